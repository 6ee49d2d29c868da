import PyProof.Rows.All
import Wide.All
import OpenK.AllK
import Wide.FinOn
import HandS.ForMost
import HandS.Defaults
import HandS.Exc
import HandS.AnyAll
import HandS.Gcd
import HandS.Wide
import HandS.Zip
import HandS.Style
import HandS.TupAny
import HandS.TupMul
import HandS.TupLe
import HandS.Deep
import HandS.IsInst
import HandS.NoneIn
import HandS.HeadWalk
import KE.SortData
import KE.KDictKeyed
import KE.KDictWalk
import KE.KDictLaw
import KE.KeyNested
import HandS.DictTup
import HandS.GenOver
import KE.DataCmp
import PyProof.ReprRoads
import PyProof.ReprText
import KE.GoesZip
import KE.GoesMore
import HandS.EndTab
import HandS.HeadHook4
import HandS.HeadEnd
import PyProof.ReprLen
import HandS.Head3
import PySem.Challenge.RW_groupsayings_k78_whole_vectors
section
set_option Elab.async false
set_option linter.all false
set_option maxRecDepth 100000
namespace GS
open PySem PySem.Spec PyProof.Rows L2

abbrev D := PyData

/-! ## data that stands -/
/-- no table of a code object -/
def NT (o : HO) : Prop := ∀ ps, o ≠ .tbl ps
/-- the objects that never change again -/
def Sub (F H : Hp) : Prop := ∀ a o, F a = some o → H a = some o ∧ NT o
def Le (F G : Hp) : Prop := ∀ a o, F a = some o → G a = some o
theorem Le.refl (F : Hp) : Le F F := fun _ _ h => h
theorem Le.trans {F G H : Hp} (a : Le F G) (b : Le G H) : Le F H := fun x o h => b x o (a x o h)
theorem Sub.le {F H : Hp} (s : Sub F H) : Le F H := fun a o h => (s a o h).1

section
variable {K : PySem.W.Frag} {F G : Hp}
theorem SqL.mono (l : Le F G) {a : Addr} {xs : List V} (h : SqL K F a xs) : SqL K G a xs := by
  rcases h with (h | ⟨o, h⟩) | h
  · exact .inl (.inl (l _ _ h))
  · exact .inl (.inr ⟨o, l _ _ h⟩)
  · exact .inr h
theorem SqT.mono (l : Le F G) {a : Addr} {xs : List V} (h : SqT K F a xs) : SqT K G a xs := by
  rcases h with (h | ⟨o, h⟩) | h
  · exact .inl (.inl (l _ _ h))
  · exact .inl (.inr ⟨o, l _ _ h⟩)
  · exact .inr h
theorem Rd.mono (l : Le F G) {a : Addr} {u : HO} (h : Rd F a u) : Rd G a u := by
  rcases h with h | ⟨o, h⟩
  · exact .inl (l _ _ h)
  · exact .inr ⟨o, l _ _ h⟩
end
/-- a list that is read: tracked, frozen, or the module's own, exactly -/
def RdL (K : PySem.W.Frag) (F : Hp) (a : Addr) (xs : List V) : Prop := Rd F a (.lst xs) ∨ ∃ (its : List Value) (n : Nat), K.lookup a = some { cls := .type "list", data := .seq its.toArray n } ∧ xs.length ≤ sizeLine ∧ Vals xs its
theorem RdL.of {K : PySem.W.Frag} {F : Hp} {a : Addr} {xs : List V} (h : F a = some (.lst xs)) : RdL K F a xs := .inl (Rd.of h)
theorem RdL.mono {K : PySem.W.Frag} {F G : Hp} (l : Le F G) {a : Addr} {xs : List V} (h : RdL K F a xs) : RdL K G a xs := h.imp (Rd.mono l) id
theorem RdL.sql {K : PySem.W.Frag} {F : Hp} {a : Addr} {xs : List V} (h : RdL K F a xs) : SqL K F a xs := by
  rcases h with h | ⟨its, n, h1, h2, h3⟩
  · exact .inl h
  · exact .inr ⟨_, its.toArray, n, h1, rfl, rfl, rfl, by rw [List.size_toArray, ← h3.length]; exact h2, by simpa using h3⟩
/-- what never changes: the module's objects, the world -/
structure KW where
  k : PySem.W.Frag
  w : World
instance : Coe KW PySem.W.Frag := ⟨KW.k⟩
abbrev kwOf (X : Cx) : KW := ⟨X.K, X.w⟩
section
variable {K : KW} {F G : Hp}
mutual
/-- the value v stands for the data d -/
inductive Rp (K : KW) (F : Hp) : V → D → Prop
  | non : Rp K F .non .none
  | bl (b : Bool) : Rp K F (.bl b) (.bool b)
  | int (i : Int) : Rp K F (.int i) (.int i)
  | str (x : Str) : Rp K F (.str x) (.str x)
  | lst {a : Addr} {xs : List V} {ds : List D} : RdL K.k F a xs → RpAll K F xs ds → Rp K F (.ref a) (.list ds)
  | tup {a : Addr} {xs : List V} {ds : List D} : SqT K.k F a xs → RpAll K F xs ds → Rp K F (.ref a) (.tuple ds)
inductive RpAll (K : KW) (F : Hp) : List V → List D → Prop
  | nil : RpAll K F [] []
  | cons {v : V} {vs : List V} {d : D} {ds : List D} : Rp K F v d → RpAll K F vs ds → RpAll K F (v :: vs) (d :: ds)
end
mutual
theorem Rp.dp : ∀ {v : V} {d : D}, Rp K F v d → Dp K.k F v d
  | _, _, .non => .non
  | _, _, .bl b => .bl b
  | _, _, .int i => .int i
  | _, _, .str x => .str x
  | _, _, .lst h t => .lst (RdL.sql h) (RpAll.dp t)
  | _, _, .tup h t => .tup h (RpAll.dp t)
theorem RpAll.dp : ∀ {vs : List V} {ds : List D}, RpAll K F vs ds → DpAll K.k F vs ds
  | _, _, .nil => .nil
  | _, _, .cons h t => .cons (Rp.dp h) (RpAll.dp t)
end
mutual
theorem Rp.mono (l : Le F G) : ∀ {v : V} {d : D}, Rp K F v d → Rp K G v d
  | _, _, .non => .non
  | _, _, .bl b => .bl b
  | _, _, .int i => .int i
  | _, _, .str x => .str x
  | _, _, .lst h t => .lst (RdL.mono l h) (RpAll.mono l t)
  | _, _, .tup h t => .tup (SqT.mono l h) (RpAll.mono l t)
theorem RpAll.mono (l : Le F G) : ∀ {vs : List V} {ds : List D}, RpAll K F vs ds → RpAll K G vs ds
  | _, _, .nil => .nil
  | _, _, .cons h t => .cons (Rp.mono l h) (RpAll.mono l t)
end
theorem RpAll.length : ∀ {vs : List V} {ds : List D}, RpAll K F vs ds → vs.length = ds.length
  | _, _, .nil => rfl
  | _, _, .cons _ t => by simp [RpAll.length t]
theorem RpAll.append : ∀ {vs ws : List V} {ds es : List D}, RpAll K F vs ds → RpAll K F ws es → RpAll K F (vs ++ ws) (ds ++ es)
  | _, _, _, _, .nil, s => s
  | _, _, _, _, .cons h t, s => .cons h (RpAll.append t s)
theorem RpAll.get : ∀ {vs : List V} {ds : List D} {i : Nat} {d : D}, RpAll K F vs ds → ds[i]? = some d → ∃ v, vs[i]? = some v ∧ Rp K F v d
  | _, _, _, _, .nil, e => by simp at e
  | _, _, 0, _, .cons h _, e => by simp at e; subst e; exact ⟨_, rfl, h⟩
  | _, _, i + 1, d, .cons _ t, e => by
    obtain ⟨v, e1, h1⟩ := RpAll.get (i := i) (d := d) t (by simpa using e)
    exact ⟨v, by simpa using e1, h1⟩
theorem RpAll.getV : ∀ {vs : List V} {ds : List D} {i : Nat} {v : V}, RpAll K F vs ds → vs[i]? = some v → ∃ d, ds[i]? = some d ∧ Rp K F v d
  | _, _, _, _, .nil, e => by simp at e
  | _, _, 0, _, .cons h _, e => by simp at e; subst e; exact ⟨_, rfl, h⟩
  | _, _, i + 1, v, .cons _ t, e => by
    obtain ⟨d, e1, h1⟩ := RpAll.getV (i := i) (v := v) t (by simpa using e)
    exact ⟨d, by simpa using e1, h1⟩
theorem RpAll.set {x : V} {d : D} (h : Rp K F x d) : ∀ {vs : List V} {ds : List D} (i : Nat), RpAll K F vs ds → RpAll K F (vs.set i x) (ds.set i d)
  | _, _, _, .nil => .nil
  | _, _, 0, .cons _ t => .cons h t
  | _, _, i + 1, .cons q t => .cons q (RpAll.set h i t)
theorem RpAll.take : ∀ {vs : List V} {ds : List D} (n : Nat), RpAll K F vs ds → RpAll K F (vs.take n) (ds.take n)
  | _, _, 0, _ => .nil
  | _, _, _ + 1, .nil => .nil
  | _, _, n + 1, .cons r t => .cons r (RpAll.take n t)
theorem RpAll.drop : ∀ {vs : List V} {ds : List D} (n : Nat), RpAll K F vs ds → RpAll K F (vs.drop n) (ds.drop n)
  | _, _, 0, r => r
  | _, _, _ + 1, .nil => .nil
  | _, _, n + 1, .cons _ t => RpAll.drop n t
theorem RpAll.ints : ∀ {vs : List V} {ns : List Int}, RpAll K F vs (ns.map PyData.int) → vs = ns.map V.int
  | _, [], .nil => rfl
  | _, n :: ns, h => by
    cases h with
    | cons h1 h2 => cases h1; rw [RpAll.ints h2]; rfl
theorem RpAll.of_ints : ∀ ns : List Int, RpAll K F (ns.map V.int) (ns.map PyData.int)
  | [] => .nil
  | n :: ns => .cons (.int n) (RpAll.of_ints ns)
theorem Rp.fun_ {v : V} {d e : D} : Rp K F v d → Rp K F v e → (d = e ∨ ∃ a, v = .ref a)
  | .non, .non => .inl rfl
  | .bl _, .bl _ => .inl rfl
  | .int _, .int _ => .inl rfl
  | .str _, .str _ => .inl rfl
  | .lst _ _, _ => .inr ⟨_, rfl⟩
  | .tup _ _, _ => .inr ⟨_, rfl⟩
end

end GS
end

section
set_option Elab.async false
set_option linter.all false
set_option maxRecDepth 100000
namespace GS
open PySem PySem.Spec PyProof.Rows L2

/-! ## what a def works with: data, and lists and dicts of its own -/
inductive Ct where
  | lst (ds : List D)
  | dct (kvs : List (D × D))
inductive Slot where
  | non
  | val (d : D)
  | own (c : Ct)
  | ref (c : Ct)
abbrev DEnv := List Slot
inductive Opd where
  | val (d : D)
  | own (i : Nat)
  | new (c : Ct)
inductive Arg where
  | val (d : D)
  | ref (c : Ct)
inductive Res where
  | val (d : D)
  | new (c : Ct)
def Ct.toD : Ct → D
  | .lst ds => .list ds
  | .dct kvs => .dict kvs
def DEnv.at (Γ : DEnv) (i : Nat) : Slot := Γ.getD i .non
def Opd.see (o : Opd) (Γ : DEnv) : Option D := match o with
  | .val d => some d
  | .new c => some c.toD
  | .own i => match Γ.at i with
    | .own c => some c.toD
    | .ref c => some c.toD
    | .val d => some d
    | .non => none
/-- it never changes from here on -/
def Opd.frz (o : Opd) (Γ : DEnv) (W : D → DEnv → Prop) : Prop := match o with
  | .val d => W d Γ
  | .new (.lst ds) => W (.list ds) Γ
  | .new (.dct _) => False
  | .own i => match Γ.at i with
    | .own (.lst ds) => W (.list ds) (Γ.set i (.val (.list ds)))
    | .val d => W d Γ
    | _ => False
def frzAll : List Opd → DEnv → (List D → DEnv → Prop) → Prop
  | [], Γ, W => W [] Γ
  | o :: os, Γ, W => o.frz Γ fun d Γ1 => frzAll os Γ1 fun ds Γ2 => W (d :: ds) Γ2
abbrev SpecFn := List Arg → (Res → List Ct → Prop) → Prop

/-! ## the language -/
inductive BO where
  | add | sub | mul | fdiv | mod | pow
  deriving DecidableEq
inductive CO where
  | eq | ne | lt | le | gt | ge | inn | notin
  deriving DecidableEq
inductive Ty where
  | int | bool | str | tuple | list
  deriving DecidableEq
inductive Blt where
  | len | abs | int | min2 | max2 | minL | maxL | sum | gcd | tuple | list | repr | anyL | allL | sortedL
  deriving DecidableEq
mutual
inductive DT where
  | name (i : Nat)
  | tup (ts : DTs)
inductive DTs where
  | nil
  | cons (t : DT) (ts : DTs)
end
mutual
inductive DE where
  | var (i : Nat)
  | glob (x : Str) (d : D)
  | cst (d : D)
  | bin (o : BO) (a b : DE)
  | neg (a : DE)
  | nott (a : DE)
  | and (a b : DE)
  | or (a b : DE)
  | cmp (o : CO) (a b : DE)
  | isN (a : DE)
  | notN (a : DE)
  | chain (o1 o2 : CO) (a b c : DE)
  | ife (t a b : DE)
  | tup (es : DEs)
  | lst (es : DEs)
  | dnew
  | idx (a b : DE)
  | slc (a : DE) (lo hi : DO)
  | call (f : Str) (l : Nat) (w : SpecFn) (rf : Bool) (es : DEs)
  | callk (f : Str) (l : Nat) (w : SpecFn) (perm : List Nat) (es ks : DEs)
  | blt (b : Blt) (es : DEs)
  | isi (t : Ty) (a : DE)
  | gen (all : Bool) (tg : DT) (it : DI) (el : DE)
  | comp (tg : DT) (it : DI) (ifs : DEs) (el : DE)
  | dget (d k v : DE)
  | sortK (d : DE)
  | sortI (d : DE)
inductive DEs where
  | nil
  | cons (e : DE) (es : DEs)
inductive DO where
  | none
  | some (e : DE)
inductive DI where
  | seq (e : DE)
  | range (e : DE)
  | range2 (a b : DE)
  | zip (a b : DE)
end
inductive DS where
  | set (t : DT) (e : DE)
  | par (js : List Nat) (es : DEs)
  | put (o i v : DE)
  | aug (i : Nat) (op : BO) (e : DE)
  | app (o e : DE)
  | ext (o e : DE)
  | drop (e : DE)
  | ret (e : DE)
  | retN
  | iff (t : DE) (a b : List DS)
  | for_ (t : DT) (it : DI) (b : List DS)
  | whl (t : DE) (b : List DS)
  | brk
  | cnt
  | pass
  | never

/-! ## operations on data -/
/-- products and quotients that the model tells of -/
def MulOk (i j : Int) : Prop := (-(2 ^ 64) < i ∧ i < 2 ^ 64) ∨ (-(2 ^ 64) < j ∧ j < 2 ^ 64) ∨ CMulW i j
def DivOk (i j : Int) : Prop := (j ≠ 0 ∧ j.natAbs < 1073741824) ∨ CDivW i j
def binW (op : BO) (x y : D) (W : Opd → Prop) : Prop := match op, x, y with
  | .add, .int i, .int j => W (.val (.int (i + j)))
  | .add, .list xs, .list ys => xs.length + ys.length ≤ sizeLine ∧ W (.new (.lst (xs ++ ys)))
  | .add, .tuple xs, .tuple ys => xs.length + ys.length ≤ sizeLine ∧ W (.val (.tuple (xs ++ ys)))
  | .sub, .int i, .int j => W (.val (.int (i - j)))
  | .mul, .int i, .int j => MulOk i j ∧ W (.val (.int (i * j)))
  | .mul, .list xs, .int k => (0 ≤ k ∧ k < 2 ^ 62 ∧ xs.length * k.toNat ≤ sizeLine) ∧ W (.new (.lst (List.replicate k.toNat xs).flatten))
  | .mul, .tuple xs, .int k => (0 ≤ k ∧ k ≤ 1000 ∧ xs.length ≤ 1000) ∧ W (.val (.tuple (List.replicate k.toNat xs).flatten))
  | .fdiv, .int i, .int j => DivOk i j ∧ W (.val (.int (i.fdiv j)))
  | .mod, .int i, .int j => j ≠ 0 ∧ W (.val (.int (i.fmod j)))
  | .pow, .int i, .int j => CPow i j ∧ W (.val (.int (i ^ j.toNat)))
  | _, _, _ => False
/-- data that reads alike place by place, for the order -/
def cmpW (op : CO) (x y : D) (W : Bool → Prop) : Prop := match op, x, y with
  | .eq, x, y => (SeqAt.shaped x = true ∧ SeqAt.shaped y = true) ∧ W (PyData.eqv x y)
  | .ne, x, y => (SeqAt.shaped x = true ∧ SeqAt.shaped y = true) ∧ W (!PyData.eqv x y)
  | .lt, .int i, .int j => W (decide (i < j))
  | .le, .int i, .int j => W (decide (i ≤ j))
  | .gt, .int i, .int j => W (decide (j < i))
  | .ge, .int i, .int j => W (decide (j ≤ i))
  | .inn, x, .tuple ys => (SeqAt.shaped x = true ∧ SeqAt.shaped (.tuple ys) = true) ∧ W (ys.any fun z => PyData.eqv z x)
  | .inn, x, .list ys => (SeqAt.shaped x = true ∧ SeqAt.shaped (.list ys) = true) ∧ W (ys.any fun z => PyData.eqv z x)
  | .notin, x, .tuple ys => (SeqAt.shaped x = true ∧ SeqAt.shaped (.tuple ys) = true) ∧ W (!ys.any fun z => PyData.eqv z x)
  | .notin, x, .list ys => (SeqAt.shaped x = true ∧ SeqAt.shaped (.list ys) = true) ∧ W (!ys.any fun z => PyData.eqv z x)
  | _, _, _ => False
def idxW (x i : D) (W : D → Prop) : Prop := match x, i with
  | .list xs, .int k => ∃ d, atI xs k = some d ∧ W d
  | .tuple xs, .int k => ∃ d, atI xs k = some d ∧ W d
  | _, _ => False
def cutD (xs : List D) (lo hi : Option Int) : List D := (xs.drop (HT.sIx xs.length 0 lo)).take (HT.sIx xs.length xs.length hi - HT.sIx xs.length 0 lo)
def slcW (x : D) (lo hi : Option Int) (W : Opd → Prop) : Prop := match x with
  | .list xs => W (.new (.lst (cutD xs lo hi)))
  | .tuple xs => W (.val (.tuple (cutD xs lo hi)))
  | _ => False
def tyB : Ty → D → Option Bool
  | .int, .int _ => some true
  | .int, .bool _ => some true
  | .int, .none => some false
  | .int, .str _ => some false
  | .int, .tuple _ => some false
  | .int, .list _ => some false
  | .bool, .bool _ => some true
  | .bool, .int _ => some false
  | .bool, .none => some false
  | .bool, .str _ => some false
  | .bool, .tuple _ => some false
  | .bool, .list _ => some false
  | .str, .str _ => some true
  | .str, .bool _ => some false
  | .str, .int _ => some false
  | .str, .none => some false
  | .str, .tuple _ => some false
  | .str, .list _ => some false
  | .tuple, .tuple _ => some true
  | .tuple, .bool _ => some false
  | .tuple, .int _ => some false
  | .tuple, .none => some false
  | .tuple, .str _ => some false
  | .tuple, .list _ => some false
  | .list, .list _ => some true
  | .list, .bool _ => some false
  | .list, .int _ => some false
  | .list, .none => some false
  | .list, .str _ => some false
  | .list, .tuple _ => some false
  | _, _ => none
end GS
end

section
set_option Elab.async false
set_option linter.all false
set_option maxRecDepth 100000
set_option maxHeartbeats 2000000
namespace GS
open PySem PySem.Spec PyProof.Rows L2

/-! ## all(.. for .. in ..), any(.. for .. in ..): the element may call defs -/
/-- only the generators' table, the tokens have changed -/
structure Rest (s s' : Shared) : Prop where
  os : s'.os = s.os
  heap : s'.heap = s.heap
  bare : AllBare s'.gens
section
variable {X : Cx} {pins : List (Addr × Obj)} {σ : L2.St} {H : Hp} {s s' : Shared}
theorem Inv.rest (I : Inv X pins σ H s) (r : Rest s s') : Inv X pins σ H s' := by
  obtain ⟨h', g', d', t', o'⟩ := s'
  obtain ⟨e1, e2, e3⟩ := r
  have e1 : o' = s.os := e1
  have e2 : h' = s.heap := e2
  subst e1; subst e2
  exact I.step (g' := g') (t' := t') (d' := d') (ch := []) (fun _ z => nomatch z) (fun _ _ _ _ _ e _ => e) (fun _ o _ _ _ e _ => ⟨o.slots, e⟩) (fun _ _ _ _ n => n) (fun _ o _ e => ⟨o, e⟩)
    (fun _ _ e => e) (fun _ _ _ e => e) (fun _ ps e => ⟨#[], by rw [e]; simp⟩) (fun _ z => z) I.hok e3
end
theorem bare_set {s : Shared} {g : Nat} {x : GenState} (h : AllBare s.gens) (hx : x.bare = true) : AllBare (s.setGen g x).gens := fun y hy => by
  obtain ⟨i, hi, e⟩ := Array.mem_iff_getElem.mp hy
  by_cases q : i = g
  · subst q
    simp [Shared.setGen] at e
    rw [← e]; exact hx
  · have hs : i < s.gens.size := by simpa [Shared.setGen] using hi
    have e2 : (s.setGen g x).gens[i] = s.gens[i] := by
      show (s.gens.setIfInBounds g x)[i]'(by simpa [Shared.setGen] using hi) = s.gens[i]
      rw [Array.getElem_setIfInBounds (hj := by simpa [Shared.setGen] using hi), if_neg (Ne.symm q)]
    rw [← e, e2]
    exact h _ (Array.getElem_mem hs)

/-- the context of a generator expression's frame -/
abbrev gcx (X : Cx) (A : Around) (s : Shared) (H : Hp) (cenv : Env) (fp : List Addr) (pn : List (Addr × Obj)) : Cx :=
  { X with A := A.deeper cenv, s_0 := s, H_0 := H, env := cenv, outer := X.stack, stack := cenv :: X.stack, ex := fp, fn := fun _ => false, calm := true, pn := pn, xe := fun _ _ => False }

section
variable {X : Cx} {pins : List (Addr × Obj)} {σ : L2.St} {H : Hp} {s : Shared}
/-- the frame is made: h', the state in which it begins -/
theorem gen_start {A : Around} {scope : Scope} {own : List (Str × Nat)} {fp : List Addr} {code : Value} {h' : Heap} {tk : Nat} {m : Str → Option Value} {pn : List (Addr × Obj)} (I : Inv X pins σ H s) (ok : BlkOk X.N X.env.scope scope own) (hN : X.N.Nodup)
    (hcell : ∀ y ∈ scope.names, y.2 ≠ .cell) (hd : A.handled = none) (hf : A.frames = some X.stack) (hfp : ∀ b ∈ fp, FpOk X pins H b ∧ b < s.heap.objs.size)
    (hk : ∀ b o, s.heap.get? b = some o → h'.get? b = some o) (hn : h'.Ns s.heap.objs.size m) {gg : Array GenState} (hg : AllBare gg)
    (hpn : ∀ p ∈ pn, h'.get? p.1 = some p.2 ∧ s.heap.objs.size < p.1 ∧ ∀ v, p.2.data ≠ .cell v) :
    Inv (gcx X A s H (genEnv scope (cloFrom X.env.cells scope.names []) s.heap.objs.size code builtinsNs X.env) fp pn) [] (wipe σ (own.map (·.2))) H { s with heap := h', toks := tk, gens := gg } := by
  have hfree : ∀ y ∈ scope.names, y.2 = .free → ∃ c, X.env.cells.lookup y.1 = some c := fun y hy e => by
    rcases ok.free y hy e with k | k
    · exact I.ok.has _ (.inl k)
    · exact I.ok.has _ (.inr k)
  generalize hcenv : genEnv scope (cloFrom X.env.cells scope.names []) s.heap.objs.size code builtinsNs X.env = cenv
  have hL : cenv.locals = s.heap.objs.size := by rw [← hcenv]; rfl
  have hcl : cenv.cells = cloFrom X.env.cells scope.names [] := by rw [← hcenv]; rfl
  have hsc : cenv.scope = scope := by rw [← hcenv]; rfl
  have cm : ∀ {y c}, cenv.cells.lookup y = some c → X.env.cells.lookup y = some c ∧ c < s.heap.objs.size := fun {y c} e => by
    rw [hcl] at e
    rcases cloFrom_mem (PySem.mem_of_lookup e) with hm | ⟨h1, rfl⟩
    · cases hm
    · obtain ⟨c, hc⟩ := hfree _ h1 rfl
      rw [hc]
      obtain ⟨w, z⟩ := I.cell _ _ hc
      exact ⟨rfl, z.lt⟩
  have look : ∀ {y}, scope.names.lookup y = some .free → ∃ c, cenv.cells.lookup y = some c ∧ X.env.cells.lookup y = some c := fun {y} hl => by
    have hy : (y, NameKind.free) ∈ scope.names := PySem.mem_of_lookup hl
    obtain ⟨c', e'⟩ := mem_lookup (cloFrom_has (cells := X.env.cells) (acc := []) hy)
    rw [← hcl] at e'
    exact ⟨c', e', (cm e').1⟩
  have okB : (gcx X A s H cenv fp pn).Ok := by
    refine ⟨I.ok.mod, by show cenv.scope.kind = _; rw [hsc]; exact ok.kind, by show cenv.globals = _; rw [← hcenv]; exact I.ok.glob, by show cenv.builtins = _; rw [← hcenv]; rfl, by show s.heap.objs.size ≤ cenv.locals; rw [hL]; exact Nat.le_refl _,
      fun y z c e1 e2 => I.ok.inj y z c (cm e1).1 (cm e2).1, fun y hy => ?_, fun y c z e => (by cases z), fun _ => hd, ?_, .inr ⟨rfl, by show cenv.frame = some cenv.locals; rw [← hcenv]; rfl⟩, fun b hb => ⟨?_, fun y c e z => (hfp b hb).1.2.2.2.2.1 y c (cm e).1 z⟩, I.bs, Nat.le_trans I.ok.bsz I.sz, fun b o e hb => ?_, fun b hb z => ?_, I.stack, I.stkFree⟩
    · have key : ∀ k, cenv.kindOf y = some k → (k = .cell ∨ k = .free) → ∃ c, cenv.cells.lookup y = some c := fun k hk hk' => by
        unfold Env.kindOf at hk
        rw [hsc] at hk
        rcases hk' with rfl | rfl
        · exact absurd rfl (hcell _ (PySem.mem_of_lookup hk))
        · obtain ⟨c, h1, _⟩ := look hk
          exact ⟨c, h1⟩
      rcases hy with hy | hy
      · exact key _ hy (.inl rfl)
      · exact key _ hy (.inr rfl)
    · show (A.deeper cenv).frames = some (cenv :: X.stack)
      exact Around.frames_deeper hf
    · show b ≠ cenv.locals
      rw [hL]; exact Nat.ne_of_lt (hfp b hb).2
    · rcases (hfp b hb).1.2.2.2.1 with z | z
      · exact I.ok.noex b o e z
      · exact absurd (Nat.lt_of_lt_of_le (Heap.lt_size e) (Nat.le_trans I.ok.bsz z)) (Nat.lt_irrefl _)
    · rcases List.mem_cons.mp (I.stkSub b z) with z | z
      · exact (hfp b hb).1.2.1 z
      · exact (hfp b hb).1.2.2.1 z
  refine ⟨okB, rfl, hg, Un.kept hk, ⟨m, ?_, fun i y av e1 e2 e3 => ?_⟩, fun y c e => ?_, ?_, fun y c e => I.freeC y c (cm e).1, fun p hp => ?_, I.hok.kept hk, by rw [wipe_length]; exact I.len⟩
  · show Heap.Ns _ cenv.locals _
    rw [hL]
    exact hn
  · obtain ⟨e2, hne⟩ := wipe_some e2
    have e3 : Vis cenv.scope y := e3
    rw [hsc] at e3
    have no : ∀ k, scope.names.lookup y = some k → ¬ (k = .local ∨ k = .cell) := fun k hk hh => by
      rcases ok.own _ (PySem.mem_of_lookup hk) hh with e' | e'
      · obtain ⟨p, hp, hpy⟩ := List.mem_map.mp e'
        have e3 := ok.ix p hp
        have : p.1 = y := hpy
        rw [this] at e3
        exact hne (List.mem_map.mpr ⟨p, hp, nodup_ix hN e3 e1⟩)
      · exact e' (List.mem_of_getElem? e1)
    have hfr : scope.names.lookup y = some .free := by
      rcases e3 with e3 | e3 | e3
      · exact absurd (.inl rfl) (no _ e3)
      · exact absurd (.inr rfl) (no _ e3)
      · exact e3
    obtain ⟨m', hn', hl⟩ := I.loc
    have hvis : Vis X.env.scope y := (ok.free _ (PySem.mem_of_lookup hfr) rfl).elim (fun k => .inr (.inl k)) (fun k => .inr (.inr k))
    obtain ⟨w, r, q⟩ := hl i y av e1 e2 hvis
    refine ⟨w, r, .inr ⟨.inr (by show cenv.scope.names.lookup y = _; rw [hsc]; exact hfr), ?_⟩⟩
    obtain ⟨c, h1, h2⟩ := look hfr
    rcases q with ⟨k, _⟩ | ⟨_, c', e', z⟩
    · have k : X.env.scope.names.lookup y = some .local := k
      rcases ok.free _ (PySem.mem_of_lookup hfr) rfl with k' | k' <;> rw [show X.env.scope.names.lookup y = _ from k'] at k <;> cases k
    · rw [h2] at e'; cases e'
      exact ⟨c, h1, z.keeps hk⟩
  · obtain ⟨w, z⟩ := I.cell y c (cm e).1
    exact ⟨w, z.keeps hk⟩
  · show H cenv.locals = none
    rw [hL]; exact I.hok.fresh (Nat.le_refl _)
  · have hp : p ∈ pn ++ [] := hp
    rw [List.append_nil] at hp
    obtain ⟨q1, q2, q3⟩ := hpn p hp
    refine ⟨q1, I.hok.fresh (Nat.le_of_lt q2), ?_, fun z => ?_, q3⟩
    · show p.1 ≠ cenv.locals
      rw [hL]; exact Nat.ne_of_gt q2
    · obtain ⟨_, o, ho, _⟩ := I.stack.mem z
      exact absurd (Nat.lt_trans q2 (Heap.lt_size ho)) (Nat.lt_irrefl _)
end

section
variable {Y : Cx} {σ0 : L2.St}
/-- what is so when an answer b has come: where b = ia the generator sleeps, else the walk ends -/
def gP (Y : Cx) (ia : Bool) (Qe : Hp → Prop) : Protocol := fun _ _ v s kap => ∃ b, v = .bool b ∧ (∃ σ' H', Inv Y [] σ' H' s ∧ (b = ia ∨ Qe H')) ∧ (b = ia → ∀ s'', Rest s s'' → kap (.send .none) s'')
def gR (Y : Cx) (Qd : Hp → Prop) : GenEnd := fun _ _ r s => r = .ok .next ∧ ∃ σ' H', Inv Y [] σ' H' s ∧ Qd H'
theorem gen_loop {A0 : Around} {ia : Bool} {Qe Qd : Hp → Prop} {elt tg iter : Expr} {scope : Scope} {pos : Pos} {fp : List Addr} {it : Addr} {tn : Nat → Heap → Prop} {J : It} {g : TG} {te : TE} {vs : List Nat} {σ : L2.St} {W : Nat → Nat → Hp → Prop}
    (hA : Y.A = A0.deeper Y.env) (hc : Y.calm = true) (hx : Y.xe = fun _ _ => False) (hco : Y.env.scope.isCoroutine = false) (hex : Y.ex = fp) (hpn : ∀ p ∈ Y.pn, p.1 ∉ fp) (T : Turn Y.prog Y.w Y.K tg J fp it tn) (pg : PG Y tg g) (pe : PE Y elt te)
    (turn : ∀ i m H, W i m H → (J.stop i H ∧ Qd H) ∨ (J.go i H ∧ ∃ Nx : Hp → Prop, (∀ H', Nx H' → ∃ m', m' < m ∧ W (i + 1) m' H') ∧ ∀ x H', J.yld i H x H' → g x (wipe σ vs) H' fun σ2 H2 => wipe σ2 vs = wipe σ vs ∧
      te σ2 H2 fun y H3 => ∃ b, y = .bl b ∧ if b = ia then Nx H3 else Qe H3)) :
    ∀ (n : Nat) (s₀ s : Shared) (i m : Nat) (H : Hp), m < n → W i m H → Inv Y [] (wipe σ vs) H s → tn i s.heap → (∀ b ∈ fp, H b = none) →
      Seg (model Y.prog Y.w) A0 (gR Y Qd) (gP Y ia Qe) n s₀ (.compLoop (.GeneratorExp elt [⟨tg, iter, [], 0⟩] scope pos) 0 (.ref it) .none Y.env)
        ((model Y.prog Y.w).den (.compLoop (.GeneratorExp elt [⟨tg, iter, [], 0⟩] scope pos) 0 (.ref it) .none Y.env)) [] s := by
  have hov : A0.over (.compLoop (.GeneratorExp elt [⟨tg, iter, [], 0⟩] scope pos) 0 (.ref it) .none Y.env) [] = Y.A := by rw [hA]; rfl
  have stat : ∀ {σ' : L2.St} {H' : Hp} {s' : Shared}, Inv Y [] σ' H' s' → (∀ b ∈ fp, H' b = none) → ∀ b ∈ fp, FpOk Y [] H' b := fun {σ' H' s'} I' hn b hb => by
    have hb' : b ∈ Y.ex := by rw [hex]; exact hb
    exact ⟨hn b hb, (I'.ok.exf b hb').1, I'.ok.exfs b hb', .inl hb', fun x c e => (I'.ok.exf b hb').2 x c e, fun p hp z => hpn p (by simpa using hp) (by rw [z]; exact hb)⟩
  intro n
  induction n with
  | zero => intro _ _ _ _ _ h; exact absurd h (Nat.not_lt_zero _)
  | succ n ih =>
    intro s₀ s i m H hm w I st fr
    show Seg _ A0 _ _ _ s₀ _ ((compTurn (.GeneratorExp elt [⟨tg, iter, [], 0⟩] scope pos) 0 (.ref it) .none Y.env).onRaise (leaving Y.env)) [] s
    rw [compTurn_gen, Sem.onRaise_eq_wrap]
    refine seg_bind_wrap (wpAny_standAt ?_)
    rcases turn i m H w with ⟨stop, qd⟩ | ⟨go, Nx, hNx, step⟩
    · refine seg_bind_wrap ?_
      rw [hov]
      refine thnF (T.done Y rfl rfl rfl hc i [] s _ H (fun _ _ => False) I (stat I fr) st stop) fun r s4 ⟨hr, I4⟩ => ?_
      subst hr
      exact seg_end (.ok .next) ⟨rfl, _, H, I4, qd⟩
    · refine seg_bind_wrap ?_
      rw [hov]
      refine thnF (T.item Y rfl rfl rfl hc i [] s _ H (fun _ _ => False) I (stat I fr) st go) fun r s4 ⟨u, hr, h4⟩ => ?_
      subst hr
      refine seg_bind_wrap ?_
      rw [hov]
      refine thnF h4 fun _ s5 ⟨x, H5, I5, r5, y5, st5, fr5⟩ => ?_
      have I5' := I5.pinned (stat I5 fr5) (T.obj _ _ st5)
      refine seg_bind_wrap ?_
      rw [hov]
      have hpg := pg.run _ s5 _ H5 x u _ I5' r5 (step x H5 y5)
      rw [hx] at hpg
      refine thnF hpg fun _ s6 ⟨σ6, H6, I6, hw6, q6⟩ => ?_
      refine seg_bind_wrap (wpAny_tests_nil ?_)
      simp only [if_true]
      have hy : ∀ v, yieldOut Y.env v = yieldValue v := fun v => by simp only [yieldOut, hco, Bool.false_eq_true, if_false]
      simp only [hy]
      rw [Sem.bind_eq_wrap', Sem.bind_eq_wrap', Sem.wrap_wrap, Sem.wrap_wrap]
      refine seg_wrap ?_
      rw [hov]
      have hpe := pe.run _ s6 σ6 H6 _ I6 q6
      rw [hx] at hpe
      refine thnF hpe fun y s7 ⟨yv, H7, I7, r7, b, hb, q7⟩ => ?_
      subst hb
      cases r7
      have pin' : ∀ bb ∈ fp, ∀ o, s5.heap.get? bb = some o → s7.heap.get? bb = some o ∧ H7 bb = none := fun bb hbb o e =>
        let z := I7.pin (bb, o) (List.mem_append_right _ (List.mem_append_right _ (mem_pinsAt hbb e)))
        ⟨z.1, z.2.1⟩
      refine seg_at (seg_yield rfl rfl rfl ⟨b, rfl, ⟨σ6, H7, I7.unpinned (pins := []), ?_⟩, fun hbi s'' hr => ?_⟩)
      · by_cases e : b = ia
        · exact .inl e
        · rw [if_neg e] at q7; exact .inr q7
      · rw [if_pos hbi] at q7
        obtain ⟨m', hm', w'⟩ := hNx H7 q7
        have hl : (wipe σ vs).length = σ6.length := by rw [← hw6, wipe_length]
        have I8 : Inv Y [] (wipe σ vs) H7 s'' := Inv.rest ((I7.unpinned (pins := [])).weak hl (fun j v e => by rw [← hw6] at e; exact (wipe_some e).1)) hr
        refine seg_again rfl (ih s'' s'' (i + 1) m' H7 (by omega) w' I8 ?_ fun bb hbb => ?_)
        · rw [hr.heap]
          exact T.keep _ _ _ st5 fun bb hbb o e => (pin' bb hbb o e).1
        · obtain ⟨o, e, _⟩ := T.obj _ _ st5 bb hbb
          exact (pin' bb hbb o e).2
end

section
variable {Y : Cx} {A : Around} {a : Addr} {g : Nat} {Qe Qd : Hp → Prop}
theorem gen_next {ia : Bool} (hh : A.handled = none) (hroom : A.depth < recursionLimit) {n : Nat} {s : Shared} {gs : GenState} {Q : Option Value → Shared → Prop} {E : Value → Shared → Prop}
    (hgs : s.gens[g]? = some gs) (hg : s.heap.IsGen a g) (hl : s.heap.NoLimit) (hgo : gs.Goes (model Y.prog Y.w) A.in1 (gR Y Qd) (gP Y ia Qe) n (.send .none) (s.setGen g .running))
    (hpin : ∀ σ' H' s', Inv Y [] σ' H' s' → s'.heap.IsGen a g)
    (hend : ∀ σ' H' s', Inv Y [] σ' H' s' → Qd H' → Q none s')
    (hbrk : ∀ σ' H' s', Inv Y [] σ' H' s' → Qe H' → Q (some (.bool (!ia))) s')
    (hcont : ∀ m s' gs', n = m + 1 → s'.gens[g]? = some gs' → s'.heap.IsGen a g → s'.heap.NoLimit → gs'.Goes (model Y.prog Y.w) A.in1 (gR Y Qd) (gP Y ia Qe) m (.send .none) (s'.setGen g .running) → Q (some (.bool ia)) s') :
    wpAny (model Y.prog Y.w) A (pyNext (.ref a)) Q E s := by
  have hsz : g + 1 ≤ s.gens.size := by
    rcases Nat.lt_or_ge g s.gens.size with h' | h'
    · exact h'
    · rw [Array.getElem?_eq_none h'] at hgs; cases hgs
  refine GenW.wpAny_gsz hsz ?_
  refine wpAny_pyNext_genexpQ (P := fun _ _ s₁ => ∃ σ' H', Inv Y [] σ' H' s₁ ∧ Qd H') (Y := gP Y ia Qe) hh hl hroom hg hgs hgo (fun v s₁ gs' hb hv hlt => ?_) (fun s₁ hp h' hk _ => ?_)
  · obtain ⟨b, rfl, ⟨σ', H', I, hq⟩, hkap⟩ := hv
    have bare1 : AllBare s₁.gens := I.bare
    by_cases e : b = ia
    · subst e
      have hb2 : AllBare (s₁.setGen g gs').gens := bare_set bare1 hb
      have hr : Rest s₁ ((s₁.setGen g gs').setGen g .running) := ⟨rfl, rfl, bare_set hb2 rfl⟩
      have hk := hkap rfl _ hr
      cases n with
      | zero => exact hk.elim
      | succ m =>
        refine hcont m _ gs' rfl ?_ (hpin σ' H' s₁ I) I.nolimit hk
        have hlt' : g < s₁.gens.size := by
          have q : g + 1 ≤ s₁.gens.size := by simpa [Shared.setGen] using hlt
          omega
        simp [Shared.setGen, hlt']
    · have hqe : Qe H' := hq.resolve_left e
      have eb : b = !ia := by cases b <;> cases ia <;> simp_all
      subst eb
      exact hbrk σ' H' _ (Inv.rest I ⟨rfl, rfl, bare_set bare1 hb⟩) hqe
  · obtain ⟨σ', H', I, q⟩ := hp
    have I2 : Inv Y [] σ' H' (s₁.setGen g .finished) := Inv.rest I ⟨rfl, rfl, bare_set I.bare rfl⟩
    exact hend σ' H' _ (I2.kept (t' := (s₁.setGen g .finished).toks) hk) q
end

section
variable {Y : Cx} {A : Around} {a : Addr} {g : Nat} {Qe Qd : Hp → Prop}
/-- the end of all(..), any(..) -/
def gEnd (Y : Cx) (ia : Bool) (Qe Qd : Hp → Prop) (r : Result) (s' : Shared) : Prop := ∃ b, r = .ok (.ret (.bool b)) ∧ ∃ σ' H', Inv Y [] σ' H' s' ∧ ((b = ia ∧ Qd H') ∨ (b = !ia ∧ Qe H'))
theorem all_cons (hh : A.handled = none) (hroom : A.depth < recursionLimit) (hpin : ∀ σ' H' s', Inv Y [] σ' H' s' → s'.heap.IsGen a g) :
    ∀ (n : Nat) (s : Shared) (gs : GenState), s.gens[g]? = some gs → s.heap.IsGen a g → s.heap.NoLimit → gs.Goes (model Y.prog Y.w) A.in1.in1 (gR Y Qd) (gP Y true Qe) n (.send .none) (s.setGen g .running) →
      codeAny (model Y.prog Y.w) A (.builtin "all.loop" ⟨[.ref a], []⟩) (gEnd Y true Qe Qd) s := by
  intro n
  induction n with
  | zero =>
    intro s gs hgs hg hl hgo
    refine codeAny_builtin F.entry_all_loop ?_
    rw [Around.under_plainId F.plain_all_loop _]
    show wpAny _ A.in1 (pyNext (.ref a) >>= _) _ _ s
    refine wpAny_bind (gen_next (A := A.in1) hh hroom hgs hg hl hgo hpin (fun σ' H' s' I q => ?_) (fun σ' H' s' I q => ?_) fun m s' gs' e => nomatch e)
    · exact wpAny_bind (wpAny_rule (wpAny_pure ⟨true, rfl, σ', H', I, .inl ⟨rfl, q⟩⟩))
    · refine wpAny_bind (wpAny_holding (wpAny_truthy_bool ?_))
      refine wpAny_bind (wpAny_letGo ?_)
      simp only [Bool.not_true, Bool.false_eq_true, if_false]
      exact wpAny_bind (wpAny_rule (wpAny_pure ⟨false, rfl, σ', H', I, .inr ⟨rfl, q⟩⟩))
  | succ n ih =>
    intro s gs hgs hg hl hgo
    refine codeAny_builtin F.entry_all_loop ?_
    rw [Around.under_plainId F.plain_all_loop _]
    show wpAny _ A.in1 (pyNext (.ref a) >>= _) _ _ s
    refine wpAny_bind (gen_next (A := A.in1) hh hroom hgs hg hl hgo hpin (fun σ' H' s' I q => ?_) (fun σ' H' s' I q => ?_) fun m s' gs' e hgs' hg' hl' hgo' => ?_)
    · exact wpAny_bind (wpAny_rule (wpAny_pure ⟨true, rfl, σ', H', I, .inl ⟨rfl, q⟩⟩))
    · refine wpAny_bind (wpAny_holding (wpAny_truthy_bool ?_))
      refine wpAny_bind (wpAny_letGo ?_)
      simp only [Bool.not_true, Bool.false_eq_true, if_false]
      exact wpAny_bind (wpAny_rule (wpAny_pure ⟨false, rfl, σ', H', I, .inr ⟨rfl, q⟩⟩))
    · cases e
      refine wpAny_bind (wpAny_holding (wpAny_truthy_bool ?_))
      refine wpAny_bind (wpAny_letGo ?_)
      simp only [if_true]
      exact wpAny_pure ⟨plainId_quiet F.plain_all_loop _, ih s' gs' hgs' hg' hl' hgo'⟩
theorem any_cons (hh : A.handled = none) (hroom : A.depth < recursionLimit) (hpin : ∀ σ' H' s', Inv Y [] σ' H' s' → s'.heap.IsGen a g) :
    ∀ (n : Nat) (s : Shared) (gs : GenState), s.gens[g]? = some gs → s.heap.IsGen a g → s.heap.NoLimit → gs.Goes (model Y.prog Y.w) A.in1.in1 (gR Y Qd) (gP Y false Qe) n (.send .none) (s.setGen g .running) →
      codeAny (model Y.prog Y.w) A (.builtin "any.loop" ⟨[.ref a], []⟩) (gEnd Y false Qe Qd) s := by
  intro n
  induction n with
  | zero =>
    intro s gs hgs hg hl hgo
    refine codeAny_builtin F.entry_any_loop ?_
    rw [Around.under_plainId F.plain_any_loop _]
    show wpAny _ A.in1 (pyNext (.ref a) >>= _) _ _ s
    refine wpAny_bind (gen_next (A := A.in1) hh hroom hgs hg hl hgo hpin (fun σ' H' s' I q => ?_) (fun σ' H' s' I q => ?_) fun m s' gs' e => nomatch e)
    · exact wpAny_bind (wpAny_rule (wpAny_pure ⟨false, rfl, σ', H', I, .inl ⟨rfl, q⟩⟩))
    · refine wpAny_bind (wpAny_holding (wpAny_truthy_bool ?_))
      refine wpAny_bind (wpAny_letGo ?_)
      simp only [Bool.not_false, if_true]
      exact wpAny_bind (wpAny_rule (wpAny_pure ⟨true, rfl, σ', H', I, .inr ⟨rfl, q⟩⟩))
  | succ n ih =>
    intro s gs hgs hg hl hgo
    refine codeAny_builtin F.entry_any_loop ?_
    rw [Around.under_plainId F.plain_any_loop _]
    show wpAny _ A.in1 (pyNext (.ref a) >>= _) _ _ s
    refine wpAny_bind (gen_next (A := A.in1) hh hroom hgs hg hl hgo hpin (fun σ' H' s' I q => ?_) (fun σ' H' s' I q => ?_) fun m s' gs' e hgs' hg' hl' hgo' => ?_)
    · exact wpAny_bind (wpAny_rule (wpAny_pure ⟨false, rfl, σ', H', I, .inl ⟨rfl, q⟩⟩))
    · refine wpAny_bind (wpAny_holding (wpAny_truthy_bool ?_))
      refine wpAny_bind (wpAny_letGo ?_)
      simp only [Bool.not_false, if_true]
      exact wpAny_bind (wpAny_rule (wpAny_pure ⟨true, rfl, σ', H', I, .inr ⟨rfl, q⟩⟩))
    · cases e
      refine wpAny_bind (wpAny_holding (wpAny_truthy_bool ?_))
      refine wpAny_bind (wpAny_letGo ?_)
      simp only [Bool.false_eq_true, if_false]
      exact wpAny_pure ⟨plainId_quiet F.plain_any_loop _, ih s' gs' hgs' hg' hl' hgo'⟩
end

section
variable {X : Cx} {pins : List (Addr × Obj)} {σ : L2.St} {H : Hp} {s : Shared}
/-- all(elt for tg in iter), any(..): W by the turn and a measure; ia: the answer at which one goes on -/
def tGen (ia : Bool) (P : Addr) (wi : TI) (g : TG) (te : TE) (vs : List Nat) : TE := fun σ H Q => wi σ H fun J H1 => GxR.TabG H1 P ∧ ∀ H2, GxR.Tabbed P H1 H2 → ∃ W : Nat → Nat → Hp → Prop, (∃ m, W 0 m H2) ∧ ∀ i m H, W i m H →
  (J.stop i H ∧ Q (.bl ia) H) ∨ (J.go i H ∧ ∃ Nx : Hp → Prop, (∀ H', Nx H' → ∃ m', m' < m ∧ W (i + 1) m' H') ∧ ∀ x H', J.yld i H x H' → g x (wipe σ vs) H' fun σ2 H2 => wipe σ2 vs = wipe σ vs ∧
    te σ2 H2 fun y H3 => ∃ b, y = .bl b ∧ if b = ia then Nx H3 else Q (.bl (!ia)) H3)
/-- the generator is made, and has not begun -/
def GReady (X : Cx) (pins : List (Addr × Obj)) (σ : L2.St) (ia : Bool) (Q : VK) (v : Value) (s5 : Shared) : Prop :=
  ∃ (Y : Cx) (a : Addr) (g n : Nat) (gs : GenState) (Qe Qd : Hp → Prop), v = .ref a ∧ Y.prog = X.prog ∧ Y.w = X.w ∧ s5.gens[g]? = some gs ∧ s5.heap.IsGen a g ∧ s5.heap.NoLimit ∧
    gs.Goes (model Y.prog Y.w) X.A.in1.in1 (gR Y Qd) (gP Y ia Qe) n (.send .none) (s5.setGen g .running) ∧ (∀ σ' H' s', Inv Y [] σ' H' s' → s'.heap.IsGen a g) ∧
    (∀ σ' H' s', Inv Y [] σ' H' s' → Inv X pins σ H' s') ∧ (∀ H', Qd H' → Q (.bl ia) H') ∧ ∀ H', Qe H' → Q (.bl (!ia)) H'
structure GenSc (N : List Str) (sc scope : Scope) (own : List (Str × Nat)) : Prop where
  blk : BlkOk N sc scope own
  co : scope.isCoroutine = false
  cell : ∀ y ∈ scope.names, y.2 ≠ .cell
  dot : scope.names.lookup (".0" : Str) = some NameKind.local
theorem gen_made {ia : Bool} {k : Nat} {c P : Addr} {elt tg iter : Expr} {scope : Scope} {own : List (Str × Nat)} {gpos : Pos} {wi : TI} {gt : TG} {te : TE} {Q : VK}
    (hr : Room (k + 1) X.A) (hcalm : X.calm = true) (hN : X.N.Nodup) (TB : GxR.TabB X.base X.mg c P) (hcode : X.env.code = .ref c) (S : GenSc X.N X.env.scope scope own) (hi : PI X tg iter wi)
    (pg : ∀ (s : Shared) (H : Hp) (C : Addr) (code : Value) (fp : List Addr) (pn : List (Addr × Obj)), PG (gcx X X.A.in1.in1 s H (genEnv scope (cloFrom X.env.cells scope.names []) C code builtinsNs X.env) fp pn) tg gt)
    (pe : ∀ (s : Shared) (H : Hp) (C : Addr) (code : Value) (fp : List Addr) (pn : List (Addr × Obj)), PE (gcx X X.A.in1.in1 s H (genEnv scope (cloFrom X.env.cells scope.names []) C code builtinsNs X.env) fp pn) elt te)
    (hs : ∀ v, genFold iter X.env v = pure v) (I : Inv X pins σ H s) (h : tGen ia P wi gt te (own.map (·.2)) σ H Q) :
    wpAny (model X.prog X.w) X.A (eval (.GeneratorExp elt [⟨tg, iter, [], 0⟩] scope gpos) X.env) (GReady X pins σ ia Q) X.xe s := by
  have hfree : ∀ y ∈ scope.names, y.2 = .free → ∃ c, X.env.cells.lookup y.1 = some c := fun y hy e => by
    rcases S.blk.free y hy e with k | k
    · exact I.ok.has _ (.inl k)
    · exact I.ok.has _ (.inr k)
  refine wpAny_GeneratorExp_make S.co (closure_ok hfree) S.cell S.dot S.blk.kind (by have := hr.dp; omega) (thn (hi.run pins s σ H _ I h) fun xv s1 hx => thn hx fun itv s2 h2 => ?_) hs
  obtain ⟨it, fp, tn, J, H2, e, I2, T, st2, f2, ⟨ps, hP, ht⟩, q⟩ := h2
  subst e
  refine ⟨I2.nolimit, ?_⟩
  have hPs : s2.heap.get? P = some { cls := .none, data := .fields ps } := I2.hok P _ hP
  have cd : PySem.W.CodeHd s2.heap c P := TB.code.keeps I2.bk
  have nP : ∀ b ∈ fp, b ≠ P := fun b hb z => by
    have := (f2 b hb).1
    rw [z, hP] at this; cases this
  have cont : ∀ (code : Value) (h3 : Heap) (tk : Nat) (more : Array Value), Heap.ExtBut P s2.heap h3 → s2.heap.objs.size ≤ h3.objs.size → h3.get? P = some { cls := .none, data := .fields (ps ++ more) } → TriplesOk (ps ++ more).toList →
      wpAny (model X.prog X.w) X.A (builtinsFor X.env.globals X.env.builtins) (fun bi s4 => ∀ h', h'.Ns s4.heap.objs.size (fun y => if y = ".0" then some (.ref it) else none) → Heap.SameBut s4.heap.objs.size (s4.heap.push { cls := .type "frame", data := .dict #[] }) h' →
        GReady X pins σ ia Q (.ref h'.objs.size) { s4 with
          gens := s4.gens.push (.fresh (.compStart (.GeneratorExp elt [⟨tg, iter, [], 0⟩] scope gpos) 0 (.ref it) .none (genEnv scope (cloFrom X.env.cells scope.names []) s4.heap.objs.size code bi X.env))),
          toks := s4.toks + 1 + 1 + 1,
          heap := h'.push { cls := .type "generator", data := .fields #[.int s4.gens.size 0, .str "<genexpr>" (s4.toks + 1), .str (X.env.qual ++ "<genexpr>") (s4.toks + 1 + 1)] } }) X.xe { s2 with heap := h3, toks := tk } := by
    intro code h3 tk more hx hsz hP3 ht3
    obtain ⟨bm, ob, e1, e2, e3, e4, e5, e6, e7, e8⟩ := TB.bm
    have I3 : Inv X pins σ (upd H2 P (.tbl (ps ++ more))) { s2 with heap := h3, toks := tk } := GxR.inv_tab (g' := s2.gens) (d' := s2.drawn) I2 hP (fun b o hb e => hx b o hb e) hP3 I2.bare
    refine wpAny_builtinsFor (m := X.mg) (by rw [I2.ok.glob]; exact (I2.mod.glob.keeps I2.bk).extBut hx TB.gP) e1 e2 (hx _ _ e4 (I2.bk _ _ e5)) e6 e7 e8 ?_
    intro h' hn' hs'
    generalize hH3 : upd H2 P (.tbl (ps ++ more)) = H3 at I3
    have hT3 : GxR.Tabbed P H2 H3 := by
      rw [← hH3]
      exact ⟨⟨_, upd_same, ht3⟩, fun b hb => upd_ne hb⟩
    obtain ⟨W, ⟨m0, w0⟩, turn⟩ := q H3 hT3
    generalize hs4 : ({ s2 with heap := h3, toks := tk } : Shared) = s4 at I3 hn' hs'
    have hp4 : s4.heap = h3 := by rw [← hs4]
    have hg4 : s4.gens = s2.gens := by rw [← hs4]
    have sz' : h'.objs.size = s4.heap.objs.size + 1 := by rw [hs'.1, Heap.size_push]
    have keep' : ∀ b o, s4.heap.get? b = some o → h'.get? b = some o := fun b o e => hs'.extBut b o (Nat.ne_of_lt (Heap.lt_size e)) (Heap.get?_push_of_some _ e)
    generalize hgo : ({ cls := .type "generator", data := .fields #[.int s4.gens.size 0, .str "<genexpr>" (s4.toks + 1), .str (X.env.qual ++ "<genexpr>") (s4.toks + 1 + 1)] } : Obj) = go
    have gend : go.data = .fields #[.int s4.gens.size 0, .str "<genexpr>" (s4.toks + 1), .str (X.env.qual ++ "<genexpr>") (s4.toks + 1 + 1)] := by rw [← hgo]
    have genc : go.cls = .type "generator" := by rw [← hgo]
    have gens : go.slots = #[] := by rw [← hgo]
    have gfr : go.isFreed = false := by rw [← hgo]; rfl
    have keep5 : ∀ b o, s4.heap.get? b = some o → (h'.push go).get? b = some o := fun b o e => Heap.get?_push_of_some _ (keep' b o e)
    have f3 : ∀ b ∈ fp, FpOk X pins H3 b ∧ b < s4.heap.objs.size := fun b hb => by
      obtain ⟨o, e, _⟩ := T.obj _ _ st2 b hb
      refine ⟨⟨?_, (f2 b hb).2⟩, by rw [hp4]; exact Nat.lt_of_lt_of_le (Heap.lt_size e) hsz⟩
      rw [← hH3, upd_ne (nP b hb)]
      exact (f2 b hb).1
    have st5 : tn 0 (h'.push go) := T.keep _ _ _ st2 fun b hb o e => keep5 b o (by rw [hp4]; exact hx b o (nP b hb) e)
    have gat : (h'.push go).get? h'.objs.size = some go := by rw [← hgo]; exact Heap.get?_push_size _ rfl
    have isg : ∀ hh : Heap, hh.get? h'.objs.size = some go → hh.IsGen h'.objs.size s4.gens.size := fun hh e => ⟨go, _, _, e, genc, gend, gens⟩
    have base : ∀ gg : Array GenState, AllBare gg → Inv (gcx X X.A.in1.in1 s4 H3 (genEnv scope (cloFrom X.env.cells scope.names []) s4.heap.objs.size code builtinsNs X.env) fp [(h'.objs.size, go)]) [] (wipe σ (own.map (·.2))) H3 { s4 with heap := h'.push go, toks := s4.toks + 1 + 1 + 1, gens := gg } := fun gg hb =>
      gen_start (A := X.A.in1.in1) (pn := [(h'.objs.size, go)]) I3 S.blk hN S.cell (show X.A.in1.in1.handled = none from hr.hd) (show X.A.in1.in1.frames = _ from I3.ok.frames) f3 keep5 (hn'.push _) hb fun p hp => by
        have ep : p = (h'.objs.size, go) := List.mem_singleton.mp hp
        subst ep
        exact ⟨gat, by show s4.heap.objs.size < h'.objs.size; omega, fun v z => by have z' : go.data = .cell v := z; rw [gend] at z'; cases z'⟩
    have nfp : ∀ b ∈ fp, H3 b = none := fun b hb => (f3 b hb).1.1
    have pg3 := pg s4 H3 s4.heap.objs.size code fp [(h'.objs.size, go)]
    have pe3 := pe s4 H3 s4.heap.objs.size code fp [(h'.objs.size, go)]
    generalize hce : genEnv scope (cloFrom X.env.cells scope.names []) s4.heap.objs.size code builtinsNs X.env = ce at base pg3 pe3 ⊢
    have hsc : ce.scope = scope := by rw [← hce]; rfl
    have hpin : ∀ σ' H' s', Inv (gcx X X.A.in1.in1 s4 H3 ce fp [(h'.objs.size, go)]) [] σ' H' s' → s'.heap.IsGen h'.objs.size s4.gens.size := fun σ' H' s' I' =>
      isg _ (I'.pin (h'.objs.size, go) (List.mem_append_left _ (List.mem_singleton.mpr rfl))).1
    refine ⟨gcx X X.A.in1.in1 s4 H3 ce fp [(h'.objs.size, go)], h'.objs.size, s4.gens.size, m0 + 1, _, fun H' => Q (.bl (!ia)) H', fun H' => Q (.bl ia) H', rfl, rfl, rfl, Array.getElem?_push_size .., isg _ gat, ?_, ⟨rfl, ?_⟩, hpin, fun σ' H' s' I' => ?_, fun _ z => z, fun _ z => z⟩
    · exact (base _ (I3.bare.push (g := .fresh (.compStart (.GeneratorExp elt [⟨tg, iter, [], 0⟩] scope gpos) 0 (.ref it) .none ce)) rfl)).nolimit
    · have I5 := base ((({ s4 with gens := s4.gens.push (.fresh (.compStart (.GeneratorExp elt [⟨tg, iter, [], 0⟩] scope gpos) 0 (.ref it) .none ce)), toks := s4.toks + 1 + 1 + 1, heap := h'.push go } : Shared).setGen s4.gens.size .running).gens) (bare_set (I3.bare.push rfl) rfl)
      have loop := gen_loop (Y := gcx X X.A.in1.in1 s4 H3 ce fp [(h'.objs.size, go)]) (A0 := X.A.in1.in1) (ia := ia) (Qe := fun H' => Q (.bl (!ia)) H') (Qd := fun H' => Q (.bl ia) H') (iter := iter) (scope := scope) (pos := gpos) (it := it) (σ := σ) rfl rfl rfl (by show ce.scope.isCoroutine = false; rw [hsc]; exact S.co) rfl
        (fun p hp z => by
          have ep : p = (h'.objs.size, go) := List.mem_singleton.mp hp
          subst ep
          have hlt := (f3 _ z).2
          have hlt' : h'.objs.size < s4.heap.objs.size := hlt
          omega) T pg3 pe3 turn
      have start := fun s₀ => loop (m0 + 1) s₀ _ 0 m0 H3 (Nat.lt_succ_self _) w0 I5 st5 nfp
      show Seg _ _ _ _ _ _ _ ((compStart (.GeneratorExp elt [⟨tg, iter, [], 0⟩] scope gpos) 0 (.ref it) .none ce).onRaise (leaving ce)) [] _
      unfold compStart
      rw [Sem.onRaise_eq_wrap]
      show Seg _ _ _ _ _ _ _ ((ask >>= _).wrap _ _ _ _) [] _
      refine seg_bind_wrap (wpAny_askSetting ?_)
      split
      · exact seg_again rfl (start _)
      · refine seg_bind_wrap (wpAny_rule ?_)
        show Seg _ _ _ _ _ _ _ ((standAt iter.pos >>= _).wrap _ _ _ _) [] _
        exact seg_bind_wrap (wpAny_standAt (seg_bind_wrap (T.self _ 0 _ _ _ st5 (seg_again rfl (start _)))))
    · exact I3.call' (ch := fp) I'.os I'.base I'.hok I'.bare fun b hb => ⟨(f3 b hb).1.2.2.2.1, (f3 b hb).1.2.1, (f3 b hb).1.2.2.2.2.1, (f3 b hb).1.2.2.2.2.2⟩
  cases hf : codeAmong gpos ps.toList with
  | none =>
    refine wpAny_genexprCodeX hcode (cd.code hPs ht) (cd.tab hPs) hf fun c' h' tk hx hge hlt hco' _ htab' _ => ?_
    obtain ⟨o1, vs, f1, tf, fl, tg', inF, tx, tt, op, _, _, _, _, _, _, _, _, _, htr, _⟩ := hco'
    exact cont _ h' tk _ hx (Nat.le_trans hge (Nat.le_of_lt hlt)) htab'.2 htr
  | some cv =>
    refine wpAny_genexprCode_hit hcode (cd.code hPs ht) hf ?_
    exact cont cv s2.heap s2.toks #[] (Heap.ExtBut.refl _ _) (Nat.le_refl _) (by simpa using hPs) (by simpa using ht)
theorem gen_end {ia : Bool} {Q : VK} {Y : Cx} {Qe Qd : Hp → Prop} {r : Result} {s' : Shared} (h : gEnd Y ia Qe Qd r s') (hI : ∀ σ' H' s', Inv Y [] σ' H' s' → Inv X pins σ H' s') (h1 : ∀ H', Qd H' → Q (.bl ia) H') (h2 : ∀ H', Qe H' → Q (.bl (!ia)) H') :
    ∃ b, r = .ok (.ret (.bool b)) ∧ EP X pins σ Q (.bool b) s' := by
  obtain ⟨b, e, σ', H', I, q⟩ := h
  refine ⟨b, e, .bl b, H', hI _ _ _ I, rfl, ?_⟩
  rcases q with ⟨rfl, q⟩ | ⟨rfl, q⟩
  · exact h1 _ q
  · exact h2 _ q
end
theorem boot_all' : bootBuiltins "all" = some (.builtin "all") := by decide +kernel
theorem boot_any' : bootBuiltins "any" = some (.builtin "any") := by decide +kernel
section
variable {X : Cx} {k : Nat} {c P : Addr} {elt tg iter : Expr} {scope : Scope} {own : List (Str × Nat)} {gpos p pos : Pos} {wi : TI} {gt : TG} {te : TE}
theorem pe_allG (hr : Room (k + 1) X.A) (hcalm : X.calm = true) (hN : X.N.Nodup) (hg : Gl X "all") (hm : X.mg "all" = none) (TB : GxR.TabB X.base X.mg c P) (hcode : X.env.code = .ref c) (S : GenSc X.N X.env.scope scope own) (hi : PI X tg iter wi)
    (pg : ∀ (s : Shared) (H : Hp) (C : Addr) (code : Value) (fp : List Addr) (pn : List (Addr × Obj)), PG (gcx X X.A.in1.in1 s H (genEnv scope (cloFrom X.env.cells scope.names []) C code builtinsNs X.env) fp pn) tg gt)
    (pe : ∀ (s : Shared) (H : Hp) (C : Addr) (code : Value) (fp : List Addr) (pn : List (Addr × Obj)), PE (gcx X X.A.in1.in1 s H (genEnv scope (cloFrom X.env.cells scope.names []) C code builtinsNs X.env) fp pn) elt te)
    (hs : ∀ v, genFold iter X.env v = pure v) :
    PE X (.Call (.Name "all" p) [.GeneratorExp elt [⟨tg, iter, [], 0⟩] scope gpos] [] pos) (tGen true P wi gt te (own.map (·.2))) := by
  refine ⟨fun pins s σ H Q I h => ?_⟩
  refine wpAny_Call_Name_kw (ld_blt I hg hm boot_all' ?_)
  refine PyProof.Rows.callWith_builtin1 ?_ rfl (by rfl)
  show wpAny _ _ (spliced ((false, eval (.GeneratorExp elt [⟨tg, iter, [], 0⟩] scope gpos) X.env) :: backTo pos (starEach [] X.env))) _ _ s
  refine Calls.spliced_cons (thn (gen_made (ia := true) hr hcalm hN TB hcode S hi pg pe hs I h) fun v s5 hv => ?_)
  obtain ⟨Y, a, g, n, gs, Qe, Qd, rfl, ep, ew, hgs, hgen, hl, hgo, hpin, hI, h1, h2⟩ := hv
  refine Calls.spliced_nil ?_
  refine call_function_tree F.kind_all F.plain_all F.entry_all (F.args_all1 _) ?_
  unfold Builtin.«all»
  refine wpAny_bind (m := oneArg "all" _) (wpAny_pure ?_)
  refine wpAny_bind (wpAny_pyIter_gen hgen ?_)
  refine wpAny_pure ⟨plainId_quiet F.plain_all_loop _, ?_⟩
  have hc := all_cons (Y := Y) (A := X.A) (Qe := Qe) (Qd := Qd) hr.hd hr.depth hpin n s5 gs hgs hgen hl hgo
  rw [ep, ew] at hc
  refine codeAny_mono hc fun r s' hq => ?_
  obtain ⟨b, rfl, q⟩ := gen_end hq hI h1 h2
  exact q
theorem pe_anyG (hr : Room (k + 1) X.A) (hcalm : X.calm = true) (hN : X.N.Nodup) (hg : Gl X "any") (hm : X.mg "any" = none) (TB : GxR.TabB X.base X.mg c P) (hcode : X.env.code = .ref c) (S : GenSc X.N X.env.scope scope own) (hi : PI X tg iter wi)
    (pg : ∀ (s : Shared) (H : Hp) (C : Addr) (code : Value) (fp : List Addr) (pn : List (Addr × Obj)), PG (gcx X X.A.in1.in1 s H (genEnv scope (cloFrom X.env.cells scope.names []) C code builtinsNs X.env) fp pn) tg gt)
    (pe : ∀ (s : Shared) (H : Hp) (C : Addr) (code : Value) (fp : List Addr) (pn : List (Addr × Obj)), PE (gcx X X.A.in1.in1 s H (genEnv scope (cloFrom X.env.cells scope.names []) C code builtinsNs X.env) fp pn) elt te)
    (hs : ∀ v, genFold iter X.env v = pure v) :
    PE X (.Call (.Name "any" p) [.GeneratorExp elt [⟨tg, iter, [], 0⟩] scope gpos] [] pos) (tGen false P wi gt te (own.map (·.2))) := by
  refine ⟨fun pins s σ H Q I h => ?_⟩
  refine wpAny_Call_Name_kw (ld_blt I hg hm boot_any' ?_)
  refine PyProof.Rows.callWith_builtin1 ?_ rfl (by rfl)
  show wpAny _ _ (spliced ((false, eval (.GeneratorExp elt [⟨tg, iter, [], 0⟩] scope gpos) X.env) :: backTo pos (starEach [] X.env))) _ _ s
  refine Calls.spliced_cons (thn (gen_made (ia := false) hr hcalm hN TB hcode S hi pg pe hs I h) fun v s5 hv => ?_)
  obtain ⟨Y, a, g, n, gs, Qe, Qd, rfl, ep, ew, hgs, hgen, hl, hgo, hpin, hI, h1, h2⟩ := hv
  refine Calls.spliced_nil ?_
  refine call_function_tree F.kind_any F.plain_any F.entry_any (F.args_any1 _) ?_
  unfold Builtin.«any»
  refine wpAny_bind (m := oneArg "any" _) (wpAny_pure ?_)
  refine wpAny_bind (wpAny_pyIter_gen hgen ?_)
  refine wpAny_pure ⟨plainId_quiet F.plain_any_loop _, ?_⟩
  have hc := any_cons (Y := Y) (A := X.A) (Qe := Qe) (Qd := Qd) hr.hd hr.depth hpin n s5 gs hgs hgen hl hgo
  rw [ep, ew] at hc
  refine codeAny_mono hc fun r s' hq => ?_
  obtain ⟨b, rfl, q⟩ := gen_end hq hI h1 h2
  exact q
end
end GS
end

section
set_option Elab.async false
set_option linter.all false
set_option maxRecDepth 100000
set_option maxHeartbeats 2000000
namespace GS
open PySem PySem.Spec PyProof.Rows L2

/-! ## what a def promises where no text of a value is under way (repr asks that) -/
abbrev SpC := List V → Hp → VK → Prop
structure FnC (P : Program) (w : World) (K : PySem.W.Frag) (mg : Str → Option Value) (base : Heap) (k : Nat) (f : Addr) (fd : FuncData) (ps : List Str) (sp : SpC) : Prop where
  len : ∀ vs H Q, sp vs H Q → vs.length = ps.length
  run : ∀ (A : Around) (outer : List Env) (s : Shared) (H : Hp) (args : Args) (us : List Value) (vs : List V) (Q : VK), Room k A → A.guards = some [] → Env0 P w K mg base A outer s H → BindsTo s fd args (ps.zip us) → Vals vs us → sp vs H Q →
    codeAny (model P w) A (.call (.ref f) args) (CR CX0 outer P w H s Q E0) s
section
variable {P : Program} {w : World} {K : PySem.W.Frag} {mg : Str → Option Value} {base : Heap} {j k : Nat} {f : Addr} {fd : FuncData} {ps : List Str} {sp sp' : SpC}
theorem FnC.mono (F : FnC P w K mg base j f fd ps sp) (h : j ≤ k) : FnC P w K mg base k f fd ps sp :=
  ⟨F.len, fun A outer s H args us vs Q hr => F.run A outer s H args us vs Q (hr.mono h)⟩
theorem FnC.imp (F : FnC P w K mg base k f fd ps sp) (h : ∀ vs H Q, sp' vs H Q → sp vs H Q) : FnC P w K mg base k f fd ps sp' :=
  ⟨fun vs H Q q => F.len vs H Q (h _ _ _ q), fun A outer s H args us vs Q hr hg he hb hv hs => F.run A outer s H args us vs Q hr hg he hb hv (h _ _ _ hs)⟩
end
section
variable {X : Cx} {k : Nat} {f : Addr} {fd : FuncData} {ps : List Str} {sp : SpC} {x : Str} {p pos : Pos} {e : Expr} {es : List Expr} {t tk : TA} {kws : List Keyword} {ks : List Str} {gU : List Value → List Value → List Value} {gV : List V → List V → List V}
theorem run_end {pins : List (Addr × Obj)} {σ : L2.St} {H : Hp} {s : Shared} {Q : VK} (I : Inv X pins σ H s) {c : Code} (h : codeAny (model X.prog X.w) X.A c (CR CX0 X.stack X.prog X.w H s Q E0) s) :
    codeAny (model X.prog X.w) X.A c (fun r s' => match r with | .ok (.ret u) => EP X pins σ Q u s' | .ok _ => False | .error e => X.xe e s') s := by
  refine codeAny_mono h fun r s' hq => ?_
  cases r with
  | error e => exact False.elim hq
  | ok fl =>
    cases fl with
    | ret u => exact I.after hq
    | next => exact hq
    | brk => exact hq
    | cont => exact hq
theorem run_fnC {pins : List (Addr × Obj)} {σ : L2.St} {H : Hp} {s : Shared} {Q : VK} {us : List Value} {vs : List V} (F : FnC X.prog X.w X.K X.mg X.base k f fd ps sp) (hr : Room k X.A) (hG : X.A.guards = some []) (hb : Binds X.K fd ps [])
    (I : Inv X pins σ H s) (r : Vals vs us) (h : sp vs H Q) : wpAny (model X.prog X.w) X.A (call (.ref f) us) (EP X pins σ Q) X.xe s := by
  have hl : us.length = ps.length := by rw [← r.length]; exact F.len _ _ _ h
  have hb' := hb s us I.kIn (by rw [List.append_nil]; exact hl)
  rw [List.append_nil] at hb'
  refine wpAny_call (codeAny_mono (run_end I (F.run X.A X.stack s H ⟨us, []⟩ us vs Q hr hG I.env0 hb' r h)) fun r s' hq => ?_)
  cases r with
  | error e => exact hq
  | ok fl =>
    cases fl with
    | ret u => exact hq
    | next => exact False.elim hq
    | brk => exact False.elim hq
    | cont => exact False.elim hq
def tCallC (sp : SpC) (t : TA) : TE := fun σ H Q => t σ H fun vs H1 => sp vs H1 Q
theorem pe_callC (F : FnC X.prog X.w X.K X.mg X.base k f fd ps sp) (hr : Room k X.A) (hG : X.A.guards = some []) (hg : Gl X x) (hm : X.mg x = some (.ref f)) (hk : PySem.W.keepIn X.K (.ref f) = true) (hb : Binds X.K fd ps [])
    (ha : PA X (e :: es) t) (hdb : (x == ("__debug__" : Str)) = false) (he : starEach (e :: es) X.env = (false, eval e X.env) :: starEach es X.env) (hpl : (backTo pos (starEach es X.env)).any (·.1) = false) :
    PE X (.Call (.Name x p) (e :: es) [] pos) (tCallC sp t) := by
  refine ⟨fun pins s σ H Q I h => wpAny_Call_Name_kw (ld_glob I hg hm ?_ hdb)⟩
  exact PySem.W.callWith_K (h₀ := X.base) I.ok.mod.kin hk (thn (ha.run pos pins s σ H _ I h) fun us s1 ⟨vs, H1, I1, r, q⟩ => ⟨I1.kIn, run_fnC F hr hG hb I1 r q⟩) he hpl
theorem pe_callC0 (F : FnC X.prog X.w X.K X.mg X.base k f fd ps sp) (hr : Room k X.A) (hG : X.A.guards = some []) (hg : Gl X x) (hm : X.mg x = some (.ref f)) (hk : PySem.W.keepIn X.K (.ref f) = true) (hb : Binds X.K fd ps [])
    (hdb : (x == ("__debug__" : Str)) = false) : PE X (.Call (.Name x p) [] [] pos) (tCallC sp tNil) :=
  ⟨fun pins s σ H Q I h => wpAny_Call_Name_kw (ld_glob I hg hm (PySem.W.callWith_K0 I.kIn hk (run_fnC (us := []) F hr hG hb I .nil h)) hdb)⟩
def tCallKC (sp : SpC) (gV : List V → List V → List V) (t tk : TA) : TE := fun σ H Q => t σ H fun vs H1 => tk σ H1 fun zs H2 => sp (gV vs zs) H2 Q
theorem run_fnKC {pins : List (Addr × Obj)} {σ : L2.St} {H : Hp} {s : Shared} {Q : VK} {us ws : List Value} {vs zs : List V} (F : FnC X.prog X.w X.K X.mg X.base k f fd ps sp) (hr : Room k X.A) (hG : X.A.guards = some []) (hb : KBinds X.K fd ps ks gU gV)
    (I : Inv X pins σ H s) (r : Vals vs us) (rz : Vals zs ws) (h : sp (gV vs zs) H Q) : wpAny (model X.prog X.w) X.A (call (.ref f) us (ks.zip ws)) (EP X pins σ Q) X.xe s := by
  have r2 := hb.rel r rz
  have hl : (gU us ws).length = ps.length := by rw [← r2.length]; exact F.len _ _ _ h
  refine wpAny_call (codeAny_mono (run_end I (F.run X.A X.stack s H ⟨us, ks.zip ws⟩ (gU us ws) (gV vs zs) Q hr hG I.env0 (hb.to s us ws I.kIn hl) r2 h)) fun r s' hq => ?_)
  cases r with
  | error e => exact hq
  | ok fl =>
    cases fl with
    | ret u => exact hq
    | next => exact False.elim hq
    | brk => exact False.elim hq
    | cont => exact False.elim hq
theorem pe_callKC (F : FnC X.prog X.w X.K X.mg X.base k f fd ps sp) (hr : Room k X.A) (hG : X.A.guards = some []) (hg : Gl X x) (hm : X.mg x = some (.ref f)) (hk : PySem.W.keepIn X.K (.ref f) = true) (hb : KBinds X.K fd ps ks gU gV)
    (ha : PA X (e :: es) t) (hkw : PK X kws tk) (hall : (backToKw pos (keywordEach kws X.env)).all (·.1.isSome) = true) (hks : (backToKw pos (keywordEach kws X.env)).filterMap (·.1) = ks)
    (hdb : (x == ("__debug__" : Str)) = false) (he : starEach (e :: es) X.env = (false, eval e X.env) :: starEach es X.env)
    (hpl : ((backTo pos (starEach (e :: es) X.env)).any (·.1) || (backToKw pos (keywordEach kws X.env)).any (·.1.isNone)) = false) :
    PE X (.Call (.Name x p) (e :: es) kws pos) (tCallKC sp gV t tk) := by
  refine ⟨fun pins s σ H Q I h => wpAny_Call_Name_kw (ld_glob I hg hm ?_ hdb)⟩
  refine PySem.W.callWith_KW (h₀ := X.base) I.ok.mod.kin hk hall (thn (ha.run pos pins s σ H _ I h) fun us s1 ⟨vs, H1, I1, r, q⟩ => ?_) hpl he
  refine thn (hkw.run pos pins s1 σ H1 _ I1 q) fun ws s2 ⟨zs, H2, I2, rz, q2⟩ => ⟨I2.kIn, ?_⟩
  rw [hks]
  exact run_fnKC F hr hG hb I2 r rz q2
end
/-- a def by its body -/
theorem fnC_of {P : Program} {w : World} {K : PySem.W.Frag} {mg : Str → Option Value} {base : Heap} {k : Nat} {f : Addr} {fd : FuncData} {x qual : Str} {params : Arguments} {body : List Stmt} {scope : Scope} {dvs : List V} {kws : List (Str × V)} {N ps : List Str} {sp : SpC}
    (F : FunD K x qual params body scope dvs kws f fd) (S : FnScope N ps scope) (len : ∀ vs H Q, sp vs H Q → vs.length = ps.length)
    (hbody : ∀ (cdv : Value) (A : Around) (outer : List Env) (s : Shared) (H : Hp) (vs : List V) (Q : VK), PySem.W.codeIn K cdv qual = true → K.lookup f ≠ none → (∃ (dV kV doc pm : Value) (an : Option Addr) (ct : Value), fd = PySem.W.fnOf x qual params body scope dV kV doc pm an cdv ct) →
      Room k (A.deeper (envOfC qual scope s.heap.objs.size f cdv)) → A.guards = some [] → sp vs H Q →
      ∃ t, PSs (cxOf CX0 P w K mg base N qual scope f cdv A outer s H E0).nox body t ∧ t { nx := fun _ H' => Q .non H', rt := Q } (start N vs) H) :
    FnC P w K mg base (k + 1) f fd ps sp := by
  obtain ⟨oc, od, dV, kV, doc, pm, an, cdv, ct, osl, rfl, lk, hcd, _, _⟩ := F.ex
  refine ⟨len, fun A outer s H args us vs Q hr hG e0 hb r hsp => ?_⟩
  have hl := len _ _ _ hsp
  have KX : K.In s.heap := e0.mod.kin.keeps fun b o e => (e0.bs b o e).1
  have lim : s.heap.NoLimit := e0.mod.nolimit.keeps fun b o e => (e0.bs b o e).1
  have kinds : ∀ y ∈ ps.zip us, scope.names.lookup y.1 = some .local ∨ (scope.names.lookup y.1 = some .cell ∧ ((cellsFrom (s.heap.objs.size + 1) scope.names []).lookup y.1).isSome = true) := fun ⟨n, v⟩ hy =>
    (S.par n (List.of_mem_zip hy).1).elim .inl fun q => .inr ⟨q, PySem.W.cellsFrom_some _ _ _ (.inl q)⟩
  refine codeAny_call_function hr.depth (KX _ _ lk) rfl S.co S.gen rfl (PySem.W.codeRec_of KX hcd) (hb _ _ _ _ ?_)
  refine wpAny_newFunctionEnv_cells S.kind kinds fun env he s1 x => ?_
  subst he
  refine ⟨lim.keeps x.toInCall.keep, codeAny_func ?_⟩
  obtain ⟨t, ht, hq⟩ := hbody cdv A outer s H vs Q hcd (by rw [lk]; simp) ⟨_, _, _, _, _, _, rfl⟩ (hr.deeper _) hG hsp
  have I : Inv (cxOf CX0 P w K mg base N qual scope f cdv A outer s H E0) [] (start N vs) H s1 := inv_start S hr.hd e0 hl r x
  refine wpAny_mono (ht.nox.run [] s1 (start N vs) H _ I hq) (fun fl s' hs => ?_) fun e s' hs => hs
  have fin : ∀ {σ' : L2.St} {H' : Hp} {v : V} {u : Value}, Inv (cxOf CX0 P w K mg base N qual scope f cdv A outer s H E0) [] σ' H' s' → RelV v u → Q v H' → CE outer P w H s Q u s' :=
    fun {σ' H' v u} J rv q => ⟨v, H', J.os, J.bare, J.base, J.hok, rv, q⟩
  cases fl with
  | ret u =>
    obtain ⟨v, σ', H', J, rv, q⟩ := hs
    exact fin J rv q
  | next =>
    obtain ⟨σ', H', J, q⟩ := hs
    exact fin (v := V.non) (u := Value.none) J rfl q
  | brk =>
    obtain ⟨_, _, _, q⟩ := hs
    exact False.elim q
  | cont =>
    obtain ⟨_, _, _, q⟩ := hs
    exact False.elim q
end GS
end

section
set_option Elab.async false
set_option linter.all false
set_option maxRecDepth 100000
set_option maxHeartbeats 1000000
namespace GS
open PySem PySem.Spec PyProof.Rows L2

/-! ## how the heap holds what the def works with -/
/-- a dict of nested tuple keys: its object, exactly -/
def dctO (a : Addr) (o : Obj) : HO := .ext fun h => h.get? a = some o
mutual
/-- data as a key -/
def keyOf : D → Option NestedKey
  | .none => some .none
  | .int i => some (.num i)
  | .str x => some (.text x)
  | .tuple ds => (keysOf ds).map .tup
  | .bool _ => none
  | .list _ => none
  | .dict _ => none
def keysOf : List D → Option (List NestedKey)
  | [] => some []
  | d :: ds => (keyOf d).bind fun k => (keysOf ds).map (k :: ·)
end
/-- keys and values stand in F; the keys' places, the values -/
inductive Ent (K : KW) (F : Hp) : List (D × D) → List (NestedKey × Addr × Value) → Prop where
  | nil : Ent K F [] []
  | cons {kd vd : D} {nk : NestedKey} {b : Addr} {v : V} {u : Value} {kvs : List (D × D)} {xs : List (NestedKey × Addr × Value)} : keyOf kd = some nk → nk.depth ≤ 8 → Rp K F (.ref b) kd → RelV v u → Rp K F v vd → Ent K F kvs xs → Ent K F ((kd, vd) :: kvs) ((nk, b, u) :: xs)
def CtAt (K : KW) (F H : Hp) (a : Addr) : Ct → Prop
  | .lst ds => ∃ vs, H a = some (.lst vs) ∧ RpAll K F vs ds
  | .dct kvs => ∃ o es ep xs, H a = some (dctO a o) ∧ o.ExactDict ∧ o.data = .dict es ep ∧ (a == sysModules) = false ∧ es.toList = xs.map (fun x => (⟨x.1.hash K.w, .ref x.2.1, x.2.2⟩ : DictEntry)) ∧ Ent K F kvs xs ∧ (xs.map (·.1)).Nodup
theorem Ent.mono {K : KW} {F G : Hp} (l : Le F G) : ∀ {kvs : List (D × D)} {es : List (NestedKey × Addr × Value)}, Ent K F kvs es → Ent K G kvs es
  | _, _, .nil => .nil
  | _, _, .cons h1 h2 h3 h4 h5 t => .cons h1 h2 (Rp.mono l h3) h4 (Rp.mono l h5) (Ent.mono l t)
theorem CtAt.ex {K : KW} {F H : Hp} {a : Addr} {c : Ct} (h : CtAt K F H a c) : ∃ o, H a = some o ∧ NT o := by
  cases c with
  | lst ds => obtain ⟨vs, e, _⟩ := h; exact ⟨_, e, fun _ z => nomatch z⟩
  | dct kvs => obtain ⟨o, es, ep, xs, e, _⟩ := h; exact ⟨_, e, fun _ z => nomatch z⟩
theorem CtAt.mono {K : KW} {F F' H H' : Hp} {a : Addr} {c : Ct} (l : Le F F') (k : ∀ o, H a = some o → NT o → H' a = some o) (h : CtAt K F H a c) : CtAt K F' H' a c := by
  cases c with
  | lst ds => obtain ⟨vs, e, r⟩ := h; exact ⟨vs, k _ e (fun _ z => nomatch z), RpAll.mono l r⟩
  | dct kvs => obtain ⟨o, es, ep, xs, e, r1, r2, r3, r4, r5, r6⟩ := h; exact ⟨o, es, ep, xs, k _ e (fun _ z => nomatch z), r1, r2, r3, r4, Ent.mono l r5, r6⟩

/-- what is fixed through a def's run: what stood at its entry; the places of what it was lent -/
structure DC where
  K : KW
  T : List Addr
  F0 : Hp
  H0 : Hp
  refs : List (Nat × Addr)
theorem kk {X : Cx} {C : DC} (h : kwOf X = C.K) : X.K = C.K.k := congrArg KW.k h
def OwnC (s : Slot) (c : Ct) : Prop := s = .own c ∨ s = .ref c
def Own (σ : L2.St) (Γ : DEnv) (a : Addr) : Prop := ∃ i c, OwnC (Γ.at i) c ∧ σ[i]? = some (some (V.ref a))
structure EnvOk (C : DC) (F H : Hp) (σ : L2.St) (Γ : DEnv) : Prop where
  sub : Sub F H
  le : Le C.F0 F
  new : ∀ a o, F a = some o → C.F0 a = some o ∨ C.H0 a = none
  keep : ∀ a o, C.H0 a = some o → NT o → (∀ i, (i, a) ∉ C.refs) → H a = some o
  dom : ∀ a o, C.H0 a = some o → ∃ o', H a = some o'
  len : Γ.length = σ.length
  vals : ∀ i d, Γ.at i = .val d → ∃ v, σ[i]? = some (some v) ∧ Rp C.K F v d
  owns : ∀ i c, OwnC (Γ.at i) c → ∃ a, σ[i]? = some (some (V.ref a)) ∧ F a = none ∧ CtAt C.K F H a c
  mine : ∀ i c a, Γ.at i = .own c → σ[i]? = some (some (V.ref a)) → C.H0 a = none
  lent : ∀ i c a, Γ.at i = .ref c → σ[i]? = some (some (V.ref a)) → (i, a) ∈ C.refs
  apart : ∀ i j c c' a, OwnC (Γ.at i) c → OwnC (Γ.at j) c' → σ[i]? = some (some (V.ref a)) → σ[j]? = some (some (V.ref a)) → i = j
  refs : ∀ i a, (i, a) ∈ C.refs → (∃ c, Γ.at i = .ref c) ∧ σ[i]? = some (some (V.ref a))
  tabs : ∀ p ∈ C.T, GxR.TabG H p
/-- from one point of an expression to a later one -/
structure Stp (σ : L2.St) (F H : Hp) (Γ : DEnv) (F' H' : Hp) (Γ' : DEnv) : Prop where
  le : Le F F'
  new : ∀ a o, F' a = some o → F a = some o ∨ H a = none ∨ Own σ Γ a
  keep : ∀ a o, H a = some o → NT o → ¬ Own σ Γ a → H' a = some o
  dom : ∀ a o, H a = some o → ∃ o', H' a = some o'
  own : ∀ a, Own σ Γ' a → Own σ Γ a
theorem Stp.refl (σ : L2.St) (F H : Hp) (Γ : DEnv) : Stp σ F H Γ F H Γ := ⟨Le.refl F, fun _ _ h => .inl h, fun _ _ h _ _ => h, fun _ o h => ⟨o, h⟩, fun _ h => h⟩
theorem Stp.trans {σ : L2.St} {F H F' H' F'' H'' : Hp} {Γ Γ' Γ'' : DEnv} (a : Stp σ F H Γ F' H' Γ') (b : Stp σ F' H' Γ' F'' H'' Γ'') : Stp σ F H Γ F'' H'' Γ'' where
  le := a.le.trans b.le
  new := fun x o h => by
    rcases b.new x o h with h1 | h1 | h1
    · exact a.new x o h1
    · refine .inr (.inl ?_)
      cases q : H x with
      | none => rfl
      | some u =>
        obtain ⟨u', e⟩ := a.dom x u q
        rw [h1] at e; cases e
    · exact .inr (.inr (a.own x h1))
  keep := fun x o h nt no => b.keep x o (a.keep x o h nt no) nt fun z => no (a.own x z)
  dom := fun x o h => by
    obtain ⟨o1, e1⟩ := a.dom x o h
    exact b.dom x o1 e1
  own := fun x h => a.own x (b.own x h)
/-- B: the heap ahead of the whole expression: what is new is new to it -/
def ResOk (C : DC) (B F H : Hp) (σ : L2.St) (Γ : DEnv) (v : V) : Opd → Prop
  | .val d => Rp C.K F v d
  | .own i => σ[i]? = some (some v)
  | .new c => ∃ a, v = .ref a ∧ F a = none ∧ CtAt C.K F H a c ∧ ¬ Own σ Γ a ∧ C.H0 a = none ∧ B a = none
theorem ResOk.stp {C : DC} {B F H F' H' : Hp} {σ : L2.St} {Γ Γ' : DEnv} {v : V} {o : Opd} (r : ResOk C B F H σ Γ v o) (s : Stp σ F H Γ F' H' Γ') : ResOk C B F' H' σ Γ' v o := by
  cases o with
  | val d => exact Rp.mono s.le r
  | own i => exact r
  | new c =>
    obtain ⟨a, e, hF, hc, no, h0, hb⟩ := r
    obtain ⟨u, hu, _⟩ := CtAt.ex hc
    refine ⟨a, e, ?_, CtAt.mono s.le (fun o ho nt => s.keep a o ho nt no) hc, fun z => no (s.own a z), h0, hb⟩
    cases q : F' a with
    | none => rfl
    | some w =>
      rcases s.new a w q with z | z | z
      · rw [hF] at z; cases z
      · rw [hu] at z; cases z
      · exact absurd z no

/-- the readings of data -/
abbrev WE := DEnv → (Opd → DEnv → Prop) → Prop
abbrev WA := DEnv → (List Opd → DEnv → Prop) → Prop
def tD (C : DC) (w : WE) : TE := fun σ H Q => ∃ F Γ W, EnvOk C F H σ Γ ∧ w Γ W ∧ ∀ o Γ' v H' F', W o Γ' → EnvOk C F' H' σ Γ' → Stp σ F H Γ F' H' Γ' → ResOk C H F' H' σ Γ' v o → Q v H'
def tDT (C : DC) (w : DEnv → (Bool → DEnv → Prop) → Prop) : TT := fun σ H Q => ∃ F Γ W, EnvOk C F H σ Γ ∧ w Γ W ∧ ∀ b Γ' H' F', W b Γ' → EnvOk C F' H' σ Γ' → Stp σ F H Γ F' H' Γ' → Q b H'
inductive ResAll (C : DC) (B F H : Hp) (σ : L2.St) (Γ : DEnv) : List V → List Opd → Prop where
  | nil : ResAll C B F H σ Γ [] []
  | cons {v vs o os} : ResOk C B F H σ Γ v o → ResAll C B F H σ Γ vs os → ResAll C B F H σ Γ (v :: vs) (o :: os)
theorem ResOk.base {C : DC} {B B' F H : Hp} {σ : L2.St} {Γ : DEnv} {v : V} {o : Opd} (r : ResOk C B F H σ Γ v o) (d : ∀ a, B a = none → B' a = none) : ResOk C B' F H σ Γ v o := by
  cases o with
  | val d => exact r
  | own i => exact r
  | new c =>
    obtain ⟨a, e, hF, hc, no, h0, hb⟩ := r
    exact ⟨a, e, hF, hc, no, h0, d a hb⟩
theorem Stp.free {σ : L2.St} {F H F' H' : Hp} {Γ Γ' : DEnv} (s : Stp σ F H Γ F' H' Γ') (a : Addr) (h : H' a = none) : H a = none := by
  cases q : H a with
  | none => rfl
  | some u =>
    obtain ⟨u', e⟩ := s.dom a u q
    rw [h] at e; cases e
theorem ResAll.base {C : DC} {B B' F H : Hp} {σ : L2.St} {Γ : DEnv} (d : ∀ a, B a = none → B' a = none) : ∀ {vs : List V} {os : List Opd}, ResAll C B F H σ Γ vs os → ResAll C B' F H σ Γ vs os
  | _, _, .nil => .nil
  | _, _, .cons h t => .cons (h.base d) (ResAll.base d t)
theorem ResAll.stp {C : DC} {B F H F' H' : Hp} {σ : L2.St} {Γ Γ' : DEnv} (s : Stp σ F H Γ F' H' Γ') : ∀ {vs : List V} {os : List Opd}, ResAll C B F H σ Γ vs os → ResAll C B F' H' σ Γ' vs os
  | _, _, .nil => .nil
  | _, _, .cons h t => .cons (h.stp s) (ResAll.stp s t)
def tDA (C : DC) (w : WA) : TA := fun σ H Q => ∃ F Γ W, EnvOk C F H σ Γ ∧ w Γ W ∧ ∀ os Γ' vs H' F', W os Γ' → EnvOk C F' H' σ Γ' → Stp σ F H Γ F' H' Γ' → ResAll C H F' H' σ Γ' vs os → Q vs H'

theorem PE.imp {X : Cx} {e : Expr} {t t' : TE} (h : PE X e t) (i : ∀ σ H Q, t' σ H Q → t σ H Q) : PE X e t' := ⟨fun pins s σ H Q I q => h.run pins s σ H Q I (i σ H Q q)⟩
theorem PT.imp {X : Cx} {e : Expr} {t t' : TT} (h : PT X e t) (i : ∀ σ H Q, t' σ H Q → t σ H Q) : PT X e t' := ⟨fun pins s σ H Q I q => h.run pins s σ H Q I (i σ H Q q)⟩
theorem PA.imp {X : Cx} {e : List Expr} {t t' : TA} (h : PA X e t) (i : ∀ σ H Q, t' σ H Q → t σ H Q) : PA X e t' := ⟨fun pos pins s σ H Q I q => h.run pos pins s σ H Q I (i σ H Q q)⟩
theorem PS.imp {X : Cx} {e : Stmt} {t t' : TS} (h : PS X e t) (i : ∀ D σ H, t' D σ H → t D σ H) : PS X e t' := ⟨fun pins s σ H D I q => h.run pins s σ H D I (i D σ H q)⟩
theorem PSs.imp {X : Cx} {e : List Stmt} {t t' : TS} (h : PSs X e t) (i : ∀ D σ H, t' D σ H → t D σ H) : PSs X e t' := ⟨fun pins s σ H D I q => h.run pins s σ H D I (i D σ H q)⟩

/-! ## simple expressions -/
def wVar (i : Nat) : WE := fun Γ W => match Γ.at i with
  | .val d => W (.val d) Γ
  | .own _ => W (.own i) Γ
  | .ref _ => W (.own i) Γ
  | .non => False
def wC (d : D) : WE := fun Γ W => W (.val d) Γ
section
variable {X : Cx} {C : DC}
theorem d_var {i : Nat} {x : Str} {pos : Pos} (hN : X.N[i]? = some x) (hv : Vis X.env.scope x) (hd : (x == ("__debug__" : Str)) = false) (hcd : (x == ("__classdict__" : Str)) = false) : PE X (.Name x pos) (tD C (wVar i)) := by
  refine PE.imp (pe_var hN hv hd hcd) fun σ H Q h => ?_
  obtain ⟨F, Γ, W, ok, hw, hq⟩ := h
  unfold wVar at hw
  split at hw
  · rename_i d e
    obtain ⟨v, e1, r⟩ := ok.vals i d e
    exact ⟨v, e1, hq _ _ v H F hw ok (Stp.refl ..) r⟩
  · rename_i c e
    obtain ⟨a, e1, _⟩ := ok.owns i c (.inl e)
    exact ⟨_, e1, hq _ _ _ H F hw ok (Stp.refl ..) e1⟩
  · rename_i c e
    obtain ⟨a, e1, _⟩ := ok.owns i c (.inr e)
    exact ⟨_, e1, hq _ _ _ H F hw ok (Stp.refl ..) e1⟩
  · exact hw.elim
theorem d_cst {e : Expr} {v : V} {d : D} (h : PE X e (tC v)) (r : ∀ F, Rp C.K F v d) : PE X e (tD C (wC d)) := by
  refine PE.imp h fun σ H Q h => ?_
  obtain ⟨F, Γ, W, ok, hw, hq⟩ := h
  exact hq _ _ v H F hw ok (Stp.refl ..) (r F)
end
end GS
end

section
set_option Elab.async false
set_option linter.all false
set_option maxRecDepth 100000
set_option maxHeartbeats 1000000
namespace GS
open PySem PySem.Spec PyProof.Rows L2

/-! ## what an operation gives: something flat, a new tuple, a new list, a new dict -/
inductive Nw (K : KW) (F H : Hp) : Hp → Hp → V → Opd → Prop where
  | flat {v : V} {d : D} : Rp K F v d → Nw K F H F H v (.val d)
  | tup {p : Addr} {vs : List V} {ds : List D} : H p = none → RpAll K F vs ds → Nw K F H (upd F p (.tup vs)) (upd H p (.tup vs)) (.ref p) (.val (.tuple ds))
  | lst {p : Addr} {vs : List V} {ds : List D} : H p = none → RpAll K F vs ds → Nw K F H F (upd H p (.lst vs)) (.ref p) (.new (.lst ds))
  | dct {p : Addr} {o : Obj} {es : Array DictEntry} {ep : Nat} {xs : List (NestedKey × Addr × Value)} {kvs : List (D × D)} : H p = none → o.ExactDict → o.data = .dict es ep → (p == sysModules) = false → es.toList = xs.map (fun x => (⟨x.1.hash K.w, .ref x.2.1, x.2.2⟩ : DictEntry)) → Ent K F kvs xs → (xs.map (·.1)).Nodup → Nw K F H F (upd H p (dctO p o)) (.ref p) (.new (.dct kvs))
theorem le_upd {F : Hp} {p : Addr} {o : HO} (h : F p = none) : Le F (upd F p o) := fun a u e => by
  by_cases q : a = p
  · subst q; rw [h] at e; cases e
  · rw [upd_ne q]; exact e
section
variable {C : DC} {F H : Hp} {σ : L2.St} {Γ : DEnv}
theorem Own.live (ok : EnvOk C F H σ Γ) {a : Addr} (h : Own σ Γ a) : F a = none ∧ ∃ o, H a = some o ∧ NT o := by
  obtain ⟨i, c, hc, e⟩ := h
  obtain ⟨b, e', hF, hat⟩ := ok.owns i c hc
  rw [e] at e'; cases e'
  exact ⟨hF, CtAt.ex hat⟩
theorem EnvOk.freshH0 (ok : EnvOk C F H σ Γ) {p : Addr} (h : H p = none) : C.H0 p = none := by
  cases q : C.H0 p with
  | none => rfl
  | some u =>
    obtain ⟨o', e⟩ := ok.dom p u q
    rw [h] at e; cases e
theorem EnvOk.freshF (ok : EnvOk C F H σ Γ) {p : Addr} (h : H p = none) : F p = none := by
  cases q : F p with
  | none => rfl
  | some u => have := (ok.sub p u q).1; rw [h] at this; cases this
/-- a new object that is not frozen -/
theorem EnvOk.laid (ok : EnvOk C F H σ Γ) {p : Addr} {o : HO} (h : H p = none) : EnvOk C F (upd H p o) σ Γ := by
  have l := le_upd (o := o) h
  refine ⟨fun a u e => ⟨l _ _ (ok.sub a u e).1, (ok.sub a u e).2⟩, ok.le, ok.new, fun a u e nt nr => l _ _ (ok.keep a u e nt nr), fun a u e => ?_, ok.len, ok.vals, fun i c hc => ?_, ok.mine, ok.lent, ok.apart, ok.refs, fun q hq => ?_⟩
  · obtain ⟨u', e'⟩ := ok.dom a u e
    exact ⟨u', l _ _ e'⟩
  · obtain ⟨a, e1, e2, e3⟩ := ok.owns i c hc
    exact ⟨a, e1, e2, CtAt.mono (Le.refl F) (fun o e _ => l _ _ e) e3⟩
  · obtain ⟨ps, e, t⟩ := ok.tabs q hq
    exact ⟨ps, l _ _ e, t⟩
theorem Stp.laid {p : Addr} {o : HO} (h : H p = none) : Stp σ F H Γ F (upd H p o) Γ :=
  have l := le_upd (o := o) h
  ⟨Le.refl F, fun _ _ e => .inl e, fun a u e _ _ => l _ _ e, fun a u e => ⟨u, l _ _ e⟩, fun _ z => z⟩
/-- .. that is frozen at once -/
theorem EnvOk.froze (ok : EnvOk C F H σ Γ) {p : Addr} {o : HO} (h : H p = none) (nt : NT o) : EnvOk C (upd F p o) (upd H p o) σ Γ := by
  have l := le_upd (o := o) h
  have lF := le_upd (o := o) (ok.freshF h)
  refine ⟨fun a u e => ?_, ok.le.trans lF, fun a u e => ?_, fun a u e nt nr => l _ _ (ok.keep a u e nt nr), fun a u e => ?_, ok.len, fun i d e => ?_, fun i c hc => ?_, ok.mine, ok.lent, ok.apart, ok.refs, fun q hq => ?_⟩
  · by_cases q : a = p
    · subst q; rw [upd_same] at e ⊢; cases e; exact ⟨rfl, nt⟩
    · rw [upd_ne q] at e ⊢; exact ok.sub a u e
  · by_cases q : a = p
    · subst q; exact .inr (ok.freshH0 h)
    · rw [upd_ne q] at e; exact ok.new a u e
  · obtain ⟨u', e'⟩ := ok.dom a u e
    exact ⟨u', l _ _ e'⟩
  · obtain ⟨v, e1, r⟩ := ok.vals i d e
    exact ⟨v, e1, Rp.mono lF r⟩
  · obtain ⟨a, e1, e2, e3⟩ := ok.owns i c hc
    refine ⟨a, e1, ?_, CtAt.mono lF (fun o e _ => l _ _ e) e3⟩
    obtain ⟨u, eu, _⟩ := CtAt.ex e3
    rw [upd_ne (ne_of_none eu h)]; exact e2
  · obtain ⟨ps, e, t⟩ := ok.tabs q hq
    exact ⟨ps, l _ _ e, t⟩
theorem Stp.froze (ok : EnvOk C F H σ Γ) {p : Addr} {o : HO} (h : H p = none) : Stp σ F H Γ (upd F p o) (upd H p o) Γ :=
  have l := le_upd (o := o) h
  ⟨le_upd (ok.freshF h), fun a u e => by
    by_cases q : a = p
    · subst q; exact .inr (.inl h)
    · rw [upd_ne q] at e; exact .inl e, fun a u e _ _ => l _ _ e, fun a u e => ⟨u, l _ _ e⟩, fun _ z => z⟩
theorem Nw.ok {F' H' : Hp} {v : V} {o : Opd} (n : Nw C.K F H F' H' v o) (ok : EnvOk C F H σ Γ) : EnvOk C F' H' σ Γ ∧ Stp σ F H Γ F' H' Γ ∧ ResOk C H F' H' σ Γ v o := by
  cases n with
  | flat r => exact ⟨ok, Stp.refl .., r⟩
  | tup h r => exact ⟨ok.froze h (fun _ z => nomatch z), Stp.froze ok h, .tup (SqT.of upd_same) (RpAll.mono (le_upd (ok.freshF h)) r)⟩
  | lst h r =>
    refine ⟨ok.laid h, Stp.laid h, _, rfl, ok.freshF h, ⟨_, upd_same, r⟩, fun z => ?_, ok.freshH0 h, h⟩
    obtain ⟨_, u, e, _⟩ := Own.live ok z
    rw [h] at e; cases e
  | dct h x1 x2 x3 x4 r x5 =>
    refine ⟨ok.laid h, Stp.laid h, _, rfl, ok.freshF h, ⟨_, _, _, _, upd_same, x1, x2, x3, x4, r, x5⟩, fun z => ?_, ok.freshH0 h, h⟩
    obtain ⟨_, u, e, _⟩ := Own.live ok z
    rw [h] at e; cases e

/-! ## seeing what a value holds -/
def Vw (K : KW) (F H : Hp) (v : V) : D → Prop
  | .list ds => ∃ a vs, v = .ref a ∧ RdL K.k H a vs ∧ RpAll K F vs ds
  | .dict kvs => ∃ a, v = .ref a ∧ CtAt K F H a (.dct kvs)
  | d => Rp K F v d
theorem Vw.of {K : KW} {F H : Hp} {v : V} {d : D} (l : Le F H) (r : Rp K F v d) : Vw K F H v d := by
  cases r with
  | lst h t => exact ⟨_, _, rfl, RdL.mono l h, t⟩
  | tup h t => exact .tup h t
  | non => exact .non
  | bl b => exact .bl b
  | int i => exact .int i
  | str x => exact .str x
theorem Vw.dp {K : KW} {F H : Hp} {v : V} {d : D} (l : Le F H) (r : Vw K F H v d) (nd : ∀ kvs, d ≠ .dict kvs) : Rp K H v d := by
  cases d with
  | list ds => obtain ⟨a, vs, rfl, h, t⟩ := r; exact .lst h (RpAll.mono l t)
  | dict kvs => exact absurd rfl (nd kvs)
  | _ => exact Rp.mono l r
theorem CtAt.vw {K : KW} {F H : Hp} {a : Addr} {c : Ct} (h : CtAt K F H a c) : Vw K F H (.ref a) c.toD := by
  cases c with
  | lst ds => obtain ⟨vs, e, r⟩ := h; exact ⟨a, vs, rfl, RdL.of e, r⟩
  | dct kvs => exact ⟨a, rfl, h⟩
theorem own_at {i : Nat} {c : Ct} {v : V} (ok : EnvOk C F H σ Γ) (hc : OwnC (Γ.at i) c) (e : σ[i]? = some (some v)) : ∃ a, v = .ref a ∧ F a = none ∧ CtAt C.K F H a c := by
  obtain ⟨a, e1, e2, e3⟩ := ok.owns i c hc
  rw [e] at e1; cases e1
  exact ⟨a, rfl, e2, e3⟩
theorem ResOk.vw {B : Hp} {v : V} {o : Opd} {d : D} (r : ResOk C B F H σ Γ v o) (ok : EnvOk C F H σ Γ) (h : o.see Γ = some d) : Vw C.K F H v d := by
  cases o with
  | val d' => cases h; exact Vw.of ok.sub.le r
  | new c =>
    cases h
    obtain ⟨a, rfl, _, hc, _⟩ := r
    exact CtAt.vw hc
  | own i =>
    have r : σ[i]? = some (some v) := r
    simp only [Opd.see] at h
    split at h
    · rename_i c e
      cases h
      obtain ⟨a, rfl, _, hc⟩ := own_at ok (.inl e) r
      exact CtAt.vw hc
    · rename_i c e
      cases h
      obtain ⟨a, rfl, _, hc⟩ := own_at ok (.inr e) r
      exact CtAt.vw hc
    · rename_i d' e
      cases h
      obtain ⟨v', e1, r'⟩ := ok.vals i _ e
      rw [r] at e1; cases e1
      exact Vw.of ok.sub.le r'
    · cases h

/-! ## a value that stays -/
theorem at_set {Γ : DEnv} {i j : Nat} {s : Slot} (h : i < Γ.length) : DEnv.at (Γ.set i s) j = if i = j then s else Γ.at j := by
  unfold DEnv.at
  rw [List.getD_eq_getElem?_getD, List.getD_eq_getElem?_getD]
  by_cases e : i = j
  · subst e; rw [List.getElem?_set_self h, if_pos rfl]; rfl
  · rw [List.getElem?_set_ne e, if_neg e]
theorem at_lt {Γ : DEnv} {i : Nat} (h : Γ.at i ≠ .non) : i < Γ.length := by
  rcases Nat.lt_or_ge i Γ.length with q | q
  · exact q
  · exfalso; apply h
    unfold DEnv.at
    rw [List.getD_eq_getElem?_getD, List.getElem?_eq_none q]; rfl
/-- an own list, frozen -/
theorem EnvOk.freeze (ok : EnvOk C F H σ Γ) {i : Nat} {ds : List D} {v : V} (hs : Γ.at i = .own (.lst ds)) (e : σ[i]? = some (some v)) :
    ∃ F', EnvOk C F' H σ (Γ.set i (.val (.list ds))) ∧ Stp σ F H Γ F' H (Γ.set i (.val (.list ds))) ∧ Rp C.K F' v (.list ds) := by
  obtain ⟨a, rfl, hF, vs, hH, hr⟩ := own_at ok (.inl hs) e
  have hi : i < Γ.length := at_lt (by rw [hs]; simp)
  have lF := le_upd (o := .lst vs) hF
  have hd : Rp C.K (upd F a (.lst vs)) (.ref a) (.list ds) := .lst (RdL.of upd_same) (RpAll.mono lF hr)
  have back : ∀ j c, OwnC (DEnv.at (Γ.set i (.val (.list ds))) j) c → j ≠ i ∧ OwnC (Γ.at j) c := fun j c hc => by
    rw [at_set hi] at hc
    by_cases q : i = j
    · rw [if_pos q] at hc; rcases hc with hc | hc <;> cases hc
    · rw [if_neg q] at hc; exact ⟨Ne.symm q, hc⟩
  refine ⟨upd F a (.lst vs), ⟨fun b u h => ?_, ok.le.trans lF, fun b u h => ?_, ok.keep, ok.dom, by rw [List.length_set]; exact ok.len, fun j d h => ?_, fun j c hc => ?_, fun j c b hc hj => ?_, fun j c b hc hj => ?_, fun j k c c' b h1 h2 => ok.apart j k c c' b (back j c h1).2 (back k c' h2).2, fun j b hj => ?_, ok.tabs⟩,
    ⟨lF, fun b u h => ?_, fun b u h _ _ => h, fun b u h => ⟨u, h⟩, fun b ⟨j, c, hc, hj⟩ => ⟨j, c, (back j c hc).2, hj⟩⟩, hd⟩
  · by_cases q : b = a
    · subst q; rw [upd_same] at h; cases h; exact ⟨hH, fun _ z => nomatch z⟩
    · rw [upd_ne q] at h; exact ok.sub b u h
  · by_cases q : b = a
    · subst q; exact .inr (ok.mine i _ _ hs e)
    · rw [upd_ne q] at h; exact ok.new b u h
  · rw [at_set hi] at h
    by_cases q : i = j
    · subst q
      rw [if_pos rfl] at h; cases h
      exact ⟨_, e, hd⟩
    · rw [if_neg q] at h
      obtain ⟨v, e1, r⟩ := ok.vals j d h
      exact ⟨v, e1, Rp.mono lF r⟩
  · obtain ⟨hne, hc'⟩ := back j c hc
    obtain ⟨b, e1, e2, e3⟩ := ok.owns j c hc'
    refine ⟨b, e1, ?_, CtAt.mono lF (fun _ h _ => h) e3⟩
    have hba : b ≠ a := fun z => by subst z; exact hne (ok.apart j i c _ b hc' (.inl hs) e1 e)
    rw [upd_ne hba]; exact e2
  · have hc' := back j c (.inl hc)
    rw [at_set hi, if_neg (Ne.symm hc'.1)] at hc
    exact ok.mine j c b hc hj
  · have hc' := back j c (.inr hc)
    rw [at_set hi, if_neg (Ne.symm hc'.1)] at hc
    exact ok.lent j c b hc hj
  · obtain ⟨⟨c, e1⟩, e2⟩ := ok.refs j b hj
    refine ⟨⟨c, ?_⟩, e2⟩
    rw [at_set hi]
    by_cases q : i = j
    · subst q; rw [hs] at e1; cases e1
    · rw [if_neg q]; exact e1
  · by_cases q : b = a
    · subst q; exact .inr (.inr ⟨i, _, .inl hs, e⟩)
    · rw [upd_ne q] at h; exact .inl h
/-- a new list, frozen -/
theorem EnvOk.freezeNew (ok : EnvOk C F H σ Γ) {a : Addr} {vs : List V} (hF : F a = none) (hH : H a = some (.lst vs)) (no : ¬ Own σ Γ a) (h0 : C.H0 a = none) : EnvOk C (upd F a (.lst vs)) H σ Γ := by
  have lF := le_upd (o := .lst vs) hF
  refine ⟨fun b u h => ?_, ok.le.trans lF, fun b u h => ?_, ok.keep, ok.dom, ok.len, fun j d h => ?_, fun j c hc => ?_, ok.mine, ok.lent, ok.apart, ok.refs, ok.tabs⟩
  · by_cases q : b = a
    · subst q; rw [upd_same] at h; cases h; exact ⟨hH, fun _ z => nomatch z⟩
    · rw [upd_ne q] at h; exact ok.sub b u h
  · by_cases q : b = a
    · subst q; exact .inr h0
    · rw [upd_ne q] at h; exact ok.new b u h
  · obtain ⟨v, e1, r⟩ := ok.vals j d h
    exact ⟨v, e1, Rp.mono lF r⟩
  · obtain ⟨b, e1, e2, e3⟩ := ok.owns j c hc
    refine ⟨b, e1, ?_, CtAt.mono lF (fun _ h _ => h) e3⟩
    have hba : b ≠ a := fun z => by subst z; exact no ⟨j, c, hc, e1⟩
    rw [upd_ne hba]; exact e2

theorem Stp.freezeNew {B : Hp} {a : Addr} {vs : List V} (hF : F a = none) : ∀ b o, upd F a (.lst vs) b = some o → F b = some o ∨ b = a := fun b o h => by
  by_cases q : b = a
  · exact .inr q
  · rw [upd_ne q] at h; exact .inl h
/-- an operand becomes data that stays -/
theorem ResOk.frz {B F0 : Hp} {Γ0 : DEnv} {v : V} {o : Opd} {W : D → DEnv → Prop} (r : ResOk C B F H σ Γ v o) (ok : EnvOk C F H σ Γ) (st : Stp σ F0 B Γ0 F H Γ) (h : o.frz Γ W) :
    ∃ d F' Γ', W d Γ' ∧ EnvOk C F' H σ Γ' ∧ Stp σ F0 B Γ0 F' H Γ' ∧ Rp C.K F' v d ∧ Le F F' ∧ (∀ b u, F' b = some u → F b = some u ∨ Own σ Γ b ∨ v = .ref b) ∧ (∀ a, Own σ Γ' a → Own σ Γ a) := by
  cases o with
  | val d => exact ⟨d, F, Γ, h, ok, st, r, Le.refl F, fun _ _ h => .inl h, fun _ z => z⟩
  | new c =>
    obtain ⟨a, rfl, hF, hc, no, h0, hb⟩ := r
    cases c with
    | dct kvs => exact h.elim
    | lst ds =>
      obtain ⟨vs, hH, hr⟩ := hc
      have lF := le_upd (o := .lst vs) hF
      refine ⟨.list ds, upd F a (.lst vs), Γ, h, ok.freezeNew hF hH no h0, ⟨st.le.trans lF, fun b u e => ?_, st.keep, st.dom, st.own⟩, .lst (RdL.of upd_same) (RpAll.mono lF hr), lF, fun b u e => ?_, fun _ z => z⟩
      · rcases Stp.freezeNew (B := B) hF b u e with e | rfl
        · exact st.new b u e
        · exact .inr (.inl hb)
      · rcases Stp.freezeNew (B := B) hF b u e with e | rfl
        · exact .inl e
        · exact .inr (.inr rfl)
  | own i =>
    have r : σ[i]? = some (some v) := r
    simp only [Opd.frz] at h
    split at h
    · rename_i ds e
      obtain ⟨F', ok', st', hd⟩ := ok.freeze e r
      refine ⟨_, F', _, h, ok', st.trans st', hd, st'.le, fun b u e' => ?_, st'.own⟩
      obtain ⟨a, rfl, hF, vs, hH, hr⟩ := own_at ok (.inl e) r
      rcases st'.new b u e' with z | z | z
      · exact .inl z
      · have := (ok'.sub b u e').1
        rw [z] at this; cases this
      · exact .inr (.inl z)
    · rename_i d e
      obtain ⟨v', e1, r'⟩ := ok.vals i _ e
      rw [r] at e1; cases e1
      exact ⟨_, F, Γ, h, ok, st, r', Le.refl F, fun _ _ h => .inl h, fun _ z => z⟩
    · exact h.elim
end
end GS
end

section
set_option Elab.async false
set_option linter.all false
set_option maxRecDepth 100000
set_option maxHeartbeats 1000000
namespace GS
open PySem PySem.Spec PyProof.Rows L2

/-! ## dicts of nested tuple keys -/
def keyB (d : D) : Bool := match d with
  | .tuple _ => match keyOf d with
    | some nk => decide (nk.depth ≤ 8)
    | none => false
  | _ => false
def lookD (kvs : List (D × D)) (k : D) : Option D := (kvs.find? fun p => decide (keyOf p.1 = keyOf k)).map (·.2)
def putD (kvs : List (D × D)) (k v : D) : List (D × D) := if (lookD kvs k).isSome then kvs.map (fun p => if keyOf p.1 = keyOf k then (p.1, v) else p) else kvs ++ [(k, v)]
theorem keyB_of {d : D} (h : keyB d = true) : ∃ nk, keyOf d = some nk ∧ nk.depth ≤ 8 ∧ ∃ ds, d = .tuple ds := by
  unfold keyB at h
  split at h
  · rename_i ds
    split at h
    · rename_i nk e
      exact ⟨nk, e, of_decide_eq_true h, ds, rfl⟩
    · cases h
  · cases h
section
variable {X : Cx} {pins : List (Addr × Obj)} {σ : L2.St} {H F : Hp} {s : Shared}
mutual
theorem nested_of (I : Inv X pins σ H s) (sub : Sub F H) : ∀ (d : D) {v : V} {u : Value} {nk : NestedKey}, Rp (kwOf X) F v d → RelV v u → keyOf d = some nk → NestedIs s.heap nk u
  | .none, _, _, _, r, h, e => by
    cases e
    cases r
    cases (show _ = Value.none from h)
    exact .none
  | .int i, _, _, _, r, h, e => by
    cases e
    cases r
    obtain ⟨t, rfl⟩ := h
    exact .int i t
  | .str x, _, _, _, r, h, e => by
    cases e
    cases r
    obtain ⟨t, rfl⟩ := h
    exact .text x t
  | .tuple ds, _, _, _, r, h, e => by
    rw [keyOf, Option.map_eq_some_iff] at e
    obtain ⟨nks, e, rfl⟩ := e
    cases r with
    | tup h1 r1 =>
      obtain ⟨its, rv, ⟨o, ho, hc, n, hd⟩, hz⟩ := I.tuple (SqT.mono sub.le h1)
      cases h
      exact .tup ho hc hd (by
        have := nested_all I sub ds r1 rv e
        simpa using this)
  | .bool _, _, _, _, _, _, e => by cases e
  | .list _, _, _, _, _, _, e => by cases e
  | .dict _, _, _, _, _, _, e => by cases e
theorem nested_all (I : Inv X pins σ H s) (sub : Sub F H) : ∀ (ds : List D) {vs : List V} {us : List Value} {nks : List NestedKey}, RpAll (kwOf X) F vs ds → Vals vs us → keysOf ds = some nks → NestedAll s.heap nks us
  | [], _, _, _, r, h, e => by
    cases e
    cases r
    cases h
    exact .nil
  | d :: ds, _, _, _, r, h, e => by
    rw [keysOf, Option.bind_eq_some_iff] at e
    obtain ⟨nk, e1, e⟩ := e
    rw [Option.map_eq_some_iff] at e
    obtain ⟨nks, e2, rfl⟩ := e
    cases r with
    | cons r1 r2 =>
      cases h with
      | cons h1 h2 => exact .cons (nested_of I sub d r1 h1 e1) (nested_all I sub ds r2 h2 e2)
end
theorem Ent.is (I : Inv X pins σ H s) (sub : Sub F H) : ∀ {kvs : List (D × D)} {xs : List (NestedKey × Addr × Value)}, Ent (kwOf X) F kvs xs → ∀ x ∈ xs, (nestedKind X.prog X.w).is s.heap x.1 x.2.1
  | _, _, .nil => fun x hx => by cases hx
  | _, _, .cons h1 h2 h3 h4 h5 t => fun x hx => by
    rcases List.mem_cons.mp hx with rfl | hx
    · exact ⟨nested_of I sub _ h3 rfl h1, h2⟩
    · exact Ent.is I sub t x hx
theorem Ent.at {K : KW} {k : D} {nk : NestedKey} (hk : keyOf k = some nk) : ∀ {kvs : List (D × D)} {xs : List (NestedKey × Addr × Value)}, Ent K F kvs xs → match atKey xs nk with
    | none => lookD kvs k = none
    | some p => ∃ v vd, lookD kvs k = some vd ∧ RelV v p.2 ∧ Rp K F v vd
  | _, _, .nil => rfl
  | _, _, .cons (kd := kd) (vd := vd) (nk := nk') (b := b) (v := v) (u := u) (kvs := kvs) (xs := xs) h1 h2 h3 h4 h5 t => by
    by_cases e : nk' = nk
    · have e1 : atKey ((nk', b, u) :: xs) nk = some (b, u) := by simp [atKey, e]
      have e2 : lookD ((kd, vd) :: kvs) k = some vd := by simp [lookD, h1, hk, e]
      rw [e1]
      exact ⟨v, vd, e2, h4, h5⟩
    · have e1 : atKey ((nk', b, u) :: xs) nk = atKey xs nk := by simp [atKey, e]
      have e2 : lookD ((kd, vd) :: kvs) k = lookD kvs k := by simp [lookD, h1, hk, e]
      rw [e1, e2]
      exact Ent.at hk t
theorem Ent.length {K : KW} : ∀ {kvs : List (D × D)} {xs : List (NestedKey × Addr × Value)}, Ent K F kvs xs → kvs.length = xs.length
  | _, _, .nil => rfl
  | _, _, .cons _ _ _ _ _ t => by simp [Ent.length t]
theorem Ent.snoc {K : KW} {kd vd : D} {nk : NestedKey} {b : Addr} {v : V} {u : Value} (h1 : keyOf kd = some nk) (h2 : nk.depth ≤ 8) (h3 : Rp K F (.ref b) kd) (h4 : RelV v u) (h5 : Rp K F v vd) :
    ∀ {kvs : List (D × D)} {xs : List (NestedKey × Addr × Value)}, Ent K F kvs xs → Ent K F (kvs ++ [(kd, vd)]) (xs ++ [(nk, b, u)])
  | _, _, .nil => .cons h1 h2 h3 h4 h5 .nil
  | _, _, .cons g1 g2 g3 g4 g5 t => .cons g1 g2 g3 g4 g5 (Ent.snoc h1 h2 h3 h4 h5 t)
theorem Ent.over {K : KW} {k vd : D} {nk : NestedKey} {v : V} {u : Value} (hk : keyOf k = some nk) (h4 : RelV v u) (h5 : Rp K F v vd) :
    ∀ {kvs : List (D × D)} {xs : List (NestedKey × Addr × Value)}, Ent K F kvs xs → Ent K F (kvs.map fun p => if keyOf p.1 = keyOf k then (p.1, vd) else p) (xs.map (putAt nk u))
  | _, _, .nil => .nil
  | _, _, .cons (kd := kd) (vd := vd') (nk := nk') (b := b) (v := v') (u := u') (kvs := kvs) (xs := xs) g1 g2 g3 g4 g5 t => by
    rw [List.map_cons, List.map_cons]
    by_cases e : nk' = nk
    · have e1 : putAt nk u (nk', b, u') = (nk', b, u) := by simp [putAt, e]
      have e2 : (if keyOf (kd, vd').1 = keyOf k then ((kd, vd').1, vd) else (kd, vd')) = (kd, vd) := by simp [g1, hk, e]
      rw [e1, e2]
      exact .cons g1 g2 g3 h4 h5 (Ent.over hk h4 h5 t)
    · have e1 : putAt nk u (nk', b, u') = (nk', b, u') := by simp [putAt, e]
      have e2 : (if keyOf (kd, vd').1 = keyOf k then ((kd, vd').1, vd) else (kd, vd')) = (kd, vd') := by simp [g1, hk, e]
      rw [e1, e2]
      exact .cons g1 g2 g3 g4 g5 (Ent.over hk h4 h5 t)
theorem Ent.put {K : KW} {k vd : D} {nk : NestedKey} {b : Addr} {v : V} {u : Value} (hk : keyOf k = some nk) (h2 : nk.depth ≤ 8) (h3 : Rp K F (.ref b) k) (h4 : RelV v u) (h5 : Rp K F v vd) {kvs : List (D × D)} {xs : List (NestedKey × Addr × Value)} (t : Ent K F kvs xs) : Ent K F (putD kvs k vd) (storedH xs nk b u) := by
  have := t.at hk
  unfold putD storedH
  cases e : atKey xs nk with
  | none =>
    rw [e] at this
    have this : lookD kvs k = none := this
    rw [this]
    exact Ent.snoc hk h2 h3 h4 h5 t
  | some p =>
    rw [e] at this
    obtain ⟨v', vd', e1, _⟩ := this
    rw [e1]
    exact Ent.over hk h4 h5 t
/-- the dict as the library's rules take it -/
theorem dct_at {a : Addr} {kvs : List (D × D)} (I : Inv X pins σ H s) (sub : Sub F H) (h : CtAt (kwOf X) F H a (.dct kvs)) : ∃ xs, s.heap.DictOfH (nestedKind X.prog X.w) a xs ∧ Ent (kwOf X) F kvs xs ∧ (a == sysModules) = false := by
  obtain ⟨o, es, ep, xs, h1, h2, h3, h4, h5, h6, h7⟩ := h
  have ho : s.heap.get? a = some o := (show ObjOk X.prog X.w H s.heap a (dctO a o) from I.hok a _ h1).1
  exact ⟨xs, ⟨o, es, ep, ho, h2, h3, h5, h6.is I sub, h7⟩, h6, h4⟩
variable {a b : Addr} {kvs : List (D × D)} {k : D} {Q : Value → Shared → Prop} {E : Value → Shared → Prop}
theorem room_k (hu : X.A.units + 66 < cLine) : (nestedKind X.prog X.w).room X.A.in1 := by
  show X.A.units + 1 + 8 < cLine
  omega
theorem key_at (I : Inv X pins σ H s) (sub : Sub F H) (hk : keyB k = true) (r : Rp (kwOf X) F (.ref b) k) : ∃ nk, keyOf k = some nk ∧ nk.depth ≤ 8 ∧ (nestedKind X.prog X.w).is s.heap nk b := by
  obtain ⟨nk, e, h, _⟩ := keyB_of hk
  exact ⟨nk, e, h, nested_of I sub k r rfl e, h⟩
theorem dk_in (hu : X.A.units + 66 < cLine) (I : Inv X pins σ H s) (sub : Sub F H) (h : CtAt (kwOf X) F H a (.dct kvs)) (hk : keyB k = true) (r : Rp (kwOf X) F (.ref b) k)
    (q : ∀ t, Q (.bool (lookD kvs k).isSome) { s with toks := t }) : wpAny (model X.prog X.w) X.A (compareOp .In (.ref b) (.ref a)) Q E s := by
  obtain ⟨xs, hx, ht, hs⟩ := dct_at I sub h
  obtain ⟨nk, e, _, hkey⟩ := key_at I sub hk r
  refine in_keyed (room_k hu) hkey hs ⟨xs, hx, rfl⟩ ?_
  have := ht.at e
  rw [valueAt_pairsH, Option.isSome_map]
  cases ea : atKey xs nk with
  | none => rw [ea] at this; have this : lookD kvs k = none := this; have := this ▸ q; exact this _
  | some p =>
    rw [ea] at this
    obtain ⟨v, vd, e1, _⟩ := this
    have := e1 ▸ q
    exact this _
theorem dk_notin (hu : X.A.units + 66 < cLine) (I : Inv X pins σ H s) (sub : Sub F H) (h : CtAt (kwOf X) F H a (.dct kvs)) (hk : keyB k = true) (r : Rp (kwOf X) F (.ref b) k)
    (q : ∀ t, Q (.bool (!(lookD kvs k).isSome)) { s with toks := t }) : wpAny (model X.prog X.w) X.A (compareOp .NotIn (.ref b) (.ref a)) Q E s := by
  obtain ⟨xs, hx, ht, hs⟩ := dct_at I sub h
  obtain ⟨nk, e, _, hkey⟩ := key_at I sub hk r
  refine notIn_keyed (room_k hu) hkey hs ⟨xs, hx, rfl⟩ ?_
  have := ht.at e
  rw [valueAt_pairsH, Option.isSome_map]
  cases ea : atKey xs nk with
  | none => rw [ea] at this; have this : lookD kvs k = none := this; have := this ▸ q; exact this _
  | some p =>
    rw [ea] at this
    obtain ⟨v, vd, e1, _⟩ := this
    have := e1 ▸ q
    exact this _
theorem dk_get {vd : D} (hu : X.A.units + 66 < cLine) (I : Inv X pins σ H s) (sub : Sub F H) (h : CtAt (kwOf X) F H a (.dct kvs)) (hk : keyB k = true) (r : Rp (kwOf X) F (.ref b) k) (hv : lookD kvs k = some vd)
    (q : ∀ t v u, RelV v u → Rp (kwOf X) F v vd → Q u { s with toks := t }) : wpAny (model X.prog X.w) X.A (getItem (.ref a) (.ref b)) Q E s := by
  obtain ⟨xs, hx, ht, hs⟩ := dct_at I sub h
  obtain ⟨nk, e, _, hkey⟩ := key_at I sub hk r
  have := ht.at e
  cases ea : atKey xs nk with
  | none => rw [ea] at this; have this : lookD kvs k = none := this; rw [hv] at this; cases this
  | some p =>
    rw [ea] at this
    obtain ⟨v, vd', e1, rv, rp⟩ := this
    rw [hv] at e1; cases e1
    exact wpAny_getItem_heap (room_k hu) hkey hx ea (q _ v _ rv rp)
theorem dk_getOr {x : Value} (hu : X.A.units + 66 < cLine) (I : Inv X pins σ H s) (sub : Sub F H) (h : CtAt (kwOf X) F H a (.dct kvs)) (hk : keyB k = true) (r : Rp (kwOf X) F (.ref b) k)
    (q : ∀ t, match lookD kvs k with | some vd => ∀ v u, RelV v u → Rp (kwOf X) F v vd → Q u { s with toks := t } | none => Q x { s with toks := t }) : wpAny (model X.prog X.w) X.A (call (.builtin "dict.get") [.ref a, .ref b, x]) Q E s := by
  obtain ⟨xs, hx, ht, hs⟩ := dct_at I sub h
  obtain ⟨nk, e, _, hkey⟩ := key_at I sub hk r
  have := ht.at e
  refine getOr_keyed (room_k hu) hkey hs ⟨xs, hx, rfl⟩ ?_
  rw [valueAt_pairsH]
  cases ea : atKey xs nk with
  | none =>
    rw [ea] at this
    have this : lookD kvs k = none := this
    have := this ▸ q
    exact this _
  | some p =>
    rw [ea] at this
    obtain ⟨v, vd', e1, rv, rp⟩ := this
    have := e1 ▸ q
    exact this _ v _ rv rp
theorem dk_set {v : V} {u : Value} {vd : D} {Q : Unit → Shared → Prop} (hu : X.A.units + 66 < cLine) (I : Inv X pins σ H s) (sub : Sub F H) (h : CtAt (kwOf X) F H a (.dct kvs)) (hF : F a = none) (hk : keyB k = true) (r : Rp (kwOf X) F (.ref b) k) (rv : RelV v u) (rp : Rp (kwOf X) F v vd) (hz : kvs.length ≤ 1000000)
    (q : ∀ s' o, Inv X pins σ (upd H a (dctO a o)) s' → CtAt (kwOf X) F (upd H a (dctO a o)) a (.dct (putD kvs k vd)) → Q () s') : wpAny (model X.prog X.w) X.A (setItem (.ref a) (.ref b) u) Q E s := by
  have hc := h
  obtain ⟨xs, hx, ht, hs⟩ := dct_at I sub h
  obtain ⟨nk, e, hd, hkey⟩ := key_at I sub hk r
  obtain ⟨o0, es0, ep0, xs0, h1, _⟩ := hc
  refine wpAny_setItem_heap (hsz := by rw [← ht.length]; have : sizeLine = 16777216 := rfl; omega) (room_k hu) hkey hx fun h' hm hb => ?_
  obtain ⟨o, es, ep, ho, g2, g3, g4, g5, g6⟩ := hm
  have I2 : Inv X pins σ (upd H a (dctO a o)) { s with heap := h', toks := s.toks + (nestedKind X.prog X.w).draws nk } := by
    have hmut : Mut (H a) := by rw [h1]; exact trivial
    refine I.write (x := a) (e := a) hmut (.inl rfl) (fun b' u' hb' hu' => (hb.2 b' hb').trans hu') ⟨_, ho⟩ ?_
    exact ⟨ho, ⟨_, ho⟩, fun h1 h2 e k => k _ e⟩
  refine q _ o I2 ⟨o, es, ep, _, upd_same, g2, g3, hs, ?_, ht.put e hd r rv rp, g6⟩
  rw [g4]
  rfl
end
end GS
end

section
set_option Elab.async false
set_option linter.all false
set_option maxRecDepth 100000
set_option maxHeartbeats 2000000
namespace GS
open PySem PySem.Spec PyProof.Rows L2
/-- a tuple once, or the empty one so often: the same object -/
theorem tup_mul_same (l : Addr) (items : Array Value) (n : Nat) (x : Int) (u : Tok) (c0 : (decide (x < -(2 ^ 63)) || decide (x ≥ 2 ^ 63)) = false) (c1 : (items.isEmpty || x == 1) = true) :
    Meets (Builtin.«tuple.__mul__» ⟨[.ref l, .int x u], []⟩) (fun _ R s => (∃ dd sl, s.heap.get? l = some { cls := .type "tuple", dict := dd, data := .seq items n, slots := sl }) ∧ R (.ok (.ret (Value.ref l))) s) :=
  .of_wp fun prog w A R s h => by
    obtain ⟨hp, g, d, tk, os⟩ := s
    obtain ⟨⟨dd, sl, hl⟩, h⟩ := h
    have f1 := AutoSeq1.idx_int
    wp_walk using wpAny_loadPart' hl
    repeat (first
      | (refine wpAny_ite_false (decide_eq_false (by rw [c0]; exact Bool.false_ne_true)) ?_; wp_walk using wpAny_loadPart' hl)
      | (refine wpAny_ite_true (decide_eq_true (by rw [c1])) ?_; wp_walk using wpAny_loadPart' hl))
    exact ⟨_, rfl, h⟩
theorem tup_mul_none (l : Addr) (items : Array Value) (n : Nat) (x : Int) (u : Tok) (c0 : (decide (x < -(2 ^ 63)) || decide (x ≥ 2 ^ 63)) = false) (c1 : (items.isEmpty || x == 1) = false) (c2 : (decide (x ≤ 0) || items.isEmpty) = true) :
    Meets (Builtin.«tuple.__mul__» ⟨[.ref l, .int x u], []⟩) (fun _ R s => (∃ dd sl, s.heap.get? l = some { cls := .type "tuple", dict := dd, data := .seq items n, slots := sl }) ∧
      R (.ok (.ret (Value.ref s.heap.objs.size))) { s with heap := s.heap.push { cls := Value.type "tuple", data := Data.seq #[] }, toks := s.toks }) :=
  .of_wp fun prog w A R s h => by
    obtain ⟨hp, g, d, tk, os⟩ := s
    obtain ⟨⟨dd, sl, hl⟩, h⟩ := h
    have f1 := AutoSeq1.idx_int
    wp_walk using wpAny_loadPart' hl
    repeat (first
      | (refine wpAny_ite_false (decide_eq_false (by rw [c0]; exact Bool.false_ne_true)) ?_; wp_walk using wpAny_loadPart' hl)
      | (refine wpAny_ite_false (decide_eq_false (by rw [c1]; exact Bool.false_ne_true)) ?_; wp_walk using wpAny_loadPart' hl)
      | (refine wpAny_ite_true (decide_eq_true (by rw [c2])) ?_; wp_walk using wpAny_loadPart' hl))
    exact ⟨_, rfl, h⟩

theorem op_repTA {X : Cx} : OpR X (binaryOp .Mult) (fun x y H Q => ∃ l k xs, x = .ref l ∧ y = .int k ∧ SqT X.K H l xs ∧ 0 ≤ k ∧ k ≤ 1000 ∧ xs.length ≤ 1000 ∧ (xs = [] ∨ k = 1 → Q (.ref l) H) ∧
    (¬ (xs = [] ∨ k = 1) → ∀ p, H p = none → Q (.ref p) (upd H p (.tup (List.replicate k.toNat xs).flatten)))) := by
  intro pins s σ H x y v u Q I rx ry h
  obtain ⟨l, k, xs, rfl, rfl, hT, hk0, hk1, hz, q1, q2⟩ := h
  by_cases h2 : 2 ≤ k ∧ xs ≠ []
  · exact op_repT pins s σ H _ _ v u Q I rx ry ⟨l, k, xs, rfl, rfl, hT, h2.2, h2.1, hk1, hz, q2 (fun z => z.elim h2.2 (by omega))⟩
  cases rx
  obtain ⟨t, rfl⟩ := ry
  obtain ⟨its, r, ⟨⟨cls, dd, data, sl⟩, ho, hc, n, hd⟩, hs⟩ := I.tuple hT
  simp only at hc hd
  subst hc hd
  have hle : its.length = xs.length := r.length.symm
  have c0 : (decide (k < -(2 ^ 63)) || decide (k ≥ 2 ^ 63)) = false := by
    rw [decide_eq_false (by omega), decide_eq_false (by omega)] <;> rfl
  refine wpAny_binaryOp_repeat_ref (T := "tuple") (U := "int") (by decide) ⟨_, ho, rfl⟩ (fun s' => typeIs_int s' k t) noFill_tuple_mul F.fills_int_mul F.slot_int_rmul repeat_tuple F.slot_int_index.lookup
    (call_meets F.slot_int_rmul (typeIs_int s k t) F.entry_int_rmul (F.args_int_rmul_2 _ _) (int_rmul_tuple k t l its.toArray n dd sl) ⟨ho, rfl, ⟨_, ho, rfl⟩, ?_⟩)
  by_cases h1 : xs = [] ∨ k = 1
  · have c1 : (its.toArray.isEmpty || k == 1) = true := by
      rcases h1 with h1 | h1
      · subst h1
        have : its = [] := List.eq_nil_of_length_eq_zero hle
        subst this; rfl
      · subst h1; simp
    exact call_meets F.slot_tuple_mul ⟨_, ho, rfl⟩ F.entry_tuple_mul (F.args_tuple_mul_2 _ _) (tup_mul_same l its.toArray n k t c0 c1) ⟨⟨dd, sl, ho⟩, .ref l, H, I, rfl, q1 h1⟩
  · have hx : xs ≠ [] := fun z => h1 (.inl z)
    have hk : k = 0 := by
      have a1 : ¬ k = 1 := fun z => h1 (.inr z)
      have a2 : ¬ 2 ≤ k := fun z => h2 ⟨z, hx⟩
      omega
    subst hk
    have hi : its.toArray.isEmpty = false := by
      cases its with
      | nil => exact absurd (List.eq_nil_of_length_eq_zero hle.symm) hx
      | cons a b => rfl
    have c1 : (its.toArray.isEmpty || (0 : Int) == 1) = false := by rw [hi]; rfl
    have c2 : (decide ((0 : Int) ≤ 0) || its.toArray.isEmpty) = true := by rw [decide_eq_true (by omega)]; rfl
    refine call_meets F.slot_tuple_mul ⟨_, ho, rfl⟩ F.entry_tuple_mul (F.args_tuple_mul_2 _ _) (tup_mul_none l its.toArray n 0 t c0 c1 c2) ⟨⟨dd, sl, ho⟩, ?_⟩
    refine ⟨.ref s.heap.objs.size, _, I.laid (t' := s.toks) (o := .tup []) (fun b ob q => Heap.get?_push_of_some _ q) (Nat.le_refl _) ?_, rfl, q2 h1 _ (I.hok.fresh (Nat.le_refl _))⟩
    exact ⟨Nat.zero_le _, [], .nil, IsTup.new _ _⟩
end GS
end

section
set_option Elab.async false
set_option linter.all false
set_option maxRecDepth 100000
set_option maxHeartbeats 1000000
namespace GS
open PySem PySem.Spec PyProof.Rows L2

/-! ## syntax that the rules ask -/
def noStar : Expr → Bool
  | .Starred .. => false
  | _ => true
theorem star1 {e : Expr} {es : List Expr} {env : Env} (h : noStar e = true) : starEach (e :: es) env = (false, eval e env) :: starEach es env := by
  cases e <;> first | rfl | cases h
theorem star_any {env : Env} {pos : Pos} : ∀ {es : List Expr}, (es.all noStar) = true → (backTo pos (starEach es env)).any (·.1) = false
  | [], _ => rfl
  | e :: es, h => by
    rw [List.all_cons, Bool.and_eq_true] at h
    rw [star1 h.1]
    show (false || (backTo pos (starEach es env)).any (·.1)) = false
    rw [star_any h.2]; rfl
def plainVal : Expr → Bool
  | .ListComp .. => false
  | .SetComp .. => false
  | .DictComp .. => false
  | _ => true
theorem swaps_none {e : Expr} {t : Option Expr} {l : Nat} {env : Env} (h : plainVal e = true) : swapsWith e t l env = pure false := by
  cases e <;> first | rfl | cases h
def noSet : Expr → Bool
  | .Set .. => false
  | _ => true
theorem folded_none {e : Expr} {env : Env} (h : noSet e = true) : ∀ x, foldedSetIterable e env x = pure x := by
  intro x; cases e <;> first | rfl | cases h
def noSetList : Expr → Bool
  | .Set .. => false
  | .List .. => false
  | _ => true
theorem genFold_none {e : Expr} {env : Env} (h : noSetList e = true) : ∀ x, genFold e env x = pure x := by
  intro x; cases e <;> first | rfl | cases h
theorem mark_none {e : Expr} {op : CmpOp} (h : noSet e = true) : behindInMarks op e = false := by
  cases e <;> first | rfl | cases h
def plainTest : Expr → Bool
  | .UnaryOp .Not _ _ => false
  | .BoolOp .. => false
  | .IfExp .. => false
  | .Compare .. => false
  | _ => true
theorem isTrue_plain' {e : Expr} {env : Env} (h : plainTest e = true) : ∀ whole, isTrue e env whole = (do let v ← whole; standAt e.pos; holding [v] (truthy v)) := by
  intro whole
  cases e with
  | UnaryOp op x p => cases op <;> first | rfl | cases h
  | BoolOp _ _ _ => cases h
  | IfExp _ _ _ _ => cases h
  | Compare _ _ _ _ => cases h
  | _ => rfl
def noSlice : Expr → Bool
  | .Slice .. => false
  | _ => true
theorem plainIx {e : Expr} (h : noSlice e = true) : PlainIx e := by
  intro o i; cases e <;> first | rfl | cases h

section
variable {X : Cx} {C : DC} {pins : List (Addr × Obj)} {σ : L2.St} {H : Hp} {s : Shared}
theorem _root_.L2.Inv.rdLst {l : Addr} {xs : List V} (I : Inv X pins σ H s) (h : RdL X.K H l xs) : xs.length ≤ sizeLine ∧ ∃ (its : List Value) (n : Nat), Vals xs its ∧ xs.length = its.length ∧ s.heap.get? l = some { cls := .type "list", data := .seq its.toArray n } := by
  rcases h with h | ⟨its, n, h1, h2, h3⟩
  · obtain ⟨z, its, n, r, e⟩ := h.ok I.hok
    exact ⟨z, its, n, r, r.length, e⟩
  · exact ⟨h2, its, n, h3, h3.length, I.kIn _ _ h1⟩
/-- list + list, whatever stands there -/
theorem op_catL : OpR X (binaryOp .Add) (fun x y H Q => ∃ l b xs zs, x = .ref l ∧ y = .ref b ∧ RdL X.K H l xs ∧ RdL X.K H b zs ∧ xs.length + zs.length ≤ sizeLine ∧ ∀ p, H p = none → Q (.ref p) (upd H p (.lst (xs ++ zs)))) := by
  intro pins s σ H x y v u Q I rx ry h
  obtain ⟨l, b, xs, zs, rfl, rfl, hH, hB, hz, q⟩ := h
  cases rx
  cases ry
  obtain ⟨_, its, n, r, hl, e⟩ := I.rdLst hH
  obtain ⟨_, its2, n2, r2, hl2, e2⟩ := I.rdLst hB
  refine PySem.P.add_list e e2 ?_ (by rw [List.size_toArray, List.size_toArray]; omega)
  have ea : its.toArray ++ its2.toArray = (its ++ its2).toArray := by simp
  rw [ea]
  exact ⟨.ref _, _, I.lnew (t' := s.toks) (r.append r2) (by rw [List.length_append]; omega), rfl, q _ I.fresh⟩
theorem op_repL : OpR X (binaryOp .Mult) (fun x y H Q => ∃ l k xs, x = .ref l ∧ y = .int k ∧ RdL X.K H l xs ∧ -(2 ^ 63) ≤ k ∧ k < 2 ^ 63 ∧ xs.length * k.toNat ≤ sizeLine ∧ ∀ p, H p = none → Q (.ref p) (upd H p (.lst (List.replicate k.toNat xs).flatten))) := by
  intro pins s σ H x y v u Q I rx ry h
  obtain ⟨l, k, xs, rfl, rfl, hH, h1, h2, hz, q⟩ := h
  cases rx
  obtain ⟨t, rfl⟩ := ry
  obtain ⟨_, its, n, r, hl, e⟩ := I.rdLst hH
  have fits : its.toArray.size * k.toNat ≤ sizeLine := by rw [List.size_toArray, ← hl]; exact hz
  have cap : ¬ its.toArray.size * k.toNat > (2 ^ 63 - 1) / 8 := by
    have : (sizeLine : Nat) ≤ (2 ^ 63 - 1) / 8 := by decide
    omega
  have ix : ¬ (!Builtin.List.listFitsIndex k) = true := by
    rw [fitsIndex_both h1 h2]
    exact Bool.false_ne_true
  have long : ¬ Builtin.List.listTooLong (its.toArray.size * k.toNat) = true := by
    rw [notLongL fits]
    exact Bool.false_ne_true
  have made : List.foldl (fun x1 x2 => x1 ++ x2) #[] (List.replicate (if its.toArray.isEmpty = true then 0 else k.toNat) its.toArray) = (List.replicate k.toNat its).flatten.toArray := by
    have f0 : ∀ m : Nat, List.foldl (fun x1 x2 => x1 ++ x2) #[] (List.replicate m its.toArray) = (List.replicate m its).flatten.toArray := fun m => by
      have := foldl_rep its m []
      rw [List.nil_append] at this
      exact this
    rw [f0]
    cases its with
    | nil => simp
    | cons a r' => rw [if_neg (by simp)]
  refine wpAny_binaryOp_repeat_ref (T := "list") (U := "int") (by decide) ⟨_, e, rfl⟩ (fun s' => typeIs_int s' k t) noFill_list_mul F.fills_int_mul F.slot_int_rmul repeat_list F.slot_int_index.lookup
    (call_meets F.slot_int_rmul (typeIs_int s k t) F.entry_int_rmul (F.args_int_rmul_2 _ _) (int___rmul___int_list k t l its.toArray n)
      ⟨e, rfl, ⟨_, e, rfl⟩, call_meets F.slot_list_mul ⟨_, e, rfl⟩ F.entry_list_mul (F.args_list_mul_2 _ _) (AutoListH.list___mul___list_int_3 l its.toArray n k t ix cap long) ⟨e, ?_⟩⟩)
  rw [made]
  exact ⟨.ref _, _, I.lnew (t' := s.toks) (r.rep k.toNat) (by rw [PyProof.Rows.lm_len_rep_flat, Nat.mul_comm]; exact hz), rfl, q _ I.fresh⟩
end
theorem RpAll.rep {K : KW} {F : Hp} {vs : List V} {ds : List D} (h : RpAll K F vs ds) : ∀ n : Nat, RpAll K F (List.replicate n vs).flatten (List.replicate n ds).flatten
  | 0 => .nil
  | n + 1 => by
    rw [List.replicate_succ, List.replicate_succ, List.flatten_cons, List.flatten_cons]
    exact h.append (RpAll.rep h n)

/-! ## operators -/
/-- whatever the data say -/
def rB (K : KW) (bo : BO) : R2 := fun x y H Q => ∃ F dx dy W, Sub F H ∧ Vw K F H x dx ∧ Vw K F H y dy ∧ binW bo dx dy W ∧ ∀ o v H' F', W o → Nw K F H F' H' v o → Q v H'
def opOf : BO → Operator
  | .add => .Add
  | .sub => .Sub
  | .mul => .Mult
  | .fdiv => .FloorDiv
  | .mod => .Mod
  | .pow => .Pow
section
variable {X : Cx}
theorem op_fdivB : OpR X (binaryOp .FloorDiv) (rI DivOk fun i j => .int (i.fdiv j)) := by
  intro pins s σ H x y v u Q I rx ry h
  obtain ⟨i, j, rfl, rfl, hc, q⟩ := h
  rcases hc with hc | hc
  · exact op_fdivN pins s σ H _ _ v u Q I rx ry ⟨i, j, rfl, rfl, hc, q⟩
  · refine op_fdivW pins s σ H _ _ v u Q I rx ry ⟨i, j, rfl, rfl, hc, ?_⟩
    have h0 : (0 : Int) ≤ j := Int.le_of_lt hc.1
    have q : Q (V.int (i.fdiv j)) H := q
    rw [Int.fdiv_eq_ediv_of_nonneg i h0] at q
    exact q
theorem op_mulB : OpR X (binaryOp .Mult) (rI MulOk fun i j => .int (i * j)) := by
  intro pins s σ H x y v u Q I rx ry h
  obtain ⟨i, j, rfl, rfl, hc, q⟩ := h
  rcases hc with hc | hc | hc
  · exact op_mul pins s σ H _ _ v u Q I rx ry ⟨i, j, rfl, rfl, .inl hc, q⟩
  · exact op_mul pins s σ H _ _ v u Q I rx ry ⟨i, j, rfl, rfl, .inr hc, q⟩
  · exact op_mulW pins s σ H _ _ v u Q I rx ry ⟨i, j, rfl, rfl, hc, q⟩
theorem repT_small {xs : List V} : (List.replicate 0 xs).flatten = [] := rfl
theorem op_bin (bo : BO) : OpR X (binaryOp (opOf bo)) (rB (kwOf X) bo) := by
  intro pins s σ H x y v u Q I rx ry h
  obtain ⟨F, dx, dy, W, sub, vx, vy, hw, hq⟩ := h
  cases bo with
  | add =>
    cases dx <;> cases dy <;> first | exact hw.elim | skip
    · cases vx; cases vy
      exact op_add pins s σ H _ _ v u Q I rx ry ⟨_, _, rfl, rfl, hq _ _ _ _ hw (.flat (.int _))⟩
    · obtain ⟨hl, hw⟩ := hw
      obtain ⟨a, vs, rfl, h1, r1⟩ := vx
      obtain ⟨b, ws, rfl, h2, r2⟩ := vy
      exact op_catL pins s σ H _ _ v u Q I rx ry ⟨a, b, vs, ws, rfl, rfl, h1, h2, by rw [r1.length, r2.length]; exact hl, fun p hp => hq _ _ _ _ hw (.lst hp (r1.append r2))⟩
    · obtain ⟨hl, hw⟩ := hw
      cases vx with
      | tup h1 r1 =>
        cases vy with
        | tup h2 r2 =>
          refine op_catA pins s σ H _ _ v u Q I rx ry ⟨_, _, _, _, rfl, rfl, SqT.mono sub.le h1, SqT.mono sub.le h2, by rw [r1.length, r2.length]; exact hl, fun e => ?_, fun e1 e2 => ?_, fun _ _ p hp => hq _ _ _ _ hw (.tup hp (r1.append r2))⟩
          · subst e
            cases r1
            exact hq _ _ _ _ hw (.flat (.tup h2 r2))
          · subst e2
            cases r2
            rw [List.append_nil] at hw
            exact hq _ _ _ _ hw (.flat (.tup h1 r1))
  | sub =>
    cases dx <;> cases dy <;> first | exact hw.elim | skip
    cases vx; cases vy
    exact op_sub pins s σ H _ _ v u Q I rx ry ⟨_, _, rfl, rfl, hq _ _ _ _ hw (.flat (.int _))⟩
  | mul =>
    cases dx <;> cases dy <;> first | exact hw.elim | skip
    · cases vx; cases vy
      exact op_mulB pins s σ H _ _ v u Q I rx ry ⟨_, _, rfl, rfl, hw.1, hq _ _ _ _ hw.2 (.flat (.int _))⟩
    · obtain ⟨⟨h0, h1, h2⟩, hw⟩ := hw
      obtain ⟨a, vs, rfl, h3, r1⟩ := vx
      cases vy
      exact op_repL pins s σ H _ _ v u Q I rx ry ⟨a, _, vs, rfl, rfl, h3, by omega, by omega, by rw [r1.length]; exact h2, fun p hp => hq _ _ _ _ hw (.lst hp (r1.rep _))⟩
    · obtain ⟨⟨h0, h1, h2⟩, hw⟩ := hw
      cases vy
      cases vx with
      | tup h3 r1 =>
        rename_i l vs k
        refine op_repTA pins s σ H _ _ v u Q I rx ry ⟨_, _, _, rfl, rfl, SqT.mono sub.le h3, h0, h1, by rw [r1.length]; exact h2, fun e => ?_, fun _ p hp => hq _ _ _ _ hw (.tup hp (r1.rep _))⟩
        rcases e with e | e
        · subst e
          cases r1
          have e0 : (List.replicate (Int.toNat ‹Int›) ([] : List D)).flatten = [] := by simp
          rw [e0] at hw
          exact hq _ _ _ _ hw (.flat (.tup h3 .nil))
        · subst e
          have e1 : ∀ ds : List D, (List.replicate (Int.toNat 1) ds).flatten = ds := fun ds => by simp [List.replicate]
          rw [e1] at hw
          exact hq _ _ _ _ hw (.flat (.tup h3 r1))
  | fdiv =>
    cases dx <;> cases dy <;> first | exact hw.elim | skip
    cases vx; cases vy
    exact op_fdivB pins s σ H _ _ v u Q I rx ry ⟨_, _, rfl, rfl, hw.1, hq _ _ _ _ hw.2 (.flat (.int _))⟩
  | mod =>
    cases dx <;> cases dy <;> first | exact hw.elim | skip
    cases vx; cases vy
    exact op_modN pins s σ H _ _ v u Q I rx ry ⟨_, _, rfl, rfl, hw.1, hq _ _ _ _ hw.2 (.flat (.int _))⟩
  | pow =>
    cases dx <;> cases dy <;> first | exact hw.elim | skip
    cases vx; cases vy
    exact op_pow pins s σ H _ _ v u Q I rx ry ⟨_, _, rfl, rfl, hw.1, hq _ _ _ _ hw.2 (.flat (.int _))⟩
end
end GS
end

section
set_option Elab.async false
set_option linter.all false
set_option maxRecDepth 100000
set_option maxHeartbeats 1000000
namespace GS
open PySem PySem.Spec PyProof.Rows L2

/-! ## what each construct asks of the data, and that it keeps it -/
structure DK where
  nx : DEnv → Prop
  bk : DEnv → Prop
  ct : DEnv → Prop
  rt : Opd → DEnv → Prop
abbrev WT := DEnv → (Bool → DEnv → Prop) → Prop
abbrev WS := DEnv → DK → Prop
abbrev WG := D → DEnv → (DEnv → Prop) → Prop
abbrev WI := DEnv → (List D → DEnv → Prop) → Prop

def w2 (wa wb : WE) (K : D → D → (Opd → Prop) → Prop) : WE := fun Γ W => wa Γ fun oa Γ1 => wb Γ1 fun ob Γ2 => ∃ da db, oa.see Γ2 = some da ∧ ob.see Γ2 = some db ∧ K da db fun o => W o Γ2
def wBin (bo : BO) (wa wb : WE) : WE := w2 wa wb (binW bo)
/-- truth -/
def truD : D → Option Bool
  | .none => some false
  | .bool b => some b
  | .int i => some (i != 0)
  | .list ds => some (!ds.isEmpty)
  | .tuple ds => some (!ds.isEmpty)
  | _ => none
/-- the order of data alike -/
def ltW (x y : D) (W : Bool → Prop) : Prop := (PySem.W.alike x y = true ∧ x.depth ≤ 64 ∧ x ≠ .none) ∧ W (PySem.W.dataLt x y)
def hasD (x y : D) (W : Bool → Prop) : Prop := match y with
  | .tuple ys => (SeqAt.shaped x = true ∧ SeqAt.shaped (.tuple ys) = true) ∧ W (ys.any fun z => PyData.eqv z x)
  | .list ys => (SeqAt.shaped x = true ∧ SeqAt.shaped (.list ys) = true) ∧ W (ys.any fun z => PyData.eqv z x)
  | .dict kvs => keyB x = true ∧ W (lookD kvs x).isSome
  | _ => False
def intsW (f : Int → Int → Bool) (x y : D) (W : Bool → Prop) : Prop := match x, y with
  | .int i, .int j => W (f i j)
  | _, _ => False
def cmpO (op : CO) (x y : D) (W : Bool → Prop) : Prop := match op with
  | .eq => (SeqAt.shaped x = true ∧ SeqAt.shaped y = true) ∧ W (PyData.eqv x y)
  | .ne => (SeqAt.shaped x = true ∧ SeqAt.shaped y = true) ∧ W (!PyData.eqv x y)
  | .lt => ltW x y W
  | .le => intsW (fun i j => decide (i ≤ j)) x y W
  | .gt => intsW (fun i j => decide (j < i)) x y W
  | .ge => intsW (fun i j => decide (j ≤ i)) x y W
  | .inn => hasD x y W
  | .notin => hasD x y fun b => W (!b)
theorem hasD_mono {x y : D} {W W' : Bool → Prop} (h : hasD x y W) (i : ∀ b, W b → W' b) : hasD x y W' := by
  cases y <;> first | exact h.elim | exact ⟨h.1, i _ h.2⟩
theorem intsW_mono {f : Int → Int → Bool} {x y : D} {W W' : Bool → Prop} (h : intsW f x y W) (i : ∀ b, W b → W' b) : intsW f x y W' := by
  cases x <;> cases y <;> first | exact h.elim | exact i _ h
theorem cmpO_mono {op : CO} {x y : D} {W W' : Bool → Prop} (h : cmpO op x y W) (i : ∀ b, W b → W' b) : cmpO op x y W' := by
  cases op with
  | eq => exact ⟨h.1, i _ h.2⟩
  | ne => exact ⟨h.1, i _ h.2⟩
  | lt => exact ⟨h.1, i _ h.2⟩
  | le => exact intsW_mono (W := W) h i
  | gt => exact intsW_mono (W := W) h i
  | ge => exact intsW_mono (W := W) h i
  | inn => exact hasD_mono (W := W) h i
  | notin => exact hasD_mono (W := fun b => W (!b)) h fun b hb => i _ hb
def coOf : CO → CmpOp
  | .eq => .Eq
  | .ne => .NotEq
  | .lt => .Lt
  | .le => .LtE
  | .gt => .Gt
  | .ge => .GtE
  | .inn => .In
  | .notin => .NotIn
def wCmp (co : CO) (wa wb : WE) : WE := w2 wa wb fun x y K => cmpO co x y fun b => K (.val (.bool b))

section
variable {C : DC} {F H : Hp} {σ : L2.St} {Γ : DEnv}
theorem two {wa wb : WE} {K : Opd → Opd → DEnv → Prop} (ok : EnvOk C F H σ Γ) (h : wa Γ fun oa Γ1 => wb Γ1 fun ob Γ2 => K oa ob Γ2) {Q : V → V → Hp → Prop}
    (q : ∀ x y oa ob F2 H2 Γ2, EnvOk C F2 H2 σ Γ2 → Stp σ F H Γ F2 H2 Γ2 → ResOk C H F2 H2 σ Γ2 x oa → ResOk C H F2 H2 σ Γ2 y ob → K oa ob Γ2 → Q x y H2) :
    tD C wa σ H fun x H1 => tD C wb σ H1 fun y H2 => Q x y H2 :=
  ⟨F, Γ, _, ok, h, fun oa Γ1 x H1 F1 k1 ok1 st1 r1 => ⟨F1, Γ1, _, ok1, k1, fun ob Γ2 y H2 F2 k2 ok2 st2 r2 => q x y oa ob F2 H2 Γ2 ok2 (st1.trans st2) (r1.stp st2) (r2.base st1.free) k2⟩⟩
/-- the end of an operation -/
theorem fin_nw {F1 H1 F2 H2 : Hp} {Γ1 : DEnv} {v : V} {o : Opd} {W : Opd → DEnv → Prop} {Q : VK} (ok : EnvOk C F1 H1 σ Γ1) (st : Stp σ F H Γ F1 H1 Γ1) (n : Nw C.K F1 H1 F2 H2 v o) (hw : W o Γ1)
    (hq : ∀ o Γ' v H' F', W o Γ' → EnvOk C F' H' σ Γ' → Stp σ F H Γ F' H' Γ' → ResOk C H F' H' σ Γ' v o → Q v H') : Q v H2 := by
  obtain ⟨ok2, st2, r2⟩ := n.ok ok
  exact hq o Γ1 v H2 F2 hw ok2 (st.trans st2) (r2.base st.free)
end
section
variable {X : Cx} {C : DC} {a b : Expr} {wa wb : WE} {pos : Pos}
/-- an operator of two data -/
def r2W (K : KW) (Z : D → D → (Opd → Prop) → Prop) : R2 := fun x y H Q => ∃ F dx dy W, Sub F H ∧ Vw K F H x dx ∧ Vw K F H y dy ∧ Z dx dy W ∧ ∀ o v H' F', W o → Nw K F H F' H' v o → Q v H'
theorem t2_imp {Z : D → D → (Opd → Prop) → Prop} {σ : L2.St} {H : Hp} {Q : VK} (h : tD C (w2 wa wb Z) σ H Q) : tOp (r2W C.K Z) (tD C wa) (tD C wb) σ H Q := by
  obtain ⟨F, Γ, W, ok, hw, hq⟩ := h
  refine two ok hw fun x y oa ob F2 H2 Γ2 ok2 st ra rb h => ?_
  obtain ⟨da, db, ea, eb, hz⟩ := h
  exact ⟨F2, da, db, _, ok2.sub, ra.vw ok2 ea, rb.vw ok2 eb, hz, fun o v H' F' hw' n => fin_nw ok2 st n hw' hq⟩
theorem d_bin {op : Operator} (bo : BO) (e : opOf bo = op) (hK : kwOf X = C.K) (ha : PE X a (tD C wa)) (hb : PE X b (tD C wb)) : PE X (.BinOp a op b pos) (tD C (wBin bo wa wb)) := by
  subst e
  have h := op_bin (X := X) bo
  rw [hK] at h
  exact PE.imp (pe_op h ha hb) fun σ H Q h => t2_imp h

theorem Vw.rp {K : KW} {F H : Hp} {v : V} {d : D} (s : Sub F H) (h : Vw K F H v d) (sh : SeqAt.shaped d = true) : Rp K H v d :=
  h.dp s.le fun kvs e => by subst e; revert sh; simp [SeqAt.shaped, PyData.canLay0]
end
section
variable {X : Cx} {C : DC} {a b : Expr} {wa wb : WE} {pos : Pos}
theorem isD {K : KW} {F H : Hp} {v : V} {d : D} (s : Sub F H) (h : Vw K F H v d) (sh : SeqAt.shaped d = true) : Dp K H v d := Rp.dp (Vw.rp s h sh)
theorem alike_nodict {x y : D} (h : PySem.W.alike x y = true) : (∀ kvs, x ≠ .dict kvs) ∧ ∀ kvs, y ≠ .dict kvs := by
  constructor <;> intro kvs e <;> subst e
  · revert h; cases y <;> simp [PySem.W.alike]
  · revert h; cases x <;> simp [PySem.W.alike]
theorem op_ltD (hu : X.A.units + 66 < cLine) {pins : List (Addr × Obj)} {s : Shared} {σ : L2.St} {H : Hp} {x y : V} {v u : Value} {Q : Value → Shared → Prop} {E : Value → Shared → Prop} {dx dy : D} (I : Inv X pins σ H s) (rx : RelV x v) (ry : RelV y u) (hx : Dp X.K H x dx) (hy : Dp X.K H y dy)
    (h : PySem.W.alike dx dy = true ∧ dx.depth ≤ 64 ∧ dx ≠ .none) (q : Q (.bool (PySem.W.dataLt dx dy)) s) : wpAny (model X.prog X.w) X.A (compareOp .Lt v u) Q E s := by
  obtain ⟨as, r1⟩ := Dp.reads I dx x v hx rx
  obtain ⟨bs, r2⟩ := Dp.reads I dy y u hy ry
  have := Nat.min_le_left dx.depth dy.depth
  exact PySem.W.lt_data r1 r2 h.1 h.2.2 (by omega) q
theorem op_hasD (hu : X.A.units + 66 < cLine) {pins : List (Addr × Obj)} {s : Shared} {σ : L2.St} {H F : Hp} {x y : V} {v u : Value} {Q : Value → Shared → Prop} {E : Value → Shared → Prop} {dx dy : D} {W : Bool → Prop} (I : Inv X pins σ H s) (rx : RelV x v) (ry : RelV y u) (sub : Sub F H) (hx : Vw (kwOf X) F H x dx) (hy : Vw (kwOf X) F H y dy)
    (h : hasD dx dy W) (q' : ∀ b, W b → ∀ t, Q (.bool b) { s with toks := t }) : wpAny (model X.prog X.w) X.A (compareOp .In v u) Q E s := by
  have q : ∀ b, W b → Q (.bool b) s := fun b hb => q' b hb s.toks
  unfold hasD at h
  split at h
  · obtain ⟨⟨s1, s2⟩, h⟩ := h
    obtain ⟨as, r1⟩ := Dp.reads I dx x v (isD sub hx s1) rx
    obtain ⟨bs, r2⟩ := Dp.reads I _ y u (isD sub hy s2) ry
    exact SeqAt.in_tuple_reads r2 r1 (SeqAt.canLay_of_shaped s2) (SeqAt.canLay_of_shaped s1) (room_in_shaped s1 (by omega)) (q _ h)
  · obtain ⟨⟨s1, s2⟩, h⟩ := h
    obtain ⟨as, r1⟩ := Dp.reads I dx x v (isD sub hx s1) rx
    obtain ⟨bs, r2⟩ := Dp.reads I _ y u (isD sub hy s2) ry
    exact SeqAt.in_list_reads r2 r1 (SeqAt.canLay_of_shaped s2) (SeqAt.canLay_of_shaped s1) (room_in_shaped s1 (by omega)) (q _ h)
  · obtain ⟨hk, h⟩ := h
    obtain ⟨_, _, _, ds, rfl⟩ := keyB_of hk
    obtain ⟨a, rfl, hc⟩ := hy
    have hx : Rp (kwOf X) F x (.tuple ds) := hx
    cases hx with
    | tup h1 r1 =>
      cases rx; cases ry
      exact dk_in hu I sub hc hk (.tup h1 r1) (q' _ h)
  · exact h.elim
theorem op_hasntD (hu : X.A.units + 66 < cLine) {pins : List (Addr × Obj)} {s : Shared} {σ : L2.St} {H F : Hp} {x y : V} {v u : Value} {Q : Value → Shared → Prop} {E : Value → Shared → Prop} {dx dy : D} {W : Bool → Prop} (I : Inv X pins σ H s) (rx : RelV x v) (ry : RelV y u) (sub : Sub F H) (hx : Vw (kwOf X) F H x dx) (hy : Vw (kwOf X) F H y dy)
    (h : hasD dx dy W) (q' : ∀ b, W b → ∀ t, Q (.bool !b) { s with toks := t }) : wpAny (model X.prog X.w) X.A (compareOp .NotIn v u) Q E s := by
  have q : ∀ b, W b → Q (.bool !b) s := fun b hb => q' b hb s.toks
  unfold hasD at h
  split at h
  · obtain ⟨⟨s1, s2⟩, h⟩ := h
    obtain ⟨as, r1⟩ := Dp.reads I dx x v (isD sub hx s1) rx
    obtain ⟨bs, r2⟩ := Dp.reads I _ y u (isD sub hy s2) ry
    exact SeqAt.notIn_tuple_reads r2 r1 (SeqAt.canLay_of_shaped s2) (SeqAt.canLay_of_shaped s1) (room_in_shaped s1 (by omega)) (q _ h)
  · obtain ⟨⟨s1, s2⟩, h⟩ := h
    obtain ⟨as, r1⟩ := Dp.reads I dx x v (isD sub hx s1) rx
    obtain ⟨bs, r2⟩ := Dp.reads I _ y u (isD sub hy s2) ry
    exact SeqAt.notIn_list_reads r2 r1 (SeqAt.canLay_of_shaped s2) (SeqAt.canLay_of_shaped s1) (room_in_shaped s1 (by omega)) (q _ h)
  · obtain ⟨hk, h⟩ := h
    obtain ⟨_, _, _, ds, rfl⟩ := keyB_of hk
    obtain ⟨a, rfl, hc⟩ := hy
    have hx : Rp (kwOf X) F x (.tuple ds) := hx
    cases hx with
    | tup h1 r1 =>
      cases rx; cases ry
      exact dk_notin hu I sub hc hk (.tup h1 r1) (q' _ h)
  · exact h.elim
theorem op_cmp (hu : X.A.units + 66 < cLine) (co : CO) : OpR X (compareOp (coOf co)) (r2W (kwOf X) fun x y K => cmpO co x y fun b => K (.val (.bool b))) := by
  intro pins s σ H x y v u Q I rx ry h
  obtain ⟨F, dx, dy, W, sub, vx, vy, hw, hq⟩ := h
  have hq' : ∀ b, W (.val (.bool b)) → Q (.bl b) H := fun b hb => hq _ _ _ _ hb (.flat (.bl b))
  cases co with
  | eq =>
    obtain ⟨⟨s1, s2⟩, hw⟩ := hw
    exact op_eqD (by omega) pins s σ H _ _ v u Q I rx ry ⟨dx, dy, isD sub vx s1, isD sub vy s2, s1, s2, hq' _ hw⟩
  | ne =>
    obtain ⟨⟨s1, s2⟩, hw⟩ := hw
    exact op_neD (by omega) pins s σ H _ _ v u Q I rx ry ⟨dx, dy, isD sub vx s1, isD sub vy s2, s1, s2, hq' _ hw⟩
  | lt =>
    obtain ⟨hc, hw⟩ := hw
    exact op_ltD hu I rx ry (Rp.dp (vx.dp sub.le (alike_nodict hc.1).1)) (Rp.dp (vy.dp sub.le (alike_nodict hc.1).2)) hc ⟨.bl _, H, I, rfl, hq' _ hw⟩
  | le =>
    cases dx <;> cases dy <;> first | exact hw.elim | skip
    cases vx; cases vy
    exact op_le pins s σ H _ _ v u Q I rx ry ⟨_, _, rfl, rfl, hq' _ hw⟩
  | gt =>
    cases dx <;> cases dy <;> first | exact hw.elim | skip
    cases vx; cases vy
    exact op_gt pins s σ H _ _ v u Q I rx ry ⟨_, _, rfl, rfl, hq' _ hw⟩
  | ge =>
    cases dx <;> cases dy <;> first | exact hw.elim | skip
    cases vx; cases vy
    exact op_ge pins s σ H _ _ v u Q I rx ry ⟨_, _, rfl, rfl, hq' _ hw⟩
  | inn => exact op_hasD (W := fun b => W (.val (.bool b))) hu I rx ry sub vx vy hw fun b hb t => ⟨.bl _, H, I.tok t, rfl, hq' _ hb⟩
  | notin => exact op_hasntD (W := fun b => W (.val (.bool (!b)))) hu I rx ry sub vx vy hw fun b hb t => ⟨.bl _, H, I.tok t, rfl, hq' _ hb⟩
theorem room_u {k : Nat} {A : Around} (r : Room k A) : A.units + 66 < cLine := by have := r.un; omega
theorem d_cmp {k : Nat} {op : CmpOp} (co : CO) (e : coOf co = op) (hK : kwOf X = C.K) (hr : Room k X.A) (hm : noSet b = true) (ha : PE X a (tD C wa)) (hb : PE X b (tD C wb)) : PE X (.Compare a [op] [b] pos) (tD C (wCmp co wa wb)) := by
  subst e
  have h := op_cmp (X := X) (room_u hr) co
  rw [hK] at h
  exact PE.imp (pe_cmpR h ha hb (mark_none hm)) fun σ H Q h => t2_imp h
/-- a test from a value that is a Bool -/
def wTst (w : WE) : WT := fun Γ W => w Γ fun o Γ1 => ∃ b, o = .val (.bool b) ∧ W b Γ1
theorem tst_imp {w : WE} {σ : L2.St} {H : Hp} {Q : Bool → Hp → Prop} (h : tDT C (wTst w) σ H Q) : tD C w σ H fun x H' => ∃ k, x = .bl k ∧ Q k H' := by
  obtain ⟨F, Γ, W, ok, hw, hq⟩ := h
  refine ⟨F, Γ, _, ok, hw, fun o Γ' v H' F' h1 ok1 st1 r1 => ?_⟩
  obtain ⟨b, rfl, h1⟩ := h1
  cases r1
  exact ⟨b, rfl, hq b Γ' H' F' h1 ok1 st1⟩
theorem d_tcmp {k : Nat} {op : CmpOp} (co : CO) (e : coOf co = op) (hK : kwOf X = C.K) (hr : Room k X.A) (hm : noSet b = true) (ha : PE X a (tD C wa)) (hb : PE X b (tD C wb)) : PT X (.Compare a [op] [b] pos) (tDT C (wTst (wCmp co wa wb))) := by
  subst e
  have h := op_cmp (X := X) (room_u hr) co
  rw [hK] at h
  refine PT.imp (pt_cmpR h ha hb (mark_none hm)) fun σ H Q h => ?_
  have h1 := tst_imp h
  exact t2_imp h1
end
end GS
end

section
set_option Elab.async false
set_option linter.all false
set_option maxRecDepth 100000
set_option maxHeartbeats 1000000
namespace GS
open PySem PySem.Spec PyProof.Rows L2

/-! ## signs, truths, branches -/
def w1 (we : WE) (Z : D → (Opd → Prop) → Prop) : WE := fun Γ W => we Γ fun o Γ1 => ∃ d, o.see Γ1 = some d ∧ Z d fun o => W o Γ1
def r1W (K : KW) (Z : D → (Opd → Prop) → Prop) : V → Hp → VK → Prop := fun x H Q => ∃ F d W, Sub F H ∧ Vw K F H x d ∧ Z d W ∧ ∀ o v H' F', W o → Nw K F H F' H' v o → Q v H'
def negW (d : D) (W : Opd → Prop) : Prop := match d with
  | .int i => W (.val (.int (-i)))
  | _ => False
def isNoneD : D → Bool
  | .none => true
  | _ => false
def isNW (neg : Bool) (d : D) (W : Opd → Prop) : Prop := W (.val (.bool (if neg then !isNoneD d else isNoneD d)))
def wNot (w : WE) : WE := fun Γ W => w Γ fun o Γ1 => ∃ b, o = .val (.bool b) ∧ W (.val (.bool !b)) Γ1
def wAnd (wa wb : WE) : WE := fun Γ W => wa Γ fun o Γ1 => ∃ b, o = .val (.bool b) ∧ if b = true then wb Γ1 W else W (.val (.bool false)) Γ1
def wOr (wa wb : WE) : WE := fun Γ W => wa Γ fun o Γ1 => ∃ b, o = .val (.bool b) ∧ if b = true then W (.val (.bool true)) Γ1 else wb Γ1 W
def wtTru (w : WE) : WT := fun Γ W => w Γ fun o Γ1 => ∃ d b, o.see Γ1 = some d ∧ truD d = some b ∧ W b Γ1
def wtNot (w : WT) : WT := fun Γ W => w Γ fun b Γ1 => W (!b) Γ1
def wtAnd (wa wb : WT) : WT := fun Γ W => wa Γ fun b Γ1 => if b = true then wb Γ1 W else W false Γ1
def wtOr (wa wb : WT) : WT := fun Γ W => wa Γ fun b Γ1 => if b = true then W true Γ1 else wb Γ1 W
def wIfe (wt : WT) (wa wb : WE) : WE := fun Γ W => wt Γ fun b Γ1 => if b = true then wa Γ1 W else wb Γ1 W
theorem PW.imp {X : Cx} {e : Expr} {t t' : TT} (h : PW X e t) (i : ∀ σ H Q, t' σ H Q → t σ H Q) : PW X e t' := ⟨fun wh pins s σ H Q I q => h.run wh pins s σ H Q I (i σ H Q q)⟩
section
variable {X : Cx} {C : DC} {a b c : Expr} {wa wb wc : WE} {ta tb : WT} {pos : Pos} {σ : L2.St} {H : Hp}
theorem t1_imp {Z : D → (Opd → Prop) → Prop} {Q : VK} (h : tD C (w1 wa Z) σ H Q) : tD C wa σ H fun x H1 => r1W C.K Z x H1 Q := by
  obtain ⟨F, Γ, W, ok, hw, hq⟩ := h
  refine ⟨F, Γ, _, ok, hw, fun o Γ1 v H1 F1 h1 ok1 st1 r1 => ?_⟩
  obtain ⟨d, e, hz⟩ := h1
  exact ⟨F1, d, _, ok1.sub, r1.vw ok1 e, hz, fun o v H' F' hw' n => fin_nw ok1 st1 n hw' hq⟩
theorem d_neg (ha : PE X a (tD C wa)) : PE X (.UnaryOp .USub a pos) (tD C (w1 wa negW)) := by
  refine PE.imp (pe_un un_neg ha) fun σ H Q h => ?_
  obtain ⟨F, Γ, W, ok, hw, hq⟩ := h
  refine ⟨F, Γ, _, ok, hw, fun o Γ1 v H1 F1 h1 ok1 st1 r1 => ?_⟩
  obtain ⟨d, e, hz⟩ := h1
  have vw := r1.vw ok1 e
  cases d <;> first | exact hz.elim | skip
  cases vw
  exact ⟨_, rfl, fin_nw ok1 st1 (.flat (.int _)) hz hq⟩
theorem none_dec {K : KW} {F H : Hp} {x : V} {d : D} (h : Vw K F H x d) : decide (x = V.non) = isNoneD d := by
  cases d with
  | none => cases h; rfl
  | bool b => cases h; rfl
  | int i => cases h; rfl
  | str x => cases h; rfl
  | list ds => obtain ⟨a, vs, rfl, _⟩ := h; rfl
  | tuple ds => cases h; rfl
  | dict kvs => obtain ⟨a, rfl, _⟩ := h; rfl
theorem d_isN {j : Nat} {pos' : Pos} (ha : PE X a (tD C wa)) : PE X (.Compare a [.Is] [.Constant .none j pos'] pos) (tD C (w1 wa (isNW false))) := by
  refine PE.imp (pe_cmp (pc_isN ha) rfl) fun σ H Q h => ?_
  obtain ⟨F, Γ, W, ok, hw, hq⟩ := h
  refine ⟨F, Γ, _, ok, hw, fun o Γ1 v H1 F1 h1 ok1 st1 r1 => ?_⟩
  obtain ⟨d, e, hz⟩ := h1
  rw [none_dec (r1.vw ok1 e)]
  exact fin_nw ok1 st1 (.flat (.bl _)) hz hq
theorem d_notN {j : Nat} {pos' : Pos} (ha : PE X a (tD C wa)) : PE X (.Compare a [.IsNot] [.Constant .none j pos'] pos) (tD C (w1 wa (isNW true))) := by
  refine PE.imp (pe_cmp (pc_notN ha) rfl) fun σ H Q h => ?_
  obtain ⟨F, Γ, W, ok, hw, hq⟩ := h
  refine ⟨F, Γ, _, ok, hw, fun o Γ1 v H1 F1 h1 ok1 st1 r1 => ?_⟩
  obtain ⟨d, e, hz⟩ := h1
  rw [none_dec (r1.vw ok1 e)]
  exact fin_nw ok1 st1 (.flat (.bl _)) hz hq
theorem d_tisN {j : Nat} {pos' : Pos} (ha : PE X a (tD C wa)) : PT X (.Compare a [.Is] [.Constant .none j pos'] pos) (tDT C (wTst (w1 wa (isNW false)))) := by
  refine PT.imp (pt_cmp (pc_isN ha) rfl) fun σ H Q h => ?_
  have h1 := tst_imp h
  obtain ⟨F, Γ, W, ok, hw, hq⟩ := h1
  refine ⟨F, Γ, _, ok, hw, fun o Γ1 v H1 F1 h1 ok1 st1 r1 => ?_⟩
  obtain ⟨d, e, hz⟩ := h1
  rw [none_dec (r1.vw ok1 e)]
  exact fin_nw ok1 st1 (.flat (.bl _)) hz hq
theorem d_tnotN {j : Nat} {pos' : Pos} (ha : PE X a (tD C wa)) : PT X (.Compare a [.IsNot] [.Constant .none j pos'] pos) (tDT C (wTst (w1 wa (isNW true)))) := by
  refine PT.imp (pt_cmp (pc_notN ha) rfl) fun σ H Q h => ?_
  have h1 := tst_imp h
  obtain ⟨F, Γ, W, ok, hw, hq⟩ := h1
  refine ⟨F, Γ, _, ok, hw, fun o Γ1 v H1 F1 h1 ok1 st1 r1 => ?_⟩
  obtain ⟨d, e, hz⟩ := h1
  rw [none_dec (r1.vw ok1 e)]
  exact fin_nw ok1 st1 (.flat (.bl _)) hz hq
theorem d_not (ha : PE X a (tD C wa)) : PE X (.UnaryOp .Not a pos) (tD C (wNot wa)) := by
  refine PE.imp (pe_not ha) fun σ H Q h => ?_
  obtain ⟨F, Γ, W, ok, hw, hq⟩ := h
  refine ⟨F, Γ, _, ok, hw, fun o Γ1 v H1 F1 h1 ok1 st1 r1 => ?_⟩
  obtain ⟨b, rfl, hz⟩ := h1
  cases r1
  exact ⟨b, rfl, fin_nw ok1 st1 (.flat (.bl _)) hz hq⟩
/-- go on in a later state -/
theorem go_on {F F1 H1 : Hp} {Γ Γ1 : DEnv} {we : WE} {W : Opd → DEnv → Prop} {Q : VK} (ok : EnvOk C F1 H1 σ Γ1) (st : Stp σ F H Γ F1 H1 Γ1) (h : we Γ1 W)
    (hq : ∀ o Γ' v H' F', W o Γ' → EnvOk C F' H' σ Γ' → Stp σ F H Γ F' H' Γ' → ResOk C H F' H' σ Γ' v o → Q v H') : tD C we σ H1 Q :=
  ⟨F1, Γ1, W, ok, h, fun o Γ2 v H2 F2 h2 ok2 st2 r2 => hq o Γ2 v H2 F2 h2 ok2 (st.trans st2) (r2.base st.free)⟩
theorem go_onT {F F1 H1 : Hp} {Γ Γ1 : DEnv} {wt : WT} {W : Bool → DEnv → Prop} {Q : Bool → Hp → Prop} (ok : EnvOk C F1 H1 σ Γ1) (st : Stp σ F H Γ F1 H1 Γ1) (h : wt Γ1 W)
    (hq : ∀ b Γ' H' F', W b Γ' → EnvOk C F' H' σ Γ' → Stp σ F H Γ F' H' Γ' → Q b H') : tDT C wt σ H1 Q :=
  ⟨F1, Γ1, W, ok, h, fun o Γ2 H2 F2 h2 ok2 st2 => hq o Γ2 H2 F2 h2 ok2 (st.trans st2)⟩
theorem d_and {rest : List Expr} (ha : PE X a (tD C wa)) (hb : PE X (.BoolOp .And (b :: rest) pos) (tD C wb)) : PE X (.BoolOp .And (a :: b :: rest) pos) (tD C (wAnd wa wb)) := by
  refine PE.imp (pe_and ha hb) fun σ H Q h => ?_
  obtain ⟨F, Γ, W, ok, hw, hq⟩ := h
  refine ⟨F, Γ, _, ok, hw, fun o Γ1 v H1 F1 h1 ok1 st1 r1 => ?_⟩
  obtain ⟨b, rfl, hz⟩ := h1
  cases r1
  refine ⟨b, rfl, ?_⟩
  cases b with
  | true => exact go_on ok1 st1 hz hq
  | false => exact fin_nw ok1 st1 (.flat (.bl _)) hz hq
theorem d_or {rest : List Expr} (ha : PE X a (tD C wa)) (hb : PE X (.BoolOp .Or (b :: rest) pos) (tD C wb)) : PE X (.BoolOp .Or (a :: b :: rest) pos) (tD C (wOr wa wb)) := by
  refine PE.imp (pe_or ha hb) fun σ H Q h => ?_
  obtain ⟨F, Γ, W, ok, hw, hq⟩ := h
  refine ⟨F, Γ, _, ok, hw, fun o Γ1 v H1 F1 h1 ok1 st1 r1 => ?_⟩
  obtain ⟨b, rfl, hz⟩ := h1
  cases r1
  refine ⟨b, rfl, ?_⟩
  cases b with
  | false => exact go_on ok1 st1 hz hq
  | true => exact fin_nw ok1 st1 (.flat (.bl _)) hz hq
theorem d_one {op : BoolOp} (ha : PE X a (tD C wa)) : PE X (.BoolOp op [a] pos) (tD C wa) := pe_one ha
theorem d_tval (hp : plainTest a = true) (ha : PE X a (tD C wa)) : PT X a (tDT C (wTst wa)) := by
  refine PT.imp (pt_val ha (isTrue_plain' hp)) fun σ H Q h => tst_imp h
theorem d_ttru (hK : kwOf X = C.K) (hp : plainTest a = true) (ha : PE X a (tD C wa)) : PT X a (tDT C (wtTru wa)) := by
  refine PT.imp (pt_truth ha (isTrue_plain' hp)) fun σ H Q h => ?_
  obtain ⟨F, Γ, W, ok, hw, hq⟩ := h
  refine ⟨F, Γ, _, ok, hw, fun o Γ1 v H1 F1 h1 ok1 st1 r1 => ?_⟩
  obtain ⟨d, b, e, ht, hz⟩ := h1
  refine ⟨b, ?_, hq b Γ1 H1 F1 hz ok1 st1⟩
  have vw := r1.vw ok1 e
  rw [kk hK]
  cases d with
  | none => cases vw; cases ht; rfl
  | bool k => cases vw; cases ht; rfl
  | int i => cases vw; cases ht; rfl
  | str x => cases ht
  | dict kvs => cases ht
  | list ds =>
    obtain ⟨p, vs, rfl, h1, r⟩ := vw
    cases ht
    exact .inl ⟨vs, h1.sql, by cases r <;> rfl⟩
  | tuple ds =>
    cases ht
    cases vw with
    | tup h1 r => exact .inr (.inl ⟨_, SqT.mono ok1.sub.le h1, by cases r <;> rfl⟩)
theorem d_tnot (ha : PT X a (tDT C ta)) : PT X (.UnaryOp .Not a pos) (tDT C (wtNot ta)) := by
  refine PT.imp (pt_not ha) fun σ H Q h => ?_
  obtain ⟨F, Γ, W, ok, hw, hq⟩ := h
  exact ⟨F, Γ, _, ok, hw, fun b Γ1 H1 F1 h1 ok1 st1 => hq _ Γ1 H1 F1 h1 ok1 st1⟩
theorem d_wand1 (ha : PT X a (tDT C ta)) : PW X (.BoolOp .And [a] pos) (tDT C ta) := pw_and1 ha
theorem d_wor1 (ha : PT X a (tDT C ta)) : PW X (.BoolOp .Or [a] pos) (tDT C ta) := pw_or1 ha
theorem d_wand {rest : List Expr} (ha : PT X a (tDT C ta)) (hb : PW X (.BoolOp .And (b :: rest) pos) (tDT C tb)) : PW X (.BoolOp .And (a :: b :: rest) pos) (tDT C (wtAnd ta tb)) := by
  refine PW.imp (pw_and ha hb) fun σ H Q h => ?_
  obtain ⟨F, Γ, W, ok, hw, hq⟩ := h
  refine ⟨F, Γ, _, ok, hw, fun b Γ1 H1 F1 h1 ok1 st1 => ?_⟩
  cases b with
  | true => exact go_onT ok1 st1 h1 hq
  | false => exact hq _ Γ1 H1 F1 h1 ok1 st1
theorem d_wor {rest : List Expr} (ha : PT X a (tDT C ta)) (hb : PW X (.BoolOp .Or (b :: rest) pos) (tDT C tb)) : PW X (.BoolOp .Or (a :: b :: rest) pos) (tDT C (wtOr ta tb)) := by
  refine PW.imp (pw_or ha hb) fun σ H Q h => ?_
  obtain ⟨F, Γ, W, ok, hw, hq⟩ := h
  refine ⟨F, Γ, _, ok, hw, fun b Γ1 H1 F1 h1 ok1 st1 => ?_⟩
  cases b with
  | false => exact go_onT ok1 st1 h1 hq
  | true => exact hq _ Γ1 H1 F1 h1 ok1 st1
theorem d_ife (hc : PT X c (tDT C ta)) (ha : PE X a (tD C wa)) (hb : PE X b (tD C wb)) : PE X (.IfExp c a b pos) (tD C (wIfe ta wa wb)) := by
  refine PE.imp (pe_ifExp hc ha hb) fun σ H Q h => ?_
  obtain ⟨F, Γ, W, ok, hw, hq⟩ := h
  refine ⟨F, Γ, _, ok, hw, fun b Γ1 H1 F1 h1 ok1 st1 => ?_⟩
  cases b with
  | true => exact go_on ok1 st1 h1 hq
  | false => exact go_on ok1 st1 h1 hq
/-! ## chains -/
def wChn (o1 o2 : CO) (wa wb wc : WE) : WE := fun Γ W => wa Γ fun oa Γ1 => wb Γ1 fun ob Γ2 => ∃ da db, oa.see Γ2 = some da ∧ ob.see Γ2 = some db ∧ cmpO o1 da db fun k =>
  if k = true then wc Γ2 fun oc Γ3 => ∃ db dc, ob.see Γ3 = some db ∧ oc.see Γ3 = some dc ∧ cmpO o2 db dc fun k => W (.val (.bool k)) Γ3 else W (.val (.bool false)) Γ2
theorem chn_imp {o1 o2 : CO} {Q : VK} (h : tD C (wChn o1 o2 wa wb wc) σ H Q) : tChain (r2W C.K fun x y K => cmpO o1 x y fun b => K (.val (.bool b))) (r2W C.K fun x y K => cmpO o2 x y fun b => K (.val (.bool b))) (tD C wa) (tD C wb) (tD C wc) σ H Q := by
  obtain ⟨F, Γ, W, ok, hw, hq⟩ := h
  refine two ok hw fun x y oa ob F2 H2 Γ2 ok2 st ra rb h => ?_
  obtain ⟨da, db, ea, eb, hz⟩ := h
  refine ⟨F2, da, db, fun o => ∃ k, o = .val (.bool k) ∧ if k = true then wc Γ2 fun oc Γ3 => ∃ db dc, ob.see Γ3 = some db ∧ oc.see Γ3 = some dc ∧ cmpO o2 db dc fun k => W (.val (.bool k)) Γ3 else W (.val (.bool false)) Γ2, ok2.sub, ra.vw ok2 ea, rb.vw ok2 eb, ?_, fun o v H' F' hw' n => ?_⟩
  · refine cmpO_mono hz fun k h => ⟨k, rfl, h⟩
  · obtain ⟨k, rfl, h⟩ := hw'
    cases n with
    | flat r =>
      cases r
      refine ⟨k, rfl, ?_⟩
      cases k with
      | false => exact fin_nw ok2 st (.flat (.bl _)) h hq
      | true =>
        refine ⟨F2, Γ2, _, ok2, h, fun oc Γ3 u H3 F3 h3 ok3 st3 r3 => ?_⟩
        obtain ⟨db', dc, eb', ec, hz'⟩ := h3
        exact ⟨F3, db', dc, _, ok3.sub, (rb.stp st3).vw ok3 eb', r3.vw ok3 ec, hz', fun o v H' F' hw' n => fin_nw ok3 (st.trans st3) n hw' hq⟩
end
end GS
end

section
set_option Elab.async false
set_option linter.all false
set_option maxRecDepth 100000
set_option maxHeartbeats 1000000
namespace GS
open PySem PySem.Spec PyProof.Rows L2

/-! ## rows of values, displays -/
abbrev WV := DEnv → (List D → DEnv → Prop) → Prop
def tDV (C : DC) (w : WV) : TA := fun σ H Q => ∃ F Γ W, EnvOk C F H σ Γ ∧ w Γ W ∧ ∀ ds Γ' vs H' F', W ds Γ' → EnvOk C F' H' σ Γ' → Stp σ F H Γ F' H' Γ' → RpAll C.K F' vs ds → Q vs H'
def wvNil : WV := fun Γ W => W [] Γ
def wvCons (we : WE) (ws : WV) : WV := fun Γ W => we Γ fun o Γ1 => o.frz Γ1 fun d Γ2 => ws Γ2 fun ds Γ3 => W (d :: ds) Γ3
def wTup (w : WV) : WE := fun Γ W => w Γ fun ds Γ1 => ds.length ≤ sizeLine ∧ W (.val (.tuple ds)) Γ1
def wLst (w : WV) : WE := fun Γ W => w Γ fun ds Γ1 => ds.length ≤ sizeLine ∧ W (.new (.lst ds)) Γ1
section
variable {X : Cx} {C : DC} {e : Expr} {es : List Expr} {we wa wb : WE} {ws : WV} {pos : Pos} {σ : L2.St} {H : Hp}
theorem v_nil : PA X [] (tDV C wvNil) := by
  refine PA.imp pa_nil fun σ H Q h => ?_
  obtain ⟨F, Γ, W, ok, hw, hq⟩ := h
  exact hq [] Γ [] H F hw ok (Stp.refl ..) .nil
theorem v_cons (hn : noStar e = true) (he : PE X e (tD C we)) (hs : PA X es (tDV C ws)) : PA X (e :: es) (tDV C (wvCons we ws)) := by
  refine PA.imp (pa_cons he hs (star1 hn)) fun σ H Q h => ?_
  obtain ⟨F, Γ, W, ok, hw, hq⟩ := h
  refine ⟨F, Γ, _, ok, hw, fun o Γ1 v H1 F1 h1 ok1 st1 r1 => ?_⟩
  obtain ⟨d, F2, Γ2, h2, ok2, st2, r2, _⟩ := ResOk.frz r1 ok1 st1 h1
  exact ⟨F2, Γ2, _, ok2, h2, fun ds Γ3 vs H3 F3 h3 ok3 st3 r3 => hq _ Γ3 _ H3 F3 h3 ok3 (st2.trans st3) (.cons (r2.mono st3.le) r3)⟩
theorem d_tup {x1 : Nat} (h : PA X es (tDV C ws)) : PE X (.Tuple es x1 pos) (tD C (wTup ws)) := by
  refine PE.imp (pe_tup h) fun σ H Q h => ?_
  obtain ⟨F, Γ, W, ok, hw, hq⟩ := h
  refine ⟨F, Γ, _, ok, hw, fun ds Γ1 vs H1 F1 h1 ok1 st1 r1 => ⟨by rw [r1.length]; exact h1.1, fun p hp => fin_nw ok1 st1 (.tup hp r1) h1.2 hq⟩⟩
theorem d_lst (h : PA X es (tDV C ws)) : PE X (.List es pos) (tD C (wLst ws)) := by
  refine PE.imp (pe_lst h) fun σ H Q h => ?_
  obtain ⟨F, Γ, W, ok, hw, hq⟩ := h
  refine ⟨F, Γ, _, ok, hw, fun ds Γ1 vs H1 F1 h1 ok1 st1 r1 => ⟨by rw [r1.length]; exact h1.1, fun p hp => fin_nw ok1 st1 (.lst hp r1) h1.2 hq⟩⟩

/-! ## items, cuts -/
def ixW (x i : D) (K : (Opd → Prop)) : Prop := match x with
  | .dict kvs => ∃ d, keyB i = true ∧ lookD kvs i = some d ∧ K (.val d)
  | x => idxW x i fun d => K (.val d)
theorem tail_of {value slice : Expr} {o i : Value} {T id : String} {s : Shared} {Q : Value → Shared → Prop} {E : Value → Shared → Prop} (hT : s.TypeIs o T) (hl : typeLookup (.type T) "__getitem__" = pure (some (.builtin id))) (hs : subscripted slice false o i = operate [o, i] (getItem o i))
    (h : wpAny (model X.prog X.w) X.A (getItem o i) Q E s) : wpAny (model X.prog X.w) X.A (subscriptTail value slice o i) Q E s := by
  have last : wpAny (model X.prog X.w) X.A (subscripted slice false o i) (fun r s' => wpAny (model X.prog X.w) X.A (letTemporaryGo value o r >>= fun _ => pure r) Q E s') E s := by
    rw [hs]
    exact wpAny_operating (thn h fun r s' k => wpAny_bind (wpAny_letTemporaryGo (wpAny_pure k)))
  unfold subscriptTail
  refine wpAny_bind ?_
  rw [getitemInPython_of_ne hT.not_modules]
  refine wpAny_bind (wpAny_specialOf hT hl ?_)
  first
    | exact wpAny_pure (wpAny_bind last)
    | exact wpAny_bind (wpAny_pure (wpAny_bind last))
    | exact wpAny_bind last
theorem ix_any {k : Nat} (hr : Room k X.A) : IxR X (r2W (kwOf X) ixW) := by
  intro value slice pins s σ H x y v u Q I rx ry h hsl
  obtain ⟨F, dx, dy, W, sub, vx, vy, hw, hq⟩ := h
  cases dx <;> first | exact hw.elim | skip
  · cases dy <;> first | exact hw.elim | skip
    obtain ⟨d, e, hw⟩ := hw
    obtain ⟨p, vs, rfl, h1, r⟩ := vx
    cases vy
    obtain ⟨j, e1, e2⟩ := Option.bind_eq_some_iff.mp e
    obtain ⟨w, e3, rw'⟩ := r.get e2
    refine ix_list value slice pins s σ H _ _ v u Q I rx ry ⟨p, vs, _, w, rfl, rfl, h1.sql, ?_, hq _ _ _ _ hw (.flat rw')⟩ hsl
    unfold atI
    rw [r.length, e1]; exact e3
  · cases dy <;> first | exact hw.elim | skip
    obtain ⟨d, e, hw⟩ := hw
    cases vx with
    | tup h1 r =>
      cases vy
      obtain ⟨j, e1, e2⟩ := Option.bind_eq_some_iff.mp e
      obtain ⟨w, e3, rw'⟩ := r.get e2
      refine ix_tup value slice pins s σ H _ _ v u Q I rx ry ⟨_, _, _, w, rfl, rfl, SqT.mono sub.le h1, ?_, hq _ _ _ _ hw (.flat rw')⟩ hsl
      unfold atI
      rw [r.length, e1]; exact e3
  · obtain ⟨d, hk, e, hw⟩ := hw
    obtain ⟨_, _, _, ds, rfl⟩ := keyB_of hk
    obtain ⟨a, rfl, hc⟩ := vx
    have vy : Rp (kwOf X) F y (.tuple ds) := vy
    cases vy with
    | tup h1 r1 =>
      cases rx; cases ry
      obtain ⟨xs, hx, _, _⟩ := dct_at I sub hc
      refine tail_of hx.typeIs PySem.F.slot_dict_getitem.lookup hsl ?_
      exact dk_get (room_u hr) I sub hc hk (.tup h1 r1) e fun t v u rv rp => ⟨v, H, I.tok t, rv, hq _ _ _ _ hw (.flat rp)⟩
def wIdx (wa wb : WE) : WE := w2 wa wb ixW
theorem d_idx {k : Nat} {a b : Expr} (hK : kwOf X = C.K) (hr : Room k X.A) (hs : noSlice b = true) (ha : PE X a (tD C wa)) (hb : PE X b (tD C wb)) : PE X (.Subscript a b pos) (tD C (wIdx wa wb)) := by
  have h := ix_any (X := X) hr
  rw [hK] at h
  exact PE.imp (pe_ix h ha hb (plainIx hs)) fun σ H Q h => t2_imp h
abbrev WO := DEnv → (Option Int → DEnv → Prop) → Prop
def woNone : WO := fun Γ W => W none Γ
def woSome (we : WE) : WO := fun Γ W => we Γ fun o Γ1 => ∃ i, o = .val (.int i) ∧ W (some i) Γ1
def tDO (C : DC) (w : WO) : TO := fun σ H Q => ∃ F Γ W, EnvOk C F H σ Γ ∧ w Γ W ∧ ∀ o Γ' H' F', W o Γ' → EnvOk C F' H' σ Γ' → Stp σ F H Γ F' H' Γ' → Q o H'
theorem PO.imp {X : Cx} {e : Option Expr} {t t' : TO} (h : PO X e t) (i : ∀ σ H Q, t' σ H Q → t σ H Q) : PO X e t' := ⟨fun pins s σ H Q I q => h.run pins s σ H Q I (i σ H Q q)⟩
theorem o_none : PO X none (tDO C woNone) := by
  refine PO.imp po_none fun σ H Q h => ?_
  obtain ⟨F, Γ, W, ok, hw, hq⟩ := h
  exact hq none Γ H F hw ok (Stp.refl ..)
theorem o_some (he : PE X e (tD C we)) : PO X (some e) (tDO C (woSome we)) := by
  refine PO.imp (po_some he) fun σ H Q h => ?_
  obtain ⟨F, Γ, W, ok, hw, hq⟩ := h
  refine ⟨F, Γ, _, ok, hw, fun o Γ1 v H1 F1 h1 ok1 st1 r1 => ?_⟩
  obtain ⟨i, rfl, h1⟩ := h1
  cases r1
  exact ⟨i, rfl, hq _ Γ1 H1 F1 h1 ok1 st1⟩
def wSlc (wa : WE) (lo hi : WO) : WE := fun Γ W => wa Γ fun o Γ1 => lo Γ1 fun l Γ2 => hi Γ2 fun u Γ3 => ∃ d, o.see Γ3 = some d ∧ slcW d l u fun o => W o Γ3
def rSlc (K : KW) : V → Option Int → Option Int → Hp → VK → Prop := fun x lo hi H Q => ∃ F d W, Sub F H ∧ Vw K F H x d ∧ slcW d lo hi W ∧ ∀ o v H' F', W o → Nw K F H F' H' v o → Q v H'
theorem RpAll.cut {K : KW} {F : Hp} {vs : List V} {ds : List D} (r : RpAll K F vs ds) (lo hi : Option Int) : RpAll K F (cutV vs lo hi) (cutD ds lo hi) := by
  unfold cutV cutD
  rw [r.length]
  exact (r.drop _).take _
theorem sl_any : SlR X (rSlc (kwOf X)) := by
  intro pins s σ H x v vl vu lo hi sl Q I rx hs pl pu h
  obtain ⟨F, d, W, sub, vx, hw, hq⟩ := h
  cases d <;> first | exact hw.elim | skip
  · obtain ⟨p, vs, rfl, h1, r⟩ := vx
    exact sl_list pins s σ H _ v vl vu lo hi sl Q I rx hs pl pu ⟨p, vs, rfl, h1.sql, fun q hp => hq _ _ _ _ hw (.lst hp (r.cut lo hi))⟩
  · cases vx with
    | tup h1 r =>
      rename_i a vs
      refine sl_tupA pins s σ H _ v vl vu lo hi sl Q I rx hs pl pu ⟨_, _, rfl, SqT.mono sub.le h1, fun e => ?_, fun _ q hp => hq _ _ _ _ hw (.tup hp (r.cut lo hi))⟩
      refine hq _ _ _ _ hw (.flat (.tup h1 ?_))
      have := r.cut lo hi
      have e3 : cutV vs lo hi = vs := by
        unfold cutV
        rw [e.1, e.2]; simp
      rwa [e3] at this
theorem d_slc {a : Expr} {lo hi : Option Expr} {wl wh : WO} {p2 : Pos} (hK : kwOf X = C.K) (ha : PE X a (tD C wa)) (hl : PO X lo (tDO C wl)) (hh : PO X hi (tDO C wh)) : PE X (.Subscript a (.Slice lo hi none p2) pos) (tD C (wSlc wa wl wh)) := by
  have h := sl_any (X := X)
  rw [hK] at h
  refine PE.imp (pe_slice h ha hl hh) fun σ H Q h => ?_
  obtain ⟨F, Γ, W, ok, hw, hq⟩ := h
  refine ⟨F, Γ, _, ok, hw, fun o Γ1 v H1 F1 h1 ok1 st1 r1 => ⟨F1, Γ1, _, ok1, h1, fun l Γ2 H2 F2 h2 ok2 st2 => ⟨F2, Γ2, _, ok2, h2, fun u Γ3 H3 F3 h3 ok3 st3 => ?_⟩⟩⟩
  obtain ⟨d, e, hz⟩ := h3
  have stn := (st1.trans st2).trans st3
  exact ⟨F3, d, _, ok3.sub, ((r1.stp st2).stp st3).vw ok3 e, hz, fun o v H' F' hw' n => fin_nw ok3 stn n hw' hq⟩

/-! ## built-in functions -/
/-- of one operand, that is only seen -/
def rB1 (K : KW) (Z : D → (Opd → Prop) → Prop) : List V → Hp → VK → Prop := fun xs H Q => ∃ x, xs = [x] ∧ r1W K Z x H Q
theorem t1b_imp {Z : D → (Opd → Prop) → Prop} {Q : VK} (h : tD C (w1 wa Z) σ H Q) : tCB (rB1 C.K Z) (tCons (tD C wa) tNil) σ H Q := by
  obtain ⟨F, Γ, W, ok, hw, hq⟩ := h
  refine ⟨F, Γ, _, ok, hw, fun o Γ1 v H1 F1 h1 ok1 st1 r1 => ?_⟩
  obtain ⟨d, e, hz⟩ := h1
  exact ⟨_, rfl, F1, d, _, ok1.sub, r1.vw ok1 e, hz, fun o v H' F' hw' n => fin_nw ok1 st1 n hw' hq⟩
def rB2 (K : KW) (Z : D → D → (Opd → Prop) → Prop) : List V → Hp → VK → Prop := fun xs H Q => ∃ x y, xs = [x, y] ∧ r2W K Z x y H Q
theorem t2b_imp {Z : D → D → (Opd → Prop) → Prop} {Q : VK} (h : tD C (w2 wa wb Z) σ H Q) : tCB (rB2 C.K Z) (tCons (tD C wa) (tCons (tD C wb) tNil)) σ H Q := by
  obtain ⟨F, Γ, W, ok, hw, hq⟩ := h
  have := two (Q := fun x y H2 => rB2 C.K Z [x, y] H2 Q) ok hw fun x y oa ob F2 H2 Γ2 ok2 st ra rb h => by
    obtain ⟨da, db, ea, eb, hz⟩ := h
    exact ⟨_, _, rfl, F2, da, db, _, ok2.sub, ra.vw ok2 ea, rb.vw ok2 eb, hz, fun o v H' F' hw' n => fin_nw ok2 st n hw' hq⟩
  exact this
variable {x : Str} {p : Pos}
theorem d_b1 {id : String} {Z : D → (Opd → Prop) → Prop} (hc : CallR X (.builtin id) (rB1 C.K Z)) (hg : Gl X x) (hm : X.mg x = none) (hv : bootBuiltins x = some (.builtin id)) (hn : noStar e = true) (hx : x ≠ "__name__") (hd : (x == ("__debug__" : Str)) = false) (ha : PE X e (tD C wa)) :
    PE X (.Call (.Name x p) [e] [] pos) (tD C (w1 wa Z)) :=
  PE.imp (pe_callB hc hg hm hv (pa_cons ha pa_nil (star1 hn)) hx hd (star1 hn) rfl) fun _ _ _ h => t1b_imp h
theorem d_ty1 {T : String} {Z : D → (Opd → Prop) → Prop} (hc : CallR X (.type T) (rB1 C.K Z)) (hg : Gl X x) (hm : X.mg x = none) (hv : bootBuiltins x = some (.type T)) (hn : noStar e = true) (hx : x ≠ "__name__") (hd : (x == ("__debug__" : Str)) = false) (ha : PE X e (tD C wa)) :
    PE X (.Call (.Name x p) [e] [] pos) (tD C (w1 wa Z)) :=
  PE.imp (pe_callTy hc hg hm hv (pa_cons ha pa_nil (star1 hn)) hx hd (star1 hn) rfl) fun _ _ _ h => t1b_imp h
theorem d_b2 {id : String} {e2 : Expr} {Z : D → D → (Opd → Prop) → Prop} (hc : CallR X (.builtin id) (rB2 C.K Z)) (hg : Gl X x) (hm : X.mg x = none) (hv : bootBuiltins x = some (.builtin id)) (hn : noStar e = true) (hn2 : noStar e2 = true) (hx : x ≠ "__name__") (hd : (x == ("__debug__" : Str)) = false) (ha : PE X e (tD C wa)) (hb : PE X e2 (tD C wb)) :
    PE X (.Call (.Name x p) [e, e2] [] pos) (tD C (w2 wa wb Z)) :=
  PE.imp (pe_callB hc hg hm hv (pa_cons ha (pa_cons hb pa_nil (star1 hn2)) (star1 hn)) hx hd (star1 hn) (by rw [star1 hn2]; rfl)) fun _ _ _ h => t2b_imp h
theorem d_bf2 {id : String} {e2 : Expr} {Z : D → D → (Opd → Prop) → Prop} (hc : CallR X (.builtin id) (rB2 C.K Z)) (hg : Gl X x) (hm : X.mg x = some (.builtin id)) (hn : noStar e = true) (hn2 : noStar e2 = true) (hd : (x == ("__debug__" : Str)) = false) (ha : PE X e (tD C wa)) (hb : PE X e2 (tD C wb)) :
    PE X (.Call (.Name x p) [e, e2] [] pos) (tD C (w2 wa wb Z)) :=
  PE.imp (pe_callBfun hc hg hm (pa_cons ha (pa_cons hb pa_nil (star1 hn2)) (star1 hn)) hd (star1 hn) (by rw [star1 hn2]; rfl)) fun _ _ _ h => t2b_imp h
end
end GS
end

section
set_option Elab.async false
set_option linter.all false
set_option maxRecDepth 100000
set_option maxHeartbeats 1000000
namespace GS
open PySem PySem.Spec PyProof.Rows L2

/-! ## built-in functions, each by what it asks of data -/
def lenW (d : D) (W : Opd → Prop) : Prop := match d with
  | .list ds => W (.val (.int ds.length))
  | .tuple ds => W (.val (.int ds.length))
  | _ => False
def absW (d : D) (W : Opd → Prop) : Prop := match d with
  | .int i => W (.val (.int (if i < 0 then -i else i)))
  | _ => False
def intW (d : D) (W : Opd → Prop) : Prop := match d with
  | .int i => W (.val (.int i))
  | .bool b => W (.val (.int (if b then 1 else 0)))
  | _ => False
def min2W (a b : D) (W : Opd → Prop) : Prop := match a, b with
  | .int i, .int j => W (.val (.int (min i j)))
  | _, _ => False
def max2W (a b : D) (W : Opd → Prop) : Prop := match a, b with
  | .int i, .int j => W (.val (.int (max i j)))
  | _, _ => False
def gcdW (a b : D) (W : Opd → Prop) : Prop := match a, b with
  | .int i, .int j => W (.val (.int ((Nat.gcd i.natAbs j.natAbs : Nat) : Int)))
  | _, _ => False
def maxLW (d : D) (W : Opd → Prop) : Prop := match d with
  | .list ds => ∃ ns : List Int, ds = ns.map .int ∧ 0 < ns.length ∧ ∀ m, m ∈ ns → (∀ y, y ∈ ns → y ≤ m) → W (.val (.int m))
  | _ => False
def minLW (d : D) (W : Opd → Prop) : Prop := match d with
  | .list ds => ∃ ns : List Int, ds = ns.map .int ∧ 0 < ns.length ∧ ∀ m, m ∈ ns → (∀ y, y ∈ ns → m ≤ y) → W (.val (.int m))
  | _ => False
def sumW (d : D) (W : Opd → Prop) : Prop := match d with
  | .list ds => ∃ ns : List Int, ds = ns.map .int ∧ W (.val (.int ns.sum))
  | _ => False
def anyW (d : D) (W : Opd → Prop) : Prop := match d with
  | .list ds => ∃ bs : List Bool, ds = bs.map .bool ∧ W (.val (.bool (bs.any id)))
  | _ => False
def allW (d : D) (W : Opd → Prop) : Prop := match d with
  | .list ds => ∃ bs : List Bool, ds = bs.map .bool ∧ W (.val (.bool (bs.all id)))
  | _ => False
def tupW (d : D) (W : Opd → Prop) : Prop := match d with
  | .list ds => W (.val (.tuple ds))
  | .tuple ds => W (.val (.tuple ds))
  | _ => False
def lstW (d : D) (W : Opd → Prop) : Prop := match d with
  | .list ds => W (.new (.lst ds))
  | .tuple ds => W (.new (.lst ds))
  | _ => False
def isiW (t : Ty) (d : D) (W : Opd → Prop) : Prop := ∃ b, tyB t d = some b ∧ W (.val (.bool b))
def AlikeAll (ds : List D) : Prop := PySem.W.AllAlike ds ∧ PySem.W.Sortable ds ∧ ∀ d ∈ ds, d.depth ≤ 60
def sortW (d : D) (W : Opd → Prop) : Prop := match d with
  | .list ds => AlikeAll ds ∧ W (.new (.lst (ds.mergeSort (PySem.W.dataLe false id))))
  | .dict kvs => (AlikeAll (kvs.map (·.1)) ∧ kvs.length ≤ 1000000) ∧ W (.new (.lst ((kvs.map (·.1)).mergeSort (PySem.W.dataLe false id))))
  | _ => False
mutual
theorem reads_there {h : Heap} : ∀ {v : Value} {d : D} {as : List Addr}, Reads h v d as → ∀ a ∈ as, ∃ o, h.get? a = some o
  | _, _, _, .none => fun a z => by cases z
  | _, _, _, .bool _ => fun a z => by cases z
  | _, _, _, .int _ _ => fun a z => by cases z
  | _, _, _, .str _ _ => fun a z => by cases z
  | _, _, _, .list h1 _ _ t => fun a z => by
    rcases List.mem_cons.mp z with rfl | z
    · exact ⟨_, h1⟩
    · exact readsAll_there t a z
  | _, _, _, .tuple _ _ _ t => fun a z => readsAll_there t a z
  | _, _, _, .dict h1 _ _ t u => fun a z => by
    rcases List.mem_append.mp z with z | z
    · rcases List.mem_cons.mp z with rfl | z
      · exact ⟨_, h1⟩
      · exact readsAll_there t a z
    · exact readsAll_there u a z
theorem readsAll_there {h : Heap} : ∀ {vs : List Value} {ds : List D} {as : List Addr}, ReadsAll h vs ds as → ∀ a ∈ as, ∃ o, h.get? a = some o
  | _, _, _, .nil => fun a z => by cases z
  | _, _, _, .cons r t => fun a z => by
    rcases List.mem_append.mp z with z | z
    · exact reads_there r a z
    · exact readsAll_there t a z
end
theorem RpAll.bools {K : KW} {F : Hp} : ∀ {vs : List V} {bs : List Bool}, RpAll K F vs (bs.map PyData.bool) → vs = bs.map V.bl
  | _, [], .nil => rfl
  | _, n :: ns, h => by
    cases h with
    | cons h1 h2 => cases h1; rw [RpAll.bools h2]; rfl
section
variable {X : Cx}
theorem b_len : CallR X (.builtin "len") (rB1 (kwOf X) lenW) := by
  intro pins s σ H xs us Q I r h
  obtain ⟨x, rfl, F, d, W, sub, vx, hw, hq⟩ := h
  cases d <;> first | exact hw.elim | skip
  · obtain ⟨p, vs, rfl, h1, r1⟩ := vx
    refine call_len_seq pins s σ H _ us Q I r ⟨p, vs, rfl, .inl h1.sql, ?_⟩
    rw [r1.length]; exact hq _ _ _ _ hw (.flat (.int _))
  · cases vx with
    | tup h1 r1 =>
      refine call_len_seq pins s σ H _ us Q I r ⟨_, _, rfl, .inr (SqT.mono sub.le h1), ?_⟩
      rw [r1.length]; exact hq _ _ _ _ hw (.flat (.int _))
theorem b_abs : CallR X (.builtin "abs") (rB1 (kwOf X) absW) := by
  intro pins s σ H xs us Q I r h
  obtain ⟨x, rfl, F, d, W, sub, vx, hw, hq⟩ := h
  cases d <;> first | exact hw.elim | skip
  cases vx
  exact call_abs pins s σ H _ us Q I r ⟨_, rfl, hq _ _ _ _ hw (.flat (.int _))⟩
theorem b_int : CallR X (.type "int") (rB1 (kwOf X) intW) := by
  intro pins s σ H xs us Q I r h
  obtain ⟨x, rfl, F, d, W, sub, vx, hw, hq⟩ := h
  cases d <;> first | exact hw.elim | skip
  · cases vx
    exact call_int1 pins s σ H _ us Q I r (.inr ⟨_, rfl, hq _ _ _ _ hw (.flat (.int _))⟩)
  · cases vx
    exact call_int1 pins s σ H _ us Q I r (.inl ⟨_, rfl, hq _ _ _ _ hw (.flat (.int _))⟩)
theorem b_min2 (hc : X.calm = true) : CallR X (.builtin "min") (rB2 (kwOf X) min2W) := by
  intro pins s σ H xs us Q I r h
  obtain ⟨x, y, rfl, F, dx, dy, W, sub, vx, vy, hw, hq⟩ := h
  cases dx <;> cases dy <;> first | exact hw.elim | skip
  cases vx; cases vy
  rename_i i j
  refine call_min2 hc pins s σ H _ us Q I r ⟨i, j, rfl, ?_⟩
  have e : (if j < i then j else i) = min i j := by omega
  rw [e]
  exact hq _ _ _ _ hw (.flat (.int _))
theorem b_max2 (hc : X.calm = true) : CallR X (.builtin "max") (rB2 (kwOf X) max2W) := by
  intro pins s σ H xs us Q I r h
  obtain ⟨x, y, rfl, F, dx, dy, W, sub, vx, vy, hw, hq⟩ := h
  cases dx <;> cases dy <;> first | exact hw.elim | skip
  cases vx; cases vy
  rename_i i j
  refine call_max2 hc pins s σ H _ us Q I r ⟨i, j, rfl, ?_⟩
  have e : (if j > i then j else i) = max i j := by omega
  rw [e]
  exact hq _ _ _ _ hw (.flat (.int _))
theorem b_gcd : CallR X (.builtin "math.gcd") (rB2 (kwOf X) gcdW) := by
  intro pins s σ H xs us Q I r h
  obtain ⟨x, y, rfl, F, dx, dy, W, sub, vx, vy, hw, hq⟩ := h
  cases dx <;> cases dy <;> first | exact hw.elim | skip
  cases vx; cases vy
  exact cr_gcd pins s σ H _ us Q I r ⟨_, _, rfl, hq _ _ _ _ hw (.flat (.int _))⟩
theorem b_max (hc : X.calm = true) : CallR X (.builtin "max") (rB1 (kwOf X) maxLW) := by
  intro pins s σ H xs us Q I r h
  obtain ⟨x, rfl, F, d, W, sub, vx, hw, hq⟩ := h
  cases d <;> first | exact hw.elim | skip
  obtain ⟨ns, rfl, h0, hw⟩ := hw
  obtain ⟨p, vs, rfl, h1, r1⟩ := vx
  rw [r1.ints] at h1
  exact cr_max hc pins s σ H _ us Q I r ⟨p, ns, rfl, h1.sql, h0, fun m hm hy => hq _ _ _ _ (hw m hm hy) (.flat (.int _))⟩
theorem b_min (hc : X.calm = true) : CallR X (.builtin "min") (rB1 (kwOf X) minLW) := by
  intro pins s σ H xs us Q I r h
  obtain ⟨x, rfl, F, d, W, sub, vx, hw, hq⟩ := h
  cases d <;> first | exact hw.elim | skip
  obtain ⟨ns, rfl, h0, hw⟩ := hw
  obtain ⟨p, vs, rfl, h1, r1⟩ := vx
  rw [r1.ints] at h1
  exact cr_min hc pins s σ H _ us Q I r ⟨p, ns, rfl, h1.sql, h0, fun m hm hy => hq _ _ _ _ (hw m hm hy) (.flat (.int _))⟩
theorem b_sum (hc : X.calm = true) : CallR X (.builtin "sum") (rB1 (kwOf X) sumW) := by
  intro pins s σ H xs us Q I r h
  obtain ⟨x, rfl, F, d, W, sub, vx, hw, hq⟩ := h
  cases d <;> first | exact hw.elim | skip
  obtain ⟨ns, rfl, hw⟩ := hw
  obtain ⟨p, vs, rfl, h1, r1⟩ := vx
  rw [r1.ints] at h1
  exact cr_sum hc pins s σ H _ us Q I r ⟨p, ns, rfl, h1.sql, hq _ _ _ _ hw (.flat (.int _))⟩
theorem b_any (hc : X.calm = true) : CallR X (.builtin "any") (rB1 (kwOf X) anyW) := by
  intro pins s σ H xs us Q I r h
  obtain ⟨x, rfl, F, d, W, sub, vx, hw, hq⟩ := h
  cases d <;> first | exact hw.elim | skip
  obtain ⟨ns, rfl, hw⟩ := hw
  obtain ⟨p, vs, rfl, h1, r1⟩ := vx
  rw [r1.bools] at h1
  exact cr_any hc pins s σ H _ us Q I r ⟨p, ns, rfl, h1.sql, hq _ _ _ _ hw (.flat (.bl _))⟩
theorem b_all (hc : X.calm = true) : CallR X (.builtin "all") (rB1 (kwOf X) allW) := by
  intro pins s σ H xs us Q I r h
  obtain ⟨x, rfl, F, d, W, sub, vx, hw, hq⟩ := h
  cases d <;> first | exact hw.elim | skip
  obtain ⟨ns, rfl, hw⟩ := hw
  obtain ⟨p, vs, rfl, h1, r1⟩ := vx
  rw [r1.bools] at h1
  exact cr_all hc pins s σ H _ us Q I r ⟨p, ns, rfl, h1.sql, hq _ _ _ _ hw (.flat (.bl _))⟩
theorem b_tuple : CallR X (.type "tuple") (rB1 (kwOf X) tupW) := by
  intro pins s σ H xs us Q I r h
  obtain ⟨x, rfl, F, d, W, sub, vx, hw, hq⟩ := h
  cases d <;> first | exact hw.elim | skip
  · obtain ⟨p, vs, rfl, h1, r1⟩ := vx
    exact call_tuple_of pins s σ H _ us Q I r ⟨p, vs, rfl, .inl ⟨h1.sql, fun l hl => hq _ _ _ _ hw (.tup hl r1)⟩⟩
  · cases vx with
    | tup h1 r1 => exact call_tuple_of pins s σ H _ us Q I r ⟨_, _, rfl, .inr ⟨SqT.mono sub.le h1, hq _ _ _ _ hw (.flat (.tup h1 r1))⟩⟩
theorem b_list : CallR X (.type "list") (rB1 (kwOf X) lstW) := by
  intro pins s σ H xs us Q I r h
  obtain ⟨x, rfl, F, d, W, sub, vx, hw, hq⟩ := h
  cases d <;> first | exact hw.elim | skip
  · obtain ⟨p, vs, rfl, h1, r1⟩ := vx
    exact call_list_of pins s σ H _ us Q I r ⟨p, vs, rfl, .inl h1.sql, fun l hl => hq _ _ _ _ hw (.lst hl r1)⟩
  · cases vx with
    | tup h1 r1 => exact call_list_of pins s σ H _ us Q I r ⟨_, _, rfl, .inr (SqT.mono sub.le h1), fun l hl => hq _ _ _ _ hw (.lst hl r1)⟩
/-- a value's sort read -/
def RV (K : KW) (F : Hp) (u : Value) (d : D) : Prop := ∃ v, RelV v u ∧ Rp K F v d
theorem each_of {K : KW} {F : Hp} : ∀ {vs : List V} {us : List Value} {ds : List D}, Vals vs us → RpAll K F vs ds → PySem.W.EachIs (RV K F) us ds
  | _, _, _, .nil, .nil => .nil
  | _, _, _, .cons h t, .cons r q => .cons ⟨_, h, r⟩ (each_of t q)
theorem of_each {K : KW} {F : Hp} : ∀ {us : List Value} {ds : List D}, PySem.W.EachIs (RV K F) us ds → ∃ vs, Vals vs us ∧ RpAll K F vs ds
  | _, _, .nil => ⟨[], .nil, .nil⟩
  | _, _, .cons ⟨v, h, r⟩ t => by
    obtain ⟨vs, h2, r2⟩ := of_each t
    exact ⟨v :: vs, .cons h h2, .cons r r2⟩
theorem ent_keys {K : KW} {F : Hp} : ∀ {kvs : List (D × D)} {xs : List (NestedKey × Addr × Value)}, Ent K F kvs xs → PySem.W.EachIs (RV K F) (xs.map fun x => Value.ref x.2.1) (kvs.map (·.1))
  | _, _, .nil => .nil
  | _, _, .cons (b := b) _ _ h3 _ _ t => .cons ⟨.ref b, rfl, h3⟩ (ent_keys t)
theorem sorted_keys {pins : List (Addr × Obj)} {σ : L2.St} {H F : Hp} {s : Shared} {x : V} {us : List Value} {Q : VK} {W : Opd → Prop} {kvs : List (D × D)} (hc : X.calm = true) (hu : X.A.units + 66 < cLine) (I : Inv X pins σ H s) (r : Vals [x] us) (sub : Sub F H) (vx : Vw (kwOf X) F H x (.dict kvs)) (hw : sortW (.dict kvs) W)
    (hq : ∀ o v H' F', W o → Nw (kwOf X) F H F' H' v o → Q v H') : wpAny (model X.prog X.w) X.A (call (.builtin "sorted") us) (EP X pins σ Q) X.xe s := by
  obtain ⟨⟨⟨hal, hk, hdp⟩, hz⟩, hw⟩ := hw
  obtain ⟨a, rfl, hat⟩ := vx
  obtain ⟨u, rfl, ru⟩ := vals1 r
  cases ru
  obtain ⟨o, es, ep, xs, g0, g2, g3, g4, g5, g6, g7⟩ := hat
  have g1 : s.heap.get? a = some o := (show ObjOk X.prog X.w H s.heap a (dctO a o) from I.hok a _ g0).1
  have hlen : kvs.length = xs.length := g6.length
  have hsz : es.size = xs.length := by rw [← Array.length_toList, g5, List.length_map]
  have hline : sizeLine = 16777216 := rfl
  refine Calls.call_function_entry PyProof.Rows.kind_sorted PyProof.Rows.plain_sorted PyProof.Rows.entry_sorted (PyProof.Rows.args_sorted1 _) ?_
  unfold Builtin.«sorted»
  refine wpAny_bind (m := checkCount "sorted" 1 1 _) (wpAny_pure ?_)
  refine wpAny_bind (PySem.W.kdu_collect (A := X.A.in1) (PySem.KdlSrc.rawDict (es := es) (ep := ep) g4) (I.ok.hd hc) ⟨o, g1, g2, g3⟩ (by omega) fun h' tk acc hk' hacc => ?_)
  have hacc2 : acc.toList = xs.map fun x => Value.ref x.2.1 := by
    apply List.ext_getElem?
    intro i
    rw [List.getElem?_map]
    by_cases hi : i < xs.length
    · have hi' : i < acc.size := by rw [hacc.1]; omega
      obtain ⟨hi2, e⟩ := hacc.2 i acc[i] (Array.getElem?_eq_getElem hi')
      have e2 : es[i]? = (xs.map fun x => (⟨x.1.hash (kwOf X).w, .ref x.2.1, x.2.2⟩ : DictEntry))[i]? := by rw [← g5, Array.getElem?_toList]
      rw [List.getElem?_map, List.getElem?_eq_getElem hi, Array.getElem?_eq_getElem hi2] at e2
      have e3 := Option.some.inj e2
      rw [Array.getElem?_toList, Array.getElem?_eq_getElem hi', e, e3, List.getElem?_eq_getElem hi]
      rfl
    · rw [Array.getElem?_toList, Array.getElem?_eq_none (by rw [hacc.1]; omega), List.getElem?_eq_none (by omega)]
      rfl
  rw [hacc2]
  have e := ent_keys g6
  have I1 : Inv X pins σ H { s with heap := h', toks := tk } := I.kept hk'
  refine wpAny_bind (wpAny_newList ?_ (by rw [List.length_map]; omega))
  have hob : (h'.push (seqObj "list" (xs.map fun x => Value.ref x.2.1).toArray 0)).get? h'.objs.size = some (seqObj "list" (xs.map fun x => Value.ref x.2.1).toArray 0) := Heap.get?_push_size _ rfl
  have er : PySem.W.EachIs (fun v b => ∃ as, Reads (h'.push (seqObj "list" (xs.map fun x => Value.ref x.2.1).toArray 0)) v (id b) as ∧ h'.objs.size ∉ as) (xs.map fun x => Value.ref x.2.1) (kvs.map (·.1)) := e.mono fun u d ⟨v, h, q⟩ => by
    obtain ⟨as, r1⟩ := Dp.reads I1 d v u (Rp.dp (Rp.mono sub.le q)) h
    refine ⟨as, PyProof.Rows.Reads.keeps (fun c o e => Heap.get?_push_of_some _ e) r1, fun z => ?_⟩
    obtain ⟨o, eo⟩ := reads_there r1 _ z
    exact Nat.lt_irrefl _ (Heap.lt_size eo)
  have hid : (kvs.map (·.1)).map id = kvs.map (·.1) := List.map_id _
  refine wpAny_bind (wpAny_holding (PySem.W.list_sort_data (s := { s with heap := h'.push (seqObj "list" (xs.map fun x => Value.ref x.2.1).toArray 0), toks := tk }) (enc := id) hob e er (by rw [hid]; exact hal) (by rw [hid]; exact hk) (by rw [List.length_map]; omega) (fun b hb => by have := hdp b hb; show X.A.units + 1 + 1 + b.depth < cLine; omega) fun out ho eo => ?_))
  obtain ⟨ws, w1, w2⟩ := of_each eo
  obtain ⟨e', he'⟩ := PyProof.Rows.sortedHeap_at (vs := xs.map fun x => Value.ref x.2.1) (out := out.toArray) hob
  refine wpAny_pure ⟨_, rfl, .ref h'.objs.size, upd H h'.objs.size (.lst ws), I1.laid (t' := tk) (fun b u e => ?_) (Nat.le_refl _) ⟨by rw [w1.length, ho, List.length_map]; omega, out, e', w1, he'⟩, rfl, hq _ _ _ _ hw (.lst (I1.hok.fresh (Nat.le_refl _)) w2)⟩
  have hb : b < h'.objs.size := Heap.lt_size e
  rw [PyProof.Rows.sortedHeap_old (Nat.ne_of_lt hb) (by rw [size_push']; exact Nat.lt_succ_of_lt hb)]
  exact Heap.get?_push_of_some _ e
theorem b_sorted (hc : X.calm = true) (hu : X.A.units + 66 < cLine) : CallR X (.builtin "sorted") (rB1 (kwOf X) sortW) := by
  intro pins s σ H xs us Q I r h
  obtain ⟨x, rfl, F, d, W, sub, vx, hw, hq⟩ := h
  cases d <;> first | exact hw.elim | skip
  rotate_left
  · exact sorted_keys hc hu I r sub vx hw hq
  rename_i ds
  obtain ⟨⟨hal, hk, hdp⟩, hw⟩ := hw
  obtain ⟨p, vs, rfl, h1, r1⟩ := vx
  obtain ⟨its, rv, hl, hz⟩ := I.list (a := p) (xs := vs) h1.sql
  rw [Vals.ref1 r]
  have e := each_of rv r1
  have er : PySem.W.EachIs (fun v b => ∃ as, Reads s.heap v (id b) as) its ds := e.mono fun u d ⟨v, h, q⟩ => Dp.reads I d v u (Rp.dp (Rp.mono sub.le q)) h
  have hid : ds.map id = ds := List.map_id _
  refine PySem.W.sorted_data (enc := id) hl.isList e er (by rw [hid]; exact hal) (by rw [hid]; exact hk) (by rw [← r1.length]; exact hz) (fun b hb => by have := hdp b hb; show X.A.units + 2 + b.depth < cLine; omega) fun out ho eo => ?_
  obtain ⟨ws, w1, w2⟩ := of_each eo
  obtain ⟨ep, he'⟩ := PyProof.Rows.sortedAll_at s.heap its out.toArray
  have hlen : ws.length ≤ sizeLine := by rw [w1.length, ho, ← r1.length]; exact hz
  exact ⟨.ref _, upd H (s.heap.objs.size + 1) (.lst ws), I.laid (t' := s.toks) (fun _ _ => PyProof.Rows.sortedAll_old) (Nat.le_succ _) ⟨hlen, out, ep, w1, he'⟩, rfl, hq _ _ _ _ hw (.lst (I.hok.fresh (Nat.le_succ _)) w2)⟩
end
end GS
end

section
set_option Elab.async false
set_option linter.all false
set_option maxRecDepth 100000
set_option maxHeartbeats 1000000
namespace GS
open PySem PySem.Spec PyProof.Rows L2

/-! ## isinstance(x, T) -/
def Ty.nm : Ty → String
  | .int => "int"
  | .bool => "bool"
  | .str => "str"
  | .tuple => "tuple"
  | .list => "list"
def dTy : D → String
  | .none => "NoneType"
  | .bool _ => "bool"
  | .int _ => "int"
  | .str _ => "str"
  | .list _ => "list"
  | .tuple _ => "tuple"
  | .dict _ => "dict"
def tyTell : Ty → String → Bool
  | .int, n => n == "int" || n == "bool"
  | t, n => n == t.nm
theorem kit_all (t : Ty) (n : String) (h : n ∈ ["NoneType", "bool", "int", "str", "list", "tuple"]) : kitB n t.nm = some (tyTell t n) := by
  simp only [List.mem_cons, List.not_mem_nil, or_false] at h
  rcases h with rfl | rfl | rfl | rfl | rfl | rfl <;> cases t <;> decide +kernel
def isiD (t : Ty) (d : D) (W : Opd → Prop) : Prop := match d with
  | .dict _ => False
  | d => W (.val (.bool (tyTell t (dTy d))))
section
variable {X : Cx} {C : DC} {e : Expr} {we : WE} {pos p p2 : Pos}
theorem SqT.ty {K : KW} {H : Hp} {a : Addr} {xs : List V} (h : SqT K H a xs) : TyX K H (.ref a) (.type "tuple") := by
  rcases h with (h | ⟨o, h⟩) | ⟨o, its, n, h1, h2, _⟩
  · exact .base (.tup h)
  · exact .fTuple h
  · exact .kTuple h1 h2
theorem Rd.ty {K : KW} {H : Hp} {a : Addr} {xs : List V} (h : RdL K.k H a xs) : TyX K H (.ref a) (.type "list") := by
  rcases h with (h | ⟨o, h⟩) | ⟨its, n, h1, _⟩
  · exact .base (.lst h)
  · exact .base (.frz h)
  · exact .kList h1 rfl
theorem Vw.ty {K : KW} {F H : Hp} {v : V} {d : D} (s : Sub F H) (h : Vw K F H v d) (nd : ∀ kvs, d ≠ .dict kvs) : TyX K H v (.type (dTy d)) := by
  cases d with
  | none => cases h; exact .base .non
  | bool b => cases h; exact .base (.bl b)
  | int i => cases h; exact .base (.int i)
  | str x => cases h; exact .base (.str x)
  | list ds => obtain ⟨a, vs, rfl, h1, _⟩ := h; exact Rd.ty h1
  | tuple ds => cases h with | tup h1 r => exact SqT.ty (SqT.mono s.le h1)
  | dict kvs => exact absurd rfl (nd kvs)
theorem d_isi {x : Str} (t : Ty) (hK : kwOf X = C.K) (hg : Gl X "isinstance") (hm : X.mg "isinstance" = none) (hgt : Gl X x) (hmt : X.mg x = none) (hx : bootBuiltins x = some (.type t.nm)) (hxn : x ≠ "__name__") (hxd : (x == ("__debug__" : Str)) = false) (hn : noStar e = true) (he : PE X e (tD C we)) :
    PE X (.Call (.Name "isinstance" p) [e, .Name x p2] [] pos) (tD C (w1 we (isiD t))) := by
  refine PE.imp (pe_callB call_isi hg hm boot_isinstance (pa_cons he (pa_cons (pe_bltn (v := .ty t.nm) hgt hmt hx rfl hxn hxd) pa_nil rfl) (star1 hn)) (by decide) (by decide) (star1 hn) rfl) fun σ H Q h => ?_
  obtain ⟨F, Γ, W, ok, hw, hq⟩ := h
  refine ⟨F, Γ, _, ok, hw, fun o Γ1 v H1 F1 h1 ok1 st1 r1 => ?_⟩
  obtain ⟨d, e, hz⟩ := h1
  have nd : ∀ kvs, d ≠ .dict kvs := fun kvs z => by subst z; exact hz
  have vw := r1.vw ok1 e
  refine ⟨v, _, _, .type t.nm, tyTell t (dTy d), rfl, .ty _, by rw [kk hK]; exact vw.ty ok1.sub nd, kit_ty (kit_all t _ ?_), ?_⟩
  · cases d <;> first | exact hz.elim | simp [dTy]
  · refine fin_nw ok1 st1 (.flat (.bl _)) ?_ hq
    cases d <;> first | exact hz | exact hz.elim
end
end GS
end

section
set_option Elab.async false
set_option linter.all false
set_option maxRecDepth 100000
set_option maxHeartbeats 1000000
namespace GS
open PySem PySem.Spec PyProof.Rows L2

/-! ## what is gone through -/
/-- J gives the data ds, one by one, as long as what stands stays -/
def ItOk (K : KW) (F : Hp) (J : It) (ds : List D) : Prop := ∀ G H, Le F G → Sub G H → ∀ i, (∀ d, ds[i]? = some d → J.go i H ∧ ∀ x H', J.yld i H x H' → ∃ G', Nw K G H G' H' x (.val d)) ∧ (i = ds.length → J.stop i H)
def tDI (C : DC) (w : WI) : TI := fun σ H R => ∃ F Γ W, EnvOk C F H σ Γ ∧ w Γ W ∧ ∀ ds Γ' J H' F', W ds Γ' → EnvOk C F' H' σ Γ' → Stp σ F H Γ F' H' Γ' → ItOk C.K F' J ds → ds.length ≤ sizeLine → R J H'
theorem PI.imp {X : Cx} {tg e : Expr} {t t' : TI} (h : PI X tg e t) (i : ∀ σ H Q, t' σ H Q → t σ H Q) : PI X tg e t' := ⟨fun pins s σ H Q I q => h.run pins s σ H Q I (i σ H Q q)⟩
/-- the length of a row is told -/
def tZ (K : KW) (t : TE) : TE := fun σ H Q => t σ H fun x H1 => (∀ a xs, x = .ref a → SqL K H1 a xs ∨ SqT K H1 a xs → xs.length ≤ sizeLine) → Q x H1
section
variable {X : Cx} {C : DC} {e e2 : Expr} {we wa wb : WE} {pos p : Pos} {tg : Expr}
theorem len_of {pins : List (Addr × Obj)} {σ : L2.St} {H : Hp} {s : Shared} (I : Inv X pins σ H s) {a : Addr} {xs : List V} (h : SqL X.K H a xs ∨ SqT X.K H a xs) : xs.length ≤ sizeLine := by
  rcases h with h | h
  · obtain ⟨its, r, _, hz⟩ := I.list h
    exact hz
  · rcases h with h | ⟨o, its, n, _, _, _, hz, rv⟩
    · exact (Rd.ok h I.hok).1
    · rw [rv.length]; simpa using hz
theorem pe_tZ {t : TE} (h : PE X e t) : PE X e (tZ (kwOf X) t) := ⟨fun pins s σ H Q I q => thn (h.run pins s σ H _ I q) fun u s1 ⟨v, H1, I1, r1, q1⟩ => ⟨v, H1, I1, r1, q1 fun a xs _ hx => len_of I1 hx⟩⟩
def rowW (d : D) (W : List D → Prop) : Prop := match d with
  | .list ds => W ds
  | .tuple ds => W ds
  | _ => False
def wiRow (we : WE) : WI := fun Γ W => we Γ fun o Γ1 => o.frz Γ1 fun d Γ2 => rowW d fun ds => W ds Γ2
theorem itOk_lst {K : KW} {F : Hp} {a : Addr} {vs : List V} {ds : List D} (h : RdL K.k F a vs) (r : RpAll K F vs ds) : ItOk K F (Itl K a) ds := fun G H l s i => by
  have hH : SqL K H a vs := (RdL.mono s.le (RdL.mono l h)).sql
  refine ⟨fun d e => ?_, fun hl => ⟨vs, hH, by rw [r.length, hl]; exact Nat.le_refl _⟩⟩
  obtain ⟨v, ev, rv⟩ := r.get e
  refine ⟨⟨vs, v, hH, ev⟩, fun x H' y => ?_⟩
  obtain ⟨rfl, y⟩ := y
  have := y vs hH
  rw [ev] at this; cases this
  exact ⟨G, .flat (rv.mono l)⟩
theorem itOk_tup {K : KW} {F : Hp} {a : Addr} {vs : List V} {ds : List D} (h : SqT K F a vs) (r : RpAll K F vs ds) : ItOk K F (Itt K a) ds := fun G H l s i => by
  have hH : SqT K H a vs := SqT.mono s.le (SqT.mono l h)
  refine ⟨fun d e => ?_, fun hl => ⟨vs, hH, by rw [r.length, hl]; exact Nat.le_refl _⟩⟩
  obtain ⟨v, ev, rv⟩ := r.get e
  refine ⟨⟨vs, v, hH, ev⟩, fun x H' y => ?_⟩
  obtain ⟨rfl, y⟩ := y
  have := y vs hH
  rw [ev] at this; cases this
  exact ⟨G, .flat (rv.mono l)⟩
theorem i_row (hK : kwOf X = C.K) (he : PE X e (tD C we)) : PI X tg e (tDI C (wiRow we)) := by
  refine ⟨fun pins s σ H R I h => ?_⟩
  obtain ⟨F, Γ, W, ok, hw, hq⟩ := h
  refine thn (he.run pins s σ H (fun v H1 => ∃ F1 Γ1 d, rowW d (fun ds => W ds Γ1) ∧ EnvOk C F1 H1 σ Γ1 ∧ Stp σ F H Γ F1 H1 Γ1 ∧ Rp C.K F1 v d) I ⟨F, Γ, _, ok, hw, fun o Γ1 v H1 F1 h1 ok1 st1 r1 => ?_⟩) fun v s1 ⟨x, H1, I1, r1, q1⟩ => ?_
  · obtain ⟨d, F2, Γ2, h2, ok2, st2, r2, _⟩ := ResOk.frz r1 ok1 st1 h1
    exact ⟨F2, Γ2, d, h2, ok2, st2, r2⟩
  obtain ⟨F1, Γ1, d, hr, ok1, st1, rd⟩ := q1
  cases rd <;> first | exact hr.elim | skip
  · rename_i a vs ds h1 r2
    have hL : SqL X.K H1 a vs := by rw [kk hK]; exact (RdL.mono ok1.sub.le h1).sql
    obtain ⟨its, rv, p, hz⟩ := I1.list hL
    cases r1
    refine wpAny_pyIter_list p.isList ⟨s1.heap.objs.size, [s1.heap.objs.size], _, _, H1, rfl, I1.kept (t' := s1.toks) (fun b o e => Heap.get?_push_of_some _ e), turn_list a _, ⟨_, Heap.get?_push_size _ rfl, rfl, rfl⟩, fun b hb => ?_, ?_⟩
    · rw [List.mem_singleton.mp hb]
      exact I1.fpOk (Nat.le_refl _) (I1.hok.fresh (Nat.le_refl _))
    · refine hq ds Γ1 _ H1 F1 hr ok1 st1 ?_ (by rw [← r2.length]; exact hz)
      rw [kk hK]
      exact itOk_lst h1 r2
  · rename_i a vs ds h1 r2
    have hL : SqT X.K H1 a vs := by rw [kk hK]; exact SqT.mono ok1.sub.le h1
    obtain ⟨its, rv, p, hz⟩ := I1.tuple hL
    cases r1
    refine wpAny_pyIter_tuple (show s1.heap.IsTuple a its.toArray from p) ⟨s1.heap.objs.size, [s1.heap.objs.size], _, _, H1, rfl, I1.kept (t' := s1.toks) (fun b o e => Heap.get?_push_of_some _ e), turn_tuple a _, ⟨_, Heap.get?_push_size _ rfl, rfl, rfl⟩, fun b hb => ?_, ?_⟩
    · rw [List.mem_singleton.mp hb]
      exact I1.fpOk (Nat.le_refl _) (I1.hok.fresh (Nat.le_refl _))
    · refine hq ds Γ1 _ H1 F1 hr ok1 st1 ?_ (by rw [← r2.length]; exact hz)
      rw [kk hK]
      exact itOk_tup h1 r2
def rngD (lo : Int) (n : Nat) : List D := (List.range n).map fun (i : Nat) => .int (lo + (i : Int))
theorem rngD_get {lo : Int} {n i : Nat} : (rngD lo n)[i]? = if i < n then some (.int (lo + (i : Int))) else none := by
  unfold rngD
  rw [List.getElem?_map]
  split
  · rename_i h
    rw [List.getElem?_range h]; rfl
  · rename_i h
    rw [List.getElem?_eq_none (by simpa using h)]; rfl
theorem itOk_rng {K : KW} {F : Hp} {lo : Int} {n : Nat} : ItOk K F (Itr lo n) (rngD lo n) := fun G H l s i => by
  refine ⟨fun d e => ?_, fun hl => ?_⟩
  · rw [rngD_get] at e
    split at e
    · rename_i hi
      cases e
      exact ⟨hi, fun x H' y => ⟨G, by obtain ⟨rfl, rfl⟩ := y; exact .flat (.int _)⟩⟩
    · cases e
  · have : (rngD lo n).length = n := by simp [rngD]
    rw [this] at hl
    rw [hl]; exact Nat.le_refl _
def rngW (lo hi : D) (W : List D → Prop) : Prop := match lo, hi with
  | .int i, .int j => (-1000000000000000000 ≤ i ∧ i ≤ 1000000000000000000 ∧ j - i ≤ 16000000 ∧ -1000000000000000000 ≤ j) ∧ W (rngD i (j - i).toNat)
  | _, _ => False
def wiRng1 (we : WE) : WI := fun Γ W => we Γ fun o Γ1 => ∃ d, o = .val d ∧ rngW (.int 0) d fun ds => W ds Γ1
def wiRng2 (wa wb : WE) : WI := fun Γ W => wa Γ fun oa Γ1 => wb Γ1 fun ob Γ2 => ∃ da db, oa = .val da ∧ ob = .val db ∧ rngW da db fun ds => W ds Γ2
theorem i_rng1 (hg : Gl X "range") (hm : X.mg "range" = none) (hn : noStar e = true) (he : PE X e (tD C we)) : PI X tg (.Call (.Name "range" p) [e] [] pos) (tDI C (wiRng1 we)) := by
  refine PI.imp (pi_range1 hg hm (pa_cons he pa_nil (star1 hn)) (star1 hn)) fun σ H Q h => ?_
  obtain ⟨F, Γ, W, ok, hw, hq⟩ := h
  refine ⟨F, Γ, _, ok, hw, fun o Γ1 v H1 F1 h1 ok1 st1 r1 => ?_⟩
  obtain ⟨d, rfl, h1⟩ := h1
  cases d <;> first | exact h1.elim | skip
  rename_i j
  obtain ⟨⟨g1, g2, g3, g4⟩, h1⟩ := h1
  cases r1
  refine ⟨j, rfl, by omega, by omega, ?_⟩
  have e : (j - 0).toNat = j.toNat := by rw [Int.sub_zero]
  rw [e] at h1
  refine hq _ Γ1 _ H1 F1 h1 ok1 st1 itOk_rng ?_
  have : (rngD 0 j.toNat).length = j.toNat := by simp [rngD]
  rw [this]
  have : sizeLine = 16777216 := rfl
  omega
theorem i_rng2 (hg : Gl X "range") (hm : X.mg "range" = none) (hn : noStar e = true) (hn2 : noStar e2 = true) (he : PE X e (tD C wa)) (he2 : PE X e2 (tD C wb)) : PI X tg (.Call (.Name "range" p) [e, e2] [] pos) (tDI C (wiRng2 wa wb)) := by
  refine PI.imp (pi_range2 hg hm (pa_cons he (pa_cons he2 pa_nil (star1 hn2)) (star1 hn)) (by rw [star1 hn, star1 hn2]; rfl) (star1 hn2)) fun σ H Q h => ?_
  obtain ⟨F, Γ, W, ok, hw, hq⟩ := h
  have := two (Q := fun x y H2 => ∃ i j : Int, [x, y] = [.int i, .int j] ∧ (-(2 ^ 62) ≤ i ∧ i < 2 ^ 62 ∧ -(2 ^ 62) ≤ j ∧ j < 2 ^ 62) ∧ Q (Itr i (j - i).toNat) H2) ok hw fun x y oa ob F2 H2 Γ2 ok2 st ra rb h => by
    obtain ⟨da, db, rfl, rfl, h⟩ := h
    cases da <;> cases db <;> first | exact h.elim | skip
    obtain ⟨⟨g1, g2, g3, g4⟩, h⟩ := h
    cases ra; cases rb
    rename_i i j
    refine ⟨i, j, rfl, by omega, hq _ Γ2 _ H2 F2 h ok2 st itOk_rng ?_⟩
    have : (rngD i (j - i).toNat).length = (j - i).toNat := by simp [rngD]
    rw [this]
    have : sizeLine = 16777216 := rfl
    omega
  exact this
/-! ### zip of two rows -/
def tZA (K : KW) (t : TA) : TA := fun σ H Q => t σ H fun vs H1 => (∀ a xs, .ref a ∈ vs → SqL K H1 a xs ∨ SqT K H1 a xs → xs.length ≤ sizeLine) → Q vs H1
theorem pa_tZA {es : List Expr} {t : TA} (h : PA X es t) : PA X es (tZA (kwOf X) t) := ⟨fun pos pins s σ H Q I q => thn (h.run pos pins s σ H _ I q) fun u s1 ⟨v, H1, I1, r1, q1⟩ => ⟨v, H1, I1, r1, q1 fun a xs _ hx => len_of I1 hx⟩⟩
def pairD (x y : D) : D := .tuple [x, y]
def zipW (ds : List D) (W : List D → Prop) : Prop := match ds with
  | [.list xs, .list ys] => W (List.zipWith pairD xs ys)
  | [.tuple xs, .tuple ys] => W (List.zipWith pairD xs ys)
  | _ => False
def wiZip (wv : WV) : WI := fun Γ W => wv Γ fun ds Γ1 => zipW ds fun zs => W zs Γ1
theorem zip_get {xs ys : List D} {i : Nat} {d : D} (h : (List.zipWith pairD xs ys)[i]? = some d) : ∃ x y, xs[i]? = some x ∧ ys[i]? = some y ∧ d = pairD x y := by
  rw [List.getElem?_zipWith] at h
  cases ex : xs[i]? with
  | none => rw [ex] at h; simp at h
  | some x =>
    cases ey : ys[i]? with
    | none => rw [ex, ey] at h; simp at h
    | some y => rw [ex, ey] at h; simp at h; exact ⟨x, y, rfl, rfl, h.symm⟩
theorem itOk_zipL {K : KW} {F : Hp} {a b : Addr} {vs ws : List V} {xs ys : List D} (h1 : RdL K.k F a vs) (r1 : RpAll K F vs xs) (h2 : RdL K.k F b ws) (r2 : RpAll K F ws ys) : ItOk K F (Itz K a b) (List.zipWith pairD xs ys) := fun G H l s i => by
  have k1 : SqL K H a vs := (RdL.mono s.le (RdL.mono l h1)).sql
  have k2 : SqL K H b ws := (RdL.mono s.le (RdL.mono l h2)).sql
  refine ⟨fun d e => ?_, fun hl => ⟨vs, ws, k1, k2, ?_⟩⟩
  · obtain ⟨x, y, ex, ey, rfl⟩ := zip_get e
    obtain ⟨v, ev, rv⟩ := r1.get ex
    obtain ⟨w, ew, rw'⟩ := r2.get ey
    refine ⟨⟨vs, ws, v, w, k1, k2, ev, ew⟩, fun z H' y' => ?_⟩
    obtain ⟨T, v', w', rfl, hT, rfl, y1, y2⟩ := y'
    have e1 := y1 vs k1
    have e2 := y2 ws k2
    rw [ev] at e1; rw [ew] at e2
    cases e1; cases e2
    exact ⟨_, .tup hT (.cons (rv.mono l) (.cons (rw'.mono l) .nil))⟩
  · rw [List.length_zipWith] at hl
    rw [r1.length, r2.length]; omega
theorem itOk_zipT {K : KW} {F : Hp} {a b : Addr} {vs ws : List V} {xs ys : List D} (h1 : SqT K F a vs) (r1 : RpAll K F vs xs) (h2 : SqT K F b ws) (r2 : RpAll K F ws ys) : ItOk K F (RZ.ItzT K a b) (List.zipWith pairD xs ys) := fun G H l s i => by
  have k1 : SqT K H a vs := SqT.mono s.le (SqT.mono l h1)
  have k2 : SqT K H b ws := SqT.mono s.le (SqT.mono l h2)
  refine ⟨fun d e => ?_, fun hl => ⟨vs, ws, k1, k2, ?_⟩⟩
  · obtain ⟨x, y, ex, ey, rfl⟩ := zip_get e
    obtain ⟨v, ev, rv⟩ := r1.get ex
    obtain ⟨w, ew, rw'⟩ := r2.get ey
    refine ⟨⟨vs, ws, v, w, k1, k2, ev, ew⟩, fun z H' y' => ?_⟩
    obtain ⟨T, v', w', rfl, hT, rfl, y1, y2⟩ := y'
    have e1 := y1 vs k1
    have e2 := y2 ws k2
    rw [ev] at e1; rw [ew] at e2
    cases e1; cases e2
    exact ⟨_, .tup hT (.cons (rv.mono l) (.cons (rw'.mono l) .nil))⟩
  · rw [List.length_zipWith] at hl
    rw [r1.length, r2.length]; omega
theorem i_zip {elts : List Expr} {kq : Nat} {tpos : Pos} {wv : WV} (hK : kwOf X = C.K) (hg : Gl X "zip") (hm : X.mg "zip" = none) (hn : noStar e = true) (hn2 : noStar e2 = true) (ha : PA X [e, e2] (tDV C wv)) : PI X (.Tuple elts kq tpos) (.Call (.Name "zip" p) [e, e2] [] pos) (tDI C (wiZip wv)) := by
  refine PI.imp (RZ.pi_zipA hg hm (pa_tZA ha) (by rw [star1 hn]) (by rw [star1 hn2]; rfl)) fun σ H Q h => ?_
  obtain ⟨F, Γ, W, ok, hw, hq⟩ := h
  refine ⟨F, Γ, _, ok, hw, fun ds Γ1 vs H1 F1 h1 ok1 st1 r1 hlen => ?_⟩
  unfold zipW at h1
  split at h1
  · rename_i xs ys
    cases r1 with
    | cons ra rt =>
      cases rt with
      | cons rb rn =>
        cases rn
        cases ra with
        | lst ha1 ra1 =>
          cases rb with
          | lst hb1 rb1 =>
            have k1 := (RdL.mono ok1.sub.le ha1).sql
            have k2 := (RdL.mono ok1.sub.le hb1).sql
            rw [← GS.kk hK] at k1 k2
            have hz := hlen _ _ List.mem_cons_self (.inl k1)
            refine ⟨_, _, _, _, rfl, .inl ⟨k1, k2, hq _ Γ1 _ H1 F1 h1 ok1 st1 ?_ ?_⟩⟩
            · rw [kk hK]; exact itOk_zipL ha1 ra1 hb1 rb1
            · rw [List.length_zipWith, ← ra1.length]; omega
  · rename_i xs ys
    cases r1 with
    | cons ra rt =>
      cases rt with
      | cons rb rn =>
        cases rn
        cases ra with
        | tup ha1 ra1 =>
          cases rb with
          | tup hb1 rb1 =>
            have k1 := SqT.mono ok1.sub.le ha1
            have k2 := SqT.mono ok1.sub.le hb1
            rw [← kk hK] at k1 k2
            have hz := hlen _ _ List.mem_cons_self (.inr k1)
            refine ⟨_, _, _, _, rfl, .inr ⟨k1, k2, hq _ Γ1 _ H1 F1 h1 ok1 st1 ?_ ?_⟩⟩
            · rw [kk hK]; exact itOk_zipT ha1 ra1 hb1 rb1
            · rw [List.length_zipWith, ← ra1.length]; omega
  · exact h1.elim
end
end GS
end

section
set_option Elab.async false
set_option linter.all false
set_option maxRecDepth 100000
set_option maxHeartbeats 1000000
namespace GS
open PySem PySem.Spec PyProof.Rows L2

/-! ## slots that change -/
def noRef : Slot → Bool
  | .ref _ => false
  | _ => true
def plain : Slot → Bool
  | .non => true
  | .val _ => true
  | _ => false
theorem plain_own {s : Slot} {c : Ct} (h : plain s = true) : ¬ OwnC s c := fun z => by rcases z with z | z <;> subst z <;> cases h
theorem plain_ref {s : Slot} (h : plain s = true) : noRef s = true := by cases s <;> first | rfl | cases h
/-- slot i is as it was, or it held nothing lent and now holds data or nothing -/
def SwAt (K : KW) (F : Hp) (σ σ' : L2.St) (s s' : Slot) (i : Nat) : Prop := (s' = s ∧ σ'[i]? = σ[i]?) ∨ (noRef s = true ∧ (s' = .non ∨ ∃ d v, s' = .val d ∧ σ'[i]? = some (some v) ∧ Rp K F v d))
section
variable {C : DC} {F H : Hp} {σ σ' : L2.St} {Γ Γ' : DEnv}
theorem EnvOk.sw (ok : EnvOk C F H σ Γ) (hl : σ'.length = σ.length) (hl2 : Γ'.length = Γ.length) (h : ∀ i, SwAt C.K F σ σ' (Γ.at i) (Γ'.at i) i) : EnvOk C F H σ' Γ' := by
  have own : ∀ i c, OwnC (Γ'.at i) c → Γ'.at i = Γ.at i ∧ σ'[i]? = σ[i]? := fun i c hc => by
    rcases h i with q | ⟨_, q | ⟨d, v, q, _⟩⟩
    · exact q
    · rw [q] at hc; rcases hc with hc | hc <;> cases hc
    · rw [q] at hc; rcases hc with hc | hc <;> cases hc
  refine ⟨ok.sub, ok.le, ok.new, ok.keep, ok.dom, by rw [hl, hl2]; exact ok.len, fun i d e => ?_, fun i c hc => ?_, fun i c a hc e => ?_, fun i c a hc e => ?_, fun i j c c' a h1 h2 e1 e2 => ?_, fun i a hi => ?_, ok.tabs⟩
  · rcases h i with ⟨q1, q2⟩ | ⟨_, q | ⟨d', v, q, q2, q3⟩⟩
    · rw [q1] at e
      obtain ⟨v, e1, r⟩ := ok.vals i d e
      exact ⟨v, by rw [q2]; exact e1, r⟩
    · rw [q] at e; cases e
    · rw [q] at e; cases e; exact ⟨v, q2, q3⟩
  · obtain ⟨q1, q2⟩ := own i c hc
    rw [q1] at hc; rw [q2]
    exact ok.owns i c hc
  · obtain ⟨q1, q2⟩ := own i c (.inl hc)
    rw [q1] at hc; rw [q2] at e
    exact ok.mine i c a hc e
  · obtain ⟨q1, q2⟩ := own i c (.inr hc)
    rw [q1] at hc; rw [q2] at e
    exact ok.lent i c a hc e
  · obtain ⟨q1, q2⟩ := own i c h1
    obtain ⟨q3, q4⟩ := own j c' h2
    rw [q1] at h1; rw [q3] at h2; rw [q2] at e1; rw [q4] at e2
    exact ok.apart i j c c' a h1 h2 e1 e2
  · obtain ⟨⟨c, e1⟩, e2⟩ := ok.refs i a hi
    rcases h i with ⟨q1, q2⟩ | ⟨q, _⟩
    · exact ⟨⟨c, by rw [q1]; exact e1⟩, by rw [q2]; exact e2⟩
    · rw [e1] at q; cases q
theorem own_sw {a : Addr} (h : ∀ i, (Γ'.at i = Γ.at i ∧ σ'[i]? = σ[i]?) ∨ (plain (Γ.at i) = true ∧ plain (Γ'.at i) = true)) : Own σ' Γ' a ↔ Own σ Γ a := by
  constructor
  · rintro ⟨i, c, hc, e⟩
    rcases h i with ⟨q1, q2⟩ | ⟨_, q⟩
    · exact ⟨i, c, by rw [← q1]; exact hc, by rw [← q2]; exact e⟩
    · exact absurd hc (plain_own q)
  · rintro ⟨i, c, hc, e⟩
    rcases h i with ⟨q1, q2⟩ | ⟨q, _⟩
    · exact ⟨i, c, by rw [q1]; exact hc, by rw [q2]; exact e⟩
    · exact absurd hc (plain_own q)
end
def clr (vs : List Nat) (Γ : DEnv) : DEnv := vs.foldr (fun i Γ => Γ.set i .non) Γ
def rst (vs : List Nat) (Γ0 Γ : DEnv) : DEnv := vs.foldr (fun i Γ => Γ.set i (Γ0.at i)) Γ
theorem at_set' (Γ : DEnv) (i j : Nat) (s : Slot) : DEnv.at (Γ.set i s) j = if i = j ∧ j < Γ.length then s else Γ.at j := by
  by_cases h : i < Γ.length
  · rw [at_set h]
    by_cases e : i = j
    · subst e; simp [h]
    · simp [e]
  · rw [List.set_eq_of_length_le (by omega)]
    by_cases e : i = j
    · subst e; simp [h]
    · simp [e]
theorem at_ge {Γ : DEnv} {i : Nat} (h : Γ.length ≤ i) : Γ.at i = .non := by
  unfold DEnv.at
  rw [List.getD_eq_getElem?_getD, List.getElem?_eq_none h]; rfl
theorem clr_length : ∀ (vs : List Nat) (Γ : DEnv), (clr vs Γ).length = Γ.length
  | [], _ => rfl
  | v :: vs, Γ => by
    show ((clr vs Γ).set v _).length = _
    rw [List.length_set, clr_length vs Γ]
theorem rst_length (Γ0 : DEnv) : ∀ (vs : List Nat) (Γ : DEnv), (rst vs Γ0 Γ).length = Γ.length
  | [], _ => rfl
  | v :: vs, Γ => by
    show ((rst vs Γ0 Γ).set v _).length = _
    rw [List.length_set, rst_length Γ0 vs Γ]
theorem clr_at : ∀ (vs : List Nat) (Γ : DEnv) (i : Nat), DEnv.at (clr vs Γ) i = if i ∈ vs then .non else Γ.at i
  | [], _, _ => by simp [clr]
  | v :: vs, Γ, i => by
    show DEnv.at ((clr vs Γ).set v .non) i = _
    rw [at_set', clr_at vs Γ i, clr_length]
    by_cases e : v = i
    · subst e
      by_cases h : v < Γ.length
      · simp [h]
      · simp [h, at_ge (Nat.le_of_not_lt h)]
    · have : i ≠ v := fun z => e z.symm
      simp [e, this]
theorem rst_at {Γ0 : DEnv} : ∀ (vs : List Nat) (Γ : DEnv) (i : Nat), Γ.length = Γ0.length → DEnv.at (rst vs Γ0 Γ) i = if i ∈ vs then Γ0.at i else Γ.at i
  | [], _, _, _ => by simp [rst]
  | v :: vs, Γ, i, hl => by
    show DEnv.at ((rst vs Γ0 Γ).set v (Γ0.at v)) i = _
    rw [at_set', rst_at vs Γ i hl]
    by_cases e : v = i
    · subst e
      by_cases h : v < Γ.length
      · simp [h, rst_length]
      · have h1 : Γ0.at v = .non := at_ge (by omega)
        have h2 : Γ.at v = .non := at_ge (by omega)
        rw [if_neg (fun z => h (by rw [rst_length] at z; exact z.2)), if_pos List.mem_cons_self]
        split
        · rfl
        · rw [h2, h1]
    · have : i ≠ v := fun z => e z.symm
      simp [e, this]
theorem wipe_get (σ : L2.St) : ∀ (vs : List Nat) (i : Nat), i ∉ vs → (wipe σ vs)[i]? = σ[i]?
  | [], _, _ => rfl
  | v :: vs, i, h => by
    simp only [List.mem_cons, not_or] at h
    show ((wipe σ vs).set v none)[i]? = _
    rw [List.getElem?_set_ne (Ne.symm h.1), wipe_get σ vs i h.2]
theorem wipe_in (σ : L2.St) : ∀ (vs : List Nat) (i : Nat), i ∈ vs → i < σ.length → (wipe σ vs)[i]? = some none
  | [], _, h, _ => by cases h
  | v :: vs, i, h, hl => by
    show ((wipe σ vs).set v none)[i]? = _
    by_cases e : v = i
    · subst e; rw [List.getElem?_set_self (by rw [wipe_length]; exact hl)]
    · rw [List.getElem?_set_ne e]
      exact wipe_in σ vs i ((List.mem_cons.mp h).resolve_left fun z => e z.symm) hl
theorem wipe_ext {σ σ' : L2.St} {vs : List Nat} (hl : σ'.length = σ.length) (h : ∀ i, i ∉ vs → σ'[i]? = σ[i]?) : wipe σ' vs = wipe σ vs := by
  apply List.ext_getElem?
  intro i
  by_cases m : i ∈ vs
  · rcases Nat.lt_or_ge i σ.length with q | q
    · rw [wipe_in σ' vs i m (by omega), wipe_in σ vs i m q]
    · rw [List.getElem?_eq_none (by rw [wipe_length]; omega), List.getElem?_eq_none (by rw [wipe_length]; omega)]
  · rw [wipe_get σ' vs i m, wipe_get σ vs i m, h i m]
theorem wipe_eq_get {σ σ' : L2.St} {vs : List Nat} (h : wipe σ' vs = wipe σ vs) {i : Nat} (m : i ∉ vs) : σ'[i]? = σ[i]? := by
  rw [← wipe_get σ' vs i m, ← wipe_get σ vs i m, h]

/-! ## targets -/
def gD (C : DC) (T : List Nat) (w : WG) : TG := fun v σ H Q => ∃ F Γ d W, EnvOk C F H σ Γ ∧ Rp C.K F v d ∧ w d Γ W ∧ ∀ σ' Γ', W Γ' → EnvOk C F H σ' Γ' → σ'.length = σ.length → (∀ i, i ∉ T → σ'[i]? = σ[i]? ∧ Γ'.at i = Γ.at i) → (∀ i, i ∈ T → plain (Γ'.at i) = true) → Q σ' H
def gDs (C : DC) (T : List Nat) (w : List D → DEnv → (DEnv → Prop) → Prop) : TGs := fun vs σ H Q => ∃ F Γ ds W, EnvOk C F H σ Γ ∧ RpAll C.K F vs ds ∧ w ds Γ W ∧ ∀ σ' Γ', W Γ' → EnvOk C F H σ' Γ' → σ'.length = σ.length → (∀ i, i ∉ T → σ'[i]? = σ[i]? ∧ Γ'.at i = Γ.at i) → (∀ i, i ∈ T → plain (Γ'.at i) = true) → Q σ' H
abbrev WGs := List D → DEnv → (DEnv → Prop) → Prop
def wgName (i : Nat) : WG := fun d Γ W => (i < Γ.length ∧ noRef (Γ.at i) = true) ∧ W (Γ.set i (.val d))
def wgNil : WGs := fun ds Γ W => ds = [] ∧ W Γ
def wgCons (w : WG) (ws : WGs) : WGs := fun ds Γ W => match ds with
  | [] => False
  | d :: ds => w d Γ fun Γ1 => ws ds Γ1 W
def wgTup (n : Nat) (ws : WGs) : WG := fun d Γ W => match d with
  | .tuple ds => ds.length = n ∧ ws ds Γ W
  | _ => False
theorem PG.imp {X : Cx} {tg : Expr} {t t' : TG} (h : PG X tg t) (i : ∀ v σ H Q, t' v σ H Q → t v σ H Q) : PG X tg t' := ⟨fun pins s σ H v u Q I r q => h.run pins s σ H v u Q I r (i v σ H Q q)⟩
theorem PGs.imp {X : Cx} {tg : List Expr} {t t' : TGs} (h : PGs X tg t) (i : ∀ v σ H Q, t' v σ H Q → t v σ H Q) : PGs X tg t' := ⟨fun pins s σ H v u Q I r q => h.run pins s σ H v u Q I r (i v σ H Q q)⟩
section
variable {X : Cx} {C : DC} {pos : Pos}
theorem EnvOk.store {F H : Hp} {σ : L2.St} {Γ : DEnv} {i : Nat} {v : V} {d : D} (ok : EnvOk C F H σ Γ) (hi : i < Γ.length) (hr : noRef (Γ.at i) = true) (r : Rp C.K F v d) : EnvOk C F H (σ.set i (some v)) (Γ.set i (.val d)) := by
  refine ok.sw (List.length_set ..) (List.length_set ..) fun j => ?_
  rw [at_set hi]
  by_cases e : i = j
  · subst e
    rw [if_pos rfl]
    exact .inr ⟨hr, .inr ⟨d, v, rfl, List.getElem?_set_self (by rw [← ok.len]; exact hi), r⟩⟩
  · rw [if_neg e]
    exact .inl ⟨rfl, List.getElem?_set_ne e⟩
theorem g_name {i : Nat} {x : Str} (hN : X.N.Nodup) (hi : X.N[i]? = some x) (hx : Loc X.env.scope x) (hf : X.fn x = true ∨ X.env.scope.names.lookup x = some .local) : PG X (.Name x pos) (gD C [i] (wgName i)) := by
  refine PG.imp (pg_name hN hi hx hf) fun v σ H Q h => ?_
  obtain ⟨F, Γ, d, W, ok, r, hw, hq⟩ := h
  obtain ⟨⟨h1, h2⟩, hw⟩ := hw
  refine hq _ _ hw (ok.store h1 h2 r) (List.length_set ..) (fun j hj => ?_) fun j hj => ?_
  · have e : i ≠ j := fun z => hj (by rw [z]; exact List.mem_singleton.mpr rfl)
    exact ⟨List.getElem?_set_ne e, by rw [at_set h1, if_neg e]⟩
  · rw [List.mem_singleton.mp hj, at_set h1, if_pos rfl]; rfl
theorem gs_nil : PGs X [] (gDs C [] wgNil) := by
  refine PGs.imp pgs_nil fun v σ H Q h => ?_
  obtain ⟨F, Γ, ds, W, ok, r, ⟨rfl, hw⟩, hq⟩ := h
  cases r
  exact ⟨rfl, hq σ Γ hw ok rfl (fun _ _ => ⟨rfl, rfl⟩) (fun i hi => by cases hi)⟩
theorem gs_cons {e : Expr} {es : List Expr} {T Ts : List Nat} {w : WG} {ws : WGs} (h1 : PG X e (gD C T w)) (h2 : PGs X es (gDs C Ts ws)) (hs : (assignEach (e :: es) X.env).map (·.2) = assign e X.env :: (assignEach es X.env).map (·.2)) : PGs X (e :: es) (gDs C (T ++ Ts) (wgCons w ws)) := by
  refine PGs.imp (pgs_cons h1 h2 hs) fun v σ H Q h => ?_
  obtain ⟨F, Γ, ds, W, ok, r, hw, hq⟩ := h
  cases r with
  | nil => exact hw.elim
  | cons r rs =>
    refine ⟨_, _, rfl, F, Γ, _, _, ok, r, hw, fun σ1 Γ1 k1 ok1 l1 s1 p1 => ⟨F, Γ1, _, _, ok1, rs, k1, fun σ2 Γ2 k2 ok2 l2 s2 p2 => ?_⟩⟩
    refine hq σ2 Γ2 k2 ok2 (by rw [l2, l1]) (fun i hi => ?_) fun i hi => ?_
    · rw [List.mem_append, not_or] at hi
      exact ⟨by rw [(s2 i hi.2).1, (s1 i hi.1).1], by rw [(s2 i hi.2).2, (s1 i hi.1).2]⟩
    · by_cases m : i ∈ Ts
      · exact p2 i m
      · rw [(s2 i m).2]
        exact p1 i ((List.mem_append.mp hi).resolve_right m)
theorem g_tup {es : List Expr} {k n : Nat} {T : List Nat} {ws : WGs} (hK : kwOf X = C.K) (hc : X.calm = true) (h : PGs X es (gDs C T ws)) (hn : (assignEach es X.env).length = n) (hst : (assignEach es X.env).findIdx? (·.1) = none) : PG X (.Tuple es k pos) (gD C T (wgTup n ws)) := by
  refine PG.imp (pg_tup hc h hn hst) fun v σ H Q h => ?_
  obtain ⟨F, Γ, d, W, ok, r, hw, hq⟩ := h
  cases d <;> first | exact hw.elim | skip
  obtain ⟨hl, hw⟩ := hw
  cases r with
  | tup h1 r1 =>
    rw [kk hK]
    exact ⟨_, _, rfl, SqT.mono ok.sub.le h1, by rw [r1.length]; exact hl, F, Γ, _, W, ok, r1, hw, hq⟩
end
end GS
end

section
set_option Elab.async false
set_option linter.all false
set_option maxRecDepth 100000
set_option maxHeartbeats 1000000
namespace GS
open PySem PySem.Spec PyProof.Rows L2

/-! ## statements -/
structure Outs (C : DC) (F : Hp) (K : DK) (D : Ends) : Prop where
  nx : ∀ Γ' σ' H' F', K.nx Γ' → EnvOk C F' H' σ' Γ' → Le F F' → D.nx σ' H'
  bk : ∀ Γ' σ' H' F', K.bk Γ' → EnvOk C F' H' σ' Γ' → Le F F' → D.bk σ' H'
  ct : ∀ Γ' σ' H' F', K.ct Γ' → EnvOk C F' H' σ' Γ' → Le F F' → D.ct σ' H'
  rt : ∀ o Γ' σ' v H' F', K.rt o Γ' → EnvOk C F' H' σ' Γ' → Le F F' → ResOk C (fun _ => none) F' H' σ' Γ' v o → D.rt v H'
theorem Outs.later {C : DC} {F F' : Hp} {K : DK} {D : Ends} (h : Outs C F K D) (l : Le F F') : Outs C F' K D :=
  ⟨fun Γ σ H G a b c => h.nx Γ σ H G a b (l.trans c), fun Γ σ H G a b c => h.bk Γ σ H G a b (l.trans c), fun Γ σ H G a b c => h.ct Γ σ H G a b (l.trans c), fun o Γ σ v H G a b c => h.rt o Γ σ v H G a b (l.trans c)⟩
def tDS (C : DC) (w : WS) : TS := fun D σ H => ∃ F Γ K, EnvOk C F H σ Γ ∧ w Γ K ∧ Outs C F K D
def wNext : WS := fun Γ K => K.nx Γ
def wBrk : WS := fun Γ K => K.bk Γ
def wCnt : WS := fun Γ K => K.ct Γ
def wNever : WS := fun _ _ => False
def wSeq (a b : WS) : WS := fun Γ K => a Γ { K with nx := fun Γ1 => b Γ1 K }
def wIf (t : WT) (a b : WS) : WS := fun Γ K => t Γ fun k Γ1 => if k = true then a Γ1 K else b Γ1 K
def wRet (w : WE) : WS := fun Γ K => w Γ K.rt
def wRetN : WS := fun Γ K => K.rt (.val .none) Γ
def wDrop (w : WE) : WS := fun Γ K => w Γ fun _ Γ1 => K.nx Γ1
/-- what a name may hold: data, or a new list, dict; a second name for an own list freezes it -/
def Opd.sto (o : Opd) (Γ : DEnv) (W : Slot → DEnv → Prop) : Prop := match o with
  | .val d => W (.val d) Γ
  | .new c => W (.own c) Γ
  | .own i => (Opd.own i).frz Γ fun d Γ1 => W (.val d) Γ1
def wSet (i : Nat) (w : WE) : WS := fun Γ K => w Γ fun o Γ1 => o.sto Γ1 fun s Γ2 => (i < Γ2.length ∧ noRef (Γ2.at i) = true) ∧ K.nx (Γ2.set i s)
def wAsg (g : WG) (w : WE) : WS := fun Γ K => w Γ fun o Γ1 => o.frz Γ1 fun d Γ2 => g d Γ2 K.nx
def forW (g : WG) (b : WS) (K : DK) : List D → DEnv → Prop
  | [], Γ => K.nx Γ
  | d :: ds, Γ => g d Γ fun Γ1 => b Γ1 { nx := forW g b K ds, ct := forW g b K ds, bk := K.nx, rt := K.rt }
def wFor (it : WI) (g : WG) (b : WS) : WS := fun Γ K => it Γ fun ds Γ1 => forW g b K ds Γ1
def whlW (t : WT) (b : WS) (K : DK) : Nat → DEnv → Prop
  | 0, _ => False
  | n + 1, Γ => t Γ fun k Γ1 => if k = true then b Γ1 { nx := whlW t b K n, ct := whlW t b K n, bk := K.nx, rt := K.rt } else K.nx Γ1
def wWhl (t : WT) (b : WS) : WS := fun Γ K => ∃ n, whlW t b K n Γ
section
variable {X : Cx} {C : DC} {e c : Expr} {we : WE} {wa wb : WS} {wt : WT} {pos : Pos} {a b : List Stmt} {st : Stmt}
theorem s_nil : PSs X [] (tDS C wNext) := by
  refine PSs.imp pss_nil fun D σ H h => ?_
  obtain ⟨F, Γ, K, ok, hw, o⟩ := h
  exact o.nx Γ σ H F hw ok (Le.refl F)
theorem s_cons (h1 : PS X st (tDS C wa)) (h2 : PSs X a (tDS C wb)) : PSs X (st :: a) (tDS C (wSeq wa wb)) := by
  refine PSs.imp (pss_cons h1 h2) fun D σ H h => ?_
  obtain ⟨F, Γ, K, ok, hw, o⟩ := h
  exact ⟨F, Γ, _, ok, hw, fun Γ' σ' H' F' h' ok' l => ⟨F', Γ', K, ok', h', o.later l⟩, o.bk, o.ct, o.rt⟩
theorem s_one (h1 : PS X st (tDS C wa)) : PSs X [st] (tDS C wa) := pss_one h1
theorem s_never : PS X st (tDS C wNever) := PS.imp ps_never fun D σ H h => by
  obtain ⟨F, Γ, K, ok, hw, o⟩ := h
  exact hw
theorem ss_never {sts : List Stmt} : PSs X sts (tDS C wNever) := PSs.imp pss_never fun D σ H h => by
  obtain ⟨F, Γ, K, ok, hw, o⟩ := h
  exact hw
theorem s_pass : PS X (.Pass pos) (tDS C wNext) := by
  refine PS.imp ps_pass fun D σ H h => ?_
  obtain ⟨F, Γ, K, ok, hw, o⟩ := h
  exact o.nx Γ σ H F hw ok (Le.refl F)
theorem s_brk : PS X (.Break pos) (tDS C wBrk) := by
  refine PS.imp ps_break fun D σ H h => ?_
  obtain ⟨F, Γ, K, ok, hw, o⟩ := h
  exact o.bk Γ σ H F hw ok (Le.refl F)
theorem s_cnt : PS X (.Continue pos) (tDS C wCnt) := by
  refine PS.imp ps_continue fun D σ H h => ?_
  obtain ⟨F, Γ, K, ok, hw, o⟩ := h
  exact o.ct Γ σ H F hw ok (Le.refl F)
theorem s_ret (he : PE X e (tD C we)) : PS X (.Return (some e) pos) (tDS C (wRet we)) := by
  refine PS.imp (ps_ret he) fun D σ H h => ?_
  obtain ⟨F, Γ, K, ok, hw, o⟩ := h
  exact ⟨F, Γ, _, ok, hw, fun o' Γ' v H' F' h' ok' st r => o.rt o' Γ' σ v H' F' h' ok' st.le (r.base fun _ _ => rfl)⟩
theorem s_retN : PS X (.Return none pos) (tDS C wRetN) := by
  refine PS.imp ps_retN fun D σ H h => ?_
  obtain ⟨F, Γ, K, ok, hw, o⟩ := h
  exact o.rt _ Γ σ _ H F hw ok (Le.refl F) .non
theorem s_drop (hp : plainVal e = true) (he : PE X e (tD C we)) : PS X (.Expr e pos) (tDS C (wDrop we)) := by
  refine PS.imp (ps_expr he (swaps_none hp)) fun D σ H h => ?_
  obtain ⟨F, Γ, K, ok, hw, o⟩ := h
  exact ⟨F, Γ, _, ok, hw, fun o' Γ' v H' F' h' ok' st r => o.nx Γ' σ H' F' h' ok' st.le⟩
theorem s_if (hc : PT X c (tDT C wt)) (ha : PSs X a (tDS C wa)) (hb : PSs X b (tDS C wb)) : PS X (.If c a b pos) (tDS C (wIf wt wa wb)) := by
  refine PS.imp (ps_if hc ha hb) fun D σ H h => ?_
  obtain ⟨F, Γ, K, ok, hw, o⟩ := h
  refine ⟨F, Γ, _, ok, hw, fun k Γ' H' F' h' ok' st => ?_⟩
  cases k with
  | true => exact ⟨F', Γ', K, ok', h', o.later st.le⟩
  | false => exact ⟨F', Γ', K, ok', h', o.later st.le⟩
theorem EnvOk.storeNew {F H : Hp} {σ : L2.St} {Γ : DEnv} {i : Nat} {v : V} {c : Ct} {B : Hp} (ok : EnvOk C F H σ Γ) (hi : i < Γ.length) (hr : noRef (Γ.at i) = true) (r : ResOk C B F H σ Γ v (.new c)) : EnvOk C F H (σ.set i (some v)) (Γ.set i (.own c)) := by
  obtain ⟨a, rfl, hF, hc, no, h0, _⟩ := r
  have hs : i < σ.length := by rw [← ok.len]; exact hi
  have g : ∀ j, i ≠ j → (σ.set i (some (V.ref a)))[j]? = σ[j]? := fun j e => List.getElem?_set_ne e
  have g0 : (σ.set i (some (V.ref a)))[i]? = some (some (V.ref a)) := List.getElem?_set_self hs
  refine ⟨ok.sub, ok.le, ok.new, ok.keep, ok.dom, by rw [List.length_set, List.length_set]; exact ok.len, fun j d e => ?_, fun j c' hc' => ?_, fun j c' b hc' e => ?_, fun j c' b hc' e => ?_, fun j k c1 c2 b h1 h2 e1 e2 => ?_, fun j b hj => ?_, ok.tabs⟩
  · rw [at_set hi] at e
    by_cases q : i = j
    · rw [if_pos q] at e; cases e
    · rw [if_neg q] at e; rw [g j q]; exact ok.vals j d e
  · rw [at_set hi] at hc'
    by_cases q : i = j
    · subst q
      rw [if_pos rfl] at hc'
      rcases hc' with hc' | hc' <;> cases hc'
      exact ⟨a, g0, hF, hc⟩
    · rw [if_neg q] at hc'; rw [g j q]; exact ok.owns j c' hc'
  · rw [at_set hi] at hc'
    by_cases q : i = j
    · subst q; rw [g0] at e; cases e; exact h0
    · rw [if_neg q] at hc'; rw [g j q] at e; exact ok.mine j c' b hc' e
  · rw [at_set hi] at hc'
    by_cases q : i = j
    · rw [if_pos q] at hc'; cases hc'
    · rw [if_neg q] at hc'; rw [g j q] at e; exact ok.lent j c' b hc' e
  · rw [at_set hi] at h1 h2
    by_cases q : i = j
    · subst q
      rw [g0] at e1; cases e1
      by_cases q2 : i = k
      · exact q2
      · rw [if_neg q2] at h2; rw [g k q2] at e2
        exact absurd ⟨k, c2, h2, e2⟩ no
    · rw [if_neg q] at h1; rw [g j q] at e1
      by_cases q2 : i = k
      · subst q2
        rw [g0] at e2; cases e2
        exact absurd ⟨j, c1, h1, e1⟩ no
      · rw [if_neg q2] at h2; rw [g k q2] at e2
        exact ok.apart j k c1 c2 b h1 h2 e1 e2
  · obtain ⟨⟨c', e1⟩, e2⟩ := ok.refs j b hj
    have q : i ≠ j := fun z => by subst z; rw [e1] at hr; cases hr
    exact ⟨⟨c', by rw [at_set hi, if_neg q]; exact e1⟩, by rw [g j q]; exact e2⟩
theorem ResOk.sto {B F H F0 : Hp} {σ : L2.St} {Γ Γ0 : DEnv} {v : V} {o : Opd} {i : Nat} {K : DEnv → Prop} (r : ResOk C B F H σ Γ v o) (ok : EnvOk C F H σ Γ) (st : Stp σ F0 B Γ0 F H Γ)
    (h : o.sto Γ fun s Γ2 => (i < Γ2.length ∧ noRef (Γ2.at i) = true) ∧ K (Γ2.set i s)) : ∃ F' Γ', K Γ' ∧ EnvOk C F' H (σ.set i (some v)) Γ' ∧ Le F F' := by
  cases o with
  | val d => exact ⟨F, _, h.2, ok.store h.1.1 h.1.2 r, Le.refl F⟩
  | new c => exact ⟨F, _, h.2, ok.storeNew h.1.1 h.1.2 r, Le.refl F⟩
  | own j =>
    obtain ⟨d, F', Γ', h2, ok2, st2, r2, l2, _⟩ := ResOk.frz (W := fun d Γ2 => (i < Γ2.length ∧ noRef (Γ2.at i) = true) ∧ K (Γ2.set i (.val d))) (o := .own j) r ok st h
    exact ⟨F', _, h2.2, ok2.store h2.1.1 h2.1.2 r2, l2⟩
theorem s_set {i : Nat} {x : Str} {pos' : Pos} (hN : X.N.Nodup) (hi : X.N[i]? = some x) (hx : Loc X.env.scope x) (hf : X.fn x = true ∨ X.env.scope.names.lookup x = some .local) (hp : plainVal e = true) (he : PE X e (tD C we)) : PS X (.Assign [.Name x pos'] e pos) (tDS C (wSet i we)) := by
  refine PS.imp (ps_set hN hi hx he (swaps_none hp) hf) fun D σ H h => ?_
  obtain ⟨F, Γ, K, ok, hw, o⟩ := h
  refine ⟨F, Γ, _, ok, hw, fun o' Γ' v H' F' h' ok' st r => ?_⟩
  obtain ⟨F2, Γ2, k2, ok2, l2⟩ := ResOk.sto r ok' st h'
  exact o.nx Γ2 _ H' F2 k2 ok2 (st.le.trans l2)
theorem s_asg {tg : Expr} {T : List Nat} {g : WG} (he : PE X e (tD C we)) (hg : PG X tg (gD C T g)) (hs : swapsWithSole [tg] e pos.line X.env = pure false) (hw : swappedStores [tg] e X.env = pure none) (h0 : (assignEach [tg] X.env).map (·.2) = [assign tg X.env]) : PS X (.Assign [tg] e pos) (tDS C (wAsg g we)) := by
  refine PS.imp (ps_asg he hg hs hw h0) fun D σ H h => ?_
  obtain ⟨F, Γ, K, ok, hw, o⟩ := h
  refine ⟨F, Γ, _, ok, hw, fun o' Γ' v H' F' h' ok' st r => ?_⟩
  obtain ⟨d, F2, Γ2, h2, ok2, st2, r2, l2, _⟩ := ResOk.frz r ok' st h'
  exact ⟨F2, Γ2, d, _, ok2, r2, h2, fun σ3 Γ3 k3 ok3 _ _ _ => o.nx Γ3 σ3 H' F2 k3 ok3 st2.le⟩
/-! ### loops -/
theorem s_for {tg iter : Expr} {T : List Nat} {wi : WI} {g : WG} (hp : PassesOwn (model X.prog X.w) X.A X.env X.xe) (hc : X.calm = true) (hs : noSet iter = true) (hi : PI X tg iter (tDI C wi)) (hg : PG X tg (gD C T g)) (hb : PSs X b (tDS C wb)) : PS X (.For tg iter b [] pos) (tDS C (wFor wi g wb)) := by
  refine PS.imp (ps_for hp hc hi hg hb (folded_none hs)) fun D σ H h => ?_
  obtain ⟨F, Γ, K, ok, hw, o⟩ := h
  refine ⟨F, Γ, _, ok, hw, fun ds Γ1 J H1 F1 h1 ok1 st1 hit _ => ?_⟩
  refine ⟨fun i m σ H => ∃ G Γ, m = ds.length - i ∧ i ≤ ds.length ∧ Le F1 G ∧ EnvOk C G H σ Γ ∧ forW g wb K (ds.drop i) Γ, ⟨_, F1, Γ1, rfl, Nat.zero_le _, Le.refl F1, ok1, h1⟩, fun i m σ H hW => ?_⟩
  obtain ⟨G, Γ2, rfl, hi, l2, ok2, h2⟩ := hW
  have it := hit G H l2 ok2.sub i
  cases hd : ds[i]? with
  | none =>
    have hl : ds.length ≤ i := List.getElem?_eq_none_iff.mp hd
    rw [List.drop_eq_nil_of_le hl] at h2
    exact .inl ⟨it.2 (Nat.le_antisymm hi hl), o.nx Γ2 σ H G h2 ok2 (st1.le.trans l2)⟩
  | some d =>
    have hl : i < ds.length := (List.getElem?_eq_some_iff.mp hd).1
    have hdr : ds.drop i = d :: ds.drop (i + 1) := by
      rw [List.drop_eq_getElem_cons hl]
      rw [List.getElem?_eq_getElem hl] at hd
      cases hd; rfl
    rw [hdr] at h2
    obtain ⟨h3, h4⟩ := it.1 d hd
    refine .inr ⟨h3, fun σ' H' => ∃ G' Γ', Le F1 G' ∧ EnvOk C G' H' σ' Γ' ∧ forW g wb K (ds.drop (i + 1)) Γ', fun σ' H' ⟨G', Γ', l', ok', k'⟩ => ⟨ds.length - (i + 1), by omega, G', Γ', rfl, hl, l', ok', k'⟩, fun x H' hy => ?_⟩
    obtain ⟨G', n⟩ := h4 x H' hy
    obtain ⟨ok3, st3, r3⟩ := n.ok ok2
    refine ⟨G', Γ2, d, _, ok3, r3, h2, fun σ4 Γ4 k4 ok4 _ _ _ => ⟨G', Γ4, _, ok4, k4, fun Γ' σ' H' F' a b c => ⟨F', Γ', (l2.trans st3.le).trans c, b, a⟩, fun Γ' σ' H' F' a b c => o.nx Γ' σ' H' F' a b (((st1.le.trans l2).trans st3.le).trans c), fun Γ' σ' H' F' a b c => ⟨F', Γ', (l2.trans st3.le).trans c, b, a⟩, fun o' Γ' σ' v H' F' a b c => o.rt o' Γ' σ' v H' F' a b (((st1.le.trans l2).trans st3.le).trans c)⟩⟩
theorem s_whl (hp : PassesOwn (model X.prog X.w) X.A X.env X.xe) (hc : PT X c (tDT C wt)) (hb : PSs X b (tDS C wb)) : PS X (.While c b [] pos) (tDS C (wWhl wt wb)) := by
  refine PS.imp (ps_while hp hc hb) fun D σ H h => ?_
  obtain ⟨F, Γ, K, ok, ⟨n, hw⟩, o⟩ := h
  refine ⟨fun m σ H => ∃ G Γ, Le F G ∧ EnvOk C G H σ Γ ∧ whlW wt wb K m Γ, ⟨n, F, Γ, Le.refl F, ok, hw⟩, fun m σ H hW => ?_⟩
  obtain ⟨G, Γ2, l2, ok2, h2⟩ := hW
  cases m with
  | zero => exact h2.elim
  | succ m =>
    refine ⟨G, Γ2, _, ok2, h2, fun k Γ3 H3 F3 h3 ok3 st3 => ?_⟩
    cases k with
    | false => exact o.nx Γ3 σ H3 F3 h3 ok3 (l2.trans st3.le)
    | true =>
      refine ⟨fun σ' H' => ∃ G Γ, Le F G ∧ EnvOk C G H' σ' Γ ∧ whlW wt wb K m Γ, fun σ' H' h => ⟨m, Nat.lt_succ_self m, h⟩, F3, Γ3, _, ok3, h3, fun Γ' σ' H' F' a b c => ⟨F', Γ', (l2.trans st3.le).trans c, b, a⟩, fun Γ' σ' H' F' a b c => o.nx Γ' σ' H' F' a b ((l2.trans st3.le).trans c), fun Γ' σ' H' F' a b c => ⟨F', Γ', (l2.trans st3.le).trans c, b, a⟩, fun o' Γ' σ' v H' F' a b c => o.rt o' Γ' σ' v H' F' a b ((l2.trans st3.le).trans c)⟩
end
end GS
end

section
set_option Elab.async false
set_option linter.all false
set_option maxRecDepth 100000
set_option maxHeartbeats 1000000
namespace GS
open PySem PySem.Spec PyProof.Rows L2

/-! ## blocks: list comprehensions, generator expressions in any, all -/
structure Stq (F H : Hp) (O : Addr → Prop) (F' H' : Hp) (O' : Addr → Prop) : Prop where
  le : Le F F'
  new : ∀ a o, F' a = some o → F a = some o ∨ H a = none ∨ O a
  keep : ∀ a o, H a = some o → NT o → ¬ O a → H' a = some o
  dom : ∀ a o, H a = some o → ∃ o', H' a = some o'
  own : ∀ a, O' a → O a
theorem Stp.q {σ : L2.St} {F H F' H' : Hp} {Γ Γ' : DEnv} (s : Stp σ F H Γ F' H' Γ') : Stq F H (Own σ Γ) F' H' (Own σ Γ') := ⟨s.le, s.new, s.keep, s.dom, s.own⟩
theorem Stq.p {σ : L2.St} {F H F' H' : Hp} {Γ Γ' : DEnv} (s : Stq F H (Own σ Γ) F' H' (Own σ Γ')) : Stp σ F H Γ F' H' Γ' := ⟨s.le, s.new, s.keep, s.dom, s.own⟩
theorem Stq.trans {F H F' H' F'' H'' : Hp} {O O' O'' : Addr → Prop} (a : Stq F H O F' H' O') (b : Stq F' H' O' F'' H'' O'') : Stq F H O F'' H'' O'' where
  le := a.le.trans b.le
  new := fun x o h => by
    rcases b.new x o h with h1 | h1 | h1
    · exact a.new x o h1
    · refine .inr (.inl ?_)
      cases q : H x with
      | none => rfl
      | some u =>
        obtain ⟨u', e⟩ := a.dom x u q
        rw [h1] at e; cases e
    · exact .inr (.inr (a.own x h1))
  keep := fun x o h nt no => b.keep x o (a.keep x o h nt no) nt fun z => no (a.own x z)
  dom := fun x o h => by
    obtain ⟨o1, e1⟩ := a.dom x o h
    exact b.dom x o1 e1
  own := fun x h => a.own x (b.own x h)
theorem Stq.ren {F H F' H' : Hp} {O O' P P' : Addr → Prop} (a : Stq F H O F' H' O') (h : ∀ x, P x ↔ O x) (h' : ∀ x, P' x ↔ O' x) : Stq F H P F' H' P' :=
  ⟨a.le, fun x o e => (a.new x o e).imp id fun z => z.imp id (h x).mpr, fun x o e nt no => a.keep x o e nt fun z => no ((h x).mpr z), a.dom, fun x e => (h x).mpr (a.own x ((h' x).mp e))⟩
theorem Stq.refl (F H : Hp) (O : Addr → Prop) : Stq F H O F H O := ⟨Le.refl F, fun _ _ h => .inl h, fun _ _ h _ _ => h, fun _ o h => ⟨o, h⟩, fun _ h => h⟩
/-- an object that is not told of -/
theorem Stq.free {F H F' H' : Hp} {O O' : Addr → Prop} (s : Stq F H O F' H' O') {a : Addr} {o : HO} (hF : F a = none) (hH : H a = some o) (no : ¬ O a) : F' a = none := by
  cases q : F' a with
  | none => rfl
  | some u =>
    rcases s.new a u q with z | z | z
    · rw [hF] at z; cases z
    · rw [hH] at z; cases z
    · exact absurd z no
def plainAll (vs : List Nat) (Γ : DEnv) : Prop := vs.all (fun i => plain (Γ.at i)) = true
theorem plainAll_at {vs : List Nat} {Γ : DEnv} (h : plainAll vs Γ) {i : Nat} (m : i ∈ vs) : plain (Γ.at i) = true := List.all_eq_true.mp h i m
section
variable {C : DC} {F H : Hp} {σ σ2 : L2.St} {Γ Γ2 : DEnv} {vs : List Nat}
/-- into the block, back out of it -/
theorem EnvOk.inBlk (ok : EnvOk C F H σ2 Γ) (hl : σ2.length = σ.length) (hs : ∀ i, i ∉ vs → σ2[i]? = σ[i]?) (p : plainAll vs Γ) : EnvOk C F H (wipe σ vs) (clr vs Γ) := by
  refine ok.sw (by rw [wipe_length, hl]) (clr_length vs Γ) fun i => ?_
  rw [clr_at]
  by_cases m : i ∈ vs
  · rw [if_pos m]; exact .inr ⟨plain_ref (plainAll_at p m), .inl rfl⟩
  · rw [if_neg m]; exact .inl ⟨rfl, by rw [wipe_get σ vs i m, hs i m]⟩
theorem own_inBlk (hs : ∀ i, i ∉ vs → σ2[i]? = σ[i]?) (p : plainAll vs Γ) (a : Addr) : Own (wipe σ vs) (clr vs Γ) a ↔ Own σ2 Γ a := by
  refine own_sw fun i => ?_
  rw [clr_at]
  by_cases m : i ∈ vs
  · rw [if_pos m]; exact .inr ⟨plainAll_at p m, rfl⟩
  · rw [if_neg m]; exact .inl ⟨rfl, by rw [wipe_get σ vs i m, hs i m]⟩
theorem own_outBlk {Γ1 : DEnv} (hl : Γ.length = Γ1.length) (p : plainAll vs Γ1) (hn : ∀ i ∈ vs, Γ.at i = .non) (a : Addr) : Own σ (rst vs Γ1 Γ) a ↔ Own (wipe σ vs) Γ a := by
  refine own_sw fun i => ?_
  rw [rst_at vs Γ i hl]
  by_cases m : i ∈ vs
  · rw [if_pos m, hn i m]; exact .inr ⟨rfl, plainAll_at p m⟩
  · rw [if_neg m]; exact .inl ⟨rfl, (wipe_get σ vs i m).symm⟩
theorem EnvOk.outBlk {F1 H1 : Hp} {Γ1 : DEnv} (ok1 : EnvOk C F1 H1 σ Γ1) (l : Le F1 F) (ok : EnvOk C F H (wipe σ vs) Γ) (p : plainAll vs Γ1) (hn : ∀ i ∈ vs, Γ.at i = .non) : EnvOk C F H σ (rst vs Γ1 Γ) := by
  have hl : Γ.length = Γ1.length := by rw [ok.len, ok1.len, wipe_length]
  refine ok.sw (wipe_length σ vs).symm (rst_length Γ1 vs Γ) fun i => ?_
  rw [rst_at vs Γ i hl]
  by_cases m : i ∈ vs
  · rw [if_pos m, hn i m]
    refine .inr ⟨rfl, ?_⟩
    have q := plainAll_at p m
    cases e : Γ1.at i with
    | non => exact .inl rfl
    | val d =>
      obtain ⟨v, e1, r⟩ := ok1.vals i d e
      exact .inr ⟨d, v, rfl, e1, r.mono l⟩
    | own c => rw [e] at q; cases q
    | ref c => rw [e] at q; cases q
  · rw [if_neg m]; exact .inl ⟨rfl, (wipe_get σ vs i m).symm⟩
/-- a list beside the frame grows -/
theorem EnvOk.over {D : Addr} {xs ys : List V} (ok : EnvOk C F H σ Γ) (hD : H D = some (.lst xs)) (hF : F D = none) (no : ¬ Own σ Γ D) (h0 : C.H0 D = none) : EnvOk C F (upd H D (.lst ys)) σ Γ := by
  have nt : ∀ a, a ≠ D → upd H D (.lst ys) a = H a := fun a e => upd_ne e
  refine ⟨fun a u e => ?_, ok.le, ok.new, fun a u e n nr => ?_, fun a u e => ?_, ok.len, ok.vals, fun i c hc => ?_, ok.mine, ok.lent, ok.apart, ok.refs, fun q hq => ?_⟩
  · have : a ≠ D := fun z => by subst z; rw [hF] at e; cases e
    rw [nt a this]; exact ok.sub a u e
  · have : a ≠ D := fun z => by subst z; rw [h0] at e; cases e
    rw [nt a this]; exact ok.keep a u e n nr
  · by_cases z : a = D
    · subst z; exact ⟨_, upd_same⟩
    · rw [nt a z]; exact ok.dom a u e
  · obtain ⟨a, e1, e2, e3⟩ := ok.owns i c hc
    have : a ≠ D := fun z => by subst z; exact no ⟨i, c, hc, e1⟩
    exact ⟨a, e1, e2, CtAt.mono (Le.refl F) (fun o e _ => by rw [nt a this]; exact e) e3⟩
  · obtain ⟨ps, e, t⟩ := ok.tabs q hq
    have : q ≠ D := fun z => by subst z; rw [hD] at e; cases e
    exact ⟨ps, by rw [nt q this]; exact e, t⟩
end
def compW (g : WG) (wt : WT) (we : WE) (vs : List Nat) (E : List D → DEnv → Prop) : List D → List D → DEnv → Prop
  | [], acc, Γ => E acc Γ
  | d :: ds, acc, Γ => g d Γ fun Γ1 => wt Γ1 fun k Γ2 => if k = true then we Γ2 fun o Γ3 => o.frz Γ3 fun x Γ4 => plainAll vs Γ4 ∧ compW g wt we vs E ds (acc ++ [x]) (clr vs Γ4) else plainAll vs Γ2 ∧ compW g wt we vs E ds acc (clr vs Γ2)
def wLc (wi : WI) (g : WG) (wt : WT) (we : WE) (vs : List Nat) : WE := fun Γ W => wi Γ fun ds Γ1 => plainAll vs Γ1 ∧ compW g wt we vs (fun acc Γ' => W (.new (.lst acc)) (rst vs Γ1 Γ')) ds [] (clr vs Γ1)
/-- where a block stands -/
structure BlkAt (C : DC) (σ : L2.St) (vs : List Nat) (F1 H1 : Hp) (Γ1 : DEnv) (G H2 : Hp) (Γ2 : DEnv) : Prop where
  ok : EnvOk C G H2 (wipe σ vs) Γ2
  st : Stq F1 H1 (Own σ Γ1) G H2 (Own (wipe σ vs) Γ2)
  non : ∀ i ∈ vs, Γ2.at i = .non
section
variable {C : DC} {σ : L2.St} {vs T : List Nat} {F1 H1 G H2 : Hp} {Γ1 Γ2 : DEnv}
theorem BlkAt.start (ok : EnvOk C F1 H1 σ Γ1) (p : plainAll vs Γ1) : BlkAt C σ vs F1 H1 Γ1 F1 H1 (clr vs Γ1) :=
  ⟨ok.inBlk rfl (fun _ _ => rfl) p, (Stq.refl F1 H1 _).ren (fun _ => Iff.rfl) fun a => own_inBlk (fun _ _ => rfl) p a, fun i m => by rw [clr_at, if_pos m]⟩
theorem BlkAt.stop (B : BlkAt C σ vs F1 H1 Γ1 G H2 Γ2) (ok : EnvOk C F1 H1 σ Γ1) (p : plainAll vs Γ1) : EnvOk C G H2 σ (rst vs Γ1 Γ2) ∧ Stp σ F1 H1 Γ1 G H2 (rst vs Γ1 Γ2) ∧ ∀ a, Own σ (rst vs Γ1 Γ2) a ↔ Own (wipe σ vs) Γ2 a := by
  have hl : Γ2.length = Γ1.length := by rw [B.ok.len, ok.len, wipe_length]
  exact ⟨EnvOk.outBlk ok B.st.le B.ok p B.non, (B.st.ren (fun _ => Iff.rfl) fun a => own_outBlk hl p B.non a).p, fun a => own_outBlk hl p B.non a⟩
/-- the target is set: the block's inner frame, and how to come back from it -/
theorem BlkAt.turn (B : BlkAt C σ vs F1 H1 Γ1 G H2 Γ2) {σ4 : L2.St} {Γ4 : DEnv} {G' H3 : Hp} (st3 : Stp (wipe σ vs) G H2 Γ2 G' H3 Γ2) (hT : ∀ i ∈ T, i ∈ vs) (hl : σ4.length = (wipe σ vs).length) (hs : ∀ i, i ∉ T → σ4[i]? = (wipe σ vs)[i]? ∧ Γ4.at i = Γ2.at i) (hp : ∀ i, i ∈ T → plain (Γ4.at i) = true) :
    (wipe σ4 vs = wipe σ vs) ∧ Stq F1 H1 (Own σ Γ1) G' H3 (Own σ4 Γ4) ∧ (∀ a, Own σ4 Γ4 a ↔ Own (wipe σ vs) Γ2 a) ∧ ∀ F5 H5 Γ5, EnvOk C F5 H5 σ4 Γ5 → Stp σ4 G' H3 Γ4 F5 H5 Γ5 → plainAll vs Γ5 → BlkAt C σ vs F1 H1 Γ1 F5 H5 (clr vs Γ5) := by
  have hsv : ∀ i, i ∉ vs → σ4[i]? = σ[i]? := fun i m => by rw [(hs i fun z => m (hT i z)).1, wipe_get σ vs i m]
  have hlv : σ4.length = σ.length := by rw [hl, wipe_length]
  have ow : ∀ a, Own σ4 Γ4 a ↔ Own (wipe σ vs) Γ2 a := fun a => own_sw fun i => by
    by_cases m : i ∈ T
    · exact .inr ⟨by rw [B.non i (hT i m)]; rfl, hp i m⟩
    · exact .inl ⟨(hs i m).2, (hs i m).1⟩
  have s4 : Stq F1 H1 (Own σ Γ1) G' H3 (Own σ4 Γ4) := (B.st.trans st3.q).ren (fun _ => Iff.rfl) ow
  refine ⟨wipe_ext hlv hsv, s4, ow, fun F5 H5 Γ5 ok5 st5 p5 => ⟨ok5.inBlk hlv hsv p5, (s4.trans st5.q).ren (fun _ => Iff.rfl) fun a => own_inBlk hsv p5 a, fun i m => by rw [clr_at, if_pos m]⟩⟩
end
section
variable {X : Cx} {C : DC} {elt tg iter : Expr} {ifs : List Expr} {scope : Scope} {own : List (Str × Nat)} {pos : Pos} {wi : WI} {g : WG} {wt : WT} {we : WE} {T : List Nat}
def tests (X : Cx) (C : DC) (ifs : List Expr) (wt : WT) : Prop := PTs X ifs (tDT C wt)
def wtYes : WT := fun Γ W => W true Γ
theorem PTs.imp {X : Cx} {e : List Expr} {t t' : TT} (h : PTs X e t) (i : ∀ σ H Q, t' σ H Q → t σ H Q) : PTs X e t' := ⟨fun pins s σ H Q I q => h.run pins s σ H Q I (i σ H Q q)⟩
theorem ts_nil : PTs X [] (tDT C wtYes) := PTs.imp pts_nil fun σ H Q h => by
  obtain ⟨F, Γ, W, ok, hw, hq⟩ := h
  exact hq true Γ H F hw ok (Stp.refl ..)
theorem ts_one {c : Expr} (h : PT X c (tDT C wt)) : PTs X [c] (tDT C wt) := pts_one h
theorem lc_imp {vs : List Nat} {σ : L2.St} {H : Hp} {Q : VK} (hT : ∀ i ∈ T, i ∈ vs) (h : tD C (wLc wi g wt we vs) σ H Q) : tLc (tDI C wi) (gD C T g) (tDT C wt) (tD C we) vs σ H Q := by
  obtain ⟨F, Γ, W, ok, hw, hq⟩ := h
  refine ⟨F, Γ, _, ok, hw, fun ds Γ1 J H1 F1 h1 ok1 st1 hit hlen => fun D hD => ?_⟩
  obtain ⟨p1, h1⟩ := h1
  have FD : F1 D = none := ok1.freshF hD
  have H0D : C.H0 D = none := ok1.freshH0 hD
  have nD : ¬ Own σ Γ1 D := fun z => by
    obtain ⟨_, u, e, _⟩ := Own.live ok1 z
    rw [hD] at e; cases e
  refine ⟨fun i m H2 => ∃ G Γ2 acc accD, m = ds.length - i ∧ i ≤ ds.length ∧ BlkAt C σ vs F1 H1 Γ1 G H2 Γ2 ∧ G D = none ∧ H2 D = some (.lst acc) ∧ RpAll C.K G acc accD ∧ accD.length ≤ i ∧ compW g wt we vs (fun acc Γ' => W (.new (.lst acc)) (rst vs Γ1 Γ')) (ds.drop i) accD Γ2, ⟨_, F1, clr vs Γ1, [], [], rfl, Nat.zero_le _, ?_, FD, upd_same, .nil, Nat.le_refl 0, h1⟩, fun i m H2 hW => ?_⟩
  · have B := BlkAt.start ok1 p1
    have nDw : ¬ Own (wipe σ vs) (clr vs Γ1) D := fun z => nD ((own_inBlk (fun _ _ => rfl) p1 D).mp z)
    refine ⟨EnvOk.laid B.ok hD, ⟨B.st.le, B.st.new, fun a o e nt no => ?_, fun a o e => ?_, B.st.own⟩, B.non⟩
    · have : a ≠ D := fun z => by subst z; rw [hD] at e; cases e
      rw [upd_ne this]; exact e
    · have : a ≠ D := fun z => by subst z; rw [hD] at e; cases e
      exact ⟨o, by rw [upd_ne this]; exact e⟩
  · obtain ⟨G, Γ2, acc, accD, rfl, hi, B, GD, HD, racc, hal, h2⟩ := hW
    have nDw : ¬ Own (wipe σ vs) Γ2 D := fun z => nD (B.st.own D z)
    have it := hit G H2 B.st.le B.ok.sub i
    cases hd : ds[i]? with
    | none =>
      have hl : ds.length ≤ i := List.getElem?_eq_none_iff.mp hd
      rw [List.drop_eq_nil_of_le hl] at h2
      obtain ⟨okE, stE, owE⟩ := B.stop ok1 p1
      exact .inl ⟨it.2 (Nat.le_antisymm hi hl), hq _ _ _ H2 G h2 okE (st1.trans stE) ⟨D, rfl, GD, ⟨acc, HD, racc⟩, fun z => nDw ((owE D).mp z), H0D, st1.free D hD⟩⟩
    | some d =>
      have hl : i < ds.length := (List.getElem?_eq_some_iff.mp hd).1
      have hdr : ds.drop i = d :: ds.drop (i + 1) := by
        rw [List.drop_eq_getElem_cons hl]
        rw [List.getElem?_eq_getElem hl] at hd
        cases hd; rfl
      rw [hdr] at h2
      obtain ⟨h3, h4⟩ := it.1 d hd
      refine .inr ⟨h3, fun H' => ∃ G Γ2 acc accD, BlkAt C σ vs F1 H1 Γ1 G H' Γ2 ∧ G D = none ∧ H' D = some (.lst acc) ∧ RpAll C.K G acc accD ∧ accD.length ≤ i + 1 ∧ compW g wt we vs (fun acc Γ' => W (.new (.lst acc)) (rst vs Γ1 Γ')) (ds.drop (i + 1)) accD Γ2,
        fun H' ⟨G', Γ', a1, a2, b1, b2, b3, b4, b5, b6⟩ => ⟨ds.length - (i + 1), by omega, G', Γ', a1, a2, rfl, hl, b1, b2, b3, b4, b5, b6⟩, fun x H' hy => ?_⟩
      obtain ⟨G', n⟩ := h4 x H' hy
      obtain ⟨ok3, st3, r3⟩ := n.ok B.ok
      refine ⟨G', Γ2, d, _, ok3, r3, h2, fun σ4 Γ4 k4 ok4 l4 s4 p4 => ?_⟩
      obtain ⟨e1, sq, ow, back⟩ := B.turn st3 hT l4 s4 p4
      have nD4 : ¬ Own σ4 Γ4 D := fun z => nDw ((ow D).mp z)
      have HD3 : H' D = some (.lst acc) := st3.keep D _ HD (fun _ z => nomatch z) nDw
      have GD3 : G' D = none := st3.q.free GD HD nDw
      refine ⟨e1, G', Γ4, _, ok4, k4, fun k Γ5 H5 F5 h5 ok5 st5 => ?_⟩
      have HD5 : H5 D = some (.lst acc) := st5.keep D _ HD3 (fun _ z => nomatch z) nD4
      have GD5 : F5 D = none := st5.q.free GD3 HD3 nD4
      have nD5 : ¬ Own σ4 Γ5 D := fun z => nD4 (st5.own D z)
      cases k with
      | false =>
        obtain ⟨p5, h5⟩ := h5
        exact ⟨F5, _, acc, accD, back F5 H5 Γ5 ok5 st5 p5, GD5, HD5, RpAll.mono (st3.le.trans st5.le) racc, Nat.le_succ_of_le hal, h5⟩
      | true =>
        refine ⟨F5, Γ5, _, ok5, h5, fun o Γ6 y H6 F6 h6 ok6 st6 r6 => ?_⟩
        obtain ⟨x', F7, Γ7, h7, ok7, st7, r7, _⟩ := ResOk.frz r6 ok6 st6 h6
        obtain ⟨p7, h7⟩ := h7
        have HD7 : H6 D = some (.lst acc) := st7.keep D _ HD5 (fun _ z => nomatch z) nD5
        have GD7 : F7 D = none := st7.q.free GD5 HD5 nD5
        have nD7 : ¬ Own σ4 Γ7 D := fun z => nD5 (st7.own D z)
        have B7 := back F7 H6 Γ7 ok7 (st5.trans st7) p7
        have nDw7 : ¬ Own (wipe σ vs) (clr vs Γ7) D := fun z => nD (B7.st.own D z)
        refine ⟨acc, HD7, ?_, F7, clr vs Γ7, acc ++ [y], accD ++ [x'], ⟨B7.ok.over HD7 GD7 nDw7 H0D, ⟨B7.st.le, B7.st.new, fun a o e nt no => ?_, fun a o e => ?_, B7.st.own⟩, B7.non⟩, GD7, upd_same, RpAll.append (RpAll.mono ((st3.le.trans st5.le).trans st7.le) racc) (.cons r7 .nil), by rw [List.length_append]; exact Nat.succ_le_succ hal, h7⟩
        · rw [racc.length]; omega
        · have : a ≠ D := fun z => by subst z; rw [hD] at e; cases e
          rw [upd_ne this]; exact B7.st.keep a o e nt no
        · have : a ≠ D := fun z => by subst z; rw [hD] at e; cases e
          rw [upd_ne this]; exact B7.st.dom a o e
theorem d_lc (hc : X.calm = true) (hN : X.N.Nodup) (hT : ∀ i ∈ T, i ∈ own.map (·.2)) (hs : noSet iter = true) (hi : PI X tg iter (tDI C wi)) (ok : BlkOk X.N X.env.scope scope own)
    (hg : ∀ (s : Shared) (H : Hp) (Ca : Addr) (cl : List (Str × Addr)) (fp : List Addr), PG (X.blk s H scope (compEnvC scope cl Ca X.env) fp) tg (gD C T g)) (ht : ∀ (s : Shared) (H : Hp) (Ca : Addr) (cl : List (Str × Addr)) (fp : List Addr), PTs (X.blk s H scope (compEnvC scope cl Ca X.env) fp) ifs (tDT C wt))
    (he : ∀ (s : Shared) (H : Hp) (Ca : Addr) (cl : List (Str × Addr)) (fp : List Addr), PE (X.blk s H scope (compEnvC scope cl Ca X.env) fp) elt (tD C we)) :
    PE X (.ListComp elt [⟨tg, iter, ifs, 0⟩] scope pos) (tD C (wLc wi g wt we (own.map (·.2)))) :=
  PE.imp (pe_lc hc hN hi ok hg ht he (folded_none hs)) fun _ _ _ h => lc_imp hT h
theorem s_setLc {i : Nat} {y : Str} {py spos : Pos} (hc : X.calm = true) (hN : X.N.Nodup) (hy : X.N[i]? = some y) (hyl : X.env.scope.names.lookup y = some .local)
    (hsw : swapsWith (.ListComp elt [⟨tg, iter, ifs, 0⟩] scope pos) (some (.Name y py)) spos.line X.env = pure true) (hT : ∀ i ∈ T, i ∈ own.map (·.2)) (hs : noSet iter = true) (hi : PI X tg iter (tDI C wi)) (ok : BlkOk X.N X.env.scope scope own)
    (hg : ∀ (s : Shared) (H : Hp) (Ca : Addr) (cl : List (Str × Addr)) (fp : List Addr), PG (X.blk s H scope (compEnvC scope cl Ca X.env) fp) tg (gD C T g)) (ht : ∀ (s : Shared) (H : Hp) (Ca : Addr) (cl : List (Str × Addr)) (fp : List Addr), PTs (X.blk s H scope (compEnvC scope cl Ca X.env) fp) ifs (tDT C wt))
    (he : ∀ (s : Shared) (H : Hp) (Ca : Addr) (cl : List (Str × Addr)) (fp : List Addr), PE (X.blk s H scope (compEnvC scope cl Ca X.env) fp) elt (tD C we)) :
    PS X (.Assign [.Name y py] (.ListComp elt [⟨tg, iter, ifs, 0⟩] scope pos) spos) (tDS C (wSet i (wLc wi g wt we (own.map (·.2))))) := by
  refine PS.imp (ps_setLc hc hN hy hyl hsw hi ok hg ht he (folded_none hs)) fun D σ H h => ?_
  obtain ⟨F, Γ, K, ok, hw, o⟩ := h
  refine lc_imp hT ⟨F, Γ, _, ok, hw, fun o' Γ' v H' F' h' ok' st r => ?_⟩
  obtain ⟨F2, Γ2, k2, ok2, l2⟩ := ResOk.sto r ok' st h'
  exact o.nx Γ2 _ H' F2 k2 ok2 (st.le.trans l2)
end
end GS
end

section
set_option Elab.async false
set_option linter.all false
set_option maxRecDepth 100000
set_option maxHeartbeats 1000000
namespace GS
open PySem PySem.Spec PyProof.Rows L2

/-! ## all(..), any(..) over a generator expression -/
section
variable {C : DC} {F H H' : Hp} {σ : L2.St} {Γ : DEnv} {P : Addr}
theorem tab_ne (h : GxR.TabG H P) {a : Addr} {o : HO} (e : H a = some o) (nt : NT o) : a ≠ P := fun z => by
  subst z
  obtain ⟨ps, e2, _⟩ := h
  rw [e] at e2; cases e2
  exact nt ps rfl
theorem EnvOk.tabbed (ok : EnvOk C F H σ Γ) (h : GxR.TabG H P) (t : GxR.Tabbed P H H') : EnvOk C F H' σ Γ := by
  have go : ∀ {a o}, H a = some o → NT o → H' a = some o := fun e nt => by rw [t.2 _ (tab_ne h e nt)]; exact e
  refine ⟨fun a o e => ⟨go (ok.sub a o e).1 (ok.sub a o e).2, (ok.sub a o e).2⟩, ok.le, ok.new, fun a o e nt nr => go (ok.keep a o e nt nr) nt, fun a o e => ?_, ok.len, ok.vals, fun i c hc => ?_, ok.mine, ok.lent, ok.apart, ok.refs, fun q hq => ?_⟩
  · obtain ⟨o', e'⟩ := ok.dom a o e
    by_cases z : a = P
    · subst z
      obtain ⟨ps, e2, _⟩ := t.1
      exact ⟨_, e2⟩
    · exact ⟨o', by rw [t.2 a z]; exact e'⟩
  · obtain ⟨a, e1, e2, e3⟩ := ok.owns i c hc
    exact ⟨a, e1, e2, CtAt.mono (Le.refl F) (fun o e nt => go e nt) e3⟩
  · by_cases z : q = P
    · subst z; exact t.1
    · obtain ⟨ps, e, tr⟩ := ok.tabs q hq
      exact ⟨ps, by rw [t.2 q z]; exact e, tr⟩
theorem Stp.tabbed (ok : EnvOk C F H σ Γ) (h : GxR.TabG H P) (t : GxR.Tabbed P H H') : Stp σ F H Γ F H' Γ := by
  refine ⟨Le.refl F, fun _ _ e => .inl e, fun a o e nt _ => by rw [t.2 _ (tab_ne h e nt)]; exact e, fun a o e => ?_, fun _ z => z⟩
  by_cases z : a = P
  · subst z
    obtain ⟨ps, e2, _⟩ := t.1
    exact ⟨_, e2⟩
  · exact ⟨o, by rw [t.2 a z]; exact e⟩
end
def genW (ia : Bool) (g : WG) (we : WE) (vs : List Nat) (E : Bool → DEnv → Prop) : List D → DEnv → Prop
  | [], Γ => E ia Γ
  | d :: ds, Γ => g d Γ fun Γ1 => we Γ1 fun o Γ2 => ∃ b, o = .val (.bool b) ∧ plainAll vs Γ2 ∧ if b = ia then genW ia g we vs E ds (clr vs Γ2) else E (!ia) (clr vs Γ2)
def wGen (ia : Bool) (wi : WI) (g : WG) (we : WE) (vs : List Nat) : WE := fun Γ W => wi Γ fun ds Γ1 => plainAll vs Γ1 ∧ genW ia g we vs (fun b Γ' => W (.val (.bool b)) (rst vs Γ1 Γ')) ds (clr vs Γ1)
section
variable {X : Cx} {C : DC} {elt tg iter : Expr} {scope : Scope} {own : List (Str × Nat)} {pos : Pos} {wi : WI} {g : WG} {we : WE} {T : List Nat} {P : Addr}
theorem gen_imp {ia : Bool} {vs : List Nat} {σ : L2.St} {H : Hp} {Q : VK} (hP : P ∈ C.T) (hT : ∀ i ∈ T, i ∈ vs) (h : tD C (wGen ia wi g we vs) σ H Q) : tGen ia P (tDI C wi) (gD C T g) (tD C we) vs σ H Q := by
  obtain ⟨F, Γ, W, ok, hw, hq⟩ := h
  refine ⟨F, Γ, _, ok, hw, fun ds Γ1 J H1 F1 h1 ok1 st1 hit _ => ⟨ok1.tabs P hP, fun H2 tb => ?_⟩⟩
  obtain ⟨p1, h1⟩ := h1
  have st1 := st1.trans (Stp.tabbed ok1 (ok1.tabs P hP) tb)
  have ok1 := ok1.tabbed (ok1.tabs P hP) tb
  refine ⟨fun i m H3 => ∃ G Γ2, m = ds.length - i ∧ i ≤ ds.length ∧ BlkAt C σ vs F1 H2 Γ1 G H3 Γ2 ∧ genW ia g we vs (fun b Γ' => W (.val (.bool b)) (rst vs Γ1 Γ')) (ds.drop i) Γ2, ⟨_, F1, clr vs Γ1, rfl, Nat.zero_le _, BlkAt.start ok1 p1, h1⟩, fun i m H3 hW => ?_⟩
  obtain ⟨G, Γ2, rfl, hi, B, h2⟩ := hW
  have it := hit G H3 B.st.le B.ok.sub i
  cases hd : ds[i]? with
  | none =>
    have hl : ds.length ≤ i := List.getElem?_eq_none_iff.mp hd
    rw [List.drop_eq_nil_of_le hl] at h2
    obtain ⟨okE, stE, _⟩ := B.stop ok1 p1
    exact .inl ⟨it.2 (Nat.le_antisymm hi hl), hq _ _ _ H3 G h2 okE (st1.trans stE) (.bl _)⟩
  | some d =>
    have hl : i < ds.length := (List.getElem?_eq_some_iff.mp hd).1
    have hdr : ds.drop i = d :: ds.drop (i + 1) := by
      rw [List.drop_eq_getElem_cons hl]
      rw [List.getElem?_eq_getElem hl] at hd
      cases hd; rfl
    rw [hdr] at h2
    obtain ⟨h3, h4⟩ := it.1 d hd
    refine .inr ⟨h3, fun H' => ∃ G Γ2, BlkAt C σ vs F1 H2 Γ1 G H' Γ2 ∧ genW ia g we vs (fun b Γ' => W (.val (.bool b)) (rst vs Γ1 Γ')) (ds.drop (i + 1)) Γ2, fun H' ⟨G', Γ', b1, b2⟩ => ⟨ds.length - (i + 1), by omega, G', Γ', rfl, hl, b1, b2⟩, fun x H' hy => ?_⟩
    obtain ⟨G', n⟩ := h4 x H' hy
    obtain ⟨ok3, st3, r3⟩ := n.ok B.ok
    refine ⟨G', Γ2, d, _, ok3, r3, h2, fun σ4 Γ4 k4 ok4 l4 s4 p4 => ?_⟩
    obtain ⟨e1, sq, ow, back⟩ := B.turn st3 hT l4 s4 p4
    refine ⟨e1, G', Γ4, _, ok4, k4, fun o Γ5 y H5 F5 h5 ok5 st5 r5 => ?_⟩
    obtain ⟨b, rfl, p5, h5⟩ := h5
    cases r5
    refine ⟨b, rfl, ?_⟩
    have B5 := back F5 H5 Γ5 ok5 st5 p5
    by_cases hb : b = ia
    · rw [if_pos hb] at h5 ⊢
      exact ⟨F5, _, B5, h5⟩
    · rw [if_neg hb] at h5 ⊢
      obtain ⟨okE, stE, _⟩ := B5.stop ok1 p1
      exact hq _ _ _ H5 F5 h5 okE (st1.trans stE) (.bl _)
variable {k : Nat} {c : Addr} {gpos p : Pos}
theorem d_all (hr : Room (k + 1) X.A) (hcalm : X.calm = true) (hN : X.N.Nodup) (hg : Gl X "all") (hm : X.mg "all" = none) (TB : GxR.TabB X.base X.mg c P) (hcode : X.env.code = .ref c) (S : GenSc X.N X.env.scope scope own) (hP : P ∈ C.T) (hT : ∀ i ∈ T, i ∈ own.map (·.2)) (hs : noSetList iter = true) (hi : PI X tg iter (tDI C wi))
    (pg : ∀ (s : Shared) (H : Hp) (Ca : Addr) (code : Value) (fp : List Addr) (pn : List (Addr × Obj)), PG (gcx X X.A.in1.in1 s H (genEnv scope (cloFrom X.env.cells scope.names []) Ca code builtinsNs X.env) fp pn) tg (gD C T g))
    (pe : ∀ (s : Shared) (H : Hp) (Ca : Addr) (code : Value) (fp : List Addr) (pn : List (Addr × Obj)), PE (gcx X X.A.in1.in1 s H (genEnv scope (cloFrom X.env.cells scope.names []) Ca code builtinsNs X.env) fp pn) elt (tD C we)) :
    PE X (.Call (.Name "all" p) [.GeneratorExp elt [⟨tg, iter, [], 0⟩] scope gpos] [] pos) (tD C (wGen true wi g we (own.map (·.2)))) :=
  PE.imp (pe_allG hr hcalm hN hg hm TB hcode S hi pg pe (genFold_none hs)) fun _ _ _ h => gen_imp hP hT h
theorem d_any (hr : Room (k + 1) X.A) (hcalm : X.calm = true) (hN : X.N.Nodup) (hg : Gl X "any") (hm : X.mg "any" = none) (TB : GxR.TabB X.base X.mg c P) (hcode : X.env.code = .ref c) (S : GenSc X.N X.env.scope scope own) (hP : P ∈ C.T) (hT : ∀ i ∈ T, i ∈ own.map (·.2)) (hs : noSetList iter = true) (hi : PI X tg iter (tDI C wi))
    (pg : ∀ (s : Shared) (H : Hp) (Ca : Addr) (code : Value) (fp : List Addr) (pn : List (Addr × Obj)), PG (gcx X X.A.in1.in1 s H (genEnv scope (cloFrom X.env.cells scope.names []) Ca code builtinsNs X.env) fp pn) tg (gD C T g))
    (pe : ∀ (s : Shared) (H : Hp) (Ca : Addr) (code : Value) (fp : List Addr) (pn : List (Addr × Obj)), PE (gcx X X.A.in1.in1 s H (genEnv scope (cloFrom X.env.cells scope.names []) Ca code builtinsNs X.env) fp pn) elt (tD C we)) :
    PE X (.Call (.Name "any" p) [.GeneratorExp elt [⟨tg, iter, [], 0⟩] scope gpos] [] pos) (tD C (wGen false wi g we (own.map (·.2)))) :=
  PE.imp (pe_anyG hr hcalm hN hg hm TB hcode S hi pg pe (genFold_none hs)) fun _ _ _ h => gen_imp hP hT h
end
end GS
end

section
set_option Elab.async false
set_option linter.all false
set_option maxRecDepth 100000
set_option maxHeartbeats 1000000
namespace GS
open PySem PySem.Spec PyProof.Rows L2

/-! ## own objects that change -/
/-- slot i keeps what it is, or is a place whose object now holds c -/
def MuAt (K : KW) (F' H' : Hp) (σ : L2.St) (as : List Addr) (s s' : Slot) (i : Nat) : Prop :=
  (s' = s ∧ ∀ c a, OwnC s c → σ[i]? = some (some (V.ref a)) → a ∉ as) ∨ ∃ a c0 c, σ[i]? = some (some (V.ref a)) ∧ F' a = none ∧ CtAt K F' H' a c ∧ ((s = .own c0 ∧ s' = .own c) ∨ (s = .ref c0 ∧ s' = .ref c))
structure Mud (K : KW) (T : List Addr) (F H F' H' : Hp) (as : List Addr) : Prop where
  sub : Sub F' H'
  le : Le F F'
  new : ∀ a o, F' a = some o → F a = some o ∨ H a = none
  keep : ∀ a o, H a = some o → NT o → a ∉ as → H' a = some o
  dom : ∀ a o, H a = some o → ∃ o', H' a = some o'
  tabs : ∀ p ∈ T, GxR.TabG H' p
theorem EnvOk.mutd {C : DC} {F H F' H' : Hp} {σ : L2.St} {Γ Γ' : DEnv} {as : List Addr} (ok : EnvOk C F H σ Γ) (m : Mud C.K C.T F H F' H' as) (hl : Γ'.length = Γ.length) (hs : ∀ i, MuAt C.K F' H' σ as (Γ.at i) (Γ'.at i) i) (ha : ∀ a ∈ as, Own σ Γ a) :
    EnvOk C F' H' σ Γ' ∧ Stp σ F H Γ F' H' Γ' := by
  have kind : ∀ i c, OwnC (Γ'.at i) c → ∃ c0, OwnC (Γ.at i) c0 ∧ ((∃ c, Γ'.at i = .own c) → ∃ c, Γ.at i = .own c) ∧ ((∃ c, Γ'.at i = .ref c) → ∃ c, Γ.at i = .ref c) := fun i c hc => by
    rcases hs i with ⟨e, _⟩ | ⟨a, c0, c1, _, _, _, ⟨e1, e2⟩ | ⟨e1, e2⟩⟩
    · rw [e] at hc ⊢; exact ⟨c, hc, id, id⟩
    · exact ⟨c0, .inl e1, (fun _ => ⟨c0, e1⟩), (fun ⟨c, z⟩ => by rw [e2] at z; cases z)⟩
    · exact ⟨c0, .inr e1, (fun ⟨c, z⟩ => by rw [e2] at z; cases z), (fun _ => ⟨c0, e1⟩)⟩
  refine ⟨⟨m.sub, ok.le.trans m.le, fun a o e => ?_, fun a o e nt nr => ?_, fun a o e => ?_, by rw [hl]; exact ok.len, fun i d e => ?_, fun i c hc => ?_, fun i c a hc e => ?_, fun i c a hc e => ?_, fun i j c c' a h1 h2 e1 e2 => ?_, fun i a hi => ?_, m.tabs⟩, ⟨m.le, fun a o e => (m.new a o e).imp id .inl, fun a o e nt no => m.keep a o e nt fun z => no (ha a z), m.dom, fun a ⟨i, c, hc, e⟩ => ?_⟩⟩
  · rcases m.new a o e with z | z
    · exact ok.new a o z
    · exact .inr (ok.freshH0 z)
  · refine m.keep a o (ok.keep a o e nt nr) nt fun z => ?_
    obtain ⟨i, c, hc | hc, e2⟩ := ha a z
    · have := ok.mine i c a hc e2
      rw [this] at e; cases e
    · exact nr i (ok.lent i c a hc e2)
  · obtain ⟨o1, e1⟩ := ok.dom a o e
    exact m.dom a o1 e1
  · rcases hs i with ⟨q, _⟩ | ⟨a, c0, c1, _, _, _, ⟨_, q⟩ | ⟨_, q⟩⟩
    · rw [q] at e
      obtain ⟨v, e1, r⟩ := ok.vals i d e
      exact ⟨v, e1, r.mono m.le⟩
    · rw [q] at e; cases e
    · rw [q] at e; cases e
  · rcases hs i with ⟨q, nas⟩ | ⟨a, c0, c1, e1, e2, e3, q⟩
    · rw [q] at hc
      obtain ⟨a, e1, e2, e3⟩ := ok.owns i c hc
      have na := nas c a hc e1
      obtain ⟨o, eo, nt⟩ := CtAt.ex e3
      refine ⟨a, e1, ?_, CtAt.mono m.le (fun o e nt => m.keep a o e nt na) e3⟩
      cases z : F' a with
      | none => rfl
      | some u =>
        rcases m.new a u z with y | y
        · rw [e2] at y; cases y
        · rw [eo] at y; cases y
    · have : c = c1 := by
        rcases q with ⟨_, q⟩ | ⟨_, q⟩ <;> rw [q] at hc <;> rcases hc with hc | hc <;> cases hc <;> rfl
      subst this
      exact ⟨a, e1, e2, e3⟩
  · obtain ⟨c0, _, h1, _⟩ := kind i c (.inl hc)
    obtain ⟨c1, hc1⟩ := h1 ⟨c, hc⟩
    exact ok.mine i c1 a hc1 e
  · obtain ⟨c0, _, _, h1⟩ := kind i c (.inr hc)
    obtain ⟨c1, hc1⟩ := h1 ⟨c, hc⟩
    exact ok.lent i c1 a hc1 e
  · obtain ⟨c0, k1, _⟩ := kind i c h1
    obtain ⟨c1, k2, _⟩ := kind j c' h2
    exact ok.apart i j c0 c1 a k1 k2 e1 e2
  · obtain ⟨⟨c, e1⟩, e2⟩ := ok.refs i a hi
    refine ⟨?_, e2⟩
    rcases hs i with ⟨q, _⟩ | ⟨b, c0, c1, _, _, _, ⟨q1, q2⟩ | ⟨q1, q2⟩⟩
    · exact ⟨c, by rw [q]; exact e1⟩
    · rw [e1] at q1; cases q1
    · exact ⟨c1, q2⟩
  · obtain ⟨c0, k1, _⟩ := kind i c hc
    exact ⟨i, c0, k1, e⟩
/-- the slot's content, kept in its kind -/
def Slot.put (s : Slot) (c : Ct) : Slot := match s with
  | .own _ => .own c
  | .ref _ => .ref c
  | s => s
def Slot.ct : Slot → Option Ct
  | .own c => some c
  | .ref c => some c
  | _ => none
theorem Slot.ct_own {s : Slot} {c : Ct} (h : s.ct = some c) : OwnC s c := by
  cases s <;> first | (cases h; done) | (cases h; first | exact .inl rfl | exact .inr rfl)
/-- one object changes -/
theorem EnvOk.mut1 {C : DC} {F H H' : Hp} {σ : L2.St} {Γ : DEnv} {i : Nat} {a : Addr} {c c' : Ct} (ok : EnvOk C F H σ Γ) (hc : (Γ.at i).ct = some c) (e : σ[i]? = some (some (V.ref a))) (hk : ∀ b, b ≠ a → H' b = H b) (hn : CtAt C.K F H' a c') :
    EnvOk C F H' σ (Γ.set i ((Γ.at i).put c')) ∧ Stp σ F H Γ F H' (Γ.set i ((Γ.at i).put c')) := by
  have ho := Slot.ct_own hc
  have hi : i < Γ.length := at_lt (by rcases ho with z | z <;> rw [z] <;> simp)
  obtain ⟨a', e', hF, hat⟩ := ok.owns i c ho
  rw [e] at e'; cases e'
  obtain ⟨o, eo, nt⟩ := CtAt.ex hat
  obtain ⟨o', eo', nt'⟩ := CtAt.ex hn
  refine ok.mutd (as := [a]) ⟨fun b u h => ?_, Le.refl F, fun b u h => .inl h, fun b u h n nb => ?_, fun b u h => ?_, fun p hp => ?_⟩ (List.length_set ..) (fun j => ?_) fun b hb => ?_
  · have : b ≠ a := fun z => by subst z; rw [hF] at h; cases h
    rw [hk b this]; exact ok.sub b u h
  · have : b ≠ a := fun z => nb (List.mem_singleton.mpr z)
    rw [hk b this]; exact h
  · by_cases z : b = a
    · subst z; exact ⟨o', eo'⟩
    · exact ⟨u, by rw [hk b z]; exact h⟩
  · obtain ⟨ps, e1, t⟩ := ok.tabs p hp
    have : p ≠ a := fun z => by subst z; rw [eo] at e1; cases e1; exact nt ps rfl
    exact ⟨ps, by rw [hk p this]; exact e1, t⟩
  · rw [at_set hi]
    by_cases q : i = j
    · subst q
      rw [if_pos rfl]
      refine .inr ⟨a, c, c', e, hF, hn, ?_⟩
      rcases ho with z | z <;> rw [z]
      · exact .inl ⟨rfl, rfl⟩
      · exact .inr ⟨rfl, rfl⟩
    · rw [if_neg q]
      refine .inl ⟨rfl, fun c2 b h2 e2 z => ?_⟩
      rw [List.mem_singleton.mp z] at e2
      exact q (ok.apart i j c c2 a ho h2 e e2)
  · rw [List.mem_singleton.mp hb]
    exact ⟨i, c, ho, e⟩

/-! ## calls of defs -/
inductive AOp where
  | val (d : D)
  | ref (i : Nat)
abbrev WR := DEnv → (List AOp → DEnv → Prop) → Prop
inductive RArgs (K : KW) (F : Hp) (σ : L2.St) : List V → List AOp → Prop where
  | nil : RArgs K F σ [] []
  | val {v vs d os} : Rp K F v d → RArgs K F σ vs os → RArgs K F σ (v :: vs) (.val d :: os)
  | ref {v vs i os} : σ[i]? = some (some v) → RArgs K F σ vs os → RArgs K F σ (v :: vs) (.ref i :: os)
def tDR (C : DC) (w : WR) : TA := fun σ H Q => ∃ F Γ W, EnvOk C F H σ Γ ∧ w Γ W ∧ ∀ os Γ' vs H' F', W os Γ' → EnvOk C F' H' σ Γ' → Stp σ F H Γ F' H' Γ' → RArgs C.K F' σ vs os → Q vs H'
def wrNil : WR := fun Γ W => W [] Γ
def wrVal (we : WE) (wr : WR) : WR := fun Γ W => we Γ fun o Γ1 => o.frz Γ1 fun d Γ2 => wr Γ2 fun os Γ3 => W (.val d :: os) Γ3
def wrRef (i : Nat) (wr : WR) : WR := fun Γ W => (∃ c, (Γ.at i).ct = some c) ∧ wr Γ fun os Γ1 => W (.ref i :: os) Γ1
section
variable {X : Cx} {C : DC} {e : Expr} {es : List Expr} {we : WE} {wr : WR} {pos p : Pos}
theorem r_nil : PA X [] (tDR C wrNil) := by
  refine PA.imp pa_nil fun σ H Q h => ?_
  obtain ⟨F, Γ, W, ok, hw, hq⟩ := h
  exact hq [] Γ [] H F hw ok (Stp.refl ..) .nil
theorem r_val (hn : noStar e = true) (he : PE X e (tD C we)) (hs : PA X es (tDR C wr)) : PA X (e :: es) (tDR C (wrVal we wr)) := by
  refine PA.imp (pa_cons he hs (star1 hn)) fun σ H Q h => ?_
  obtain ⟨F, Γ, W, ok, hw, hq⟩ := h
  refine ⟨F, Γ, _, ok, hw, fun o Γ1 v H1 F1 h1 ok1 st1 r1 => ?_⟩
  obtain ⟨d, F2, Γ2, h2, ok2, st2, r2, _⟩ := ResOk.frz r1 ok1 st1 h1
  exact ⟨F2, Γ2, _, ok2, h2, fun ds Γ3 vs H3 F3 h3 ok3 st3 r3 => hq _ Γ3 _ H3 F3 h3 ok3 (st2.trans st3) (.val (r2.mono st3.le) r3)⟩
theorem r_ref {i : Nat} {x : Str} (hN : X.N[i]? = some x) (hv : Vis X.env.scope x) (hd : (x == ("__debug__" : Str)) = false) (hcd : (x == ("__classdict__" : Str)) = false) (hs : PA X es (tDR C wr)) : PA X (.Name x p :: es) (tDR C (wrRef i wr)) := by
  refine PA.imp (pa_cons (pe_var hN hv hd hcd) hs rfl) fun σ H Q h => ?_
  obtain ⟨F, Γ, W, ok, ⟨⟨c, hc⟩, hw⟩, hq⟩ := h
  obtain ⟨a, e, _⟩ := ok.owns i c (Slot.ct_own hc)
  exact ⟨_, e, F, Γ, _, ok, hw, fun os Γ3 vs H3 F3 h3 ok3 st3 r3 => hq _ Γ3 _ H3 F3 h3 ok3 st3 (.ref e r3)⟩
end
/-- what a def is handed, at the places as -/
inductive ArgsAt (K : KW) (F H : Hp) : List V → List Arg → List Addr → Prop where
  | nil : ArgsAt K F H [] [] []
  | val {v vs d os as} : Rp K F v d → ArgsAt K F H vs os as → ArgsAt K F H (v :: vs) (.val d :: os) as
  | ref {a vs c os as} : F a = none → CtAt K F H a c → a ∉ as → ArgsAt K F H vs os as → ArgsAt K F H (.ref a :: vs) (.ref c :: os) (a :: as)
inductive Backs (K : KW) (F H : Hp) : List Addr → List Ct → Prop where
  | nil : Backs K F H [] []
  | cons {a as c cs} : F a = none → CtAt K F H a c → Backs K F H as cs → Backs K F H (a :: as) (c :: cs)
def ResAt (K : KW) (H F' H' : Hp) (v : V) : Res → Prop
  | .val d => Rp K F' v d
  | .new c => ∃ a, v = .ref a ∧ F' a = none ∧ CtAt K F' H' a c ∧ H a = none
def spD (K : KW) (T : List Addr) (w : SpecFn) : SpC := fun vs H Q => ∃ F args as W, Sub F H ∧ (∀ p ∈ T, GxR.TabG H p) ∧ ArgsAt K F H vs args as ∧ w args W ∧
  ∀ r cs v H' F', W r cs → Mud K T F H F' H' as → Backs K F' H' as cs → ResAt K H F' H' v r → Q v H'
theorem ArgsAt.length {K : KW} {F H : Hp} : ∀ {vs : List V} {args : List Arg} {as : List Addr}, ArgsAt K F H vs args as → vs.length = args.length
  | _, _, _, .nil => rfl
  | _, _, _, .val _ t => by simp [ArgsAt.length t]
  | _, _, _, .ref _ _ _ t => by simp [ArgsAt.length t]
/-- the arguments by the operands -/
def toArgs (Γ : DEnv) : List AOp → Option (List Arg)
  | [] => some []
  | .val d :: os => (toArgs Γ os).map (.val d :: ·)
  | .ref i :: os => match (Γ.at i).ct with
    | some c => (toArgs Γ os).map (.ref c :: ·)
    | none => none
def refIx : List AOp → List Nat
  | [] => []
  | .val _ :: os => refIx os
  | .ref i :: os => i :: refIx os
def putCts : List Nat → List Ct → DEnv → DEnv
  | i :: is, c :: cs, Γ => (putCts is cs Γ).set i ((Γ.at i).put c)
  | _, _, Γ => Γ
def Res.opd : Res → Opd
  | .val d => .val d
  | .new c => .new c
def wCall (spec : SpecFn) (wr : WR) : WE := fun Γ W => wr Γ fun os Γ1 => (refIx os).Nodup ∧ ∃ args, toArgs Γ1 os = some args ∧ spec args fun r cs => W r.opd (putCts (refIx os) cs Γ1)
section
variable {C : DC} {F H F' H' : Hp} {σ : L2.St} {Γ : DEnv}
theorem args_of (ok : EnvOk C F H σ Γ) : ∀ {vs : List V} {os : List AOp} {args : List Arg}, RArgs C.K F σ vs os → toArgs Γ os = some args → (refIx os).Nodup →
    ∃ as, ArgsAt C.K F H vs args as ∧ as.length = (refIx os).length ∧ ∀ (k : Nat) (i : Nat), (refIx os)[k]? = some i → ∃ a c, as[k]? = some a ∧ (Γ.at i).ct = some c ∧ σ[i]? = some (some (V.ref a))
  | _, _, _, .nil, e, _ => by cases e; exact ⟨[], .nil, rfl, fun k i h => by simp [refIx] at h⟩
  | _, _, args, .val (os := os) (vs := vs) r t, e, nd => by
    simp only [toArgs, Option.map_eq_some_iff] at e
    obtain ⟨as', e1, rfl⟩ := e
    obtain ⟨as, h1, h2, h3⟩ := args_of ok t e1 nd
    exact ⟨as, .val r h1, h2, h3⟩
  | _, _, args, .ref (i := i) (os := os) (vs := vs) ei t, e, nd => by
    simp only [toArgs] at e
    split at e
    · rename_i c hc
      rw [Option.map_eq_some_iff] at e
      obtain ⟨as', e1, rfl⟩ := e
      have nd' : (i :: refIx os).Nodup := nd
      rw [List.nodup_cons] at nd'
      obtain ⟨as, h1, h2, h3⟩ := args_of ok t e1 nd'.2
      obtain ⟨a, ea, hF, hat⟩ := ok.owns i c (Slot.ct_own hc)
      rw [ei] at ea; cases ea
      refine ⟨a :: as, .ref hF hat (fun z => ?_) h1, by simp [refIx, h2], fun k j hk => ?_⟩
      · obtain ⟨k, hk, ek⟩ := List.getElem_of_mem z
        have hk' : k < (refIx os).length := by rw [← h2]; exact hk
        obtain ⟨b, c', eb, ec, es⟩ := h3 k _ (List.getElem?_eq_getElem hk')
        rw [List.getElem?_eq_getElem hk, ek] at eb
        cases eb
        have := ok.apart i _ c c' a (Slot.ct_own hc) (Slot.ct_own ec) ei es
        exact nd'.1 (by rw [this]; exact List.getElem_mem hk')
      · cases k with
        | zero =>
          have hk : some i = some j := hk
          cases hk
          exact ⟨a, c, rfl, hc, ei⟩
        | succ k => exact h3 k j hk
    · cases e
theorem putCts_length : ∀ (is : List Nat) (cs : List Ct) (Γ : DEnv), (putCts is cs Γ).length = Γ.length
  | [], _, _ => rfl
  | _ :: _, [], _ => rfl
  | i :: is, c :: cs, Γ => by
    show ((putCts is cs Γ).set i _).length = _
    rw [List.length_set, putCts_length is cs Γ]
theorem putCts_out {i : Nat} : ∀ (is : List Nat) (cs : List Ct) (Γ : DEnv), i ∉ is → DEnv.at (putCts is cs Γ) i = Γ.at i
  | [], _, _, _ => rfl
  | _ :: _, [], _, _ => rfl
  | j :: is, c :: cs, Γ, h => by
    simp only [List.mem_cons, not_or] at h
    show DEnv.at ((putCts is cs Γ).set j _) i = _
    rw [at_set', if_neg (fun z => h.1 z.1.symm)]
    exact putCts_out is cs Γ h.2
theorem putCts_in {i k : Nat} {c : Ct} : ∀ (is : List Nat) (cs : List Ct) (Γ : DEnv), is.Nodup → is[k]? = some i → cs[k]? = some c → i < Γ.length → DEnv.at (putCts is cs Γ) i = (Γ.at i).put c
  | [], _, _, _, h, _, _ => by simp at h
  | _ :: _, [], _, _, _, h, _ => by simp at h
  | j :: is, c' :: cs, Γ, nd, h1, h2, hl => by
    rw [List.nodup_cons] at nd
    show DEnv.at ((putCts is cs Γ).set j ((Γ.at j).put c')) i = _
    rw [at_set', putCts_length]
    cases k with
    | zero =>
      have h1 : some j = some i := h1
      have h2 : some c' = some c := h2
      cases h1; cases h2
      rw [if_pos ⟨rfl, hl⟩]
    | succ k =>
      have h1 : is[k]? = some i := h1
      have : j ≠ i := fun z => nd.1 (by rw [z]; exact List.mem_of_getElem? h1)
      rw [if_neg (fun z => this z.1)]
      exact putCts_in is cs Γ nd.2 h1 h2 hl
theorem Backs.at : ∀ {as : List Addr} {cs : List Ct} {k : Nat} {a : Addr}, Backs C.K F' H' as cs → as[k]? = some a → ∃ c, cs[k]? = some c ∧ F' a = none ∧ CtAt C.K F' H' a c
  | _, _, _, _, .nil, h => by simp at h
  | _, _, 0, a, .cons h1 h2 _, h => by
    simp at h; subst h
    exact ⟨_, rfl, h1, h2⟩
  | _, _, k + 1, a, .cons _ _ t, h => Backs.at (k := k) t (by simpa using h)
end
section
variable {X : Cx} {C : DC} {e : Expr} {es : List Expr} {wr : WR} {pos p : Pos} {k : Nat} {f : Addr} {fd : FuncData} {ps : List Str} {x : Str} {spec : SpecFn}
theorem call_imp {σ : L2.St} {H : Hp} {Q : VK} (h : tD C (wCall spec wr) σ H Q) : tCallC (spD C.K C.T spec) (tDR C wr) σ H Q := by
  obtain ⟨F, Γ, W, ok, hw, hq⟩ := h
  refine ⟨F, Γ, _, ok, hw, fun os Γ1 vs H1 F1 h1 ok1 st1 r1 => ?_⟩
  obtain ⟨nd, args, ea, hs⟩ := h1
  obtain ⟨as, h1, hl, h3⟩ := args_of ok1 r1 ea nd
  refine ⟨F1, args, as, _, ok1.sub, ok1.tabs, h1, hs, fun r cs v H' F' hW m b res => ?_⟩
  have hA : ∀ i, MuAt C.K F' H' σ as (Γ1.at i) ((putCts (refIx os) cs Γ1).at i) i := fun i => by
    by_cases mi : i ∈ refIx os
    · obtain ⟨k, hk, ek⟩ := List.getElem_of_mem mi
      have hk' : (refIx os)[k]? = some i := by rw [List.getElem?_eq_getElem hk, ek]
      obtain ⟨a, c0, e1, e2, e3⟩ := h3 k i hk'
      obtain ⟨c, e4, e5, e6⟩ := Backs.at b e1
      have hi : i < Γ1.length := at_lt (fun z => by rw [z] at e2; cases e2)
      rw [putCts_in _ _ _ nd hk' e4 hi]
      refine .inr ⟨a, c0, c, e3, e5, e6, ?_⟩
      rcases Slot.ct_own e2 with z | z <;> rw [z]
      · exact .inl ⟨rfl, rfl⟩
      · exact .inr ⟨rfl, rfl⟩
    · rw [putCts_out _ _ _ mi]
      refine .inl ⟨rfl, fun c a hc e z => ?_⟩
      obtain ⟨k, hk, ek⟩ := List.getElem_of_mem z
      have hk' : k < (refIx os).length := by rw [← hl]; exact hk
      obtain ⟨b', c', e1, e2, e3⟩ := h3 k _ (List.getElem?_eq_getElem hk')
      rw [List.getElem?_eq_getElem hk, ek] at e1
      cases e1
      have := ok1.apart i _ c c' a hc (Slot.ct_own e2) e e3
      exact mi (by rw [this]; exact List.getElem_mem hk')
  have hB : ∀ a ∈ as, Own σ Γ1 a := fun a ha => by
    obtain ⟨k, hk, ek⟩ := List.getElem_of_mem ha
    have hk' : k < (refIx os).length := by rw [← hl]; exact hk
    obtain ⟨b', c', e1, e2, e3⟩ := h3 k _ (List.getElem?_eq_getElem hk')
    rw [List.getElem?_eq_getElem hk, ek] at e1
    cases e1
    exact ⟨_, c', Slot.ct_own e2, e3⟩
  obtain ⟨ok2, st2⟩ := ok1.mutd (Γ' := putCts (refIx os) cs Γ1) m (putCts_length _ _ _) hA hB
  refine hq _ _ v H' F' hW ok2 (st1.trans st2) ?_
  cases r with
  | val d => exact res
  | new c =>
    obtain ⟨a, rfl, e1, e2, e3⟩ := res
    refine ⟨a, rfl, e1, e2, fun z => ?_, ok1.freshH0 e3, st1.free a e3⟩
    obtain ⟨_, u, eu, _⟩ := Own.live ok1 (st2.own a z)
    rw [e3] at eu; cases eu
theorem d_call (F : FnC X.prog X.w X.K X.mg X.base k f fd ps (spD C.K C.T spec)) (hr : Room k X.A) (hG : X.A.guards = some []) (hg : Gl X x) (hm : X.mg x = some (.ref f)) (hk : PySem.W.keepIn X.K (.ref f) = true) (hb : Binds X.K fd ps [])
    (hdb : (x == ("__debug__" : Str)) = false) (hn : noStar e = true) (hns : es.all noStar = true) (ha : PA X (e :: es) (tDR C wr)) : PE X (.Call (.Name x p) (e :: es) [] pos) (tD C (wCall spec wr)) :=
  PE.imp (pe_callC F hr hG hg hm hk hb ha hdb (star1 hn) (star_any hns)) fun _ _ _ h => call_imp h
end
end GS
end

section
set_option Elab.async false
set_option linter.all false
set_option maxRecDepth 100000
set_option maxHeartbeats 1000000
namespace GS
open PySem PySem.Spec PyProof.Rows L2

/-! ## a def by its body's reading -/
def Arg.slot : Arg → Slot
  | .val d => .val d
  | .ref c => .ref c
def Γ0 (n : Nat) (args : List Arg) : DEnv := args.map Arg.slot ++ List.replicate (n - args.length) .non
/-- the places of what is lent -/
def lentIx : Nat → List Arg → List Nat
  | _, [] => []
  | n, .val _ :: as => lentIx (n + 1) as
  | n, .ref _ :: as => n :: lentIx (n + 1) as
def lentAt : Nat → List V → List Arg → List (Nat × Addr)
  | n, .ref a :: vs, .ref _ :: as => (n, a) :: lentAt (n + 1) vs as
  | n, _ :: vs, _ :: as => lentAt (n + 1) vs as
  | _, _, _ => []
def Slot.cont (s : Slot) : Ct := s.ct.getD (.lst [])
def ctsAt (js : List Nat) (Γ : DEnv) : List Ct := js.map fun i => (Γ.at i).cont
def retW (W : Res → List Ct → Prop) (js : List Nat) (o : Opd) (Γ : DEnv) : Prop := match o with
  | .val d => W (.val d) (ctsAt js Γ)
  | .new c => W (.new c) (ctsAt js Γ)
  | .own i => match Γ.at i with
    | .own c => W (.new c) (ctsAt js Γ)
    | .val d => W (.val d) (ctsAt js Γ)
    | _ => False
def retK (W : Res → List Ct → Prop) (js : List Nat) : DK := ⟨fun Γ => W (.val .none) (ctsAt js Γ), fun _ => False, fun _ => False, retW W js⟩
theorem nodup_inj {α : Type} : ∀ {l : List α} {i j : Nat}, l.Nodup → (hi : i < l.length) → (hj : j < l.length) → l[i] = l[j] → i = j
  | _ :: _, 0, 0, _, _, _, _ => rfl
  | x :: l, 0, j + 1, nd, _, hj, e => by
    rw [List.nodup_cons] at nd
    have e : x = l[j]'(by simpa using hj) := e
    exact absurd (by rw [e]; exact List.getElem_mem _) nd.1
  | x :: l, i + 1, 0, nd, hi, _, e => by
    rw [List.nodup_cons] at nd
    have e : l[i]'(by simpa using hi) = x := e
    exact absurd (by rw [← e]; exact List.getElem_mem _) nd.1
  | x :: l, i + 1, j + 1, nd, hi, hj, e => by
    rw [List.nodup_cons] at nd
    rw [nodup_inj nd.2 (by simpa using hi) (by simpa using hj) e]
section
variable {K : KW} {F H : Hp}
theorem args_at : ∀ {vs : List V} {args : List Arg} {as : List Addr} {n : Nat}, ArgsAt K F H vs args as → (∀ (i : Nat) (g : Arg), args[i]? = some g → ∃ v, vs[i]? = some v ∧ match g with
    | .val d => Rp K F v d
    | .ref c => ∃ a, v = .ref a ∧ F a = none ∧ CtAt K F H a c ∧ (n + i, a) ∈ lentAt n vs args) ∧ (lentAt n vs args).map (·.2) = as ∧ (lentAt n vs args).map (·.1) = lentIx n args ∧ (∀ i a, (i, a) ∈ lentAt n vs args → n ≤ i ∧ ∃ c, args[i - n]? = some (.ref c) ∧ vs[i - n]? = some (V.ref a))
  | _, _, _, _, .nil => ⟨fun i g e => by simp at e, rfl, rfl, fun i a h => by cases h⟩
  | _, _, _, n, .val (v := v) (vs := vs) (d := d) (os := os) (as := as) r t => by
    obtain ⟨h1, h2, h3, h4⟩ := args_at (n := n + 1) t
    have e : lentAt n (v :: vs) (.val d :: os) = lentAt (n + 1) vs os := by cases v <;> rfl
    rw [e]
    refine ⟨fun i g eg => ?_, h2, h3, fun i a hi => ?_⟩
    · cases i with
      | zero =>
        have eg : some (Arg.val d) = some g := eg
        cases eg
        exact ⟨v, rfl, r⟩
      | succ i =>
        obtain ⟨v', e1, e2⟩ := h1 i g eg
        refine ⟨v', e1, ?_⟩
        cases g with
        | val d' => exact e2
        | ref c =>
          obtain ⟨a, e3, e4, e5, e6⟩ := e2
          exact ⟨a, e3, e4, e5, by rw [show n + (i + 1) = n + 1 + i by omega]; exact e6⟩
    · obtain ⟨q1, c, q2, q3⟩ := h4 i a hi
      have ei : i - n = (i - (n + 1)) + 1 := by omega
      exact ⟨by omega, c, by rw [ei]; exact q2, by rw [ei]; exact q3⟩
  | _, _, _, n, .ref (a := a) (vs := vs) (c := c) (os := os) (as := as) hF hc hn t => by
    obtain ⟨h1, h2, h3, h4⟩ := args_at (n := n + 1) t
    refine ⟨fun i g eg => ?_, by show a :: (lentAt (n + 1) vs os).map (·.2) = _; rw [h2], by show n :: (lentAt (n + 1) vs os).map (·.1) = _; rw [h3]; rfl, fun i b hi => ?_⟩
    · cases i with
      | zero =>
        have eg : some (Arg.ref c) = some g := eg
        cases eg
        exact ⟨_, rfl, a, rfl, hF, hc, List.mem_cons_self⟩
      | succ i =>
        obtain ⟨v', e1, e2⟩ := h1 i g eg
        refine ⟨v', e1, ?_⟩
        cases g with
        | val d' => exact e2
        | ref c =>
          obtain ⟨b, e3, e4, e5, e6⟩ := e2
          exact ⟨b, e3, e4, e5, List.mem_cons_of_mem _ (by rw [show n + (i + 1) = n + 1 + i by omega]; exact e6)⟩
    · rcases List.mem_cons.mp hi with z | z
      · cases z
        exact ⟨Nat.le_refl _, c, by rw [Nat.sub_self]; rfl, by rw [Nat.sub_self]; rfl⟩
      · obtain ⟨q1, c, q2, q3⟩ := h4 i b z
        have ei : i - n = (i - (n + 1)) + 1 := by omega
        exact ⟨by omega, c, by rw [ei]; exact q2, by rw [ei]; exact q3⟩
theorem args_nodup : ∀ {vs : List V} {args : List Arg} {as : List Addr}, ArgsAt K F H vs args as → as.Nodup
  | _, _, _, .nil => List.nodup_nil
  | _, _, _, .val _ t => args_nodup t
  | _, _, _, .ref _ _ hn t => List.nodup_cons.mpr ⟨hn, args_nodup t⟩
theorem Γ0_at (n : Nat) (args : List Arg) (i : Nat) : DEnv.at (Γ0 n args) i = match args[i]? with
    | some g => g.slot
    | none => .non := by
  unfold Γ0 DEnv.at
  rw [List.getD_eq_getElem?_getD]
  by_cases h : i < args.length
  · rw [List.getElem?_append_left (by simpa using h), List.getElem?_map, List.getElem?_eq_getElem h]
    rfl
  · rw [List.getElem?_append_right (by simpa using Nat.le_of_not_lt h), List.getElem?_eq_none (Nat.le_of_not_lt h), List.getElem?_replicate]
    split <;> rfl
theorem start_at {N : List Str} {vs : List V} {i : Nat} {v : V} (h : vs[i]? = some v) : (L2.start N vs)[i]? = some (some v) := by
  have hl := (List.getElem?_eq_some_iff.mp h).1
  unfold L2.start
  rw [List.getElem?_append_left (by simpa using hl), List.getElem?_map, h]; rfl
theorem env_start {T : List Addr} {N : List Str} {vs : List V} {args : List Arg} {as : List Addr} (sub : Sub F H) (tabs : ∀ p ∈ T, GxR.TabG H p) (h : ArgsAt K F H vs args as) (hN : args.length ≤ N.length) :
    EnvOk ⟨K, T, F, H, lentAt 0 vs args⟩ F H (L2.start N vs) (Γ0 N.length args) := by
  obtain ⟨h1, h2, h3, h4⟩ := args_at (n := 0) h
  have hl := h.length
  have nd := args_nodup h
  have own : ∀ i c, OwnC (DEnv.at (Γ0 N.length args) i) c → args[i]? = some (.ref c) := fun i c hc => by
    rw [Γ0_at] at hc
    cases e : args[i]? with
    | none => rw [e] at hc; rcases hc with z | z <;> cases z
    | some g =>
      rw [e] at hc
      cases g with
      | val d => rcases hc with z | z <;> cases z
      | ref c' => rcases hc with z | z <;> cases z; rfl
  refine ⟨sub, Le.refl F, fun _ _ e => .inl e, fun a o e _ _ => e, fun a o e => ⟨o, e⟩, ?_, fun i d e => ?_, fun i c hc => ?_, fun i c a hc e => ?_, fun i c a hc e => ?_, fun i j c c' a c1 c2 e1 e2 => ?_, fun i a hi => ?_, tabs⟩
  · unfold Γ0 L2.start
    simp only [List.length_append, List.length_map, List.length_replicate]
    omega
  · rw [Γ0_at] at e
    cases q : args[i]? with
    | none => rw [q] at e; cases e
    | some g =>
      rw [q] at e
      obtain ⟨v, e1, e2⟩ := h1 i g q
      cases g with
      | val d' => cases e; exact ⟨v, start_at e1, e2⟩
      | ref c => cases e
  · obtain ⟨v, e1, a, rfl, e3, e4, _⟩ := h1 i _ (own i c hc)
    exact ⟨a, start_at e1, e3, e4⟩
  · have := own i c (.inl hc)
    rw [Γ0_at, this] at hc; cases hc
  · obtain ⟨v, e1, b, rfl, e3, e4, e5⟩ := h1 i _ (own i c (.inr hc))
    rw [start_at e1] at e
    cases e
    rw [Nat.zero_add] at e5; exact e5
  · obtain ⟨v, e3, b, rfl, _, _, e5⟩ := h1 i _ (own i c c1)
    obtain ⟨v', e6, b', rfl, _, _, e7⟩ := h1 j _ (own j c' c2)
    rw [start_at e3] at e1; rw [start_at e6] at e2
    cases e1; cases e2
    rw [← h2] at nd
    obtain ⟨k, hk, ek⟩ := List.getElem_of_mem e5
    obtain ⟨m, hm, em⟩ := List.getElem_of_mem e7
    have : k = m := by
      have hk' : k < ((lentAt 0 vs args).map (·.2)).length := by simpa using hk
      have hm' : m < ((lentAt 0 vs args).map (·.2)).length := by simpa using hm
      have q : ((lentAt 0 vs args).map (·.2))[k] = ((lentAt 0 vs args).map (·.2))[m] := by rw [List.getElem_map, List.getElem_map, ek, em]
      exact nodup_inj nd hk' hm' q
    subst this
    rw [ek] at em
    have := congrArg Prod.fst em
    simpa using this
  · obtain ⟨_, c, q2, q3⟩ := h4 i a hi
    rw [Nat.sub_zero] at q2 q3
    exact ⟨⟨c, by rw [Γ0_at, q2]; rfl⟩, start_at q3⟩
theorem backs_of {C : DC} {F' H' : Hp} {σ' : L2.St} {Γ' : DEnv} (ok : EnvOk C F' H' σ' Γ') : ∀ (l : List (Nat × Addr)), (∀ p ∈ l, p ∈ C.refs) → Backs C.K F' H' (l.map (·.2)) (l.map fun p => (Γ'.at p.1).cont)
  | [], _ => .nil
  | (i, a) :: l, h => by
    obtain ⟨⟨c, e1⟩, e2⟩ := ok.refs i a (h _ List.mem_cons_self)
    obtain ⟨b, e3, e4, e5⟩ := ok.owns i c (.inr e1)
    rw [e2] at e3; cases e3
    have ec : (Γ'.at i).cont = c := by unfold Slot.cont; rw [e1]; rfl
    refine .cons e4 ?_ (backs_of ok l fun p hp => h p (List.mem_cons_of_mem _ hp))
    show CtAt C.K F' H' a (Γ'.at i).cont
    rw [ec]; exact e5
end
theorem fnD_of {P : Program} {w : World} {K : PySem.W.Frag} {mg : Str → Option Value} {base : Heap} {T : List Addr} {k : Nat} {f : Addr} {fd : FuncData} {x qual : Str} {params : Arguments} {body : List Stmt} {scope : Scope} {dvs : List V} {kws : List (Str × V)} {N ps : List Str} {spec : SpecFn} {wb : WS}
    (F : FunD K x qual params body scope dvs kws f fd) (S : FnScope N ps scope) (hN : ps.length ≤ N.length)
    (hbody : ∀ (A : Around) (outer : List Env) (s : Shared) (H : Hp) (C : DC), C.K = ⟨K, w⟩ → C.T = T → Room k (A.deeper (envOfC qual scope s.heap.objs.size f fd.code)) → (A.deeper (envOfC qual scope s.heap.objs.size f fd.code)).guards = some [] →
      PSs (cxOf CX0 P w K mg base N qual scope f fd.code A outer s H E0).nox body (tDS C wb))
    (pure : ∀ args W, spec args W → args.length = ps.length ∧ wb (Γ0 N.length args) (retK W (lentIx 0 args))) : FnC P w K mg base (k + 1) f fd ps (spD ⟨K, w⟩ T spec) := by
  refine fnC_of F S (fun vs H Q h => ?_) fun cdv A outer s H vs Q hcd hlk hfd hr hG h => ?_
  · obtain ⟨F0, args, as, W, _, _, ha, hs, _⟩ := h
    rw [ha.length]; exact (pure args W hs).1
  · obtain ⟨F0, args, as, W, sub, tabs, ha, hs, hq⟩ := h
    obtain ⟨hl, hw⟩ := pure args W hs
    have ec : fd.code = cdv := by obtain ⟨dV, kV, doc, pm, an, ct, rfl⟩ := hfd; rfl
    have ok := env_start (N := N) sub tabs ha (by omega)
    obtain ⟨h1, h2, h3, h4⟩ := args_at (n := 0) ha
    rw [← ec] at hr ⊢
    refine ⟨_, hbody A outer s H ⟨⟨K, w⟩, T, F0, H, lentAt 0 vs args⟩ rfl rfl hr hG, F0, _, _, ok, hw, ?_⟩
    have fin : ∀ {r : Res} {Γ' : DEnv} {σ' : L2.St} {v : V} {H' F' : Hp}, W r (ctsAt (lentIx 0 args) Γ') → EnvOk ⟨⟨K, w⟩, T, F0, H, lentAt 0 vs args⟩ F' H' σ' Γ' → ResAt ⟨K, w⟩ H F' H' v r → Q v H' := fun {r Γ' σ' v H' F'} hW ok' res => by
      refine hq r _ v H' F' hW ⟨ok'.sub, ok'.le, ok'.new, fun a o e nt na => ok'.keep a o e nt fun i hi => na ?_, ok'.dom, ok'.tabs⟩ ?_ res
      · rw [← h2]; exact List.mem_map.mpr ⟨(i, a), hi, rfl⟩
      · have := backs_of ok' (lentAt 0 vs args) fun p hp => hp
        rw [h2] at this
        have e : (lentAt 0 vs args).map (fun p => (Γ'.at p.1).cont) = ctsAt (lentIx 0 args) Γ' := by
          unfold ctsAt
          rw [← h3, List.map_map]; rfl
        rw [e] at this
        exact this
    refine ⟨fun Γ' σ' H' F' hK ok' _ => fin hK ok' .non, fun _ _ _ _ z => z.elim, fun _ _ _ _ z => z.elim, fun o Γ' σ' v H' F' hK ok' _ r => ?_⟩
    cases o with
    | val d => exact fin hK ok' r
    | new c =>
      obtain ⟨a, rfl, e1, e2, _, e3, _⟩ := r
      exact fin (r := .new c) hK ok' ⟨a, rfl, e1, e2, e3⟩
    | own i =>
      have r : σ'[i]? = some (some v) := r
      have hK : retW W (lentIx 0 args) (.own i) Γ' := hK
      simp only [retW] at hK
      split at hK
      · rename_i c e
        obtain ⟨a, rfl, e1, e2⟩ := own_at ok' (.inl e) r
        exact fin (r := .new c) hK ok' ⟨a, rfl, e1, e2, ok'.mine i c a e r⟩
      · rename_i d e
        obtain ⟨v', e1, r'⟩ := ok'.vals i d e
        rw [r] at e1; cases e1
        exact fin (r := .val d) hK ok' r'
      · exact hK.elim
end GS
end

section
set_option Elab.async false
set_option linter.all false
set_option maxRecDepth 100000
set_option maxHeartbeats 1000000
namespace GS
open PySem PySem.Spec PyProof.Rows L2

/-! ## statements that change own objects -/
def wApp (j : Nat) (we : WE) : WS := fun Γ K => (∃ ds0, (Γ.at j).ct = some (.lst ds0)) ∧ we Γ fun o Γ1 => o.frz Γ1 fun d Γ2 => ∃ ds, (Γ2.at j).ct = some (.lst ds) ∧ ds.length ≤ 16000000 ∧ K.nx (Γ2.set j ((Γ2.at j).put (.lst (ds ++ [d]))))
def wExt (j : Nat) (we : WE) : WS := fun Γ K => (∃ ds0, (Γ.at j).ct = some (.lst ds0)) ∧ we Γ fun o Γ1 => ∃ xs ds, o.see Γ1 = some (.list xs) ∧ (Γ1.at j).ct = some (.lst ds) ∧ ds.length + xs.length ≤ 16000000 ∧ K.nx (Γ1.set j ((Γ1.at j).put (.lst (ds ++ xs))))
def putW (c : Ct) (k d : D) (W : Ct → Prop) : Prop := match c with
  | .lst ds => ∃ i n, k = .int i ∧ ixN ds.length i = some n ∧ W (.lst (ds.set n d))
  | .dct kvs => (keyB k = true ∧ kvs.length ≤ 1000000) ∧ W (.dct (putD kvs k d))
def wPut (j : Nat) (wi wv : WE) : WS := fun Γ K => wv Γ fun o Γ1 => o.frz Γ1 fun d Γ2 => (∃ c0, (Γ2.at j).ct = some c0) ∧ wi Γ2 fun oi Γ3 => oi.frz Γ3 fun di Γ4 => ∃ c, (Γ4.at j).ct = some c ∧ putW c di d fun c' => K.nx (Γ4.set j ((Γ4.at j).put c'))
def wAug (j : Nat) (f : Int → Int → Int) (we : WE) : WS := fun Γ K => ∃ a, Γ.at j = .val (.int a) ∧ we Γ fun o Γ1 => ∃ b, o = .val (.int b) ∧ (j < Γ1.length ∧ noRef (Γ1.at j) = true) ∧ K.nx (Γ1.set j (.val (.int (f a b))))
def rExtD (X : Cx) : V → List V → Hp → VK → Prop := fun x vs H Q => ∃ l b xs zs, x = .ref l ∧ vs = [.ref b] ∧ H l = some (.lst xs) ∧ RdL X.K H b zs ∧ xs.length + zs.length ≤ sizeLine ∧ Q .non (upd H l (.lst (xs ++ zs)))
section
variable {X : Cx} {C : DC} {e e2 : Expr} {we wi : WE} {pos p apos cpos : Pos} {j : Nat} {x : Str}
theorem mt_extD : MtM X "list.extend" (rExtD X) := by
  intro pins s σ H y vs v us Q I rx rv h
  obtain ⟨l, b, xs, zs, rfl, rfl, hH, hB, hz, q⟩ := h
  cases rx
  obtain ⟨u, rfl, ru⟩ := rv.one
  cases ru
  obtain ⟨_, its, n, r, hl, e⟩ := I.lstM hH
  obtain ⟨_, its2, n2, r2, hl2, e2⟩ := I.rdLst hB
  have hsum : its.toArray.size + its2.toArray.size ≤ sizeLine := by simp only [List.size_toArray]; omega
  have far : ¬ (!its.toArray.isEmpty && Builtin.List.listTooLong (its.toArray.size + its2.toArray.size)) = true := by rw [notLongL hsum, Bool.and_false]; exact Bool.false_ne_true
  exact call_meets F.slot_list_extend ⟨_, e, rfl⟩ F.entry_list_extend (F.args_list_extend_2 _ _)
    (AutoSeq1.list_extend_list_list_0 l its.toArray n b its2.toArray n2 far (by simp only [List.size_toArray]; omega) (by omega)) ⟨e, e2, .non, _, I.lset (its' := its ++ its2) hH e (by simp) (r.append r2) (by rw [List.length_append]; omega), rfl, q⟩
theorem few1 {env : Env} (hn : noStar e = true) : ((backTo cpos (starEach [e] env)).all (fun x => !x.1) && (backToKw cpos (keywordEach [] env)).all (fun x => x.1.isSome)
    && decide (([e] : List Expr).length + ([] : List Keyword).length + (if ([] : List Keyword).isEmpty then 0 else 1) < 30)) = true := by rw [star1 hn]; rfl
theorem s_app (hN : X.N[j]? = some x) (hv : Vis X.env.scope x) (hd : (x == ("__debug__" : Str)) = false) (hcd : (x == ("__classdict__" : Str)) = false) (hb : attributeBase (.Name x p) "append" X.env (eval (.Name x p) X.env) = eval (.Name x p) X.env) (hl : (apos.endLine == cpos.line) = true) (hn : noStar e = true) (he : PE X e (tD C we)) :
    PS X (.Expr (.Call (.Attribute (.Name x p) "append" apos) [e] [] cpos) pos) (tDS C (wApp j we)) := by
  refine PS.imp (ps_expr (pe_bm PySem.F.plainAttrs_list PySem.F.slot_list_append PySem.F.type_list_append mt_append (pe_var hN hv hd hcd) (pa_cons he pa_nil (star1 hn)) hb (few1 hn) hl (star1 hn) rfl) (swaps_none rfl)) fun D σ H h => ?_
  obtain ⟨F, Γ, K, ok, ⟨⟨ds0, h0⟩, hw⟩, o⟩ := h
  obtain ⟨a, ea, hF, vs, hH, r⟩ := ok.owns j _ (Slot.ct_own h0)
  refine ⟨_, ea, .inl ⟨rfl, vs, .inl (Rd.of hH)⟩, F, Γ, _, ok, hw, fun o' Γ1 v H1 F1 h1 ok1 st1 r1 => ?_⟩
  obtain ⟨d, F2, Γ2, h2, ok2, st2, r2, _⟩ := ResOk.frz r1 ok1 st1 h1
  obtain ⟨ds, hc, hz, hk⟩ := h2
  obtain ⟨a', ea', hF2, vs2, hH2, r3⟩ := ok2.owns j _ (Slot.ct_own hc)
  rw [ea] at ea'; cases ea'
  have : sizeLine = 16777216 := rfl
  refine ⟨a, vs2, v, rfl, rfl, hH2, by rw [r3.length]; omega, ?_⟩
  obtain ⟨ok3, st3⟩ := ok2.mut1 (H' := upd H1 a (.lst (vs2 ++ [v]))) (c' := .lst (ds ++ [d])) hc ea (fun b hb => upd_ne hb) ⟨_, upd_same, r3.append (.cons r2 .nil)⟩
  exact o.nx _ σ _ F2 hk ok3 st2.le
theorem s_ext (hK : kwOf X = C.K) (hN : X.N[j]? = some x) (hv : Vis X.env.scope x) (hd : (x == ("__debug__" : Str)) = false) (hcd : (x == ("__classdict__" : Str)) = false) (hb : attributeBase (.Name x p) "extend" X.env (eval (.Name x p) X.env) = eval (.Name x p) X.env) (hl : (apos.endLine == cpos.line) = true) (hn : noStar e = true) (he : PE X e (tD C we)) :
    PS X (.Expr (.Call (.Attribute (.Name x p) "extend" apos) [e] [] cpos) pos) (tDS C (wExt j we)) := by
  refine PS.imp (ps_expr (pe_bm PySem.F.plainAttrs_list PySem.F.slot_list_extend PySem.F.type_list_extend mt_extD (pe_var hN hv hd hcd) (pa_cons he pa_nil (star1 hn)) hb (few1 hn) hl (star1 hn) rfl) (swaps_none rfl)) fun D σ H h => ?_
  obtain ⟨F, Γ, K, ok, ⟨⟨ds0, h0⟩, hw⟩, o⟩ := h
  obtain ⟨a, ea, hF, vs, hH, r⟩ := ok.owns j _ (Slot.ct_own h0)
  refine ⟨_, ea, .inl ⟨rfl, vs, .inl (Rd.of hH)⟩, F, Γ, _, ok, hw, fun o' Γ1 v H1 F1 h1 ok1 st1 r1 => ?_⟩
  obtain ⟨xs, ds, es, hc, hz, hk⟩ := h1
  obtain ⟨b, ws, rfl, hB, rb⟩ := r1.vw ok1 es
  obtain ⟨a', ea', hF2, vs2, hH2, r3⟩ := ok1.owns j _ (Slot.ct_own hc)
  rw [ea] at ea'; cases ea'
  have : sizeLine = 16777216 := rfl
  refine ⟨a, b, vs2, ws, rfl, rfl, hH2, by rw [kk hK]; exact hB, by rw [r3.length, rb.length]; omega, ?_⟩
  obtain ⟨ok3, st3⟩ := ok1.mut1 (H' := upd H1 a (.lst (vs2 ++ ws))) (c' := .lst (ds ++ xs)) hc ea (fun b hb => upd_ne hb) ⟨_, upd_same, r3.append rb⟩
  exact o.nx _ σ _ F1 hk ok3 st1.le
theorem s_put {k : Nat} {p' : Pos} (hK : kwOf X = C.K) (hr : Room k X.A) (hN : X.N[j]? = some x) (hv : Vis X.env.scope x) (hd : (x == ("__debug__" : Str)) = false) (hcd : (x == ("__classdict__" : Str)) = false) (hp : plainVal e = true) (hi : PE X e2 (tD C wi)) (he : PE X e (tD C we)) :
    PS X (.Assign [.Subscript (.Name x p) e2 p'] e pos) (tDS C (wPut j wi we)) := by
  refine ⟨fun pins s σ H D I h => ?_⟩
  obtain ⟨F, Γ, K, ok, hw, o⟩ := h
  refine wpAny_Assign_Subscript (thn (he.run pins s σ H (fun v H1 => ∃ F1 Γ1 d, ((∃ c0, (Γ1.at j).ct = some c0) ∧ wi Γ1 (fun oi Γ3 => oi.frz Γ3 fun di Γ4 => ∃ c, (Γ4.at j).ct = some c ∧ putW c di d fun c' => K.nx (Γ4.set j ((Γ4.at j).put c')))) ∧ EnvOk C F1 H1 σ Γ1 ∧ Le F F1 ∧ Rp C.K F1 v d) I ⟨F, Γ, _, ok, hw, fun o' Γ1 v H1 F1 h1 ok1 st1 r1 => ?_⟩) fun rv s1 ⟨v, H1, I1, rv1, q1⟩ => ?_) (swaps_none hp)
  · obtain ⟨d, F2, Γ2, h2, ok2, st2, r2, _⟩ := ResOk.frz r1 ok1 st1 h1
    exact ⟨F2, Γ2, d, h2, ok2, st2.le, r2⟩
  obtain ⟨F1, Γ1, d, ⟨⟨c0, hc0⟩, h1⟩, ok1, l1, rd⟩ := q1
  obtain ⟨a, ea, _⟩ := ok1.owns j c0 (Slot.ct_own hc0)
  refine thn ((pe_var (pos := p) hN hv hd hcd).run pins s1 σ H1 (fun w H2 => H2 = H1 ∧ w = .ref a) I1 ⟨_, ea, rfl, rfl⟩) fun ov s2 ⟨w, H2, I2, rw2, eH, ew⟩ => ?_
  subst eH; subst ew
  cases rw2
  refine thn (hi.run pins s2 σ H2 (fun y H3 => ∃ F3 Γ4 di, (∃ c, (Γ4.at j).ct = some c ∧ putW c di d fun c' => K.nx (Γ4.set j ((Γ4.at j).put c'))) ∧ EnvOk C F3 H3 σ Γ4 ∧ Le F1 F3 ∧ Rp C.K F3 y di) I2 ⟨F1, Γ1, _, ok1, h1, fun oi Γ3 y H3 F3 h3 ok3 st3 r3 => ?_⟩) fun iv s3 ⟨y, H3, I3, ry, q3⟩ => ?_
  · obtain ⟨di, F4, Γ4, h4, ok4, st4, r4, _⟩ := ResOk.frz r3 ok3 st3 h3
    exact ⟨F4, Γ4, di, h4, ok4, st4.le, r4⟩
  obtain ⟨F3, Γ4, di, ⟨c, hc, hput⟩, ok3, l3, rdi⟩ := q3
  have rd3 := rd.mono l3
  obtain ⟨a', ea', hF, hat⟩ := ok3.owns j c (Slot.ct_own hc)
  rw [ea] at ea'; cases ea'
  have le : Le F F3 := l1.trans l3
  cases c with
  | lst ds =>
    obtain ⟨i, n, rfl, hix, hk⟩ := hput
    obtain ⟨vs, hH, r⟩ := hat
    cases rdi
    refine thn (set_list pins s3 σ H3 (.ref a) (.int i) v _ _ _ (fun H4 => D.nx σ H4) I3 rfl ry rv1 ⟨a, vs, i, n, rfl, rfl, hH, by rw [r.length]; exact hix, ?_⟩) fun _ s4 h => ?_
    · obtain ⟨ok4, st4⟩ := ok3.mut1 (H' := upd H3 a (.lst (vs.set n v))) (c' := .lst (ds.set n d)) hc ea (fun b hb => upd_ne hb) ⟨_, upd_same, RpAll.set rd3 n r⟩
      exact o.nx _ σ _ F3 hk ok4 le
    · obtain ⟨H4, I4, q4⟩ := h
      exact ⟨σ, H4, I4, q4⟩
  | dct kvs =>
    obtain ⟨⟨hkey, hz⟩, hk⟩ := hput
    obtain ⟨_, _, _, ds, rfl⟩ := keyB_of hkey
    cases rdi with
    | tup h1 r1 =>
      rename_i b ws
      cases ry
      rw [← hK] at hat rd3
      have rk : Rp (kwOf X) F3 (.ref b) (.tuple ds) := by rw [hK]; exact .tup h1 r1
      refine dk_set (room_u hr) I3 ok3.sub hat hF hkey rk rv1 rd3 hz fun s4 o4 I4 hn => ?_
      rw [hK] at hn
      obtain ⟨ok4, st4⟩ := ok3.mut1 (c' := .dct (putD kvs (.tuple ds) d)) hc ea (fun b hb => upd_ne hb) hn
      exact ⟨σ, _, I4, o.nx _ σ _ F3 hk ok4 le⟩
theorem s_aug {op : Operator} {f : Int → Int → Int} {p' : Pos} (ho : PIp X op (ipI f)) (hN : X.N.Nodup) (hi : X.N[j]? = some x) (hx : Loc X.env.scope x) (hf : X.fn x = true ∨ X.env.scope.names.lookup x = some .local) (he : PE X e (tD C we)) :
    PS X (.AugAssign (.Name x p') op e pos) (tDS C (wAug j f we)) := by
  refine PS.imp (ps_aug hN hi hx he ho hf) fun D σ H h => ?_
  obtain ⟨F, Γ, K, ok, hw, o⟩ := h
  obtain ⟨a, ha, hw⟩ := hw
  obtain ⟨v, ev, rv⟩ := ok.vals j _ ha
  cases rv
  refine ⟨_, ev, F, Γ, _, ok, hw, fun o' Γ1 y H1 F1 h1 ok1 st1 r1 => ?_⟩
  obtain ⟨b, rfl, ⟨h2, h3⟩, hk⟩ := h1
  cases r1
  exact ⟨a, b, rfl, rfl, o.nx _ _ H1 F1 hk (ok1.store h2 h3 (.int _)) st1.le⟩

/-! ## two, three names at once -/
def Res.slot : Res → Slot
  | .val d => .val d
  | .new c => .own c
def Opd.half (o : Opd) (Γ : DEnv) (W : Res → DEnv → Prop) : Prop := match o with
  | .val d => W (.val d) Γ
  | .new c => W (.new c) Γ
  | .own i => (Opd.own i).frz Γ fun d Γ1 => W (.val d) Γ1
abbrev WP := DEnv → (List Res → DEnv → Prop) → Prop
/-- as: where the new ones lie, apart -/
inductive ResP (C : DC) (B F H : Hp) (σ : L2.St) (Γ : DEnv) : List V → List Res → List Addr → Prop where
  | nil : ResP C B F H σ Γ [] [] []
  | val {v d vs rs as} : Rp C.K F v d → ResP C B F H σ Γ vs rs as → ResP C B F H σ Γ (v :: vs) (.val d :: rs) as
  | new {a c vs rs as} : ResOk C B F H σ Γ (.ref a) (.new c) → a ∉ as → ResP C B F H σ Γ vs rs as → ResP C B F H σ Γ (.ref a :: vs) (.new c :: rs) (a :: as)
theorem ResP.free {B F H : Hp} {σ : L2.St} {Γ : DEnv} : ∀ {vs : List V} {rs : List Res} {as : List Addr}, ResP C B F H σ Γ vs rs as → ∀ a ∈ as, B a = none
  | _, _, _, .nil => fun a h => by cases h
  | _, _, _, .val _ t => ResP.free t
  | _, _, _, .new r _ t => fun a h => by
    rcases List.mem_cons.mp h with rfl | h
    · obtain ⟨b, e, _, _, _, _, hb⟩ := r
      cases e; exact hb
    · exact ResP.free t a h
theorem ResP.base {B B' F H : Hp} {σ : L2.St} {Γ : DEnv} (d : ∀ a, B a = none → B' a = none) : ∀ {vs : List V} {rs : List Res} {as : List Addr}, ResP C B F H σ Γ vs rs as → ResP C B' F H σ Γ vs rs as
  | _, _, _, .nil => .nil
  | _, _, _, .val r t => .val r (ResP.base d t)
  | _, _, _, .new r n t => .new (r.base d) n (ResP.base d t)
def tDP (C : DC) (w : WP) : TA := fun σ H Q => ∃ F Γ W, EnvOk C F H σ Γ ∧ w Γ W ∧ ∀ rs Γ' vs as H' F', W rs Γ' → EnvOk C F' H' σ Γ' → Stp σ F H Γ F' H' Γ' → ResP C H F' H' σ Γ' vs rs as → Q vs H'
def wpNil : WP := fun Γ W => W [] Γ
def wpCons (we : WE) (wp : WP) : WP := fun Γ W => we Γ fun o Γ1 => o.half Γ1 fun r Γ2 => wp Γ2 fun rs Γ3 => W (r :: rs) Γ3
theorem p_nil : PA X [] (tDP C wpNil) := by
  refine PA.imp pa_nil fun σ H Q h => ?_
  obtain ⟨F, Γ, W, ok, hw, hq⟩ := h
  exact hq [] Γ [] [] H F hw ok (Stp.refl ..) .nil
theorem p_cons {es : List Expr} {wp : WP} (hn : noStar e = true) (he : PE X e (tD C we)) (hs : PA X es (tDP C wp)) : PA X (e :: es) (tDP C (wpCons we wp)) := by
  refine PA.imp (pa_cons he hs (star1 hn)) fun σ H Q h => ?_
  obtain ⟨F, Γ, W, ok, hw, hq⟩ := h
  refine ⟨F, Γ, _, ok, hw, fun o Γ1 v H1 F1 h1 ok1 st1 r1 => ?_⟩
  cases o with
  | val d => exact ⟨F1, Γ1, _, ok1, h1, fun rs Γ3 vs as H3 F3 h3 ok3 st3 r3 => hq _ Γ3 _ as H3 F3 h3 ok3 (st1.trans st3) (.val (Rp.mono st3.le r1) (r3.base st1.free))⟩
  | new c =>
    refine ⟨F1, Γ1, _, ok1, h1, fun rs Γ3 vs as H3 F3 h3 ok3 st3 r3 => ?_⟩
    have r1' := r1
    obtain ⟨a, rfl, _, hat, _⟩ := r1'
    obtain ⟨u, eu, _⟩ := CtAt.ex hat
    refine hq _ Γ3 _ (a :: as) H3 F3 h3 ok3 (st1.trans st3) (.new (r1.stp st3) (fun z => ?_) (r3.base st1.free))
    have := r3.free a z
    rw [eu] at this; cases this
  | own i =>
    obtain ⟨d, F2, Γ2, h2, ok2, st2, r2, _⟩ := ResOk.frz (W := fun d Γ2 => wp Γ2 fun rs Γ3 => W (.val d :: rs) Γ3) (o := .own i) r1 ok1 st1 h1
    exact ⟨F2, Γ2, _, ok2, h2, fun rs Γ3 vs as H3 F3 h3 ok3 st3 r3 => hq _ Γ3 _ as H3 F3 h3 ok3 (st2.trans st3) (.val (Rp.mono st3.le r2) (r3.base st2.free))⟩
def storeAll : List Nat → List Res → DEnv → (DEnv → Prop) → Prop
  | j :: js, r :: rs, Γ, W => (j < Γ.length ∧ noRef (Γ.at j) = true) ∧ storeAll js rs (Γ.set j r.slot) W
  | [], [], Γ, W => W Γ
  | _, _, _, _ => False
def setAll : List Nat → List V → L2.St → L2.St
  | j :: js, v :: vs, σ => setAll js vs (σ.set j (some v))
  | _, _, σ => σ
theorem ResP.put {B F H : Hp} {σ : L2.St} {Γ : DEnv} {j : Nat} {v : V} {s : Slot} {no : List Addr} (hs : ∀ c, OwnC s c → ∃ a, v = .ref a ∧ a ∈ no) {vs : List V} {rs : List Res} {as : List Addr} (r : ResP C B F H σ Γ vs rs as) : (∀ a ∈ as, a ∉ no) → ResP C B F H (σ.set j (some v)) (Γ.set j s) vs rs as := by
  induction r with
  | nil => exact fun _ => .nil
  | val r t ih => exact fun h => .val r (ih h)
  | new r n t ih =>
    intro h
    refine .new ?_ n (ih fun b hb => h b (List.mem_cons_of_mem _ hb))
    obtain ⟨b, e, e1, e2, e3, e4, e5⟩ := r
    cases e
    refine ⟨_, rfl, e1, e2, fun z => ?_, e4, e5⟩
    obtain ⟨i, c, hc, ei⟩ := z
    rw [at_set'] at hc
    by_cases q : j = i ∧ i < Γ.length
    · rw [if_pos q] at hc
      obtain ⟨b, rfl, hb⟩ := hs c hc
      obtain ⟨rfl, _⟩ := q
      by_cases hl : j < σ.length
      · rw [List.getElem?_set_self hl] at ei
        cases ei
        exact h _ List.mem_cons_self hb
      · rw [List.getElem?_eq_none (by rw [List.length_set]; omega)] at ei; cases ei
    · rw [if_neg q] at hc
      by_cases q2 : j = i
      · subst q2
        have : ¬ j < Γ.length := fun z => q ⟨rfl, z⟩
        rw [at_ge (Nat.le_of_not_lt this)] at hc
        rcases hc with hc | hc <;> cases hc
      · rw [List.getElem?_set_ne q2] at ei
        exact e3 ⟨i, c, hc, ei⟩
theorem store_all {B F H : Hp} {W : DEnv → Prop} : ∀ {js : List Nat} {vs : List V} {rs : List Res} {as : List Addr} {σ : L2.St} {Γ : DEnv}, EnvOk C F H σ Γ → ResP C B F H σ Γ vs rs as → storeAll js rs Γ W → ∃ Γ', W Γ' ∧ EnvOk C F H (setAll js vs σ) Γ'
  | [], _, _, _, σ, Γ, ok, .nil, h => ⟨Γ, h, ok⟩
  | j :: js, _, _, _, σ, Γ, ok, .val (v := v) (d := d) r t, h => by
    obtain ⟨⟨h1, h2⟩, h⟩ := h
    have t2 := t.put (j := j) (v := v) (s := .val d) (no := []) (fun c hc => by rcases hc with hc | hc <;> cases hc) fun _ _ z => by cases z
    have k := store_all (ok.store h1 h2 r) t2 h
    exact k
  | j :: js, _, _, _, σ, Γ, ok, .new (a := a) (c := c) r n t, h => by
    obtain ⟨⟨h1, h2⟩, h⟩ := h
    have t2 := t.put (j := j) (v := .ref a) (s := .own c) (no := [a]) (fun c hc => ⟨a, rfl, List.mem_singleton.mpr rfl⟩) fun b hb z => by
      rw [List.mem_singleton.mp z] at hb
      exact n hb
    have k := store_all (ok.storeNew h1 h2 r) t2 h
    exact k
  | [], _, _, _, _, _, _, .val _ _, h => h.elim
  | [], _, _, _, _, _, _, .new _ _ _, h => h.elim
  | _ :: _, _, _, _, _, _, _, .nil, h => h.elim
theorem ResP.len {B F H : Hp} {σ : L2.St} {Γ : DEnv} : ∀ {vs : List V} {rs : List Res} {as : List Addr}, ResP C B F H σ Γ vs rs as → vs.length = rs.length
  | _, _, _, .nil => rfl
  | _, _, _, .val _ t => by simp [ResP.len t]
  | _, _, _, .new _ _ t => by simp [ResP.len t]
theorem storeAll_len : ∀ {js : List Nat} {rs : List Res} {Γ : DEnv} {W : DEnv → Prop}, storeAll js rs Γ W → js.length = rs.length
  | [], [], _, _, _ => rfl
  | _ :: _, _ :: _, _, _, h => by simp [storeAll_len h.2]
  | [], _ :: _, _, _, h => h.elim
  | _ :: _, [], _, _, h => h.elim
def wPar (js : List Nat) (wp : WP) : WS := fun Γ K => wp Γ fun rs Γ1 => storeAll js rs Γ1 K.nx
theorem s_par2 {i : Nat} {y : Str} {a b : Expr} {wp : WP} {px py pt : Pos} {kt k2 : Nat} {pt2 : Pos} (hc : X.calm = true) (hN : X.N.Nodup) (hi : X.N[i]? = some x) (hj : X.N[j]? = some y) (hij : i ≠ j)
    (hx : X.env.scope.names.lookup x = some .local) (hy : X.env.scope.names.lookup y = some .local) (ha : PA X [a, b] (tDP C wp)) (hw : swappedStores [.Tuple [.Name x px, .Name y py] kt pt] (.Tuple [a, b] k2 pt2) X.env = pure (some [x, y]))
    (hs : swapsWithSole [.Tuple [.Name x px, .Name y py] kt pt] (.Tuple [a, b] k2 pt2) pos.line X.env = pure false) : PS X (.Assign [.Tuple [.Name x px, .Name y py] kt pt] (.Tuple [a, b] k2 pt2) pos) (tDS C (wPar [i, j] wp)) := by
  refine PS.imp (ps_par hc hN hi hj hij hx hy ha hw hs) fun D σ H h => ?_
  obtain ⟨F, Γ, K, ok, hw, o⟩ := h
  refine ⟨F, Γ, _, ok, hw, fun rs Γ1 vs as H1 F1 h1 ok1 st1 r1 => ?_⟩
  have e1 := r1.len
  have e2 := storeAll_len h1
  obtain ⟨v, w, rfl⟩ : ∃ v w, vs = [v, w] := by
    match vs, (show vs.length = 2 by rw [e1, ← e2]; rfl) with
    | [v, w], _ => exact ⟨v, w, rfl⟩
  obtain ⟨Γ2, k2, ok2⟩ := store_all ok1 r1 h1
  exact ⟨v, w, rfl, o.nx Γ2 _ H1 F1 k2 ok2 st1.le⟩
theorem s_par3 {i l : Nat} {y z : Str} {a b c : Expr} {wp : WP} {px py pz pt : Pos} {kt k2 : Nat} {pt2 : Pos} (hc : X.calm = true) (hN : X.N.Nodup) (hi : X.N[i]? = some x) (hj : X.N[j]? = some y) (hl : X.N[l]? = some z) (hij : i ≠ j) (hil : i ≠ l) (hjl : j ≠ l)
    (hx : X.env.scope.names.lookup x = some .local) (hy : X.env.scope.names.lookup y = some .local) (hz : X.env.scope.names.lookup z = some .local) (ha : PA X [a, b, c] (tDP C wp)) (hw : swappedStores [.Tuple [.Name x px, .Name y py, .Name z pz] kt pt] (.Tuple [a, b, c] k2 pt2) X.env = pure (some [x, y, z]))
    (hs : swapsWithSole [.Tuple [.Name x px, .Name y py, .Name z pz] kt pt] (.Tuple [a, b, c] k2 pt2) pos.line X.env = pure false) : PS X (.Assign [.Tuple [.Name x px, .Name y py, .Name z pz] kt pt] (.Tuple [a, b, c] k2 pt2) pos) (tDS C (wPar [i, j, l] wp)) := by
  refine PS.imp (ps_par3 hc hN hi hj hl hij hil hjl hx hy hz ha hw hs) fun D σ H h => ?_
  obtain ⟨F, Γ, K, ok, hw, o⟩ := h
  refine ⟨F, Γ, _, ok, hw, fun rs Γ1 vs as H1 F1 h1 ok1 st1 r1 => ?_⟩
  have e1 := r1.len
  have e2 := storeAll_len h1
  obtain ⟨v, w, u, rfl⟩ : ∃ v w u, vs = [v, w, u] := by
    match vs, (show vs.length = 3 by rw [e1, ← e2]; rfl) with
    | [v, w, u], _ => exact ⟨v, w, u, rfl⟩
  obtain ⟨Γ2, k2, ok2⟩ := store_all ok1 r1 h1
  exact ⟨v, w, u, rfl, o.nx Γ2 _ H1 F1 k2 ok2 st1.le⟩
end
end GS
end

section
set_option Elab.async false
set_option linter.all false
set_option maxRecDepth 100000
set_option maxHeartbeats 1000000
namespace GS
open PySem PySem.Spec PyProof.Rows L2

/-! ## repr -/
def reprW (d : D) (W : Opd → Prop) : Prop := (((∃ ds, d = .list ds) ∨ ∃ ds, d = .tuple ds) ∧ d.showable = true ∧ d.hasDict = false ∧ d.depth ≤ 60 ∧ d.shown.length ≤ sizeLine) ∧ W (.val (.str d.shown))
/-! ## dicts: made, asked, gone through -/
def wDnew : WE := fun Γ W => W (.new (.dct [])) Γ
def wGet (j : Nat) (wk wv : WE) : WE := fun Γ W => (∃ kvs, (Γ.at j).ct = some (.dct kvs)) ∧ wk Γ fun ok Γ1 => ok.frz Γ1 fun k Γ2 => wv Γ2 fun ov Γ3 => ov.frz Γ3 fun v Γ4 => ∃ kvs, (Γ4.at j).ct = some (.dct kvs) ∧ keyB k = true ∧ W (.val ((lookD kvs k).getD v)) Γ4
def itemD (p : D × D) : D := .tuple [p.1, p.2]
def sortedItems (kvs : List (D × D)) : List D := (kvs.mergeSort (PySem.W.dataLe false itemD)).map itemD
def wSItems (j : Nat) : WE := fun Γ W => ∃ kvs, (Γ.at j).ct = some (.dct kvs) ∧ (AlikeAll (kvs.map itemD) ∧ kvs.length ≤ 1000000) ∧ W (.new (.lst (sortedItems kvs))) Γ
section
variable {X : Cx} {C : DC} {e e2 : Expr} {we wk wv : WE} {pos p apos cpos : Pos} {j : Nat} {x : Str}
theorem b_repr (hG : X.A.guards = some []) (hu : X.A.units + 66 < cLine) : CallR X (.builtin "repr") (rB1 (kwOf X) reprW) := by
  intro pins s σ H xs us Q I r h
  obtain ⟨v, rfl, F, d, W, sub, vx, ⟨⟨hk, hs, hnd, hdp, hz⟩, hw⟩, hq⟩ := h
  have nd : ∀ kvs, d ≠ .dict kvs := fun kvs z => by
    rcases hk with ⟨ds, rfl⟩ | ⟨ds, rfl⟩ <;> cases z
  obtain ⟨u, rfl, ru⟩ := vals1 r
  obtain ⟨as, hr⟩ := Dp.reads I d v u (Rp.dp (vx.dp sub.le nd)) ru
  obtain ⟨a, rfl⟩ : ∃ a, u = .ref a := by
    rcases hk with ⟨ds, rfl⟩ | ⟨ds, rfl⟩
    · cases hr; exact ⟨_, rfl⟩
    · cases hr; exact ⟨_, rfl⟩
  exact PySem.repr_of_reads' hr hs (fun z => by rw [hnd] at z; cases z) hG (by omega) (fun _ _ q => q) (fun h' u tk k => ⟨.str _, H, I.kept k, ⟨_, rfl⟩, hq _ _ _ _ hw (.flat (.str _))⟩) hz
theorem d_dnew : PE X (.Dict [] [] pos) (tD C wDnew) := by
  refine ⟨fun pins s σ H Q I h => ?_⟩
  obtain ⟨F, Γ, W, ok, hw, hq⟩ := h
  have hn : H s.heap.objs.size = none := I.hok.fresh (Nat.le_refl _)
  have hg : (s.heap.push { cls := .type "dict", data := .dict #[] }).get? s.heap.objs.size = some { cls := .type "dict", data := .dict #[] } := Heap.get?_push_size _ rfl
  refine wpAny_Dict_empty ⟨.ref s.heap.objs.size, _, I.laid (a := s.heap.objs.size) (o := dctO s.heap.objs.size { cls := .type "dict", data := .dict #[] }) (t' := s.toks) (fun _ _ q => Heap.get?_push_of_some _ q) (Nat.le_refl _) ⟨hg, ⟨_, hg⟩, fun h1 h2 e k => k _ e⟩, rfl, ?_⟩
  exact fin_nw ok (Stp.refl ..) (.dct (kvs := []) (xs := []) (es := #[]) (ep := 0) hn ⟨rfl, rfl, rfl⟩ rfl (beq_eq_false_iff_ne.mpr (Ne.symm (Nat.ne_of_lt I.big))) rfl .nil List.nodup_nil) hw hq
/-- a dict's object stands in the heap as it was told -/
theorem dct_obj {pins : List (Addr × Obj)} {σ : L2.St} {H F : Hp} {s : Shared} {K : KW} {a : Addr} {kvs : List (D × D)} (I : Inv X pins σ H s) (h : CtAt K F H a (.dct kvs)) : ∃ o es ep, s.heap.get? a = some o ∧ o.ExactDict ∧ o.data = .dict es ep ∧ (a == sysModules) = false := by
  obtain ⟨o, es, ep, xs, h1, h2, h3, h4, _⟩ := h
  exact ⟨o, es, ep, (show ObjOk X.prog X.w H s.heap a (dctO a o) from I.hok a _ h1).1, h2, h3, h4⟩
theorem few2 {env : Env} (hn : noStar e = true) (hn2 : noStar e2 = true) : ((backTo cpos (starEach [e, e2] env)).all (fun x => !x.1) && (backToKw cpos (keywordEach [] env)).all (fun x => x.1.isSome)
    && decide (([e, e2] : List Expr).length + ([] : List Keyword).length + (if ([] : List Keyword).isEmpty then 0 else 1) < 30)) = true := by rw [star1 hn, star1 hn2]; rfl
theorem d_get {k : Nat} (hK : kwOf X = C.K) (hr : Room k X.A) (hN : X.N[j]? = some x) (hv : Vis X.env.scope x) (hd : (x == ("__debug__" : Str)) = false) (hcd : (x == ("__classdict__" : Str)) = false) (hb : attributeBase (.Name x p) "get" X.env (eval (.Name x p) X.env) = eval (.Name x p) X.env) (hl : (apos.endLine == cpos.line) = true) (hn : noStar e = true) (hn2 : noStar e2 = true) (he : PE X e (tD C wk)) (he2 : PE X e2 (tD C wv)) :
    PE X (.Call (.Attribute (.Name x p) "get" apos) [e, e2] [] cpos) (tD C (wGet j wk wv)) := by
  refine ⟨fun pins s σ H Q I h => ?_⟩
  obtain ⟨F, Γ, W, ok, ⟨⟨kvs0, h0⟩, hw⟩, hq⟩ := h
  obtain ⟨a, ea, _, hat0⟩ := ok.owns j _ (Slot.ct_own h0)
  refine wpAny_Call_method hb (few2 hn hn2) hl PySem.F.plainAttrs_dict PySem.F.slot_dict_get PySem.F.type_dict_get (thn ((pe_var (pos := p) hN hv hd hcd).run pins s σ H (fun w H2 => H2 = H ∧ w = .ref a) I ⟨_, ea, rfl, rfl⟩) fun u s1 ⟨w, H1, I1, rx, eH, ew⟩ => ?_)
  subst eH; subst ew
  cases rx
  obtain ⟨o, es, ep, g1, g2, g3, g4⟩ := dct_obj I1 hat0
  refine ⟨⟨o, g1, g2.1⟩, fun b eb => by cases eb; exact ⟨o, g1, g2.2.1⟩, ?_⟩
  rw [star1 hn, star1 hn2]
  refine Calls.callWith_builtin rfl (Calls.evalArgs_plain (Calls.spliced_cons (thn (he.run pins s1 σ H1 (fun y H2 => ∃ F2 Γ2 kd, (wv Γ2 fun ov Γ3 => ov.frz Γ3 fun v Γ4 => ∃ kvs, (Γ4.at j).ct = some (.dct kvs) ∧ keyB kd = true ∧ W (.val ((lookD kvs kd).getD v)) Γ4) ∧ EnvOk C F2 H2 σ Γ2 ∧ Stp σ F H1 Γ F2 H2 Γ2 ∧ Rp C.K F2 y kd) I1 ⟨F, Γ, _, ok, hw, fun o' Γ1 y H2 F2 h1 ok1 st1 r1 => ?_⟩) fun iv s2 ⟨y, H2, I2, ry, q2⟩ =>
    Calls.spliced_cons ?_)))
  · obtain ⟨d, F3, Γ3, h3, ok3, st3, r3, _⟩ := ResOk.frz r1 ok1 st1 h1
    exact ⟨F3, Γ3, d, h3, ok3, st3, r3⟩
  obtain ⟨F2, Γ2, kd, h2, ok2, st2, rk⟩ := q2
  refine thn (he2.run pins s2 σ H2 (fun z H3 => ∃ F3 Γ3 v, (∃ kvs, (Γ3.at j).ct = some (.dct kvs) ∧ keyB kd = true ∧ W (.val ((lookD kvs kd).getD v)) Γ3) ∧ EnvOk C F3 H3 σ Γ3 ∧ Stp σ F2 H2 Γ2 F3 H3 Γ3 ∧ Rp C.K F3 z v) I2 ⟨F2, Γ2, _, ok2, h2, fun o' Γ1 y H2 F2 h1 ok1 st1 r1 => ?_⟩) fun zv s3 ⟨z, H3, I3, rz, q3⟩ => Calls.spliced_nil ?_
  · obtain ⟨d, F3, Γ3, h3, ok3, st3, r3, _⟩ := ResOk.frz r1 ok1 st1 h1
    exact ⟨F3, Γ3, d, h3, ok3, st3, r3⟩
  obtain ⟨F3, Γ3, vd, ⟨kvs, hc, hkey, hW⟩, ok3, st3, rv⟩ := q3
  have rk := Rp.mono st3.le rk
  obtain ⟨a', ea', hF, hat⟩ := ok3.owns j _ (Slot.ct_own hc)
  rw [ea] at ea'; cases ea'
  obtain ⟨_, _, _, ds, rfl⟩ := keyB_of hkey
  cases rk with
  | tup h1 r1 =>
    rename_i b ws
    cases ry
    have rk : Rp (kwOf X) F3 (.ref b) (.tuple ds) := by rw [hK]; exact .tup h1 r1
    rw [← hK] at hat
    refine dk_getOr (room_u hr) I3 ok3.sub hat hkey rk fun t => ?_
    cases el : lookD kvs (.tuple ds) with
    | none =>
      rw [el] at hW
      exact ⟨z, H3, I3.tok t, rz, fin_nw ok3 (st2.trans st3) (.flat rv) hW hq⟩
    | some vd' =>
      rw [el] at hW
      intro v u rvu rp
      rw [hK] at rp
      exact ⟨v, H3, I3.tok t, rvu, fin_nw ok3 (st2.trans st3) (.flat rp) hW hq⟩
/-! ### sorted(d.items()) -/
/-- a pair laid at b: of key and value that stand -/
def PairAt (K : KW) (F : Hp) (h : Heap) (b : Addr) (q : D × D) : Prop := ∃ kb v u, h.get? b = some { cls := .type "tuple", data := .seq #[.ref kb, u] } ∧ Rp K F (.ref kb) q.1 ∧ RelV v u ∧ Rp K F v q.2
theorem lay_pairs {pins : List (Addr × Obj)} {σ : L2.St} {H0 : Hp} {s : Shared} {h' : Heap} {tk : Nat} {Γ : DEnv} (I0 : Inv X pins σ H0 s) (hK : kwOf X = C.K) : ∀ (L : List Addr) {F H : Hp}, Inv X pins σ H { s with heap := h', toks := tk } → EnvOk C F H σ Γ → L.Nodup → (∀ b ∈ L, s.heap.objs.size ≤ b ∧ H b = none ∧ ∃ q, PairAt C.K F h' b q) →
    ∃ F' H', Inv X pins σ H' { s with heap := h', toks := tk } ∧ EnvOk C F' H' σ Γ ∧ Stp σ F H Γ F' H' Γ ∧ (∀ b ∈ L, ∀ q, PairAt C.K F h' b q → Rp C.K F' (.ref b) (itemD q)) ∧ (∀ b, b ∉ L → H' b = H b)
  | [], F, H, I1, ok, _, _ => ⟨F, H, I1, ok, Stp.refl .., (fun b hb => by cases hb), fun _ _ => rfl⟩
  | b :: L, F, H, I1, ok, nd, hL => by
    rw [List.nodup_cons] at nd
    obtain ⟨hb, hn, q, kb, v, u, hg, rk, rvu, rv⟩ := hL b List.mem_cons_self
    have ot : ∀ H2, ObjOk X.prog X.w H2 h' b (.tup [.ref kb, v]) := fun H2 => ⟨by show 2 ≤ sizeLine; rw [sizeLine_eq]; omega, [.ref kb, u], .cons rfl (.cons rvu .nil), _, hg, rfl, 0, rfl⟩
    have I2 : Inv X pins σ (upd H b (.tup [.ref kb, v])) { s with heap := h', toks := tk } := I1.take (h' := h') (t' := tk) (fun c ob _ e => e) (I0.fpOk hb hn) (ot _)
    have ok2 := ok.froze (o := .tup [.ref kb, v]) hn (fun _ z => nomatch z)
    have st2 : Stp σ F H Γ (upd F b (.tup [.ref kb, v])) (upd H b (.tup [.ref kb, v])) Γ := Stp.froze ok hn
    obtain ⟨F', H', I3, ok3, st3, r3, k3⟩ := lay_pairs I0 hK L I2 ok2 nd.2 fun c hc => by
      obtain ⟨c1, c2, q', kb', v', u', c3, c4, c5, c6⟩ := hL c (List.mem_cons_of_mem _ hc)
      have : c ≠ b := fun z => nd.1 (by rw [← z]; exact hc)
      exact ⟨c1, by rw [upd_ne this]; exact c2, q', kb', v', u', c3, c4.mono st2.le, c5, c6.mono st2.le⟩
    refine ⟨F', H', I3, ok3, st2.trans st3, fun c hc q' hq' => ?_, fun c hc => ?_⟩
    · rcases List.mem_cons.mp hc with rfl | hc
      · obtain ⟨kb', v', u', g1, g2, g3, g4⟩ := hq'
        rw [hg] at g1
        cases g1
        have ev : v' = v := RelV.inj g3 rvu
        subst ev
        exact .tup (SqT.of (st3.le _ _ upd_same)) (.cons (g2.mono (st2.le.trans st3.le)) (.cons (g4.mono (st2.le.trans st3.le)) .nil))
      · obtain ⟨kb', v', u', g1, g2, g3, g4⟩ := hq'
        exact r3 c hc q' ⟨kb', v', u', g1, g2.mono st2.le, g3, g4.mono st2.le⟩
    · simp only [List.mem_cons, not_or] at hc
      rw [k3 c hc.2, upd_ne hc.1]
end
end GS
end

section
set_option Elab.async false
set_option linter.all false
set_option maxRecDepth 100000
set_option maxHeartbeats 1000000
namespace GS
open PySem PySem.Spec PyProof.Rows L2

/-! ## sorted(d.items()) -/
theorem Ent.get {K : KW} {F : Hp} : ∀ {kvs : List (D × D)} {xs : List (NestedKey × Addr × Value)}, Ent K F kvs xs → ∀ (i : Nat) (q : D × D), kvs[i]? = some q → ∃ nk kb u v, xs[i]? = some (nk, kb, u) ∧ Rp K F (.ref kb) q.1 ∧ RelV v u ∧ Rp K F v q.2
  | _, _, .nil => fun i q h => by simp at h
  | _, _, .cons h1 h2 h3 h4 h5 t => fun i q h => by
    cases i with
    | zero =>
      simp at h
      subst h
      exact ⟨_, _, _, _, rfl, h3, h4, h5⟩
    | succ i => exact Ent.get t i q (by simpa using h)
theorem each_ix {α β : Type} {R : α → β → Prop} : ∀ {as : List α} {bs : List β}, as.length = bs.length → (∀ (i : Nat) (a : α) (b : β), as[i]? = some a → bs[i]? = some b → R a b) → PySem.W.EachIs R as bs
  | [], [], _, _ => .nil
  | a :: as, b :: bs, hl, h => .cons (h 0 a b rfl rfl) (each_ix (by simpa using hl) fun i x y hx hy => h (i + 1) x y hx hy)
  | [], _ :: _, hl, _ => by simp at hl
  | _ :: _, [], hl, _ => by simp at hl
section
variable {X : Cx} {C : DC} {pos p p1 apos cpos : Pos} {j : Nat} {x : Str}
theorem rp_list {K : KW} {F' : Hp} {as : List Addr} {hF : Heap} {F : Hp} (hp : ∀ b ∈ as, ∀ q, PairAt K F hF b q → Rp K F' (.ref b) (itemD q)) : ∀ {out : List Value} {qs : List (D × D)}, PySem.W.EachIs (fun u q => ∃ b, u = .ref b ∧ b ∈ as ∧ PairAt K F hF b q) out qs → ∃ vs, Vals vs out ∧ RpAll K F' vs (qs.map itemD)
  | _, _, .nil => ⟨[], .nil, .nil⟩
  | _, _, .cons ⟨b, e, hb, hq⟩ t => by
    obtain ⟨vs, h1, h2⟩ := rp_list hp t
    exact ⟨.ref b :: vs, .cons e h1, .cons (hp b hb _ hq) h2⟩
theorem d_sitems {k : Nat} (hK : kwOf X = C.K) (hr : Room k X.A) (hcalm : X.calm = true) (hN : X.N[j]? = some x) (hv : Vis X.env.scope x) (hd : (x == ("__debug__" : Str)) = false) (hcd : (x == ("__classdict__" : Str)) = false) (hb : attributeBase (.Name x p1) "items" X.env (eval (.Name x p1) X.env) = eval (.Name x p1) X.env) (hl : (apos.endLine == cpos.line) = true) (hg : Gl X "sorted") (hm : X.mg "sorted" = none) :
    PE X (.Call (.Name "sorted" p) [.Call (.Attribute (.Name x p1) "items" apos) [] [] cpos] [] pos) (tD C (wSItems j)) := by
  refine ⟨fun pins s σ H Q I h => ?_⟩
  obtain ⟨F, Γ, W, ok, ⟨kvs, hc, ⟨hal, hz⟩, hw⟩, hq⟩ := h
  obtain ⟨a, ea, hF, hat⟩ := ok.owns j _ (Slot.ct_own hc)
  refine wpAny_Call_Name_kw (ld_blt I hg hm boot_sorted ?_ (by decide) (by decide))
  refine PyProof.Rows.callWith_builtin1 ?_ rfl rfl
  show wpAny _ _ (spliced ((false, eval (.Call (.Attribute (.Name x p1) "items" apos) [] [] cpos) X.env) :: backTo pos (starEach [] X.env))) _ _ s
  refine Calls.spliced_cons ?_
  refine wpAny_Call_method hb rfl hl PySem.F.plainAttrs_dict PySem.F.slot_dict_items PySem.F.type_dict_items (thn ((pe_var (pos := p1) hN hv hd hcd).run pins s σ H (fun w H2 => H2 = H ∧ w = .ref a) I ⟨_, ea, rfl, rfl⟩) fun u s1 ⟨w, H1, I1, rx, eH, ew⟩ => ?_)
  subst eH; subst ew
  cases rx
  have hat' := hat
  obtain ⟨o, es, ep, xs, g0, g2, g3, g4, g5, g6, g7⟩ := hat'
  have g1 : s1.heap.get? a = some o := (show ObjOk X.prog X.w H1 s1.heap a (dctO a o) from I1.hok a _ g0).1
  refine ⟨⟨o, g1, g2.1⟩, fun b eb => by cases eb; exact ⟨o, g1, g2.2.1⟩, ?_⟩
  refine Calls.callWith_builtin rfl (PySem.evalArgs_none ?_)
  refine DT.callItems (es := es) (ep := ep) g4 ⟨o, g1, g2, g3⟩ ?_
  refine Calls.spliced_nil ?_
  -- the view is made; nothing else
  have vsz := s1.heap.objs.size
  have hview : ({ s1 with heap := s1.heap.push { cls := .type "dict_items", data := .fields #[.ref a] } } : Shared).heap.IsItemsView s1.heap.objs.size a := ⟨_, Heap.get?_push_size _ rfl, rfl, rfl⟩
  have I2 : Inv X pins σ H1 { s1 with heap := s1.heap.push { cls := .type "dict_items", data := .fields #[.ref a] } } := I1.kept (t' := s1.toks) fun b o e => Heap.get?_push_of_some _ e
  have g1' : (s1.heap.push { cls := .type "dict_items", data := .fields #[.ref a] }).get? a = some o := Heap.get?_push_of_some _ g1
  generalize hs2 : ({ s1 with heap := s1.heap.push { cls := .type "dict_items", data := .fields #[.ref a] } } : Shared) = s2 at hview I2 ⊢
  have g1'' : s2.heap.get? a = some o := by rw [← hs2]; exact g1'
  have hlen : kvs.length = xs.length := g6.length
  have hsz : es.size = xs.length := by rw [← Array.length_toList, g5, List.length_map]
  have hline : sizeLine = 16777216 := rfl
  refine DT.sortedI (es := es) (ep := ep) (I2.ok.hd hcalm) hview ⟨o, g1'', g2, g3⟩ (by omega) fun h' tk as hk hlt hla hG => ?_
  have nd : as.Nodup := List.Pairwise.imp (fun h => Nat.ne_of_lt h) hG.rise
  -- each new pair
  have pr : ∀ (i : Nat) (b : Addr) (q : D × D), as[i]? = some b → kvs[i]? = some q → PairAt C.K F h' b q := fun i b q hb hq => by
    obtain ⟨nk, kb, u, v, e1, e2, e3, e4⟩ := g6.get i q hq
    obtain ⟨en, he, hg⟩ := hG.pairs i b hb
    have : es[i]? = some (⟨nk.hash C.K.w, .ref kb, u⟩ : DictEntry) := by rw [← Array.getElem?_toList, g5, List.getElem?_map, e1]; rfl
    rw [this] at he
    cases he
    exact ⟨kb, v, u, hg, e2, e3, e4⟩
  -- the list of them, sorted in place
  have hob : (h'.push { cls := .type "list", data := .seq (as.map Value.ref).toArray }).get? h'.objs.size = some (seqObj "list" (as.map Value.ref).toArray 0) := Heap.get?_push_size _ rfl
  have kb2 : ∀ b o, h'.get? b = some o → (h'.push { cls := .type "list", data := .seq (as.map Value.ref).toArray }).get? b = some o := fun b o e => Heap.get?_push_of_some _ e
  have ne0 : ∀ b o, h'.get? b = some o → b ≠ h'.objs.size := fun b o e => Nat.ne_of_lt (Heap.lt_size e)
  generalize hh2 : h'.push { cls := .type "list", data := .seq (as.map Value.ref).toArray } = h2 at hob kb2 ⊢
  have I3 : Inv X pins σ H1 { s2 with heap := h2, toks := tk } := I2.kept (t' := tk) fun b o e => kb2 b o (hk b o e)
  have hR : PySem.W.EachIs (fun u q => ∃ b, u = .ref b ∧ b ∈ as ∧ PairAt C.K F h' b q) (as.map Value.ref) kvs := each_ix (by rw [List.length_map]; omega) fun i u q hu hq' => by
    rw [List.getElem?_map] at hu
    cases hb : as[i]? with
    | none => rw [hb] at hu; cases hu
    | some b =>
      rw [hb] at hu
      cases hu
      exact ⟨b, rfl, List.mem_of_getElem? hb, pr i b q hb hq'⟩
  have hI1 : Inv X pins σ H1 { s2 with heap := h', toks := tk } := I2.kept (t' := tk) hk
  have her : PySem.W.EachIs (fun u q => ∃ bs, Reads h2 u (itemD q) bs ∧ h'.objs.size ∉ bs) (as.map Value.ref) kvs := hR.mono fun u q ⟨b, eu, hb, kb, v, w, f1, f2, f3, f4⟩ => by
    subst eu
    rw [← hK] at f2 f4
    obtain ⟨as1, r1⟩ := Dp.reads hI1 q.1 (.ref kb) _ (Rp.dp (Rp.mono ok.sub.le f2)) rfl
    obtain ⟨as2, r2⟩ := Dp.reads hI1 q.2 v w (Rp.dp (Rp.mono ok.sub.le f4)) f3
    have r3 : Reads h' (.ref b) (itemD q) (as1 ++ (as2 ++ [])) := .tuple f1 rfl rfl (.cons r1 (.cons r2 .nil))
    refine ⟨_, PyProof.Rows.Reads.keeps (fun c o e => kb2 c o e) r3, fun z => ?_⟩
    obtain ⟨o, eo⟩ := reads_there r3 _ z
    exact ne0 _ _ eo rfl
  obtain ⟨ha1, ha2, ha3⟩ := hal
  refine PySem.W.list_sort_data (s := { s2 with heap := h2, toks := tk }) (R := fun u q => ∃ b, u = .ref b ∧ b ∈ as ∧ PairAt C.K F h' b q) (enc := itemD) hob hR her ha1 ha2 (by omega) (fun q hq' => by have := ha3 _ (List.mem_map.mpr ⟨q, hq', rfl⟩); have := room_u hr; show X.A.units + 1 + 1 + (itemD q).depth < cLine; omega) fun out ho eo => ?_
  have kF : ∀ b o, b ≠ h'.objs.size → h2.get? b = some o → (sortedHeap h2 h'.objs.size (as.map Value.ref) out.toArray).get? b = some o := fun b o hb e => (PyProof.Rows.sortedHeap_old hb (Heap.lt_size e)).trans e
  obtain ⟨eF, heF⟩ := PyProof.Rows.sortedHeap_at (vs := as.map Value.ref) (out := out.toArray) hob
  have kS : ∀ b o, s2.heap.get? b = some o → (sortedHeap h2 h'.objs.size (as.map Value.ref) out.toArray).get? b = some o := fun b o e => kF b o (ne0 _ _ (hk b o e)) (kb2 b o (hk b o e))
  have IS : Inv X pins σ H1 { s2 with heap := sortedHeap h2 h'.objs.size (as.map Value.ref) out.toArray, toks := tk } := I2.kept (t' := tk) kS
  generalize hfin : sortedHeap h2 h'.objs.size (as.map Value.ref) out.toArray = hF' at kF kS heF IS ⊢
  have pF : ∀ b q, PairAt C.K F h' b q → PairAt C.K F hF' b q := fun b q ⟨kb, v, u, f1, f2⟩ => ⟨kb, v, u, kF b _ (ne0 _ _ f1) (kb2 _ _ f1), f2⟩
  have hnone : ∀ b, s2.heap.objs.size ≤ b → H1 b = none := fun b hb => I2.hok.fresh hb
  obtain ⟨F', H', I4, ok4, st4, r4, k4⟩ := lay_pairs (C := C) (Γ := Γ) (s := s2) (h' := hF') (tk := tk) I2 hK as IS ok nd fun b hb => by
    obtain ⟨i, hi⟩ := List.mem_iff_getElem?.mp hb
    have hi' : i < as.length := (List.getElem?_eq_some_iff.mp hi).1
    have hik : i < kvs.length := by omega
    refine ⟨Nat.le_of_lt (hG.above b hb), hnone b (Nat.le_of_lt (hG.above b hb)), kvs[i], pF b _ (pr i b _ hi (List.getElem?_eq_getElem hik))⟩
  obtain ⟨vs, hv1, hv2⟩ := rp_list (F' := F') (hF := hF') (F := F) r4 (eo.mono fun u q ⟨b, e1, e2, e3⟩ => ⟨b, e1, e2, pF b q e3⟩)
  have nL : h'.objs.size ∉ as := fun z => by
    obtain ⟨i, hi⟩ := List.mem_iff_getElem?.mp z
    obtain ⟨en, he, hg⟩ := hG.pairs i _ hi
    exact ne0 _ _ hg rfl
  have hL1 : H1 h'.objs.size = none := hnone _ (Nat.le_of_lt hlt)
  have hL : H' h'.objs.size = none := by rw [k4 _ nL]; exact hL1
  have I5 : Inv X pins σ (upd H' h'.objs.size (.lst vs)) { s2 with heap := hF', toks := tk } := I4.take (h' := hF') (t' := tk) (fun b ob _ e => e) (I2.fpOk (Nat.le_of_lt hlt) hL) ⟨by rw [hv1.length, ho]; omega, out, eF, hv1, heF⟩
  exact ⟨.ref h'.objs.size, _, I5, rfl, fin_nw ok4 ((Stp.refl ..).trans st4) (.lst hL hv2) hw hq⟩
end
end GS
end

section
set_option Elab.async false
set_option linter.all false
set_option maxRecDepth 100000
set_option maxHeartbeats 1000000
namespace GS
open PySem PySem.Spec PyProof.Rows L2

/-! ## calls with names; constants of the module; a def that gives nothing -/
def perm {α : Type} (pm : List Nat) (xs : List α) : List α := pm.filterMap fun i => xs[i]?
theorem perm_vals : ∀ (pm : List Nat) {xs : List V} {us : List Value}, Vals xs us → Vals (perm pm xs) (perm pm us)
  | [], _, _, _ => .nil
  | i :: pm, xs, us, r => by
    have ih := perm_vals pm r
    unfold perm at ih ⊢
    rw [List.filterMap_cons, List.filterMap_cons]
    by_cases h : i < xs.length
    · obtain ⟨v, ev, rv⟩ := r.get (List.getElem?_eq_getElem h)
      rw [ev, List.getElem?_eq_getElem h]
      exact .cons rv ih
    · rw [List.getElem?_eq_none (Nat.le_of_not_lt h), List.getElem?_eq_none (by rw [← r.length]; exact Nat.le_of_not_lt h)]
      exact ih
theorem perm_rp {K : KW} {F : Hp} : ∀ (pm : List Nat) {xs : List V} {ds : List D}, RpAll K F xs ds → RpAll K F (perm pm xs) (perm pm ds)
  | [], _, _, _ => .nil
  | i :: pm, xs, ds, r => by
    have ih := perm_rp pm r
    unfold perm at ih ⊢
    rw [List.filterMap_cons, List.filterMap_cons]
    by_cases h : i < ds.length
    · obtain ⟨v, ev, rv⟩ := r.get (List.getElem?_eq_getElem h)
      rw [ev, List.getElem?_eq_getElem h]
      exact .cons rv ih
    · rw [List.getElem?_eq_none (Nat.le_of_not_lt h), List.getElem?_eq_none (by rw [r.length]; exact Nat.le_of_not_lt h)]
      exact ih
/-- the def's parameters by values and names -/
structure KBd (fd : FuncData) (ps : List Str) (n : Nat) (ks : List Str) (pm : List Nat) : Prop where
  to : ∀ (s : Shared) (us ws : List Value), us.length = n → ws.length = ks.length → BindsTo s fd ⟨us, ks.zip ws⟩ (ps.zip (perm pm (us ++ ws)))
theorem kbd_of {K : PySem.W.Frag} {x qual : Str} {params : Arguments} {body : List Stmt} {scope : Scope} {kws : List (Str × V)} {f : Addr} {fd : FuncData} {ps : List Str} {n : Nat} {ks : List Str} {pm : List Nat} (F : FunD K x qual params body scope [] kws f fd)
    (h : ∀ (kV doc pmv : Value) (an : Option Addr) (cdv ct : Value) (us ws : List Value), us.length = n → ws.length = ks.length → bindArgs (PySem.W.fnOf x qual params body scope .none kV doc pmv an cdv ct) ⟨us, ks.zip ws⟩ = pure (ps.zip (perm pm (us ++ ws)))) : KBd fd ps n ks pm := by
  obtain ⟨oc, od, dV, kV, doc, pmv, an, cdv, ct, osl, rfl, lk, hcd, hD, hK⟩ := F.ex
  rcases hD with ⟨_, rfl⟩ | ⟨e, _⟩
  · exact ⟨fun s us ws h1 h2 => BindsTo.of_looks fun M => .of_pure (h kV doc pmv an cdv ct us ws h1 h2)⟩
  · exact absurd rfl e
theorem args_val {K : KW} {F H : Hp} : ∀ {vs : List V} {ds : List D}, RpAll K F vs ds → ArgsAt K F H vs (ds.map Arg.val) []
  | _, _, .nil => .nil
  | _, _, .cons r t => .val r (args_val t)
def wCallK (spec : SpecFn) (pm : List Nat) (n m : Nat) (wv wk : WV) : WE := fun Γ W => wv Γ fun ds Γ1 => wk Γ1 fun es Γ2 => (ds.length = n ∧ es.length = m) ∧ spec ((perm pm (ds ++ es)).map Arg.val) fun r cs => W r.opd Γ2
def tDK (C : DC) (w : WV) : TA := tDV C w
section
variable {X : Cx} {C : DC} {e : Expr} {es : List Expr} {we : WE} {wv wk : WV} {pos p kpos : Pos} {k n : Nat} {f : Addr} {fd : FuncData} {ps ks : List Str} {x : Str} {spec : SpecFn} {kws : List Keyword} {pm : List Nat} {nm : Option Str}
theorem PK.imp {X : Cx} {e : List Keyword} {t t' : TA} (h : PK X e t) (i : ∀ σ H Q, t' σ H Q → t σ H Q) : PK X e t' := ⟨fun pos pins s σ H Q I q => h.run pos pins s σ H Q I (i σ H Q q)⟩
theorem k_nil : PK X [] (tDV C wvNil) := by
  refine PK.imp pk_nil fun σ H Q h => ?_
  obtain ⟨F, Γ, W, ok, hw, hq⟩ := h
  exact hq [] Γ [] H F hw ok (Stp.refl ..) .nil
theorem k_cons (he : PE X e (tD C we)) (hs : PK X kws (tDV C wk)) : PK X (⟨nm, e, kpos⟩ :: kws) (tDV C (wvCons we wk)) := by
  refine PK.imp (pk_cons he hs) fun σ H Q h => ?_
  obtain ⟨F, Γ, W, ok, hw, hq⟩ := h
  refine ⟨F, Γ, _, ok, hw, fun o Γ1 v H1 F1 h1 ok1 st1 r1 => ?_⟩
  obtain ⟨d, F2, Γ2, h2, ok2, st2, r2, _⟩ := ResOk.frz r1 ok1 st1 h1
  exact ⟨F2, Γ2, _, ok2, h2, fun ds Γ3 vs H3 F3 h3 ok3 st3 r3 => hq _ Γ3 _ H3 F3 h3 ok3 (st2.trans st3) (.cons (r2.mono st3.le) r3)⟩
theorem run_kbd {pins : List (Addr × Obj)} {σ : L2.St} {H : Hp} {s : Shared} {Q : VK} {us ws : List Value} {vs zs : List V} {sp : SpC} (F : FnC X.prog X.w X.K X.mg X.base k f fd ps sp) (hr : Room k X.A) (hG : X.A.guards = some []) (hb : KBd fd ps n ks pm)
    (I : Inv X pins σ H s) (r : Vals vs us) (rz : Vals zs ws) (h1 : us.length = n) (h2 : ws.length = ks.length) (h : sp (perm pm (vs ++ zs)) H Q) : wpAny (model X.prog X.w) X.A (call (.ref f) us (ks.zip ws)) (EP X pins σ Q) X.xe s := by
  refine wpAny_call (codeAny_mono (run_end I (F.run X.A X.stack s H ⟨us, ks.zip ws⟩ (perm pm (us ++ ws)) _ Q hr hG I.env0 (hb.to s us ws h1 h2) (perm_vals pm (r.append rz)) h)) fun r s' hq => ?_)
  cases r with
  | error e => exact hq
  | ok fl =>
    cases fl with
    | ret u => exact hq
    | next => exact False.elim hq
    | brk => exact False.elim hq
    | cont => exact False.elim hq
theorem callk_imp {F1 H1 : Hp} {Γ1 : DEnv} {σ : L2.St} {F H : Hp} {Γ : DEnv} {W : Opd → DEnv → Prop} {Q : VK} {vs : List V} {ds : List D} (ok1 : EnvOk C F1 H1 σ Γ1) (st1 : Stp σ F H Γ F1 H1 Γ1) (r : RpAll C.K F1 vs ds) (hs : spec (ds.map Arg.val) fun r cs => W r.opd Γ1)
    (hq : ∀ o Γ' v H' F', W o Γ' → EnvOk C F' H' σ Γ' → Stp σ F H Γ F' H' Γ' → ResOk C H F' H' σ Γ' v o → Q v H') : spD C.K C.T spec vs H1 Q := by
  refine ⟨F1, _, [], _, ok1.sub, ok1.tabs, args_val r, hs, fun r cs v H' F' hW m b res => ?_⟩
  obtain ⟨ok2, st2⟩ := ok1.mutd (Γ' := Γ1) m rfl (fun i => .inl ⟨rfl, fun _ _ _ _ z => by cases z⟩) (fun a z => by cases z)
  refine hq r.opd Γ1 v H' F' hW ok2 (st1.trans st2) ?_
  cases r with
  | val d => exact res
  | new c =>
    obtain ⟨a, rfl, e1, e2, e3⟩ := res
    refine ⟨a, rfl, e1, e2, fun z => ?_, ok1.freshH0 e3, st1.free a e3⟩
    obtain ⟨_, u, eu, _⟩ := Own.live ok1 (st2.own a z)
    rw [e3] at eu; cases eu
theorem d_callK0 (F : FnC X.prog X.w X.K X.mg X.base k f fd ps (spD C.K C.T spec)) (hr : Room k X.A) (hG : X.A.guards = some []) (hg : Gl X x) (hm : X.mg x = some (.ref f)) (hk : PySem.W.keepIn X.K (.ref f) = true) (hb : KBd fd ps 0 ks pm)
    (hkw : PK X kws (tDV C wk)) (hall : (backToKw pos (keywordEach kws X.env)).all (·.1.isSome) = true) (hks : (backToKw pos (keywordEach kws X.env)).filterMap (·.1) = ks) (hdb : (x == ("__debug__" : Str)) = false)
    (hpl : ((backTo pos (starEach [] X.env)).any (·.1) || (backToKw pos (keywordEach kws X.env)).any (·.1.isNone)) = false) :
    PE X (.Call (.Name x p) [] kws pos) (tD C (wCallK spec pm 0 ks.length wvNil wk)) := by
  refine ⟨fun pins s σ H Q I h => wpAny_Call_Name_kw (ld_glob I hg hm ?_ hdb)⟩
  obtain ⟨F0, Γ, W, ok, hw, hq⟩ := h
  refine PySem.W.callWith_KW0 (h₀ := X.base) I.ok.mod.kin hk hall (thn (hkw.run pos pins s σ H (fun vs H1 => vs.length = ks.length ∧ spD C.K C.T spec (perm pm vs) H1 Q) I ⟨F0, Γ, _, ok, hw, fun ds Γ1 vs H1 F1 h1 ok1 st1 r1 => ⟨by rw [r1.length]; exact h1.1.2, callk_imp ok1 st1 (perm_rp pm r1) h1.2 hq⟩⟩) fun ws s1 ⟨vs, H1, I1, r1, hl, q1⟩ => ⟨I1.kIn, ?_⟩) hpl
  rw [hks]
  exact run_kbd (vs := []) (us := []) F hr hG hb I1 .nil r1 rfl (by rw [← r1.length]; exact hl) q1

end
/-! ### constants -/
mutual
/-- the module's value u is the data d -/
def isB (K : PySem.W.Frag) : Value → D → Bool
  | .none, .none => true
  | .bool b, .bool c => b == c
  | .int i _, .int j => decide (i = j)
  | .str x _, .str y => decide (x = y)
  | .ref a, .tuple ds => match K.lookup a with
    | some ⟨.type t, _, .seq vs _, _⟩ => decide (t = "tuple") && decide (vs.size ≤ 1000) && isAll K vs.toList ds
    | _ => false
  | _, _ => false
def isAll (K : PySem.W.Frag) : List Value → List D → Bool
  | [], [] => true
  | u :: us, d :: ds => isB K u d && isAll K us ds
  | _, _ => false
end
mutual
theorem isB_ok {K : KW} (F : Hp) : ∀ (d : D) (u : Value), isB K.k u d = true → ∃ v, RelV v u ∧ Rp K F v d
  | .none, u, h => by
    cases u <;> first | (cases h; done) | skip
    exact ⟨.non, rfl, .non⟩
  | .bool c, u, h => by
    cases u <;> first | (cases h; done) | skip
    simp only [isB, beq_iff_eq] at h
    subst h
    exact ⟨.bl _, rfl, .bl _⟩
  | .int j, u, h => by
    cases u <;> first | (cases h; done) | skip
    simp only [isB, decide_eq_true_eq] at h
    subst h
    exact ⟨.int _, ⟨_, rfl⟩, .int _⟩
  | .str y, u, h => by
    cases u <;> first | (cases h; done) | skip
    simp only [isB, decide_eq_true_eq] at h
    subst h
    exact ⟨.str _, ⟨_, rfl⟩, .str _⟩
  | .tuple ds, u, h => by
    cases u <;> first | (cases h; done) | skip
    rename_i a
    simp only [isB] at h
    split at h
    · rename_i t dd vs n sl e
      simp only [Bool.and_eq_true, decide_eq_true_eq] at h
      obtain ⟨⟨rfl, hz⟩, h⟩ := h
      obtain ⟨ws, r1, r2⟩ := isAll_ok F ds vs.toList h
      exact ⟨.ref a, rfl, .tup (.inr ⟨_, vs, n, e, rfl, rfl, Nat.le_trans hz (by decide), r1⟩) r2⟩
    · cases h
  | .list _, u, h => by cases u <;> cases h
  | .dict _, u, h => by cases u <;> cases h
theorem isAll_ok {K : KW} (F : Hp) : ∀ (ds : List D) (us : List Value), isAll K.k us ds = true → ∃ vs, Vals vs us ∧ RpAll K F vs ds
  | [], [], _ => ⟨[], .nil, .nil⟩
  | [], _ :: _, h => by cases h
  | _ :: _, [], h => by cases h
  | d :: ds, u :: us, h => by
    simp only [isAll, Bool.and_eq_true] at h
    obtain ⟨v, r1, r2⟩ := isB_ok F d u h.1
    obtain ⟨vs, r3, r4⟩ := isAll_ok F ds us h.2
    exact ⟨v :: vs, .cons r1 r3, .cons r2 r4⟩
end
section
variable {X : Cx} {C : DC} {x : Str} {pos : Pos}
theorem d_glob {u : Value} {d : D} (hK : kwOf X = C.K) (hg : Gl X x) (hm : X.mg x = some u) (hb : isB X.K u d = true) (hd : (x == ("__debug__" : Str)) = false) : PE X (.Name x pos) (tD C (wC d)) := by
  refine ⟨fun pins s σ H Q I h => ?_⟩
  obtain ⟨F, Γ, W, ok, hw, hq⟩ := h
  rw [kk hK] at hb
  obtain ⟨v, rv, rd⟩ := isB_ok F d u hb
  exact (pe_glob hg hm rv hd).run pins s σ H Q I (hq _ _ v H F hw ok (Stp.refl ..) rd)
theorem d_int {i : Int} {j : Nat} : PE X (.Constant (.int i) j pos) (tD C (wC (.int i))) := d_cst pe_int fun _ => .int i
theorem d_bl {b : Bool} {j : Nat} : PE X (.Constant (.bool b) j pos) (tD C (wC (.bool b))) := d_cst pe_bl fun _ => .bl b
theorem d_non {j : Nat} : PE X (.Constant .none j pos) (tD C (wC .none)) := d_cst pe_non fun _ => .non
theorem d_str {s : Str} {j : Nat} : PE X (.Constant (.str s) j pos) (tD C (wC (.str s))) := d_cst pe_str fun _ => .str s
end
end GS
end

section
set_option Elab.async false
set_option linter.all false
set_option maxRecDepth 100000
set_option maxHeartbeats 1000000
namespace GS
open PySem PySem.Spec PyProof.Rows L2

/-! ## what a walk by a generator asks -/
def visB (sc : Scope) (x : Str) : Bool := match sc.names.lookup x with
  | some .local => true
  | some .cell => true
  | some .free => true
  | _ => false
theorem vis_of {sc : Scope} {x : Str} (h : visB sc x = true) : Vis sc x := by
  unfold visB at h
  unfold Vis
  split at h
  · rename_i e; exact .inl e
  · rename_i e; exact .inr (.inl e)
  · rename_i e; exact .inr (.inr e)
  · cases h
def locB (sc : Scope) (x : Str) : Bool := match sc.names.lookup x with
  | some .local => true
  | some .cell => true
  | _ => false
theorem loc_of {sc : Scope} {x : Str} (h : locB sc x = true) : L2.Loc sc x := by
  unfold locB at h
  unfold L2.Loc
  split at h
  · rename_i e; exact .inl e
  · rename_i e; exact .inr e
  · cases h
def fnB (X : Cx) (x : Str) : Bool := X.fn x || match X.env.scope.names.lookup x with
  | some .local => true
  | _ => false
theorem fn_of {X : Cx} {x : Str} (h : fnB X x = true) : X.fn x = true ∨ X.env.scope.names.lookup x = some .local := by
  unfold fnB at h
  rw [Bool.or_eq_true] at h
  rcases h with h | h
  · exact .inl h
  · right
    split at h
    · rename_i e; exact e
    · cases h
theorem room_gen {k : Nat} {A : Around} (r : Room (k + 1) A) (env : Env) : Room k (A.in1.in1.deeper env) := by
  refine ⟨r.hd, ?_, ?_⟩
  · have := r.dp
    show A.depth + 1 + 3 * k + 5 < _
    omega
  · have := r.un
    show A.units + 1 + 1 + 3 + 16 * k + 200 < _
    omega
/-- a def that is known -/
structure Known (P : Program) (w : World) (K : PySem.W.Frag) (mg : Str → Option Value) (base : Heap) (T : List Addr) (x : Str) (k : Nat) (ps : List Str) (spec : SpecFn) : Prop where
  ex : ∃ f fd, FnC P w K mg base k f fd ps (spD ⟨K, w⟩ T spec) ∧ mg x = some (.ref f) ∧ PySem.W.keepIn K (.ref f) = true ∧ Binds K fd ps []
/-- .. by names too -/
structure KnownK (P : Program) (w : World) (K : PySem.W.Frag) (mg : Str → Option Value) (base : Heap) (T : List Addr) (x : Str) (k : Nat) (ps : List Str) (n : Nat) (ks : List Str) (pm : List Nat) (spec : SpecFn) : Prop where
  ex : ∃ f fd, FnC P w K mg base k f fd ps (spD ⟨K, w⟩ T spec) ∧ mg x = some (.ref f) ∧ PySem.W.keepIn K (.ref f) = true ∧ KBd fd ps n ks pm
def Const (mg : Str → Option Value) (K : PySem.W.Frag) (x : Str) (d : D) : Prop := ∃ u, mg x = some u ∧ isB K u d = true
/-- the built-in names that the module leaves alone -/
def Frees (mg : Str → Option Value) (xs : List Str) : Prop := ∀ x ∈ xs, mg x = none
section
variable {X : Cx} {C : DC} {e e2 e3 : Expr} {es : List Expr} {wa wb wc we : WE} {wr : WR} {pos p : Pos} {x : Str}
theorem d_callN {k j : Nat} {ps : List Str} {spec : SpecFn} {T : List Addr} (kn : Known X.prog X.w X.K X.mg X.base T x j ps spec) (hK : kwOf X = C.K) (hT : C.T = T) (hr : Room k X.A) (hj : j ≤ k) (hG : X.A.guards = some []) (hg : Gl X x) (hdb : (x == ("__debug__" : Str)) = false) (hn : noStar e = true) (hns : es.all noStar = true) (ha : PA X (e :: es) (tDR C wr)) :
    PE X (.Call (.Name x p) (e :: es) [] pos) (tD C (wCall spec wr)) := by
  obtain ⟨f, fd, F, hm, hk, hb⟩ := kn.ex
  have F' : FnC X.prog X.w X.K X.mg X.base j f fd ps (spD C.K C.T spec) := by rw [← hK, hT]; exact F
  exact d_call F' (hr.mono hj) hG hg hm hk hb hdb hn hns ha
theorem d_callN0 {k j : Nat} {ps : List Str} {spec : SpecFn} {T : List Addr} (kn : Known X.prog X.w X.K X.mg X.base T x j ps spec) (hK : kwOf X = C.K) (hT : C.T = T) (hr : Room k X.A) (hj : j ≤ k) (hG : X.A.guards = some []) (hg : Gl X x) (hdb : (x == ("__debug__" : Str)) = false) :
    PE X (.Call (.Name x p) [] [] pos) (tD C (wCall spec wrNil)) := by
  obtain ⟨f, fd, F, hm, hk, hb⟩ := kn.ex
  have F' : FnC X.prog X.w X.K X.mg X.base j f fd ps (spD C.K C.T spec) := by rw [← hK, hT]; exact F
  refine PE.imp (pe_callC0 F' (hr.mono hj) hG hg hm hk hb hdb) fun σ H Q h => ?_
  have h1 := call_imp h
  obtain ⟨F0, Γ, W, ok, hw, hq⟩ := h1
  exact hq [] Γ [] H F0 hw ok (Stp.refl ..) .nil
theorem d_callNK0 {k j : Nat} {ps ks : List Str} {pm : List Nat} {m : Nat} {spec : SpecFn} {T : List Addr} {kws : List Keyword} {wk : WV} (kn : KnownK X.prog X.w X.K X.mg X.base T x j ps 0 ks pm spec) (hK : kwOf X = C.K) (hT : C.T = T) (hr : Room k X.A) (hj : j ≤ k) (hG : X.A.guards = some []) (hg : Gl X x) (hdb : (x == ("__debug__" : Str)) = false)
    (hall : (backToKw pos (keywordEach kws X.env)).all (·.1.isSome) = true) (hks : (backToKw pos (keywordEach kws X.env)).filterMap (·.1) = ks) (hpl : ((backTo pos (starEach [] X.env)).any (·.1) || (backToKw pos (keywordEach kws X.env)).any (·.1.isNone)) = false) (hlen : ks.length = m) (hkw : PK X kws (tDV C wk)) :
    PE X (.Call (.Name x p) [] kws pos) (tD C (wCallK spec pm 0 m wvNil wk)) := by
  subst hlen
  obtain ⟨f, fd, F, hm, hk, hb⟩ := kn.ex
  have F' : FnC X.prog X.w X.K X.mg X.base j f fd ps (spD C.K C.T spec) := by rw [← hK, hT]; exact F
  exact d_callK0 F' (hr.mono hj) hG hg hm hk hb hkw hall hks hdb hpl
theorem d_const {d : D} (c : Const X.mg X.K x d) (hK : kwOf X = C.K) (hg : Gl X x) (hd : (x == ("__debug__" : Str)) = false) : PE X (.Name x pos) (tD C (wC d)) := by
  obtain ⟨u, hm, hb⟩ := c
  exact d_glob hK hg hm hb hd
theorem d_chn {k : Nat} {op op' : CmpOp} (o1 o2 : CO) (e1 : coOf o1 = op) (e2' : coOf o2 = op') (hK : kwOf X = C.K) (hr : Room k X.A) (hm : lastMarks [op, op'] [e2, e3] = false) (ha : PE X e (tD C wa)) (hb : PE X e2 (tD C wb)) (hc : PE X e3 (tD C wc)) : PE X (.Compare e [op, op'] [e2, e3] pos) (tD C (wChn o1 o2 wa wb wc)) := by
  subst e1; subst e2'
  have h1 := op_cmp (X := X) (room_u hr) o1
  have h2 := op_cmp (X := X) (room_u hr) o2
  rw [hK] at h1 h2
  exact PE.imp (pe_chain h1 h2 ha hb hc hm) fun _ _ _ h => chn_imp h
theorem d_tchn {k : Nat} {op op' : CmpOp} (o1 o2 : CO) (e1 : coOf o1 = op) (e2' : coOf o2 = op') (hK : kwOf X = C.K) (hr : Room k X.A) (hm : lastMarks [op, op'] [e2, e3] = false) (ha : PE X e (tD C wa)) (hb : PE X e2 (tD C wb)) (hc : PE X e3 (tD C wc)) : PT X (.Compare e [op, op'] [e2, e3] pos) (tDT C (wTst (wChn o1 o2 wa wb wc))) := by
  subst e1; subst e2'
  have h1 := op_cmp (X := X) (room_u hr) o1
  have h2 := op_cmp (X := X) (room_u hr) o2
  rw [hK] at h1 h2
  refine PT.imp (pt_chain h1 h2 ha hb hc hm) fun σ H Q h => ?_
  exact chn_imp (tst_imp h)
/-! built-in functions, by their names -/
theorem d_len (hK : kwOf X = C.K) (hg : Gl X "len") (hm : X.mg "len" = none) (hn : noStar e = true) (ha : PE X e (tD C wa)) : PE X (.Call (.Name "len" p) [e] [] pos) (tD C (w1 wa lenW)) := by
  have h := b_len (X := X); rw [hK] at h
  exact d_b1 h hg hm boot_len hn (by decide) (by decide) ha
theorem d_abs (hK : kwOf X = C.K) (hg : Gl X "abs") (hm : X.mg "abs" = none) (hn : noStar e = true) (ha : PE X e (tD C wa)) : PE X (.Call (.Name "abs" p) [e] [] pos) (tD C (w1 wa absW)) := by
  have h := b_abs (X := X); rw [hK] at h
  exact d_b1 h hg hm boot_abs hn (by decide) (by decide) ha
theorem d_toint (hK : kwOf X = C.K) (hg : Gl X "int") (hm : X.mg "int" = none) (hn : noStar e = true) (ha : PE X e (tD C wa)) : PE X (.Call (.Name "int" p) [e] [] pos) (tD C (w1 wa intW)) := by
  have h := b_int (X := X); rw [hK] at h
  exact d_ty1 h hg hm boot_int hn (by decide) (by decide) ha
theorem d_min2 (hc : X.calm = true) (hK : kwOf X = C.K) (hg : Gl X "min") (hm : X.mg "min" = none) (hn : noStar e = true) (hn2 : noStar e2 = true) (ha : PE X e (tD C wa)) (hb : PE X e2 (tD C wb)) : PE X (.Call (.Name "min" p) [e, e2] [] pos) (tD C (w2 wa wb min2W)) := by
  have h := b_min2 hc; rw [hK] at h
  exact d_b2 h hg hm boot_min hn hn2 (by decide) (by decide) ha hb
theorem d_max2 (hc : X.calm = true) (hK : kwOf X = C.K) (hg : Gl X "max") (hm : X.mg "max" = none) (hn : noStar e = true) (hn2 : noStar e2 = true) (ha : PE X e (tD C wa)) (hb : PE X e2 (tD C wb)) : PE X (.Call (.Name "max" p) [e, e2] [] pos) (tD C (w2 wa wb max2W)) := by
  have h := b_max2 hc; rw [hK] at h
  exact d_b2 h hg hm boot_max hn hn2 (by decide) (by decide) ha hb
theorem d_gcd (hK : kwOf X = C.K) (hg : Gl X "gcd") (hm : X.mg "gcd" = some (.builtin "math.gcd")) (hn : noStar e = true) (hn2 : noStar e2 = true) (ha : PE X e (tD C wa)) (hb : PE X e2 (tD C wb)) : PE X (.Call (.Name "gcd" p) [e, e2] [] pos) (tD C (w2 wa wb gcdW)) := by
  have h := b_gcd (X := X); rw [hK] at h
  exact d_bf2 h hg hm hn hn2 (by decide) ha hb
theorem d_maxL (hc : X.calm = true) (hK : kwOf X = C.K) (hg : Gl X "max") (hm : X.mg "max" = none) (hn : noStar e = true) (ha : PE X e (tD C wa)) : PE X (.Call (.Name "max" p) [e] [] pos) (tD C (w1 wa maxLW)) := by
  have h := b_max hc; rw [hK] at h
  exact d_b1 h hg hm boot_max hn (by decide) (by decide) ha
theorem d_minL (hc : X.calm = true) (hK : kwOf X = C.K) (hg : Gl X "min") (hm : X.mg "min" = none) (hn : noStar e = true) (ha : PE X e (tD C wa)) : PE X (.Call (.Name "min" p) [e] [] pos) (tD C (w1 wa minLW)) := by
  have h := b_min hc; rw [hK] at h
  exact d_b1 h hg hm boot_min hn (by decide) (by decide) ha
theorem d_sum (hc : X.calm = true) (hK : kwOf X = C.K) (hg : Gl X "sum") (hm : X.mg "sum" = none) (hn : noStar e = true) (ha : PE X e (tD C wa)) : PE X (.Call (.Name "sum" p) [e] [] pos) (tD C (w1 wa sumW)) := by
  have h := b_sum hc; rw [hK] at h
  exact d_b1 h hg hm boot_sum hn (by decide) (by decide) ha
theorem d_anyL (hc : X.calm = true) (hK : kwOf X = C.K) (hg : Gl X "any") (hm : X.mg "any" = none) (hn : noStar e = true) (ha : PE X e (tD C wa)) : PE X (.Call (.Name "any" p) [e] [] pos) (tD C (w1 wa anyW)) := by
  have h := b_any hc; rw [hK] at h
  exact d_b1 h hg hm boot_any' hn (by decide) (by decide) ha
theorem d_allL (hc : X.calm = true) (hK : kwOf X = C.K) (hg : Gl X "all") (hm : X.mg "all" = none) (hn : noStar e = true) (ha : PE X e (tD C wa)) : PE X (.Call (.Name "all" p) [e] [] pos) (tD C (w1 wa allW)) := by
  have h := b_all hc; rw [hK] at h
  exact d_b1 h hg hm boot_all' hn (by decide) (by decide) ha
theorem d_totup (hK : kwOf X = C.K) (hg : Gl X "tuple") (hm : X.mg "tuple" = none) (hn : noStar e = true) (ha : PE X e (tD C wa)) : PE X (.Call (.Name "tuple" p) [e] [] pos) (tD C (w1 wa tupW)) := by
  have h := b_tuple (X := X); rw [hK] at h
  exact d_ty1 h hg hm boot_tuple hn (by decide) (by decide) ha
theorem d_tolst (hK : kwOf X = C.K) (hg : Gl X "list") (hm : X.mg "list" = none) (hn : noStar e = true) (ha : PE X e (tD C wa)) : PE X (.Call (.Name "list" p) [e] [] pos) (tD C (w1 wa lstW)) := by
  have h := b_list (X := X); rw [hK] at h
  exact d_ty1 h hg hm boot_list hn (by decide) (by decide) ha
theorem d_sorted {k : Nat} (hr : Room k X.A) (hc : X.calm = true) (hK : kwOf X = C.K) (hg : Gl X "sorted") (hm : X.mg "sorted" = none) (hn : noStar e = true) (ha : PE X e (tD C wa)) : PE X (.Call (.Name "sorted" p) [e] [] pos) (tD C (w1 wa sortW)) := by
  have h := b_sorted hc (room_u hr); rw [hK] at h
  exact d_b1 h hg hm boot_sorted hn (by decide) (by decide) ha
theorem d_repr {k : Nat} (hr : Room k X.A) (hG : X.A.guards = some []) (hK : kwOf X = C.K) (hg : Gl X "repr") (hm : X.mg "repr" = none) (hn : noStar e = true) (ha : PE X e (tD C wa)) : PE X (.Call (.Name "repr" p) [e] [] pos) (tD C (w1 wa reprW)) := by
  have h := b_repr hG (room_u hr); rw [hK] at h
  exact d_b1 h hg hm boot_repr hn (by decide) (by decide) ha
end
end GS
end

section
set_option Elab.async false
set_option linter.all false
set_option maxRecDepth 100000
set_option maxHeartbeats 2000000
namespace GS
open PySem PySem.Spec PyProof.Rows L2

/-! ## zip of three rows, each a list or a tuple -/
/-- b: a tuple -/
def SqK (b : Bool) (K : PySem.W.Frag) (H : Hp) (a : Addr) (xs : List V) : Prop := if b = true then SqT K H a xs else SqL K H a xs
def ItrAt (b : Bool) (h : Heap) (it a : Addr) (i : Nat) : Prop := if b = true then h.IsTupleIter it a i else h.IsListIter it a i
def RowAt (b : Bool) (h : Heap) (a : Addr) (its : Array Value) : Prop := if b = true then h.IsTuple a its else h.IsList a its
section
variable {prog : Program} {w : World} {A : Around}
theorem draws_row (b : Bool) (hh : A.handled = none) (it t : Addr) (hne : t ≠ it) (items : Array Value) : Draws prog w A it [it, t] items.size (fun i v => items[i]? = some v) (fun i h => ItrAt b h it t i ∧ RowAt b h t items) := by
  cases b with
  | true => exact Draws.tuple hh it t hne items
  | false => exact Draws.list hh it t hne items
theorem ItrAt.keep {b : Bool} {h h' : Heap} {it a : Addr} {i : Nat} (x : ItrAt b h it a i) (k : ∀ o, h.get? it = some o → h'.get? it = some o) : ItrAt b h' it a i := by
  cases b with
  | true => exact (show h.IsTupleIter it a i from x).at k
  | false => exact (show h.IsListIter it a i from x).at k
theorem ItrAt.obj {b : Bool} {h : Heap} {it a : Addr} {i : Nat} (x : ItrAt b h it a i) : ∃ o, h.get? it = some o ∧ ∀ v, o.data ≠ .cell v := by
  cases b with
  | true =>
    obtain ⟨o, e, _, d⟩ := (show h.IsTupleIter it a i from x)
    exact ⟨o, e, fun v z => by rw [d] at z; cases z⟩
  | false =>
    obtain ⟨o, e, _, d⟩ := (show h.IsListIter it a i from x)
    exact ⟨o, e, fun v z => by rw [d] at z; cases z⟩
end
section
variable {X : Cx} {pins : List (Addr × Obj)} {σ : L2.St} {H : Hp} {s : Shared}
theorem row_at (b : Bool) {a : Addr} {xs : List V} (I : Inv X pins σ H s) (h : SqK b X.K H a xs) : ∃ its : List Value, Vals xs its ∧ RowAt b s.heap a its.toArray ∧ xs.length ≤ sizeLine ∧ a < s.heap.objs.size := by
  cases b with
  | true =>
    obtain ⟨its, r, p, hz⟩ := I.tuple h
    obtain ⟨o, ho, _⟩ := id p
    exact ⟨its, r, p, hz, Heap.lt_size ho⟩
  | false =>
    obtain ⟨its, r, p, hz⟩ := I.list h
    exact ⟨its, r, p.isList, hz, p.lt⟩
theorem row_inj (b : Bool) {a : Addr} {xs ys : List V} (I : Inv X pins σ H s) (h : SqK b X.K H a xs) (h' : SqK b X.K H a ys) : xs = ys := by
  cases b with
  | true => exact I.tuple_inj h h'
  | false => exact I.list_inj h h'
end
def Itz3 (K : PySem.W.Frag) (b1 b2 b3 : Bool) (a1 a2 a3 : Addr) : It :=
  ⟨fun i H => ∃ (xs ys zs : List V) (x y z : V), SqK b1 K H a1 xs ∧ SqK b2 K H a2 ys ∧ SqK b3 K H a3 zs ∧ xs[i]? = some x ∧ ys[i]? = some y ∧ zs[i]? = some z,
    fun i H v H' => ∃ T x y z, v = .ref T ∧ H T = none ∧ H' = upd H T (.tup [x, y, z]) ∧ (∀ xs, SqK b1 K H a1 xs → xs[i]? = some x) ∧ (∀ ys, SqK b2 K H a2 ys → ys[i]? = some y) ∧ ∀ zs, SqK b3 K H a3 zs → zs[i]? = some z,
    fun i H => ∃ xs ys zs : List V, SqK b1 K H a1 xs ∧ SqK b2 K H a2 ys ∧ SqK b3 K H a3 zs ∧ i = min (min xs.length ys.length) zs.length⟩
def Tn3 (b1 b2 b3 : Bool) (a1 a2 a3 z TI TO i1 i2 i3 : Addr) (i : Nat) (h : Heap) : Prop := IsZip h z TI TO .none ∧ IsTupOf3 h TI (.ref i1) (.ref i2) (.ref i3) ∧ (∃ x y u, IsTupOf3 h TO x y u) ∧ ItrAt b1 h i1 a1 i ∧ ItrAt b2 h i2 a2 i ∧ ItrAt b3 h i3 a3 i
theorem turn_zip3 {P : Program} {w : World} {K : PySem.W.Frag} {elts : List Expr} {kq : Nat} {tpos : Pos} {b1 b2 b3 : Bool} {a1 a2 a3 z TI TO i1 i2 i3 : Addr} (D : ZipSep3 z TI TO i1 i2 i3 [i1, a1] [i2, a2] [i3, a3]) (n1 : a1 ≠ i1) (n2 : a2 ≠ i2) (n3 : a3 ≠ i3) :
    Turn P w K (.Tuple elts kq tpos) (Itz3 K b1 b2 b3 a1 a2 a3) [z, TI, TO, i1, i2, i3] z (Tn3 b1 b2 b3 a1 a2 a3 z TI TO i1 i2 i3) where
  mem := by simp
  obj := fun i h st c hc => by
    obtain ⟨hz, hTI, ⟨x, y, u, hTO⟩, h1, h2, h3⟩ := st
    simp only [List.mem_cons, List.not_mem_nil, or_false] at hc
    rcases hc with rfl | rfl | rfl | rfl | rfl | rfl
    · exact ⟨_, hz, fun v q => nomatch q⟩
    · exact ⟨_, hTI, fun v q => nomatch q⟩
    · exact ⟨_, hTO, fun v q => nomatch q⟩
    · exact h1.obj
    · exact h2.obj
    · exact h3.obj
  keep := fun i h h' st k => by
    obtain ⟨hz, hTI, ⟨x, y, u, hTO⟩, h1, h2, h3⟩ := st
    exact ⟨k z (by simp) _ hz, k TI (by simp) _ hTI, ⟨x, y, u, k TO (by simp) _ hTO⟩, h1.keep fun o q => k i1 (by simp) o q, h2.keep fun o q => k i2 (by simp) o q, h3.keep fun o q => k i3 (by simp) o q⟩
  item := by
    intro X hP hw hK hc i pins s σ H E I hf st hg
    subst hP hw hK
    obtain ⟨hz, hTI, hTO, h1, h2, h3⟩ := st
    obtain ⟨xs, ys, zs, x, y, u, q1, q2, q3, e1, e2, e3⟩ := hg
    obtain ⟨is1, r1, p1, _⟩ := row_at b1 I q1
    obtain ⟨is2, r2, p2, _⟩ := row_at b2 I q2
    obtain ⟨is3, r3, p3, _⟩ := row_at b3 I q3
    obtain ⟨v1, f1, g1⟩ := r1.get e1
    obtain ⟨v2, f2, g2⟩ := r2.get e2
    obtain ⟨v3, f3, g3⟩ := r3.get e3
    have hh : X.A.in1.handled = none := I.ok.hd hc
    have W := WalksT.zipD3 (prog := X.prog) (w := X.w) (A := X.A) D (draws_row b1 hh i1 a1 n1 is1.toArray) (draws_row b2 hh i2 a2 n2 is2.toArray) (draws_row b3 hh i3 a3 n3 is3.toArray)
    have l1 := (List.getElem?_eq_some_iff.mp f1).1
    have l2 := (List.getElem?_eq_some_iff.mp f2).1
    have l3 := (List.getElem?_eq_some_iff.mp f3).1
    refine W.item i s _ E (by simp only [List.size_toArray]; omega) ⟨hz, hTI, hTO, ⟨h1, p1⟩, ⟨h2, p2⟩, ⟨h3, p3⟩⟩ fun T vals h' tk hP hle hT hM hk => ?_
    obtain ⟨w1, w2, w3, d1, d2, d3, rfl⟩ := hP
    have d1 : is1.toArray[i]? = some w1 := d1
    have d2 : is2.toArray[i]? = some w2 := d2
    have d3 : is3.toArray[i]? = some w3 := d3
    rw [List.getElem?_toArray, f1] at d1
    rw [List.getElem?_toArray, f2] at d2
    rw [List.getElem?_toArray, f3] at d3
    cases d1; cases d2; cases d3
    have hnT := W.apart i T h' hM
    refine ⟨_, rfl, W.go elts kq tpos i T { s with heap := h', toks := tk } _ E hM fun h'' st' hk' => ?_⟩
    obtain ⟨z1, z2, z3, z4, z5, z6⟩ := st'
    obtain ⟨oT, hoT, hcT, nT, hdT⟩ := hT
    have new : ObjOk X.prog X.w (upd H T (.tup [x, y, u])) h'' T (.tup [x, y, u]) := ⟨by show 3 ≤ sizeLine; decide, [v1, v2, v3], .cons g1 (.cons g2 (.cons g3 .nil)), oT, hk' _ _ hnT hoT, hcT, nT, hdT⟩
    have wr : ∀ c, c ∉ [z, TI, TO, i1, i2, i3] → c ∉ [z, TO, i1, i2, i3] := fun c hc hm => hc (by
      simp only [List.mem_cons, List.not_mem_nil, or_false] at hm ⊢
      rcases hm with q | q | q | q | q
      · exact .inl q
      · exact .inr (.inr (.inl q))
      · exact .inr (.inr (.inr (.inl q)))
      · exact .inr (.inr (.inr (.inr (.inl q))))
      · exact .inr (.inr (.inr (.inr (.inr q)))))
    have I1 : Inv X pins σ (upd H T (.tup [x, y, u])) { s with heap := h'', toks := tk } := I.turnedNew (t' := tk) (ch := [z, TI, TO, i1, i2, i3]) (fun c o hb q => hk' c o (wr c hb) (hk c o (wr c hb) q)) hf hle new
    refine ⟨.ref T, _, I1, rfl, ⟨T, x, y, u, rfl, I.hok.fresh hle, rfl, fun l hl => by rw [row_inj b1 I hl q1]; exact e1, fun l hl => by rw [row_inj b2 I hl q2]; exact e2, fun l hl => by rw [row_inj b3 I hl q3]; exact e3⟩, ⟨z1, z2, z3, z4.1, z5.1, z6.1⟩, fun c hcm => ?_⟩
    have hlt : c < s.heap.objs.size := by
      have e' := hcm
      simp only [List.mem_cons, List.not_mem_nil, or_false] at e'
      obtain ⟨x0, y0, u0, hTO⟩ := hTO
      rcases e' with rfl | rfl | rfl | rfl | rfl | rfl
      · exact Heap.lt_size hz
      · exact Heap.lt_size hTI
      · exact Heap.lt_size hTO
      · obtain ⟨o, e, _⟩ := h1.obj; exact Heap.lt_size e
      · obtain ⟨o, e, _⟩ := h2.obj; exact Heap.lt_size e
      · obtain ⟨o, e, _⟩ := h3.obj; exact Heap.lt_size e
    rw [upd_ne (Nat.ne_of_lt (Nat.lt_of_lt_of_le hlt hle))]
    exact (hf c hcm).1
  done := by
    intro X hP hw hK hc i pins s σ H E I hf st hg
    subst hP hw hK
    obtain ⟨hz, hTI, hTO, h1, h2, h3⟩ := st
    obtain ⟨xs, ys, zs, q1, q2, q3, rfl⟩ := hg
    obtain ⟨is1, r1, p1, _⟩ := row_at b1 I q1
    obtain ⟨is2, r2, p2, _⟩ := row_at b2 I q2
    obtain ⟨is3, r3, p3, _⟩ := row_at b3 I q3
    have hh : X.A.in1.handled = none := I.ok.hd hc
    have W := WalksT.zipD3 (prog := X.prog) (w := X.w) (A := X.A) D (draws_row b1 hh i1 a1 n1 is1.toArray) (draws_row b2 hh i2 a2 n2 is2.toArray) (draws_row b3 hh i3 a3 n3 is3.toArray)
    refine W.done s _ E ?_ fun h' tk hk => ⟨rfl, I.turnedL (t' := tk) (ch := [z, TO, i1, i2, i3]) hk fun c hcm => hf c ?_⟩
    · simp only [List.size_toArray, ← r1.length, ← r2.length, ← r3.length]
      exact ⟨hz, hTI, hTO, ⟨h1, p1⟩, ⟨h2, p2⟩, ⟨h3, p3⟩⟩
    · simp only [List.mem_cons, List.not_mem_nil, or_false] at hcm ⊢
      rcases hcm with q | q | q | q | q
      · exact .inl q
      · exact .inr (.inr (.inl q))
      · exact .inr (.inr (.inr (.inl q)))
      · exact .inr (.inr (.inr (.inr (.inl q))))
      · exact .inr (.inr (.inr (.inr (.inr q))))
  self := fun A i s Q E st h => wpAny_pyIter_zip st.1 h
theorem begins_row (b : Bool) (a : Addr) (items : Array Value) : ∃ o, PySem.Begins (.ref a) o (fun h => RowAt b h a items) ∧ ∀ h it, h.get? it = some o → ItrAt b h it a 0 := by
  cases b with
  | true => exact ⟨_, PySem.begins_tuple a items, fun h it e => ⟨_, e, rfl, rfl⟩⟩
  | false => exact ⟨_, PySem.begins_list a items, fun h it e => ⟨_, e, rfl, rfl⟩⟩
theorem nm2 {x a b : Addr} (h : x ≠ a) (h2 : x ≠ b) : x ∉ [a, b] := fun z => by
  rcases List.mem_cons.mp z with z | z
  · exact h z
  · exact h2 (List.mem_singleton.mp z)
theorem nn {a b : Nat} (h : a ≠ b) : (show Addr from a) ≠ (show Addr from b) := h
theorem sep3 (n a1 a2 a3 : Nat) (l1 : a1 < n) (l2 : a2 < n) (l3 : a3 < n) : PySem.ZipSep3 (n + 5) (n + 3) (n + 4) n (n + 1) (n + 2) [n, a1] [n + 1, a2] [n + 2, a3] where
  TIz := nn (a := n + 3) (b := n + 5) (by omega)
  TOz := nn (a := n + 4) (b := n + 5) (by omega)
  TITO := nn (a := n + 3) (b := n + 4) (by omega)
  TIi1 := nn (a := n + 3) (b := n) (by omega)
  mem1 := List.mem_cons_self
  zf1 := nm2 (nn (a := n + 5) (b := n) (by omega)) (nn (a := n + 5) (b := a1) (by omega))
  Tf1 := nm2 (nn (a := n + 4) (b := n) (by omega)) (nn (a := n + 4) (b := a1) (by omega))
  TIi2 := nn (a := n + 3) (b := n + 1) (by omega)
  mem2 := List.mem_cons_self
  zf2 := nm2 (nn (a := n + 5) (b := n + 1) (by omega)) (nn (a := n + 5) (b := a2) (by omega))
  Tf2 := nm2 (nn (a := n + 4) (b := n + 1) (by omega)) (nn (a := n + 4) (b := a2) (by omega))
  TIi3 := nn (a := n + 3) (b := n + 2) (by omega)
  mem3 := List.mem_cons_self
  zf3 := nm2 (nn (a := n + 5) (b := n + 2) (by omega)) (nn (a := n + 5) (b := a3) (by omega))
  Tf3 := nm2 (nn (a := n + 4) (b := n + 2) (by omega)) (nn (a := n + 4) (b := a3) (by omega))
  sep1_2 := nm2 (nn (a := n) (b := n + 1) (by omega)) (nn (a := n) (b := a2) (by omega))
  sep1_3 := nm2 (nn (a := n) (b := n + 2) (by omega)) (nn (a := n) (b := a3) (by omega))
  sep2_1 := nm2 (nn (a := n + 1) (b := n) (by omega)) (nn (a := n + 1) (b := a1) (by omega))
  sep2_3 := nm2 (nn (a := n + 1) (b := n + 2) (by omega)) (nn (a := n + 1) (b := a3) (by omega))
  sep3_1 := nm2 (nn (a := n + 2) (b := n) (by omega)) (nn (a := n + 2) (b := a1) (by omega))
  sep3_2 := nm2 (nn (a := n + 2) (b := n + 1) (by omega)) (nn (a := n + 2) (b := a2) (by omega))
theorem ne3 (n a : Nat) (l : a < n) : (show Addr from a) ≠ n ∧ (show Addr from a) ≠ n + 1 ∧ (show Addr from a) ≠ n + 2 := ⟨nn (b := n) (by omega), nn (b := n + 1) (by omega), nn (b := n + 2) (by omega)⟩
theorem ge3 (n c : Nat) (h : c ∈ [n + 5, n + 3, n + 4, n, n + 1, n + 2]) : n ≤ c := by
  simp only [List.mem_cons, List.not_mem_nil, or_false] at h
  rcases h with rfl | rfl | rfl | rfl | rfl | rfl
  · exact Nat.le_add_right n 5
  · exact Nat.le_add_right n 3
  · exact Nat.le_add_right n 4
  · exact Nat.le_refl _
  · exact Nat.le_add_right n 1
  · exact Nat.le_add_right n 2
def trD (x y z : D) : D := .tuple [x, y, z]
def rowB : D → Option (Bool × List D)
  | .list ds => some (false, ds)
  | .tuple ds => some (true, ds)
  | _ => none
def zip3D : List D → List D → List D → List D
  | x :: xs, y :: ys, z :: zs => trD x y z :: zip3D xs ys zs
  | _, _, _ => []
theorem zip3_length : ∀ (xs ys zs : List D), (zip3D xs ys zs).length = min (min xs.length ys.length) zs.length
  | x :: xs, y :: ys, z :: zs => by
    simp only [zip3D, List.length_cons, zip3_length xs ys zs]
    omega
  | [], _, _ => by simp [zip3D]
  | _ :: _, [], _ => by simp [zip3D]
  | _ :: _, _ :: _, [] => by simp [zip3D]
theorem zip3_get : ∀ {xs ys zs : List D} {i : Nat} {d : D}, (zip3D xs ys zs)[i]? = some d → ∃ x y z, xs[i]? = some x ∧ ys[i]? = some y ∧ zs[i]? = some z ∧ d = trD x y z
  | x :: xs, y :: ys, z :: zs, 0, d, h => by
    simp [zip3D] at h
    exact ⟨x, y, z, rfl, rfl, rfl, h.symm⟩
  | x :: xs, y :: ys, z :: zs, i + 1, d, h => by
    simp only [zip3D, List.getElem?_cons_succ] at h ⊢
    exact zip3_get h
  | [], _, _, i, d, h => by simp [zip3D] at h
  | _ :: _, [], _, i, d, h => by simp [zip3D] at h
  | _ :: _, _ :: _, [], i, d, h => by simp [zip3D] at h
def zip3W (ds : List D) (W : List D → Prop) : Prop := ∃ x y z b1 b2 b3 xs ys zs, ds = [x, y, z] ∧ rowB x = some (b1, xs) ∧ rowB y = some (b2, ys) ∧ rowB z = some (b3, zs) ∧ W (zip3D xs ys zs)
def wiZip3 (wv : WV) : WI := fun Γ W => wv Γ fun ds Γ1 => zip3W ds fun zs => W zs Γ1
theorem row_rp {K : KW} {F : Hp} {v : V} {d : D} {b : Bool} {ds : List D} (r : Rp K F v d) (h : rowB d = some (b, ds)) : ∃ a vs, v = .ref a ∧ (∀ G H, Le F G → Sub G H → SqK b K.k H a vs) ∧ RpAll K F vs ds := by
  cases r with
  | lst h1 r1 =>
    cases h
    exact ⟨_, _, rfl, fun G H l s => RdL.sql (RdL.mono s.le (RdL.mono l h1)), r1⟩
  | tup h1 r1 =>
    cases h
    exact ⟨_, _, rfl, fun G H l s => SqT.mono s.le (SqT.mono l h1), r1⟩
  | non => cases h
  | bl b => cases h
  | int i => cases h
  | str x => cases h
section
variable {X : Cx} {C : DC} {e e2 e3 : Expr} {wv : WV} {pos p tpos : Pos} {elts : List Expr} {kq : Nat}
theorem i_zip3 (hK : kwOf X = C.K) (hg : Gl X "zip") (hm : X.mg "zip" = none) (hn : noStar e = true) (hn2 : noStar e2 = true) (hn3 : noStar e3 = true) (ha : PA X [e, e2, e3] (tDV C wv)) : PI X (.Tuple elts kq tpos) (.Call (.Name "zip" p) [e, e2, e3] [] pos) (tDI C (wiZip3 wv)) := by
  refine ⟨fun pins s σ H R I h => ?_⟩
  obtain ⟨F, Γ, W, ok, hw, hq⟩ := h
  refine Call_ (ld_blt I hg hm PyProof.Rows.boot_zip (PyProof.Rows.callWith_type1 (thn (ha.run pos pins s σ H (fun vs H1 => ∃ F1 Γ1 ds, zip3W ds (fun zs => W zs Γ1) ∧ EnvOk C F1 H1 σ Γ1 ∧ Stp σ F H Γ F1 H1 Γ1 ∧ RpAll C.K F1 vs ds) I ⟨F, Γ, _, ok, hw, fun ds Γ1 vs H1 F1 h1 ok1 st1 r1 => ⟨F1, Γ1, ds, h1, ok1, st1, r1⟩⟩) fun us s1 ⟨vs, H1, I1, r1, q1⟩ => ?_) (star1 hn) (by rw [star1 hn2, star1 hn3]; rfl)))
  obtain ⟨F1, Γ1, ds, ⟨x, y, z, b1, b2, b3, xs, ys, zs, rfl, hx, hy, hz, hW⟩, ok1, st1, rd⟩ := q1
  cases rd with
  | cons rx rd =>
  cases rd with
  | cons ry rd =>
  cases rd with
  | cons rz rd =>
  cases rd
  obtain ⟨a1, vs1, rfl, k1, rx⟩ := row_rp rx hx
  obtain ⟨a2, vs2, rfl, k2, ry⟩ := row_rp ry hy
  obtain ⟨a3, vs3, rfl, k3, rz⟩ := row_rp rz hz
  cases r1 with
  | cons t1 t =>
  cases t with
  | cons t2 t =>
  cases t with
  | cons t3 t =>
  cases t
  cases t1; cases t2; cases t3
  have q1 := k1 F1 H1 (Le.refl F1) ok1.sub
  have q2 := k2 F1 H1 (Le.refl F1) ok1.sub
  have q3 := k3 F1 H1 (Le.refl F1) ok1.sub
  have hKk := kk hK
  obtain ⟨is1, v1, p1, z1, l1⟩ := row_at b1 I1 (by rw [hKk]; exact q1)
  obtain ⟨is2, v2, p2, z2, l2⟩ := row_at b2 I1 (by rw [hKk]; exact q2)
  obtain ⟨is3, v3, p3, z3, l3⟩ := row_at b3 I1 (by rw [hKk]; exact q3)
  obtain ⟨o1, B1, g1⟩ := begins_row b1 a1 is1.toArray
  obtain ⟨o2, B2, g2⟩ := begins_row b2 a2 is2.toArray
  obtain ⟨o3, B3, g3⟩ := begins_row b3 a3 is3.toArray
  refine PySem.zip_begins3 B1 B2 B3 p1 p2 p3 fun h' hz' hTI hTO e1 e2 e3 hsz hk => wpAny_pyIter_zip hz' ?_
  have I2 : Inv X pins σ H1 { s1 with heap := h' } := I1.kept (t' := s1.toks) hk
  refine ⟨s1.heap.objs.size + 5, [s1.heap.objs.size + 5, s1.heap.objs.size + 3, s1.heap.objs.size + 4, s1.heap.objs.size, s1.heap.objs.size + 1, s1.heap.objs.size + 2], _, _, H1, rfl, I2, turn_zip3 (b1 := b1) (b2 := b2) (b3 := b3) (a1 := a1) (a2 := a2) (a3 := a3) (sep3 _ _ _ _ l1 l2 l3) (ne3 _ _ l1).1 (ne3 _ _ l2).2.1 (ne3 _ _ l3).2.2, ⟨hz', hTI, ⟨_, _, _, hTO⟩, g1 _ _ e1, g2 _ _ e2, g3 _ _ e3⟩, fun c hcm => ?_, ?_⟩
  · have hle : s1.heap.objs.size ≤ c := ge3 _ _ hcm
    exact I1.fpOk hle (I1.hok.fresh hle)
  · refine hq _ Γ1 _ H1 F1 hW ok1 st1 (fun G H2 l sb i => ⟨fun d hd => ?_, fun hl => ?_⟩) (by rw [zip3_length, ← rx.length]; omega)
    · obtain ⟨x', y', z', f1, f2, f3, rfl⟩ := zip3_get hd
      obtain ⟨w1, m1, n1⟩ := rx.get f1
      obtain ⟨w2, m2, n2⟩ := ry.get f2
      obtain ⟨w3, m3, n3⟩ := rz.get f3
      have s1' := k1 G H2 l sb
      have s2' := k2 G H2 l sb
      have s3' := k3 G H2 l sb
      rw [← hKk] at s1' s2' s3'
      refine ⟨⟨vs1, vs2, vs3, w1, w2, w3, s1', s2', s3', m1, m2, m3⟩, fun q H' yl => ?_⟩
      obtain ⟨T, u1, u2, u3, rfl, hT, rfl, y1, y2, y3⟩ := yl
      have e1 := y1 vs1 s1'
      have e2 := y2 vs2 s2'
      have e3 := y3 vs3 s3'
      rw [m1] at e1; rw [m2] at e2; rw [m3] at e3
      cases e1; cases e2; cases e3
      exact ⟨_, .tup hT (.cons (n1.mono l) (.cons (n2.mono l) (.cons (n3.mono l) .nil)))⟩
    · rw [zip3_length] at hl
      refine ⟨vs1, vs2, vs3, by rw [hKk]; exact k1 G H2 l sb, by rw [hKk]; exact k2 G H2 l sb, by rw [hKk]; exact k3 G H2 l sb, ?_⟩
      rw [rx.length, ry.length, rz.length]; exact hl
end
end GS
end

section
set_option Elab.async false
set_option linter.all false
set_option maxRecDepth 100000
set_option maxHeartbeats 2000000
namespace GS
open PySem PySem.Spec PyProof.Rows L2

/-! ## the law is called -/
theorem law_callC {P : Program} {w : World} {K : PySem.W.Frag} {mg mb : Str → Option Value} {k : Nat} {fa a : Addr} {cs : List (Addr × Addr)} {fd : FuncData} {x : Str} {spec : SpecFn} {s₁ : Shared} {vs : List Value} {ns : List Int}
    (KX : K.In s₁.heap) (hns : s₁.heap.Ns mainGlobals mg) (hb : s₁.heap.Ns builtinsNs mb) (hbb : ∀ x : Str, x ≠ "__name__" → mb x = bootBuiltins x) (hlim : s₁.heap.NoLimit) (hg : s₁.gens = #[])
    (hT : ∀ p ∈ cs, s₁.heap.get? p.2 = some { cls := .none, data := .fields #[] }) (nT : ∀ p ∈ cs, K.lookup p.2 = none) (C : ∀ p ∈ cs, PySem.W.CodeHd s₁.heap p.1 p.2)
    (hbm : ∃ (bm : Addr) (ob : Obj), mg "__builtins__" = some (.ref bm) ∧ bm ≠ builtinsNs ∧ s₁.heap.get? bm = some ob ∧ ob.cls = .type "module" ∧ ob.dict = some builtinsNs ∧ ob.data = .plain)
    (ha : s₁.heap.get? a = some { cls := .type "list", data := .seq vs.toArray }) (hi : IntsAre vs ns) (hl : ns.length ≤ sizeLine) (hr : Room k callerA)
    (F : ∀ base : Heap, K.In base → base.Ns mainGlobals mg → (∀ p ∈ cs, GxR.TabB base mg p.1 p.2) → FnC P w K mg base k fa fd [x] (spD ⟨K, w⟩ (cs.map (·.2)) spec)) (hbind : ∀ (s : Shared) (u : Value), BindsTo s fd ⟨[u], []⟩ [(x, u)])
    (hsp : spec [.val (.list (ns.map PyData.int))] fun r _ => r = .val (.bool true)) :
    codeAny (model P w) callerA (.call (.ref fa) ⟨[.ref a], []⟩) (fun r s' => r = .ok (.ret (.bool true)) ∧ OldK s₁.heap s'.heap ∧ s'.os = s₁.os ∧ AllBare s'.gens) s₁ := by
  have rv := vals_ints hi
  have tabAt : ∀ b ∈ cs.map (·.2), s₁.heap.get? b = some { cls := .none, data := .fields #[] } ∧ K.lookup b = none := fun b hb => by
    obtain ⟨p, hp, rfl⟩ := List.mem_map.mp hb
    exact ⟨hT p hp, nT p hp⟩
  have aT : a ∉ cs.map (·.2) := fun z => by
    have q := (tabAt a z).1
    rw [ha] at q
    cases q
  -- what is tracked: the script (if it is none of the module's own), the tables
  let scr : HO := .frz { cls := .type "list", data := .seq vs.toArray } (.lst (ns.map V.int))
  let H : Hp := fun b => if b = a ∧ K.lookup a = none then some scr else if b ∈ cs.map (·.2) then some (.tbl #[]) else none
  have H_tb : ∀ b ∈ cs.map (·.2), H b = some (.tbl #[]) := fun b hb => by
    have : ¬ (b = a ∧ K.lookup a = none) := fun z => aT (by rw [← z.1]; exact hb)
    show (if _ then _ else _) = _
    rw [if_neg this, if_pos hb]
  have H_cases : ∀ b, H b = none ∨ (b ∈ cs.map (·.2) ∧ H b = some (.tbl #[])) ∨ (b = a ∧ K.lookup a = none ∧ H b = some scr) := fun b => by
    by_cases h1 : b = a ∧ K.lookup a = none
    · exact .inr (.inr ⟨h1.1, h1.2, if_pos h1⟩)
    · by_cases h2 : b ∈ cs.map (·.2)
      · exact .inr (.inl ⟨h2, H_tb b h2⟩)
      · refine .inl ?_
        show (if _ then _ else _) = _
        rw [if_neg h1, if_neg h2]
  have scrOk : ObjOk P w H s₁.heap a scr := ⟨ha, by rw [List.length_map]; exact hl, vs, _, rv, ha⟩
  have hok : HOk P w H s₁.heap := fun b u e => by
    rcases H_cases b with z | ⟨z1, z2⟩ | ⟨rfl, _, z2⟩
    · rw [z] at e; cases e
    · rw [z2] at e; cases e
      exact (tabAt b z1).1
    · rw [z2] at e; cases e
      exact scrOk
  have hdata : ∀ b o, s₁.heap.get? b = some o → (∀ xs n, o.data ≠ .seq xs n) → o.data ≠ .fields #[] → H b = none := fun b o e h1 h2 => by
    rcases H_cases b with z | ⟨z1, _⟩ | ⟨rfl, _⟩
    · exact z
    · rw [(tabAt b z1).1] at e; cases e
      exact absurd rfl h2
    · rw [ha] at e; cases e
      exact absurd rfl (h1 _ _)
  have hid : ∀ {b : Addr} {o : Obj}, s₁.heap.get? b = some o → H b = none → (hidT s₁.heap H).get? b = some o := fun e n => hidT_get e n
  have hdict : ∀ {b : Addr} {o : Obj} {es : Array DictEntry} {ep : Nat}, s₁.heap.get? b = some o → o.data = .dict es ep → H b = none := fun {b o es ep} e d =>
    hdata b o e (fun xs n z => by rw [d] at z; cases z) fun z => by rw [d] at z; cases z
  have hnsK : ∀ {b : Addr} {m : Str → Option Value}, s₁.heap.Ns b m → (hidT s₁.heap H).Ns b m := fun {b m} ⟨o, es, ep, e, d, r⟩ => ⟨o, es, ep, hid e (hdict e d), d, r⟩
  have hKb : K.In (hidT s₁.heap H) := fun b o e => hid (KX b o e) (by
    rcases H_cases b with z | ⟨z1, _⟩ | ⟨rfl, z2, _⟩
    · exact z
    · rw [(tabAt b z1).2] at e; cases e
    · rw [z2] at e; cases e)
  have hM : L2.Mod K mg (hidT s₁.heap H) := ⟨hKb, hnsK hns, ⟨mb, hnsK hb, hbb⟩, let ⟨mc, h1, h2⟩ := hlim; ⟨mc, hnsK h1, h2⟩⟩
  have TB : ∀ p ∈ cs, GxR.TabB (hidT s₁.heap H) mg p.1 p.2 := fun p hp => by
    refine ⟨?_, ?_, fun z => ?_⟩
    · obtain ⟨o, us, file, tf, flags, tg, inF, text, tt, e1, r1, r2, r3, r4, r5, r6, r7, r8, hne⟩ := C p hp
      exact ⟨o, us, file, tf, flags, tg, inF, text, tt, hid e1 (hdata _ _ e1 (fun xs n z => by rw [r2] at z; cases z) fun z => by rw [r2] at z; cases z; simp at r3), r1, r2, r3, r4, r5, r6, r7, r8, hne⟩
    · obtain ⟨bm, ob, q1, q2, q3, q4, q5, q6⟩ := hbm
      refine ⟨bm, ob, q1, q2, fun z => ?_, fun z => ?_, hid q3 (hdata _ _ q3 (fun xs n z => by rw [q6] at z; cases z) fun z => by rw [q6] at z; cases z), q4, q5, q6⟩
      · obtain ⟨o, es, ep, e, hd, _⟩ := hns
        rw [z, e] at q3; cases q3
        rw [hd] at q6; cases q6
      · rw [z, hT p hp] at q3; cases q3
        cases q6
    · obtain ⟨o, es, ep, e, hd, _⟩ := hns
      rw [z, hT p hp] at e; cases e
      cases hd
  have e0 : Env0 P w K mg (hidT s₁.heap H) callerA [] s₁ H := ⟨rfl, hM, fun b o e => of_hidT e, Nat.le_of_eq (hidT_size _ _), trivial, (fun b hb => absurd (show b ∈ ([] : List Addr) from hb) (by simp)), hok, .of_eq hg⟩
  -- the script as data
  have hF : ∃ F0 : Hp, Sub F0 H ∧ Rp ⟨K, w⟩ F0 (.ref a) (.list (ns.map PyData.int)) := by
    cases hk : K.lookup a with
    | none =>
      have hscr : H a = some scr := if_pos ⟨rfl, hk⟩
      refine ⟨fun b => if b = a then some scr else none, fun b o e => ?_, .lst (.inl (.inr ⟨_, if_pos rfl⟩)) (RpAll.of_ints ns)⟩
      have e : (if b = a then some scr else none) = some o := e
      split at e
      · rename_i q
        cases e
        subst q
        exact ⟨hscr, fun _ z => nomatch z⟩
      · cases e
    | some o =>
      have e := KX a o hk
      rw [ha] at e
      cases e
      exact ⟨fun _ => none, (fun b o e => by cases e), .lst (.inr ⟨vs, _, hk, by rw [List.length_map]; exact hl, rv⟩) (RpAll.of_ints ns)⟩
  obtain ⟨F0, sub, hscr⟩ := hF
  have hT0 : ∀ p ∈ cs.map (·.2), GxR.TabG H p := fun p hp => ⟨#[], H_tb p hp, trivial⟩
  refine codeAny_mono ((F _ hKb (hnsK hns) TB).run callerA [] s₁ H ⟨[.ref a], []⟩ [.ref a] [.ref a] (fun v _ => v = .bl true) hr rfl e0 (hbind s₁ (.ref a)) (.cons rfl .nil) ⟨F0, _, [], _, sub, hT0, .val hscr .nil, hsp, fun r cs' v H' F' hW _ _ res => ?_⟩) fun r s' h => ?_
  · subst hW
    cases res; rfl
  cases r with
  | error e => exact False.elim h
  | ok fl =>
    cases fl with
    | next => exact False.elim h
    | brk => exact False.elim h
    | cont => exact False.elim h
    | ret u =>
      obtain ⟨v, H', os, bare, un, hok', r', q⟩ := h
      have q : v = .bl true := q
      subst q
      obtain rfl : u = Value.bool true := r'
      have same : ∀ b o, b ∉ cs.map (·.2) → s₁.heap.get? b = some o → s'.heap.get? b = some o := fun b o nb e => by
        rcases H_cases b with z | ⟨z, _⟩ | ⟨rfl, _, z⟩
        · exact un.keep b o e z (by intro z; exact absurd (show b ∈ ([] : List Addr) from z) (by simp)) (by simp)
        · exact absurd z nb
        · have z2 := un.frzs b _ _ z
          obtain ⟨e2, _⟩ := hok' b _ z2
          rw [ha] at e; cases e
          exact e2
      have more : ∀ p ∈ cs, ∃ ms : Array Value, s'.heap.get? p.2 = some { cls := .none, data := .fields ms } := fun p hp => by
        obtain ⟨ms, z⟩ := un.tbls p.2 #[] (H_tb _ (List.mem_map.mpr ⟨p, hp, rfl⟩))
        exact ⟨_, hok' p.2 _ z⟩
      refine ⟨rfl, ⟨fun b o e => ?_, fun b o e => ?_⟩, os, bare⟩
      · by_cases hb : b ∈ cs.map (·.2)
        · obtain ⟨p, hp, rfl⟩ := List.mem_map.mp hb
          obtain ⟨ms, hm⟩ := more p hp
          rw [hT p hp] at e
          cases e
          exact .inr (.inl ⟨((C p hp).tab (hT p hp)).isCodeTable, rfl, #[], ms, rfl, by rw [Array.empty_append]; exact hm⟩)
        · exact .inl (same b o hb e)
      · by_cases hb : b ∈ cs.map (·.2)
        · obtain ⟨p, hp, rfl⟩ := List.mem_map.mp hb
          obtain ⟨ms, hm⟩ := more p hp
          exact ⟨_, hm⟩
        · exact ⟨o, same b o hb e⟩
/-- what is known of the law at the head's heap h -/
def LawAtC (l : PySem.W.OpenLaw) (w : World) (K : PySem.W.Frag) (k n : Nat) (x : Str) (mg : Str → Option Value) (fa : Addr) (h : Heap) : Prop :=
  ∃ (fd : FuncData) (cs : List (Addr × Addr)) (spec : SpecFn), (∀ p ∈ cs, h.get? p.2 = some { cls := .none, data := .fields #[] }) ∧ (∀ p ∈ cs, K.lookup p.2 = none) ∧ (∀ p ∈ cs, PySem.W.CodeHd h p.1 p.2) ∧ (∀ (s : Shared) (u : Value), BindsTo s fd ⟨[u], []⟩ [(x, u)]) ∧
    (∀ ns : List Int, ns.length ≤ n → (∀ z ∈ ns, Builtin.Int.intBits z ≤ 1048576) → spec [.val (.list (ns.map PyData.int))] fun r _ => r = .val (.bool true)) ∧
    ∀ base : Heap, K.In base → base.Ns mainGlobals mg → (∀ p ∈ cs, GxR.TabB base mg p.1 p.2) → FnC l.prog w K mg base k fa fd [x] (spD ⟨K, w⟩ (cs.map (·.2)) spec)
theorem walk_ofC {l : PySem.W.OpenLaw} {n k : Nat} {q : Program} {loose : List Str} {XP : (Str → Option Value) → Heap → Prop} {YP : World → Heap → Prop} {d : DefRec} {x : Str}
    (hn : l.most = some n) (hn2 : n ≤ sizeLine) (hdf : d.params.defaults = []) (hr : Room k callerA)
    (F : ∀ (w : World) (mg : Str → Option Value) (fa : Addr) (h : Heap), YP w h → h.Ns mainGlobals mg → mg d.name = some (.ref fa) → ∃ K : PySem.W.Frag, K.In h ∧ LawAtC l w K k n x mg fa h) :
    PySem.W.WalkO q loose XP YP l.row.toRowW d [] (fun f vs => PySem.call f vs) := by
  refine Att.attach_callB hn hdf fun w s₀ s₁ mg mb fa o pm cd doc a vs ns G Y ho hd hcd hmg hobj hints hlen hbits hg => ?_
  obtain ⟨K, KX, fd, cs, spec, h1, h2, h3, h4, h5, h6⟩ := F w mg fa _ Y G.T.g hmg
  exact law_callC KX G.T.g G.T.b G.T.builtins G.T.nolimit hg h1 h2 h3 G.T.bmain hobj hints (Nat.le_trans hlen hn2) hr h6 h4 (h5 ns hlen hbits)
end GS
end

section
set_option Elab.async false
set_option linter.all false
set_option maxRecDepth 100000
namespace GS
open PySem PySem.Spec PyProof.Rows L2

/-! ## the readings, opened -/
/-- the def of n parameters, m slots, keeps its promise -/
def Pure (n m : Nat) (sp : SpecFn) (w : WS) : Prop := ∀ (args : List GS.Arg) (W : Res → List Ct → Prop), sp args W → args.length = n ∧ w (Γ0 m args) (retK W (lentIx 0 args))
section
variable {Γ : DEnv} {W : Opd → DEnv → Prop} {WB : Bool → DEnv → Prop} {K : DK} {i j n m : Nat} {d : D} {wa wb wc we : WE} {wt ta tb : WT} {Z : D → (Opd → Prop) → Prop} {Y : D → D → (Opd → Prop) → Prop}
@[simp] theorem x_c : wC d Γ W = W (.val d) Γ := rfl
@[simp] theorem x_w2 : w2 wa wb Y Γ W = wa Γ fun oa Γ1 => wb Γ1 fun ob Γ2 => ∃ da db, oa.see Γ2 = some da ∧ ob.see Γ2 = some db ∧ Y da db fun o => W o Γ2 := rfl
@[simp] theorem x_w1 : w1 we Z Γ W = we Γ fun o Γ1 => ∃ d, o.see Γ1 = some d ∧ Z d fun o => W o Γ1 := rfl
@[simp] theorem x_bin {bo : BO} : wBin bo wa wb = w2 wa wb (binW bo) := rfl
@[simp] theorem x_cmp {co : CO} : wCmp co wa wb = w2 wa wb fun x y K => cmpO co x y fun b => K (.val (.bool b)) := rfl
@[simp] theorem x_idx : wIdx wa wb = w2 wa wb ixW := rfl
@[simp] theorem x_tst {WB : Bool → DEnv → Prop} : wTst we Γ WB = we Γ fun o Γ1 => ∃ b, o = .val (.bool b) ∧ WB b Γ1 := rfl
@[simp] theorem x_tru : wtTru we Γ WB = we Γ fun o Γ1 => ∃ d b, o.see Γ1 = some d ∧ truD d = some b ∧ WB b Γ1 := rfl
@[simp] theorem x_tnot : wtNot wt Γ WB = wt Γ fun b Γ1 => WB (!b) Γ1 := rfl
@[simp] theorem x_tand : wtAnd ta tb Γ WB = ta Γ fun b Γ1 => if b = true then tb Γ1 WB else WB false Γ1 := rfl
@[simp] theorem x_tor : wtOr ta tb Γ WB = ta Γ fun b Γ1 => if b = true then WB true Γ1 else tb Γ1 WB := rfl
@[simp] theorem x_tyes : wtYes Γ WB = WB true Γ := rfl
@[simp] theorem x_not : wNot we Γ W = we Γ fun o Γ1 => ∃ b, o = .val (.bool b) ∧ W (.val (.bool !b)) Γ1 := rfl
@[simp] theorem x_and : wAnd wa wb Γ W = wa Γ fun o Γ1 => ∃ b, o = .val (.bool b) ∧ if b = true then wb Γ1 W else W (.val (.bool false)) Γ1 := rfl
@[simp] theorem x_or : wOr wa wb Γ W = wa Γ fun o Γ1 => ∃ b, o = .val (.bool b) ∧ if b = true then W (.val (.bool true)) Γ1 else wb Γ1 W := rfl
@[simp] theorem x_ife : wIfe wt wa wb Γ W = wt Γ fun b Γ1 => if b = true then wa Γ1 W else wb Γ1 W := rfl
@[simp] theorem x_chn {o1 o2 : CO} : wChn o1 o2 wa wb wc Γ W = wa Γ fun oa Γ1 => wb Γ1 fun ob Γ2 => ∃ da db, oa.see Γ2 = some da ∧ ob.see Γ2 = some db ∧ cmpO o1 da db fun k =>
  if k = true then wc Γ2 fun oc Γ3 => ∃ db dc, ob.see Γ3 = some db ∧ oc.see Γ3 = some dc ∧ cmpO o2 db dc fun k => W (.val (.bool k)) Γ3 else W (.val (.bool false)) Γ2 := rfl
variable {ws : WV} {WD : List D → DEnv → Prop} {wr : WR} {wp : WP} {WR' : List Res → DEnv → Prop}
@[simp] theorem x_vnil : wvNil Γ WD = WD [] Γ := rfl
@[simp] theorem x_vcons : wvCons we ws Γ WD = we Γ fun o Γ1 => o.frz Γ1 fun d Γ2 => ws Γ2 fun ds Γ3 => WD (d :: ds) Γ3 := rfl
@[simp] theorem x_tup : wTup ws Γ W = ws Γ fun ds Γ1 => ds.length ≤ sizeLine ∧ W (.val (.tuple ds)) Γ1 := rfl
@[simp] theorem x_lst : wLst ws Γ W = ws Γ fun ds Γ1 => ds.length ≤ sizeLine ∧ W (.new (.lst ds)) Γ1 := rfl
@[simp] theorem x_onone {WI' : Option Int → DEnv → Prop} : woNone Γ WI' = WI' none Γ := rfl
@[simp] theorem x_osome {WI' : Option Int → DEnv → Prop} : woSome we Γ WI' = we Γ fun o Γ1 => ∃ i, o = .val (.int i) ∧ WI' (some i) Γ1 := rfl
@[simp] theorem x_slc {lo hi : GS.WO} : wSlc we lo hi Γ W = we Γ fun o Γ1 => lo Γ1 fun l Γ2 => hi Γ2 fun u Γ3 => ∃ d, o.see Γ3 = some d ∧ slcW d l u fun o => W o Γ3 := rfl
@[simp] theorem x_irow : wiRow we Γ WD = we Γ fun o Γ1 => o.frz Γ1 fun d Γ2 => rowW d fun ds => WD ds Γ2 := rfl
@[simp] theorem x_irng1 : wiRng1 we Γ WD = we Γ fun o Γ1 => ∃ d, o = .val d ∧ rngW (.int 0) d fun ds => WD ds Γ1 := rfl
@[simp] theorem x_irng2 : wiRng2 wa wb Γ WD = wa Γ fun oa Γ1 => wb Γ1 fun ob Γ2 => ∃ da db, oa = .val da ∧ ob = .val db ∧ rngW da db fun ds => WD ds Γ2 := rfl
@[simp] theorem x_izip : wiZip ws Γ WD = ws Γ fun ds Γ1 => zipW ds fun zs => WD zs Γ1 := rfl
@[simp] theorem x_izip3 : wiZip3 ws Γ WD = ws Γ fun ds Γ1 => zip3W ds fun zs => WD zs Γ1 := rfl
variable {g : WG} {gs : WGs} {P : DEnv → Prop} {ds : List D} {b c : WS} {it : WI} {vs : List Nat} {ia : Bool} {spec : SpecFn} {js : List Nat}
@[simp] theorem x_gname : wgName i d Γ P = ((i < Γ.length ∧ noRef (Γ.at i) = true) ∧ P (Γ.set i (.val d))) := rfl
@[simp] theorem x_gnil : wgNil ds Γ P = (ds = [] ∧ P Γ) := rfl
@[simp] theorem x_gcons : wgCons g gs (d :: ds) Γ P = g d Γ fun Γ1 => gs ds Γ1 P := rfl
@[simp] theorem x_gcons0 : wgCons g gs [] Γ P = False := rfl
@[simp] theorem x_gtup : wgTup n gs (.tuple ds) Γ P = (ds.length = n ∧ gs ds Γ P) := rfl
@[simp] theorem x_next : wNext Γ K = K.nx Γ := rfl
@[simp] theorem x_brk : wBrk Γ K = K.bk Γ := rfl
@[simp] theorem x_cnt : wCnt Γ K = K.ct Γ := rfl
@[simp] theorem x_never : wNever Γ K = False := rfl
@[simp] theorem x_seq : wSeq b c Γ K = b Γ { K with nx := fun Γ1 => c Γ1 K } := rfl
@[simp] theorem x_if : wIf wt b c Γ K = wt Γ fun k Γ1 => if k = true then b Γ1 K else c Γ1 K := rfl
@[simp] theorem x_ret : wRet we Γ K = we Γ K.rt := rfl
@[simp] theorem x_retN : wRetN Γ K = K.rt (.val .none) Γ := rfl
@[simp] theorem x_drop : wDrop we Γ K = we Γ fun _ Γ1 => K.nx Γ1 := rfl
@[simp] theorem x_set : wSet i we Γ K = we Γ fun o Γ1 => o.sto Γ1 fun s Γ2 => (i < Γ2.length ∧ noRef (Γ2.at i) = true) ∧ K.nx (Γ2.set i s) := rfl
@[simp] theorem x_asg : wAsg g we Γ K = we Γ fun o Γ1 => o.frz Γ1 fun d Γ2 => g d Γ2 K.nx := rfl
@[simp] theorem x_for : wFor it g b Γ K = it Γ fun ds Γ1 => forW g b K ds Γ1 := rfl
@[simp] theorem x_whl : wWhl wt b Γ K = ∃ n, whlW wt b K n Γ := rfl
@[simp] theorem x_lc : wLc it g wt we vs Γ W = it Γ fun ds Γ1 => plainAll vs Γ1 ∧ compW g wt we vs (fun acc Γ' => W (.new (.lst acc)) (rst vs Γ1 Γ')) ds [] (clr vs Γ1) := rfl
@[simp] theorem x_gen : wGen ia it g we vs Γ W = it Γ fun ds Γ1 => plainAll vs Γ1 ∧ genW ia g we vs (fun b Γ' => W (.val (.bool b)) (rst vs Γ1 Γ')) ds (clr vs Γ1) := rfl
@[simp] theorem x_rnil {WO : List AOp → DEnv → Prop} : wrNil Γ WO = WO [] Γ := rfl
@[simp] theorem x_rval {WO : List AOp → DEnv → Prop} : wrVal we wr Γ WO = we Γ fun o Γ1 => o.frz Γ1 fun d Γ2 => wr Γ2 fun os Γ3 => WO (.val d :: os) Γ3 := rfl
@[simp] theorem x_rref {WO : List AOp → DEnv → Prop} : wrRef i wr Γ WO = ((∃ c, (Γ.at i).ct = some c) ∧ wr Γ fun os Γ1 => WO (.ref i :: os) Γ1) := rfl
@[simp] theorem x_call : wCall spec wr Γ W = wr Γ fun os Γ1 => (refIx os).Nodup ∧ ∃ args, toArgs Γ1 os = some args ∧ spec args fun r cs => W r.opd (putCts (refIx os) cs Γ1) := rfl
@[simp] theorem x_callk {pm : List Nat} {wv wk : WV} : wCallK spec pm n m wv wk Γ W = wv Γ fun ds Γ1 => wk Γ1 fun es Γ2 => (ds.length = n ∧ es.length = m) ∧ spec ((perm pm (ds ++ es)).map Arg.val) fun r cs => W r.opd Γ2 := rfl
@[simp] theorem x_app : wApp j we Γ K = ((∃ ds0, (Γ.at j).ct = some (.lst ds0)) ∧ we Γ fun o Γ1 => o.frz Γ1 fun d Γ2 => ∃ ds, (Γ2.at j).ct = some (.lst ds) ∧ ds.length ≤ 16000000 ∧ K.nx (Γ2.set j ((Γ2.at j).put (.lst (ds ++ [d]))))) := rfl
@[simp] theorem x_ext : wExt j we Γ K = ((∃ ds0, (Γ.at j).ct = some (.lst ds0)) ∧ we Γ fun o Γ1 => ∃ xs ds, o.see Γ1 = some (.list xs) ∧ (Γ1.at j).ct = some (.lst ds) ∧ ds.length + xs.length ≤ 16000000 ∧ K.nx (Γ1.set j ((Γ1.at j).put (.lst (ds ++ xs))))) := rfl
@[simp] theorem x_put : wPut j wa we Γ K = we Γ fun o Γ1 => o.frz Γ1 fun d Γ2 => (∃ c0, (Γ2.at j).ct = some c0) ∧ wa Γ2 fun oi Γ3 => oi.frz Γ3 fun di Γ4 => ∃ c, (Γ4.at j).ct = some c ∧ putW c di d fun c' => K.nx (Γ4.set j ((Γ4.at j).put c')) := rfl
@[simp] theorem x_aug {f : Int → Int → Int} : wAug j f we Γ K = ∃ a, Γ.at j = .val (.int a) ∧ we Γ fun o Γ1 => ∃ b, o = .val (.int b) ∧ (j < Γ1.length ∧ noRef (Γ1.at j) = true) ∧ K.nx (Γ1.set j (.val (.int (f a b)))) := rfl
@[simp] theorem x_par : wPar js wp Γ K = wp Γ fun rs Γ1 => storeAll js rs Γ1 K.nx := rfl
@[simp] theorem x_pnil : wpNil Γ WR' = WR' [] Γ := rfl
@[simp] theorem x_pcons : wpCons we wp Γ WR' = we Γ fun o Γ1 => o.half Γ1 fun r Γ2 => wp Γ2 fun rs Γ3 => WR' (r :: rs) Γ3 := rfl
@[simp] theorem x_sto0 : storeAll [] [] Γ P = P Γ := rfl
@[simp] theorem x_sto1 {r : Res} {rs : List Res} : storeAll (j :: js) (r :: rs) Γ P = ((j < Γ.length ∧ noRef (Γ.at j) = true) ∧ storeAll js rs (Γ.set j r.slot) P) := rfl
@[simp] theorem x_dnew : wDnew Γ W = W (.new (.dct [])) Γ := rfl
@[simp] theorem x_get : wGet j wa wb Γ W = ((∃ kvs, (Γ.at j).ct = some (.dct kvs)) ∧ wa Γ fun ok Γ1 => ok.frz Γ1 fun k Γ2 => wb Γ2 fun ov Γ3 => ov.frz Γ3 fun v Γ4 => ∃ kvs, (Γ4.at j).ct = some (.dct kvs) ∧ keyB k = true ∧ W (.val ((lookD kvs k).getD v)) Γ4) := rfl
@[simp] theorem x_sitems : wSItems j Γ W = ∃ kvs, (Γ.at j).ct = some (.dct kvs) ∧ (AlikeAll (kvs.map itemD) ∧ kvs.length ≤ 1000000) ∧ W (.new (.lst (sortedItems kvs))) Γ := rfl
end
section
variable {Γ : DEnv} {Ws : D → DEnv → Prop} {Wr : Res → DEnv → Prop} {Wl : Slot → DEnv → Prop} {d : D} {c : Ct} {i : Nat} {ds : List D}
@[simp] theorem x_see1 : (Opd.val d).see Γ = some d := rfl
@[simp] theorem x_see2 : (Opd.new c).see Γ = some c.toD := rfl
@[simp] theorem x_toD : (Ct.lst ds).toD = .list ds := rfl
@[simp] theorem x_toD2 {kvs : List (D × D)} : (Ct.dct kvs).toD = .dict kvs := rfl
@[simp] theorem x_frz1 : (Opd.val d).frz Γ Ws = Ws d Γ := rfl
@[simp] theorem x_frz2 : (Opd.new (.lst ds)).frz Γ Ws = Ws (.list ds) Γ := rfl
@[simp] theorem x_sto_1 : (Opd.val d).sto Γ Wl = Wl (.val d) Γ := rfl
@[simp] theorem x_sto_2 : (Opd.new c).sto Γ Wl = Wl (.own c) Γ := rfl
@[simp] theorem x_half1 : (Opd.val d).half Γ Wr = Wr (.val d) Γ := rfl
@[simp] theorem x_half2 : (Opd.new c).half Γ Wr = Wr (.new c) Γ := rfl
@[simp] theorem x_slot1 : (Res.val d).slot = .val d := rfl
@[simp] theorem x_slot2 : (Res.new c).slot = .own c := rfl
@[simp] theorem x_opd1 : (Res.val d).opd = .val d := rfl
@[simp] theorem x_opd2 : (Res.new c).opd = .new c := rfl
@[simp] theorem x_put1 {c' : Ct} : (Slot.own c).put c' = .own c' := rfl
@[simp] theorem x_put2 {c' : Ct} : (Slot.ref c).put c' = .ref c' := rfl
@[simp] theorem x_ct1 : (Slot.own c).ct = some c := rfl
@[simp] theorem x_ct2 : (Slot.ref c).ct = some c := rfl
@[simp] theorem x_ct3 : (Slot.val d).ct = none := rfl
@[simp] theorem x_cont1 : (Slot.own c).cont = c := rfl
@[simp] theorem x_cont2 : (Slot.ref c).cont = c := rfl
@[simp] theorem x_nr1 : noRef (.val d) = true := rfl
@[simp] theorem x_nr2 : noRef (.own c) = true := rfl
@[simp] theorem x_nr3 : noRef .non = true := rfl
@[simp] theorem x_pl1 : plain (.val d) = true := rfl
@[simp] theorem x_pl2 : plain .non = true := rfl
@[simp] theorem x_pa0 : plainAll [] Γ = True := by simp [plainAll]
@[simp] theorem x_pa1 {vs : List Nat} : plainAll (i :: vs) Γ = (plain (Γ.at i) = true ∧ plainAll vs Γ) := by simp [plainAll]
@[simp] theorem x_clr0 : clr [] Γ = Γ := rfl
@[simp] theorem x_clr1 {vs : List Nat} : clr (i :: vs) Γ = (clr vs Γ).set i .non := rfl
@[simp] theorem x_rst0 {G : DEnv} : rst [] G Γ = Γ := rfl
@[simp] theorem x_rst1 {G : DEnv} {vs : List Nat} : rst (i :: vs) G Γ = (rst vs G Γ).set i (G.at i) := rfl
@[simp] theorem x_ta0 : toArgs Γ [] = some [] := rfl
@[simp] theorem x_ta1 {os : List AOp} : toArgs Γ (.val d :: os) = (toArgs Γ os).map (.val d :: ·) := rfl
@[simp] theorem x_ta2 {os : List AOp} : toArgs Γ (.ref i :: os) = (match (Γ.at i).ct with
    | some c => (toArgs Γ os).map (.ref c :: ·)
    | none => none) := rfl
@[simp] theorem x_ri0 : refIx [] = [] := rfl
@[simp] theorem x_ri1 {os : List AOp} : refIx (.val d :: os) = refIx os := rfl
@[simp] theorem x_ri2 {os : List AOp} : refIx (.ref i :: os) = i :: refIx os := rfl
@[simp] theorem x_pc0 {cs : List Ct} : putCts [] cs Γ = Γ := rfl
@[simp] theorem x_pc1 {cs : List Ct} {is : List Nat} : putCts (i :: is) (c :: cs) Γ = (putCts is cs Γ).set i ((Γ.at i).put c) := rfl
@[simp] theorem x_li0 {n : Nat} : lentIx n [] = [] := rfl
@[simp] theorem x_li1 {n : Nat} {as : List Arg} : lentIx n (.val d :: as) = lentIx (n + 1) as := rfl
@[simp] theorem x_li2 {n : Nat} {as : List Arg} : lentIx n (.ref c :: as) = n :: lentIx (n + 1) as := rfl
@[simp] theorem x_as1 : (Arg.val d).slot = .val d := rfl
@[simp] theorem x_as2 : (Arg.ref c).slot = .ref c := rfl
variable {W : Res → List Ct → Prop} {js : List Nat}
@[simp] theorem x_rk1 : (retK W js).nx = fun Γ => W (.val .none) (ctsAt js Γ) := rfl
@[simp] theorem x_rk2 : (retK W js).rt = retW W js := rfl
@[simp] theorem x_rw1 : retW W js (.val d) Γ = W (.val d) (ctsAt js Γ) := rfl
@[simp] theorem x_rw2 : retW W js (.new c) Γ = W (.new c) (ctsAt js Γ) := rfl
@[simp] theorem x_ca0 : ctsAt [] Γ = [] := rfl
@[simp] theorem x_ca1 : ctsAt (i :: js) Γ = (Γ.at i).cont :: ctsAt js Γ := rfl
end
section
variable {V : Opd → Prop} {B : Bool → Prop} {x y : D} {i j : Int} {xs ys : List D}
@[simp] theorem y_addI : binW .add (.int i) (.int j) V = V (.val (.int (i + j))) := rfl
@[simp] theorem y_addL : binW .add (.list xs) (.list ys) V = (xs.length + ys.length ≤ sizeLine ∧ V (.new (.lst (xs ++ ys)))) := rfl
@[simp] theorem y_addT : binW .add (.tuple xs) (.tuple ys) V = (xs.length + ys.length ≤ sizeLine ∧ V (.val (.tuple (xs ++ ys)))) := rfl
@[simp] theorem y_sub : binW .sub (.int i) (.int j) V = V (.val (.int (i - j))) := rfl
@[simp] theorem y_mulI : binW .mul (.int i) (.int j) V = (MulOk i j ∧ V (.val (.int (i * j)))) := rfl
@[simp] theorem y_mulL : binW .mul (.list xs) (.int j) V = ((0 ≤ j ∧ j < 2 ^ 62 ∧ xs.length * j.toNat ≤ sizeLine) ∧ V (.new (.lst (List.replicate j.toNat xs).flatten))) := rfl
@[simp] theorem y_mulT : binW .mul (.tuple xs) (.int j) V = ((0 ≤ j ∧ j ≤ 1000 ∧ xs.length ≤ 1000) ∧ V (.val (.tuple (List.replicate j.toNat xs).flatten))) := rfl
@[simp] theorem y_div : binW .fdiv (.int i) (.int j) V = (DivOk i j ∧ V (.val (.int (i.fdiv j)))) := rfl
@[simp] theorem y_mod : binW .mod (.int i) (.int j) V = (j ≠ 0 ∧ V (.val (.int (i.fmod j)))) := rfl
@[simp] theorem y_pow : binW .pow (.int i) (.int j) V = (CPow i j ∧ V (.val (.int (i ^ j.toNat)))) := rfl
@[simp] theorem y_shI : SeqAt.shaped (.int i) = true := by simp [SeqAt.shaped, PyData.canLay0, PyData.depth]
@[simp] theorem y_shB {b : Bool} : SeqAt.shaped (.bool b) = true := by simp [SeqAt.shaped, PyData.canLay0, PyData.depth]
@[simp] theorem y_shS {s : Str} : SeqAt.shaped (.str s) = PyData.strOk s := by simp [SeqAt.shaped, PyData.canLay0, PyData.depth]
@[simp] theorem y_shN : SeqAt.shaped .none = true := by simp [SeqAt.shaped, PyData.canLay0, PyData.depth]
@[simp] theorem y_eqI : PyData.eqv (.int i) (.int j) = decide (i = j) := by rw [PyData.eqv]; exact Bool.eq_iff_iff.mpr (by simp)
@[simp] theorem y_eqS {s t : Str} : PyData.eqv (.str s) (.str t) = decide (s = t) := by rw [PyData.eqv]; exact Bool.eq_iff_iff.mpr (by simp)
@[simp] theorem y_eq : cmpO .eq x y B = ((SeqAt.shaped x = true ∧ SeqAt.shaped y = true) ∧ B (PyData.eqv x y)) := rfl
@[simp] theorem y_ne : cmpO .ne x y B = ((SeqAt.shaped x = true ∧ SeqAt.shaped y = true) ∧ B (!PyData.eqv x y)) := rfl
@[simp] theorem y_le : cmpO .le (.int i) (.int j) B = B (decide (i ≤ j)) := rfl
@[simp] theorem y_gt : cmpO .gt (.int i) (.int j) B = B (decide (j < i)) := rfl
@[simp] theorem y_ge : cmpO .ge (.int i) (.int j) B = B (decide (j ≤ i)) := rfl
@[simp] theorem y_inn : cmpO .inn x y B = hasD x y B := rfl
@[simp] theorem y_notin : cmpO .notin x y B = hasD x y fun b => B (!b) := rfl
theorem y_lt : cmpO .lt x y B = ltW x y B := rfl
@[simp] theorem y_ltI : cmpO .lt (.int i) (.int j) B = B (decide (i < j)) := by
  simp [cmpO, ltW, PySem.W.alike, PyData.depth, PySem.W.dataLt_int]
@[simp] theorem y_inT : hasD x (.tuple ys) B = ((SeqAt.shaped x = true ∧ SeqAt.shaped (.tuple ys) = true) ∧ B (ys.any fun z => PyData.eqv z x)) := rfl
@[simp] theorem y_inL : hasD x (.list ys) B = ((SeqAt.shaped x = true ∧ SeqAt.shaped (.list ys) = true) ∧ B (ys.any fun z => PyData.eqv z x)) := rfl
@[simp] theorem y_inD {kvs : List (D × D)} : hasD x (.dict kvs) B = (keyB x = true ∧ B (lookD kvs x).isSome) := rfl
@[simp] theorem y_ixL : ixW (.list xs) (.int i) V = ∃ d, atI xs i = some d ∧ V (.val d) := rfl
@[simp] theorem y_ixT : ixW (.tuple xs) (.int i) V = ∃ d, atI xs i = some d ∧ V (.val d) := rfl
@[simp] theorem y_ixD {kvs : List (D × D)} : ixW (.dict kvs) x V = ∃ d, keyB x = true ∧ lookD kvs x = some d ∧ V (.val d) := rfl
@[simp] theorem y_slL {lo hi : Option Int} : slcW (.list xs) lo hi V = V (.new (.lst (cutD xs lo hi))) := rfl
@[simp] theorem y_slT {lo hi : Option Int} : slcW (.tuple xs) lo hi V = V (.val (.tuple (cutD xs lo hi))) := rfl
@[simp] theorem y_lenL : lenW (.list xs) V = V (.val (.int xs.length)) := rfl
@[simp] theorem y_lenT : lenW (.tuple xs) V = V (.val (.int xs.length)) := rfl
@[simp] theorem y_abs : absW (.int i) V = V (.val (.int (if i < 0 then -i else i))) := rfl
@[simp] theorem y_int : intW (.int i) V = V (.val (.int i)) := rfl
@[simp] theorem y_min2 : min2W (.int i) (.int j) V = V (.val (.int (min i j))) := rfl
@[simp] theorem y_max2 : max2W (.int i) (.int j) V = V (.val (.int (max i j))) := rfl
@[simp] theorem y_gcd : gcdW (.int i) (.int j) V = V (.val (.int ((Nat.gcd i.natAbs j.natAbs : Nat) : Int))) := rfl
@[simp] theorem y_maxL : maxLW (.list xs) V = ∃ ns : List Int, xs = ns.map .int ∧ 0 < ns.length ∧ ∀ m, m ∈ ns → (∀ y, y ∈ ns → y ≤ m) → V (.val (.int m)) := rfl
@[simp] theorem y_minL : minLW (.list xs) V = ∃ ns : List Int, xs = ns.map .int ∧ 0 < ns.length ∧ ∀ m, m ∈ ns → (∀ y, y ∈ ns → m ≤ y) → V (.val (.int m)) := rfl
@[simp] theorem y_sum : sumW (.list xs) V = ∃ ns : List Int, xs = ns.map .int ∧ V (.val (.int ns.sum)) := rfl
@[simp] theorem y_any : anyW (.list xs) V = ∃ bs : List Bool, xs = bs.map .bool ∧ V (.val (.bool (bs.any id))) := rfl
@[simp] theorem y_all : allW (.list xs) V = ∃ bs : List Bool, xs = bs.map .bool ∧ V (.val (.bool (bs.all id))) := rfl
@[simp] theorem y_tupL : tupW (.list xs) V = V (.val (.tuple xs)) := rfl
@[simp] theorem y_tupT : tupW (.tuple xs) V = V (.val (.tuple xs)) := rfl
@[simp] theorem y_lstL : lstW (.list xs) V = V (.new (.lst xs)) := rfl
@[simp] theorem y_lstT : lstW (.tuple xs) V = V (.new (.lst xs)) := rfl
@[simp] theorem y_sortL : sortW (.list xs) V = (AlikeAll xs ∧ V (.new (.lst (xs.mergeSort (PySem.W.dataLe false id))))) := rfl
@[simp] theorem y_sortD {kvs : List (D × D)} : sortW (.dict kvs) V = ((AlikeAll (kvs.map (·.1)) ∧ kvs.length ≤ 1000000) ∧ V (.new (.lst ((kvs.map (·.1)).mergeSort (PySem.W.dataLe false id))))) := rfl
@[simp] theorem y_neg : negW (.int i) V = V (.val (.int (-i))) := rfl
@[simp] theorem y_isN {b : Bool} : isNW b x V = V (.val (.bool (if b then !isNoneD x else isNoneD x))) := rfl
@[simp] theorem y_none : isNoneD .none = true := rfl
@[simp] theorem y_noneI : isNoneD (.int i) = false := rfl
@[simp] theorem y_truN : truD .none = some false := rfl
@[simp] theorem y_truB {b : Bool} : truD (.bool b) = some b := rfl
@[simp] theorem y_truI : truD (.int i) = some (i != 0) := rfl
@[simp] theorem y_truL : truD (.list xs) = some (!xs.isEmpty) := rfl
@[simp] theorem y_truT : truD (.tuple xs) = some (!xs.isEmpty) := rfl
@[simp] theorem y_rowL {R : List D → Prop} : rowW (.list xs) R = R xs := rfl
@[simp] theorem y_rowT {R : List D → Prop} : rowW (.tuple xs) R = R xs := rfl
@[simp] theorem y_rng {R : List D → Prop} : rngW (.int i) (.int j) R = ((-1000000000000000000 ≤ i ∧ i ≤ 1000000000000000000 ∧ j - i ≤ 16000000 ∧ -1000000000000000000 ≤ j) ∧ R (rngD i (j - i).toNat)) := rfl
@[simp] theorem y_zipL {R : List D → Prop} : zipW [.list xs, .list ys] R = R (List.zipWith pairD xs ys) := rfl
@[simp] theorem y_zipT {R : List D → Prop} : zipW [.tuple xs, .tuple ys] R = R (List.zipWith pairD xs ys) := rfl
@[simp] theorem y_isiI {t : Ty} : isiD t (.int i) V = V (.val (.bool (tyTell t "int"))) := rfl
@[simp] theorem y_isiB {t : Ty} {b : Bool} : isiD t (.bool b) V = V (.val (.bool (tyTell t "bool"))) := rfl
@[simp] theorem y_isiS {t : Ty} {s : Str} : isiD t (.str s) V = V (.val (.bool (tyTell t "str"))) := rfl
@[simp] theorem y_isiN {t : Ty} : isiD t .none V = V (.val (.bool (tyTell t "NoneType"))) := rfl
@[simp] theorem y_isiL {t : Ty} : isiD t (.list xs) V = V (.val (.bool (tyTell t "list"))) := rfl
@[simp] theorem y_isiT {t : Ty} : isiD t (.tuple xs) V = V (.val (.bool (tyTell t "tuple"))) := rfl
@[simp] theorem y_putD {kvs : List (D × D)} {C : Ct → Prop} : putW (.dct kvs) x y C = ((keyB x = true ∧ kvs.length ≤ 1000000) ∧ C (.dct (putD kvs x y))) := rfl
@[simp] theorem y_putL {C : Ct → Prop} : putW (.lst xs) (.int i) y C = ∃ n, ixN xs.length i = some n ∧ C (.lst (xs.set n y)) := by simp [putW]
@[simp] theorem y_tt1 : tyTell .int "int" = true := rfl
@[simp] theorem y_tt2 : tyTell .int "bool" = true := rfl
@[simp] theorem y_tt3 : tyTell .int "str" = false := rfl
@[simp] theorem y_tt4 : tyTell .int "tuple" = false := rfl
@[simp] theorem y_tt5 : tyTell .int "list" = false := rfl
@[simp] theorem y_tt6 : tyTell .int "NoneType" = false := rfl
@[simp] theorem y_tt7 : tyTell .bool "int" = false := rfl
@[simp] theorem y_tt8 : tyTell .bool "bool" = true := rfl
@[simp] theorem y_tt9 : tyTell .tuple "tuple" = true := rfl
@[simp] theorem y_tt10 : tyTell .str "str" = true := rfl
@[simp] theorem y_tt11 : tyTell .tuple "int" = false := rfl
@[simp] theorem y_tt12 : tyTell .list "list" = true := rfl
@[simp] theorem y_tt20 : tyTell .bool "NoneType" = false := rfl
@[simp] theorem y_tt21 : tyTell .bool "str" = false := rfl
@[simp] theorem y_tt22 : tyTell .bool "list" = false := rfl
@[simp] theorem y_tt23 : tyTell .bool "tuple" = false := rfl
@[simp] theorem y_tt24 : tyTell .str "NoneType" = false := rfl
@[simp] theorem y_tt25 : tyTell .str "bool" = false := rfl
@[simp] theorem y_tt26 : tyTell .str "int" = false := rfl
@[simp] theorem y_tt27 : tyTell .str "list" = false := rfl
@[simp] theorem y_tt28 : tyTell .str "tuple" = false := rfl
@[simp] theorem y_tt29 : tyTell .tuple "NoneType" = false := rfl
@[simp] theorem y_tt30 : tyTell .tuple "bool" = false := rfl
@[simp] theorem y_tt31 : tyTell .tuple "str" = false := rfl
@[simp] theorem y_tt32 : tyTell .tuple "list" = false := rfl
@[simp] theorem y_tt33 : tyTell .list "NoneType" = false := rfl
@[simp] theorem y_tt34 : tyTell .list "bool" = false := rfl
@[simp] theorem y_tt35 : tyTell .list "int" = false := rfl
@[simp] theorem y_tt36 : tyTell .list "str" = false := rfl
@[simp] theorem y_tt37 : tyTell .list "tuple" = false := rfl
end

@[simp] theorem x_comp0 {g : WG} {wt : WT} {we : WE} {vs : List Nat} {E : List D → DEnv → Prop} {acc : List D} {Γ : DEnv} : compW g wt we vs E [] acc Γ = E acc Γ := rfl
@[simp] theorem x_comp1 {g : WG} {wt : WT} {we : WE} {vs : List Nat} {E : List D → DEnv → Prop} {acc ds : List D} {d : D} {Γ : DEnv} : compW g wt we vs E (d :: ds) acc Γ = g d Γ fun Γ1 => wt Γ1 fun k Γ2 => if k = true then we Γ2 fun o Γ3 => o.frz Γ3 fun x Γ4 => plainAll vs Γ4 ∧ compW g wt we vs E ds (acc ++ [x]) (clr vs Γ4) else plainAll vs Γ2 ∧ compW g wt we vs E ds acc (clr vs Γ2) := rfl
@[simp] theorem x_for0 {g : WG} {b : WS} {K : DK} {Γ : DEnv} : forW g b K [] Γ = K.nx Γ := rfl
@[simp] theorem x_for1 {g : WG} {b : WS} {K : DK} {d : D} {ds : List D} {Γ : DEnv} : forW g b K (d :: ds) Γ = g d Γ fun Γ1 => b Γ1 { nx := forW g b K ds, ct := forW g b K ds, bk := K.nx, rt := K.rt } := rfl
@[simp] theorem x_gen0 {ia : Bool} {g : WG} {we : WE} {vs : List Nat} {E : Bool → DEnv → Prop} {Γ : DEnv} : genW ia g we vs E [] Γ = E ia Γ := rfl
@[simp] theorem x_gen1 {ia : Bool} {g : WG} {we : WE} {vs : List Nat} {E : Bool → DEnv → Prop} {d : D} {ds : List D} {Γ : DEnv} : genW ia g we vs E (d :: ds) Γ = g d Γ fun Γ1 => we Γ1 fun o Γ2 => ∃ b, o = .val (.bool b) ∧ plainAll vs Γ2 ∧ if b = ia then genW ia g we vs E ds (clr vs Γ2) else E (!ia) (clr vs Γ2) := rfl
/-! ## slots by their places -/
section
variable {Γ : DEnv} {W : Opd → DEnv → Prop} {Ws : D → DEnv → Prop} {Wr : Res → DEnv → Prop} {Wl : Slot → DEnv → Prop} {R : Res → List Ct → Prop} {js : List Nat} {d : D} {c : Ct} {ds : List D} {s0 s1 s2 s3 s4 s5 s6 s7 s8 s9 s10 s11 s12 s13 s14 s15 s16 s17 s18 s19 s20 s21 s22 s23 s24 s25 s26 s27 s28 s29 : Slot}
@[simp] theorem v0a : wVar 0 (.val d :: Γ) W = W (.val d) (.val d :: Γ) := rfl
@[simp] theorem v0b : wVar 0 (.own c :: Γ) W = W (.own 0) (.own c :: Γ) := rfl
@[simp] theorem v0c : wVar 0 (.ref c :: Γ) W = W (.own 0) (.ref c :: Γ) := rfl
@[simp] theorem v0d : (Opd.own 0).see (.own c :: Γ) = some c.toD := rfl
@[simp] theorem v0e : (Opd.own 0).see (.ref c :: Γ) = some c.toD := rfl
@[simp] theorem v0f : (Opd.own 0).frz (.own (.lst ds) :: Γ) Ws = Ws (.list ds) (.val (.list ds) :: Γ) := rfl
@[simp] theorem v0g : (Opd.own 0).half (.own (.lst ds) :: Γ) Wr = Wr (.val (.list ds)) (.val (.list ds) :: Γ) := rfl
@[simp] theorem v0h : (Opd.own 0).sto (.own (.lst ds) :: Γ) Wl = Wl (.val (.list ds)) (.val (.list ds) :: Γ) := rfl
@[simp] theorem v0i : retW R js (.own 0) (.own c :: Γ) = R (.new c) (ctsAt js (.own c :: Γ)) := rfl
@[simp] theorem v0j : DEnv.at (.val d :: Γ) 0 = .val d := rfl
@[simp] theorem v0k : DEnv.at (.own c :: Γ) 0 = .own c := rfl
@[simp] theorem v0l : DEnv.at (.ref c :: Γ) 0 = .ref c := rfl
@[simp] theorem v0m : DEnv.at (.non :: Γ) 0 = .non := rfl
@[simp] theorem v1a : wVar 1 (s0 :: .val d :: Γ) W = W (.val d) (s0 :: .val d :: Γ) := rfl
@[simp] theorem v1b : wVar 1 (s0 :: .own c :: Γ) W = W (.own 1) (s0 :: .own c :: Γ) := rfl
@[simp] theorem v1c : wVar 1 (s0 :: .ref c :: Γ) W = W (.own 1) (s0 :: .ref c :: Γ) := rfl
@[simp] theorem v1d : (Opd.own 1).see (s0 :: .own c :: Γ) = some c.toD := rfl
@[simp] theorem v1e : (Opd.own 1).see (s0 :: .ref c :: Γ) = some c.toD := rfl
@[simp] theorem v1f : (Opd.own 1).frz (s0 :: .own (.lst ds) :: Γ) Ws = Ws (.list ds) (s0 :: .val (.list ds) :: Γ) := rfl
@[simp] theorem v1g : (Opd.own 1).half (s0 :: .own (.lst ds) :: Γ) Wr = Wr (.val (.list ds)) (s0 :: .val (.list ds) :: Γ) := rfl
@[simp] theorem v1h : (Opd.own 1).sto (s0 :: .own (.lst ds) :: Γ) Wl = Wl (.val (.list ds)) (s0 :: .val (.list ds) :: Γ) := rfl
@[simp] theorem v1i : retW R js (.own 1) (s0 :: .own c :: Γ) = R (.new c) (ctsAt js (s0 :: .own c :: Γ)) := rfl
@[simp] theorem v1j : DEnv.at (s0 :: .val d :: Γ) 1 = .val d := rfl
@[simp] theorem v1k : DEnv.at (s0 :: .own c :: Γ) 1 = .own c := rfl
@[simp] theorem v1l : DEnv.at (s0 :: .ref c :: Γ) 1 = .ref c := rfl
@[simp] theorem v1m : DEnv.at (s0 :: .non :: Γ) 1 = .non := rfl
@[simp] theorem v2a : wVar 2 (s0 :: s1 :: .val d :: Γ) W = W (.val d) (s0 :: s1 :: .val d :: Γ) := rfl
@[simp] theorem v2b : wVar 2 (s0 :: s1 :: .own c :: Γ) W = W (.own 2) (s0 :: s1 :: .own c :: Γ) := rfl
@[simp] theorem v2c : wVar 2 (s0 :: s1 :: .ref c :: Γ) W = W (.own 2) (s0 :: s1 :: .ref c :: Γ) := rfl
@[simp] theorem v2d : (Opd.own 2).see (s0 :: s1 :: .own c :: Γ) = some c.toD := rfl
@[simp] theorem v2e : (Opd.own 2).see (s0 :: s1 :: .ref c :: Γ) = some c.toD := rfl
@[simp] theorem v2f : (Opd.own 2).frz (s0 :: s1 :: .own (.lst ds) :: Γ) Ws = Ws (.list ds) (s0 :: s1 :: .val (.list ds) :: Γ) := rfl
@[simp] theorem v2g : (Opd.own 2).half (s0 :: s1 :: .own (.lst ds) :: Γ) Wr = Wr (.val (.list ds)) (s0 :: s1 :: .val (.list ds) :: Γ) := rfl
@[simp] theorem v2h : (Opd.own 2).sto (s0 :: s1 :: .own (.lst ds) :: Γ) Wl = Wl (.val (.list ds)) (s0 :: s1 :: .val (.list ds) :: Γ) := rfl
@[simp] theorem v2i : retW R js (.own 2) (s0 :: s1 :: .own c :: Γ) = R (.new c) (ctsAt js (s0 :: s1 :: .own c :: Γ)) := rfl
@[simp] theorem v2j : DEnv.at (s0 :: s1 :: .val d :: Γ) 2 = .val d := rfl
@[simp] theorem v2k : DEnv.at (s0 :: s1 :: .own c :: Γ) 2 = .own c := rfl
@[simp] theorem v2l : DEnv.at (s0 :: s1 :: .ref c :: Γ) 2 = .ref c := rfl
@[simp] theorem v2m : DEnv.at (s0 :: s1 :: .non :: Γ) 2 = .non := rfl
@[simp] theorem v3a : wVar 3 (s0 :: s1 :: s2 :: .val d :: Γ) W = W (.val d) (s0 :: s1 :: s2 :: .val d :: Γ) := rfl
@[simp] theorem v3b : wVar 3 (s0 :: s1 :: s2 :: .own c :: Γ) W = W (.own 3) (s0 :: s1 :: s2 :: .own c :: Γ) := rfl
@[simp] theorem v3c : wVar 3 (s0 :: s1 :: s2 :: .ref c :: Γ) W = W (.own 3) (s0 :: s1 :: s2 :: .ref c :: Γ) := rfl
@[simp] theorem v3d : (Opd.own 3).see (s0 :: s1 :: s2 :: .own c :: Γ) = some c.toD := rfl
@[simp] theorem v3e : (Opd.own 3).see (s0 :: s1 :: s2 :: .ref c :: Γ) = some c.toD := rfl
@[simp] theorem v3f : (Opd.own 3).frz (s0 :: s1 :: s2 :: .own (.lst ds) :: Γ) Ws = Ws (.list ds) (s0 :: s1 :: s2 :: .val (.list ds) :: Γ) := rfl
@[simp] theorem v3g : (Opd.own 3).half (s0 :: s1 :: s2 :: .own (.lst ds) :: Γ) Wr = Wr (.val (.list ds)) (s0 :: s1 :: s2 :: .val (.list ds) :: Γ) := rfl
@[simp] theorem v3h : (Opd.own 3).sto (s0 :: s1 :: s2 :: .own (.lst ds) :: Γ) Wl = Wl (.val (.list ds)) (s0 :: s1 :: s2 :: .val (.list ds) :: Γ) := rfl
@[simp] theorem v3i : retW R js (.own 3) (s0 :: s1 :: s2 :: .own c :: Γ) = R (.new c) (ctsAt js (s0 :: s1 :: s2 :: .own c :: Γ)) := rfl
@[simp] theorem v3j : DEnv.at (s0 :: s1 :: s2 :: .val d :: Γ) 3 = .val d := rfl
@[simp] theorem v3k : DEnv.at (s0 :: s1 :: s2 :: .own c :: Γ) 3 = .own c := rfl
@[simp] theorem v3l : DEnv.at (s0 :: s1 :: s2 :: .ref c :: Γ) 3 = .ref c := rfl
@[simp] theorem v3m : DEnv.at (s0 :: s1 :: s2 :: .non :: Γ) 3 = .non := rfl
@[simp] theorem v4a : wVar 4 (s0 :: s1 :: s2 :: s3 :: .val d :: Γ) W = W (.val d) (s0 :: s1 :: s2 :: s3 :: .val d :: Γ) := rfl
@[simp] theorem v4b : wVar 4 (s0 :: s1 :: s2 :: s3 :: .own c :: Γ) W = W (.own 4) (s0 :: s1 :: s2 :: s3 :: .own c :: Γ) := rfl
@[simp] theorem v4c : wVar 4 (s0 :: s1 :: s2 :: s3 :: .ref c :: Γ) W = W (.own 4) (s0 :: s1 :: s2 :: s3 :: .ref c :: Γ) := rfl
@[simp] theorem v4d : (Opd.own 4).see (s0 :: s1 :: s2 :: s3 :: .own c :: Γ) = some c.toD := rfl
@[simp] theorem v4e : (Opd.own 4).see (s0 :: s1 :: s2 :: s3 :: .ref c :: Γ) = some c.toD := rfl
@[simp] theorem v4f : (Opd.own 4).frz (s0 :: s1 :: s2 :: s3 :: .own (.lst ds) :: Γ) Ws = Ws (.list ds) (s0 :: s1 :: s2 :: s3 :: .val (.list ds) :: Γ) := rfl
@[simp] theorem v4g : (Opd.own 4).half (s0 :: s1 :: s2 :: s3 :: .own (.lst ds) :: Γ) Wr = Wr (.val (.list ds)) (s0 :: s1 :: s2 :: s3 :: .val (.list ds) :: Γ) := rfl
@[simp] theorem v4h : (Opd.own 4).sto (s0 :: s1 :: s2 :: s3 :: .own (.lst ds) :: Γ) Wl = Wl (.val (.list ds)) (s0 :: s1 :: s2 :: s3 :: .val (.list ds) :: Γ) := rfl
@[simp] theorem v4i : retW R js (.own 4) (s0 :: s1 :: s2 :: s3 :: .own c :: Γ) = R (.new c) (ctsAt js (s0 :: s1 :: s2 :: s3 :: .own c :: Γ)) := rfl
@[simp] theorem v4j : DEnv.at (s0 :: s1 :: s2 :: s3 :: .val d :: Γ) 4 = .val d := rfl
@[simp] theorem v4k : DEnv.at (s0 :: s1 :: s2 :: s3 :: .own c :: Γ) 4 = .own c := rfl
@[simp] theorem v4l : DEnv.at (s0 :: s1 :: s2 :: s3 :: .ref c :: Γ) 4 = .ref c := rfl
@[simp] theorem v4m : DEnv.at (s0 :: s1 :: s2 :: s3 :: .non :: Γ) 4 = .non := rfl
@[simp] theorem v5a : wVar 5 (s0 :: s1 :: s2 :: s3 :: s4 :: .val d :: Γ) W = W (.val d) (s0 :: s1 :: s2 :: s3 :: s4 :: .val d :: Γ) := rfl
@[simp] theorem v5b : wVar 5 (s0 :: s1 :: s2 :: s3 :: s4 :: .own c :: Γ) W = W (.own 5) (s0 :: s1 :: s2 :: s3 :: s4 :: .own c :: Γ) := rfl
@[simp] theorem v5c : wVar 5 (s0 :: s1 :: s2 :: s3 :: s4 :: .ref c :: Γ) W = W (.own 5) (s0 :: s1 :: s2 :: s3 :: s4 :: .ref c :: Γ) := rfl
@[simp] theorem v5d : (Opd.own 5).see (s0 :: s1 :: s2 :: s3 :: s4 :: .own c :: Γ) = some c.toD := rfl
@[simp] theorem v5e : (Opd.own 5).see (s0 :: s1 :: s2 :: s3 :: s4 :: .ref c :: Γ) = some c.toD := rfl
@[simp] theorem v5f : (Opd.own 5).frz (s0 :: s1 :: s2 :: s3 :: s4 :: .own (.lst ds) :: Γ) Ws = Ws (.list ds) (s0 :: s1 :: s2 :: s3 :: s4 :: .val (.list ds) :: Γ) := rfl
@[simp] theorem v5g : (Opd.own 5).half (s0 :: s1 :: s2 :: s3 :: s4 :: .own (.lst ds) :: Γ) Wr = Wr (.val (.list ds)) (s0 :: s1 :: s2 :: s3 :: s4 :: .val (.list ds) :: Γ) := rfl
@[simp] theorem v5h : (Opd.own 5).sto (s0 :: s1 :: s2 :: s3 :: s4 :: .own (.lst ds) :: Γ) Wl = Wl (.val (.list ds)) (s0 :: s1 :: s2 :: s3 :: s4 :: .val (.list ds) :: Γ) := rfl
@[simp] theorem v5i : retW R js (.own 5) (s0 :: s1 :: s2 :: s3 :: s4 :: .own c :: Γ) = R (.new c) (ctsAt js (s0 :: s1 :: s2 :: s3 :: s4 :: .own c :: Γ)) := rfl
@[simp] theorem v5j : DEnv.at (s0 :: s1 :: s2 :: s3 :: s4 :: .val d :: Γ) 5 = .val d := rfl
@[simp] theorem v5k : DEnv.at (s0 :: s1 :: s2 :: s3 :: s4 :: .own c :: Γ) 5 = .own c := rfl
@[simp] theorem v5l : DEnv.at (s0 :: s1 :: s2 :: s3 :: s4 :: .ref c :: Γ) 5 = .ref c := rfl
@[simp] theorem v5m : DEnv.at (s0 :: s1 :: s2 :: s3 :: s4 :: .non :: Γ) 5 = .non := rfl
@[simp] theorem v6a : wVar 6 (s0 :: s1 :: s2 :: s3 :: s4 :: s5 :: .val d :: Γ) W = W (.val d) (s0 :: s1 :: s2 :: s3 :: s4 :: s5 :: .val d :: Γ) := rfl
@[simp] theorem v6b : wVar 6 (s0 :: s1 :: s2 :: s3 :: s4 :: s5 :: .own c :: Γ) W = W (.own 6) (s0 :: s1 :: s2 :: s3 :: s4 :: s5 :: .own c :: Γ) := rfl
@[simp] theorem v6c : wVar 6 (s0 :: s1 :: s2 :: s3 :: s4 :: s5 :: .ref c :: Γ) W = W (.own 6) (s0 :: s1 :: s2 :: s3 :: s4 :: s5 :: .ref c :: Γ) := rfl
@[simp] theorem v6d : (Opd.own 6).see (s0 :: s1 :: s2 :: s3 :: s4 :: s5 :: .own c :: Γ) = some c.toD := rfl
@[simp] theorem v6e : (Opd.own 6).see (s0 :: s1 :: s2 :: s3 :: s4 :: s5 :: .ref c :: Γ) = some c.toD := rfl
@[simp] theorem v6f : (Opd.own 6).frz (s0 :: s1 :: s2 :: s3 :: s4 :: s5 :: .own (.lst ds) :: Γ) Ws = Ws (.list ds) (s0 :: s1 :: s2 :: s3 :: s4 :: s5 :: .val (.list ds) :: Γ) := rfl
@[simp] theorem v6g : (Opd.own 6).half (s0 :: s1 :: s2 :: s3 :: s4 :: s5 :: .own (.lst ds) :: Γ) Wr = Wr (.val (.list ds)) (s0 :: s1 :: s2 :: s3 :: s4 :: s5 :: .val (.list ds) :: Γ) := rfl
@[simp] theorem v6h : (Opd.own 6).sto (s0 :: s1 :: s2 :: s3 :: s4 :: s5 :: .own (.lst ds) :: Γ) Wl = Wl (.val (.list ds)) (s0 :: s1 :: s2 :: s3 :: s4 :: s5 :: .val (.list ds) :: Γ) := rfl
@[simp] theorem v6i : retW R js (.own 6) (s0 :: s1 :: s2 :: s3 :: s4 :: s5 :: .own c :: Γ) = R (.new c) (ctsAt js (s0 :: s1 :: s2 :: s3 :: s4 :: s5 :: .own c :: Γ)) := rfl
@[simp] theorem v6j : DEnv.at (s0 :: s1 :: s2 :: s3 :: s4 :: s5 :: .val d :: Γ) 6 = .val d := rfl
@[simp] theorem v6k : DEnv.at (s0 :: s1 :: s2 :: s3 :: s4 :: s5 :: .own c :: Γ) 6 = .own c := rfl
@[simp] theorem v6l : DEnv.at (s0 :: s1 :: s2 :: s3 :: s4 :: s5 :: .ref c :: Γ) 6 = .ref c := rfl
@[simp] theorem v6m : DEnv.at (s0 :: s1 :: s2 :: s3 :: s4 :: s5 :: .non :: Γ) 6 = .non := rfl
@[simp] theorem v7a : wVar 7 (s0 :: s1 :: s2 :: s3 :: s4 :: s5 :: s6 :: .val d :: Γ) W = W (.val d) (s0 :: s1 :: s2 :: s3 :: s4 :: s5 :: s6 :: .val d :: Γ) := rfl
@[simp] theorem v7b : wVar 7 (s0 :: s1 :: s2 :: s3 :: s4 :: s5 :: s6 :: .own c :: Γ) W = W (.own 7) (s0 :: s1 :: s2 :: s3 :: s4 :: s5 :: s6 :: .own c :: Γ) := rfl
@[simp] theorem v7c : wVar 7 (s0 :: s1 :: s2 :: s3 :: s4 :: s5 :: s6 :: .ref c :: Γ) W = W (.own 7) (s0 :: s1 :: s2 :: s3 :: s4 :: s5 :: s6 :: .ref c :: Γ) := rfl
@[simp] theorem v7d : (Opd.own 7).see (s0 :: s1 :: s2 :: s3 :: s4 :: s5 :: s6 :: .own c :: Γ) = some c.toD := rfl
@[simp] theorem v7e : (Opd.own 7).see (s0 :: s1 :: s2 :: s3 :: s4 :: s5 :: s6 :: .ref c :: Γ) = some c.toD := rfl
@[simp] theorem v7f : (Opd.own 7).frz (s0 :: s1 :: s2 :: s3 :: s4 :: s5 :: s6 :: .own (.lst ds) :: Γ) Ws = Ws (.list ds) (s0 :: s1 :: s2 :: s3 :: s4 :: s5 :: s6 :: .val (.list ds) :: Γ) := rfl
@[simp] theorem v7g : (Opd.own 7).half (s0 :: s1 :: s2 :: s3 :: s4 :: s5 :: s6 :: .own (.lst ds) :: Γ) Wr = Wr (.val (.list ds)) (s0 :: s1 :: s2 :: s3 :: s4 :: s5 :: s6 :: .val (.list ds) :: Γ) := rfl
@[simp] theorem v7h : (Opd.own 7).sto (s0 :: s1 :: s2 :: s3 :: s4 :: s5 :: s6 :: .own (.lst ds) :: Γ) Wl = Wl (.val (.list ds)) (s0 :: s1 :: s2 :: s3 :: s4 :: s5 :: s6 :: .val (.list ds) :: Γ) := rfl
@[simp] theorem v7i : retW R js (.own 7) (s0 :: s1 :: s2 :: s3 :: s4 :: s5 :: s6 :: .own c :: Γ) = R (.new c) (ctsAt js (s0 :: s1 :: s2 :: s3 :: s4 :: s5 :: s6 :: .own c :: Γ)) := rfl
@[simp] theorem v7j : DEnv.at (s0 :: s1 :: s2 :: s3 :: s4 :: s5 :: s6 :: .val d :: Γ) 7 = .val d := rfl
@[simp] theorem v7k : DEnv.at (s0 :: s1 :: s2 :: s3 :: s4 :: s5 :: s6 :: .own c :: Γ) 7 = .own c := rfl
@[simp] theorem v7l : DEnv.at (s0 :: s1 :: s2 :: s3 :: s4 :: s5 :: s6 :: .ref c :: Γ) 7 = .ref c := rfl
@[simp] theorem v7m : DEnv.at (s0 :: s1 :: s2 :: s3 :: s4 :: s5 :: s6 :: .non :: Γ) 7 = .non := rfl
@[simp] theorem v8a : wVar 8 (s0 :: s1 :: s2 :: s3 :: s4 :: s5 :: s6 :: s7 :: .val d :: Γ) W = W (.val d) (s0 :: s1 :: s2 :: s3 :: s4 :: s5 :: s6 :: s7 :: .val d :: Γ) := rfl
@[simp] theorem v8b : wVar 8 (s0 :: s1 :: s2 :: s3 :: s4 :: s5 :: s6 :: s7 :: .own c :: Γ) W = W (.own 8) (s0 :: s1 :: s2 :: s3 :: s4 :: s5 :: s6 :: s7 :: .own c :: Γ) := rfl
@[simp] theorem v8c : wVar 8 (s0 :: s1 :: s2 :: s3 :: s4 :: s5 :: s6 :: s7 :: .ref c :: Γ) W = W (.own 8) (s0 :: s1 :: s2 :: s3 :: s4 :: s5 :: s6 :: s7 :: .ref c :: Γ) := rfl
@[simp] theorem v8d : (Opd.own 8).see (s0 :: s1 :: s2 :: s3 :: s4 :: s5 :: s6 :: s7 :: .own c :: Γ) = some c.toD := rfl
@[simp] theorem v8e : (Opd.own 8).see (s0 :: s1 :: s2 :: s3 :: s4 :: s5 :: s6 :: s7 :: .ref c :: Γ) = some c.toD := rfl
@[simp] theorem v8f : (Opd.own 8).frz (s0 :: s1 :: s2 :: s3 :: s4 :: s5 :: s6 :: s7 :: .own (.lst ds) :: Γ) Ws = Ws (.list ds) (s0 :: s1 :: s2 :: s3 :: s4 :: s5 :: s6 :: s7 :: .val (.list ds) :: Γ) := rfl
@[simp] theorem v8g : (Opd.own 8).half (s0 :: s1 :: s2 :: s3 :: s4 :: s5 :: s6 :: s7 :: .own (.lst ds) :: Γ) Wr = Wr (.val (.list ds)) (s0 :: s1 :: s2 :: s3 :: s4 :: s5 :: s6 :: s7 :: .val (.list ds) :: Γ) := rfl
@[simp] theorem v8h : (Opd.own 8).sto (s0 :: s1 :: s2 :: s3 :: s4 :: s5 :: s6 :: s7 :: .own (.lst ds) :: Γ) Wl = Wl (.val (.list ds)) (s0 :: s1 :: s2 :: s3 :: s4 :: s5 :: s6 :: s7 :: .val (.list ds) :: Γ) := rfl
@[simp] theorem v8i : retW R js (.own 8) (s0 :: s1 :: s2 :: s3 :: s4 :: s5 :: s6 :: s7 :: .own c :: Γ) = R (.new c) (ctsAt js (s0 :: s1 :: s2 :: s3 :: s4 :: s5 :: s6 :: s7 :: .own c :: Γ)) := rfl
@[simp] theorem v8j : DEnv.at (s0 :: s1 :: s2 :: s3 :: s4 :: s5 :: s6 :: s7 :: .val d :: Γ) 8 = .val d := rfl
@[simp] theorem v8k : DEnv.at (s0 :: s1 :: s2 :: s3 :: s4 :: s5 :: s6 :: s7 :: .own c :: Γ) 8 = .own c := rfl
@[simp] theorem v8l : DEnv.at (s0 :: s1 :: s2 :: s3 :: s4 :: s5 :: s6 :: s7 :: .ref c :: Γ) 8 = .ref c := rfl
@[simp] theorem v8m : DEnv.at (s0 :: s1 :: s2 :: s3 :: s4 :: s5 :: s6 :: s7 :: .non :: Γ) 8 = .non := rfl
@[simp] theorem v9a : wVar 9 (s0 :: s1 :: s2 :: s3 :: s4 :: s5 :: s6 :: s7 :: s8 :: .val d :: Γ) W = W (.val d) (s0 :: s1 :: s2 :: s3 :: s4 :: s5 :: s6 :: s7 :: s8 :: .val d :: Γ) := rfl
@[simp] theorem v9b : wVar 9 (s0 :: s1 :: s2 :: s3 :: s4 :: s5 :: s6 :: s7 :: s8 :: .own c :: Γ) W = W (.own 9) (s0 :: s1 :: s2 :: s3 :: s4 :: s5 :: s6 :: s7 :: s8 :: .own c :: Γ) := rfl
@[simp] theorem v9c : wVar 9 (s0 :: s1 :: s2 :: s3 :: s4 :: s5 :: s6 :: s7 :: s8 :: .ref c :: Γ) W = W (.own 9) (s0 :: s1 :: s2 :: s3 :: s4 :: s5 :: s6 :: s7 :: s8 :: .ref c :: Γ) := rfl
@[simp] theorem v9d : (Opd.own 9).see (s0 :: s1 :: s2 :: s3 :: s4 :: s5 :: s6 :: s7 :: s8 :: .own c :: Γ) = some c.toD := rfl
@[simp] theorem v9e : (Opd.own 9).see (s0 :: s1 :: s2 :: s3 :: s4 :: s5 :: s6 :: s7 :: s8 :: .ref c :: Γ) = some c.toD := rfl
@[simp] theorem v9f : (Opd.own 9).frz (s0 :: s1 :: s2 :: s3 :: s4 :: s5 :: s6 :: s7 :: s8 :: .own (.lst ds) :: Γ) Ws = Ws (.list ds) (s0 :: s1 :: s2 :: s3 :: s4 :: s5 :: s6 :: s7 :: s8 :: .val (.list ds) :: Γ) := rfl
@[simp] theorem v9g : (Opd.own 9).half (s0 :: s1 :: s2 :: s3 :: s4 :: s5 :: s6 :: s7 :: s8 :: .own (.lst ds) :: Γ) Wr = Wr (.val (.list ds)) (s0 :: s1 :: s2 :: s3 :: s4 :: s5 :: s6 :: s7 :: s8 :: .val (.list ds) :: Γ) := rfl
@[simp] theorem v9h : (Opd.own 9).sto (s0 :: s1 :: s2 :: s3 :: s4 :: s5 :: s6 :: s7 :: s8 :: .own (.lst ds) :: Γ) Wl = Wl (.val (.list ds)) (s0 :: s1 :: s2 :: s3 :: s4 :: s5 :: s6 :: s7 :: s8 :: .val (.list ds) :: Γ) := rfl
@[simp] theorem v9i : retW R js (.own 9) (s0 :: s1 :: s2 :: s3 :: s4 :: s5 :: s6 :: s7 :: s8 :: .own c :: Γ) = R (.new c) (ctsAt js (s0 :: s1 :: s2 :: s3 :: s4 :: s5 :: s6 :: s7 :: s8 :: .own c :: Γ)) := rfl
@[simp] theorem v9j : DEnv.at (s0 :: s1 :: s2 :: s3 :: s4 :: s5 :: s6 :: s7 :: s8 :: .val d :: Γ) 9 = .val d := rfl
@[simp] theorem v9k : DEnv.at (s0 :: s1 :: s2 :: s3 :: s4 :: s5 :: s6 :: s7 :: s8 :: .own c :: Γ) 9 = .own c := rfl
@[simp] theorem v9l : DEnv.at (s0 :: s1 :: s2 :: s3 :: s4 :: s5 :: s6 :: s7 :: s8 :: .ref c :: Γ) 9 = .ref c := rfl
@[simp] theorem v9m : DEnv.at (s0 :: s1 :: s2 :: s3 :: s4 :: s5 :: s6 :: s7 :: s8 :: .non :: Γ) 9 = .non := rfl
@[simp] theorem v10a : wVar 10 (s0 :: s1 :: s2 :: s3 :: s4 :: s5 :: s6 :: s7 :: s8 :: s9 :: .val d :: Γ) W = W (.val d) (s0 :: s1 :: s2 :: s3 :: s4 :: s5 :: s6 :: s7 :: s8 :: s9 :: .val d :: Γ) := rfl
@[simp] theorem v10b : wVar 10 (s0 :: s1 :: s2 :: s3 :: s4 :: s5 :: s6 :: s7 :: s8 :: s9 :: .own c :: Γ) W = W (.own 10) (s0 :: s1 :: s2 :: s3 :: s4 :: s5 :: s6 :: s7 :: s8 :: s9 :: .own c :: Γ) := rfl
@[simp] theorem v10c : wVar 10 (s0 :: s1 :: s2 :: s3 :: s4 :: s5 :: s6 :: s7 :: s8 :: s9 :: .ref c :: Γ) W = W (.own 10) (s0 :: s1 :: s2 :: s3 :: s4 :: s5 :: s6 :: s7 :: s8 :: s9 :: .ref c :: Γ) := rfl
@[simp] theorem v10d : (Opd.own 10).see (s0 :: s1 :: s2 :: s3 :: s4 :: s5 :: s6 :: s7 :: s8 :: s9 :: .own c :: Γ) = some c.toD := rfl
@[simp] theorem v10e : (Opd.own 10).see (s0 :: s1 :: s2 :: s3 :: s4 :: s5 :: s6 :: s7 :: s8 :: s9 :: .ref c :: Γ) = some c.toD := rfl
@[simp] theorem v10f : (Opd.own 10).frz (s0 :: s1 :: s2 :: s3 :: s4 :: s5 :: s6 :: s7 :: s8 :: s9 :: .own (.lst ds) :: Γ) Ws = Ws (.list ds) (s0 :: s1 :: s2 :: s3 :: s4 :: s5 :: s6 :: s7 :: s8 :: s9 :: .val (.list ds) :: Γ) := rfl
@[simp] theorem v10g : (Opd.own 10).half (s0 :: s1 :: s2 :: s3 :: s4 :: s5 :: s6 :: s7 :: s8 :: s9 :: .own (.lst ds) :: Γ) Wr = Wr (.val (.list ds)) (s0 :: s1 :: s2 :: s3 :: s4 :: s5 :: s6 :: s7 :: s8 :: s9 :: .val (.list ds) :: Γ) := rfl
@[simp] theorem v10h : (Opd.own 10).sto (s0 :: s1 :: s2 :: s3 :: s4 :: s5 :: s6 :: s7 :: s8 :: s9 :: .own (.lst ds) :: Γ) Wl = Wl (.val (.list ds)) (s0 :: s1 :: s2 :: s3 :: s4 :: s5 :: s6 :: s7 :: s8 :: s9 :: .val (.list ds) :: Γ) := rfl
@[simp] theorem v10i : retW R js (.own 10) (s0 :: s1 :: s2 :: s3 :: s4 :: s5 :: s6 :: s7 :: s8 :: s9 :: .own c :: Γ) = R (.new c) (ctsAt js (s0 :: s1 :: s2 :: s3 :: s4 :: s5 :: s6 :: s7 :: s8 :: s9 :: .own c :: Γ)) := rfl
@[simp] theorem v10j : DEnv.at (s0 :: s1 :: s2 :: s3 :: s4 :: s5 :: s6 :: s7 :: s8 :: s9 :: .val d :: Γ) 10 = .val d := rfl
@[simp] theorem v10k : DEnv.at (s0 :: s1 :: s2 :: s3 :: s4 :: s5 :: s6 :: s7 :: s8 :: s9 :: .own c :: Γ) 10 = .own c := rfl
@[simp] theorem v10l : DEnv.at (s0 :: s1 :: s2 :: s3 :: s4 :: s5 :: s6 :: s7 :: s8 :: s9 :: .ref c :: Γ) 10 = .ref c := rfl
@[simp] theorem v10m : DEnv.at (s0 :: s1 :: s2 :: s3 :: s4 :: s5 :: s6 :: s7 :: s8 :: s9 :: .non :: Γ) 10 = .non := rfl
@[simp] theorem v11a : wVar 11 (s0 :: s1 :: s2 :: s3 :: s4 :: s5 :: s6 :: s7 :: s8 :: s9 :: s10 :: .val d :: Γ) W = W (.val d) (s0 :: s1 :: s2 :: s3 :: s4 :: s5 :: s6 :: s7 :: s8 :: s9 :: s10 :: .val d :: Γ) := rfl
@[simp] theorem v11b : wVar 11 (s0 :: s1 :: s2 :: s3 :: s4 :: s5 :: s6 :: s7 :: s8 :: s9 :: s10 :: .own c :: Γ) W = W (.own 11) (s0 :: s1 :: s2 :: s3 :: s4 :: s5 :: s6 :: s7 :: s8 :: s9 :: s10 :: .own c :: Γ) := rfl
@[simp] theorem v11c : wVar 11 (s0 :: s1 :: s2 :: s3 :: s4 :: s5 :: s6 :: s7 :: s8 :: s9 :: s10 :: .ref c :: Γ) W = W (.own 11) (s0 :: s1 :: s2 :: s3 :: s4 :: s5 :: s6 :: s7 :: s8 :: s9 :: s10 :: .ref c :: Γ) := rfl
@[simp] theorem v11d : (Opd.own 11).see (s0 :: s1 :: s2 :: s3 :: s4 :: s5 :: s6 :: s7 :: s8 :: s9 :: s10 :: .own c :: Γ) = some c.toD := rfl
@[simp] theorem v11e : (Opd.own 11).see (s0 :: s1 :: s2 :: s3 :: s4 :: s5 :: s6 :: s7 :: s8 :: s9 :: s10 :: .ref c :: Γ) = some c.toD := rfl
@[simp] theorem v11f : (Opd.own 11).frz (s0 :: s1 :: s2 :: s3 :: s4 :: s5 :: s6 :: s7 :: s8 :: s9 :: s10 :: .own (.lst ds) :: Γ) Ws = Ws (.list ds) (s0 :: s1 :: s2 :: s3 :: s4 :: s5 :: s6 :: s7 :: s8 :: s9 :: s10 :: .val (.list ds) :: Γ) := rfl
@[simp] theorem v11g : (Opd.own 11).half (s0 :: s1 :: s2 :: s3 :: s4 :: s5 :: s6 :: s7 :: s8 :: s9 :: s10 :: .own (.lst ds) :: Γ) Wr = Wr (.val (.list ds)) (s0 :: s1 :: s2 :: s3 :: s4 :: s5 :: s6 :: s7 :: s8 :: s9 :: s10 :: .val (.list ds) :: Γ) := rfl
@[simp] theorem v11h : (Opd.own 11).sto (s0 :: s1 :: s2 :: s3 :: s4 :: s5 :: s6 :: s7 :: s8 :: s9 :: s10 :: .own (.lst ds) :: Γ) Wl = Wl (.val (.list ds)) (s0 :: s1 :: s2 :: s3 :: s4 :: s5 :: s6 :: s7 :: s8 :: s9 :: s10 :: .val (.list ds) :: Γ) := rfl
@[simp] theorem v11i : retW R js (.own 11) (s0 :: s1 :: s2 :: s3 :: s4 :: s5 :: s6 :: s7 :: s8 :: s9 :: s10 :: .own c :: Γ) = R (.new c) (ctsAt js (s0 :: s1 :: s2 :: s3 :: s4 :: s5 :: s6 :: s7 :: s8 :: s9 :: s10 :: .own c :: Γ)) := rfl
@[simp] theorem v11j : DEnv.at (s0 :: s1 :: s2 :: s3 :: s4 :: s5 :: s6 :: s7 :: s8 :: s9 :: s10 :: .val d :: Γ) 11 = .val d := rfl
@[simp] theorem v11k : DEnv.at (s0 :: s1 :: s2 :: s3 :: s4 :: s5 :: s6 :: s7 :: s8 :: s9 :: s10 :: .own c :: Γ) 11 = .own c := rfl
@[simp] theorem v11l : DEnv.at (s0 :: s1 :: s2 :: s3 :: s4 :: s5 :: s6 :: s7 :: s8 :: s9 :: s10 :: .ref c :: Γ) 11 = .ref c := rfl
@[simp] theorem v11m : DEnv.at (s0 :: s1 :: s2 :: s3 :: s4 :: s5 :: s6 :: s7 :: s8 :: s9 :: s10 :: .non :: Γ) 11 = .non := rfl
@[simp] theorem v12a : wVar 12 (s0 :: s1 :: s2 :: s3 :: s4 :: s5 :: s6 :: s7 :: s8 :: s9 :: s10 :: s11 :: .val d :: Γ) W = W (.val d) (s0 :: s1 :: s2 :: s3 :: s4 :: s5 :: s6 :: s7 :: s8 :: s9 :: s10 :: s11 :: .val d :: Γ) := rfl
@[simp] theorem v12b : wVar 12 (s0 :: s1 :: s2 :: s3 :: s4 :: s5 :: s6 :: s7 :: s8 :: s9 :: s10 :: s11 :: .own c :: Γ) W = W (.own 12) (s0 :: s1 :: s2 :: s3 :: s4 :: s5 :: s6 :: s7 :: s8 :: s9 :: s10 :: s11 :: .own c :: Γ) := rfl
@[simp] theorem v12c : wVar 12 (s0 :: s1 :: s2 :: s3 :: s4 :: s5 :: s6 :: s7 :: s8 :: s9 :: s10 :: s11 :: .ref c :: Γ) W = W (.own 12) (s0 :: s1 :: s2 :: s3 :: s4 :: s5 :: s6 :: s7 :: s8 :: s9 :: s10 :: s11 :: .ref c :: Γ) := rfl
@[simp] theorem v12d : (Opd.own 12).see (s0 :: s1 :: s2 :: s3 :: s4 :: s5 :: s6 :: s7 :: s8 :: s9 :: s10 :: s11 :: .own c :: Γ) = some c.toD := rfl
@[simp] theorem v12e : (Opd.own 12).see (s0 :: s1 :: s2 :: s3 :: s4 :: s5 :: s6 :: s7 :: s8 :: s9 :: s10 :: s11 :: .ref c :: Γ) = some c.toD := rfl
@[simp] theorem v12f : (Opd.own 12).frz (s0 :: s1 :: s2 :: s3 :: s4 :: s5 :: s6 :: s7 :: s8 :: s9 :: s10 :: s11 :: .own (.lst ds) :: Γ) Ws = Ws (.list ds) (s0 :: s1 :: s2 :: s3 :: s4 :: s5 :: s6 :: s7 :: s8 :: s9 :: s10 :: s11 :: .val (.list ds) :: Γ) := rfl
@[simp] theorem v12g : (Opd.own 12).half (s0 :: s1 :: s2 :: s3 :: s4 :: s5 :: s6 :: s7 :: s8 :: s9 :: s10 :: s11 :: .own (.lst ds) :: Γ) Wr = Wr (.val (.list ds)) (s0 :: s1 :: s2 :: s3 :: s4 :: s5 :: s6 :: s7 :: s8 :: s9 :: s10 :: s11 :: .val (.list ds) :: Γ) := rfl
@[simp] theorem v12h : (Opd.own 12).sto (s0 :: s1 :: s2 :: s3 :: s4 :: s5 :: s6 :: s7 :: s8 :: s9 :: s10 :: s11 :: .own (.lst ds) :: Γ) Wl = Wl (.val (.list ds)) (s0 :: s1 :: s2 :: s3 :: s4 :: s5 :: s6 :: s7 :: s8 :: s9 :: s10 :: s11 :: .val (.list ds) :: Γ) := rfl
@[simp] theorem v12i : retW R js (.own 12) (s0 :: s1 :: s2 :: s3 :: s4 :: s5 :: s6 :: s7 :: s8 :: s9 :: s10 :: s11 :: .own c :: Γ) = R (.new c) (ctsAt js (s0 :: s1 :: s2 :: s3 :: s4 :: s5 :: s6 :: s7 :: s8 :: s9 :: s10 :: s11 :: .own c :: Γ)) := rfl
@[simp] theorem v12j : DEnv.at (s0 :: s1 :: s2 :: s3 :: s4 :: s5 :: s6 :: s7 :: s8 :: s9 :: s10 :: s11 :: .val d :: Γ) 12 = .val d := rfl
@[simp] theorem v12k : DEnv.at (s0 :: s1 :: s2 :: s3 :: s4 :: s5 :: s6 :: s7 :: s8 :: s9 :: s10 :: s11 :: .own c :: Γ) 12 = .own c := rfl
@[simp] theorem v12l : DEnv.at (s0 :: s1 :: s2 :: s3 :: s4 :: s5 :: s6 :: s7 :: s8 :: s9 :: s10 :: s11 :: .ref c :: Γ) 12 = .ref c := rfl
@[simp] theorem v12m : DEnv.at (s0 :: s1 :: s2 :: s3 :: s4 :: s5 :: s6 :: s7 :: s8 :: s9 :: s10 :: s11 :: .non :: Γ) 12 = .non := rfl
@[simp] theorem v13a : wVar 13 (s0 :: s1 :: s2 :: s3 :: s4 :: s5 :: s6 :: s7 :: s8 :: s9 :: s10 :: s11 :: s12 :: .val d :: Γ) W = W (.val d) (s0 :: s1 :: s2 :: s3 :: s4 :: s5 :: s6 :: s7 :: s8 :: s9 :: s10 :: s11 :: s12 :: .val d :: Γ) := rfl
@[simp] theorem v13b : wVar 13 (s0 :: s1 :: s2 :: s3 :: s4 :: s5 :: s6 :: s7 :: s8 :: s9 :: s10 :: s11 :: s12 :: .own c :: Γ) W = W (.own 13) (s0 :: s1 :: s2 :: s3 :: s4 :: s5 :: s6 :: s7 :: s8 :: s9 :: s10 :: s11 :: s12 :: .own c :: Γ) := rfl
@[simp] theorem v13c : wVar 13 (s0 :: s1 :: s2 :: s3 :: s4 :: s5 :: s6 :: s7 :: s8 :: s9 :: s10 :: s11 :: s12 :: .ref c :: Γ) W = W (.own 13) (s0 :: s1 :: s2 :: s3 :: s4 :: s5 :: s6 :: s7 :: s8 :: s9 :: s10 :: s11 :: s12 :: .ref c :: Γ) := rfl
@[simp] theorem v13d : (Opd.own 13).see (s0 :: s1 :: s2 :: s3 :: s4 :: s5 :: s6 :: s7 :: s8 :: s9 :: s10 :: s11 :: s12 :: .own c :: Γ) = some c.toD := rfl
@[simp] theorem v13e : (Opd.own 13).see (s0 :: s1 :: s2 :: s3 :: s4 :: s5 :: s6 :: s7 :: s8 :: s9 :: s10 :: s11 :: s12 :: .ref c :: Γ) = some c.toD := rfl
@[simp] theorem v13f : (Opd.own 13).frz (s0 :: s1 :: s2 :: s3 :: s4 :: s5 :: s6 :: s7 :: s8 :: s9 :: s10 :: s11 :: s12 :: .own (.lst ds) :: Γ) Ws = Ws (.list ds) (s0 :: s1 :: s2 :: s3 :: s4 :: s5 :: s6 :: s7 :: s8 :: s9 :: s10 :: s11 :: s12 :: .val (.list ds) :: Γ) := rfl
@[simp] theorem v13g : (Opd.own 13).half (s0 :: s1 :: s2 :: s3 :: s4 :: s5 :: s6 :: s7 :: s8 :: s9 :: s10 :: s11 :: s12 :: .own (.lst ds) :: Γ) Wr = Wr (.val (.list ds)) (s0 :: s1 :: s2 :: s3 :: s4 :: s5 :: s6 :: s7 :: s8 :: s9 :: s10 :: s11 :: s12 :: .val (.list ds) :: Γ) := rfl
@[simp] theorem v13h : (Opd.own 13).sto (s0 :: s1 :: s2 :: s3 :: s4 :: s5 :: s6 :: s7 :: s8 :: s9 :: s10 :: s11 :: s12 :: .own (.lst ds) :: Γ) Wl = Wl (.val (.list ds)) (s0 :: s1 :: s2 :: s3 :: s4 :: s5 :: s6 :: s7 :: s8 :: s9 :: s10 :: s11 :: s12 :: .val (.list ds) :: Γ) := rfl
@[simp] theorem v13i : retW R js (.own 13) (s0 :: s1 :: s2 :: s3 :: s4 :: s5 :: s6 :: s7 :: s8 :: s9 :: s10 :: s11 :: s12 :: .own c :: Γ) = R (.new c) (ctsAt js (s0 :: s1 :: s2 :: s3 :: s4 :: s5 :: s6 :: s7 :: s8 :: s9 :: s10 :: s11 :: s12 :: .own c :: Γ)) := rfl
@[simp] theorem v13j : DEnv.at (s0 :: s1 :: s2 :: s3 :: s4 :: s5 :: s6 :: s7 :: s8 :: s9 :: s10 :: s11 :: s12 :: .val d :: Γ) 13 = .val d := rfl
@[simp] theorem v13k : DEnv.at (s0 :: s1 :: s2 :: s3 :: s4 :: s5 :: s6 :: s7 :: s8 :: s9 :: s10 :: s11 :: s12 :: .own c :: Γ) 13 = .own c := rfl
@[simp] theorem v13l : DEnv.at (s0 :: s1 :: s2 :: s3 :: s4 :: s5 :: s6 :: s7 :: s8 :: s9 :: s10 :: s11 :: s12 :: .ref c :: Γ) 13 = .ref c := rfl
@[simp] theorem v13m : DEnv.at (s0 :: s1 :: s2 :: s3 :: s4 :: s5 :: s6 :: s7 :: s8 :: s9 :: s10 :: s11 :: s12 :: .non :: Γ) 13 = .non := rfl
@[simp] theorem v14a : wVar 14 (s0 :: s1 :: s2 :: s3 :: s4 :: s5 :: s6 :: s7 :: s8 :: s9 :: s10 :: s11 :: s12 :: s13 :: .val d :: Γ) W = W (.val d) (s0 :: s1 :: s2 :: s3 :: s4 :: s5 :: s6 :: s7 :: s8 :: s9 :: s10 :: s11 :: s12 :: s13 :: .val d :: Γ) := rfl
@[simp] theorem v14b : wVar 14 (s0 :: s1 :: s2 :: s3 :: s4 :: s5 :: s6 :: s7 :: s8 :: s9 :: s10 :: s11 :: s12 :: s13 :: .own c :: Γ) W = W (.own 14) (s0 :: s1 :: s2 :: s3 :: s4 :: s5 :: s6 :: s7 :: s8 :: s9 :: s10 :: s11 :: s12 :: s13 :: .own c :: Γ) := rfl
@[simp] theorem v14c : wVar 14 (s0 :: s1 :: s2 :: s3 :: s4 :: s5 :: s6 :: s7 :: s8 :: s9 :: s10 :: s11 :: s12 :: s13 :: .ref c :: Γ) W = W (.own 14) (s0 :: s1 :: s2 :: s3 :: s4 :: s5 :: s6 :: s7 :: s8 :: s9 :: s10 :: s11 :: s12 :: s13 :: .ref c :: Γ) := rfl
@[simp] theorem v14d : (Opd.own 14).see (s0 :: s1 :: s2 :: s3 :: s4 :: s5 :: s6 :: s7 :: s8 :: s9 :: s10 :: s11 :: s12 :: s13 :: .own c :: Γ) = some c.toD := rfl
@[simp] theorem v14e : (Opd.own 14).see (s0 :: s1 :: s2 :: s3 :: s4 :: s5 :: s6 :: s7 :: s8 :: s9 :: s10 :: s11 :: s12 :: s13 :: .ref c :: Γ) = some c.toD := rfl
@[simp] theorem v14f : (Opd.own 14).frz (s0 :: s1 :: s2 :: s3 :: s4 :: s5 :: s6 :: s7 :: s8 :: s9 :: s10 :: s11 :: s12 :: s13 :: .own (.lst ds) :: Γ) Ws = Ws (.list ds) (s0 :: s1 :: s2 :: s3 :: s4 :: s5 :: s6 :: s7 :: s8 :: s9 :: s10 :: s11 :: s12 :: s13 :: .val (.list ds) :: Γ) := rfl
@[simp] theorem v14g : (Opd.own 14).half (s0 :: s1 :: s2 :: s3 :: s4 :: s5 :: s6 :: s7 :: s8 :: s9 :: s10 :: s11 :: s12 :: s13 :: .own (.lst ds) :: Γ) Wr = Wr (.val (.list ds)) (s0 :: s1 :: s2 :: s3 :: s4 :: s5 :: s6 :: s7 :: s8 :: s9 :: s10 :: s11 :: s12 :: s13 :: .val (.list ds) :: Γ) := rfl
@[simp] theorem v14h : (Opd.own 14).sto (s0 :: s1 :: s2 :: s3 :: s4 :: s5 :: s6 :: s7 :: s8 :: s9 :: s10 :: s11 :: s12 :: s13 :: .own (.lst ds) :: Γ) Wl = Wl (.val (.list ds)) (s0 :: s1 :: s2 :: s3 :: s4 :: s5 :: s6 :: s7 :: s8 :: s9 :: s10 :: s11 :: s12 :: s13 :: .val (.list ds) :: Γ) := rfl
@[simp] theorem v14i : retW R js (.own 14) (s0 :: s1 :: s2 :: s3 :: s4 :: s5 :: s6 :: s7 :: s8 :: s9 :: s10 :: s11 :: s12 :: s13 :: .own c :: Γ) = R (.new c) (ctsAt js (s0 :: s1 :: s2 :: s3 :: s4 :: s5 :: s6 :: s7 :: s8 :: s9 :: s10 :: s11 :: s12 :: s13 :: .own c :: Γ)) := rfl
@[simp] theorem v14j : DEnv.at (s0 :: s1 :: s2 :: s3 :: s4 :: s5 :: s6 :: s7 :: s8 :: s9 :: s10 :: s11 :: s12 :: s13 :: .val d :: Γ) 14 = .val d := rfl
@[simp] theorem v14k : DEnv.at (s0 :: s1 :: s2 :: s3 :: s4 :: s5 :: s6 :: s7 :: s8 :: s9 :: s10 :: s11 :: s12 :: s13 :: .own c :: Γ) 14 = .own c := rfl
@[simp] theorem v14l : DEnv.at (s0 :: s1 :: s2 :: s3 :: s4 :: s5 :: s6 :: s7 :: s8 :: s9 :: s10 :: s11 :: s12 :: s13 :: .ref c :: Γ) 14 = .ref c := rfl
@[simp] theorem v14m : DEnv.at (s0 :: s1 :: s2 :: s3 :: s4 :: s5 :: s6 :: s7 :: s8 :: s9 :: s10 :: s11 :: s12 :: s13 :: .non :: Γ) 14 = .non := rfl
@[simp] theorem v15a : wVar 15 (s0 :: s1 :: s2 :: s3 :: s4 :: s5 :: s6 :: s7 :: s8 :: s9 :: s10 :: s11 :: s12 :: s13 :: s14 :: .val d :: Γ) W = W (.val d) (s0 :: s1 :: s2 :: s3 :: s4 :: s5 :: s6 :: s7 :: s8 :: s9 :: s10 :: s11 :: s12 :: s13 :: s14 :: .val d :: Γ) := rfl
@[simp] theorem v15b : wVar 15 (s0 :: s1 :: s2 :: s3 :: s4 :: s5 :: s6 :: s7 :: s8 :: s9 :: s10 :: s11 :: s12 :: s13 :: s14 :: .own c :: Γ) W = W (.own 15) (s0 :: s1 :: s2 :: s3 :: s4 :: s5 :: s6 :: s7 :: s8 :: s9 :: s10 :: s11 :: s12 :: s13 :: s14 :: .own c :: Γ) := rfl
@[simp] theorem v15c : wVar 15 (s0 :: s1 :: s2 :: s3 :: s4 :: s5 :: s6 :: s7 :: s8 :: s9 :: s10 :: s11 :: s12 :: s13 :: s14 :: .ref c :: Γ) W = W (.own 15) (s0 :: s1 :: s2 :: s3 :: s4 :: s5 :: s6 :: s7 :: s8 :: s9 :: s10 :: s11 :: s12 :: s13 :: s14 :: .ref c :: Γ) := rfl
@[simp] theorem v15d : (Opd.own 15).see (s0 :: s1 :: s2 :: s3 :: s4 :: s5 :: s6 :: s7 :: s8 :: s9 :: s10 :: s11 :: s12 :: s13 :: s14 :: .own c :: Γ) = some c.toD := rfl
@[simp] theorem v15e : (Opd.own 15).see (s0 :: s1 :: s2 :: s3 :: s4 :: s5 :: s6 :: s7 :: s8 :: s9 :: s10 :: s11 :: s12 :: s13 :: s14 :: .ref c :: Γ) = some c.toD := rfl
@[simp] theorem v15f : (Opd.own 15).frz (s0 :: s1 :: s2 :: s3 :: s4 :: s5 :: s6 :: s7 :: s8 :: s9 :: s10 :: s11 :: s12 :: s13 :: s14 :: .own (.lst ds) :: Γ) Ws = Ws (.list ds) (s0 :: s1 :: s2 :: s3 :: s4 :: s5 :: s6 :: s7 :: s8 :: s9 :: s10 :: s11 :: s12 :: s13 :: s14 :: .val (.list ds) :: Γ) := rfl
@[simp] theorem v15g : (Opd.own 15).half (s0 :: s1 :: s2 :: s3 :: s4 :: s5 :: s6 :: s7 :: s8 :: s9 :: s10 :: s11 :: s12 :: s13 :: s14 :: .own (.lst ds) :: Γ) Wr = Wr (.val (.list ds)) (s0 :: s1 :: s2 :: s3 :: s4 :: s5 :: s6 :: s7 :: s8 :: s9 :: s10 :: s11 :: s12 :: s13 :: s14 :: .val (.list ds) :: Γ) := rfl
@[simp] theorem v15h : (Opd.own 15).sto (s0 :: s1 :: s2 :: s3 :: s4 :: s5 :: s6 :: s7 :: s8 :: s9 :: s10 :: s11 :: s12 :: s13 :: s14 :: .own (.lst ds) :: Γ) Wl = Wl (.val (.list ds)) (s0 :: s1 :: s2 :: s3 :: s4 :: s5 :: s6 :: s7 :: s8 :: s9 :: s10 :: s11 :: s12 :: s13 :: s14 :: .val (.list ds) :: Γ) := rfl
@[simp] theorem v15i : retW R js (.own 15) (s0 :: s1 :: s2 :: s3 :: s4 :: s5 :: s6 :: s7 :: s8 :: s9 :: s10 :: s11 :: s12 :: s13 :: s14 :: .own c :: Γ) = R (.new c) (ctsAt js (s0 :: s1 :: s2 :: s3 :: s4 :: s5 :: s6 :: s7 :: s8 :: s9 :: s10 :: s11 :: s12 :: s13 :: s14 :: .own c :: Γ)) := rfl
@[simp] theorem v15j : DEnv.at (s0 :: s1 :: s2 :: s3 :: s4 :: s5 :: s6 :: s7 :: s8 :: s9 :: s10 :: s11 :: s12 :: s13 :: s14 :: .val d :: Γ) 15 = .val d := rfl
@[simp] theorem v15k : DEnv.at (s0 :: s1 :: s2 :: s3 :: s4 :: s5 :: s6 :: s7 :: s8 :: s9 :: s10 :: s11 :: s12 :: s13 :: s14 :: .own c :: Γ) 15 = .own c := rfl
@[simp] theorem v15l : DEnv.at (s0 :: s1 :: s2 :: s3 :: s4 :: s5 :: s6 :: s7 :: s8 :: s9 :: s10 :: s11 :: s12 :: s13 :: s14 :: .ref c :: Γ) 15 = .ref c := rfl
@[simp] theorem v15m : DEnv.at (s0 :: s1 :: s2 :: s3 :: s4 :: s5 :: s6 :: s7 :: s8 :: s9 :: s10 :: s11 :: s12 :: s13 :: s14 :: .non :: Γ) 15 = .non := rfl
@[simp] theorem v16a : wVar 16 (s0 :: s1 :: s2 :: s3 :: s4 :: s5 :: s6 :: s7 :: s8 :: s9 :: s10 :: s11 :: s12 :: s13 :: s14 :: s15 :: .val d :: Γ) W = W (.val d) (s0 :: s1 :: s2 :: s3 :: s4 :: s5 :: s6 :: s7 :: s8 :: s9 :: s10 :: s11 :: s12 :: s13 :: s14 :: s15 :: .val d :: Γ) := rfl
@[simp] theorem v16b : wVar 16 (s0 :: s1 :: s2 :: s3 :: s4 :: s5 :: s6 :: s7 :: s8 :: s9 :: s10 :: s11 :: s12 :: s13 :: s14 :: s15 :: .own c :: Γ) W = W (.own 16) (s0 :: s1 :: s2 :: s3 :: s4 :: s5 :: s6 :: s7 :: s8 :: s9 :: s10 :: s11 :: s12 :: s13 :: s14 :: s15 :: .own c :: Γ) := rfl
@[simp] theorem v16c : wVar 16 (s0 :: s1 :: s2 :: s3 :: s4 :: s5 :: s6 :: s7 :: s8 :: s9 :: s10 :: s11 :: s12 :: s13 :: s14 :: s15 :: .ref c :: Γ) W = W (.own 16) (s0 :: s1 :: s2 :: s3 :: s4 :: s5 :: s6 :: s7 :: s8 :: s9 :: s10 :: s11 :: s12 :: s13 :: s14 :: s15 :: .ref c :: Γ) := rfl
@[simp] theorem v16d : (Opd.own 16).see (s0 :: s1 :: s2 :: s3 :: s4 :: s5 :: s6 :: s7 :: s8 :: s9 :: s10 :: s11 :: s12 :: s13 :: s14 :: s15 :: .own c :: Γ) = some c.toD := rfl
@[simp] theorem v16e : (Opd.own 16).see (s0 :: s1 :: s2 :: s3 :: s4 :: s5 :: s6 :: s7 :: s8 :: s9 :: s10 :: s11 :: s12 :: s13 :: s14 :: s15 :: .ref c :: Γ) = some c.toD := rfl
@[simp] theorem v16f : (Opd.own 16).frz (s0 :: s1 :: s2 :: s3 :: s4 :: s5 :: s6 :: s7 :: s8 :: s9 :: s10 :: s11 :: s12 :: s13 :: s14 :: s15 :: .own (.lst ds) :: Γ) Ws = Ws (.list ds) (s0 :: s1 :: s2 :: s3 :: s4 :: s5 :: s6 :: s7 :: s8 :: s9 :: s10 :: s11 :: s12 :: s13 :: s14 :: s15 :: .val (.list ds) :: Γ) := rfl
@[simp] theorem v16g : (Opd.own 16).half (s0 :: s1 :: s2 :: s3 :: s4 :: s5 :: s6 :: s7 :: s8 :: s9 :: s10 :: s11 :: s12 :: s13 :: s14 :: s15 :: .own (.lst ds) :: Γ) Wr = Wr (.val (.list ds)) (s0 :: s1 :: s2 :: s3 :: s4 :: s5 :: s6 :: s7 :: s8 :: s9 :: s10 :: s11 :: s12 :: s13 :: s14 :: s15 :: .val (.list ds) :: Γ) := rfl
@[simp] theorem v16h : (Opd.own 16).sto (s0 :: s1 :: s2 :: s3 :: s4 :: s5 :: s6 :: s7 :: s8 :: s9 :: s10 :: s11 :: s12 :: s13 :: s14 :: s15 :: .own (.lst ds) :: Γ) Wl = Wl (.val (.list ds)) (s0 :: s1 :: s2 :: s3 :: s4 :: s5 :: s6 :: s7 :: s8 :: s9 :: s10 :: s11 :: s12 :: s13 :: s14 :: s15 :: .val (.list ds) :: Γ) := rfl
@[simp] theorem v16i : retW R js (.own 16) (s0 :: s1 :: s2 :: s3 :: s4 :: s5 :: s6 :: s7 :: s8 :: s9 :: s10 :: s11 :: s12 :: s13 :: s14 :: s15 :: .own c :: Γ) = R (.new c) (ctsAt js (s0 :: s1 :: s2 :: s3 :: s4 :: s5 :: s6 :: s7 :: s8 :: s9 :: s10 :: s11 :: s12 :: s13 :: s14 :: s15 :: .own c :: Γ)) := rfl
@[simp] theorem v16j : DEnv.at (s0 :: s1 :: s2 :: s3 :: s4 :: s5 :: s6 :: s7 :: s8 :: s9 :: s10 :: s11 :: s12 :: s13 :: s14 :: s15 :: .val d :: Γ) 16 = .val d := rfl
@[simp] theorem v16k : DEnv.at (s0 :: s1 :: s2 :: s3 :: s4 :: s5 :: s6 :: s7 :: s8 :: s9 :: s10 :: s11 :: s12 :: s13 :: s14 :: s15 :: .own c :: Γ) 16 = .own c := rfl
@[simp] theorem v16l : DEnv.at (s0 :: s1 :: s2 :: s3 :: s4 :: s5 :: s6 :: s7 :: s8 :: s9 :: s10 :: s11 :: s12 :: s13 :: s14 :: s15 :: .ref c :: Γ) 16 = .ref c := rfl
@[simp] theorem v16m : DEnv.at (s0 :: s1 :: s2 :: s3 :: s4 :: s5 :: s6 :: s7 :: s8 :: s9 :: s10 :: s11 :: s12 :: s13 :: s14 :: s15 :: .non :: Γ) 16 = .non := rfl
@[simp] theorem v17a : wVar 17 (s0 :: s1 :: s2 :: s3 :: s4 :: s5 :: s6 :: s7 :: s8 :: s9 :: s10 :: s11 :: s12 :: s13 :: s14 :: s15 :: s16 :: .val d :: Γ) W = W (.val d) (s0 :: s1 :: s2 :: s3 :: s4 :: s5 :: s6 :: s7 :: s8 :: s9 :: s10 :: s11 :: s12 :: s13 :: s14 :: s15 :: s16 :: .val d :: Γ) := rfl
@[simp] theorem v17b : wVar 17 (s0 :: s1 :: s2 :: s3 :: s4 :: s5 :: s6 :: s7 :: s8 :: s9 :: s10 :: s11 :: s12 :: s13 :: s14 :: s15 :: s16 :: .own c :: Γ) W = W (.own 17) (s0 :: s1 :: s2 :: s3 :: s4 :: s5 :: s6 :: s7 :: s8 :: s9 :: s10 :: s11 :: s12 :: s13 :: s14 :: s15 :: s16 :: .own c :: Γ) := rfl
@[simp] theorem v17c : wVar 17 (s0 :: s1 :: s2 :: s3 :: s4 :: s5 :: s6 :: s7 :: s8 :: s9 :: s10 :: s11 :: s12 :: s13 :: s14 :: s15 :: s16 :: .ref c :: Γ) W = W (.own 17) (s0 :: s1 :: s2 :: s3 :: s4 :: s5 :: s6 :: s7 :: s8 :: s9 :: s10 :: s11 :: s12 :: s13 :: s14 :: s15 :: s16 :: .ref c :: Γ) := rfl
@[simp] theorem v17d : (Opd.own 17).see (s0 :: s1 :: s2 :: s3 :: s4 :: s5 :: s6 :: s7 :: s8 :: s9 :: s10 :: s11 :: s12 :: s13 :: s14 :: s15 :: s16 :: .own c :: Γ) = some c.toD := rfl
@[simp] theorem v17e : (Opd.own 17).see (s0 :: s1 :: s2 :: s3 :: s4 :: s5 :: s6 :: s7 :: s8 :: s9 :: s10 :: s11 :: s12 :: s13 :: s14 :: s15 :: s16 :: .ref c :: Γ) = some c.toD := rfl
@[simp] theorem v17f : (Opd.own 17).frz (s0 :: s1 :: s2 :: s3 :: s4 :: s5 :: s6 :: s7 :: s8 :: s9 :: s10 :: s11 :: s12 :: s13 :: s14 :: s15 :: s16 :: .own (.lst ds) :: Γ) Ws = Ws (.list ds) (s0 :: s1 :: s2 :: s3 :: s4 :: s5 :: s6 :: s7 :: s8 :: s9 :: s10 :: s11 :: s12 :: s13 :: s14 :: s15 :: s16 :: .val (.list ds) :: Γ) := rfl
@[simp] theorem v17g : (Opd.own 17).half (s0 :: s1 :: s2 :: s3 :: s4 :: s5 :: s6 :: s7 :: s8 :: s9 :: s10 :: s11 :: s12 :: s13 :: s14 :: s15 :: s16 :: .own (.lst ds) :: Γ) Wr = Wr (.val (.list ds)) (s0 :: s1 :: s2 :: s3 :: s4 :: s5 :: s6 :: s7 :: s8 :: s9 :: s10 :: s11 :: s12 :: s13 :: s14 :: s15 :: s16 :: .val (.list ds) :: Γ) := rfl
@[simp] theorem v17h : (Opd.own 17).sto (s0 :: s1 :: s2 :: s3 :: s4 :: s5 :: s6 :: s7 :: s8 :: s9 :: s10 :: s11 :: s12 :: s13 :: s14 :: s15 :: s16 :: .own (.lst ds) :: Γ) Wl = Wl (.val (.list ds)) (s0 :: s1 :: s2 :: s3 :: s4 :: s5 :: s6 :: s7 :: s8 :: s9 :: s10 :: s11 :: s12 :: s13 :: s14 :: s15 :: s16 :: .val (.list ds) :: Γ) := rfl
@[simp] theorem v17i : retW R js (.own 17) (s0 :: s1 :: s2 :: s3 :: s4 :: s5 :: s6 :: s7 :: s8 :: s9 :: s10 :: s11 :: s12 :: s13 :: s14 :: s15 :: s16 :: .own c :: Γ) = R (.new c) (ctsAt js (s0 :: s1 :: s2 :: s3 :: s4 :: s5 :: s6 :: s7 :: s8 :: s9 :: s10 :: s11 :: s12 :: s13 :: s14 :: s15 :: s16 :: .own c :: Γ)) := rfl
@[simp] theorem v17j : DEnv.at (s0 :: s1 :: s2 :: s3 :: s4 :: s5 :: s6 :: s7 :: s8 :: s9 :: s10 :: s11 :: s12 :: s13 :: s14 :: s15 :: s16 :: .val d :: Γ) 17 = .val d := rfl
@[simp] theorem v17k : DEnv.at (s0 :: s1 :: s2 :: s3 :: s4 :: s5 :: s6 :: s7 :: s8 :: s9 :: s10 :: s11 :: s12 :: s13 :: s14 :: s15 :: s16 :: .own c :: Γ) 17 = .own c := rfl
@[simp] theorem v17l : DEnv.at (s0 :: s1 :: s2 :: s3 :: s4 :: s5 :: s6 :: s7 :: s8 :: s9 :: s10 :: s11 :: s12 :: s13 :: s14 :: s15 :: s16 :: .ref c :: Γ) 17 = .ref c := rfl
@[simp] theorem v17m : DEnv.at (s0 :: s1 :: s2 :: s3 :: s4 :: s5 :: s6 :: s7 :: s8 :: s9 :: s10 :: s11 :: s12 :: s13 :: s14 :: s15 :: s16 :: .non :: Γ) 17 = .non := rfl
@[simp] theorem v18a : wVar 18 (s0 :: s1 :: s2 :: s3 :: s4 :: s5 :: s6 :: s7 :: s8 :: s9 :: s10 :: s11 :: s12 :: s13 :: s14 :: s15 :: s16 :: s17 :: .val d :: Γ) W = W (.val d) (s0 :: s1 :: s2 :: s3 :: s4 :: s5 :: s6 :: s7 :: s8 :: s9 :: s10 :: s11 :: s12 :: s13 :: s14 :: s15 :: s16 :: s17 :: .val d :: Γ) := rfl
@[simp] theorem v18b : wVar 18 (s0 :: s1 :: s2 :: s3 :: s4 :: s5 :: s6 :: s7 :: s8 :: s9 :: s10 :: s11 :: s12 :: s13 :: s14 :: s15 :: s16 :: s17 :: .own c :: Γ) W = W (.own 18) (s0 :: s1 :: s2 :: s3 :: s4 :: s5 :: s6 :: s7 :: s8 :: s9 :: s10 :: s11 :: s12 :: s13 :: s14 :: s15 :: s16 :: s17 :: .own c :: Γ) := rfl
@[simp] theorem v18c : wVar 18 (s0 :: s1 :: s2 :: s3 :: s4 :: s5 :: s6 :: s7 :: s8 :: s9 :: s10 :: s11 :: s12 :: s13 :: s14 :: s15 :: s16 :: s17 :: .ref c :: Γ) W = W (.own 18) (s0 :: s1 :: s2 :: s3 :: s4 :: s5 :: s6 :: s7 :: s8 :: s9 :: s10 :: s11 :: s12 :: s13 :: s14 :: s15 :: s16 :: s17 :: .ref c :: Γ) := rfl
@[simp] theorem v18d : (Opd.own 18).see (s0 :: s1 :: s2 :: s3 :: s4 :: s5 :: s6 :: s7 :: s8 :: s9 :: s10 :: s11 :: s12 :: s13 :: s14 :: s15 :: s16 :: s17 :: .own c :: Γ) = some c.toD := rfl
@[simp] theorem v18e : (Opd.own 18).see (s0 :: s1 :: s2 :: s3 :: s4 :: s5 :: s6 :: s7 :: s8 :: s9 :: s10 :: s11 :: s12 :: s13 :: s14 :: s15 :: s16 :: s17 :: .ref c :: Γ) = some c.toD := rfl
@[simp] theorem v18f : (Opd.own 18).frz (s0 :: s1 :: s2 :: s3 :: s4 :: s5 :: s6 :: s7 :: s8 :: s9 :: s10 :: s11 :: s12 :: s13 :: s14 :: s15 :: s16 :: s17 :: .own (.lst ds) :: Γ) Ws = Ws (.list ds) (s0 :: s1 :: s2 :: s3 :: s4 :: s5 :: s6 :: s7 :: s8 :: s9 :: s10 :: s11 :: s12 :: s13 :: s14 :: s15 :: s16 :: s17 :: .val (.list ds) :: Γ) := rfl
@[simp] theorem v18g : (Opd.own 18).half (s0 :: s1 :: s2 :: s3 :: s4 :: s5 :: s6 :: s7 :: s8 :: s9 :: s10 :: s11 :: s12 :: s13 :: s14 :: s15 :: s16 :: s17 :: .own (.lst ds) :: Γ) Wr = Wr (.val (.list ds)) (s0 :: s1 :: s2 :: s3 :: s4 :: s5 :: s6 :: s7 :: s8 :: s9 :: s10 :: s11 :: s12 :: s13 :: s14 :: s15 :: s16 :: s17 :: .val (.list ds) :: Γ) := rfl
@[simp] theorem v18h : (Opd.own 18).sto (s0 :: s1 :: s2 :: s3 :: s4 :: s5 :: s6 :: s7 :: s8 :: s9 :: s10 :: s11 :: s12 :: s13 :: s14 :: s15 :: s16 :: s17 :: .own (.lst ds) :: Γ) Wl = Wl (.val (.list ds)) (s0 :: s1 :: s2 :: s3 :: s4 :: s5 :: s6 :: s7 :: s8 :: s9 :: s10 :: s11 :: s12 :: s13 :: s14 :: s15 :: s16 :: s17 :: .val (.list ds) :: Γ) := rfl
@[simp] theorem v18i : retW R js (.own 18) (s0 :: s1 :: s2 :: s3 :: s4 :: s5 :: s6 :: s7 :: s8 :: s9 :: s10 :: s11 :: s12 :: s13 :: s14 :: s15 :: s16 :: s17 :: .own c :: Γ) = R (.new c) (ctsAt js (s0 :: s1 :: s2 :: s3 :: s4 :: s5 :: s6 :: s7 :: s8 :: s9 :: s10 :: s11 :: s12 :: s13 :: s14 :: s15 :: s16 :: s17 :: .own c :: Γ)) := rfl
@[simp] theorem v18j : DEnv.at (s0 :: s1 :: s2 :: s3 :: s4 :: s5 :: s6 :: s7 :: s8 :: s9 :: s10 :: s11 :: s12 :: s13 :: s14 :: s15 :: s16 :: s17 :: .val d :: Γ) 18 = .val d := rfl
@[simp] theorem v18k : DEnv.at (s0 :: s1 :: s2 :: s3 :: s4 :: s5 :: s6 :: s7 :: s8 :: s9 :: s10 :: s11 :: s12 :: s13 :: s14 :: s15 :: s16 :: s17 :: .own c :: Γ) 18 = .own c := rfl
@[simp] theorem v18l : DEnv.at (s0 :: s1 :: s2 :: s3 :: s4 :: s5 :: s6 :: s7 :: s8 :: s9 :: s10 :: s11 :: s12 :: s13 :: s14 :: s15 :: s16 :: s17 :: .ref c :: Γ) 18 = .ref c := rfl
@[simp] theorem v18m : DEnv.at (s0 :: s1 :: s2 :: s3 :: s4 :: s5 :: s6 :: s7 :: s8 :: s9 :: s10 :: s11 :: s12 :: s13 :: s14 :: s15 :: s16 :: s17 :: .non :: Γ) 18 = .non := rfl
@[simp] theorem v19a : wVar 19 (s0 :: s1 :: s2 :: s3 :: s4 :: s5 :: s6 :: s7 :: s8 :: s9 :: s10 :: s11 :: s12 :: s13 :: s14 :: s15 :: s16 :: s17 :: s18 :: .val d :: Γ) W = W (.val d) (s0 :: s1 :: s2 :: s3 :: s4 :: s5 :: s6 :: s7 :: s8 :: s9 :: s10 :: s11 :: s12 :: s13 :: s14 :: s15 :: s16 :: s17 :: s18 :: .val d :: Γ) := rfl
@[simp] theorem v19b : wVar 19 (s0 :: s1 :: s2 :: s3 :: s4 :: s5 :: s6 :: s7 :: s8 :: s9 :: s10 :: s11 :: s12 :: s13 :: s14 :: s15 :: s16 :: s17 :: s18 :: .own c :: Γ) W = W (.own 19) (s0 :: s1 :: s2 :: s3 :: s4 :: s5 :: s6 :: s7 :: s8 :: s9 :: s10 :: s11 :: s12 :: s13 :: s14 :: s15 :: s16 :: s17 :: s18 :: .own c :: Γ) := rfl
@[simp] theorem v19c : wVar 19 (s0 :: s1 :: s2 :: s3 :: s4 :: s5 :: s6 :: s7 :: s8 :: s9 :: s10 :: s11 :: s12 :: s13 :: s14 :: s15 :: s16 :: s17 :: s18 :: .ref c :: Γ) W = W (.own 19) (s0 :: s1 :: s2 :: s3 :: s4 :: s5 :: s6 :: s7 :: s8 :: s9 :: s10 :: s11 :: s12 :: s13 :: s14 :: s15 :: s16 :: s17 :: s18 :: .ref c :: Γ) := rfl
@[simp] theorem v19d : (Opd.own 19).see (s0 :: s1 :: s2 :: s3 :: s4 :: s5 :: s6 :: s7 :: s8 :: s9 :: s10 :: s11 :: s12 :: s13 :: s14 :: s15 :: s16 :: s17 :: s18 :: .own c :: Γ) = some c.toD := rfl
@[simp] theorem v19e : (Opd.own 19).see (s0 :: s1 :: s2 :: s3 :: s4 :: s5 :: s6 :: s7 :: s8 :: s9 :: s10 :: s11 :: s12 :: s13 :: s14 :: s15 :: s16 :: s17 :: s18 :: .ref c :: Γ) = some c.toD := rfl
@[simp] theorem v19f : (Opd.own 19).frz (s0 :: s1 :: s2 :: s3 :: s4 :: s5 :: s6 :: s7 :: s8 :: s9 :: s10 :: s11 :: s12 :: s13 :: s14 :: s15 :: s16 :: s17 :: s18 :: .own (.lst ds) :: Γ) Ws = Ws (.list ds) (s0 :: s1 :: s2 :: s3 :: s4 :: s5 :: s6 :: s7 :: s8 :: s9 :: s10 :: s11 :: s12 :: s13 :: s14 :: s15 :: s16 :: s17 :: s18 :: .val (.list ds) :: Γ) := rfl
@[simp] theorem v19g : (Opd.own 19).half (s0 :: s1 :: s2 :: s3 :: s4 :: s5 :: s6 :: s7 :: s8 :: s9 :: s10 :: s11 :: s12 :: s13 :: s14 :: s15 :: s16 :: s17 :: s18 :: .own (.lst ds) :: Γ) Wr = Wr (.val (.list ds)) (s0 :: s1 :: s2 :: s3 :: s4 :: s5 :: s6 :: s7 :: s8 :: s9 :: s10 :: s11 :: s12 :: s13 :: s14 :: s15 :: s16 :: s17 :: s18 :: .val (.list ds) :: Γ) := rfl
@[simp] theorem v19h : (Opd.own 19).sto (s0 :: s1 :: s2 :: s3 :: s4 :: s5 :: s6 :: s7 :: s8 :: s9 :: s10 :: s11 :: s12 :: s13 :: s14 :: s15 :: s16 :: s17 :: s18 :: .own (.lst ds) :: Γ) Wl = Wl (.val (.list ds)) (s0 :: s1 :: s2 :: s3 :: s4 :: s5 :: s6 :: s7 :: s8 :: s9 :: s10 :: s11 :: s12 :: s13 :: s14 :: s15 :: s16 :: s17 :: s18 :: .val (.list ds) :: Γ) := rfl
@[simp] theorem v19i : retW R js (.own 19) (s0 :: s1 :: s2 :: s3 :: s4 :: s5 :: s6 :: s7 :: s8 :: s9 :: s10 :: s11 :: s12 :: s13 :: s14 :: s15 :: s16 :: s17 :: s18 :: .own c :: Γ) = R (.new c) (ctsAt js (s0 :: s1 :: s2 :: s3 :: s4 :: s5 :: s6 :: s7 :: s8 :: s9 :: s10 :: s11 :: s12 :: s13 :: s14 :: s15 :: s16 :: s17 :: s18 :: .own c :: Γ)) := rfl
@[simp] theorem v19j : DEnv.at (s0 :: s1 :: s2 :: s3 :: s4 :: s5 :: s6 :: s7 :: s8 :: s9 :: s10 :: s11 :: s12 :: s13 :: s14 :: s15 :: s16 :: s17 :: s18 :: .val d :: Γ) 19 = .val d := rfl
@[simp] theorem v19k : DEnv.at (s0 :: s1 :: s2 :: s3 :: s4 :: s5 :: s6 :: s7 :: s8 :: s9 :: s10 :: s11 :: s12 :: s13 :: s14 :: s15 :: s16 :: s17 :: s18 :: .own c :: Γ) 19 = .own c := rfl
@[simp] theorem v19l : DEnv.at (s0 :: s1 :: s2 :: s3 :: s4 :: s5 :: s6 :: s7 :: s8 :: s9 :: s10 :: s11 :: s12 :: s13 :: s14 :: s15 :: s16 :: s17 :: s18 :: .ref c :: Γ) 19 = .ref c := rfl
@[simp] theorem v19m : DEnv.at (s0 :: s1 :: s2 :: s3 :: s4 :: s5 :: s6 :: s7 :: s8 :: s9 :: s10 :: s11 :: s12 :: s13 :: s14 :: s15 :: s16 :: s17 :: s18 :: .non :: Γ) 19 = .non := rfl
@[simp] theorem v20a : wVar 20 (s0 :: s1 :: s2 :: s3 :: s4 :: s5 :: s6 :: s7 :: s8 :: s9 :: s10 :: s11 :: s12 :: s13 :: s14 :: s15 :: s16 :: s17 :: s18 :: s19 :: .val d :: Γ) W = W (.val d) (s0 :: s1 :: s2 :: s3 :: s4 :: s5 :: s6 :: s7 :: s8 :: s9 :: s10 :: s11 :: s12 :: s13 :: s14 :: s15 :: s16 :: s17 :: s18 :: s19 :: .val d :: Γ) := rfl
@[simp] theorem v20b : wVar 20 (s0 :: s1 :: s2 :: s3 :: s4 :: s5 :: s6 :: s7 :: s8 :: s9 :: s10 :: s11 :: s12 :: s13 :: s14 :: s15 :: s16 :: s17 :: s18 :: s19 :: .own c :: Γ) W = W (.own 20) (s0 :: s1 :: s2 :: s3 :: s4 :: s5 :: s6 :: s7 :: s8 :: s9 :: s10 :: s11 :: s12 :: s13 :: s14 :: s15 :: s16 :: s17 :: s18 :: s19 :: .own c :: Γ) := rfl
@[simp] theorem v20c : wVar 20 (s0 :: s1 :: s2 :: s3 :: s4 :: s5 :: s6 :: s7 :: s8 :: s9 :: s10 :: s11 :: s12 :: s13 :: s14 :: s15 :: s16 :: s17 :: s18 :: s19 :: .ref c :: Γ) W = W (.own 20) (s0 :: s1 :: s2 :: s3 :: s4 :: s5 :: s6 :: s7 :: s8 :: s9 :: s10 :: s11 :: s12 :: s13 :: s14 :: s15 :: s16 :: s17 :: s18 :: s19 :: .ref c :: Γ) := rfl
@[simp] theorem v20d : (Opd.own 20).see (s0 :: s1 :: s2 :: s3 :: s4 :: s5 :: s6 :: s7 :: s8 :: s9 :: s10 :: s11 :: s12 :: s13 :: s14 :: s15 :: s16 :: s17 :: s18 :: s19 :: .own c :: Γ) = some c.toD := rfl
@[simp] theorem v20e : (Opd.own 20).see (s0 :: s1 :: s2 :: s3 :: s4 :: s5 :: s6 :: s7 :: s8 :: s9 :: s10 :: s11 :: s12 :: s13 :: s14 :: s15 :: s16 :: s17 :: s18 :: s19 :: .ref c :: Γ) = some c.toD := rfl
@[simp] theorem v20f : (Opd.own 20).frz (s0 :: s1 :: s2 :: s3 :: s4 :: s5 :: s6 :: s7 :: s8 :: s9 :: s10 :: s11 :: s12 :: s13 :: s14 :: s15 :: s16 :: s17 :: s18 :: s19 :: .own (.lst ds) :: Γ) Ws = Ws (.list ds) (s0 :: s1 :: s2 :: s3 :: s4 :: s5 :: s6 :: s7 :: s8 :: s9 :: s10 :: s11 :: s12 :: s13 :: s14 :: s15 :: s16 :: s17 :: s18 :: s19 :: .val (.list ds) :: Γ) := rfl
@[simp] theorem v20g : (Opd.own 20).half (s0 :: s1 :: s2 :: s3 :: s4 :: s5 :: s6 :: s7 :: s8 :: s9 :: s10 :: s11 :: s12 :: s13 :: s14 :: s15 :: s16 :: s17 :: s18 :: s19 :: .own (.lst ds) :: Γ) Wr = Wr (.val (.list ds)) (s0 :: s1 :: s2 :: s3 :: s4 :: s5 :: s6 :: s7 :: s8 :: s9 :: s10 :: s11 :: s12 :: s13 :: s14 :: s15 :: s16 :: s17 :: s18 :: s19 :: .val (.list ds) :: Γ) := rfl
@[simp] theorem v20h : (Opd.own 20).sto (s0 :: s1 :: s2 :: s3 :: s4 :: s5 :: s6 :: s7 :: s8 :: s9 :: s10 :: s11 :: s12 :: s13 :: s14 :: s15 :: s16 :: s17 :: s18 :: s19 :: .own (.lst ds) :: Γ) Wl = Wl (.val (.list ds)) (s0 :: s1 :: s2 :: s3 :: s4 :: s5 :: s6 :: s7 :: s8 :: s9 :: s10 :: s11 :: s12 :: s13 :: s14 :: s15 :: s16 :: s17 :: s18 :: s19 :: .val (.list ds) :: Γ) := rfl
@[simp] theorem v20i : retW R js (.own 20) (s0 :: s1 :: s2 :: s3 :: s4 :: s5 :: s6 :: s7 :: s8 :: s9 :: s10 :: s11 :: s12 :: s13 :: s14 :: s15 :: s16 :: s17 :: s18 :: s19 :: .own c :: Γ) = R (.new c) (ctsAt js (s0 :: s1 :: s2 :: s3 :: s4 :: s5 :: s6 :: s7 :: s8 :: s9 :: s10 :: s11 :: s12 :: s13 :: s14 :: s15 :: s16 :: s17 :: s18 :: s19 :: .own c :: Γ)) := rfl
@[simp] theorem v20j : DEnv.at (s0 :: s1 :: s2 :: s3 :: s4 :: s5 :: s6 :: s7 :: s8 :: s9 :: s10 :: s11 :: s12 :: s13 :: s14 :: s15 :: s16 :: s17 :: s18 :: s19 :: .val d :: Γ) 20 = .val d := rfl
@[simp] theorem v20k : DEnv.at (s0 :: s1 :: s2 :: s3 :: s4 :: s5 :: s6 :: s7 :: s8 :: s9 :: s10 :: s11 :: s12 :: s13 :: s14 :: s15 :: s16 :: s17 :: s18 :: s19 :: .own c :: Γ) 20 = .own c := rfl
@[simp] theorem v20l : DEnv.at (s0 :: s1 :: s2 :: s3 :: s4 :: s5 :: s6 :: s7 :: s8 :: s9 :: s10 :: s11 :: s12 :: s13 :: s14 :: s15 :: s16 :: s17 :: s18 :: s19 :: .ref c :: Γ) 20 = .ref c := rfl
@[simp] theorem v20m : DEnv.at (s0 :: s1 :: s2 :: s3 :: s4 :: s5 :: s6 :: s7 :: s8 :: s9 :: s10 :: s11 :: s12 :: s13 :: s14 :: s15 :: s16 :: s17 :: s18 :: s19 :: .non :: Γ) 20 = .non := rfl
@[simp] theorem v21a : wVar 21 (s0 :: s1 :: s2 :: s3 :: s4 :: s5 :: s6 :: s7 :: s8 :: s9 :: s10 :: s11 :: s12 :: s13 :: s14 :: s15 :: s16 :: s17 :: s18 :: s19 :: s20 :: .val d :: Γ) W = W (.val d) (s0 :: s1 :: s2 :: s3 :: s4 :: s5 :: s6 :: s7 :: s8 :: s9 :: s10 :: s11 :: s12 :: s13 :: s14 :: s15 :: s16 :: s17 :: s18 :: s19 :: s20 :: .val d :: Γ) := rfl
@[simp] theorem v21b : wVar 21 (s0 :: s1 :: s2 :: s3 :: s4 :: s5 :: s6 :: s7 :: s8 :: s9 :: s10 :: s11 :: s12 :: s13 :: s14 :: s15 :: s16 :: s17 :: s18 :: s19 :: s20 :: .own c :: Γ) W = W (.own 21) (s0 :: s1 :: s2 :: s3 :: s4 :: s5 :: s6 :: s7 :: s8 :: s9 :: s10 :: s11 :: s12 :: s13 :: s14 :: s15 :: s16 :: s17 :: s18 :: s19 :: s20 :: .own c :: Γ) := rfl
@[simp] theorem v21c : wVar 21 (s0 :: s1 :: s2 :: s3 :: s4 :: s5 :: s6 :: s7 :: s8 :: s9 :: s10 :: s11 :: s12 :: s13 :: s14 :: s15 :: s16 :: s17 :: s18 :: s19 :: s20 :: .ref c :: Γ) W = W (.own 21) (s0 :: s1 :: s2 :: s3 :: s4 :: s5 :: s6 :: s7 :: s8 :: s9 :: s10 :: s11 :: s12 :: s13 :: s14 :: s15 :: s16 :: s17 :: s18 :: s19 :: s20 :: .ref c :: Γ) := rfl
@[simp] theorem v21d : (Opd.own 21).see (s0 :: s1 :: s2 :: s3 :: s4 :: s5 :: s6 :: s7 :: s8 :: s9 :: s10 :: s11 :: s12 :: s13 :: s14 :: s15 :: s16 :: s17 :: s18 :: s19 :: s20 :: .own c :: Γ) = some c.toD := rfl
@[simp] theorem v21e : (Opd.own 21).see (s0 :: s1 :: s2 :: s3 :: s4 :: s5 :: s6 :: s7 :: s8 :: s9 :: s10 :: s11 :: s12 :: s13 :: s14 :: s15 :: s16 :: s17 :: s18 :: s19 :: s20 :: .ref c :: Γ) = some c.toD := rfl
@[simp] theorem v21f : (Opd.own 21).frz (s0 :: s1 :: s2 :: s3 :: s4 :: s5 :: s6 :: s7 :: s8 :: s9 :: s10 :: s11 :: s12 :: s13 :: s14 :: s15 :: s16 :: s17 :: s18 :: s19 :: s20 :: .own (.lst ds) :: Γ) Ws = Ws (.list ds) (s0 :: s1 :: s2 :: s3 :: s4 :: s5 :: s6 :: s7 :: s8 :: s9 :: s10 :: s11 :: s12 :: s13 :: s14 :: s15 :: s16 :: s17 :: s18 :: s19 :: s20 :: .val (.list ds) :: Γ) := rfl
@[simp] theorem v21g : (Opd.own 21).half (s0 :: s1 :: s2 :: s3 :: s4 :: s5 :: s6 :: s7 :: s8 :: s9 :: s10 :: s11 :: s12 :: s13 :: s14 :: s15 :: s16 :: s17 :: s18 :: s19 :: s20 :: .own (.lst ds) :: Γ) Wr = Wr (.val (.list ds)) (s0 :: s1 :: s2 :: s3 :: s4 :: s5 :: s6 :: s7 :: s8 :: s9 :: s10 :: s11 :: s12 :: s13 :: s14 :: s15 :: s16 :: s17 :: s18 :: s19 :: s20 :: .val (.list ds) :: Γ) := rfl
@[simp] theorem v21h : (Opd.own 21).sto (s0 :: s1 :: s2 :: s3 :: s4 :: s5 :: s6 :: s7 :: s8 :: s9 :: s10 :: s11 :: s12 :: s13 :: s14 :: s15 :: s16 :: s17 :: s18 :: s19 :: s20 :: .own (.lst ds) :: Γ) Wl = Wl (.val (.list ds)) (s0 :: s1 :: s2 :: s3 :: s4 :: s5 :: s6 :: s7 :: s8 :: s9 :: s10 :: s11 :: s12 :: s13 :: s14 :: s15 :: s16 :: s17 :: s18 :: s19 :: s20 :: .val (.list ds) :: Γ) := rfl
@[simp] theorem v21i : retW R js (.own 21) (s0 :: s1 :: s2 :: s3 :: s4 :: s5 :: s6 :: s7 :: s8 :: s9 :: s10 :: s11 :: s12 :: s13 :: s14 :: s15 :: s16 :: s17 :: s18 :: s19 :: s20 :: .own c :: Γ) = R (.new c) (ctsAt js (s0 :: s1 :: s2 :: s3 :: s4 :: s5 :: s6 :: s7 :: s8 :: s9 :: s10 :: s11 :: s12 :: s13 :: s14 :: s15 :: s16 :: s17 :: s18 :: s19 :: s20 :: .own c :: Γ)) := rfl
@[simp] theorem v21j : DEnv.at (s0 :: s1 :: s2 :: s3 :: s4 :: s5 :: s6 :: s7 :: s8 :: s9 :: s10 :: s11 :: s12 :: s13 :: s14 :: s15 :: s16 :: s17 :: s18 :: s19 :: s20 :: .val d :: Γ) 21 = .val d := rfl
@[simp] theorem v21k : DEnv.at (s0 :: s1 :: s2 :: s3 :: s4 :: s5 :: s6 :: s7 :: s8 :: s9 :: s10 :: s11 :: s12 :: s13 :: s14 :: s15 :: s16 :: s17 :: s18 :: s19 :: s20 :: .own c :: Γ) 21 = .own c := rfl
@[simp] theorem v21l : DEnv.at (s0 :: s1 :: s2 :: s3 :: s4 :: s5 :: s6 :: s7 :: s8 :: s9 :: s10 :: s11 :: s12 :: s13 :: s14 :: s15 :: s16 :: s17 :: s18 :: s19 :: s20 :: .ref c :: Γ) 21 = .ref c := rfl
@[simp] theorem v21m : DEnv.at (s0 :: s1 :: s2 :: s3 :: s4 :: s5 :: s6 :: s7 :: s8 :: s9 :: s10 :: s11 :: s12 :: s13 :: s14 :: s15 :: s16 :: s17 :: s18 :: s19 :: s20 :: .non :: Γ) 21 = .non := rfl
@[simp] theorem v22a : wVar 22 (s0 :: s1 :: s2 :: s3 :: s4 :: s5 :: s6 :: s7 :: s8 :: s9 :: s10 :: s11 :: s12 :: s13 :: s14 :: s15 :: s16 :: s17 :: s18 :: s19 :: s20 :: s21 :: .val d :: Γ) W = W (.val d) (s0 :: s1 :: s2 :: s3 :: s4 :: s5 :: s6 :: s7 :: s8 :: s9 :: s10 :: s11 :: s12 :: s13 :: s14 :: s15 :: s16 :: s17 :: s18 :: s19 :: s20 :: s21 :: .val d :: Γ) := rfl
@[simp] theorem v22b : wVar 22 (s0 :: s1 :: s2 :: s3 :: s4 :: s5 :: s6 :: s7 :: s8 :: s9 :: s10 :: s11 :: s12 :: s13 :: s14 :: s15 :: s16 :: s17 :: s18 :: s19 :: s20 :: s21 :: .own c :: Γ) W = W (.own 22) (s0 :: s1 :: s2 :: s3 :: s4 :: s5 :: s6 :: s7 :: s8 :: s9 :: s10 :: s11 :: s12 :: s13 :: s14 :: s15 :: s16 :: s17 :: s18 :: s19 :: s20 :: s21 :: .own c :: Γ) := rfl
@[simp] theorem v22c : wVar 22 (s0 :: s1 :: s2 :: s3 :: s4 :: s5 :: s6 :: s7 :: s8 :: s9 :: s10 :: s11 :: s12 :: s13 :: s14 :: s15 :: s16 :: s17 :: s18 :: s19 :: s20 :: s21 :: .ref c :: Γ) W = W (.own 22) (s0 :: s1 :: s2 :: s3 :: s4 :: s5 :: s6 :: s7 :: s8 :: s9 :: s10 :: s11 :: s12 :: s13 :: s14 :: s15 :: s16 :: s17 :: s18 :: s19 :: s20 :: s21 :: .ref c :: Γ) := rfl
@[simp] theorem v22d : (Opd.own 22).see (s0 :: s1 :: s2 :: s3 :: s4 :: s5 :: s6 :: s7 :: s8 :: s9 :: s10 :: s11 :: s12 :: s13 :: s14 :: s15 :: s16 :: s17 :: s18 :: s19 :: s20 :: s21 :: .own c :: Γ) = some c.toD := rfl
@[simp] theorem v22e : (Opd.own 22).see (s0 :: s1 :: s2 :: s3 :: s4 :: s5 :: s6 :: s7 :: s8 :: s9 :: s10 :: s11 :: s12 :: s13 :: s14 :: s15 :: s16 :: s17 :: s18 :: s19 :: s20 :: s21 :: .ref c :: Γ) = some c.toD := rfl
@[simp] theorem v22f : (Opd.own 22).frz (s0 :: s1 :: s2 :: s3 :: s4 :: s5 :: s6 :: s7 :: s8 :: s9 :: s10 :: s11 :: s12 :: s13 :: s14 :: s15 :: s16 :: s17 :: s18 :: s19 :: s20 :: s21 :: .own (.lst ds) :: Γ) Ws = Ws (.list ds) (s0 :: s1 :: s2 :: s3 :: s4 :: s5 :: s6 :: s7 :: s8 :: s9 :: s10 :: s11 :: s12 :: s13 :: s14 :: s15 :: s16 :: s17 :: s18 :: s19 :: s20 :: s21 :: .val (.list ds) :: Γ) := rfl
@[simp] theorem v22g : (Opd.own 22).half (s0 :: s1 :: s2 :: s3 :: s4 :: s5 :: s6 :: s7 :: s8 :: s9 :: s10 :: s11 :: s12 :: s13 :: s14 :: s15 :: s16 :: s17 :: s18 :: s19 :: s20 :: s21 :: .own (.lst ds) :: Γ) Wr = Wr (.val (.list ds)) (s0 :: s1 :: s2 :: s3 :: s4 :: s5 :: s6 :: s7 :: s8 :: s9 :: s10 :: s11 :: s12 :: s13 :: s14 :: s15 :: s16 :: s17 :: s18 :: s19 :: s20 :: s21 :: .val (.list ds) :: Γ) := rfl
@[simp] theorem v22h : (Opd.own 22).sto (s0 :: s1 :: s2 :: s3 :: s4 :: s5 :: s6 :: s7 :: s8 :: s9 :: s10 :: s11 :: s12 :: s13 :: s14 :: s15 :: s16 :: s17 :: s18 :: s19 :: s20 :: s21 :: .own (.lst ds) :: Γ) Wl = Wl (.val (.list ds)) (s0 :: s1 :: s2 :: s3 :: s4 :: s5 :: s6 :: s7 :: s8 :: s9 :: s10 :: s11 :: s12 :: s13 :: s14 :: s15 :: s16 :: s17 :: s18 :: s19 :: s20 :: s21 :: .val (.list ds) :: Γ) := rfl
@[simp] theorem v22i : retW R js (.own 22) (s0 :: s1 :: s2 :: s3 :: s4 :: s5 :: s6 :: s7 :: s8 :: s9 :: s10 :: s11 :: s12 :: s13 :: s14 :: s15 :: s16 :: s17 :: s18 :: s19 :: s20 :: s21 :: .own c :: Γ) = R (.new c) (ctsAt js (s0 :: s1 :: s2 :: s3 :: s4 :: s5 :: s6 :: s7 :: s8 :: s9 :: s10 :: s11 :: s12 :: s13 :: s14 :: s15 :: s16 :: s17 :: s18 :: s19 :: s20 :: s21 :: .own c :: Γ)) := rfl
@[simp] theorem v22j : DEnv.at (s0 :: s1 :: s2 :: s3 :: s4 :: s5 :: s6 :: s7 :: s8 :: s9 :: s10 :: s11 :: s12 :: s13 :: s14 :: s15 :: s16 :: s17 :: s18 :: s19 :: s20 :: s21 :: .val d :: Γ) 22 = .val d := rfl
@[simp] theorem v22k : DEnv.at (s0 :: s1 :: s2 :: s3 :: s4 :: s5 :: s6 :: s7 :: s8 :: s9 :: s10 :: s11 :: s12 :: s13 :: s14 :: s15 :: s16 :: s17 :: s18 :: s19 :: s20 :: s21 :: .own c :: Γ) 22 = .own c := rfl
@[simp] theorem v22l : DEnv.at (s0 :: s1 :: s2 :: s3 :: s4 :: s5 :: s6 :: s7 :: s8 :: s9 :: s10 :: s11 :: s12 :: s13 :: s14 :: s15 :: s16 :: s17 :: s18 :: s19 :: s20 :: s21 :: .ref c :: Γ) 22 = .ref c := rfl
@[simp] theorem v22m : DEnv.at (s0 :: s1 :: s2 :: s3 :: s4 :: s5 :: s6 :: s7 :: s8 :: s9 :: s10 :: s11 :: s12 :: s13 :: s14 :: s15 :: s16 :: s17 :: s18 :: s19 :: s20 :: s21 :: .non :: Γ) 22 = .non := rfl
@[simp] theorem v23a : wVar 23 (s0 :: s1 :: s2 :: s3 :: s4 :: s5 :: s6 :: s7 :: s8 :: s9 :: s10 :: s11 :: s12 :: s13 :: s14 :: s15 :: s16 :: s17 :: s18 :: s19 :: s20 :: s21 :: s22 :: .val d :: Γ) W = W (.val d) (s0 :: s1 :: s2 :: s3 :: s4 :: s5 :: s6 :: s7 :: s8 :: s9 :: s10 :: s11 :: s12 :: s13 :: s14 :: s15 :: s16 :: s17 :: s18 :: s19 :: s20 :: s21 :: s22 :: .val d :: Γ) := rfl
@[simp] theorem v23b : wVar 23 (s0 :: s1 :: s2 :: s3 :: s4 :: s5 :: s6 :: s7 :: s8 :: s9 :: s10 :: s11 :: s12 :: s13 :: s14 :: s15 :: s16 :: s17 :: s18 :: s19 :: s20 :: s21 :: s22 :: .own c :: Γ) W = W (.own 23) (s0 :: s1 :: s2 :: s3 :: s4 :: s5 :: s6 :: s7 :: s8 :: s9 :: s10 :: s11 :: s12 :: s13 :: s14 :: s15 :: s16 :: s17 :: s18 :: s19 :: s20 :: s21 :: s22 :: .own c :: Γ) := rfl
@[simp] theorem v23c : wVar 23 (s0 :: s1 :: s2 :: s3 :: s4 :: s5 :: s6 :: s7 :: s8 :: s9 :: s10 :: s11 :: s12 :: s13 :: s14 :: s15 :: s16 :: s17 :: s18 :: s19 :: s20 :: s21 :: s22 :: .ref c :: Γ) W = W (.own 23) (s0 :: s1 :: s2 :: s3 :: s4 :: s5 :: s6 :: s7 :: s8 :: s9 :: s10 :: s11 :: s12 :: s13 :: s14 :: s15 :: s16 :: s17 :: s18 :: s19 :: s20 :: s21 :: s22 :: .ref c :: Γ) := rfl
@[simp] theorem v23d : (Opd.own 23).see (s0 :: s1 :: s2 :: s3 :: s4 :: s5 :: s6 :: s7 :: s8 :: s9 :: s10 :: s11 :: s12 :: s13 :: s14 :: s15 :: s16 :: s17 :: s18 :: s19 :: s20 :: s21 :: s22 :: .own c :: Γ) = some c.toD := rfl
@[simp] theorem v23e : (Opd.own 23).see (s0 :: s1 :: s2 :: s3 :: s4 :: s5 :: s6 :: s7 :: s8 :: s9 :: s10 :: s11 :: s12 :: s13 :: s14 :: s15 :: s16 :: s17 :: s18 :: s19 :: s20 :: s21 :: s22 :: .ref c :: Γ) = some c.toD := rfl
@[simp] theorem v23f : (Opd.own 23).frz (s0 :: s1 :: s2 :: s3 :: s4 :: s5 :: s6 :: s7 :: s8 :: s9 :: s10 :: s11 :: s12 :: s13 :: s14 :: s15 :: s16 :: s17 :: s18 :: s19 :: s20 :: s21 :: s22 :: .own (.lst ds) :: Γ) Ws = Ws (.list ds) (s0 :: s1 :: s2 :: s3 :: s4 :: s5 :: s6 :: s7 :: s8 :: s9 :: s10 :: s11 :: s12 :: s13 :: s14 :: s15 :: s16 :: s17 :: s18 :: s19 :: s20 :: s21 :: s22 :: .val (.list ds) :: Γ) := rfl
@[simp] theorem v23g : (Opd.own 23).half (s0 :: s1 :: s2 :: s3 :: s4 :: s5 :: s6 :: s7 :: s8 :: s9 :: s10 :: s11 :: s12 :: s13 :: s14 :: s15 :: s16 :: s17 :: s18 :: s19 :: s20 :: s21 :: s22 :: .own (.lst ds) :: Γ) Wr = Wr (.val (.list ds)) (s0 :: s1 :: s2 :: s3 :: s4 :: s5 :: s6 :: s7 :: s8 :: s9 :: s10 :: s11 :: s12 :: s13 :: s14 :: s15 :: s16 :: s17 :: s18 :: s19 :: s20 :: s21 :: s22 :: .val (.list ds) :: Γ) := rfl
@[simp] theorem v23h : (Opd.own 23).sto (s0 :: s1 :: s2 :: s3 :: s4 :: s5 :: s6 :: s7 :: s8 :: s9 :: s10 :: s11 :: s12 :: s13 :: s14 :: s15 :: s16 :: s17 :: s18 :: s19 :: s20 :: s21 :: s22 :: .own (.lst ds) :: Γ) Wl = Wl (.val (.list ds)) (s0 :: s1 :: s2 :: s3 :: s4 :: s5 :: s6 :: s7 :: s8 :: s9 :: s10 :: s11 :: s12 :: s13 :: s14 :: s15 :: s16 :: s17 :: s18 :: s19 :: s20 :: s21 :: s22 :: .val (.list ds) :: Γ) := rfl
@[simp] theorem v23i : retW R js (.own 23) (s0 :: s1 :: s2 :: s3 :: s4 :: s5 :: s6 :: s7 :: s8 :: s9 :: s10 :: s11 :: s12 :: s13 :: s14 :: s15 :: s16 :: s17 :: s18 :: s19 :: s20 :: s21 :: s22 :: .own c :: Γ) = R (.new c) (ctsAt js (s0 :: s1 :: s2 :: s3 :: s4 :: s5 :: s6 :: s7 :: s8 :: s9 :: s10 :: s11 :: s12 :: s13 :: s14 :: s15 :: s16 :: s17 :: s18 :: s19 :: s20 :: s21 :: s22 :: .own c :: Γ)) := rfl
@[simp] theorem v23j : DEnv.at (s0 :: s1 :: s2 :: s3 :: s4 :: s5 :: s6 :: s7 :: s8 :: s9 :: s10 :: s11 :: s12 :: s13 :: s14 :: s15 :: s16 :: s17 :: s18 :: s19 :: s20 :: s21 :: s22 :: .val d :: Γ) 23 = .val d := rfl
@[simp] theorem v23k : DEnv.at (s0 :: s1 :: s2 :: s3 :: s4 :: s5 :: s6 :: s7 :: s8 :: s9 :: s10 :: s11 :: s12 :: s13 :: s14 :: s15 :: s16 :: s17 :: s18 :: s19 :: s20 :: s21 :: s22 :: .own c :: Γ) 23 = .own c := rfl
@[simp] theorem v23l : DEnv.at (s0 :: s1 :: s2 :: s3 :: s4 :: s5 :: s6 :: s7 :: s8 :: s9 :: s10 :: s11 :: s12 :: s13 :: s14 :: s15 :: s16 :: s17 :: s18 :: s19 :: s20 :: s21 :: s22 :: .ref c :: Γ) 23 = .ref c := rfl
@[simp] theorem v23m : DEnv.at (s0 :: s1 :: s2 :: s3 :: s4 :: s5 :: s6 :: s7 :: s8 :: s9 :: s10 :: s11 :: s12 :: s13 :: s14 :: s15 :: s16 :: s17 :: s18 :: s19 :: s20 :: s21 :: s22 :: .non :: Γ) 23 = .non := rfl
@[simp] theorem v24a : wVar 24 (s0 :: s1 :: s2 :: s3 :: s4 :: s5 :: s6 :: s7 :: s8 :: s9 :: s10 :: s11 :: s12 :: s13 :: s14 :: s15 :: s16 :: s17 :: s18 :: s19 :: s20 :: s21 :: s22 :: s23 :: .val d :: Γ) W = W (.val d) (s0 :: s1 :: s2 :: s3 :: s4 :: s5 :: s6 :: s7 :: s8 :: s9 :: s10 :: s11 :: s12 :: s13 :: s14 :: s15 :: s16 :: s17 :: s18 :: s19 :: s20 :: s21 :: s22 :: s23 :: .val d :: Γ) := rfl
@[simp] theorem v24b : wVar 24 (s0 :: s1 :: s2 :: s3 :: s4 :: s5 :: s6 :: s7 :: s8 :: s9 :: s10 :: s11 :: s12 :: s13 :: s14 :: s15 :: s16 :: s17 :: s18 :: s19 :: s20 :: s21 :: s22 :: s23 :: .own c :: Γ) W = W (.own 24) (s0 :: s1 :: s2 :: s3 :: s4 :: s5 :: s6 :: s7 :: s8 :: s9 :: s10 :: s11 :: s12 :: s13 :: s14 :: s15 :: s16 :: s17 :: s18 :: s19 :: s20 :: s21 :: s22 :: s23 :: .own c :: Γ) := rfl
@[simp] theorem v24c : wVar 24 (s0 :: s1 :: s2 :: s3 :: s4 :: s5 :: s6 :: s7 :: s8 :: s9 :: s10 :: s11 :: s12 :: s13 :: s14 :: s15 :: s16 :: s17 :: s18 :: s19 :: s20 :: s21 :: s22 :: s23 :: .ref c :: Γ) W = W (.own 24) (s0 :: s1 :: s2 :: s3 :: s4 :: s5 :: s6 :: s7 :: s8 :: s9 :: s10 :: s11 :: s12 :: s13 :: s14 :: s15 :: s16 :: s17 :: s18 :: s19 :: s20 :: s21 :: s22 :: s23 :: .ref c :: Γ) := rfl
@[simp] theorem v24d : (Opd.own 24).see (s0 :: s1 :: s2 :: s3 :: s4 :: s5 :: s6 :: s7 :: s8 :: s9 :: s10 :: s11 :: s12 :: s13 :: s14 :: s15 :: s16 :: s17 :: s18 :: s19 :: s20 :: s21 :: s22 :: s23 :: .own c :: Γ) = some c.toD := rfl
@[simp] theorem v24e : (Opd.own 24).see (s0 :: s1 :: s2 :: s3 :: s4 :: s5 :: s6 :: s7 :: s8 :: s9 :: s10 :: s11 :: s12 :: s13 :: s14 :: s15 :: s16 :: s17 :: s18 :: s19 :: s20 :: s21 :: s22 :: s23 :: .ref c :: Γ) = some c.toD := rfl
@[simp] theorem v24f : (Opd.own 24).frz (s0 :: s1 :: s2 :: s3 :: s4 :: s5 :: s6 :: s7 :: s8 :: s9 :: s10 :: s11 :: s12 :: s13 :: s14 :: s15 :: s16 :: s17 :: s18 :: s19 :: s20 :: s21 :: s22 :: s23 :: .own (.lst ds) :: Γ) Ws = Ws (.list ds) (s0 :: s1 :: s2 :: s3 :: s4 :: s5 :: s6 :: s7 :: s8 :: s9 :: s10 :: s11 :: s12 :: s13 :: s14 :: s15 :: s16 :: s17 :: s18 :: s19 :: s20 :: s21 :: s22 :: s23 :: .val (.list ds) :: Γ) := rfl
@[simp] theorem v24g : (Opd.own 24).half (s0 :: s1 :: s2 :: s3 :: s4 :: s5 :: s6 :: s7 :: s8 :: s9 :: s10 :: s11 :: s12 :: s13 :: s14 :: s15 :: s16 :: s17 :: s18 :: s19 :: s20 :: s21 :: s22 :: s23 :: .own (.lst ds) :: Γ) Wr = Wr (.val (.list ds)) (s0 :: s1 :: s2 :: s3 :: s4 :: s5 :: s6 :: s7 :: s8 :: s9 :: s10 :: s11 :: s12 :: s13 :: s14 :: s15 :: s16 :: s17 :: s18 :: s19 :: s20 :: s21 :: s22 :: s23 :: .val (.list ds) :: Γ) := rfl
@[simp] theorem v24h : (Opd.own 24).sto (s0 :: s1 :: s2 :: s3 :: s4 :: s5 :: s6 :: s7 :: s8 :: s9 :: s10 :: s11 :: s12 :: s13 :: s14 :: s15 :: s16 :: s17 :: s18 :: s19 :: s20 :: s21 :: s22 :: s23 :: .own (.lst ds) :: Γ) Wl = Wl (.val (.list ds)) (s0 :: s1 :: s2 :: s3 :: s4 :: s5 :: s6 :: s7 :: s8 :: s9 :: s10 :: s11 :: s12 :: s13 :: s14 :: s15 :: s16 :: s17 :: s18 :: s19 :: s20 :: s21 :: s22 :: s23 :: .val (.list ds) :: Γ) := rfl
@[simp] theorem v24i : retW R js (.own 24) (s0 :: s1 :: s2 :: s3 :: s4 :: s5 :: s6 :: s7 :: s8 :: s9 :: s10 :: s11 :: s12 :: s13 :: s14 :: s15 :: s16 :: s17 :: s18 :: s19 :: s20 :: s21 :: s22 :: s23 :: .own c :: Γ) = R (.new c) (ctsAt js (s0 :: s1 :: s2 :: s3 :: s4 :: s5 :: s6 :: s7 :: s8 :: s9 :: s10 :: s11 :: s12 :: s13 :: s14 :: s15 :: s16 :: s17 :: s18 :: s19 :: s20 :: s21 :: s22 :: s23 :: .own c :: Γ)) := rfl
@[simp] theorem v24j : DEnv.at (s0 :: s1 :: s2 :: s3 :: s4 :: s5 :: s6 :: s7 :: s8 :: s9 :: s10 :: s11 :: s12 :: s13 :: s14 :: s15 :: s16 :: s17 :: s18 :: s19 :: s20 :: s21 :: s22 :: s23 :: .val d :: Γ) 24 = .val d := rfl
@[simp] theorem v24k : DEnv.at (s0 :: s1 :: s2 :: s3 :: s4 :: s5 :: s6 :: s7 :: s8 :: s9 :: s10 :: s11 :: s12 :: s13 :: s14 :: s15 :: s16 :: s17 :: s18 :: s19 :: s20 :: s21 :: s22 :: s23 :: .own c :: Γ) 24 = .own c := rfl
@[simp] theorem v24l : DEnv.at (s0 :: s1 :: s2 :: s3 :: s4 :: s5 :: s6 :: s7 :: s8 :: s9 :: s10 :: s11 :: s12 :: s13 :: s14 :: s15 :: s16 :: s17 :: s18 :: s19 :: s20 :: s21 :: s22 :: s23 :: .ref c :: Γ) 24 = .ref c := rfl
@[simp] theorem v24m : DEnv.at (s0 :: s1 :: s2 :: s3 :: s4 :: s5 :: s6 :: s7 :: s8 :: s9 :: s10 :: s11 :: s12 :: s13 :: s14 :: s15 :: s16 :: s17 :: s18 :: s19 :: s20 :: s21 :: s22 :: s23 :: .non :: Γ) 24 = .non := rfl
@[simp] theorem v25a : wVar 25 (s0 :: s1 :: s2 :: s3 :: s4 :: s5 :: s6 :: s7 :: s8 :: s9 :: s10 :: s11 :: s12 :: s13 :: s14 :: s15 :: s16 :: s17 :: s18 :: s19 :: s20 :: s21 :: s22 :: s23 :: s24 :: .val d :: Γ) W = W (.val d) (s0 :: s1 :: s2 :: s3 :: s4 :: s5 :: s6 :: s7 :: s8 :: s9 :: s10 :: s11 :: s12 :: s13 :: s14 :: s15 :: s16 :: s17 :: s18 :: s19 :: s20 :: s21 :: s22 :: s23 :: s24 :: .val d :: Γ) := rfl
@[simp] theorem v25b : wVar 25 (s0 :: s1 :: s2 :: s3 :: s4 :: s5 :: s6 :: s7 :: s8 :: s9 :: s10 :: s11 :: s12 :: s13 :: s14 :: s15 :: s16 :: s17 :: s18 :: s19 :: s20 :: s21 :: s22 :: s23 :: s24 :: .own c :: Γ) W = W (.own 25) (s0 :: s1 :: s2 :: s3 :: s4 :: s5 :: s6 :: s7 :: s8 :: s9 :: s10 :: s11 :: s12 :: s13 :: s14 :: s15 :: s16 :: s17 :: s18 :: s19 :: s20 :: s21 :: s22 :: s23 :: s24 :: .own c :: Γ) := rfl
@[simp] theorem v25c : wVar 25 (s0 :: s1 :: s2 :: s3 :: s4 :: s5 :: s6 :: s7 :: s8 :: s9 :: s10 :: s11 :: s12 :: s13 :: s14 :: s15 :: s16 :: s17 :: s18 :: s19 :: s20 :: s21 :: s22 :: s23 :: s24 :: .ref c :: Γ) W = W (.own 25) (s0 :: s1 :: s2 :: s3 :: s4 :: s5 :: s6 :: s7 :: s8 :: s9 :: s10 :: s11 :: s12 :: s13 :: s14 :: s15 :: s16 :: s17 :: s18 :: s19 :: s20 :: s21 :: s22 :: s23 :: s24 :: .ref c :: Γ) := rfl
@[simp] theorem v25d : (Opd.own 25).see (s0 :: s1 :: s2 :: s3 :: s4 :: s5 :: s6 :: s7 :: s8 :: s9 :: s10 :: s11 :: s12 :: s13 :: s14 :: s15 :: s16 :: s17 :: s18 :: s19 :: s20 :: s21 :: s22 :: s23 :: s24 :: .own c :: Γ) = some c.toD := rfl
@[simp] theorem v25e : (Opd.own 25).see (s0 :: s1 :: s2 :: s3 :: s4 :: s5 :: s6 :: s7 :: s8 :: s9 :: s10 :: s11 :: s12 :: s13 :: s14 :: s15 :: s16 :: s17 :: s18 :: s19 :: s20 :: s21 :: s22 :: s23 :: s24 :: .ref c :: Γ) = some c.toD := rfl
@[simp] theorem v25f : (Opd.own 25).frz (s0 :: s1 :: s2 :: s3 :: s4 :: s5 :: s6 :: s7 :: s8 :: s9 :: s10 :: s11 :: s12 :: s13 :: s14 :: s15 :: s16 :: s17 :: s18 :: s19 :: s20 :: s21 :: s22 :: s23 :: s24 :: .own (.lst ds) :: Γ) Ws = Ws (.list ds) (s0 :: s1 :: s2 :: s3 :: s4 :: s5 :: s6 :: s7 :: s8 :: s9 :: s10 :: s11 :: s12 :: s13 :: s14 :: s15 :: s16 :: s17 :: s18 :: s19 :: s20 :: s21 :: s22 :: s23 :: s24 :: .val (.list ds) :: Γ) := rfl
@[simp] theorem v25g : (Opd.own 25).half (s0 :: s1 :: s2 :: s3 :: s4 :: s5 :: s6 :: s7 :: s8 :: s9 :: s10 :: s11 :: s12 :: s13 :: s14 :: s15 :: s16 :: s17 :: s18 :: s19 :: s20 :: s21 :: s22 :: s23 :: s24 :: .own (.lst ds) :: Γ) Wr = Wr (.val (.list ds)) (s0 :: s1 :: s2 :: s3 :: s4 :: s5 :: s6 :: s7 :: s8 :: s9 :: s10 :: s11 :: s12 :: s13 :: s14 :: s15 :: s16 :: s17 :: s18 :: s19 :: s20 :: s21 :: s22 :: s23 :: s24 :: .val (.list ds) :: Γ) := rfl
@[simp] theorem v25h : (Opd.own 25).sto (s0 :: s1 :: s2 :: s3 :: s4 :: s5 :: s6 :: s7 :: s8 :: s9 :: s10 :: s11 :: s12 :: s13 :: s14 :: s15 :: s16 :: s17 :: s18 :: s19 :: s20 :: s21 :: s22 :: s23 :: s24 :: .own (.lst ds) :: Γ) Wl = Wl (.val (.list ds)) (s0 :: s1 :: s2 :: s3 :: s4 :: s5 :: s6 :: s7 :: s8 :: s9 :: s10 :: s11 :: s12 :: s13 :: s14 :: s15 :: s16 :: s17 :: s18 :: s19 :: s20 :: s21 :: s22 :: s23 :: s24 :: .val (.list ds) :: Γ) := rfl
@[simp] theorem v25i : retW R js (.own 25) (s0 :: s1 :: s2 :: s3 :: s4 :: s5 :: s6 :: s7 :: s8 :: s9 :: s10 :: s11 :: s12 :: s13 :: s14 :: s15 :: s16 :: s17 :: s18 :: s19 :: s20 :: s21 :: s22 :: s23 :: s24 :: .own c :: Γ) = R (.new c) (ctsAt js (s0 :: s1 :: s2 :: s3 :: s4 :: s5 :: s6 :: s7 :: s8 :: s9 :: s10 :: s11 :: s12 :: s13 :: s14 :: s15 :: s16 :: s17 :: s18 :: s19 :: s20 :: s21 :: s22 :: s23 :: s24 :: .own c :: Γ)) := rfl
@[simp] theorem v25j : DEnv.at (s0 :: s1 :: s2 :: s3 :: s4 :: s5 :: s6 :: s7 :: s8 :: s9 :: s10 :: s11 :: s12 :: s13 :: s14 :: s15 :: s16 :: s17 :: s18 :: s19 :: s20 :: s21 :: s22 :: s23 :: s24 :: .val d :: Γ) 25 = .val d := rfl
@[simp] theorem v25k : DEnv.at (s0 :: s1 :: s2 :: s3 :: s4 :: s5 :: s6 :: s7 :: s8 :: s9 :: s10 :: s11 :: s12 :: s13 :: s14 :: s15 :: s16 :: s17 :: s18 :: s19 :: s20 :: s21 :: s22 :: s23 :: s24 :: .own c :: Γ) 25 = .own c := rfl
@[simp] theorem v25l : DEnv.at (s0 :: s1 :: s2 :: s3 :: s4 :: s5 :: s6 :: s7 :: s8 :: s9 :: s10 :: s11 :: s12 :: s13 :: s14 :: s15 :: s16 :: s17 :: s18 :: s19 :: s20 :: s21 :: s22 :: s23 :: s24 :: .ref c :: Γ) 25 = .ref c := rfl
@[simp] theorem v25m : DEnv.at (s0 :: s1 :: s2 :: s3 :: s4 :: s5 :: s6 :: s7 :: s8 :: s9 :: s10 :: s11 :: s12 :: s13 :: s14 :: s15 :: s16 :: s17 :: s18 :: s19 :: s20 :: s21 :: s22 :: s23 :: s24 :: .non :: Γ) 25 = .non := rfl
@[simp] theorem v26a : wVar 26 (s0 :: s1 :: s2 :: s3 :: s4 :: s5 :: s6 :: s7 :: s8 :: s9 :: s10 :: s11 :: s12 :: s13 :: s14 :: s15 :: s16 :: s17 :: s18 :: s19 :: s20 :: s21 :: s22 :: s23 :: s24 :: s25 :: .val d :: Γ) W = W (.val d) (s0 :: s1 :: s2 :: s3 :: s4 :: s5 :: s6 :: s7 :: s8 :: s9 :: s10 :: s11 :: s12 :: s13 :: s14 :: s15 :: s16 :: s17 :: s18 :: s19 :: s20 :: s21 :: s22 :: s23 :: s24 :: s25 :: .val d :: Γ) := rfl
@[simp] theorem v26b : wVar 26 (s0 :: s1 :: s2 :: s3 :: s4 :: s5 :: s6 :: s7 :: s8 :: s9 :: s10 :: s11 :: s12 :: s13 :: s14 :: s15 :: s16 :: s17 :: s18 :: s19 :: s20 :: s21 :: s22 :: s23 :: s24 :: s25 :: .own c :: Γ) W = W (.own 26) (s0 :: s1 :: s2 :: s3 :: s4 :: s5 :: s6 :: s7 :: s8 :: s9 :: s10 :: s11 :: s12 :: s13 :: s14 :: s15 :: s16 :: s17 :: s18 :: s19 :: s20 :: s21 :: s22 :: s23 :: s24 :: s25 :: .own c :: Γ) := rfl
@[simp] theorem v26c : wVar 26 (s0 :: s1 :: s2 :: s3 :: s4 :: s5 :: s6 :: s7 :: s8 :: s9 :: s10 :: s11 :: s12 :: s13 :: s14 :: s15 :: s16 :: s17 :: s18 :: s19 :: s20 :: s21 :: s22 :: s23 :: s24 :: s25 :: .ref c :: Γ) W = W (.own 26) (s0 :: s1 :: s2 :: s3 :: s4 :: s5 :: s6 :: s7 :: s8 :: s9 :: s10 :: s11 :: s12 :: s13 :: s14 :: s15 :: s16 :: s17 :: s18 :: s19 :: s20 :: s21 :: s22 :: s23 :: s24 :: s25 :: .ref c :: Γ) := rfl
@[simp] theorem v26d : (Opd.own 26).see (s0 :: s1 :: s2 :: s3 :: s4 :: s5 :: s6 :: s7 :: s8 :: s9 :: s10 :: s11 :: s12 :: s13 :: s14 :: s15 :: s16 :: s17 :: s18 :: s19 :: s20 :: s21 :: s22 :: s23 :: s24 :: s25 :: .own c :: Γ) = some c.toD := rfl
@[simp] theorem v26e : (Opd.own 26).see (s0 :: s1 :: s2 :: s3 :: s4 :: s5 :: s6 :: s7 :: s8 :: s9 :: s10 :: s11 :: s12 :: s13 :: s14 :: s15 :: s16 :: s17 :: s18 :: s19 :: s20 :: s21 :: s22 :: s23 :: s24 :: s25 :: .ref c :: Γ) = some c.toD := rfl
@[simp] theorem v26f : (Opd.own 26).frz (s0 :: s1 :: s2 :: s3 :: s4 :: s5 :: s6 :: s7 :: s8 :: s9 :: s10 :: s11 :: s12 :: s13 :: s14 :: s15 :: s16 :: s17 :: s18 :: s19 :: s20 :: s21 :: s22 :: s23 :: s24 :: s25 :: .own (.lst ds) :: Γ) Ws = Ws (.list ds) (s0 :: s1 :: s2 :: s3 :: s4 :: s5 :: s6 :: s7 :: s8 :: s9 :: s10 :: s11 :: s12 :: s13 :: s14 :: s15 :: s16 :: s17 :: s18 :: s19 :: s20 :: s21 :: s22 :: s23 :: s24 :: s25 :: .val (.list ds) :: Γ) := rfl
@[simp] theorem v26g : (Opd.own 26).half (s0 :: s1 :: s2 :: s3 :: s4 :: s5 :: s6 :: s7 :: s8 :: s9 :: s10 :: s11 :: s12 :: s13 :: s14 :: s15 :: s16 :: s17 :: s18 :: s19 :: s20 :: s21 :: s22 :: s23 :: s24 :: s25 :: .own (.lst ds) :: Γ) Wr = Wr (.val (.list ds)) (s0 :: s1 :: s2 :: s3 :: s4 :: s5 :: s6 :: s7 :: s8 :: s9 :: s10 :: s11 :: s12 :: s13 :: s14 :: s15 :: s16 :: s17 :: s18 :: s19 :: s20 :: s21 :: s22 :: s23 :: s24 :: s25 :: .val (.list ds) :: Γ) := rfl
@[simp] theorem v26h : (Opd.own 26).sto (s0 :: s1 :: s2 :: s3 :: s4 :: s5 :: s6 :: s7 :: s8 :: s9 :: s10 :: s11 :: s12 :: s13 :: s14 :: s15 :: s16 :: s17 :: s18 :: s19 :: s20 :: s21 :: s22 :: s23 :: s24 :: s25 :: .own (.lst ds) :: Γ) Wl = Wl (.val (.list ds)) (s0 :: s1 :: s2 :: s3 :: s4 :: s5 :: s6 :: s7 :: s8 :: s9 :: s10 :: s11 :: s12 :: s13 :: s14 :: s15 :: s16 :: s17 :: s18 :: s19 :: s20 :: s21 :: s22 :: s23 :: s24 :: s25 :: .val (.list ds) :: Γ) := rfl
@[simp] theorem v26i : retW R js (.own 26) (s0 :: s1 :: s2 :: s3 :: s4 :: s5 :: s6 :: s7 :: s8 :: s9 :: s10 :: s11 :: s12 :: s13 :: s14 :: s15 :: s16 :: s17 :: s18 :: s19 :: s20 :: s21 :: s22 :: s23 :: s24 :: s25 :: .own c :: Γ) = R (.new c) (ctsAt js (s0 :: s1 :: s2 :: s3 :: s4 :: s5 :: s6 :: s7 :: s8 :: s9 :: s10 :: s11 :: s12 :: s13 :: s14 :: s15 :: s16 :: s17 :: s18 :: s19 :: s20 :: s21 :: s22 :: s23 :: s24 :: s25 :: .own c :: Γ)) := rfl
@[simp] theorem v26j : DEnv.at (s0 :: s1 :: s2 :: s3 :: s4 :: s5 :: s6 :: s7 :: s8 :: s9 :: s10 :: s11 :: s12 :: s13 :: s14 :: s15 :: s16 :: s17 :: s18 :: s19 :: s20 :: s21 :: s22 :: s23 :: s24 :: s25 :: .val d :: Γ) 26 = .val d := rfl
@[simp] theorem v26k : DEnv.at (s0 :: s1 :: s2 :: s3 :: s4 :: s5 :: s6 :: s7 :: s8 :: s9 :: s10 :: s11 :: s12 :: s13 :: s14 :: s15 :: s16 :: s17 :: s18 :: s19 :: s20 :: s21 :: s22 :: s23 :: s24 :: s25 :: .own c :: Γ) 26 = .own c := rfl
@[simp] theorem v26l : DEnv.at (s0 :: s1 :: s2 :: s3 :: s4 :: s5 :: s6 :: s7 :: s8 :: s9 :: s10 :: s11 :: s12 :: s13 :: s14 :: s15 :: s16 :: s17 :: s18 :: s19 :: s20 :: s21 :: s22 :: s23 :: s24 :: s25 :: .ref c :: Γ) 26 = .ref c := rfl
@[simp] theorem v26m : DEnv.at (s0 :: s1 :: s2 :: s3 :: s4 :: s5 :: s6 :: s7 :: s8 :: s9 :: s10 :: s11 :: s12 :: s13 :: s14 :: s15 :: s16 :: s17 :: s18 :: s19 :: s20 :: s21 :: s22 :: s23 :: s24 :: s25 :: .non :: Γ) 26 = .non := rfl
@[simp] theorem v27a : wVar 27 (s0 :: s1 :: s2 :: s3 :: s4 :: s5 :: s6 :: s7 :: s8 :: s9 :: s10 :: s11 :: s12 :: s13 :: s14 :: s15 :: s16 :: s17 :: s18 :: s19 :: s20 :: s21 :: s22 :: s23 :: s24 :: s25 :: s26 :: .val d :: Γ) W = W (.val d) (s0 :: s1 :: s2 :: s3 :: s4 :: s5 :: s6 :: s7 :: s8 :: s9 :: s10 :: s11 :: s12 :: s13 :: s14 :: s15 :: s16 :: s17 :: s18 :: s19 :: s20 :: s21 :: s22 :: s23 :: s24 :: s25 :: s26 :: .val d :: Γ) := rfl
@[simp] theorem v27b : wVar 27 (s0 :: s1 :: s2 :: s3 :: s4 :: s5 :: s6 :: s7 :: s8 :: s9 :: s10 :: s11 :: s12 :: s13 :: s14 :: s15 :: s16 :: s17 :: s18 :: s19 :: s20 :: s21 :: s22 :: s23 :: s24 :: s25 :: s26 :: .own c :: Γ) W = W (.own 27) (s0 :: s1 :: s2 :: s3 :: s4 :: s5 :: s6 :: s7 :: s8 :: s9 :: s10 :: s11 :: s12 :: s13 :: s14 :: s15 :: s16 :: s17 :: s18 :: s19 :: s20 :: s21 :: s22 :: s23 :: s24 :: s25 :: s26 :: .own c :: Γ) := rfl
@[simp] theorem v27c : wVar 27 (s0 :: s1 :: s2 :: s3 :: s4 :: s5 :: s6 :: s7 :: s8 :: s9 :: s10 :: s11 :: s12 :: s13 :: s14 :: s15 :: s16 :: s17 :: s18 :: s19 :: s20 :: s21 :: s22 :: s23 :: s24 :: s25 :: s26 :: .ref c :: Γ) W = W (.own 27) (s0 :: s1 :: s2 :: s3 :: s4 :: s5 :: s6 :: s7 :: s8 :: s9 :: s10 :: s11 :: s12 :: s13 :: s14 :: s15 :: s16 :: s17 :: s18 :: s19 :: s20 :: s21 :: s22 :: s23 :: s24 :: s25 :: s26 :: .ref c :: Γ) := rfl
@[simp] theorem v27d : (Opd.own 27).see (s0 :: s1 :: s2 :: s3 :: s4 :: s5 :: s6 :: s7 :: s8 :: s9 :: s10 :: s11 :: s12 :: s13 :: s14 :: s15 :: s16 :: s17 :: s18 :: s19 :: s20 :: s21 :: s22 :: s23 :: s24 :: s25 :: s26 :: .own c :: Γ) = some c.toD := rfl
@[simp] theorem v27e : (Opd.own 27).see (s0 :: s1 :: s2 :: s3 :: s4 :: s5 :: s6 :: s7 :: s8 :: s9 :: s10 :: s11 :: s12 :: s13 :: s14 :: s15 :: s16 :: s17 :: s18 :: s19 :: s20 :: s21 :: s22 :: s23 :: s24 :: s25 :: s26 :: .ref c :: Γ) = some c.toD := rfl
@[simp] theorem v27f : (Opd.own 27).frz (s0 :: s1 :: s2 :: s3 :: s4 :: s5 :: s6 :: s7 :: s8 :: s9 :: s10 :: s11 :: s12 :: s13 :: s14 :: s15 :: s16 :: s17 :: s18 :: s19 :: s20 :: s21 :: s22 :: s23 :: s24 :: s25 :: s26 :: .own (.lst ds) :: Γ) Ws = Ws (.list ds) (s0 :: s1 :: s2 :: s3 :: s4 :: s5 :: s6 :: s7 :: s8 :: s9 :: s10 :: s11 :: s12 :: s13 :: s14 :: s15 :: s16 :: s17 :: s18 :: s19 :: s20 :: s21 :: s22 :: s23 :: s24 :: s25 :: s26 :: .val (.list ds) :: Γ) := rfl
@[simp] theorem v27g : (Opd.own 27).half (s0 :: s1 :: s2 :: s3 :: s4 :: s5 :: s6 :: s7 :: s8 :: s9 :: s10 :: s11 :: s12 :: s13 :: s14 :: s15 :: s16 :: s17 :: s18 :: s19 :: s20 :: s21 :: s22 :: s23 :: s24 :: s25 :: s26 :: .own (.lst ds) :: Γ) Wr = Wr (.val (.list ds)) (s0 :: s1 :: s2 :: s3 :: s4 :: s5 :: s6 :: s7 :: s8 :: s9 :: s10 :: s11 :: s12 :: s13 :: s14 :: s15 :: s16 :: s17 :: s18 :: s19 :: s20 :: s21 :: s22 :: s23 :: s24 :: s25 :: s26 :: .val (.list ds) :: Γ) := rfl
@[simp] theorem v27h : (Opd.own 27).sto (s0 :: s1 :: s2 :: s3 :: s4 :: s5 :: s6 :: s7 :: s8 :: s9 :: s10 :: s11 :: s12 :: s13 :: s14 :: s15 :: s16 :: s17 :: s18 :: s19 :: s20 :: s21 :: s22 :: s23 :: s24 :: s25 :: s26 :: .own (.lst ds) :: Γ) Wl = Wl (.val (.list ds)) (s0 :: s1 :: s2 :: s3 :: s4 :: s5 :: s6 :: s7 :: s8 :: s9 :: s10 :: s11 :: s12 :: s13 :: s14 :: s15 :: s16 :: s17 :: s18 :: s19 :: s20 :: s21 :: s22 :: s23 :: s24 :: s25 :: s26 :: .val (.list ds) :: Γ) := rfl
@[simp] theorem v27i : retW R js (.own 27) (s0 :: s1 :: s2 :: s3 :: s4 :: s5 :: s6 :: s7 :: s8 :: s9 :: s10 :: s11 :: s12 :: s13 :: s14 :: s15 :: s16 :: s17 :: s18 :: s19 :: s20 :: s21 :: s22 :: s23 :: s24 :: s25 :: s26 :: .own c :: Γ) = R (.new c) (ctsAt js (s0 :: s1 :: s2 :: s3 :: s4 :: s5 :: s6 :: s7 :: s8 :: s9 :: s10 :: s11 :: s12 :: s13 :: s14 :: s15 :: s16 :: s17 :: s18 :: s19 :: s20 :: s21 :: s22 :: s23 :: s24 :: s25 :: s26 :: .own c :: Γ)) := rfl
@[simp] theorem v27j : DEnv.at (s0 :: s1 :: s2 :: s3 :: s4 :: s5 :: s6 :: s7 :: s8 :: s9 :: s10 :: s11 :: s12 :: s13 :: s14 :: s15 :: s16 :: s17 :: s18 :: s19 :: s20 :: s21 :: s22 :: s23 :: s24 :: s25 :: s26 :: .val d :: Γ) 27 = .val d := rfl
@[simp] theorem v27k : DEnv.at (s0 :: s1 :: s2 :: s3 :: s4 :: s5 :: s6 :: s7 :: s8 :: s9 :: s10 :: s11 :: s12 :: s13 :: s14 :: s15 :: s16 :: s17 :: s18 :: s19 :: s20 :: s21 :: s22 :: s23 :: s24 :: s25 :: s26 :: .own c :: Γ) 27 = .own c := rfl
@[simp] theorem v27l : DEnv.at (s0 :: s1 :: s2 :: s3 :: s4 :: s5 :: s6 :: s7 :: s8 :: s9 :: s10 :: s11 :: s12 :: s13 :: s14 :: s15 :: s16 :: s17 :: s18 :: s19 :: s20 :: s21 :: s22 :: s23 :: s24 :: s25 :: s26 :: .ref c :: Γ) 27 = .ref c := rfl
@[simp] theorem v27m : DEnv.at (s0 :: s1 :: s2 :: s3 :: s4 :: s5 :: s6 :: s7 :: s8 :: s9 :: s10 :: s11 :: s12 :: s13 :: s14 :: s15 :: s16 :: s17 :: s18 :: s19 :: s20 :: s21 :: s22 :: s23 :: s24 :: s25 :: s26 :: .non :: Γ) 27 = .non := rfl
@[simp] theorem v28a : wVar 28 (s0 :: s1 :: s2 :: s3 :: s4 :: s5 :: s6 :: s7 :: s8 :: s9 :: s10 :: s11 :: s12 :: s13 :: s14 :: s15 :: s16 :: s17 :: s18 :: s19 :: s20 :: s21 :: s22 :: s23 :: s24 :: s25 :: s26 :: s27 :: .val d :: Γ) W = W (.val d) (s0 :: s1 :: s2 :: s3 :: s4 :: s5 :: s6 :: s7 :: s8 :: s9 :: s10 :: s11 :: s12 :: s13 :: s14 :: s15 :: s16 :: s17 :: s18 :: s19 :: s20 :: s21 :: s22 :: s23 :: s24 :: s25 :: s26 :: s27 :: .val d :: Γ) := rfl
@[simp] theorem v28b : wVar 28 (s0 :: s1 :: s2 :: s3 :: s4 :: s5 :: s6 :: s7 :: s8 :: s9 :: s10 :: s11 :: s12 :: s13 :: s14 :: s15 :: s16 :: s17 :: s18 :: s19 :: s20 :: s21 :: s22 :: s23 :: s24 :: s25 :: s26 :: s27 :: .own c :: Γ) W = W (.own 28) (s0 :: s1 :: s2 :: s3 :: s4 :: s5 :: s6 :: s7 :: s8 :: s9 :: s10 :: s11 :: s12 :: s13 :: s14 :: s15 :: s16 :: s17 :: s18 :: s19 :: s20 :: s21 :: s22 :: s23 :: s24 :: s25 :: s26 :: s27 :: .own c :: Γ) := rfl
@[simp] theorem v28c : wVar 28 (s0 :: s1 :: s2 :: s3 :: s4 :: s5 :: s6 :: s7 :: s8 :: s9 :: s10 :: s11 :: s12 :: s13 :: s14 :: s15 :: s16 :: s17 :: s18 :: s19 :: s20 :: s21 :: s22 :: s23 :: s24 :: s25 :: s26 :: s27 :: .ref c :: Γ) W = W (.own 28) (s0 :: s1 :: s2 :: s3 :: s4 :: s5 :: s6 :: s7 :: s8 :: s9 :: s10 :: s11 :: s12 :: s13 :: s14 :: s15 :: s16 :: s17 :: s18 :: s19 :: s20 :: s21 :: s22 :: s23 :: s24 :: s25 :: s26 :: s27 :: .ref c :: Γ) := rfl
@[simp] theorem v28d : (Opd.own 28).see (s0 :: s1 :: s2 :: s3 :: s4 :: s5 :: s6 :: s7 :: s8 :: s9 :: s10 :: s11 :: s12 :: s13 :: s14 :: s15 :: s16 :: s17 :: s18 :: s19 :: s20 :: s21 :: s22 :: s23 :: s24 :: s25 :: s26 :: s27 :: .own c :: Γ) = some c.toD := rfl
@[simp] theorem v28e : (Opd.own 28).see (s0 :: s1 :: s2 :: s3 :: s4 :: s5 :: s6 :: s7 :: s8 :: s9 :: s10 :: s11 :: s12 :: s13 :: s14 :: s15 :: s16 :: s17 :: s18 :: s19 :: s20 :: s21 :: s22 :: s23 :: s24 :: s25 :: s26 :: s27 :: .ref c :: Γ) = some c.toD := rfl
@[simp] theorem v28f : (Opd.own 28).frz (s0 :: s1 :: s2 :: s3 :: s4 :: s5 :: s6 :: s7 :: s8 :: s9 :: s10 :: s11 :: s12 :: s13 :: s14 :: s15 :: s16 :: s17 :: s18 :: s19 :: s20 :: s21 :: s22 :: s23 :: s24 :: s25 :: s26 :: s27 :: .own (.lst ds) :: Γ) Ws = Ws (.list ds) (s0 :: s1 :: s2 :: s3 :: s4 :: s5 :: s6 :: s7 :: s8 :: s9 :: s10 :: s11 :: s12 :: s13 :: s14 :: s15 :: s16 :: s17 :: s18 :: s19 :: s20 :: s21 :: s22 :: s23 :: s24 :: s25 :: s26 :: s27 :: .val (.list ds) :: Γ) := rfl
@[simp] theorem v28g : (Opd.own 28).half (s0 :: s1 :: s2 :: s3 :: s4 :: s5 :: s6 :: s7 :: s8 :: s9 :: s10 :: s11 :: s12 :: s13 :: s14 :: s15 :: s16 :: s17 :: s18 :: s19 :: s20 :: s21 :: s22 :: s23 :: s24 :: s25 :: s26 :: s27 :: .own (.lst ds) :: Γ) Wr = Wr (.val (.list ds)) (s0 :: s1 :: s2 :: s3 :: s4 :: s5 :: s6 :: s7 :: s8 :: s9 :: s10 :: s11 :: s12 :: s13 :: s14 :: s15 :: s16 :: s17 :: s18 :: s19 :: s20 :: s21 :: s22 :: s23 :: s24 :: s25 :: s26 :: s27 :: .val (.list ds) :: Γ) := rfl
@[simp] theorem v28h : (Opd.own 28).sto (s0 :: s1 :: s2 :: s3 :: s4 :: s5 :: s6 :: s7 :: s8 :: s9 :: s10 :: s11 :: s12 :: s13 :: s14 :: s15 :: s16 :: s17 :: s18 :: s19 :: s20 :: s21 :: s22 :: s23 :: s24 :: s25 :: s26 :: s27 :: .own (.lst ds) :: Γ) Wl = Wl (.val (.list ds)) (s0 :: s1 :: s2 :: s3 :: s4 :: s5 :: s6 :: s7 :: s8 :: s9 :: s10 :: s11 :: s12 :: s13 :: s14 :: s15 :: s16 :: s17 :: s18 :: s19 :: s20 :: s21 :: s22 :: s23 :: s24 :: s25 :: s26 :: s27 :: .val (.list ds) :: Γ) := rfl
@[simp] theorem v28i : retW R js (.own 28) (s0 :: s1 :: s2 :: s3 :: s4 :: s5 :: s6 :: s7 :: s8 :: s9 :: s10 :: s11 :: s12 :: s13 :: s14 :: s15 :: s16 :: s17 :: s18 :: s19 :: s20 :: s21 :: s22 :: s23 :: s24 :: s25 :: s26 :: s27 :: .own c :: Γ) = R (.new c) (ctsAt js (s0 :: s1 :: s2 :: s3 :: s4 :: s5 :: s6 :: s7 :: s8 :: s9 :: s10 :: s11 :: s12 :: s13 :: s14 :: s15 :: s16 :: s17 :: s18 :: s19 :: s20 :: s21 :: s22 :: s23 :: s24 :: s25 :: s26 :: s27 :: .own c :: Γ)) := rfl
@[simp] theorem v28j : DEnv.at (s0 :: s1 :: s2 :: s3 :: s4 :: s5 :: s6 :: s7 :: s8 :: s9 :: s10 :: s11 :: s12 :: s13 :: s14 :: s15 :: s16 :: s17 :: s18 :: s19 :: s20 :: s21 :: s22 :: s23 :: s24 :: s25 :: s26 :: s27 :: .val d :: Γ) 28 = .val d := rfl
@[simp] theorem v28k : DEnv.at (s0 :: s1 :: s2 :: s3 :: s4 :: s5 :: s6 :: s7 :: s8 :: s9 :: s10 :: s11 :: s12 :: s13 :: s14 :: s15 :: s16 :: s17 :: s18 :: s19 :: s20 :: s21 :: s22 :: s23 :: s24 :: s25 :: s26 :: s27 :: .own c :: Γ) 28 = .own c := rfl
@[simp] theorem v28l : DEnv.at (s0 :: s1 :: s2 :: s3 :: s4 :: s5 :: s6 :: s7 :: s8 :: s9 :: s10 :: s11 :: s12 :: s13 :: s14 :: s15 :: s16 :: s17 :: s18 :: s19 :: s20 :: s21 :: s22 :: s23 :: s24 :: s25 :: s26 :: s27 :: .ref c :: Γ) 28 = .ref c := rfl
@[simp] theorem v28m : DEnv.at (s0 :: s1 :: s2 :: s3 :: s4 :: s5 :: s6 :: s7 :: s8 :: s9 :: s10 :: s11 :: s12 :: s13 :: s14 :: s15 :: s16 :: s17 :: s18 :: s19 :: s20 :: s21 :: s22 :: s23 :: s24 :: s25 :: s26 :: s27 :: .non :: Γ) 28 = .non := rfl
@[simp] theorem v29a : wVar 29 (s0 :: s1 :: s2 :: s3 :: s4 :: s5 :: s6 :: s7 :: s8 :: s9 :: s10 :: s11 :: s12 :: s13 :: s14 :: s15 :: s16 :: s17 :: s18 :: s19 :: s20 :: s21 :: s22 :: s23 :: s24 :: s25 :: s26 :: s27 :: s28 :: .val d :: Γ) W = W (.val d) (s0 :: s1 :: s2 :: s3 :: s4 :: s5 :: s6 :: s7 :: s8 :: s9 :: s10 :: s11 :: s12 :: s13 :: s14 :: s15 :: s16 :: s17 :: s18 :: s19 :: s20 :: s21 :: s22 :: s23 :: s24 :: s25 :: s26 :: s27 :: s28 :: .val d :: Γ) := rfl
@[simp] theorem v29b : wVar 29 (s0 :: s1 :: s2 :: s3 :: s4 :: s5 :: s6 :: s7 :: s8 :: s9 :: s10 :: s11 :: s12 :: s13 :: s14 :: s15 :: s16 :: s17 :: s18 :: s19 :: s20 :: s21 :: s22 :: s23 :: s24 :: s25 :: s26 :: s27 :: s28 :: .own c :: Γ) W = W (.own 29) (s0 :: s1 :: s2 :: s3 :: s4 :: s5 :: s6 :: s7 :: s8 :: s9 :: s10 :: s11 :: s12 :: s13 :: s14 :: s15 :: s16 :: s17 :: s18 :: s19 :: s20 :: s21 :: s22 :: s23 :: s24 :: s25 :: s26 :: s27 :: s28 :: .own c :: Γ) := rfl
@[simp] theorem v29c : wVar 29 (s0 :: s1 :: s2 :: s3 :: s4 :: s5 :: s6 :: s7 :: s8 :: s9 :: s10 :: s11 :: s12 :: s13 :: s14 :: s15 :: s16 :: s17 :: s18 :: s19 :: s20 :: s21 :: s22 :: s23 :: s24 :: s25 :: s26 :: s27 :: s28 :: .ref c :: Γ) W = W (.own 29) (s0 :: s1 :: s2 :: s3 :: s4 :: s5 :: s6 :: s7 :: s8 :: s9 :: s10 :: s11 :: s12 :: s13 :: s14 :: s15 :: s16 :: s17 :: s18 :: s19 :: s20 :: s21 :: s22 :: s23 :: s24 :: s25 :: s26 :: s27 :: s28 :: .ref c :: Γ) := rfl
@[simp] theorem v29d : (Opd.own 29).see (s0 :: s1 :: s2 :: s3 :: s4 :: s5 :: s6 :: s7 :: s8 :: s9 :: s10 :: s11 :: s12 :: s13 :: s14 :: s15 :: s16 :: s17 :: s18 :: s19 :: s20 :: s21 :: s22 :: s23 :: s24 :: s25 :: s26 :: s27 :: s28 :: .own c :: Γ) = some c.toD := rfl
@[simp] theorem v29e : (Opd.own 29).see (s0 :: s1 :: s2 :: s3 :: s4 :: s5 :: s6 :: s7 :: s8 :: s9 :: s10 :: s11 :: s12 :: s13 :: s14 :: s15 :: s16 :: s17 :: s18 :: s19 :: s20 :: s21 :: s22 :: s23 :: s24 :: s25 :: s26 :: s27 :: s28 :: .ref c :: Γ) = some c.toD := rfl
@[simp] theorem v29f : (Opd.own 29).frz (s0 :: s1 :: s2 :: s3 :: s4 :: s5 :: s6 :: s7 :: s8 :: s9 :: s10 :: s11 :: s12 :: s13 :: s14 :: s15 :: s16 :: s17 :: s18 :: s19 :: s20 :: s21 :: s22 :: s23 :: s24 :: s25 :: s26 :: s27 :: s28 :: .own (.lst ds) :: Γ) Ws = Ws (.list ds) (s0 :: s1 :: s2 :: s3 :: s4 :: s5 :: s6 :: s7 :: s8 :: s9 :: s10 :: s11 :: s12 :: s13 :: s14 :: s15 :: s16 :: s17 :: s18 :: s19 :: s20 :: s21 :: s22 :: s23 :: s24 :: s25 :: s26 :: s27 :: s28 :: .val (.list ds) :: Γ) := rfl
@[simp] theorem v29g : (Opd.own 29).half (s0 :: s1 :: s2 :: s3 :: s4 :: s5 :: s6 :: s7 :: s8 :: s9 :: s10 :: s11 :: s12 :: s13 :: s14 :: s15 :: s16 :: s17 :: s18 :: s19 :: s20 :: s21 :: s22 :: s23 :: s24 :: s25 :: s26 :: s27 :: s28 :: .own (.lst ds) :: Γ) Wr = Wr (.val (.list ds)) (s0 :: s1 :: s2 :: s3 :: s4 :: s5 :: s6 :: s7 :: s8 :: s9 :: s10 :: s11 :: s12 :: s13 :: s14 :: s15 :: s16 :: s17 :: s18 :: s19 :: s20 :: s21 :: s22 :: s23 :: s24 :: s25 :: s26 :: s27 :: s28 :: .val (.list ds) :: Γ) := rfl
@[simp] theorem v29h : (Opd.own 29).sto (s0 :: s1 :: s2 :: s3 :: s4 :: s5 :: s6 :: s7 :: s8 :: s9 :: s10 :: s11 :: s12 :: s13 :: s14 :: s15 :: s16 :: s17 :: s18 :: s19 :: s20 :: s21 :: s22 :: s23 :: s24 :: s25 :: s26 :: s27 :: s28 :: .own (.lst ds) :: Γ) Wl = Wl (.val (.list ds)) (s0 :: s1 :: s2 :: s3 :: s4 :: s5 :: s6 :: s7 :: s8 :: s9 :: s10 :: s11 :: s12 :: s13 :: s14 :: s15 :: s16 :: s17 :: s18 :: s19 :: s20 :: s21 :: s22 :: s23 :: s24 :: s25 :: s26 :: s27 :: s28 :: .val (.list ds) :: Γ) := rfl
@[simp] theorem v29i : retW R js (.own 29) (s0 :: s1 :: s2 :: s3 :: s4 :: s5 :: s6 :: s7 :: s8 :: s9 :: s10 :: s11 :: s12 :: s13 :: s14 :: s15 :: s16 :: s17 :: s18 :: s19 :: s20 :: s21 :: s22 :: s23 :: s24 :: s25 :: s26 :: s27 :: s28 :: .own c :: Γ) = R (.new c) (ctsAt js (s0 :: s1 :: s2 :: s3 :: s4 :: s5 :: s6 :: s7 :: s8 :: s9 :: s10 :: s11 :: s12 :: s13 :: s14 :: s15 :: s16 :: s17 :: s18 :: s19 :: s20 :: s21 :: s22 :: s23 :: s24 :: s25 :: s26 :: s27 :: s28 :: .own c :: Γ)) := rfl
@[simp] theorem v29j : DEnv.at (s0 :: s1 :: s2 :: s3 :: s4 :: s5 :: s6 :: s7 :: s8 :: s9 :: s10 :: s11 :: s12 :: s13 :: s14 :: s15 :: s16 :: s17 :: s18 :: s19 :: s20 :: s21 :: s22 :: s23 :: s24 :: s25 :: s26 :: s27 :: s28 :: .val d :: Γ) 29 = .val d := rfl
@[simp] theorem v29k : DEnv.at (s0 :: s1 :: s2 :: s3 :: s4 :: s5 :: s6 :: s7 :: s8 :: s9 :: s10 :: s11 :: s12 :: s13 :: s14 :: s15 :: s16 :: s17 :: s18 :: s19 :: s20 :: s21 :: s22 :: s23 :: s24 :: s25 :: s26 :: s27 :: s28 :: .own c :: Γ) 29 = .own c := rfl
@[simp] theorem v29l : DEnv.at (s0 :: s1 :: s2 :: s3 :: s4 :: s5 :: s6 :: s7 :: s8 :: s9 :: s10 :: s11 :: s12 :: s13 :: s14 :: s15 :: s16 :: s17 :: s18 :: s19 :: s20 :: s21 :: s22 :: s23 :: s24 :: s25 :: s26 :: s27 :: s28 :: .ref c :: Γ) 29 = .ref c := rfl
@[simp] theorem v29m : DEnv.at (s0 :: s1 :: s2 :: s3 :: s4 :: s5 :: s6 :: s7 :: s8 :: s9 :: s10 :: s11 :: s12 :: s13 :: s14 :: s15 :: s16 :: s17 :: s18 :: s19 :: s20 :: s21 :: s22 :: s23 :: s24 :: s25 :: s26 :: s27 :: s28 :: .non :: Γ) 29 = .non := rfl
@[simp] theorem x_pairD {x y : D} : GS.pairD x y = .tuple [x, y] := rfl
@[simp] theorem x_trD {x y z : D} : trD x y z = .tuple [x, y, z] := rfl
end
/-! ## loops of one kind -/
theorem genW_of {α : Type} {ia : Bool} {g : WG} {we : WE} {vs : List Nat} {E : Bool → DEnv → Prop} {Γ : DEnv} (enc : α → D) (p : α → Bool) : ∀ (xs : List α)
    (_ : ∀ x ∈ xs, ∀ A B : DEnv → Prop, (if p x = ia then A Γ else B Γ) → g (enc x) Γ fun Γ1 => we Γ1 fun o Γ2 => ∃ b, o = .val (.bool b) ∧ plainAll vs Γ2 ∧ if b = ia then A (clr vs Γ2) else B (clr vs Γ2))
    (_ : E (if xs.all (fun x => p x == ia) then ia else !ia) Γ), genW ia g we vs E (xs.map enc) Γ
  | [], _, h => h
  | x :: xs, hs, h => by
    refine hs x List.mem_cons_self (genW ia g we vs E (xs.map enc)) (E (!ia)) ?_
    by_cases q : p x = ia
    · rw [if_pos q]
      refine genW_of enc p xs (fun y hy => hs y (List.mem_cons_of_mem _ hy)) ?_
      have e : (x :: xs).all (fun x => p x == ia) = xs.all (fun x => p x == ia) := by simp [q]
      rw [← e]; exact h
    · rw [if_neg q]
      have e : (x :: xs).all (fun x => p x == ia) = false := by simp [q]
      rw [e] at h; exact h
theorem compW_of {α : Type} {g : WG} {wt : WT} {we : WE} {vs : List Nat} {E : List D → DEnv → Prop} {Γ : DEnv} (enc : α → D) (p : α → Bool) (f : α → D) : ∀ (xs : List α) (acc : List D)
    (_ : ∀ x ∈ xs, ∀ (A : D → DEnv → Prop) (B : DEnv → Prop), (if p x = true then A (f x) Γ else B Γ) → g (enc x) Γ fun Γ1 => wt Γ1 fun k Γ2 => if k = true then we Γ2 fun o Γ3 => o.frz Γ3 fun y Γ4 => plainAll vs Γ4 ∧ A y (clr vs Γ4) else plainAll vs Γ2 ∧ B (clr vs Γ2))
    (_ : E (acc ++ (xs.filter p).map f) Γ), compW g wt we vs E (xs.map enc) acc Γ
  | [], acc, _, h => by simpa using h
  | x :: xs, acc, hs, h => by
    refine hs x List.mem_cons_self (fun y Γ => compW g wt we vs E (xs.map enc) (acc ++ [y]) Γ) (compW g wt we vs E (xs.map enc) acc) ?_
    by_cases q : p x = true
    · rw [if_pos q]
      refine compW_of enc p f xs _ (fun y hy => hs y (List.mem_cons_of_mem _ hy)) ?_
      rw [List.filter_cons_of_pos q] at h
      simpa using h
    · rw [if_neg q]
      refine compW_of enc p f xs _ (fun y hy => hs y (List.mem_cons_of_mem _ hy)) ?_
      rw [List.filter_cons_of_neg q] at h
      exact h
theorem compW_map {α : Type} {g : WG} {we : WE} {vs : List Nat} {E : List D → DEnv → Prop} {Γ : DEnv} (enc : α → D) (f : α → D) (xs : List α)
    (hs : ∀ x ∈ xs, ∀ (A : D → DEnv → Prop), A (f x) Γ → g (enc x) Γ fun Γ1 => we Γ1 fun o Γ3 => o.frz Γ3 fun y Γ4 => plainAll vs Γ4 ∧ A y (clr vs Γ4))
    (h : E (xs.map f) Γ) : compW g wtYes we vs E (xs.map enc) [] Γ := by
  refine compW_of enc (fun _ => true) f xs [] (fun x hx A B hA => ?_) (by rw [List.filter_eq_self.mpr (fun _ _ => rfl)]; exact h)
  have := hs x hx A (by simpa using hA)
  simpa using this
end GS
end

section
set_option Elab.async false
set_option linter.all false
set_option maxRecDepth 100000
set_option maxHeartbeats 1000000
namespace GSP
open PySem PySem.Spec PyProof.Rows L2 GS

/-! ## what the defs of the program compute -/
inductive Part where
  | line
  | all
  | apart (p : Int)
  | deep (p : Int)
  | ring (p n : Int)
  deriving DecidableEq
def encPart : Part → D
  | .line => .tuple [.str "line"]
  | .all => .tuple [.str "all"]
  | .apart p => .tuple [.str "apart", .int p]
  | .deep p => .tuple [.str "deep", .int p]
  | .ring p n => .tuple [.str "ring", .int p, .int n]
abbrev Group := List (Part × Int)
def encPM (x : Part × Int) : D := .tuple [encPart x.1, .int x.2]
def encGroup (g : Group) : D := .tuple (g.map encPM)
/-- a row of n numbers -/
abbrev Row := Int × List Int
def encRow (r : Row) : D := .tuple [.int r.1, .tuple (r.2.map .int)]
def encLot (l : List Row) : D := .tuple (l.map encRow)
/-- lots of one letter -/
abbrev Lot1 := List (Int × Int)
def up1 (l : Lot1) : List Row := l.map fun r => (r.1, [r.2])
def encLot1 (l : Lot1) : D := encLot (up1 l)
def encPair (x : Lot1 × Lot1 × Int) : D := .tuple [encLot1 x.1, encLot1 x.2.1, .int x.2.2]
def encPairs (l : List (Lot1 × Lot1 × Int)) : D := .tuple (l.map encPair)
def encII (x : Int × Int) : D := .tuple [.int x.1, .int x.2]
def optD : Option Int → D
  | none => .none
  | some i => .int i

def isIntD : D → Bool
  | .int _ => true
  | _ => false
def sp_is_integer : SpecFn := fun args W => ∃ d, args = [.val d] ∧ (∀ kvs, d ≠ .dict kvs) ∧ W (.val (.bool (isIntD d))) []
def sp_is_natural : SpecFn := fun args W => ∃ i : Int, args = [.val (.int i)] ∧ W (.val (.bool (decide (0 ≤ i)))) []
def sp_are_integers : SpecFn := fun args W => ∃ (ns : List Int) (n : Int), args = [.val (.tuple (ns.map .int)), .val (.int n)] ∧ W (.val (.bool (decide ((ns.length : Int) = n)))) []
/-- each is below the next -/
def Asc (xs : List D) : Prop := ∀ i x y, xs[i]? = some x → xs[i + 1]? = some y → (PySem.W.alike x y = true ∧ x.depth ≤ 64 ∧ x ≠ .none) ∧ PySem.W.dataLt x y = true
def sp_is_ascending : SpecFn := fun args W => ∃ xs : List D, args = [.val (.list xs)] ∧ Asc xs ∧ W (.val (.bool true)) []
def expoF : Nat → Int → Int → Nat
  | 0, _, _ => 0
  | k + 1, p, n => if n.fmod p = 0 then 1 + expoF k p (n.fdiv p) else 0
def expo (p n : Int) : Nat := expoF 62 p n
def sp_exponent_of : SpecFn := fun args W => ∃ p n : Int, args = [.val (.int p), .val (.int n)] ∧ (2 ≤ p ∧ p < 536870912 ∧ n ≠ 0 ∧ n.natAbs < 2 ^ 62) ∧ W (.val (.int (expo p n))) []
def stripF : Nat → Int → Int → Int
  | 0, _, n => n
  | k + 1, p, n => if n.fmod p = 0 then stripF k p (n.fdiv p) else n
def ppwF : Nat → List (Int × Int) → Int → Int → List (Int × Int)
  | 0, found, _, _ => found
  | k + 1, found, left, p =>
    if p * p ≤ left then
      if left.fmod p = 0 then ppwF k (found ++ [(p, (expo p left : Int))]) (stripF 62 p left) (p + 1) else ppwF k found left (p + 1)
    else if 1 < left then found ++ [(left, 1)] else found
def ppw (n : Int) : List (Int × Int) := ppwF (n.toNat + 1) [] n 2
def sp_prime_powers : SpecFn := fun args W => ∃ n : Int, args = [.val (.int n)] ∧ (1 ≤ n ∧ n < 1000000) ∧ W (.new (.lst ((ppw n).map encII))) []
def isPrimeI (n : Int) : Bool := decide (1 < n) && decide (ppw n = [(n, 1)])
def sp_is_prime : SpecFn := fun args W => ∃ n : Int, args = [.val (.int n)] ∧ n < 1000000 ∧ W (.val (.bool (isPrimeI n))) []
def sp_is_a_prime : SpecFn := fun args W => ∃ n : Int, args = [.val (.int n)] ∧ n < 1000000 ∧ W (.val (.bool (isPrimeI n))) []
def GoodPrime (p : Int) : Prop := isPrimeI p = true ∧ 2 ≤ p ∧ p < 1000000
def GoodPart : Part → Prop
  | .line => True
  | .all => True
  | .apart p => GoodPrime p
  | .deep p => GoodPrime p
  | .ring p n => GoodPrime p ∧ 0 < n ∧ n ≤ 20
def sp_is_part_in : SpecFn := fun args W => ∃ x : Part, args = [.val (encPart x)] ∧ GoodPart x ∧ W (.val (.bool true)) []
def GoodPM (x : Part × Int) : Prop := GoodPart x.1 ∧ (x.2 = -1 ∨ 0 < x.2)
def sp_is_counted : SpecFn := fun args W => ∃ x : Part × Int, args = [.val (encPM x)] ∧ GoodPM x ∧ W (.val (.bool true)) []
def partLt (x y : Part) : Bool := PySem.W.dataLt (encPart x) (encPart y)
def GoodGroup (g : Group) : Prop := (∀ x ∈ g, GoodPM x) ∧ (g.map (·.1)).Pairwise (fun a b => partLt a b = true)
def sp_is_group_in : SpecFn := fun args W => ∃ g : Group, args = [.val (encGroup g)] ∧ GoodGroup g ∧ W (.val (.bool true)) []
def sp_check_group : SpecFn := fun args W => ∃ g : Group, args = [.val (encGroup g)] ∧ GoodGroup g ∧ W (.val .none) []
def cnt (a b : Int) : Int := if a = -1 ∨ b = -1 then -1 else a + b
def sp_counted : SpecFn := fun args W => ∃ a b : Int, args = [.val (.int a), .val (.int b)] ∧ W (.val (.int (cnt a b))) []
def setG (l : Group) (p : Part) (m : Int) : Group := if l.any (fun y => decide (y.1 = p)) then l.map (fun y => if y.1 = p then (y.1, m) else y) else l ++ [(p, m)]
def addG (acc : Group) (x : Part × Int) : Group := setG acc x.1 (match acc.find? fun y => decide (y.1 = x.1) with
  | some y => cnt y.2 x.2
  | none => x.2)
def mergeG (l : Group) : Group := l.foldl addG []
def sortG (l : Group) : Group := l.mergeSort fun a b => PySem.W.dataLe false encPM a b
def groupIn (l : Group) : Group := sortG (mergeG l)
def sp_group_in : SpecFn := fun args W => ∃ l : Group, args = [.val (encGroup l)] ∧ l.length ≤ 1000 ∧ W (.val (encGroup (groupIn l))) []
def sp_sum_of : SpecFn := fun args W => ∃ g h : Group, args = [.val (encGroup g), .val (encGroup h)] ∧ (GoodGroup g ∧ GoodGroup h ∧ g.length ≤ 500 ∧ h.length ≤ 500) ∧ W (.val (encGroup (groupIn (g ++ h)))) []
def GoodRow (n : Nat) (r : Row) : Prop := 0 ≤ r.1 ∧ r.2.length = n
def sp_is_row_in : SpecFn := fun args W => ∃ (n : Nat) (r : Row), args = [.val (.int n), .val (encRow r)] ∧ GoodRow n r ∧ W (.val (.bool true)) []
def sp_is_lot_in : SpecFn := fun args W => ∃ (n : Nat) (l : List Row), args = [.val (.int n), .val (encLot l)] ∧ (∀ r ∈ l, GoodRow n r) ∧ W (.val (.bool true)) []
def sp_check_lot : SpecFn := fun args W => ∃ (n : Nat) (l : List Row), args = [.val (.int n), .val (encLot l)] ∧ (∀ r ∈ l, GoodRow n r) ∧ W (.val .none) []
def sp_raised : SpecFn := fun args W => ∃ p m : Int, args = [.val (.int p), .val (.int m)] ∧ (p.natAbs < 2 ^ 2000 ∧ m ≤ 400 ∧ -1000 ≤ m) ∧ W (.val (.int (p ^ m.toNat))) []
/-- rows of one letter that the formulas take -/
def Small1 (l : Lot1) : Prop := l.length ≤ 20 ∧ ∀ r ∈ l, 0 ≤ r.1 ∧ r.1 < 1000000 ∧ r.2.natAbs < 1000000
def mz (l : Lot1) : Bool := l.any fun r => decide (r.1 = 0) && !decide (r.2 = 0)
def sp_makes_zero : SpecFn := fun args W => ∃ l : Lot1, args = [.val (encLot1 l)] ∧ W (.val (.bool (mz l))) []
def ownD (r : Int × Int) : Int := if 0 < r.1 then r.1.fdiv ((Nat.gcd r.1.natAbs r.2.natAbs : Nat) : Int) else 1
def lcmD (f own : Int) : Int := (f * own).fdiv ((Nat.gcd f.natAbs own.natAbs : Nat) : Int)
def mult (l : Lot1) : Int := if mz l then 0 else l.foldl (fun f r => lcmD f (ownD r)) 1
def sp_multiple_in : SpecFn := fun args W => ∃ l : Lot1, args = [.val (encLot1 l)] ∧ Small1 l ∧ W (.val (.int (mult l))) []
def rowExp (p most : Int) (r : Int × Int) : Int := (if 0 < r.1 then min most (expo p r.1) else most) - (expo p r.2 : Int)
def exIn (p : Int) (l : Lot1) (most : Int) : Int := l.foldl (fun f r => if r.2 = 0 then f else max f (rowExp p most r)) 0
def P29 (p : Int) : Prop := 2 ≤ p ∧ p < 1000000
def sp_exponent_in : SpecFn := fun args W => ∃ (p : Int) (l : Lot1) (most : Int), args = [.val (.int p), .val (encLot1 l), .val (.int most)] ∧ (P29 p ∧ Small1 l) ∧ W (.val (.int (exIn p l most))) []
def torsL (p : Int) (l : Lot1) : List Int := (l.filter fun r => decide (r.1 = 0) && !decide (r.2 = 0)).map fun r => (expo p r.2 : Int)
def minOf : List Int → Int
  | [] => 0
  | x :: xs => xs.foldl min x
def maxOf : List Int → Int
  | [] => 0
  | x :: xs => xs.foldl max x
def sp_torsion_in : SpecFn := fun args W => ∃ (p : Int) (l : Lot1), args = [.val (.int p), .val (encLot1 l)] ∧ (P29 p ∧ Small1 l ∧ mz l = true) ∧ W (.val (.int (minOf (torsL p l)))) []
def grEx (p : Int) (l : Lot1) : Int := maxOf (0 :: (l.filter fun r => decide (0 < r.1)).map fun r => (expo p r.1 : Int))
def sp_greatest_exponent : SpecFn := fun args W => ∃ (p : Int) (l : Lot1), args = [.val (.int p), .val (encLot1 l)] ∧ (P29 p ∧ Small1 l) ∧ W (.val (.int (grEx p l))) []
def ixLine (one both : Lot1) : Option Int := if mult one = 0 then some 1 else if 0 < mult both then some ((mult both).fdiv (mult one)) else none
def sp_index_of_line : SpecFn := fun args W => ∃ one both : Lot1, args = [.val (encLot1 one), .val (encLot1 both)] ∧ (Small1 one ∧ Small1 both) ∧ W (.val (optD (ixLine one both))) []
def ixPart (x : Part) (one both : Lot1) : Option Int := match x with
  | .line => ixLine one both
  | .ring p n => some (p ^ (exIn p both n - exIn p one n).toNat)
  | .deep p => if mz both = false then some 1 else if mz one = true then some (p ^ (minOf (torsL p one) - minOf (torsL p both)).toNat) else none
  | .all => if mz one = true then some 1 else if mz both = true then none else some 1
  | .apart p => if mz one = true then some 1 else if mz both = true then none else some (p ^ (exIn p both (grEx p both) - exIn p one (grEx p both)).toNat)
def sp_index_of_part : SpecFn := fun args W => ∃ (x : Part) (one both : Lot1), args = [.val (encPart x), .val (encLot1 one), .val (encLot1 both)] ∧ (GoodPart x ∧ Small1 one ∧ Small1 both) ∧ W (.val (optD (ixPart x one both))) []
/-- the index in a group: the parts' indexes, many times; none: it is not finite -/
def ixOf : Group → Lot1 → Lot1 → Int → Option Int
  | [], _, _, f => some f
  | (x, m) :: g, one, other, f => match ixPart x one (one ++ other) with
    | none => none
    | some own => if 1 < own ∧ m = -1 then none else ixOf g one other (f * own ^ (if 1 < own then m.toNat else 0))
def SmallG (g : Group) : Prop := g.length ≤ 15 ∧ ∀ x ∈ g, x.2 ≤ 50
def Fits (g : Group) (one other : Lot1) : Prop := GoodGroup g ∧ SmallG g ∧ Small1 one ∧ Small1 other ∧ one.length + other.length ≤ 20
def sp_index_of : SpecFn := fun args W => ∃ (g : Group) (one other : Lot1), args = [.val (encGroup g), .val (encLot1 one), .val (encLot1 other)] ∧ Fits g one other ∧ W (.val (optD (ixOf g one other 1))) []
def sp_index_in : SpecFn := fun args W => ∃ (g : Group) (one other : Lot1), args = [.val (encGroup g), .val (encLot1 one), .val (encLot1 other)] ∧ Fits g one other ∧ W (.val (optD (ixOf g one other 1))) []
abbrev Pr := Lot1 × Lot1 × Int
def GoodPr (x : Pr) : Prop := (∀ r ∈ x.1, 0 ≤ r.1) ∧ (∀ r ∈ x.2.1, 0 ≤ r.1) ∧ 0 < x.2.2
def sp_is_pair_in : SpecFn := fun args W => ∃ x : Pr, args = [.val (encPair x)] ∧ GoodPr x ∧ W (.val (.bool true)) []
def sp_check_pairs : SpecFn := fun args W => ∃ l : List Pr, args = [.val (encPairs l)] ∧ (∀ x ∈ l, GoodPr x) ∧ W (.val .none) []
def cap (i : Option Int) (most : Int) : Int := match i with
  | none => most
  | some i => min i most
def sp_capped : SpecFn := fun args W => ∃ (i : Option Int) (most : Int), args = [.val (optD i), .val (.int most)] ∧ W (.val (.int (cap i most))) []
def vecOf (g : Group) (l : List Pr) : List Int := l.map fun x => cap (ixOf g x.1 x.2.1 1) x.2.2
def FitsAll (g : Group) (l : List Pr) : Prop := GoodGroup g ∧ SmallG g ∧ ∀ x ∈ l, GoodPr x ∧ Small1 x.1 ∧ Small1 x.2.1 ∧ x.1.length + x.2.1.length ≤ 20
def sp_vector_in : SpecFn := fun args W => ∃ (g : Group) (l : List Pr), args = [.val (encGroup g), .val (encPairs l)] ∧ FitsAll g l ∧ W (.val (.tuple ((vecOf g l).map .int))) []
def sp_vector_of : SpecFn := fun args W => ∃ (g : Group) (l : List Pr), args = [.val (encGroup g), .val (encPairs l)] ∧ FitsAll g l ∧ W (.val (.tuple ((vecOf g l).map .int))) []
end GSP
end

section
set_option Elab.async false
set_option linter.all false
set_option maxRecDepth 100000
namespace GSP
open PySem PySem.Spec PyProof.Rows L2 GS
abbrev N_is_integer : List Str := ["value"]
def w_is_integer : WS :=
  (wRet (wAnd (w1 (wVar 0) (isiD .int)) (wNot (w1 (wVar 0) (isiD .bool)))))

abbrev N_is_natural : List Str := ["value"]
def w_is_natural : WS :=
  (wRet (wAnd (wCall sp_is_integer (wrVal (wVar 0) wrNil)) (wCmp .ge (wVar 0) (wC (.int 0)))))

abbrev N_are_integers : List Str := ["value", "size", "one"]
def w_are_integers : WS :=
  (wRet (wAnd (w1 (wVar 0) (isiD .tuple)) (wAnd (wCmp .eq (w1 (wVar 0) lenW) (wVar 1)) (wGen true (wiRow (wVar 0)) (wgName 2) (wCall sp_is_integer (wrVal (wVar 2) wrNil)) [2]))))

abbrev N_is_ascending : List Str := ["items", "one", "other"]
def w_is_ascending : WS :=
  (wRet (wGen true (wiZip (wvCons (wVar 0) (wvCons (wSlc (wVar 0) (woSome (wC (.int 1))) woNone) wvNil))) (wgTup 2 (wgCons (wgName 1) (wgCons (wgName 2) wgNil))) (wCmp .lt (wVar 1) (wVar 2)) [1, 2]))

abbrev N_exponent_of : List Str := ["p", "number", "found", "left"]
def w_exponent_of : WS :=
  (wSeq (wPar [2, 3] (wpCons (wC (.int 0)) (wpCons (wVar 1) wpNil)))
  (wSeq (wWhl (wTst (wCmp .eq (wBin .mod (wVar 3) (wVar 0)) (wC (.int 0)))) (wSeq (wAug 2 (fun i j => i + j) (wC (.int 1)))
  (wSet 3 (wBin .fdiv (wVar 3) (wVar 0)))))
  (wRet (wVar 2))))

abbrev N_prime_powers : List Str := ["number", "found", "left", "p"]
def w_prime_powers : WS :=
  (wSeq (wPar [1, 2, 3] (wpCons (wLst wvNil) (wpCons (wVar 0) (wpCons (wC (.int 2)) wpNil))))
  (wSeq (wWhl (wTst (wCmp .le (wBin .mul (wVar 3) (wVar 3)) (wVar 2))) (wSeq (wIf (wTst (wCmp .eq (wBin .mod (wVar 2) (wVar 3)) (wC (.int 0)))) (wApp 1 (wTup (wvCons (wVar 3) (wvCons (wCall sp_exponent_of (wrVal (wVar 3) (wrVal (wVar 2) wrNil))) wvNil)))) wNext)
  (wSeq (wWhl (wTst (wCmp .eq (wBin .mod (wVar 2) (wVar 3)) (wC (.int 0)))) (wSet 2 (wBin .fdiv (wVar 2) (wVar 3))))
  (wAug 3 (fun i j => i + j) (wC (.int 1))))))
  (wRet (wIfe (wTst (wCmp .gt (wVar 2) (wC (.int 1)))) (wBin .add (wVar 1) (wLst (wvCons (wTup (wvCons (wVar 2) (wvCons (wC (.int 1)) wvNil))) wvNil))) (wVar 1)))))

abbrev N_is_prime : List Str := ["number"]
def w_is_prime : WS :=
  (wRet (wAnd (wCmp .gt (wVar 0) (wC (.int 1))) (wCmp .eq (wCall sp_prime_powers (wrVal (wVar 0) wrNil)) (wLst (wvCons (wTup (wvCons (wVar 0) (wvCons (wC (.int 1)) wvNil))) wvNil)))))

abbrev N_is_a_prime : List Str := ["value"]
def w_is_a_prime : WS :=
  (wRet (wAnd (wCall sp_is_integer (wrVal (wVar 0) wrNil)) (wCall sp_is_prime (wrVal (wVar 0) wrNil))))

abbrev N_is_part_in : List Str := ["value"]
def w_is_part_in : WS :=
  (wSeq (wIf (wtOr (wtNot (wtTru (w1 (wVar 0) (isiD .tuple)))) (wtOr (wTst (wCmp .eq (w1 (wVar 0) lenW) (wC (.int 0)))) (wtNot (wtTru (w1 (wIdx (wVar 0) (wC (.int 0))) (isiD .str)))))) (wRet (wC (.bool false))) wNext)
  (wSeq (wIf (wTst (wCmp .inn (wIdx (wVar 0) (wC (.int 0))) (wC (.tuple [.str "line", .str "all"])))) (wRet (wCmp .eq (w1 (wVar 0) lenW) (wC (.int 1)))) wNext)
  (wSeq (wIf (wTst (wCmp .inn (wIdx (wVar 0) (wC (.int 0))) (wC (.tuple [.str "apart", .str "deep"])))) (wRet (wAnd (wCmp .eq (w1 (wVar 0) lenW) (wC (.int 2))) (wCall sp_is_a_prime (wrVal (wIdx (wVar 0) (wC (.int 1))) wrNil)))) wNext)
  (wRet (wAnd (wCmp .eq (wIdx (wVar 0) (wC (.int 0))) (wC (.str "ring"))) (wAnd (wCmp .eq (w1 (wVar 0) lenW) (wC (.int 3))) (wAnd (wCall sp_is_a_prime (wrVal (wIdx (wVar 0) (wC (.int 1))) wrNil)) (wAnd (wCall sp_is_integer (wrVal (wIdx (wVar 0) (wC (.int 2))) wrNil)) (wCmp .gt (wIdx (wVar 0) (wC (.int 2))) (wC (.int 0)))))))))))

abbrev N_is_counted : List Str := ["value"]
def w_is_counted : WS :=
  (wSeq (wIf (wtOr (wtNot (wtTru (w1 (wVar 0) (isiD .tuple)))) (wtOr (wTst (wCmp .ne (w1 (wVar 0) lenW) (wC (.int 2)))) (wtOr (wtNot (wtTru (wCall sp_is_part_in (wrVal (wIdx (wVar 0) (wC (.int 0))) wrNil)))) (wtNot (wtTru (wCall sp_is_integer (wrVal (wIdx (wVar 0) (wC (.int 1))) wrNil))))))) (wRet (wC (.bool false))) wNext)
  (wRet (wOr (wCmp .gt (wIdx (wVar 0) (wC (.int 1))) (wC (.int 0))) (wCmp .eq (wIdx (wVar 0) (wC (.int 1))) (wC (.int (-1)))))))

abbrev N_is_group_in : List Str := ["value", "pair", "part", "_"]
def w_is_group_in : WS :=
  (wSeq (wIf (wtOr (wtNot (wtTru (w1 (wVar 0) (isiD .tuple)))) (wtNot (wtTru (wGen true (wiRow (wVar 0)) (wgName 1) (wCall sp_is_counted (wrVal (wVar 1) wrNil)) [1])))) (wRet (wC (.bool false))) wNext)
  (wRet (wCall sp_is_ascending (wrVal (wLc (wiRow (wVar 0)) (wgTup 2 (wgCons (wgName 2) (wgCons (wgName 3) wgNil))) wtYes (wVar 2) [2, 3]) wrNil))))

abbrev N_check_group : List Str := ["group"]
def w_check_group : WS :=
  (wIf (wtNot (wtTru (wCall sp_is_group_in (wrVal (wVar 0) wrNil)))) wNever wNext)

abbrev N_counted : List Str := ["one", "other"]
def w_counted : WS :=
  (wRet (wIfe (wTst (wCmp .inn (wC (.int (-1))) (wTup (wvCons (wVar 0) (wvCons (wVar 1) wvNil))))) (wC (.int (-1))) (wBin .add (wVar 0) (wVar 1))))

abbrev N_group_in : List Str := ["pairs", "found", "part", "many"]
def w_group_in : WS :=
  (wSeq (wSet 1 wDnew)
  (wSeq (wFor (wiRow (wVar 0)) (wgTup 2 (wgCons (wgName 2) (wgCons (wgName 3) wgNil))) (wPut 1 (wVar 2) (wIfe (wTst (wCmp .inn (wVar 2) (wVar 1))) (wCall sp_counted (wrVal (wIdx (wVar 1) (wVar 2)) (wrVal (wVar 3) wrNil))) (wVar 3))))
  (wRet (w1 (wSItems 1) tupW))))

abbrev N_sum_of : List Str := ["one", "other"]
def w_sum_of : WS :=
  (wSeq (wDrop (wCall sp_check_group (wrVal (wVar 0) wrNil)))
  (wSeq (wDrop (wCall sp_check_group (wrVal (wVar 1) wrNil)))
  (wRet (wCall sp_group_in (wrVal (wBin .add (wVar 0) (wVar 1)) wrNil)))))

abbrev N_is_row_in : List Str := ["n", "value"]
def w_is_row_in : WS :=
  (wRet (wAnd (w1 (wVar 1) (isiD .tuple)) (wAnd (wCmp .eq (w1 (wVar 1) lenW) (wC (.int 2))) (wAnd (wCall sp_is_natural (wrVal (wIdx (wVar 1) (wC (.int 0))) wrNil)) (wCall sp_are_integers (wrVal (wIdx (wVar 1) (wC (.int 1))) (wrVal (wVar 0) wrNil)))))))

abbrev N_is_lot_in : List Str := ["n", "value", "row"]
def w_is_lot_in : WS :=
  (wRet (wAnd (w1 (wVar 1) (isiD .tuple)) (wGen true (wiRow (wVar 1)) (wgName 2) (wCall sp_is_row_in (wrVal (wVar 0) (wrVal (wVar 2) wrNil))) [2])))

abbrev N_check_lot : List Str := ["n", "lot"]
def w_check_lot : WS :=
  (wIf (wtNot (wtTru (wCall sp_is_lot_in (wrVal (wVar 0) (wrVal (wVar 1) wrNil))))) wNever wNext)

abbrev N_raised : List Str := ["p", "many", "found", "_"]
def w_raised : WS :=
  (wSeq (wSet 2 (wC (.int 1)))
  (wSeq (wFor (wiRng1 (wVar 1)) (wgName 3) (wSet 2 (wBin .mul (wVar 2) (wVar 0))))
  (wRet (wVar 2))))

abbrev N_makes_zero : List Str := ["lot", "d", "numbers"]
def w_makes_zero : WS :=
  (wRet (wGen false (wiRow (wVar 0)) (wgTup 2 (wgCons (wgName 1) (wgCons (wgName 2) wgNil))) (wAnd (wCmp .eq (wVar 1) (wC (.int 0))) (wCmp .ne (wIdx (wVar 2) (wC (.int 0))) (wC (.int 0)))) [1, 2]))

abbrev N_multiple_in : List Str := ["lot", "found", "d", "numbers", "own"]
def w_multiple_in : WS :=
  (wSeq (wIf (wtTru (wCall sp_makes_zero (wrVal (wVar 0) wrNil))) (wRet (wC (.int 0))) wNext)
  (wSeq (wSet 1 (wC (.int 1)))
  (wSeq (wFor (wiRow (wVar 0)) (wgTup 2 (wgCons (wgName 2) (wgCons (wgName 3) wgNil))) (wSeq (wSet 4 (wIfe (wTst (wCmp .gt (wVar 2) (wC (.int 0)))) (wBin .fdiv (wVar 2) (w2 (wVar 2) (wIdx (wVar 3) (wC (.int 0))) gcdW)) (wC (.int 1))))
  (wSet 1 (wBin .fdiv (wBin .mul (wVar 1) (wVar 4)) (w2 (wVar 1) (wVar 4) gcdW)))))
  (wRet (wVar 1)))))

abbrev N_exponent_in : List Str := ["p", "lot", "most", "found", "d", "number", "wanted"]
def w_exponent_in : WS :=
  (wSeq (wSet 3 (wC (.int 0)))
  (wSeq (wFor (wiRow (wVar 1)) (wgTup 2 (wgCons (wgName 4) (wgCons (wgTup 1 (wgCons (wgName 5) wgNil)) wgNil))) (wIf (wTst (wCmp .ne (wVar 5) (wC (.int 0)))) (wSeq (wSet 6 (wIfe (wTst (wCmp .gt (wVar 4) (wC (.int 0)))) (w2 (wVar 2) (wCall sp_exponent_of (wrVal (wVar 0) (wrVal (wVar 4) wrNil))) min2W) (wVar 2)))
  (wSet 3 (w2 (wVar 3) (wBin .sub (wVar 6) (wCall sp_exponent_of (wrVal (wVar 0) (wrVal (wVar 5) wrNil)))) max2W))) wNext))
  (wRet (wVar 3))))

abbrev N_torsion_in : List Str := ["p", "lot", "d", "number"]
def w_torsion_in : WS :=
  (wRet (w1 (wLc (wiRow (wVar 1)) (wgTup 2 (wgCons (wgName 2) (wgCons (wgTup 1 (wgCons (wgName 3) wgNil)) wgNil))) (wtAnd (wTst (wCmp .eq (wVar 2) (wC (.int 0)))) (wTst (wCmp .ne (wVar 3) (wC (.int 0))))) (wCall sp_exponent_of (wrVal (wVar 0) (wrVal (wVar 3) wrNil))) [2, 3]) minLW))

abbrev N_greatest_exponent : List Str := ["p", "lot", "d", "_"]
def w_greatest_exponent : WS :=
  (wRet (w1 (wBin .add (wLst (wvCons (wC (.int 0)) wvNil)) (wLc (wiRow (wVar 1)) (wgTup 2 (wgCons (wgName 2) (wgCons (wgName 3) wgNil))) (wTst (wCmp .gt (wVar 2) (wC (.int 0)))) (wCall sp_exponent_of (wrVal (wVar 0) (wrVal (wVar 2) wrNil))) [2, 3])) maxLW))

abbrev N_index_of_line : List Str := ["one", "both", "less", "more"]
def w_index_of_line : WS :=
  (wSeq (wPar [2, 3] (wpCons (wCall sp_multiple_in (wrVal (wVar 0) wrNil)) (wpCons (wCall sp_multiple_in (wrVal (wVar 1) wrNil)) wpNil)))
  (wSeq (wIf (wTst (wCmp .eq (wVar 2) (wC (.int 0)))) (wRet (wC (.int 1))) wNext)
  (wRet (wIfe (wTst (wCmp .gt (wVar 3) (wC (.int 0)))) (wBin .fdiv (wVar 3) (wVar 2)) (wC .none)))))

abbrev N_index_of_part : List Str := ["part", "one", "both", "most"]
def w_index_of_part : WS :=
  (wSeq (wIf (wTst (wCmp .eq (wIdx (wVar 0) (wC (.int 0))) (wC (.str "line")))) (wRet (wCall sp_index_of_line (wrVal (wVar 1) (wrVal (wVar 2) wrNil)))) wNext)
  (wSeq (wIf (wTst (wCmp .eq (wIdx (wVar 0) (wC (.int 0))) (wC (.str "ring")))) (wRet (wCall sp_raised (wrVal (wIdx (wVar 0) (wC (.int 1))) (wrVal (wBin .sub (wCall sp_exponent_in (wrVal (wIdx (wVar 0) (wC (.int 1))) (wrVal (wVar 2) (wrVal (wIdx (wVar 0) (wC (.int 2))) wrNil)))) (wCall sp_exponent_in (wrVal (wIdx (wVar 0) (wC (.int 1))) (wrVal (wVar 1) (wrVal (wIdx (wVar 0) (wC (.int 2))) wrNil))))) wrNil)))) wNext)
  (wSeq (wIf (wTst (wCmp .eq (wIdx (wVar 0) (wC (.int 0))) (wC (.str "deep")))) (wSeq (wIf (wtNot (wtTru (wCall sp_makes_zero (wrVal (wVar 2) wrNil)))) (wRet (wC (.int 1))) wNext)
  (wRet (wIfe (wtTru (wCall sp_makes_zero (wrVal (wVar 1) wrNil))) (wCall sp_raised (wrVal (wIdx (wVar 0) (wC (.int 1))) (wrVal (wBin .sub (wCall sp_torsion_in (wrVal (wIdx (wVar 0) (wC (.int 1))) (wrVal (wVar 1) wrNil))) (wCall sp_torsion_in (wrVal (wIdx (wVar 0) (wC (.int 1))) (wrVal (wVar 2) wrNil)))) wrNil))) (wC .none)))) wNext)
  (wSeq (wIf (wtTru (wCall sp_makes_zero (wrVal (wVar 1) wrNil))) (wRet (wC (.int 1))) wNext)
  (wSeq (wIf (wtTru (wCall sp_makes_zero (wrVal (wVar 2) wrNil))) (wRet (wC .none)) wNext)
  (wSeq (wIf (wTst (wCmp .eq (wIdx (wVar 0) (wC (.int 0))) (wC (.str "all")))) (wRet (wC (.int 1))) wNext)
  (wSeq (wSet 3 (wCall sp_greatest_exponent (wrVal (wIdx (wVar 0) (wC (.int 1))) (wrVal (wVar 2) wrNil))))
  (wRet (wCall sp_raised (wrVal (wIdx (wVar 0) (wC (.int 1))) (wrVal (wBin .sub (wCall sp_exponent_in (wrVal (wIdx (wVar 0) (wC (.int 1))) (wrVal (wVar 2) (wrVal (wVar 3) wrNil)))) (wCall sp_exponent_in (wrVal (wIdx (wVar 0) (wC (.int 1))) (wrVal (wVar 1) (wrVal (wVar 3) wrNil))))) wrNil)))))))))))

abbrev N_index_of : List Str := ["group", "one", "other", "found", "part", "many", "own"]
def w_index_of : WS :=
  (wSeq (wSet 3 (wC (.int 1)))
  (wSeq (wFor (wiRow (wVar 0)) (wgTup 2 (wgCons (wgName 4) (wgCons (wgName 5) wgNil))) (wSeq (wSet 6 (wCall sp_index_of_part (wrVal (wVar 4) (wrVal (wVar 1) (wrVal (wBin .add (wVar 1) (wVar 2)) wrNil)))))
  (wSeq (wIf (wtOr (wTst (w1 (wVar 6) (isNW false))) (wtAnd (wTst (wCmp .gt (wVar 6) (wC (.int 1)))) (wTst (wCmp .eq (wVar 5) (wC (.int (-1))))))) (wRet (wC .none)) wNext)
  (wSet 3 (wBin .mul (wVar 3) (wCall sp_raised (wrVal (wVar 6) (wrVal (wIfe (wTst (wCmp .gt (wVar 6) (wC (.int 1)))) (wVar 5) (wC (.int 0))) wrNil))))))))
  (wRet (wVar 3))))

abbrev N_index_in : List Str := ["group", "one", "other"]
def w_index_in : WS :=
  (wSeq (wDrop (wCall sp_check_group (wrVal (wVar 0) wrNil)))
  (wSeq (wDrop (wCall sp_check_lot (wrVal (wC (.int 1)) (wrVal (wVar 1) wrNil))))
  (wSeq (wDrop (wCall sp_check_lot (wrVal (wC (.int 1)) (wrVal (wVar 2) wrNil))))
  (wRet (wCall sp_index_of (wrVal (wVar 0) (wrVal (wVar 1) (wrVal (wVar 2) wrNil))))))))

abbrev N_is_pair_in : List Str := ["value"]
def w_is_pair_in : WS :=
  (wSeq (wIf (wtOr (wtNot (wtTru (w1 (wVar 0) (isiD .tuple)))) (wtOr (wTst (wCmp .ne (w1 (wVar 0) lenW) (wC (.int 3)))) (wtOr (wtNot (wtTru (wCall sp_is_lot_in (wrVal (wC (.int 1)) (wrVal (wIdx (wVar 0) (wC (.int 0))) wrNil))))) (wtNot (wtTru (wCall sp_is_lot_in (wrVal (wC (.int 1)) (wrVal (wIdx (wVar 0) (wC (.int 1))) wrNil)))))))) (wRet (wC (.bool false))) wNext)
  (wRet (wAnd (wCall sp_is_integer (wrVal (wIdx (wVar 0) (wC (.int 2))) wrNil)) (wCmp .gt (wIdx (wVar 0) (wC (.int 2))) (wC (.int 0))))))

abbrev N_check_pairs : List Str := ["pairs", "pair"]
def w_check_pairs : WS :=
  (wIf (wtOr (wtNot (wtTru (w1 (wVar 0) (isiD .tuple)))) (wtNot (wtTru (wGen true (wiRow (wVar 0)) (wgName 1) (wCall sp_is_pair_in (wrVal (wVar 1) wrNil)) [1])))) wNever wNext)

abbrev N_capped : List Str := ["number", "most"]
def w_capped : WS :=
  (wRet (wIfe (wTst (w1 (wVar 0) (isNW false))) (wVar 1) (w2 (wVar 0) (wVar 1) min2W)))

abbrev N_vector_in : List Str := ["group", "pairs", "one", "other", "most"]
def w_vector_in : WS :=
  (wRet (w1 (wLc (wiRow (wVar 1)) (wgTup 3 (wgCons (wgName 2) (wgCons (wgName 3) (wgCons (wgName 4) wgNil)))) wtYes (wCall sp_capped (wrVal (wCall sp_index_of (wrVal (wVar 0) (wrVal (wVar 2) (wrVal (wVar 3) wrNil)))) (wrVal (wVar 4) wrNil))) [2, 3, 4]) tupW))

abbrev N_vector_of : List Str := ["group", "pairs"]
def w_vector_of : WS :=
  (wSeq (wDrop (wCall sp_check_group (wrVal (wVar 0) wrNil)))
  (wSeq (wDrop (wCall sp_check_pairs (wrVal (wVar 1) wrNil)))
  (wRet (wCall sp_vector_in (wrVal (wVar 0) (wrVal (wVar 1) wrNil))))))
end GSP
end

section
set_option Elab.async false
set_option linter.all false
set_option maxRecDepth 100000
set_option maxHeartbeats 1000000
namespace GSP
open PySem PySem.Spec PyProof.Rows L2 GS

@[simp] theorem at_0 {x : D} {xs : List D} : atI (x :: xs) 0 = some x := atI_nat (j := 0) rfl
@[simp] theorem at_1 {x y : D} {xs : List D} : atI (x :: y :: xs) 1 = some y := atI_nat (j := 1) rfl
@[simp] theorem at_2 {x y z : D} {xs : List D} : atI (x :: y :: z :: xs) 2 = some z := atI_nat (j := 2) rfl
theorem pure_is_integer : Pure 1 1 sp_is_integer w_is_integer := by
  intro args W h
  obtain ⟨d, rfl, nd, h⟩ := h
  refine ⟨rfl, ?_⟩
  cases d <;> simp_all [w_is_integer, Γ0, isIntD]
theorem pure_is_natural : Pure 1 1 sp_is_natural w_is_natural := by
  intro args W h
  obtain ⟨d, rfl, h⟩ := h
  refine ⟨rfl, ?_⟩
  simp [w_is_natural, Γ0, sp_is_integer, isIntD, h]
theorem pure_are_integers : Pure 2 3 sp_are_integers w_are_integers := by
  intro args W h
  obtain ⟨ns, n, rfl, h⟩ := h
  refine ⟨rfl, ?_⟩
  simp [w_are_integers, Γ0, sp_is_integer, isIntD]
  by_cases q : (ns.length : Int) = n
  · refine .inr ⟨q, genW_of _ (fun _ => true) ns (fun x _ A B hA => ?_) ?_⟩
    · simpa [sp_is_integer, isIntD] using hA
    · simpa [q] using h
  · exact .inl ⟨q, by simpa [q] using h⟩
theorem cut1 (xs : List D) : cutD xs (some 1) none = xs.drop 1 := by
  unfold GS.cutD
  rw [HT.sIx_none]
  have : HT.sIx xs.length 0 (some 1) = min 1 xs.length := HT.sIx_nat xs.length 0 1
  rw [this]
  rcases xs with _ | ⟨x, xs⟩
  · simp
  · have : min 1 (x :: xs).length = 1 := by simp
    rw [this]
    apply List.take_of_length_le
    simp
theorem pure_is_ascending : Pure 1 3 sp_is_ascending w_is_ascending := by
  intro args W h
  obtain ⟨xs, rfl, ha, h⟩ := h
  refine ⟨rfl, ?_⟩
  simp [w_is_ascending, Γ0, cut1]
  have e : ∀ l m : List D, List.zipWith GS.pairD l m = ((l.zip m).map fun p => GS.pairD p.1 p.2) := fun l m => by
    rw [List.zip, List.map_zipWith]
  have e2 : xs.tail = xs.drop 1 := by simp
  first | rw [e2, e] | rw [e]
  refine genW_of _ (fun _ => true) _ (fun p hp A B hA => ?_) ?_
  · obtain ⟨i, hi⟩ := List.mem_iff_getElem?.mp hp
    obtain ⟨h1, h2⟩ := List.getElem?_zip_eq_some.mp hi
    rw [List.getElem?_drop] at h2
    have hh := ha i p.1 p.2 h1 (by rw [Nat.add_comm]; exact h2)
    simpa [y_lt, ltW, hh.1, hh.2] using hA
  · simpa using h
theorem exp_loop {p n : Int} {K : DK} (hp : 2 ≤ p ∧ p < 536870912) : ∀ (k : Nat) (found left : Int), left ≠ 0 → left.natAbs < 2 ^ k → (∀ l', K.nx [.val (.int p), .val (.int n), .val (.int (found + expoF k p left)), .val (.int l')]) →
    whlW (wTst (wCmp .eq (wBin .mod (wVar 3) (wVar 0)) (wC (.int 0)))) (wSeq (wAug 2 (fun i j => i + j) (wC (.int 1))) (wSet 3 (wBin .fdiv (wVar 3) (wVar 0)))) K (k + 1) [.val (.int p), .val (.int n), .val (.int found), .val (.int left)]
  | 0, found, left, h0, h1, h => absurd (by omega) h0
  | k + 1, found, left, h0, h1, h => by
    unfold whlW
    by_cases q : left.fmod p = 0
    · have e : left = p * left.fdiv p := by
        have := Int.mul_fdiv_add_fmod left p
        omega
      have h0' : left.fdiv p ≠ 0 := fun z => by rw [z] at e; omega
      have h1' : (left.fdiv p).natAbs < 2 ^ k := by
        have e2 : left.natAbs = p.natAbs * (left.fdiv p).natAbs := by rw [← Int.natAbs_mul, ← e]
        have : 2 * (left.fdiv p).natAbs ≤ p.natAbs * (left.fdiv p).natAbs := Nat.mul_le_mul_right _ (by omega)
        rw [Nat.pow_succ] at h1
        omega
      have ih := exp_loop hp k (found + 1) (left.fdiv p) h0' h1' fun l' => by
        have := h l'
        rw [expoF, if_pos q] at this
        have e3 : found + 1 + (expoF k p (left.fdiv p) : Int) = found + ((1 + expoF k p (left.fdiv p) : Nat) : Int) := by omega
        rw [e3]; exact this
      have hp0 : p ≠ 0 := by omega
      have hd : DivOk left p := .inl ⟨hp0, by omega⟩
      simpa [q, hp0, hd] using ih
    · have hp0 : p ≠ 0 := by omega
      have := h left
      rw [expoF, if_neg q] at this
      simpa [q, hp0] using this
theorem pure_exponent_of : Pure 2 4 sp_exponent_of w_exponent_of := by
  intro args W h
  obtain ⟨p, n, rfl, ⟨h1, h2, h3, h4⟩, h⟩ := h
  refine ⟨rfl, ?_⟩
  have := exp_loop (K := { nx := fun Γ1 => wRet (wVar 2) Γ1 (retK W []), bk := (retK W []).bk, ct := (retK W []).ct, rt := retW W [] }) (p := p) (n := n) ⟨h1, h2⟩ 62 0 n h3 h4 fun l' => by simpa [expo] using h
  simp [w_exponent_of, Γ0]
  exact ⟨63, by simpa using this⟩

/-! ### prime powers -/
theorem strip_facts {p : Int} (hp : 2 ≤ p) : ∀ (k : Nat) (left : Int), 1 ≤ left → left.natAbs < 2 ^ k → 1 ≤ stripF k p left ∧ stripF k p left ≤ left
  | 0, left, h, h1 => by omega
  | k + 1, left, h, h1 => by
    unfold stripF
    split
    · rename_i q
      have e : left = p * left.fdiv p := by
        have := Int.mul_fdiv_add_fmod left p
        omega
      have hpos : 1 ≤ left.fdiv p := by
        rcases Int.lt_or_le (left.fdiv p) 1 with z | z
        · have : p * left.fdiv p ≤ p * 0 := Int.mul_le_mul_of_nonneg_left (by omega) (by omega)
          omega
        · exact z
      have hle : 2 * left.fdiv p ≤ left := by
        have : 2 * left.fdiv p ≤ p * left.fdiv p := Int.mul_le_mul_of_nonneg_right hp (by omega)
        omega
      have ih := strip_facts hp k (left.fdiv p) hpos (by rw [Nat.pow_succ] at h1; omega)
      omega
    · omega
theorem strip_loop {p n : Int} {fs : Slot} {K : DK} (hp : 2 ≤ p ∧ p < 536870912) : ∀ (k : Nat) (left : Int), left ≠ 0 → left.natAbs < 2 ^ k → K.nx [.val (.int n), fs, .val (.int (stripF k p left)), .val (.int p)] →
    whlW (wTst (wCmp .eq (wBin .mod (wVar 2) (wVar 3)) (wC (.int 0)))) (wSet 2 (wBin .fdiv (wVar 2) (wVar 3))) K (k + 1) [.val (.int n), fs, .val (.int left), .val (.int p)]
  | 0, left, h0, h1, h => absurd (by omega) h0
  | k + 1, left, h0, h1, h => by
    unfold whlW
    have hp0 : p ≠ 0 := by omega
    by_cases q : left.fmod p = 0
    · have e : left = p * left.fdiv p := by
        have := Int.mul_fdiv_add_fmod left p
        omega
      have h0' : left.fdiv p ≠ 0 := fun z => by rw [z] at e; omega
      have h1' : (left.fdiv p).natAbs < 2 ^ k := by
        have e2 : left.natAbs = p.natAbs * (left.fdiv p).natAbs := by rw [← Int.natAbs_mul, ← e]
        have : 2 * (left.fdiv p).natAbs ≤ p.natAbs * (left.fdiv p).natAbs := Nat.mul_le_mul_right _ (by omega)
        rw [Nat.pow_succ] at h1
        omega
      rw [stripF, if_pos q] at h
      have ih := strip_loop hp k (left.fdiv p) h0' h1' h
      have hd : DivOk left p := .inl ⟨hp0, by omega⟩
      simpa [q, hp0, hd] using ih
    · rw [stripF, if_neg q] at h
      simpa [q, hp0] using h
abbrev ppwB : WS := (wSeq (wIf (wTst (wCmp .eq (wBin .mod (wVar 2) (wVar 3)) (wC (.int 0)))) (wApp 1 (wTup (wvCons (wVar 3) (wvCons (wCall sp_exponent_of (wrVal (wVar 3) (wrVal (wVar 2) wrNil))) wvNil)))) wNext)
  (wSeq (wWhl (wTst (wCmp .eq (wBin .mod (wVar 2) (wVar 3)) (wC (.int 0)))) (wSet 2 (wBin .fdiv (wVar 2) (wVar 3))))
  (wAug 3 (fun i j => i + j) (wC (.int 1)))))
def fin1 (found : List (Int × Int)) (left : Int) : List (Int × Int) := if 1 < left then found ++ [(left, 1)] else found
theorem ppw_loop {n : Int} {K : DK} (hn : n < 1000000) : ∀ (k : Nat) (found : List (Int × Int)) (left p : Int), 2 ≤ p → p ≤ 1001 → 1 ≤ left → left ≤ n → n + 2 ≤ p + k → found.length ≤ p → (∀ found' left' p', found'.length ≤ 1001 → ppwF (k + 1) found left p = fin1 found' left' → K.nx [.val (.int n), .own (.lst (found'.map encII)), .val (.int left'), .val (.int p')]) →
    whlW (wTst (wCmp .le (wBin .mul (wVar 3) (wVar 3)) (wVar 2))) ppwB K (k + 1) [.val (.int n), .own (.lst (found.map encII)), .val (.int left), .val (.int p)]
  | k, found, left, p, h1, hp, h2, h3, h4, h5, h => by
    unfold whlW
    · have hm : MulOk p p := .inl ⟨by omega, by omega⟩
      by_cases q : p * p ≤ left
      · have hp2 : p < 1000 := by
          rcases Int.lt_or_le p 1000 with z | z
          · exact z
          · have : 1000 * 1000 ≤ p * p := Int.mul_le_mul z z (by omega) (by omega)
            omega
        have hk : ∃ k', k = k' + 1 := by
          rcases k with _ | k'
          · have : p * p ≥ 2 * p := Int.mul_le_mul_of_nonneg_right h1 (by omega)
            omega
          · exact ⟨k', rfl⟩
        obtain ⟨k', rfl⟩ := hk
        have hp0 : p ≠ 0 := by omega
        have hl0 : left ≠ 0 := by omega
        have hb : left.natAbs < 2 ^ 62 := by omega
        obtain ⟨g1, g2⟩ := strip_facts h1 62 left h2 hb
        rw [ppwF, if_pos q] at h
        by_cases r : left.fmod p = 0
        · rw [if_pos r] at h
          have ih := ppw_loop hn k' (found ++ [(p, (expo p left : Int))]) (stripF 62 p left) (p + 1) (by omega) (by omega) g1 (by omega) (by omega) (by simp; omega) h
          have hs := strip_loop (n := n) (p := p) (fs := .own (.lst ((found ++ [(p, (expo p left : Int))]).map encII))) (K := { nx := fun Γ1 => wAug 3 (fun i j => i + j) (wC (.int 1)) Γ1 { nx := whlW (wTst (wCmp .le (wBin .mul (wVar 3) (wVar 3)) (wVar 2))) ppwB K (k' + 1), ct := whlW (wTst (wCmp .le (wBin .mul (wVar 3) (wVar 3)) (wVar 2))) ppwB K (k' + 1), bk := K.nx, rt := K.rt }, bk := K.nx, ct := whlW (wTst (wCmp .le (wBin .mul (wVar 3) (wVar 3)) (wVar 2))) ppwB K (k' + 1), rt := K.rt }) ⟨h1, by omega⟩ 62 left hl0 hb (by simpa using ih)
          have h16 : found.length ≤ 16000000 := by omega
          have hsz : 2 ≤ sizeLine := by rw [sizeLine_eq]; omega
          simp [q, hm, hp0, r, h16, sp_exponent_of]
          refine ⟨p, left, ⟨rfl, rfl⟩, ⟨h1, by omega, hl0, by simpa using hb⟩, ?_⟩
          simp [hsz]
          exact ⟨63, by simpa [encII] using hs⟩
        · rw [if_neg r] at h
          have ih := ppw_loop hn k' found left (p + 1) (by omega) (by omega) h2 h3 (by omega) (by omega) h
          have e : stripF 62 p left = left := by rw [stripF, if_neg r]
          have hs := strip_loop (n := n) (p := p) (fs := .own (.lst (found.map encII))) (K := { nx := fun Γ1 => wAug 3 (fun i j => i + j) (wC (.int 1)) Γ1 { nx := whlW (wTst (wCmp .le (wBin .mul (wVar 3) (wVar 3)) (wVar 2))) ppwB K (k' + 1), ct := whlW (wTst (wCmp .le (wBin .mul (wVar 3) (wVar 3)) (wVar 2))) ppwB K (k' + 1), bk := K.nx, rt := K.rt }, bk := K.nx, ct := whlW (wTst (wCmp .le (wBin .mul (wVar 3) (wVar 3)) (wVar 2))) ppwB K (k' + 1), rt := K.rt }) ⟨h1, by omega⟩ 62 left hl0 hb (by rw [e]; simpa using ih)
          simp [q, hm, hp0, r]
          exact ⟨63, by simpa using hs⟩
      · rw [ppwF, if_neg q] at h
        have := h found left p (by omega) rfl
        simpa [q, hm] using this
theorem pure_prime_powers : Pure 1 4 sp_prime_powers w_prime_powers := by
  intro args W h
  obtain ⟨n, rfl, ⟨h1, h2⟩, h⟩ := h
  refine ⟨rfl, ?_⟩
  simp [w_prime_powers, Γ0]
  refine ⟨n.toNat + 1, ?_⟩
  have := ppw_loop (n := n) (K := { nx := fun Γ1 => (wRet (wIfe (wTst (wCmp .gt (wVar 2) (wC (.int 1)))) (wBin .add (wVar 1) (wLst (wvCons (wTup (wvCons (wVar 2) (wvCons (wC (.int 1)) wvNil))) wvNil))) (wVar 1))) Γ1 (retK W []), bk := (retK W []).bk, ct := (retK W []).ct, rt := retW W [] }) h2 n.toNat [] n 2 (by omega) (by omega) h1 (by omega) (by omega) (by simp) fun found left p hfl e => ?_
  · simpa [ppwB] using this
  · have e' : ppw n = fin1 found left := e
    rw [e'] at h
    have hz : (sizeLine : Nat) = 16777216 := rfl
    unfold fin1 at h
    by_cases q : 1 < left
    · rw [if_pos q] at h
      simp [q, hz]
      refine ⟨by omega, ?_⟩
      simpa [encII] using h
    · rw [if_neg q] at h
      simpa [q] using h
@[simp] theorem ok_line : PyData.strOk "line" = true := by decide +kernel
@[simp] theorem ok_all : PyData.strOk "all" = true := by decide +kernel
@[simp] theorem ok_apart : PyData.strOk "apart" = true := by decide +kernel
@[simp] theorem ok_deep : PyData.strOk "deep" = true := by decide +kernel
@[simp] theorem ok_ring : PyData.strOk "ring" = true := by decide +kernel
@[simp] theorem ok_whole : SeqAt.shaped (.tuple [.str "line", .str "all"]) = true := by decide +kernel
@[simp] theorem ok_byprime : SeqAt.shaped (.tuple [.str "apart", .str "deep"]) = true := by decide +kernel
@[simp] theorem ne1 : ¬ (Str.ofString "line" = Str.ofString "apart") := by decide +kernel
@[simp] theorem ne2 : ¬ (Str.ofString "all" = Str.ofString "apart") := by decide +kernel
@[simp] theorem ne3' : ¬ (Str.ofString "line" = Str.ofString "deep") := by decide +kernel
@[simp] theorem ne4 : ¬ (Str.ofString "all" = Str.ofString "deep") := by decide +kernel
@[simp] theorem ne5 : ¬ (Str.ofString "line" = Str.ofString "ring") := by decide +kernel
@[simp] theorem ne6 : ¬ (Str.ofString "all" = Str.ofString "ring") := by decide +kernel
@[simp] theorem ne7 : ¬ (Str.ofString "apart" = Str.ofString "ring") := by decide +kernel
@[simp] theorem ne8 : ¬ (Str.ofString "deep" = Str.ofString "ring") := by decide +kernel
theorem pure_is_part_in : Pure 1 1 sp_is_part_in w_is_part_in := by
  intro args W h
  obtain ⟨x, rfl, hx, h⟩ := h
  refine ⟨rfl, ?_⟩
  cases x with
  | line => simpa [w_is_part_in, Γ0, encPart] using h
  | all => simpa [w_is_part_in, Γ0, encPart] using h
  | apart p =>
    obtain ⟨h1, h2, h3⟩ := hx
    simpa [w_is_part_in, Γ0, encPart, sp_is_a_prime, h1, h3] using h
  | deep p =>
    obtain ⟨h1, h2, h3⟩ := hx
    simpa [w_is_part_in, Γ0, encPart, sp_is_a_prime, h1, h3] using h
  | ring p n =>
    obtain ⟨⟨h1, h2, h3⟩, h4, h5⟩ := hx
    simpa [w_is_part_in, Γ0, encPart, sp_is_a_prime, sp_is_integer, isIntD, h1, h3, h4] using h
theorem pure_is_counted : Pure 1 1 sp_is_counted w_is_counted := by
  intro args W h
  obtain ⟨x, rfl, ⟨hx, hm⟩, h⟩ := h
  refine ⟨rfl, ?_⟩
  simp [w_is_counted, Γ0, encPM]
  refine ⟨x.1, rfl, hx, ?_⟩
  simp [sp_is_integer, isIntD]
  rcases hm with q | q
  · simpa [q] using h
  · exact .inr ⟨q, h⟩
end GSP
end

section
set_option Elab.async false
set_option linter.all false
set_option maxRecDepth 100000
set_option maxHeartbeats 1000000
namespace GSP
open PySem PySem.Spec PyProof.Rows L2 GS

/-! ### data of one make: shaped, equal -/
theorem layAll {ds : List D} (h : ∀ d ∈ ds, d.canLay0 = true) : PyData.canLayAll0 ds = true := by
  induction ds with
  | nil => simp [PyData.canLayAll0]
  | cons d ds ih => simp [PyData.canLayAll0, h d List.mem_cons_self, ih fun e he => h e (List.mem_cons_of_mem _ he)]
theorem depAll {n : Nat} {ds : List D} (h : ∀ d ∈ ds, d.depth ≤ n) : PyData.depthAll ds ≤ n := by
  induction ds with
  | nil => simp [PyData.depthAll]
  | cons d ds ih =>
    have h1 := h d List.mem_cons_self
    have h2 := ih fun e he => h e (List.mem_cons_of_mem _ he)
    simp only [PyData.depthAll]
    omega
theorem shaped_list {ds : List D} (h : ∀ d ∈ ds, d.canLay0 = true ∧ d.depth ≤ 60) : SeqAt.shaped (.list ds) = true := by
  have h1 := layAll fun d hd => (h d hd).1
  have h2 := depAll fun d hd => (h d hd).2
  simp [SeqAt.shaped, PyData.canLay0, PyData.depth, h1]
  omega
theorem shaped_tuple {ds : List D} (h : ∀ d ∈ ds, d.canLay0 = true ∧ d.depth ≤ 60) : SeqAt.shaped (.tuple ds) = true := by
  have h1 := layAll fun d hd => (h d hd).1
  have h2 := depAll fun d hd => (h d hd).2
  simp [SeqAt.shaped, PyData.canLay0, PyData.depth, h1]
  omega
theorem eqvAll_map {α : Type} [DecidableEq α] {enc : α → D} (h : ∀ x y, PyData.eqv (enc x) (enc y) = decide (x = y)) : ∀ xs ys : List α, PyData.eqvAll (xs.map enc) (ys.map enc) = decide (xs = ys)
  | [], [] => by simp [PyData.eqvAll]
  | [], _ :: _ => by simp [PyData.eqvAll]
  | _ :: _, [] => by simp [PyData.eqvAll]
  | x :: xs, y :: ys => by
    simp only [List.map_cons, PyData.eqvAll, h, eqvAll_map h xs ys, List.cons.injEq]
    rw [Bool.decide_and]
theorem eqvT {xs ys : List D} : PyData.eqv (.tuple xs) (.tuple ys) = PyData.eqvAll xs ys := by simp [PyData.eqv]
theorem eqvL {xs ys : List D} : PyData.eqv (.list xs) (.list ys) = PyData.eqvAll xs ys := by simp [PyData.eqv]
theorem encII_eqv (x y : Int × Int) : PyData.eqv (encII x) (encII y) = decide (x = y) := by
  obtain ⟨a, b⟩ := x
  obtain ⟨c, d⟩ := y
  simp [encII, PyData.eqv, PyData.eqvAll, Prod.mk.injEq]
  exact Bool.eq_iff_iff.mpr (by simp)
theorem encII_lay (x : Int × Int) : (encII x).canLay0 = true ∧ (encII x).depth ≤ 60 := by
  simp [encII, PyData.canLay0, PyData.canLayAll0, PyData.depth, PyData.depthAll]
theorem pure_is_prime : Pure 1 1 sp_is_prime w_is_prime := by
  intro args W h
  obtain ⟨n, rfl, hn, h⟩ := h
  refine ⟨rfl, ?_⟩
  unfold isPrimeI at h
  simp [w_is_prime, Γ0]
  by_cases q : 1 < n
  · refine .inr ⟨q, n, rfl, by omega, ?_⟩
    have hz : (sizeLine : Nat) = 16777216 := rfl
    have e : (.list [.tuple [.int n, .int 1]] : D) = .list ([(n, (1 : Int))].map encII) := rfl
    have s1 : SeqAt.shaped (.list ((ppw n).map encII)) = true := shaped_list fun d hd => by
      obtain ⟨x, _, rfl⟩ := List.mem_map.mp hd
      exact encII_lay x
    have s2 : SeqAt.shaped (.list ([(n, (1 : Int))].map encII)) = true := shaped_list fun d hd => by
      obtain ⟨x, _, rfl⟩ := List.mem_map.mp hd
      exact encII_lay x
    rw [e]
    simp only [x_opd2, x_see2, x_toD, hz, Option.some.injEq, exists_eq_left', s1, s2, eqvL, eqvAll_map encII_eqv]
    simpa [q] using h
  · refine .inl ⟨by omega, ?_⟩
    simpa [q] using h
theorem pure_is_a_prime : Pure 1 1 sp_is_a_prime w_is_a_prime := by
  intro args W h
  obtain ⟨n, rfl, hn, h⟩ := h
  refine ⟨rfl, ?_⟩
  simpa [w_is_a_prime, Γ0, sp_is_integer, isIntD, sp_is_prime, hn] using h
theorem part_alike (x y : Part) : PySem.W.alike (encPart x) (encPart y) = true := by
  cases x <;> cases y <;> simp [encPart, PySem.W.alike, PySem.W.alikeAll]
theorem part_depth5 (x : Part) : (encPart x).depth ≤ 5 := by
  cases x <;> simp [encPart, PyData.depth, PyData.depthAll]
theorem part_depth (x : Part) : (encPart x).depth ≤ 60 := by
  cases x <;> simp [encPart, PyData.depth, PyData.depthAll]
theorem part_some (x : Part) : encPart x ≠ .none := by cases x <;> simp [encPart]
theorem pure_is_group_in : Pure 1 4 sp_is_group_in w_is_group_in := by
  intro args W h
  obtain ⟨g, rfl, ⟨hg, ha⟩, h⟩ := h
  refine ⟨rfl, ?_⟩
  simp [w_is_group_in, Γ0, encGroup]
  refine genW_of encPM (fun _ => true) g (fun x hx A B hA => ?_) ?_
  · simp
    exact ⟨x, rfl, hg x hx, by simpa using hA⟩
  · have e : (g.all fun x => true == true) = true := by simp
    rw [e]
    simp
    refine compW_map encPM (fun x => encPart x.1) g (fun x hx A hA => ?_) ?_
    · simpa [encPM] using hA
    · simp
      refine ⟨_, rfl, fun i x y h1 h2 => ?_, by simpa using h⟩
      rw [List.getElem?_map] at h1 h2
      obtain ⟨a, ha1, rfl⟩ := Option.map_eq_some_iff.mp h1
      obtain ⟨b, hb1, rfl⟩ := Option.map_eq_some_iff.mp h2
      refine ⟨⟨part_alike _ _, by have := part_depth a.1; omega, part_some _⟩, ?_⟩
      have hp := List.pairwise_iff_getElem.mp ha i (i + 1) (by rw [List.length_map]; exact (List.getElem?_eq_some_iff.mp ha1).1) (by rw [List.length_map]; exact (List.getElem?_eq_some_iff.mp hb1).1) (Nat.lt_succ_self i)
      rw [List.getElem_map, List.getElem_map, (List.getElem?_eq_some_iff.mp ha1).2, (List.getElem?_eq_some_iff.mp hb1).2] at hp
      exact hp
theorem pure_check_group : Pure 1 1 sp_check_group w_check_group := by
  intro args W h
  obtain ⟨g, rfl, hg, h⟩ := h
  refine ⟨rfl, ?_⟩
  simp [w_check_group, Γ0]
  exact ⟨g, rfl, hg, by simpa using h⟩
theorem pure_counted : Pure 2 2 sp_counted w_counted := by
  intro args W h
  obtain ⟨a, b, rfl, h⟩ := h
  refine ⟨rfl, ?_⟩
  have hz : (sizeLine : Nat) = 16777216 := rfl
  have s : SeqAt.shaped (.tuple [.int a, .int b]) = true := shaped_tuple (by simp [PyData.canLay0, PyData.depth])
  unfold cnt at h
  simp [w_counted, Γ0, hz, s]
  by_cases q : a = -1 ∨ b = -1
  · rw [if_pos q] at h
    simp [q]
    exact .inr h
  · rw [if_neg q] at h
    simp only [not_or] at q
    simpa [q] using h
/-! ### group_in: a dict, then its items sorted -/
def kvOf (x : Part × Int) : D × D := (encPart x.1, .int x.2)
theorem keyPart (x : Part) : ∃ nk, keyOf (encPart x) = some nk := by
  cases x <;> simp [encPart, keyOf, keysOf]
theorem keyPart_inj {x y : Part} (h : keyOf (encPart x) = keyOf (encPart y)) : x = y := by
  cases x <;> cases y <;> simp [encPart, keyOf, keysOf] at h ⊢ <;> try exact h
  · exact absurd h (by decide +kernel)
  · exact absurd h (by decide +kernel)
  · exact absurd h.1 (by decide +kernel)
  · exact absurd h.1 (by decide +kernel)
theorem keyB_part (x : Part) : keyB (encPart x) = true := by
  cases x <;> simp [encPart, keyB, keyOf, keysOf, NestedKey.depth, NestedKey.depthAll]
theorem look_find (l : Group) (p : Part) : lookD (l.map kvOf) (encPart p) = (l.find? fun y => decide (y.1 = p)).map fun y => .int y.2 := by
  induction l with
  | nil => rfl
  | cons x l ih =>
    unfold lookD at ih ⊢
    rw [List.map_cons, List.find?_cons, List.find?_cons]
    by_cases q : x.1 = p
    · have : decide (keyOf (kvOf x).1 = keyOf (encPart p)) = true := by simp [kvOf, q]
      simp [this, q, kvOf]
    · have : decide (keyOf (kvOf x).1 = keyOf (encPart p)) = false := by
        simp only [decide_eq_false_iff_not]
        exact fun z => q (keyPart_inj z)
      simp [this, q]
      simpa using ih
theorem put_add (l : Group) (p : Part) (m : Int) : putD (l.map kvOf) (encPart p) (.int m) = (setG l p m).map kvOf := by
  have hs : (lookD (l.map kvOf) (encPart p)).isSome = l.any fun y => decide (y.1 = p) := by
    rw [look_find, Option.isSome_map, List.isSome_find?]
  unfold putD setG
  rw [hs]
  by_cases q : (l.any fun y => decide (y.1 = p)) = true
  · rw [if_pos q, if_pos q, List.map_map, List.map_map]
    refine List.map_congr_left fun x _ => ?_
    show (if keyOf (kvOf x).1 = keyOf (encPart p) then ((kvOf x).1, (.int m : D)) else kvOf x) = kvOf (if x.1 = p then (x.1, m) else x)
    by_cases r : x.1 = p
    · simp [kvOf, r]
    · have : ¬ keyOf (kvOf x).1 = keyOf (encPart p) := fun z => r (keyPart_inj z)
      simp [this, r]
  · rw [if_neg q, if_neg q, List.map_append]
    rfl
theorem setG_len (l : Group) (p : Part) (m : Int) : (setG l p m).length ≤ l.length + 1 := by
  unfold setG
  split <;> simp
theorem addG_len (acc : Group) (x : Part × Int) : (addG acc x).length ≤ acc.length + 1 := setG_len _ _ _
theorem merge_len : ∀ (l acc : Group), (l.foldl addG acc).length ≤ acc.length + l.length
  | [], acc => by simp
  | x :: l, acc => by
    have h1 := addG_len acc x
    have h2 := merge_len l (addG acc x)
    simp only [List.foldl_cons, List.length_cons]
    omega
theorem item_alike (x y : D × D) (h : PySem.W.alike x.1 y.1 = true) (h2 : PySem.W.alike x.2 y.2 = true) : PySem.W.alike (itemD x) (itemD y) = true := by
  simp [itemD, PySem.W.alike, PySem.W.alikeAll, h, h2]
theorem items_ok (l : Group) : AlikeAll ((l.map kvOf).map itemD) := by
  refine ⟨fun d hd e he => ?_, .inl fun d hd => ?_, fun d hd => ?_⟩
  · simp only [List.map_map, List.mem_map] at hd he
    obtain ⟨x, _, rfl⟩ := hd
    obtain ⟨y, _, rfl⟩ := he
    exact item_alike _ _ (part_alike _ _) rfl
  · simp only [List.map_map, List.mem_map] at hd
    obtain ⟨x, _, rfl⟩ := hd
    exact ⟨_, _, rfl⟩
  · simp only [List.map_map, List.mem_map] at hd
    obtain ⟨x, _, rfl⟩ := hd
    have := part_depth5 x.1
    simp [itemD, kvOf, PyData.depth, PyData.depthAll]
    omega
theorem map_sort {α β : Type} (f : α → β) (r : β → β → Bool) (l : List α) : (l.map f).mergeSort r = (l.mergeSort fun a b => r (f a) (f b)).map f :=
  (List.map_mergeSort (r := fun a b => r (f a) (f b)) (s := r) (f := f) (l := l) fun _ _ _ _ => rfl).symm
theorem items_sorted (l : Group) : sortedItems (l.map kvOf) = (l.mergeSort fun a b => PySem.W.dataLe false encPM a b).map encPM := by
  unfold sortedItems
  rw [map_sort kvOf]
  rw [List.map_map]
  rfl
theorem group_loop {P : Slot} {K : DK} : ∀ (l acc : Group) (s2 s3 : Slot), noRef s2 = true → noRef s3 = true → acc.length + l.length ≤ 100000 → (∀ s2 s3, noRef s2 = true → noRef s3 = true → K.nx [P, .own (.dct ((l.foldl addG acc).map kvOf)), s2, s3]) →
    forW (wgTup 2 (wgCons (wgName 2) (wgCons (wgName 3) wgNil))) (wPut 1 (wVar 2) (wIfe (wTst (wCmp .inn (wVar 2) (wVar 1))) (wCall sp_counted (wrVal (wIdx (wVar 1) (wVar 2)) (wrVal (wVar 3) wrNil))) (wVar 3))) K (l.map encPM) [P, .own (.dct (acc.map kvOf)), s2, s3]
  | [], acc, s2, s3, h2, h3, hl, h => by simpa using h s2 s3 h2 h3
  | x :: l, acc, s2, s3, h2, h3, hl, h => by
    have ih := group_loop (P := P) (K := K) l (addG acc x) (.val (encPart x.1)) (.val (.int x.2)) rfl rfl (by
      have := addG_len acc x
      simp only [List.length_cons] at hl
      omega) h
    have hlen : acc.length ≤ 1000000 := by simp only [List.length_cons] at hl; omega
    have hP : DEnv.at [P, .own (.dct (acc.map kvOf)), s2, s3] 2 = s2 := rfl
    have hP3 : DEnv.at [P, .own (.dct (acc.map kvOf)), .val (encPart x.1), s3] 3 = s3 := rfl
    simp [encPM, hP, hP3, h2, h3, keyB_part, look_find, hlen, put_add, sp_counted]
    unfold addG at ih
    cases e : acc.find? fun y => decide (y.1 = x.1) with
    | none =>
      rw [e] at ih
      refine .inl ⟨fun a b hm z => ?_, by simpa using ih⟩
      have := List.find?_eq_none.mp e _ hm
      simp [z] at this
    | some y =>
      rw [e] at ih
      obtain ⟨ya, yb⟩ := y
      have h1 : ya = x.1 := by simpa using List.find?_some e
      refine .inr ⟨⟨yb, by rw [← h1]; exact List.mem_of_find?_eq_some e⟩, .int yb, ⟨ya, yb, rfl, rfl⟩, yb, x.2, ⟨rfl, rfl⟩, by simpa using ih⟩
theorem pure_group_in : Pure 1 4 sp_group_in w_group_in := by
  intro args W h
  obtain ⟨l, rfl, hl, h⟩ := h
  refine ⟨rfl, ?_⟩
  have key := group_loop (P := .val (encGroup l)) (K := { nx := fun Γ1 => (wRet (w1 (wSItems 1) tupW)) Γ1 (retK W []), bk := (retK W []).bk, ct := (retK W []).ct, rt := retW W [] }) l [] .non .non rfl rfl (by simp; omega) fun s2 s3 h2 h3 => by
    have e : ((l.foldl addG []).map kvOf).length ≤ 1000000 := by
      have := merge_len l []
      rw [List.length_map]
      simp at this
      omega
    have e2 : .tuple (sortedItems ((l.foldl addG []).map kvOf)) = encGroup (groupIn l) := by
      rw [items_sorted]; rfl
    have hi := items_ok (l.foldl addG [])
    rw [← e2] at h
    simp at hi e h
    simp
    exact ⟨⟨hi, e⟩, h⟩
  simp [w_group_in, Γ0, encGroup]
  simpa [encGroup] using key
theorem pure_sum_of : Pure 2 2 sp_sum_of w_sum_of := by
  intro args W h
  obtain ⟨g, h', rfl, ⟨h1, h2, h3, h4⟩, h⟩ := h
  refine ⟨rfl, ?_⟩
  have hz : (sizeLine : Nat) = 16777216 := rfl
  simp [w_sum_of, Γ0, sp_check_group]
  refine ⟨g, rfl, h1, h', rfl, h2, ?_⟩
  simp [encGroup, hz]
  refine ⟨by omega, g ++ h', by simp [encGroup], by simp; omega, ?_⟩
  simpa [encGroup] using h
end GSP
end

section
set_option Elab.async false
set_option linter.all false
set_option maxRecDepth 100000
set_option maxHeartbeats 1000000
namespace GSP
open PySem PySem.Spec PyProof.Rows L2 GS

/-! ### rows and lots -/
theorem pure_is_row_in : Pure 2 2 sp_is_row_in w_is_row_in := by
  intro args W h
  obtain ⟨n, r, rfl, ⟨h1, h2⟩, h⟩ := h
  refine ⟨rfl, ?_⟩
  simp [w_is_row_in, Γ0, encRow]
  refine ⟨r.1, rfl, ?_⟩
  simp [h1]
  refine ⟨r.2, n, rfl, ?_⟩
  simpa [h2] using h
theorem pure_is_lot_in : Pure 2 3 sp_is_lot_in w_is_lot_in := by
  intro args W h
  obtain ⟨n, l, rfl, h1, h⟩ := h
  refine ⟨rfl, ?_⟩
  simp [w_is_lot_in, Γ0, encLot]
  refine genW_of encRow (fun _ => true) l (fun x hx A B hA => ?_) ?_
  · simp
    exact ⟨n, x, rfl, h1 x hx, by simpa using hA⟩
  · simpa using h
theorem pure_check_lot : Pure 2 2 sp_check_lot w_check_lot := by
  intro args W h
  obtain ⟨n, l, rfl, h1, h⟩ := h
  refine ⟨rfl, ?_⟩
  simp [w_check_lot, Γ0]
  exact ⟨n, l, rfl, h1, by simpa using h⟩
theorem forW_map {α : Type} {g : WG} {b : WS} {K : DK} {σ : Type} (enc : α → D) (st : σ → DEnv) (step : σ → α → σ) : ∀ (xs : List α) (s : σ) (I : σ → List α → Prop)
    (_ : I s xs) (_ : ∀ s x xs, I s (x :: xs) → I (step s x) xs)
    (_ : ∀ s x xs, I s (x :: xs) → ∀ K' : DK, K'.bk = K.nx → K'.rt = K.rt → K'.nx (st (step s x)) → K'.nx = K'.ct → g (enc x) (st s) fun Γ1 => b Γ1 K')
    (_ : K.nx (st (xs.foldl step s))), forW g b K (xs.map enc) (st s)
  | [], s, I, _, _, _, h => h
  | x :: xs, s, I, hi, hI, hs, h => hs s x xs hi { nx := forW g b K (xs.map enc), ct := forW g b K (xs.map enc), bk := K.nx, rt := K.rt } rfl rfl (forW_map enc st step xs (step s x) I (hI s x xs hi) hI hs h) rfl

theorem log2_mul {a b : Nat} (A B : Nat) (ha : a < 2 ^ A) (hb : b < 2 ^ B) : a * b < 2 ^ (A + B) := by
  rw [Nat.pow_add]
  exact Nat.mul_lt_mul'' ha hb
theorem log2_lt {a A : Nat} (h : a < 2 ^ A) (hA : 0 < A) : a.log2 < A := by
  rcases Nat.eq_zero_or_pos a with z | z
  · subst z; simpa using hA
  · exact (Nat.log2_lt (by omega)).mpr h
theorem pow_lt {a A : Nat} (h : a < 2 ^ A) : ∀ n, 0 < n → a ^ n < 2 ^ (A * n)
  | 1, _ => by simpa using h
  | n + 2, _ => by
    rw [Nat.pow_succ, Nat.mul_succ]
    exact log2_mul _ _ (pow_lt h (n + 1) (by omega)) h
theorem pow_le {a A : Nat} (h : a < 2 ^ A) (n : Nat) : a ^ n < 2 ^ (A * n + 1) := by
  rcases Nat.eq_zero_or_pos n with z | z
  · subst z; simp
  · exact Nat.lt_of_lt_of_le (pow_lt h n z) (Nat.pow_le_pow_right (by omega) (by omega))
theorem raised_loop {p m : Int} {K : DK} (hp : p.natAbs < 2 ^ 2000) : ∀ (ks : List D) (k : Nat) (s : Slot), k + ks.length ≤ 400 → noRef s = true → (∀ s', K.nx [.val (.int p), .val (.int m), .val (.int (p ^ (k + ks.length))), s']) →
    forW (wgName 3) (wSet 2 (wBin .mul (wVar 2) (wVar 0))) K ks [.val (.int p), .val (.int m), .val (.int (p ^ k)), s]
  | [], k, s, hk, hs, h => by simpa using h s
  | d :: ks, k, s, hk, hs, h => by
    have ih := raised_loop (p := p) (m := m) (K := K) hp ks (k + 1) (.val d) (by simp at hk ⊢; omega) rfl (by
      intro s'
      have := h s'
      simp only [List.length_cons] at this
      rw [show k + 1 + ks.length = k + (ks.length + 1) from by omega]
      exact this)
    have hm : MulOk (p ^ k) p := by
      refine .inr (.inr ?_)
      show (p ^ k).natAbs.log2 + p.natAbs.log2 < 1000000
      rw [Int.natAbs_pow]
      have h1 := log2_lt (pow_le hp k) (by omega)
      have h2 := log2_lt hp (by omega)
      simp only [List.length_cons] at hk
      omega
    have hat : DEnv.at [.val (.int p), .val (.int m), .val (.int (p ^ k)), s] 3 = s := rfl
    rw [Int.pow_succ] at ih
    simpa [forW, hat, hs, hm] using ih
theorem rng_len (i : Int) (n : Nat) : (rngD i n).length = n := by simp [rngD]
theorem pure_raised : Pure 2 4 sp_raised w_raised := by
  intro args W h
  obtain ⟨p, m, rfl, ⟨h1, h2, h3⟩, h⟩ := h
  refine ⟨rfl, ?_⟩
  simp [w_raised, Γ0]
  refine ⟨by omega, ?_⟩
  have := raised_loop (p := p) (m := m) (K := { nx := fun Γ1 => (wRet (wVar 2)) Γ1 (retK W []), bk := (retK W []).bk, ct := (retK W []).ct, rt := retW W [] }) h1 (rngD 0 m.toNat) 0 .non (by rw [rng_len]; omega) rfl fun s' => by
    rw [rng_len, Nat.zero_add]
    simpa using h
  simpa using this
theorem pure_makes_zero : Pure 1 3 sp_makes_zero w_makes_zero := by
  intro args W h
  obtain ⟨l, rfl, h⟩ := h
  refine ⟨rfl, ?_⟩
  simp [w_makes_zero, Γ0, encLot1, encLot, up1]
  refine genW_of (fun r : Int × Int => encRow (r.1, [r.2])) (fun r => decide (r.1 = 0) && !decide (r.2 = 0)) l (fun x hx A B hA => ?_) ?_
  · obtain ⟨a, b⟩ := x
    simp [encRow]
    by_cases q : a = 0
    · by_cases r : b = 0 <;> simpa [q, r] using hA
    · simpa [q] using hA
  · unfold mz at h
    have e : (!(l.all fun x => (decide (x.1 = 0) && !decide (x.2 = 0)) == false)) = l.any fun r => decide (r.1 = 0) && !decide (r.2 = 0) := by
      rw [List.not_all_eq_any_not]
      congr 1
      funext x
      cases (decide (x.1 = 0) && !decide (x.2 = 0)) <;> rfl
    by_cases q : (l.all fun x => (decide (x.1 = 0) && !decide (x.2 = 0)) == false) = true
    · rw [if_pos q]
      rw [q] at e
      rw [← e] at h
      simpa using h
    · rw [if_neg q]
      rw [Bool.not_eq_true] at q
      rw [q] at e
      rw [← e] at h
      simpa using h
end GSP
end

section
set_option Elab.async false
set_option linter.all false
set_option maxRecDepth 100000
set_option maxHeartbeats 1000000
namespace GSP
open PySem PySem.Spec PyProof.Rows L2 GS

/-! ### multiples and exponents -/
def OkRow (r : Int × Int) : Prop := 0 ≤ r.1 ∧ r.1 < 1000000 ∧ r.2.natAbs < 1000000
theorem gcd_pos_le {a b : Int} (h : 0 < a) : 0 < Nat.gcd a.natAbs b.natAbs ∧ (Nat.gcd a.natAbs b.natAbs : Int) ≤ a := by
  have h1 : 0 < a.natAbs := by omega
  refine ⟨Nat.gcd_pos_of_pos_left _ h1, ?_⟩
  have := Nat.le_of_dvd h1 (Nat.gcd_dvd_left a.natAbs b.natAbs)
  omega
theorem fdiv_eq {a b : Int} (hb : 0 < b) : a.fdiv b = a / b := Int.fdiv_eq_ediv_of_nonneg a (by omega)
theorem own_facts {r : Int × Int} (h : OkRow r) : 1 ≤ ownD r ∧ ownD r < 1000000 := by
  unfold ownD
  obtain ⟨h0, h1, h2⟩ := h
  split
  · rename_i q
    obtain ⟨g1, g2⟩ := gcd_pos_le (b := r.2) q
    rw [fdiv_eq (by omega)]
    constructor
    · exact Int.le_ediv_of_mul_le (by omega) (by omega)
    · have := Int.ediv_le_self ((Nat.gcd r.1.natAbs r.2.natAbs : Nat) : Int) (a := r.1) (by omega)
      omega
  · omega
theorem lcm_facts {f own : Int} (hf : 1 ≤ f) (ho : 1 ≤ own) : 1 ≤ lcmD f own ∧ (lcmD f own) ≤ f * own := by
  unfold lcmD
  obtain ⟨g1, g2⟩ := gcd_pos_le (a := f) (b := own) (by omega)
  rw [fdiv_eq (by omega)]
  have hm : f ≤ f * own := by
    have : f * 1 ≤ f * own := Int.mul_le_mul_of_nonneg_left ho (by omega)
    omega
  constructor
  · exact Int.le_ediv_of_mul_le (by omega) (by omega)
  · exact Int.ediv_le_self _ (by omega)
abbrev mulB : WS := (wSeq (wSet 4 (wIfe (wTst (wCmp .gt (wVar 2) (wC (.int 0)))) (wBin .fdiv (wVar 2) (w2 (wVar 2) (wIdx (wVar 3) (wC (.int 0))) gcdW)) (wC (.int 1))))
  (wSet 1 (wBin .fdiv (wBin .mul (wVar 1) (wVar 4)) (w2 (wVar 1) (wVar 4) gcdW))))
theorem enc_row1 (r : Int × Int) : encRow (r.1, [r.2]) = .tuple [.int r.1, .tuple [.int r.2]] := rfl
theorem mul_loop {P : Slot} {K : DK} : ∀ (l : Lot1) (f : Int) (s2 s3 s4 : Slot), (∀ r ∈ l, OkRow r) → 1 ≤ f → noRef s2 = true → noRef s3 = true → noRef s4 = true → (∀ s2 s3 s4, K.nx [P, .val (.int (l.foldl (fun f r => lcmD f (ownD r)) f)), s2, s3, s4]) →
    forW (wgTup 2 (wgCons (wgName 2) (wgCons (wgName 3) wgNil))) mulB K ((up1 l).map encRow) [P, .val (.int f), s2, s3, s4]
  | [], f, s2, s3, s4, hl, hf, h2, h3, h4, h => by simpa [forW, up1] using h s2 s3 s4
  | r :: l, f, s2, s3, s4, hl, hf, h2, h3, h4, h => by
    have hr := hl r List.mem_cons_self
    obtain ⟨o1, o2⟩ := own_facts hr
    obtain ⟨l1, l2⟩ := lcm_facts hf o1
    have ih := mul_loop (P := P) (K := K) l (lcmD f (ownD r)) (.val (.int r.1)) (.val (.tuple [.int r.2])) (.val (.int (ownD r))) (fun x hx => hl x (List.mem_cons_of_mem _ hx)) l1 rfl rfl rfl h
    have e : (up1 (r :: l)).map encRow = .tuple [.int r.1, .tuple [.int r.2]] :: (up1 l).map encRow := rfl
    rw [e]
    have hP : DEnv.at [P, .val (.int f), s2, s3, s4] 2 = s2 := rfl
    have hP3 : DEnv.at [P, .val (.int f), .val (.int r.1), s3, s4] 3 = s3 := rfl
    have hP4 : DEnv.at [P, .val (.int f), .val (.int r.1), .val (.tuple [.int r.2]), s4] 4 = s4 := rfl
    have hm : MulOk f (ownD r) := .inr (.inl ⟨by omega, by omega⟩)
    obtain ⟨g1, g2⟩ := gcd_pos_le (a := ownD r) (b := f) (by omega)
    rw [Nat.gcd_comm] at g1 g2
    have hd : DivOk (f * ownD r) ((Nat.gcd f.natAbs (ownD r).natAbs : Nat) : Int) := .inl ⟨by omega, by omega⟩
    have hL : (f * ownD r).fdiv ((Nat.gcd f.natAbs (ownD r).natAbs : Nat) : Int) = lcmD f (ownD r) := rfl
    simp [forW, hP, hP3, hP4, h2, h3, h4]
    by_cases q : 0 < r.1
    · obtain ⟨k1, k2⟩ := gcd_pos_le (b := r.2) q
      have hd2 : DivOk r.1 ((Nat.gcd r.1.natAbs r.2.natAbs : Nat) : Int) := .inl ⟨by omega, by have := hr.2.1; omega⟩
      have ho : r.1.fdiv ((Nat.gcd r.1.natAbs r.2.natAbs : Nat) : Int) = ownD r := by simp [ownD, q]
      refine .inr ⟨q, hd2, ?_⟩
      simp only [ho]
      exact ⟨hm, hd, by rw [hL]; exact ih⟩
    · have ho : ownD r = 1 := by simp [ownD, q]
      rw [ho] at hm hd hL ih
      have hL1 : lcmD f 1 = f := by simp [lcmD]
      rw [hL1] at ih
      refine .inl ⟨by omega, ?_⟩
      simp at hd
      first | exact ⟨hm, hd, ih⟩ | exact ⟨hm, ih⟩ | (simp [hm, hd]; exact ih)
theorem small_ok {l : Lot1} (h : Small1 l) : ∀ r ∈ l, OkRow r := fun r hr => h.2 r hr
theorem pure_multiple_in : Pure 1 5 sp_multiple_in w_multiple_in := by
  intro args W h
  obtain ⟨l, rfl, hs, h⟩ := h
  refine ⟨rfl, ?_⟩
  unfold mult at h
  simp [w_multiple_in, Γ0]
  refine ⟨l, rfl, ?_⟩
  by_cases q : mz l = true
  · rw [if_pos q] at h
    simpa [q, truD] using h
  · rw [if_neg q] at h
    have := mul_loop (P := .val (encLot1 l)) (K := { nx := fun Γ1 => (wRet (wVar 1)) Γ1 (retK W []), bk := (retK W []).bk, ct := (retK W []).ct, rt := retW W [] }) l 1 .non .non .non (small_ok hs) (by omega) rfl rfl rfl fun s2 s3 s4 => by simpa using h
    simp only [mulB] at this
    simpa [q, truD, encLot1, encLot] using this
end GSP
end

section
set_option Elab.async false
set_option linter.all false
set_option maxRecDepth 100000
set_option maxHeartbeats 1000000
namespace GSP
open PySem PySem.Spec PyProof.Rows L2 GS

abbrev exB : WS := (wIf (wTst (wCmp .ne (wVar 5) (wC (.int 0)))) (wSeq (wSet 6 (wIfe (wTst (wCmp .gt (wVar 4) (wC (.int 0)))) (w2 (wVar 2) (wCall sp_exponent_of (wrVal (wVar 0) (wrVal (wVar 4) wrNil))) min2W) (wVar 2)))
  (wSet 3 (w2 (wVar 3) (wBin .sub (wVar 6) (wCall sp_exponent_of (wrVal (wVar 0) (wrVal (wVar 5) wrNil)))) max2W))) wNext)
abbrev exG : WG := (wgTup 2 (wgCons (wgName 4) (wgCons (wgTup 1 (wgCons (wgName 5) wgNil)) wgNil)))
def exStep (p most f : Int) (r : Int × Int) : Int := if r.2 = 0 then f else max f (rowExp p most r)
theorem ex_loop {p most : Int} {P : Slot} {K : DK} (hp : P29 p) : ∀ (l : Lot1) (f : Int) (s4 s5 s6 : Slot), (∀ r ∈ l, OkRow r) → noRef s4 = true → noRef s5 = true → noRef s6 = true → (∀ s4 s5 s6, K.nx [.val (.int p), P, .val (.int most), .val (.int (l.foldl (exStep p most) f)), s4, s5, s6]) →
    forW exG exB K ((up1 l).map encRow) [.val (.int p), P, .val (.int most), .val (.int f), s4, s5, s6]
  | [], f, s2, s3, s4, hl, h2, h3, h4, h => by simpa [forW, up1] using h s2 s3 s4
  | r :: l, f, s4, s5, s6, hl, h4, h5, h6, h => by
    have hr := hl r List.mem_cons_self
    obtain ⟨a, b⟩ := r
    obtain ⟨r0, r1, r2⟩ := hr
    simp at r0 r1 r2
    have hl' : ∀ r ∈ l, OkRow r := fun x hx => hl x (List.mem_cons_of_mem _ hx)
    have e : (up1 ((a, b) :: l)).map encRow = .tuple [.int a, .tuple [.int b]] :: (up1 l).map encRow := rfl
    rw [e]
    have hP4 : DEnv.at [.val (.int p), P, .val (.int most), .val (.int f), s4, s5, s6] 4 = s4 := rfl
    have hP5 : DEnv.at [.val (.int p), P, .val (.int most), .val (.int f), .val (.int a), s5, s6] 5 = s5 := rfl
    have hP6 : DEnv.at [.val (.int p), P, .val (.int most), .val (.int f), .val (.int a), .val (.int b), s6] 6 = s6 := rfl
    by_cases q : b = 0
    · have ih := ex_loop (most := most) (P := P) (K := K) hp l f (.val (.int a)) (.val (.int b)) s6 hl' rfl rfl h6 (by simpa [exStep, q] using h)
      subst q
      simp [forW, hP4, hP5, h4, h5]
      simpa using ih
    · have c2 : sp_exponent_of [.val (.int p), .val (.int b)] = fun W => W (.val (.int (expo p b))) [] := by
        funext W
        simp only [sp_exponent_of, eq_iff_iff]
        constructor
        · rintro ⟨p', n', e', _, hW⟩
          simp at e'
          obtain ⟨rfl, rfl⟩ := e'
          exact hW
        · intro hW
          exact ⟨p, b, rfl, ⟨hp.1, by have := hp.2; omega, q, by omega⟩, hW⟩
      have key : ∀ w : Int, w - (expo p b : Int) = rowExp p most (a, b) → forW exG exB K ((up1 l).map encRow) [.val (.int p), P, .val (.int most), .val (.int (max f (w - (expo p b : Int)))), .val (.int a), .val (.int b), .val (.int w)] := fun w hw => by
        rw [hw]
        exact ex_loop (most := most) (P := P) (K := K) hp l _ (.val (.int a)) (.val (.int b)) (.val (.int w)) hl' rfl rfl rfl (by simpa [exStep, q] using h)
      simp only [exB] at key ⊢
      simp [forW, hP4, hP5, h4, h5, q, hP6, h6, c2]
      by_cases r : 0 < a
      · have c1 : sp_exponent_of [.val (.int p), .val (.int a)] = fun W => W (.val (.int (expo p a))) [] := by
          funext W
          simp only [sp_exponent_of, eq_iff_iff]
          constructor
          · rintro ⟨p', n', e', _, hW⟩
            simp at e'
            obtain ⟨rfl, rfl⟩ := e'
            exact hW
          · intro hW
            exact ⟨p, a, rfl, ⟨hp.1, by have := hp.2; omega, by omega, by omega⟩, hW⟩
        have := key (min most (expo p a)) (by simp [rowExp, r])
        simp [c1]
        refine .inr ⟨r, ?_⟩
        simp [hP6, h6, c2]
        simpa using this
      · have := key most (by simp [rowExp, r])
        refine .inl ⟨by omega, ?_⟩
        try simp [hP6, h6, c2]
        simpa using this
theorem exIn_fold (p : Int) (l : Lot1) (most : Int) : exIn p l most = l.foldl (exStep p most) 0 := rfl
theorem pure_exponent_in : Pure 3 7 sp_exponent_in w_exponent_in := by
  intro args W h
  obtain ⟨p, l, most, rfl, ⟨hp, hs⟩, h⟩ := h
  refine ⟨rfl, ?_⟩
  have := ex_loop (most := most) (P := .val (encLot1 l)) (K := { nx := fun Γ1 => (wRet (wVar 3)) Γ1 (retK W []), bk := (retK W []).bk, ct := (retK W []).ct, rt := retW W [] }) hp l 0 .non .non .non (small_ok hs) rfl rfl rfl fun s2 s3 s4 => by simpa [exIn_fold] using h
  simp only [exB, exG] at this
  simpa [w_exponent_in, Γ0, encLot1, encLot] using this
theorem exponent_call {p n : Int} (hp : P29 p) (hn : n ≠ 0) (hb : n.natAbs < 1000000) {W : Res → List Ct → Prop} (h : W (.val (.int (expo p n))) []) : sp_exponent_of [.val (.int p), .val (.int n)] W :=
  ⟨p, n, rfl, ⟨hp.1, by have := hp.2; omega, hn, by omega⟩, h⟩
theorem minOf_spec : ∀ (xs : List Int), xs ≠ [] → minOf xs ∈ xs ∧ ∀ y ∈ xs, minOf xs ≤ y
  | [], h => absurd rfl h
  | x :: xs, _ => by
    show xs.foldl min x ∈ x :: xs ∧ ∀ y ∈ x :: xs, xs.foldl min x ≤ y
    induction xs generalizing x with
    | nil => simp
    | cons y ys ih =>
      rw [List.foldl_cons]
      obtain ⟨h1, h2⟩ := ih (min x y) (by simp)
      constructor
      · rcases List.mem_cons.mp h1 with z | z
        · rw [z]
          rcases Int.le_total x y with w | w
          · rw [Int.min_eq_left w]; simp
          · rw [Int.min_eq_right w]; simp
        · simp [z]
      · intro z hz
        have h3 := h2 (min x y) List.mem_cons_self
        rcases List.mem_cons.mp hz with w | w
        · subst w; omega
        · rcases List.mem_cons.mp w with u | u
          · subst u; omega
          · exact h2 z (List.mem_cons_of_mem _ u)
theorem maxOf_spec : ∀ (xs : List Int), xs ≠ [] → maxOf xs ∈ xs ∧ ∀ y ∈ xs, y ≤ maxOf xs
  | [], h => absurd rfl h
  | x :: xs, _ => by
    show xs.foldl max x ∈ x :: xs ∧ ∀ y ∈ x :: xs, y ≤ xs.foldl max x
    induction xs generalizing x with
    | nil => simp
    | cons y ys ih =>
      rw [List.foldl_cons]
      obtain ⟨h1, h2⟩ := ih (max x y) (by simp)
      constructor
      · rcases List.mem_cons.mp h1 with z | z
        · rw [z]
          rcases Int.le_total x y with w | w
          · rw [Int.max_eq_right w]; simp
          · rw [Int.max_eq_left w]; simp
        · simp [z]
      · intro z hz
        have h3 := h2 (max x y) List.mem_cons_self
        rcases List.mem_cons.mp hz with w | w
        · subst w; omega
        · rcases List.mem_cons.mp w with u | u
          · subst u; omega
          · exact h2 z (List.mem_cons_of_mem _ u)
theorem torsL_ne {p : Int} {l : Lot1} (h : mz l = true) : torsL p l ≠ [] := by
  unfold mz at h
  obtain ⟨r, hr, hq⟩ := List.any_eq_true.mp h
  intro z
  unfold torsL at z
  rw [List.map_eq_nil_iff] at z
  have := List.filter_eq_nil_iff.mp z r hr
  exact this hq
theorem pure_torsion_in : Pure 2 4 sp_torsion_in w_torsion_in := by
  intro args W h
  obtain ⟨p, l, rfl, ⟨hp, hs, hm⟩, h⟩ := h
  refine ⟨rfl, ?_⟩
  simp [w_torsion_in, Γ0, encLot1, encLot, up1]
  refine compW_of (fun r : Int × Int => encRow (r.1, [r.2])) (fun r => decide (r.1 = 0) && !decide (r.2 = 0)) (fun r => .int (expo p r.2)) l [] (fun x hx A B hA => ?_) ?_
  · obtain ⟨a, b⟩ := x
    have hb := (hs.2 _ hx).2.2
    simp [encRow]
    by_cases q : a = 0
    · by_cases r : b = 0
      · simpa [q, r] using hA
      · have : sp_exponent_of [.val (.int p), .val (.int b)] = fun W => W (.val (.int (expo p b))) [] := by
          funext W
          simp only [eq_iff_iff]
          exact ⟨fun ⟨p', n', e', _, hW⟩ => by simp at e'; obtain ⟨rfl, rfl⟩ := e'; exact hW, exponent_call hp r hb⟩
        simpa [q, r, this] using hA
    · simpa [q] using hA
  · obtain ⟨g1, g2⟩ := minOf_spec _ (torsL_ne (p := p) hm)
    simp
    refine ⟨torsL p l, by simp [torsL, Function.comp_def], List.length_pos_iff.mpr (torsL_ne hm), fun m hm1 hm2 => ?_⟩
    have : m = minOf (torsL p l) := Int.le_antisymm (hm2 _ g1) (g2 _ hm1)
    rw [this]
    exact h
theorem pure_greatest_exponent : Pure 2 4 sp_greatest_exponent w_greatest_exponent := by
  intro args W h
  obtain ⟨p, l, rfl, ⟨hp, hs⟩, h⟩ := h
  refine ⟨rfl, ?_⟩
  have hz : (sizeLine : Nat) = 16777216 := rfl
  simp [w_greatest_exponent, Γ0, encLot1, encLot, up1, hz]
  refine compW_of (fun r : Int × Int => encRow (r.1, [r.2])) (fun r => decide (0 < r.1)) (fun r => .int (expo p r.1)) l [] (fun x hx A B hA => ?_) ?_
  · obtain ⟨a, b⟩ := x
    have hb := hs.2 _ hx
    simp [encRow]
    by_cases q : 0 < a
    · have : sp_exponent_of [.val (.int p), .val (.int a)] = fun W => W (.val (.int (expo p a))) [] := by
        funext W
        simp only [eq_iff_iff]
        exact ⟨fun ⟨p', n', e', _, hW⟩ => by simp at e'; obtain ⟨rfl, rfl⟩ := e'; exact hW, exponent_call hp (by omega) (by have := hb.1; have := hb.2.1; simp at *; omega)⟩
      have q2 : ¬ a ≤ 0 := by omega
      simpa [q, q2, this] using hA
    · have q2 : a ≤ 0 := by omega
      simp [q] at hA
      simp [q2]
      exact .inl hA
  · obtain ⟨g1, g2⟩ := maxOf_spec (0 :: (l.filter fun r : Int × Int => decide (0 < r.1)).map fun r : Int × Int => (expo p r.1 : Int)) (by simp)
    have hlen : (l.filter fun r => decide (0 < r.1)).length ≤ 20 := Nat.le_trans (List.length_filter_le _ _) hs.1
    simp
    refine ⟨by omega, (0 :: (l.filter fun r => decide (0 < r.1)).map fun r => (expo p r.1 : Int)), by simp [Function.comp_def], by simp, fun m hm1 hm2 => ?_⟩
    have : m = grEx p l := Int.le_antisymm (g2 _ hm1) (hm2 _ g1)
    rw [this]
    exact h
end GSP
end

section
set_option Elab.async false
set_option linter.all false
set_option maxRecDepth 100000
set_option maxHeartbeats 1000000
namespace GSP
open PySem PySem.Spec PyProof.Rows L2 GS

theorem mult_le {l : Lot1} : ∀ (f : Int), (∀ r ∈ l, OkRow r) → 1 ≤ f → 1 ≤ l.foldl (fun f r => lcmD f (ownD r)) f ∧ l.foldl (fun f r => lcmD f (ownD r)) f ≤ f * 1000000 ^ l.length := by
  induction l with
  | nil => intro f _ h; simp; exact h
  | cons r l ih =>
    intro f hl hf
    obtain ⟨o1, o2⟩ := own_facts (hl r List.mem_cons_self)
    obtain ⟨l1, l2⟩ := lcm_facts hf o1
    obtain ⟨i1, i2⟩ := ih (lcmD f (ownD r)) (fun x hx => hl x (List.mem_cons_of_mem _ hx)) l1
    refine ⟨i1, Int.le_trans i2 ?_⟩
    have hp : (0 : Int) ≤ 1000000 ^ l.length := Int.pow_nonneg (by omega)
    have h1 : lcmD f (ownD r) ≤ f * 1000000 := Int.le_trans l2 (Int.mul_le_mul_of_nonneg_left (by omega) (by omega))
    have h2 := Int.mul_le_mul_of_nonneg_right h1 hp
    rw [List.length_cons, Int.pow_succ, Int.mul_comm (1000000 ^ l.length), ← Int.mul_assoc]
    exact h2
theorem mult_bound {l : Lot1} (h : Small1 l) : 0 ≤ mult l ∧ (mult l).natAbs < 2 ^ 400 := by
  unfold mult
  split
  · exact ⟨Int.le_refl _, Nat.pow_pos (by decide)⟩
  · obtain ⟨h1, h2⟩ := mult_le (l := l) 1 (small_ok h) (by omega)
    have h3 : (1000000 : Nat) ^ l.length ≤ 1000000 ^ 20 := Nat.pow_le_pow_right (by omega) h.1
    have h4 : (1000000 : Nat) ^ 20 < 2 ^ 400 := by decide +kernel
    generalize l.foldl (fun f r => lcmD f (ownD r)) 1 = z at h1 h2
    refine ⟨Int.le_trans (by decide) h1, ?_⟩
    have h5 : (z.natAbs : Int) ≤ (1000000 ^ l.length : Nat) := by
      rw [Int.natAbs_of_nonneg (Int.le_trans (by decide) h1), Int.natCast_pow]
      rw [Int.one_mul] at h2
      exact h2
    exact Nat.lt_of_le_of_lt (Nat.le_trans (Int.ofNat_le.mp h5) h3) h4
theorem pure_index_of_line : Pure 2 4 sp_index_of_line w_index_of_line := by
  intro args W h
  obtain ⟨one, both, rfl, ⟨h1, h2⟩, h⟩ := h
  refine ⟨rfl, ?_⟩
  obtain ⟨m1, m2⟩ := mult_bound h1
  unfold ixLine at h
  simp [w_index_of_line, Γ0]
  refine ⟨one, rfl, h1, ?_⟩
  simp
  refine ⟨both, rfl, h2, ?_⟩
  simp
  by_cases q : mult one = 0
  · simpa [q, optD] using h
  · rw [if_neg q] at h
    have hd : DivOk (mult both) (mult one) := .inr ⟨by omega, by
      have := log2_lt m2 (by omega)
      omega⟩
    by_cases r : 0 < mult both
    · rw [if_pos r] at h
      simp [q, r, hd]
      first | exact h | exact .inr h
    · rw [if_neg r] at h
      have r' : mult both ≤ 0 := by omega
      simp [q, r, r']
      first | exact h | exact .inl h
theorem pure_is_pair_in : Pure 1 1 sp_is_pair_in w_is_pair_in := by
  intro args W h
  obtain ⟨x, rfl, ⟨h1, h2, h3⟩, h⟩ := h
  refine ⟨rfl, ?_⟩
  simp [w_is_pair_in, Γ0, encPair, encLot1]
  refine ⟨1, up1 x.1, rfl, ?_, ?_⟩
  · intro r hr
    obtain ⟨y, hy, rfl⟩ := List.mem_map.mp hr
    exact ⟨h1 y hy, rfl⟩
  · simp
    refine ⟨1, up1 x.2.1, rfl, ?_, ?_⟩
    · intro r hr
      obtain ⟨y, hy, rfl⟩ := List.mem_map.mp hr
      exact ⟨h2 y hy, rfl⟩
    · simp [sp_is_integer, isIntD]
      simpa [h3] using h
theorem pure_check_pairs : Pure 1 2 sp_check_pairs w_check_pairs := by
  intro args W h
  obtain ⟨l, rfl, h1, h⟩ := h
  refine ⟨rfl, ?_⟩
  simp [w_check_pairs, Γ0, encPairs]
  refine genW_of encPair (fun _ => true) l (fun x hx A B hA => ?_) ?_
  · simp
    exact ⟨x, rfl, h1 x hx, by simpa using hA⟩
  · simpa using h
theorem pure_capped : Pure 2 2 sp_capped w_capped := by
  intro args W h
  obtain ⟨i, most, rfl, h⟩ := h
  refine ⟨rfl, ?_⟩
  cases i with
  | none => simpa [w_capped, Γ0, optD, isNoneD, cap] using h
  | some i => simpa [w_capped, Γ0, optD, isNoneD, cap] using h
end GSP
end

section
set_option Elab.async false
set_option linter.all false
set_option maxRecDepth 100000
set_option maxHeartbeats 1000000
namespace GSP
open PySem PySem.Spec PyProof.Rows L2 GS

theorem expoF_le (p n : Int) : ∀ k n, expoF k p n ≤ k
  | 0, _ => by simp [expoF]
  | k + 1, n => by
    unfold expoF
    split
    · have := expoF_le p (n.fdiv p) k (n.fdiv p); omega
    · omega
theorem expo_le (p n : Int) : expo p n ≤ 62 := expoF_le p n 62 n
theorem exFold_bounds {p most : Int} : ∀ (l : Lot1) (f : Int), f ≤ l.foldl (exStep p most) f ∧ l.foldl (exStep p most) f ≤ max f most
  | [], f => by simp only [List.foldl_nil]; omega
  | r :: l, f => by
    obtain ⟨h1, h2⟩ := exFold_bounds (p := p) (most := most) l (exStep p most f r)
    have h3 : f ≤ exStep p most f r ∧ exStep p most f r ≤ max f most := by
      unfold exStep
      split
      · omega
      · unfold rowExp
        split <;> omega
    simp only [List.foldl_cons]
    omega
theorem exIn_bounds (p : Int) (l : Lot1) (most : Int) : 0 ≤ exIn p l most ∧ exIn p l most ≤ max 0 most := exFold_bounds l 0
theorem tors_bounds {p : Int} {l : Lot1} (h : mz l = true) : 0 ≤ minOf (torsL p l) ∧ minOf (torsL p l) ≤ 62 := by
  obtain ⟨g1, _⟩ := minOf_spec _ (torsL_ne (p := p) h)
  unfold torsL at g1 ⊢
  obtain ⟨r, _, e⟩ := List.mem_map.mp g1
  rw [← e]
  have := expo_le p r.2
  omega
theorem grEx_bounds (p : Int) (l : Lot1) : 0 ≤ grEx p l ∧ grEx p l ≤ 62 := by
  obtain ⟨g1, g2⟩ := maxOf_spec (0 :: (l.filter fun r : Int × Int => decide (0 < r.1)).map fun r : Int × Int => (expo p r.1 : Int)) (by simp)
  have h0 := g2 0 List.mem_cons_self
  change 0 ≤ grEx p l at h0
  change grEx p l ∈ _ at g1
  refine ⟨h0, ?_⟩
  rcases List.mem_cons.mp g1 with z | z
  · omega
  · obtain ⟨r, _, e⟩ := List.mem_map.mp z
    have := expo_le p r.1
    omega
theorem prime_lt {p : Int} (h : GoodPrime p) : p.natAbs < 2 ^ 20 := by
  have := h.2.1
  have := h.2.2
  have : (2 : Nat) ^ 20 = 1048576 := by decide
  omega
theorem prime_lt2 {p : Int} (h : GoodPrime p) : p.natAbs < 2 ^ 2000 := Nat.lt_trans (prime_lt h) (Nat.pow_lt_pow_right (by decide) (by decide))
theorem raised_call {p m : Int} {W : Res → List Ct → Prop} (h1 : p.natAbs < 2 ^ 2000) (h2 : m ≤ 400) (h3 : -1000 ≤ m) (h : W (.val (.int (p ^ m.toNat))) []) : sp_raised [.val (.int p), .val (.int m)] W := ⟨p, m, rfl, ⟨h1, h2, h3⟩, h⟩
theorem mz_call {l : Lot1} {W : Res → List Ct → Prop} (h : W (.val (.bool (mz l))) []) : sp_makes_zero [.val (encLot1 l)] W := ⟨l, rfl, h⟩
theorem p29 {p : Int} (h : GoodPrime p) : P29 p := ⟨h.2.1, h.2.2⟩
@[simp] theorem nea1 : ¬ (Str.ofString "ring" = Str.ofString "line") := by decide +kernel
@[simp] theorem nea2 : ¬ (Str.ofString "deep" = Str.ofString "line") := by decide +kernel
@[simp] theorem nea3 : ¬ (Str.ofString "all" = Str.ofString "line") := by decide +kernel
@[simp] theorem nea4 : ¬ (Str.ofString "apart" = Str.ofString "line") := by decide +kernel
@[simp] theorem nea5 : ¬ (Str.ofString "apart" = Str.ofString "deep") := by decide +kernel
@[simp] theorem nea6 : ¬ (Str.ofString "apart" = Str.ofString "all") := by decide +kernel
@[simp] theorem nea7 : ¬ (Str.ofString "deep" = Str.ofString "apart") := by decide +kernel
theorem pure_index_of_part : Pure 3 4 sp_index_of_part w_index_of_part := by
  intro args W h
  obtain ⟨x, one, both, rfl, ⟨hx, h1, h2⟩, h⟩ := h
  refine ⟨rfl, ?_⟩
  cases x with
  | line =>
    simp [w_index_of_part, Γ0, encPart]
    exact ⟨one, both, rfl, ⟨h1, h2⟩, by simpa [ixPart] using h⟩
  | ring p n =>
    obtain ⟨hp, hn, hn2⟩ := hx
    have b1 := exIn_bounds p both n
    have b2 := exIn_bounds p one n
    simp [w_index_of_part, Γ0, encPart]
    refine ⟨p, both, n, rfl, ⟨p29 hp, h2⟩, ?_⟩
    simp
    refine ⟨p, one, n, rfl, ⟨p29 hp, h1⟩, ?_⟩
    simp
    refine raised_call (prime_lt2 hp) (by omega) (by omega) ?_
    simpa [ixPart, optD] using h
  | deep p =>
    have hp : GoodPrime p := hx
    simp [w_index_of_part, Γ0, encPart]
    refine mz_call ?_
    simp only [ixPart] at h
    by_cases q : mz both = false
    · rw [if_pos q] at h
      simpa [q, truD, optD] using h
    · rw [if_neg q] at h
      rw [Bool.not_eq_false] at q
      simp [q, truD]
      refine mz_call ?_
      by_cases r : mz one = true
      · rw [if_pos r] at h
        have b1 := tors_bounds (p := p) r
        have b2 := tors_bounds (p := p) q
        simp [r]
        refine ⟨p, one, rfl, ⟨p29 hp, h1, r⟩, ?_⟩
        simp
        refine ⟨p, both, rfl, ⟨p29 hp, h2, q⟩, ?_⟩
        simp
        refine raised_call (prime_lt2 hp) (by omega) (by omega) ?_
        simpa [optD] using h
      · rw [if_neg r] at h
        rw [Bool.not_eq_true] at r
        simpa [r, optD] using h
  | all =>
    simp [w_index_of_part, Γ0, encPart]
    refine mz_call ?_
    simp only [ixPart] at h
    by_cases r : mz one = true
    · rw [if_pos r] at h
      simpa [r, truD, optD] using h
    · rw [if_neg r] at h
      rw [Bool.not_eq_true] at r
      simp [r, truD]
      refine mz_call ?_
      by_cases q : mz both = true
      · rw [if_pos q] at h
        simpa [q, optD] using h
      · rw [if_neg q] at h
        rw [Bool.not_eq_true] at q
        simpa [q, optD] using h
  | apart p =>
    have hp : GoodPrime p := hx
    simp [w_index_of_part, Γ0, encPart]
    refine mz_call ?_
    simp only [ixPart] at h
    by_cases r : mz one = true
    · rw [if_pos r] at h
      simpa [r, truD, optD] using h
    · rw [if_neg r] at h
      rw [Bool.not_eq_true] at r
      simp [r, truD]
      refine mz_call ?_
      by_cases q : mz both = true
      · rw [if_pos q] at h
        simpa [q, optD] using h
      · rw [if_neg q] at h
        rw [Bool.not_eq_true] at q
        have b0 := grEx_bounds p both
        have b1 := exIn_bounds p both (grEx p both)
        have b2 := exIn_bounds p one (grEx p both)
        simp [q]
        refine ⟨p, both, rfl, ⟨p29 hp, h2⟩, ?_⟩
        simp
        refine ⟨p, both, _, rfl, ⟨p29 hp, h2⟩, ?_⟩
        simp
        refine ⟨p, one, _, rfl, ⟨p29 hp, h1⟩, ?_⟩
        simp
        refine raised_call (prime_lt2 hp) (by omega) (by omega) ?_
        simpa [optD] using h
end GSP
end

section
set_option Elab.async false
set_option linter.all false
set_option maxRecDepth 100000
set_option maxHeartbeats 1000000
set_option exponentiation.threshold 100
namespace GSP
open PySem PySem.Spec PyProof.Rows L2 GS

theorem p_pow {p : Int} (hp : GoodPrime p) {k : Nat} (hk : k ≤ 62) : (p ^ k).natAbs < 2 ^ 1300 := by
  rw [Int.natAbs_pow]
  exact Nat.lt_of_lt_of_le (pow_le (prime_lt hp) k) (Nat.pow_le_pow_right (by omega) (by omega))
theorem one_lt : (1 : Int).natAbs < 2 ^ 1300 := Nat.lt_of_lt_of_le (by decide : (1 : Int).natAbs < 2 ^ 1) (Nat.pow_le_pow_right (by omega) (by omega))
theorem ixPart_lt {x : Part} {one both : Lot1} (hx : GoodPart x) (h1 : Small1 one) (h2 : Small1 both) {own : Int} (h : ixPart x one both = some own) : own.natAbs < 2 ^ 1300 := by
  cases x with
  | line =>
    simp only [ixPart, ixLine] at h
    split at h
    · cases h; exact one_lt
    · split at h
      · cases h
        rename_i q r
        have m1 := (mult_bound h1).1
        obtain ⟨m2, m3⟩ := mult_bound h2
        rw [fdiv_eq (by omega)]
        refine Nat.lt_of_le_of_lt ?_ (Nat.lt_of_lt_of_le m3 (Nat.pow_le_pow_right (by omega) (by omega)))
        have a1 := Int.ediv_nonneg m2 m1
        have a2 := Int.ediv_le_self (mult one) m2
        generalize mult both / mult one = z at a1 a2
        generalize mult both = y at a2
        omega
      · cases h
  | ring p n =>
    obtain ⟨hp, hn, hn2⟩ := hx
    have b1 := exIn_bounds p both n
    have b2 := exIn_bounds p one n
    simp only [ixPart] at h
    cases h
    exact p_pow hp (by omega)
  | deep p =>
    simp only [ixPart] at h
    split at h
    · cases h; exact one_lt
    · split at h
      · cases h
        rename_i q r
        rw [Bool.not_eq_false] at q
        have b1 := tors_bounds (p := p) r
        have b2 := tors_bounds (p := p) q
        exact p_pow hx (by omega)
      · cases h
  | all =>
    simp only [ixPart] at h
    split at h
    · cases h; exact one_lt
    · split at h
      · cases h
      · cases h; exact one_lt
  | apart p =>
    simp only [ixPart] at h
    split at h
    · cases h; exact one_lt
    · split at h
      · cases h
      · cases h
        have b0 := grEx_bounds p both
        have b1 := exIn_bounds p both (grEx p both)
        have b2 := exIn_bounds p one (grEx p both)
        exact p_pow hx (by omega)
theorem up1_append (a b : Lot1) : up1 (a ++ b) = up1 a ++ up1 b := by simp [up1]
theorem small_append {a b : Lot1} (h1 : Small1 a) (h2 : Small1 b) (h3 : a.length + b.length ≤ 20) : Small1 (a ++ b) := by
  refine ⟨by simpa using h3, fun r hr => ?_⟩
  rcases List.mem_append.mp hr with z | z
  · exact h1.2 r z
  · exact h2.2 r z
abbrev ioB : WS := (wSeq (wSet 6 (wCall sp_index_of_part (wrVal (wVar 4) (wrVal (wVar 1) (wrVal (wBin .add (wVar 1) (wVar 2)) wrNil)))))
  (wSeq (wIf (wtOr (wTst (w1 (wVar 6) (isNW false))) (wtAnd (wTst (wCmp .gt (wVar 6) (wC (.int 1)))) (wTst (wCmp .eq (wVar 5) (wC (.int (-1))))))) (wRet (wC .none)) wNext)
  (wSet 3 (wBin .mul (wVar 3) (wCall sp_raised (wrVal (wVar 6) (wrVal (wIfe (wTst (wCmp .gt (wVar 6) (wC (.int 1)))) (wVar 5) (wC (.int 0))) wrNil)))))))
abbrev ioG : WG := (wgTup 2 (wgCons (wgName 4) (wgCons (wgName 5) wgNil)))
theorem io_loop {one other : Lot1} {P : Slot} {K : DK} (h1 : Small1 one) (h2 : Small1 other) (h3 : one.length + other.length ≤ 20) : ∀ (g : Group) (j : Nat) (f : Int) (s4 s5 s6 : Slot), j + g.length ≤ 15 → (∀ x ∈ g, GoodPM x ∧ x.2 ≤ 50) → f.natAbs < 2 ^ (65001 * j + 1) → noRef s4 = true → noRef s5 = true → noRef s6 = true →
    (match ixOf g one other f with
      | none => ∀ s4 s5 s6 f', K.rt (.val .none) [P, .val (encLot1 one), .val (encLot1 other), .val (.int f'), s4, s5, s6]
      | some r => ∀ s4 s5 s6, K.nx [P, .val (encLot1 one), .val (encLot1 other), .val (.int r), s4, s5, s6]) →
    forW ioG ioB K (g.map encPM) [P, .val (encLot1 one), .val (encLot1 other), .val (.int f), s4, s5, s6]
  | [], j, f, s4, s5, s6, hj, hg, hf, k4, k5, k6, h => by simpa [forW] using h s4 s5 s6
  | (x, m) :: g, j, f, s4, s5, s6, hj, hg, hf, k4, k5, k6, h => by
    obtain ⟨⟨hx, hm⟩, hm2⟩ := hg _ List.mem_cons_self
    simp at hx hm hm2
    have hP4 : DEnv.at [P, .val (encLot1 one), .val (encLot1 other), .val (.int f), s4, s5, s6] 4 = s4 := rfl
    have hP5 : DEnv.at [P, .val (encLot1 one), .val (encLot1 other), .val (.int f), .val (encPart x), s5, s6] 5 = s5 := rfl
    have hP6 : DEnv.at [P, .val (encLot1 one), .val (encLot1 other), .val (.int f), .val (encPart x), .val (.int m), s6] 6 = s6 := rfl
    have hz : (sizeLine : Nat) = 16777216 := rfl
    have hL : (up1 one).length + (up1 other).length ≤ 16777216 := by simp [up1]; omega
    have hS := small_append h1 h2 h3
    have cc : ∀ W : Res → List Ct → Prop, W (.val (optD (ixPart x one (one ++ other)))) [] → sp_index_of_part [.val (encPart x), .val (encLot1 one), .val (.tuple ((up1 one).map encRow ++ (up1 other).map encRow))] W := fun W hW =>
      ⟨x, one, one ++ other, by simp [encLot1, encLot, up1_append], ⟨hx, h1, hS⟩, hW⟩
    have hadd : ∀ V : Opd → Prop, binW .add (encLot1 one) (encLot1 other) V = ((up1 one).length + (up1 other).length ≤ sizeLine ∧ V (.val (.tuple ((up1 one).map encRow ++ (up1 other).map encRow)))) := fun V => by
      simp [encLot1, encLot]
    rw [ixOf] at h
    have e0 : ((x, m) :: g).map encPM = .tuple [encPart x, .int m] :: g.map encPM := rfl
    rw [e0]
    simp [forW, hP4, hP5, k4, k5]
    rw [hadd, hz]
    refine ⟨hL, ?_⟩
    simp
    refine cc _ ?_
    cases e : ixPart x one (one ++ other) with
    | none =>
      rw [e] at h
      simp [optD, hP6, k6, isNoneD]
      exact h _ _ _ _
    | some own =>
      rw [e] at h
      simp only at h
      have ho := ixPart_lt hx h1 hS e
      simp [optD, hP6, k6, isNoneD]
      by_cases q : 1 < own
      · by_cases r : m = -1
        · rw [if_pos ⟨q, r⟩] at h
          simp [q, r]
          first | exact h _ _ _ _ | exact .inr (h _ _ _ _)
        · rw [if_neg (by simp [r])] at h
          simp only [q, if_true] at h
          have hp : (own ^ m.toNat).natAbs < 2 ^ 65001 := by
            rw [Int.natAbs_pow]
            exact Nat.lt_of_lt_of_le (pow_le ho m.toNat) (Nat.pow_le_pow_right (by omega) (by omega))
          have hm' : MulOk f (own ^ m.toNat) := .inr (.inr (by
            show f.natAbs.log2 + (own ^ m.toNat).natAbs.log2 < 1000000
            have a1 := log2_lt hf (by omega)
            have a2 := log2_lt hp (by omega)
            simp only [List.length_cons] at hj
            omega))
          have ih := io_loop (P := P) (K := K) h1 h2 h3 g (j + 1) (f * own ^ m.toNat) (.val (encPart x)) (.val (.int m)) (.val (.int own)) (by simp only [List.length_cons] at hj; omega) (fun y hy => hg y (List.mem_cons_of_mem _ hy)) (by
            rw [Int.natAbs_mul]
            exact Nat.lt_of_lt_of_le (log2_mul _ _ hf hp) (Nat.pow_le_pow_right (by omega) (by omega))) rfl rfl rfl h
          have q2 : ¬ own ≤ 1 := by omega
          have hc : ∀ W : Res → List Ct → Prop, W (.val (.int (own ^ m.toNat))) [] → sp_raised [.val (.int own), .val (.int m)] W := fun W hW => raised_call (Nat.lt_of_lt_of_le ho (Nat.pow_le_pow_right (by omega) (by omega))) (by omega) (by omega) hW
          simp [q, q2, r]
          refine hc _ ?_
          simp [hm']
          exact ih
      · rw [if_neg (by simp [q])] at h
        simp only [q, if_false, Int.pow_zero, Int.mul_one] at h
        have hm' : MulOk f (own ^ 0) := .inr (.inl (by simp))
        have ih := io_loop (P := P) (K := K) h1 h2 h3 g (j + 1) f (.val (encPart x)) (.val (.int m)) (.val (.int own)) (by simp only [List.length_cons] at hj; omega) (fun y hy => hg y (List.mem_cons_of_mem _ hy)) (Nat.lt_of_lt_of_le hf (Nat.pow_le_pow_right (by omega) (by omega))) rfl rfl rfl h
        have q2 : own ≤ 1 := by omega
        have hc : ∀ W : Res → List Ct → Prop, W (.val (.int (own ^ 0))) [] → sp_raised [.val (.int own), .val (.int 0)] W := fun W hW => raised_call (m := 0) (Nat.lt_of_lt_of_le ho (Nat.pow_le_pow_right (by omega) (by omega))) (by omega) (by omega) hW
        simp [q, q2]
        refine hc _ ?_
        simp at hm'
        simp [hm']
        exact ih
theorem pure_index_of : Pure 3 7 sp_index_of w_index_of := by
  intro args W h
  obtain ⟨g, one, other, rfl, ⟨hg, ⟨hs1, hs2⟩, h1, h2, h3⟩, h⟩ := h
  refine ⟨rfl, ?_⟩
  have := io_loop (P := .val (encGroup g)) (K := { nx := fun Γ1 => (wRet (wVar 3)) Γ1 (retK W []), bk := (retK W []).bk, ct := (retK W []).ct, rt := retW W [] }) h1 h2 h3 g 0 1 .non .non .non (by omega) (fun x hx => ⟨hg.1 x hx, hs2 x hx⟩) (by decide) rfl rfl rfl (by
    cases e : ixOf g one other 1 with
    | none => rw [e] at h; intro s4 s5 s6 f'; simpa [optD] using h
    | some r => rw [e] at h; intro s4 s5 s6; simpa [optD] using h)
  simp only [ioB, ioG] at this
  simpa [w_index_of, Γ0, encGroup] using this
theorem small_rows {l : Lot1} (h : ∀ r ∈ l, 0 ≤ r.1) : ∀ r ∈ up1 l, GoodRow 1 r := by
  intro r hr
  obtain ⟨y, hy, rfl⟩ := List.mem_map.mp hr
  exact ⟨h y hy, rfl⟩
theorem pure_index_in : Pure 3 3 sp_index_in w_index_in := by
  intro args W h
  obtain ⟨g, one, other, rfl, hf, h⟩ := h
  refine ⟨rfl, ?_⟩
  simp [w_index_in, Γ0]
  refine ⟨g, rfl, hf.1, ?_⟩
  simp
  refine ⟨1, up1 one, rfl, small_rows fun r hr => (hf.2.2.1.2 r hr).1, ?_⟩
  simp
  refine ⟨1, up1 other, rfl, small_rows fun r hr => (hf.2.2.2.1.2 r hr).1, ?_⟩
  simp
  exact ⟨g, one, other, rfl, hf, by simpa using h⟩
theorem pure_vector_in : Pure 2 5 sp_vector_in w_vector_in := by
  intro args W h
  obtain ⟨g, l, rfl, ⟨hg, hs, hl⟩, h⟩ := h
  refine ⟨rfl, ?_⟩
  simp [w_vector_in, Γ0, encPairs]
  refine compW_map encPair (fun x => .int (cap (ixOf g x.1 x.2.1 1) x.2.2)) l (fun x hx A hA => ?_) ?_
  · obtain ⟨a1, a2, a3, a4⟩ := hl x hx
    simp [encPair]
    refine ⟨g, x.1, x.2.1, rfl, ⟨hg, hs, a2, a3, a4⟩, ?_⟩
    simp
    exact ⟨ixOf g x.1 x.2.1 1, x.2.2, rfl, by simpa using hA⟩
  · simpa [vecOf, Function.comp_def] using h
theorem pure_vector_of : Pure 2 2 sp_vector_of w_vector_of := by
  intro args W h
  obtain ⟨g, l, rfl, hf, h⟩ := h
  refine ⟨rfl, ?_⟩
  simp [w_vector_of, Γ0]
  refine ⟨g, rfl, hf.1, ?_⟩
  simp
  refine ⟨l, rfl, fun x hx => (hf.2.2 x hx).1, ?_⟩
  simp
  exact ⟨g, l, rfl, hf, by simpa using h⟩
end GSP
end

section
set_option Elab.async false
set_option linter.all false
set_option maxRecDepth 100000
set_option maxHeartbeats 1000000
namespace GSP
open PySem PySem.Spec PyProof.Rows L2 GS

/-! ## the order of data -/
theorem dle {α : Type} {k : α → D} {a b : α} : PySem.W.dataLe false k a b = !PySem.W.dataLt (k b) (k a) := by rw [PySem.W.dataLe_eq]; rfl
theorem dlt_asym {x y : D} (h : PySem.W.dataLt x y = true) : PySem.W.dataLt y x = false := by
  cases q : PySem.W.dataLt y x with
  | false => rfl
  | true =>
    have h1 := PyProof.Rows.lex_trans (O := itemOrd) _ _ _ h q
    have h2 := PyProof.Rows.lex_irrefl (O := itemOrd) (PySem.W.keyToks x)
    rw [h2] at h1
    cases h1
theorem dle_trans {α : Type} {k : α → D} (a b c : α) (h1 : PySem.W.dataLe false k a b = true) (h2 : PySem.W.dataLe false k b c = true) : PySem.W.dataLe false k a c = true := by
  rw [dle, Bool.not_eq_true'] at *
  cases q : PySem.W.dataLt (k c) (k a) with
  | false => rfl
  | true =>
    rcases PyProof.Rows.lex_negTrans (O := itemOrd) _ (PySem.W.keyToks (k b)) _ q with z | z
    · have z : PySem.W.dataLt (k c) (k b) = true := z
      rw [h2] at z; cases z
    · have z : PySem.W.dataLt (k b) (k a) = true := z
      rw [h1] at z; cases z
theorem dle_total {α : Type} {k : α → D} (a b : α) : (PySem.W.dataLe false k a b || PySem.W.dataLe false k b a) = true := by
  rw [dle, dle]
  cases q : PySem.W.dataLt (k b) (k a) with
  | false => rfl
  | true => rw [dlt_asym q]; rfl
theorem sort_le {α : Type} (k : α → D) (l : List α) : (l.mergeSort (PySem.W.dataLe false k)).Pairwise fun a b => PySem.W.dataLe false k a b = true :=
  List.pairwise_mergeSort (le := PySem.W.dataLe false k) (fun a b c => dle_trans a b c) (fun a b => dle_total a b) l
theorem dlt_of {x y : D} (hi : PySem.W.keyToks x = PySem.W.keyToks y → x = y) (h : PySem.W.dataLt y x = false) (hne : x ≠ y) : PySem.W.dataLt x y = true := by
  cases q : PySem.W.dataLt x y with
  | true => rfl
  | false => exact absurd (hi (PyProof.Rows.lex_total (O := itemOrd) _ _ q h)) hne
theorem encPart_inj {x y : Part} (h : encPart x = encPart y) : x = y := keyPart_inj (by rw [h])
theorem toks_part {x y : Part} (h : PySem.W.keyToks (encPart x) = PySem.W.keyToks (encPart y)) : encPart x = encPart y := by
  cases q : PyData.eqv (encPart x) (encPart y) with
  | false =>
    have h2 := (PySem.W.toks_eqv _ _ (part_alike x y)).2 q
    have h3 : PySem.W.dataLt (encPart x) (encPart y) = false := by
      unfold PySem.W.dataLt
      rw [h]
      exact PyProof.Rows.lex_irrefl (O := itemOrd) _
    cases x <;> cases y <;> simp [encPart, PySem.W.keyToks, PySem.W.keyToksAll] at h ⊢ <;> first | exact h | exact absurd h (by decide +kernel) | exact absurd h.1 (by decide +kernel)
  | true =>
    cases x <;> cases y <;> simp [encPart, PySem.W.keyToks, PySem.W.keyToksAll] at h ⊢ <;> first | exact h | exact absurd h (by decide +kernel) | exact absurd h.1 (by decide +kernel)
theorem partLt_of {x y : Part} (h : PySem.W.dataLt (encPart y) (encPart x) = false) (hne : x ≠ y) : partLt x y = true :=
  dlt_of toks_part h fun z => hne (encPart_inj z)
theorem pm_lt {a b : Part × Int} (h : PySem.W.dataLe false encPM a b = true) (hne : a.1 ≠ b.1) : partLt a.1 b.1 = true := by
  refine partLt_of ?_ hne
  rw [dle, Bool.not_eq_true'] at h
  unfold encPM at h
  rw [PySem.W.dataLt_pair (part_alike _ _) (by simp [PySem.W.alike])] at h
  split at h
  · rename_i q
    have h2 := (PySem.W.toks_eqv _ _ (part_alike b.1 a.1)).1 q
    exact absurd (encPart_inj (toks_part h2)).symm hne
  · exact h
theorem sortG_perm (l : Group) : (sortG l).Perm l := List.mergeSort_perm _ _
theorem sortG_asc {l : Group} (h : (l.map (·.1)).Nodup) : ((sortG l).map (·.1)).Pairwise fun a b => partLt a b = true := by
  have h1 := sort_le encPM l
  have h2 : ((sortG l).map (·.1)).Nodup := ((sortG_perm l).map _).nodup_iff.mpr h
  rw [List.pairwise_map]
  rw [List.Nodup, List.pairwise_map] at h2
  exact (h1.and h2).imp fun ⟨a, b⟩ => pm_lt a b
/-- parts sorted by themselves -/
def sortP (l : List Part) : List Part := l.mergeSort (PySem.W.dataLe false encPart)
theorem sortP_perm (l : List Part) : (sortP l).Perm l := List.mergeSort_perm _ _
theorem sortP_asc {l : List Part} (h : l.Nodup) : (sortP l).Pairwise fun a b => partLt a b = true := by
  have h1 := sort_le encPart l
  have h2 : (sortP l).Nodup := (sortP_perm l).nodup_iff.mpr h
  exact (h1.and h2).imp fun ⟨a, b⟩ => by
    rw [dle, Bool.not_eq_true'] at a
    exact partLt_of a b

/-! ## a part's place in a group -/
theorem setG_perm : ∀ (l : Group) (p : Part) (m : Int), (l.map (·.1)).Nodup → (setG l p m).Perm ((p, m) :: l.filter fun y => !decide (y.1 = p)) := by
  intro l p m hn
  unfold setG
  split
  · rename_i h
    induction l with
    | nil => simp at h
    | cons x l ih =>
      rw [List.map_cons, List.nodup_cons] at hn
      by_cases q : x.1 = p
      · have hnot : ∀ y ∈ l, y.1 ≠ p := fun y hy z => hn.1 (List.mem_map.mpr ⟨y, hy, by rw [z, q]⟩)
        have e1 : (l.map fun y => if y.1 = p then (y.1, m) else y) = l := by
          conv => rhs; rw [← List.map_id l]
          exact List.map_congr_left fun y hy => by simp [hnot y hy]
        have e2 : (l.filter fun y => !decide (y.1 = p)) = l := List.filter_eq_self.mpr fun y hy => by simp [hnot y hy]
        simp [q, e1, e2]
      · have h' : (l.any fun y => decide (y.1 = p)) = true := by simpa [q] using h
        have := ih hn.2 h'
        simp only [List.map_cons, q, if_false, List.filter_cons, decide_false, Bool.not_false, if_true]
        exact (this.cons x).trans (List.Perm.swap _ _ _)
  · rename_i h
    rw [Bool.not_eq_true, List.any_eq_false] at h
    have e2 : (l.filter fun y => !decide (y.1 = p)) = l := List.filter_eq_self.mpr fun y hy => by simpa using h y hy
    rw [e2]
    exact List.perm_append_comm (l₁ := l) (l₂ := [(p, m)])
theorem find_perm : ∀ (l : Group) (p : Part) (y : Part × Int), (l.map (·.1)).Nodup → (l.find? fun y => decide (y.1 = p)) = some y → l.Perm (y :: l.filter fun y => !decide (y.1 = p))
  | [], p, y, _, h => by simp at h
  | x :: l, p, y, hn, h => by
    rw [List.map_cons, List.nodup_cons] at hn
    by_cases q : x.1 = p
    · have hnot : ∀ y ∈ l, y.1 ≠ p := fun y hy z => hn.1 (List.mem_map.mpr ⟨y, hy, by rw [z, q]⟩)
      have e2 : (l.filter fun y => !decide (y.1 = p)) = l := List.filter_eq_self.mpr fun y hy => by simp [hnot y hy]
      simp [q] at h
      subst h
      simp [q, e2]
    · simp only [List.find?_cons, q, decide_false] at h
      have := find_perm l p y hn.2 h
      simp only [List.filter_cons, q, decide_false, Bool.not_false, if_true]
      exact (this.cons x).trans (List.Perm.swap _ _ _)
theorem find_none {l : Group} {p : Part} (h : (l.find? fun y => decide (y.1 = p)) = none) : (l.filter fun y => !decide (y.1 = p)) = l :=
  List.filter_eq_self.mpr fun y hy => by simpa using List.find?_eq_none.mp h y hy
theorem setG_nodup {l : Group} {p : Part} {m : Int} (hn : (l.map (·.1)).Nodup) : ((setG l p m).map (·.1)).Nodup := by
  refine ((setG_perm l p m hn).map _).nodup_iff.mpr ?_
  rw [List.map_cons, List.nodup_cons]
  refine ⟨fun h => ?_, (List.filter_sublist.map _).nodup hn⟩
  obtain ⟨y, hy, e⟩ := List.mem_map.mp h
  have := (List.mem_filter.mp hy).2
  simp at this
  exact this e
theorem addG_nodup {l : Group} {x : Part × Int} (hn : (l.map (·.1)).Nodup) : ((addG l x).map (·.1)).Nodup := setG_nodup hn
theorem mergeG_nodup : ∀ (l acc : Group), (acc.map (·.1)).Nodup → ((l.foldl addG acc).map (·.1)).Nodup
  | [], _, h => h
  | x :: l, acc, h => mergeG_nodup l (addG acc x) (addG_nodup h)
theorem setG_mem {l : Group} {p : Part} {m : Int} {y : Part × Int} (h : y ∈ setG l p m) : y = (p, m) ∨ y ∈ l := by
  unfold setG at h
  split at h
  · obtain ⟨x, hx, e⟩ := List.mem_map.mp h
    split at e
    · rename_i q
      exact .inl (by rw [← e, q])
    · exact .inr (by rw [← e]; exact hx)
  · rcases List.mem_append.mp h with z | z
    · exact .inr z
    · exact .inl (by simpa using z)
end GSP
end

section
set_option Elab.async false
set_option linter.all false
set_option maxRecDepth 100000
set_option maxHeartbeats 1000000
set_option exponentiation.threshold 100
namespace GSP
open PySem PySem.Spec PyProof.Rows L2 GS

theorem sok_of (s : String) : PyData.strOk (Str.ofString s) = true := by
  rw [Str.ofString_eq_toList]
  simp only [PyData.strOk, List.size_toArray, List.all_toArray', List.all_map, List.all_eq_true, Function.comp_apply, decide_eq_true_eq]
  intro c _
  have := c.valid
  rcases this with h | ⟨_, h⟩
  · have : c.toNat = c.val.toNat := rfl
    omega
  · have : c.toNat = c.val.toNat := rfl
    omega
theorem sok_app {a b : Str} (h1 : PyData.strOk a = true) (h2 : PyData.strOk b = true) : PyData.strOk (a ++ b) = true := by
  have e : (a ++ b).cps = a.cps ++ b.cps := rfl
  unfold PyData.strOk at h1 h2 ⊢
  rw [e, Array.all_append, h1, h2]
  rfl
theorem sok_join : ∀ (xs : List Str), (∀ x ∈ xs, PyData.strOk x = true) → PyData.strOk (Str.join ", " xs) = true
  | [], _ => by decide +kernel
  | [x], h => h x List.mem_cons_self
  | x :: y :: r, h => by
    have e : Str.join ", " (x :: y :: r) = x ++ ", " ++ Str.join ", " (y :: r) := rfl
    rw [e]
    exact sok_app (sok_app (h x List.mem_cons_self) (sok_of _)) (sok_join (y :: r) fun z hz => h z (List.mem_cons_of_mem _ hz))
/-- data of bounded make, that repr takes -/
structure Sh (k n : Nat) (d : D) : Prop where
  lay : d.canLay0 = true
  sh : d.showable = true
  dep : d.depth ≤ k
  wt : d.weight ≤ n
  lf : d.leavesShort 13 = true
  ok : PyData.strOk d.shown = true
theorem Sh.mono {k n k' n' : Nat} {d : D} (h : Sh k n d) (h1 : k ≤ k') (h2 : n ≤ n') : Sh k' n' d := ⟨h.lay, h.sh, Nat.le_trans h.dep h1, Nat.le_trans h.wt h2, h.lf, h.ok⟩
theorem sh_int {i : Int} (h : i.natAbs < 10 ^ 12) : Sh 1 40 (.int i) := by
  have h40 : i.natAbs < 2 ^ 40 := Nat.lt_trans h (by decide)
  have h41 := log2_lt h40 (by decide)
  refine ⟨by simp [PyData.canLay0], ?_, by simp [PyData.depth], by simp only [PyData.weight]; split <;> omega, ?_, sok_of _⟩
  · simp only [PyData.showable, decide_eq_true_eq]
    have : i.natAbs < 2 ^ 40 := Nat.lt_trans h (by decide)
    have := log2_lt this (by decide)
    omega
  · simp only [PyData.leavesShort, decide_eq_true_eq]
    exact PyData.shown_int_le h
theorem sh_all {k n : Nat} : ∀ {ds : List D}, (∀ d ∈ ds, Sh k n d) → PyData.canLayAll0 ds = true ∧ PyData.showableAll ds = true ∧ PyData.depthAll ds ≤ k ∧ PyData.weightAll ds ≤ ds.length * (n + 1) ∧ PyData.leavesShortAll 13 ds = true ∧ ∀ s ∈ PyData.shownAll ds, PyData.strOk s = true
  | [], _ => by simp [PyData.canLayAll0, PyData.showableAll, PyData.depthAll, PyData.weightAll, PyData.leavesShortAll, PyData.shownAll]
  | d :: ds, h => by
    have h1 := h d List.mem_cons_self
    obtain ⟨a1, a2, a3, a4, a5, a6⟩ := sh_all (ds := ds) fun e he => h e (List.mem_cons_of_mem _ he)
    refine ⟨by simp [PyData.canLayAll0, h1.lay, a1], by simp [PyData.showableAll, h1.sh, a2], ?_, ?_, by simp [PyData.leavesShortAll, h1.lf, a5], ?_⟩
    · have := h1.dep
      simp only [PyData.depthAll]; omega
    · have := h1.wt
      simp only [PyData.weightAll, List.length_cons, Nat.succ_mul]; omega
    · intro s hs
      rw [PyData.shownAll_cons] at hs
      rcases List.mem_cons.mp hs with z | z
      · rw [z]; exact h1.ok
      · exact a6 s z
theorem sh_tuple {k n m : Nat} {ds : List D} (h : ∀ d ∈ ds, Sh k n d) (hm : ds.length ≤ m) : Sh (k + 1) (m * (n + 1)) (.tuple ds) := by
  obtain ⟨a1, a2, a3, a4, a5, a6⟩ := sh_all h
  have hmul : ds.length * (n + 1) ≤ m * (n + 1) := Nat.mul_le_mul_right _ hm
  refine ⟨by simpa [PyData.canLay0] using a1, by simpa [PyData.showable] using a2, by simp only [PyData.depth]; omega, by simp only [PyData.weight]; omega, by simpa [PyData.leavesShort] using a5, ?_⟩
  rw [PyData.shown_tuple]
  refine sok_app (sok_app (sok_of _) (sok_join _ a6)) ?_
  split <;> exact sok_of _
theorem sh_list {k n m : Nat} {ds : List D} (h : ∀ d ∈ ds, Sh k n d) (hm : ds.length ≤ m) : Sh (k + 1) (m * (n + 1)) (.list ds) := by
  obtain ⟨a1, a2, a3, a4, a5, a6⟩ := sh_all h
  have hmul : ds.length * (n + 1) ≤ m * (n + 1) := Nat.mul_le_mul_right _ hm
  refine ⟨by simpa [PyData.canLay0] using a1, by simpa [PyData.showable] using a2, by simp only [PyData.depth]; omega, by simp only [PyData.weight]; omega, by simpa [PyData.leavesShort] using a5, ?_⟩
  rw [PyData.shown_list]
  exact sok_app (sok_app (sok_of _) (sok_join _ a6)) (sok_of _)
theorem sh_name {s : String} (h1 : PyData.strOk (PyData.shown (.str (Str.ofString s))) = true) (h2 : (Str.ofString s).cps.size ≤ 10) : Sh 1 11 (.str (Str.ofString s)) := by
  refine ⟨sok_of _, by simp [PyData.showable], by simp [PyData.depth], by simp only [PyData.weight]; omega, ?_, h1⟩
  have := sok_of s
  simp only [PyData.leavesShort, List.all_eq_true, decide_eq_true_eq]
  intro c hc
  unfold PyData.strOk at this
  have := (Array.all_eq_true_iff_forall_mem.mp this) c (Array.mem_toList_iff.mp hc)
  have e : (16 : Nat) ^ 8 = 4294967296 := by decide
  simp at this
  omega
theorem sh_rep {d : D} (h : Sh 60 1000000 d) (hc : (∃ ds, d = .list ds) ∨ ∃ ds, d = .tuple ds) {V : Opd → Prop} (hV : V (.val (.str d.shown))) : reprW d V :=
  ⟨⟨hc, h.sh, PyData.hasDict_of_canLay d h.lay, h.dep, PyData.shown_fits (by decide) (by decide) h.lf (Nat.le_trans h.wt (by decide))⟩, hV⟩
end GSP
end

section
set_option Elab.async false
set_option linter.all false
set_option maxRecDepth 100000
set_option maxHeartbeats 1000000
namespace GSP
open PySem PySem.Spec PyProof.Rows L2 GS

/-! ## what the law's own defs compute -/
def SrcOk (N : Nat) (ct : Ct) : Prop := ∃ a b c : Int, ct = .lst [.int a, .int b, .int c] ∧ 0 ≤ a ∧ 0 ≤ b ∧ 0 ≤ c ∧ c ≤ N
def sp__law_source : SpecFn := fun args W => ∃ (ns : List Int) (k : Nat), args = [.val (.list (ns.map .int)), .val (.int k)] ∧ k < 1000 ∧ ∀ ct, SrcOk 0 ct → W (.new ct) []
def sp__law_draw : SpecFn := fun args W => ∃ (ct : Ct) (N : Nat) (many : Int), args = [.ref ct, .val (.int many)] ∧ (SrcOk N ct ∧ N ≤ 1000000 ∧ 1 ≤ many ∧ many ≤ 1000) ∧ ∀ r ct', 0 ≤ r → r < many → SrcOk (N + 1) ct' → W (.val (.int r)) [ct']
def sp__law_same : SpecFn := fun args W => ∃ d : D, args = [.val d, .val d] ∧ Sh 60 1000000 d ∧ ((∃ ds, d = .list ds) ∨ ∃ ds, d = .tuple ds) ∧ W (.val (.bool true)) []
def PartF (x : Part) : Prop := ∃ p n : Int, x = .ring p n ∧ (p, n) ∈ ([(2, 1), (2, 2), (2, 3), (3, 1), (3, 2), (5, 1)] : List (Int × Int))
def order (x : Part) : Int := match x with
  | .ring p n => p ^ n.toNat
  | _ => 1
def sizeG (g : Group) : Int := g.foldl (fun s x => s * order x.1 ^ x.2.toNat) 1
def FinG (g : Group) : Prop := GoodGroup g ∧ (∀ x ∈ g, PartF x.1 ∧ 0 < x.2) ∧ g.length ≤ 3 ∧ sizeG g ≤ 24 ∧ ∀ x ∈ g, x.2 ≤ 4
def sp__law_finite : SpecFn := fun args W => ∃ (ct : Ct) (N : Nat), args = [.ref ct, .val (.int 24)] ∧ (SrcOk N ct ∧ N ≤ 10000) ∧ ∀ g ct', FinG g → SrcOk (N + 100) ct' → W (.val (encGroup g)) [ct']
def PartT (x : Part) : Prop := match x with
  | .line => True
  | .all => True
  | .apart p => p = 2 ∨ p = 3 ∨ p = 5
  | .deep p => p = 2 ∨ p = 3 ∨ p = 5
  | .ring p n => (p = 2 ∨ p = 3 ∨ p = 5) ∧ 1 ≤ n ∧ n ≤ 3
def ToldG (g : Group) : Prop := GoodGroup g ∧ (∀ x ∈ g, PartT x.1 ∧ (x.2 = -1 ∨ 0 < x.2) ∧ x.2 ≤ 4) ∧ g.length ≤ 3
def sp__law_told : SpecFn := fun args W => ∃ (ct : Ct) (N : Nat), args = [.ref ct] ∧ (SrcOk N ct ∧ N ≤ 10000) ∧ ∀ g ct', ToldG g → SrcOk (N + 100) ct' → W (.val (encGroup g)) [ct']
def moduli (g : Group) : List Int := g.flatMap fun x => List.replicate x.2.toNat (order x.1)
def sp__law_moduli : SpecFn := fun args W => ∃ g : Group, args = [.val (encGroup g)] ∧ FinG g ∧ W (.new (.lst ((moduli g).map .int))) []
def nums (m : Int) : List Int := (List.range m.toNat).map fun (i : Nat) => (i : Int)
def allOf : List Int → List (List Int)
  | ms => ms.foldl (fun found m => found.flatMap fun own => (nums m).map fun v => own ++ [v]) [[]]
def encPt (x : List Int) : D := .tuple (x.map .int)
def GoodMs (ms : List Int) : Prop := (∀ m ∈ ms, m ∈ ([2, 4, 8, 3, 9, 5] : List Int)) ∧ ms.foldl (· * ·) 1 ≤ 24
def sp__law_all : SpecFn := fun args W => ∃ ms : List Int, args = [.val (.list (ms.map .int))] ∧ GoodMs ms ∧ W (.new (.lst ((allOf ms).map encPt))) [] ∧ W (.val (.list ((allOf ms).map encPt))) []
/-- d times something is a times x, at the modulus m -/
def atOk (d a m x : Int) : Bool := (nums m).any fun own => decide ((d * own - a * x).fmod m = 0)
def rowOk (ms : List Int) (d a : Int) (x : List Int) : Bool := (List.zip ms x).all fun p => atOk d a p.1 p.2
def sp__law_row_holds : SpecFn := fun args W => ∃ (ms : List Int) (d a : Int) (x : List Int), args = [.val (.list (ms.map .int)), .val (.int d), .val (.tuple [.int a]), .val (.tuple [encPt x])] ∧ (GoodMs ms ∧ x.length = ms.length ∧ d.natAbs < 1000000 ∧ a.natAbs < 1000000 ∧ ∀ v ∈ x, v.natAbs < 1000000) ∧ W (.val (.bool (rowOk ms d a x))) []
def bothOf (ms : List Int) (pts : List (List Int)) (l : Lot1) : List (List Int) := pts.filter fun x => l.all fun r => rowOk ms r.1 r.2 x
def bruteIx (ms : List Int) (one other : Lot1) : Int := ((bothOf ms (allOf ms) one).length : Int).fdiv ((bothOf ms (bothOf ms (allOf ms) one) other).length : Int)
def sp__law_index : SpecFn := fun args W => ∃ (ms : List Int) (one other : Lot1), args = [.val (.list (ms.map .int)), .val (.list ((allOf ms).map encPt)), .val (encLot1 one), .val (encLot1 other)] ∧ (GoodMs ms ∧ Small1 one ∧ Small1 other) ∧ W (.val (.int (bruteIx ms one other))) []
def RowT (r : Int × Int) : Prop := r.1 ∈ ([0, 2, 3, 4, 6] : List Int) ∧ r.2 ∈ ([1, 2, 3, 4] : List Int)
def PrT (x : Pr) : Prop := (∀ r ∈ x.1, RowT r) ∧ (∀ r ∈ x.2.1, RowT r) ∧ x.1.length ≤ 1 ∧ x.2.1.length ≤ 2 ∧ 1 ≤ x.2.2 ∧ x.2.2 ≤ 5
def PairsT (l : List Pr) : Prop := (∀ x ∈ l, PrT x) ∧ l.length ≤ 3
def sp__law_pairs_drawn : SpecFn := fun args W => ∃ (ct : Ct) (N : Nat), args = [.ref ct] ∧ (SrcOk N ct ∧ N ≤ 10000) ∧ ∀ l ct', PairsT l → SrcOk (N + 100) ct' → W (.val (encPairs l)) [ct']
def sp__law_capped : SpecFn := fun args W => ∃ (i : Option Int) (most : Int), args = [.val (optD i), .val (.int most)] ∧ W (.val (.int (cap i most))) []
def prodV (xs ys : List Int) (l : List Pr) : List Int := (List.zip (List.zip xs ys) l).map fun z => min (z.1.1 * z.1.2) z.2.2.2
def sp__law_product : SpecFn := fun args W => ∃ (xs ys : List Int) (l : List Pr), args = [.val (.tuple (xs.map .int)), .val (.tuple (ys.map .int)), .val (encPairs l)] ∧ (xs.length = l.length ∧ ys.length = l.length ∧ (∀ x ∈ xs, x.natAbs < 1000) ∧ ∀ x ∈ ys, x.natAbs < 1000) ∧ W (.val (.tuple ((prodV xs ys l).map .int))) []
def sp_law : SpecFn := fun args W => ∃ ns : List Int, args = [.val (.list (ns.map .int))] ∧ W (.val (.bool true)) []
end GSP
end

section
set_option Elab.async false
set_option linter.all false
set_option maxRecDepth 100000
namespace GSP
open PySem PySem.Spec PyProof.Rows L2 GS
abbrev N__law_source : List Str := ["script", "k", "own", "mixed", "number"]
def w__law_source : WS :=
  (wSeq (wSet 2 (wIfe (wTst (wCmp .lt (wVar 1) (w1 (wVar 0) lenW))) (w1 (wIdx (wVar 0) (wVar 1)) intW) (wBin .add (wC (.int 11)) (wBin .mul (wC (.int 9973)) (wVar 1)))))
  (wSeq (wSet 3 (wBin .add (w1 (wVar 0) lenW) (wC (.int 5))))
  (wSeq (wFor (wiRow (wSlc (wVar 0) woNone (woSome (wC (.int 63))))) (wgName 4) (wSet 3 (wBin .mod (w1 (wBin .add (wBin .mul (wVar 3) (wC (.int 6700417))) (wBin .mod (w1 (wVar 4) intW) (wBin .add (wBin .pow (wC (.int 10)) (wC (.int 25))) (wC (.int 13))))) intW) (wBin .add (wBin .pow (wC (.int 10)) (wC (.int 27))) (wC (.int 103))))))
  (wSeq (wSet 3 (wBin .mod (w1 (wBin .add (wBin .add (wBin .mul (wVar 3) (wC (.int 97))) (wBin .mul (wVar 1) (wC (.int 7919)))) (wBin .mod (w1 (wVar 2) intW) (wBin .add (wBin .pow (wC (.int 10)) (wC (.int 26))) (wC (.int 67))))) intW) (wBin .add (wBin .pow (wC (.int 10)) (wC (.int 27))) (wC (.int 103)))))
  (wRet (wLst (wvCons (w2 (wC (.int 0)) (wBin .sub (w1 (wVar 2) absW) (wBin .pow (wC (.int 10)) (wC (.int 18)))) max2W) (wvCons (wVar 3) (wvCons (wC (.int 0)) wvNil)))))))))

abbrev N__law_draw : List Str := ["source", "many", "found"]
def w__law_draw : WS :=
  (wSeq (wIf (wTst (wCmp .gt (wIdx (wVar 0) (wC (.int 0))) (wC (.int 0)))) (wSeq (wSet 2 (wBin .mod (w1 (wIdx (wVar 0) (wC (.int 0))) intW) (wVar 1)))
  (wSeq (wPut 0 (wC (.int 0)) (wBin .fdiv (wIdx (wVar 0) (wC (.int 0))) (wVar 1)))
  (wRet (wVar 2)))) wNext)
  (wSeq (wPut 0 (wC (.int 2)) (wBin .add (wIdx (wVar 0) (wC (.int 2))) (wC (.int 1))))
  (wSeq (wPut 0 (wC (.int 1)) (wBin .mod (w1 (wBin .add (wBin .add (wBin .mul (wIdx (wVar 0) (wC (.int 1))) (wC (.int 2330130241))) (wBin .mul (wBin .mul (wIdx (wVar 0) (wC (.int 2))) (wIdx (wVar 0) (wC (.int 2)))) (wC (.int 69621)))) (wC (.int 11))) intW) (wBin .add (wBin .pow (wC (.int 10)) (wC (.int 27))) (wC (.int 103)))))
  (wRet (wBin .mod (w1 (wBin .fdiv (wIdx (wVar 0) (wC (.int 1))) (wBin .pow (wC (.int 10)) (wC (.int 6)))) intW) (wVar 1))))))

abbrev N__law_same : List Str := ["told", "due"]
def w__law_same : WS :=
  (wRet (wCmp .eq (w1 (wVar 0) reprW) (w1 (wVar 1) reprW)))

abbrev N__law_finite : List Str := ["source", "most", "found", "size", "turn", "p", "n", "order"]
def w__law_finite : WS :=
  (wSeq (wPar [2, 3] (wpCons wDnew (wpCons (wC (.int 1)) wpNil)))
  (wSeq (wFor (wiRng1 (wCall sp__law_draw (wrRef 0 (wrVal (wC (.int 4)) wrNil)))) (wgName 4) (wSeq (wSet 5 (wIdx (wLst (wvCons (wC (.int 2)) (wvCons (wC (.int 2)) (wvCons (wC (.int 3)) (wvCons (wC (.int 5)) wvNil))))) (wCall sp__law_draw (wrRef 0 (wrVal (wC (.int 4)) wrNil)))))
  (wSeq (wSet 6 (wBin .add (wC (.int 1)) (wCall sp__law_draw (wrRef 0 (wrVal (wC (.int 3)) wrNil)))))
  (wSeq (wSet 7 (wIdx (wLst (wvCons (wC (.int 0)) (wvCons (wVar 5) (wvCons (wBin .mul (wVar 5) (wVar 5)) (wvCons (wBin .mul (wBin .mul (wVar 5) (wVar 5)) (wVar 5)) wvNil))))) (wVar 6)))
  (wIf (wTst (wCmp .le (wBin .mul (wVar 3) (wVar 7)) (wVar 1))) (wSeq (wSet 3 (wBin .mul (wVar 3) (wVar 7)))
  (wPut 2 (wTup (wvCons (wC (.str "ring")) (wvCons (wVar 5) (wvCons (wVar 6) wvNil)))) (wBin .add (wGet 2 (wTup (wvCons (wC (.str "ring")) (wvCons (wVar 5) (wvCons (wVar 6) wvNil)))) (wC (.int 0))) (wC (.int 1))))) wNext)))))
  (wRet (w1 (wSItems 2) tupW))))

abbrev N__law_told : List Str := ["source", "found", "turn", "p", "part", "many"]
def w__law_told : WS :=
  (wSeq (wSet 1 wDnew)
  (wSeq (wFor (wiRng1 (wCall sp__law_draw (wrRef 0 (wrVal (wC (.int 4)) wrNil)))) (wgName 2) (wSeq (wSet 3 (wIdx (wLst (wvCons (wC (.int 2)) (wvCons (wC (.int 3)) (wvCons (wC (.int 2)) (wvCons (wC (.int 5)) wvNil))))) (wCall sp__law_draw (wrRef 0 (wrVal (wC (.int 4)) wrNil)))))
  (wSeq (wSet 4 (wIdx (wLst (wvCons (wTup (wvCons (wC (.str "line")) wvNil)) (wvCons (wTup (wvCons (wC (.str "all")) wvNil)) (wvCons (wTup (wvCons (wC (.str "apart")) (wvCons (wVar 3) wvNil))) (wvCons (wTup (wvCons (wC (.str "deep")) (wvCons (wVar 3) wvNil))) (wvCons (wTup (wvCons (wC (.str "ring")) (wvCons (wVar 3) (wvCons (wC (.int 1)) wvNil)))) (wvCons (wTup (wvCons (wC (.str "ring")) (wvCons (wVar 3) (wvCons (wC (.int 2)) wvNil)))) (wvCons (wTup (wvCons (wC (.str "ring")) (wvCons (wVar 3) (wvCons (wC (.int 3)) wvNil)))) wvNil)))))))) (wCall sp__law_draw (wrRef 0 (wrVal (wC (.int 7)) wrNil)))))
  (wSeq (wSet 5 (wIdx (wLst (wvCons (wC (.int 1)) (wvCons (wC (.int 1)) (wvCons (wC (.int 2)) (wvCons (wC (.int 3)) (wvCons (w1 (wC (.int 1)) negW) wvNil)))))) (wCall sp__law_draw (wrRef 0 (wrVal (wC (.int 5)) wrNil)))))
  (wPut 1 (wVar 4) (wIfe (wTst (wCmp .inn (w1 (wC (.int 1)) negW) (wTup (wvCons (wVar 5) (wvCons (wGet 1 (wVar 4) (wC (.int 0))) wvNil))))) (w1 (wC (.int 1)) negW) (wBin .add (wVar 5) (wGet 1 (wVar 4) (wC (.int 0))))))))))
  (wRet (w1 (wLc (wiRow (w1 (wVar 1) sortW)) (wgName 4) wtYes (wTup (wvCons (wVar 4) (wvCons (w2 (wC (.int 4)) (wIdx (wVar 1) (wVar 4)) min2W) wvNil))) [4]) tupW))))

abbrev N__law_moduli : List Str := ["group", "found", "part", "many", "order", "turn"]
def w__law_moduli : WS :=
  (wSeq (wSet 1 (wLst wvNil))
  (wSeq (wFor (wiRow (wVar 0)) (wgTup 2 (wgCons (wgName 2) (wgCons (wgName 3) wgNil))) (wSeq (wSet 4 (wC (.int 1)))
  (wSeq (wFor (wiRng1 (wIdx (wVar 2) (wC (.int 2)))) (wgName 5) (wSet 4 (wBin .mul (wVar 4) (wIdx (wVar 2) (wC (.int 1))))))
  (wSet 1 (wBin .add (wVar 1) (wBin .mul (wLst (wvCons (wVar 4) wvNil)) (wVar 3)))))))
  (wRet (wVar 1))))

abbrev N__law_all : List Str := ["moduli", "found", "order", "longer", "own", "value"]
def w__law_all : WS :=
  (wSeq (wSet 1 (wLst (wvCons (wTup wvNil) wvNil)))
  (wSeq (wFor (wiRow (wVar 0)) (wgName 2) (wSeq (wSet 3 (wLst wvNil))
  (wSeq (wFor (wiRow (wVar 1)) (wgName 4) (wExt 3 (wLc (wiRng1 (wVar 2)) (wgName 5) wtYes (wBin .add (wVar 4) (wTup (wvCons (wVar 5) wvNil))) [5])))
  (wSet 1 (wVar 3)))))
  (wRet (wVar 1))))

abbrev N__law_row_holds : List Str := ["moduli", "d", "a", "points", "at", "value", "j", "own"]
def w__law_row_holds : WS :=
  (wSeq (wFor (wiRng1 (w1 (wVar 0) lenW)) (wgName 4) (wSeq (wSet 5 (w1 (wLc (wiRng1 (w1 (wVar 2) lenW)) (wgName 6) wtYes (wBin .mul (wIdx (wVar 2) (wVar 6)) (wIdx (wIdx (wVar 3) (wVar 6)) (wVar 4))) [6]) sumW))
  (wIf (wtNot (wtTru (w1 (wLc (wiRng1 (wIdx (wVar 0) (wVar 4))) (wgName 7) wtYes (wCmp .eq (wBin .mod (wBin .sub (wBin .mul (wVar 1) (wVar 7)) (wVar 5)) (wIdx (wVar 0) (wVar 4))) (wC (.int 0))) [7]) anyW))) (wRet (wC (.bool false))) wNext)))
  (wRet (wC (.bool true))))

abbrev N__law_index : List Str := ["moduli", "every", "one", "other", "first", "both", "d", "a", "x"]
def w__law_index : WS :=
  (wSeq (wSet 4 (wLc (wiRow (wVar 1)) (wgName 8) (wtTru (w1 (wLc (wiRow (wVar 2)) (wgTup 2 (wgCons (wgName 6) (wgCons (wgName 7) wgNil))) wtYes (wCall sp__law_row_holds (wrVal (wVar 0) (wrVal (wVar 6) (wrVal (wVar 7) (wrVal (wTup (wvCons (wVar 8) wvNil)) wrNil))))) [6, 7]) allW)) (wVar 8) [8]))
  (wSeq (wSet 5 (wLc (wiRow (wVar 4)) (wgName 8) (wtTru (w1 (wLc (wiRow (wVar 3)) (wgTup 2 (wgCons (wgName 6) (wgCons (wgName 7) wgNil))) wtYes (wCall sp__law_row_holds (wrVal (wVar 0) (wrVal (wVar 6) (wrVal (wVar 7) (wrVal (wTup (wvCons (wVar 8) wvNil)) wrNil))))) [6, 7]) allW)) (wVar 8) [8]))
  (wRet (wBin .fdiv (w1 (wVar 4) lenW) (w1 (wVar 5) lenW)))))

abbrev N__law_pairs_drawn : List Str := ["source", "found", "turn", "lots", "side", "rows", "step"]
def w__law_pairs_drawn : WS :=
  (wSeq (wSet 1 (wLst wvNil))
  (wSeq (wFor (wiRng1 (wBin .add (wC (.int 1)) (wCall sp__law_draw (wrRef 0 (wrVal (wC (.int 3)) wrNil))))) (wgName 2) (wSeq (wSet 3 (wLst wvNil))
  (wSeq (wFor (wiRow (wTup (wvCons (wC (.int 0)) (wvCons (wC (.int 1)) wvNil)))) (wgName 4) (wSeq (wSet 5 (wLc (wiRng1 (wCall sp__law_draw (wrRef 0 (wrVal (wBin .sub (wC (.int 3)) (wVar 4)) wrNil)))) (wgName 6) wtYes (wTup (wvCons (wIdx (wLst (wvCons (wC (.int 0)) (wvCons (wC (.int 2)) (wvCons (wC (.int 3)) (wvCons (wC (.int 4)) (wvCons (wC (.int 0)) (wvCons (wC (.int 6)) wvNil))))))) (wCall sp__law_draw (wrRef 0 (wrVal (wC (.int 6)) wrNil)))) (wvCons (wTup (wvCons (wIdx (wLst (wvCons (wC (.int 1)) (wvCons (wC (.int 2)) (wvCons (wC (.int 1)) (wvCons (wC (.int 3)) (wvCons (wC (.int 1)) (wvCons (wC (.int 4)) wvNil))))))) (wCall sp__law_draw (wrRef 0 (wrVal (wC (.int 6)) wrNil)))) wvNil)) wvNil))) [6]))
  (wApp 3 (w1 (wVar 5) tupW))))
  (wApp 1 (wTup (wvCons (wIdx (wVar 3) (wC (.int 1))) (wvCons (wIdx (wVar 3) (wC (.int 0))) (wvCons (wBin .add (wC (.int 1)) (wCall sp__law_draw (wrRef 0 (wrVal (wC (.int 5)) wrNil)))) wvNil))))))))
  (wRet (w1 (wVar 1) tupW))))

abbrev N__law_capped : List Str := ["index", "most"]
def w__law_capped : WS :=
  (wRet (wIfe (wTst (w1 (wVar 0) (isNW false))) (wVar 1) (w2 (wVar 0) (wVar 1) min2W)))

abbrev N__law_product : List Str := ["one", "other", "pairs", "mine", "theirs", "pair"]
def w__law_product : WS :=
  (wRet (w1 (wLc (wiZip3 (wvCons (wVar 0) (wvCons (wVar 1) (wvCons (wVar 2) wvNil)))) (wgTup 3 (wgCons (wgName 3) (wgCons (wgName 4) (wgCons (wgName 5) wgNil)))) wtYes (w2 (wBin .mul (wVar 3) (wVar 4)) (wIdx (wVar 5) (wC (.int 2))) min2W) [3, 4, 5]) tupW))

abbrev N_law : List Str := ["script", "at", "source", "turn", "group", "other", "small", "pairs", "kept", "due", "moduli", "every", "listed", "told", "further", "one", "more", "k"]
def w_law : WS :=
  (wSeq (wFor (wiRng1 (w2 (wC (.int 1)) (w2 (wC (.int 4)) (w1 (wVar 0) lenW) min2W) max2W)) (wgName 1) (wSeq (wSet 2 (wCall sp__law_source (wrVal (wVar 0) (wrVal (wVar 1) wrNil))))
  (wFor (wiRng1 (wC (.int 3))) (wgName 3) (wSeq (wAsg (wgTup 4 (wgCons (wgName 4) (wgCons (wgName 5) (wgCons (wgName 6) (wgCons (wgName 7) wgNil))))) (wTup (wvCons (wCall sp__law_told (wrRef 2 wrNil)) (wvCons (wCall sp__law_told (wrRef 2 wrNil)) (wvCons (wCall sp__law_finite (wrRef 2 (wrVal (wC (.int 24)) wrNil))) (wvCons (wCall sp__law_pairs_drawn (wrRef 2 wrNil)) wvNil))))))
  (wSeq (wSet 8 (w1 (wLst (wvCons (wVar 4) (wvCons (wVar 7) wvNil))) reprW))
  (wSeq (wSet 9 (w1 (wLc (wiRow (wVar 7)) (wgTup 3 (wgCons (wgName 15) (wgCons (wgName 16) (wgCons (wgName 17) wgNil)))) wtYes (wCall sp__law_capped (wrVal (wCall sp_index_in (wrVal (wVar 4) (wrVal (wVar 15) (wrVal (wVar 16) wrNil)))) (wrVal (wVar 17) wrNil))) [15, 16, 17]) tupW))
  (wSeq (wIf (wtNot (wtTru (wCall sp__law_same (wrVal (wLst (wvCons (wCall sp_vector_of (wrVal (wVar 4) (wrVal (wVar 7) wrNil))) (wvCons (wCallK sp_vector_of [1, 0] 0 2 wvNil (wvCons (wVar 7) (wvCons (wVar 4) wvNil))) wvNil))) (wrVal (wLst (wvCons (wVar 9) (wvCons (wVar 9) wvNil))) wrNil))))) (wRet (wC (.bool false))) wNext)
  (wSeq (wSet 10 (wCall sp__law_moduli (wrVal (wVar 6) wrNil)))
  (wSeq (wSet 11 (wCall sp__law_all (wrVal (wVar 10) wrNil)))
  (wSeq (wSet 12 (w1 (wLc (wiRow (wVar 7)) (wgTup 3 (wgCons (wgName 15) (wgCons (wgName 16) (wgCons (wgName 17) wgNil)))) wtYes (w2 (wCall sp__law_index (wrVal (wVar 10) (wrVal (wVar 11) (wrVal (wVar 15) (wrVal (wVar 16) wrNil))))) (wVar 17) min2W) [15, 16, 17]) tupW))
  (wSeq (wSet 13 (wLst (wvCons (wCall sp_vector_of (wrVal (wVar 6) (wrVal (wVar 7) wrNil))) (wvCons (wCall sp_vector_of (wrVal (wTup wvNil) (wrVal (wVar 7) wrNil))) (wvCons (wCall sp_vector_of (wrVal (wVar 4) (wrVal (wTup wvNil) wrNil))) (wvCons (wCall sp_vector_of (wrVal (wCall sp_sum_of (wrVal (wVar 4) (wrVal (wVar 6) wrNil))) (wrVal (wVar 7) wrNil))) wvNil))))))
  (wSeq (wIf (wtNot (wtTru (wCall sp__law_same (wrVal (wVar 13) (wrVal (wLst (wvCons (wVar 12) (wvCons (wBin .mul (wTup (wvCons (wC (.int 1)) wvNil)) (w1 (wVar 7) lenW)) (wvCons (wTup wvNil) (wvCons (wCall sp__law_product (wrVal (wVar 9) (wrVal (wVar 12) (wrVal (wVar 7) wrNil)))) wvNil))))) wrNil))))) (wRet (wC (.bool false))) wNext)
  (wSeq (wSet 14 (wCall sp_vector_of (wrVal (wVar 5) (wrVal (wVar 7) wrNil))))
  (wSeq (wSet 13 (wLst (wvCons (wCall sp_vector_of (wrVal (wCall sp_sum_of (wrVal (wVar 4) (wrVal (wVar 5) wrNil))) (wrVal (wVar 7) wrNil))) (wvCons (wCall sp_vector_of (wrVal (wCall sp_sum_of (wrVal (wVar 4) (wrVal (wVar 4) wrNil))) (wrVal (wVar 7) wrNil))) wvNil))))
  (wIf (wtOr (wtNot (wtTru (wCall sp__law_same (wrVal (wVar 13) (wrVal (wLst (wvCons (wCall sp__law_product (wrVal (wVar 9) (wrVal (wVar 14) (wrVal (wVar 7) wrNil)))) (wvCons (wCall sp__law_product (wrVal (wVar 9) (wrVal (wVar 9) (wrVal (wVar 7) wrNil)))) wvNil))) wrNil))))) (wTst (wCmp .ne (w1 (wLst (wvCons (wVar 4) (wvCons (wVar 7) wvNil))) reprW) (wVar 8)))) (wRet (wC (.bool false))) wNext)))))))))))))))
  (wRet (wC (.bool true))))
end GSP
end

section
set_option Elab.async false
set_option linter.all false
set_option maxRecDepth 100000
set_option maxHeartbeats 1000000
set_option exponentiation.threshold 100
namespace GSP
open PySem PySem.Spec PyProof.Rows L2 GS

theorem fmod_range {a m : Int} (h : 0 < m) : 0 ≤ a.fmod m ∧ a.fmod m < m := ⟨Int.fmod_nonneg_of_pos a h, Int.fmod_lt_of_pos a h⟩
theorem pow_ok {a b : Int} (h1 : 0 ≤ b) (h2 : b ≤ 1000000) (h3 : a.natAbs < 2 ^ 64) : CPow a b := ⟨h1, h2, h3⟩
theorem cp27 : CPow 10 27 := ⟨by decide, by decide, by decide⟩
theorem cp26 : CPow 10 26 := ⟨by decide, by decide, by decide⟩
theorem cp25 : CPow 10 25 := ⟨by decide, by decide, by decide⟩
theorem cp18 : CPow 10 18 := ⟨by decide, by decide, by decide⟩
theorem cp6 : CPow 10 6 := ⟨by decide, by decide, by decide⟩
theorem mulR (a : Int) {b : Int} (h1 : -(2 ^ 64) < b) (h2 : b < 2 ^ 64) : GS.MulOk a b := .inr (.inl ⟨h1, h2⟩)
theorem mulL {a : Int} (b : Int) (h1 : -(2 ^ 64) < a) (h2 : a < 2 ^ 64) : GS.MulOk a b := .inl ⟨h1, h2⟩
@[simp] theorem ixN31 : ixN 3 1 = some 1 := rfl
@[simp] theorem ixN32 : ixN 3 2 = some 2 := rfl
@[simp] theorem ixN30 : ixN 3 0 = some 0 := rfl
@[simp] theorem ixN0 {n : Nat} : ixN (n + 3) 0 = some 0 := by simp [ixN]; omega
theorem pure__law_draw : Pure 2 3 sp__law_draw w__law_draw := by
  intro args W h
  obtain ⟨ct, N, many, rfl, ⟨⟨a, b, c, rfl, ha, hb, hc, hcN⟩, hN, hm, hm2⟩, h⟩ := h
  refine ⟨rfl, ?_⟩
  have hm0 : many ≠ 0 := by omega
  have m1 : GS.MulOk b 2330130241 := mulR _ (by decide) (by decide)
  have m2 : GS.MulOk (c + 1) (c + 1) := mulR _ (by omega) (by omega)
  have m3 : GS.MulOk ((c + 1) * (c + 1)) 69621 := mulR _ (by decide) (by decide)
  simp [w__law_draw, Γ0, cp27, cp6, hm0, m1, m2, m3]
  by_cases q : 0 < a
  · refine .inr ⟨q, .inl ⟨hm0, by omega⟩, ?_⟩
    obtain ⟨g1, g2⟩ := fmod_range (a := a) (m := many) (by omega)
    refine h _ _ g1 g2 ⟨_, _, _, rfl, ?_, hb, hc, by omega⟩
    rw [fdiv_eq (by omega)]
    exact Int.ediv_nonneg ha (by omega)
  · refine .inl ⟨by omega, ?_⟩
    obtain ⟨g1, g2⟩ := fmod_range (a := b * 2330130241 + (c + 1) * (c + 1) * 69621 + 11) (m := 1000000000000000000000000103) (by decide)
    obtain ⟨k1, k2⟩ := fmod_range (a := (((b * 2330130241 + (c + 1) * (c + 1) * 69621 + 11).fmod 1000000000000000000000000103).fdiv 1000000)) (m := many) (by omega)
    exact ⟨.inl ⟨by decide, by decide⟩, h _ _ k1 k2 ⟨_, _, _, rfl, ha, g1, by omega, by omega⟩⟩
theorem cut63 (ns : List Int) : ∃ ms : List Int, GS.cutD (ns.map .int) none (some 63) = ms.map .int := by
  unfold GS.cutD
  rw [← List.map_drop, ← List.map_take]
  exact ⟨_, rfl⟩
abbrev srcB : WS := (wSet 3 (wBin .mod (w1 (wBin .add (wBin .mul (wVar 3) (wC (.int 6700417))) (wBin .mod (w1 (wVar 4) intW) (wBin .add (wBin .pow (wC (.int 10)) (wC (.int 25))) (wC (.int 13))))) intW) (wBin .add (wBin .pow (wC (.int 10)) (wC (.int 27))) (wC (.int 103)))))
theorem src_loop {P k own : Slot} {K : DK} : ∀ (ms : List Int) (mixed : Int) (s : Slot), noRef s = true → (∀ mixed s, K.nx [P, k, own, .val (.int mixed), s]) → forW (wgName 4) srcB K (ms.map .int) [P, k, own, .val (.int mixed), s]
  | [], mixed, s, hs, h => h mixed s
  | m :: ms, mixed, s, hs, h => by
    have hP : DEnv.at [P, k, own, .val (.int mixed), s] 4 = s := rfl
    have m1 : GS.MulOk mixed 6700417 := mulR _ (by decide) (by decide)
    have ih := src_loop (P := P) (k := k) (own := own) (K := K) ms ((mixed * 6700417 + m.fmod 10000000000000000000000013).fmod 1000000000000000000000000103) (.val (.int m)) rfl h
    simp [forW, hP, hs, m1, cp25, cp27]
    exact ih
theorem pure__law_source : Pure 2 5 sp__law_source w__law_source := by
  intro args W h
  obtain ⟨ns, k, rfl, hk, h⟩ := h
  refine ⟨rfl, ?_⟩
  have m1 : GS.MulOk 9973 k := mulL _ (by decide) (by decide)
  have m2 : GS.MulOk k 7919 := mulR _ (by decide) (by decide)
  have hz : (sizeLine : Nat) = 16777216 := rfl
  have key : ∀ own : Int, ∀ mixed : Int, ∀ s : Slot, (wSeq (wSet 3 (wBin .mod (w1 (wBin .add (wBin .add (wBin .mul (wVar 3) (wC (.int 97))) (wBin .mul (wVar 1) (wC (.int 7919)))) (wBin .mod (w1 (wVar 2) intW) (wBin .add (wBin .pow (wC (.int 10)) (wC (.int 26))) (wC (.int 67))))) intW) (wBin .add (wBin .pow (wC (.int 10)) (wC (.int 27))) (wC (.int 103)))))
  (wRet (wLst (wvCons (w2 (wC (.int 0)) (wBin .sub (w1 (wVar 2) absW) (wBin .pow (wC (.int 10)) (wC (.int 18)))) max2W) (wvCons (wVar 3) (wvCons (wC (.int 0)) wvNil)))))) [.val (.list (ns.map .int)), .val (.int k), .val (.int own), .val (.int mixed), s] (retK W []) := fun own mixed s => by
    have m3 : GS.MulOk mixed 97 := mulR _ (by decide) (by decide)
    simp [m2, m3, cp26, cp27, cp18, hz]
    exact h _ ⟨_, _, _, rfl, by omega, (fmod_range (by decide)).1, by omega, by omega⟩
  obtain ⟨ms, hms⟩ := cut63 ns
  have loop := fun (own mixed : Int) => src_loop (P := .val (.list (ns.map .int))) (k := .val (.int k)) (own := .val (.int own)) (K := { nx := fun Γ1 => (wSeq (wSet 3 (wBin .mod (w1 (wBin .add (wBin .add (wBin .mul (wVar 3) (wC (.int 97))) (wBin .mul (wVar 1) (wC (.int 7919)))) (wBin .mod (w1 (wVar 2) intW) (wBin .add (wBin .pow (wC (.int 10)) (wC (.int 26))) (wC (.int 67))))) intW) (wBin .add (wBin .pow (wC (.int 10)) (wC (.int 27))) (wC (.int 103)))))
  (wRet (wLst (wvCons (w2 (wC (.int 0)) (wBin .sub (w1 (wVar 2) absW) (wBin .pow (wC (.int 10)) (wC (.int 18)))) max2W) (wvCons (wVar 3) (wvCons (wC (.int 0)) wvNil)))))) Γ1 (retK W []), bk := (retK W []).bk, ct := (retK W []).ct, rt := retW W [] }) ms mixed .non rfl fun mixed s => key own mixed s
  simp only [srcB] at loop
  have ha : ∀ (q : k < ns.length), atI (ns.map PyData.int) (k : Int) = some (PyData.int ns[k]) := fun q => atI_nat (by simp [q])
  simp [w__law_source, Γ0, m1, hms]
  by_cases q : k < ns.length
  · refine .inr ⟨by exact_mod_cast q, PyData.int ns[k], ha q, ?_⟩
    simp
    simpa [m1, hms] using loop ns[k] (ns.length + 5)
  · refine .inl ⟨by omega, ?_⟩
    simpa [m1, hms] using loop (11 + 9973 * k) (ns.length + 5)
end GSP
end

section
set_option Elab.async false
set_option linter.all false
set_option maxRecDepth 100000
set_option maxHeartbeats 1000000
set_option exponentiation.threshold 100
namespace GSP
open PySem PySem.Spec PyProof.Rows L2 GS

theorem str_shaped {s : Str} (h : PyData.strOk s = true) : SeqAt.shaped (.str s) = true := by
  simp [SeqAt.shaped, PyData.canLay0, PyData.depth, h]
theorem pure__law_same : Pure 2 2 sp__law_same w__law_same := by
  intro args W h
  obtain ⟨d, rfl, hs, hc, h⟩ := h
  refine ⟨rfl, ?_⟩
  simp [w__law_same, Γ0]
  refine sh_rep hs hc ?_
  simp
  refine sh_rep hs hc ?_
  simp [str_shaped hs.ok]
  simpa [PyData.eqv, hs.ok] using h
theorem pure__law_capped : Pure 2 2 sp__law_capped w__law_capped := by
  intro args W h
  obtain ⟨i, most, rfl, h⟩ := h
  refine ⟨rfl, ?_⟩
  cases i with
  | none => simpa [w__law_capped, Γ0, optD, isNoneD, cap] using h
  | some i => simpa [w__law_capped, Γ0, optD, isNoneD, cap] using h
end GSP
end

section
set_option Elab.async false
set_option linter.all false
set_option maxRecDepth 100000
set_option maxHeartbeats 1000000
set_option exponentiation.threshold 100
namespace GSP
open PySem PySem.Spec PyProof.Rows L2 GS

/-! ### moduli -/
def PowOk (x : Part) : Prop := ∃ p n : Int, x = .ring p n ∧ (p = 2 ∨ p = 3 ∨ p = 5) ∧ 1 ≤ n ∧ n ≤ 3
theorem finG_many {g : Group} (h : FinG g) {x : Part × Int} (hx : x ∈ g) : x.2 ≤ 100 := by have := h.2.2.2.2 x hx; omega
theorem partF_pow {x : Part} (h : PartF x) : PowOk x := by
  obtain ⟨p, n, rfl, h⟩ := h
  refine ⟨p, n, rfl, ?_⟩
  simp at h
  omega
theorem ix1 (p n : Int) : ixW (encPart (.ring p n)) (.int 1) = fun W => W (.val (.int p)) := by funext W; simp [encPart]
theorem ix2 (p n : Int) : ixW (encPart (.ring p n)) (.int 2) = fun W => W (.val (.int n)) := by funext W; simp [encPart]
theorem ord_loop {P F M : Slot} {p : Int} {Q : D} {K : DK} (hp : p = 2 ∨ p = 3 ∨ p = 5) (hQ : ixW Q (.int 1) = fun W => W (.val (.int p))) : ∀ (ks : List D) (k : Nat) (s : Slot), k + ks.length ≤ 3 → noRef s = true → (∀ s', noRef s' = true → K.nx [P, F, .val Q, M, .val (.int (p ^ (k + ks.length))), s']) →
    forW (wgName 5) (wSet 4 (wBin .mul (wVar 4) (wIdx (wVar 2) (wC (.int 1))))) K ks [P, F, .val Q, M, .val (.int (p ^ k)), s]
  | [], k, s, hk, hs, h => by simpa using h s hs
  | d :: ks, k, s, hk, hs, h => by
    have ih := ord_loop (P := P) (F := F) (M := M) (K := K) hp hQ ks (k + 1) (.val d) (by simp at hk ⊢; omega) rfl (by
      intro s'
      have := h s'
      simp only [List.length_cons] at this
      rw [show k + 1 + ks.length = k + (ks.length + 1) from by omega]
      exact this)
    have hm : GS.MulOk (p ^ k) p := mulR _ (by omega) (by omega)
    have hat : DEnv.at [P, F, .val Q, M, .val (.int (p ^ k)), s] 5 = s := rfl
    rw [Int.pow_succ] at ih
    simp [forW, hat, hs, hm, hQ]
    exact ih
abbrev modB : WS := (wSeq (wSet 4 (wC (.int 1)))
  (wSeq (wFor (wiRng1 (wIdx (wVar 2) (wC (.int 2)))) (wgName 5) (wSet 4 (wBin .mul (wVar 4) (wIdx (wVar 2) (wC (.int 1))))))
  (wSet 1 (wBin .add (wVar 1) (wBin .mul (wLst (wvCons (wVar 4) wvNil)) (wVar 3))))))
abbrev pairG : WG := (wgTup 2 (wgCons (wgName 2) (wgCons (wgName 3) wgNil)))
theorem mod_loop {P : Slot} {K : DK} : ∀ (g : Group) (ms : List Int) (s2 s3 s4 s5 : Slot), (∀ x ∈ g, PowOk x.1 ∧ 0 < x.2 ∧ x.2 ≤ 100) → ms.length + 100 * g.length ≤ 10000 → noRef s2 = true → noRef s3 = true → noRef s4 = true → noRef s5 = true → (∀ s2 s3 s4 s5, K.nx [P, .own (.lst ((ms ++ moduli g).map .int)), s2, s3, s4, s5]) →
    forW pairG modB K (g.map encPM) [P, .own (.lst (ms.map .int)), s2, s3, s4, s5]
  | [], ms, s2, s3, s4, s5, hg, hl, k2, k3, k4, k5, h => by simpa [forW, moduli] using h s2 s3 s4 s5
  | (x, m) :: g, ms, s2, s3, s4, s5, hg, hl, k2, k3, k4, k5, h => by
    obtain ⟨⟨p, n, hx, hp, hn1, hn2⟩, hm1, hm2⟩ := hg _ List.mem_cons_self
    simp at hx hm1 hm2
    subst hx
    have hz : (sizeLine : Nat) = 16777216 := rfl
    have hP2 : DEnv.at [P, .own (.lst (ms.map .int)), s2, s3, s4, s5] 2 = s2 := rfl
    have hP3 : DEnv.at [P, .own (.lst (ms.map .int)), .val (encPart (.ring p n)), s3, s4, s5] 3 = s3 := rfl
    have hP4 : DEnv.at [P, .own (.lst (ms.map .int)), .val (encPart (.ring p n)), .val (.int m), s4, s5] 4 = s4 := rfl
    have hP5 : DEnv.at [P, .own (.lst (ms.map .int)), .val (encPart (.ring p n)), .val (.int m), .val (.int 1), s5] 5 = s5 := rfl
    have e0 : ((Part.ring p n, m) :: g).map encPM = .tuple [encPart (.ring p n), .int m] :: g.map encPM := rfl
    have hlen : ms.length + m.toNat + 100 * g.length ≤ 10000 := by
      simp only [List.length_cons] at hl; omega
    have ih := fun s5 (k5 : noRef s5 = true) => mod_loop (P := P) (K := K) g (ms ++ List.replicate m.toNat (p ^ n.toNat)) (.val (encPart (.ring p n))) (.val (.int m)) (.val (.int (p ^ n.toNat))) s5 (fun y hy => hg y (List.mem_cons_of_mem _ hy)) (by simp only [List.length_append, List.length_replicate]; omega) rfl rfl rfl k5 (by
      intro a b c d
      have := h a b c d
      simpa [moduli, order] using this)
    rw [e0]
    simp only [forW]
    have hrep : (List.replicate m.toNat [PyData.int (p ^ n.toNat)]).flatten = List.replicate m.toNat (PyData.int (p ^ n.toNat)) := by simp
    simp [hP2, hP3, hP4, hP5, k2, k3, k4, k5, ix2]
    refine ⟨by omega, ?_⟩
    have hl := ord_loop (P := P) (F := .own (.lst (ms.map .int))) (M := .val (.int m)) (K := { nx := fun Γ1 => (wSet 1 (wBin .add (wVar 1) (wBin .mul (wLst (wvCons (wVar 4) wvNil)) (wVar 3)))) Γ1 { nx := forW pairG modB K (g.map encPM), ct := forW pairG modB K (g.map encPM), bk := K.nx, rt := K.rt }, bk := K.nx, ct := forW pairG modB K (g.map encPM), rt := K.rt }) hp (ix1 p n) (rngD 0 n.toNat) 0 s5 (by rw [rng_len]; omega) k5 (by
      intro s' ks'
      rw [rng_len, Nat.zero_add]
      have := ih s' ks'
      simp only [List.map_append, List.map_replicate] at this
      simp [hz]
      first | exact ⟨by omega, by omega, by omega, this⟩ | exact ⟨by omega, by omega, this⟩ | exact ⟨⟨by omega, by omega, by omega⟩, by omega, this⟩ | exact ⟨by omega, this⟩ | exact this)
    simp at hl
    exact hl
theorem pure__law_moduli : Pure 1 6 sp__law_moduli w__law_moduli := by
  intro args W h
  obtain ⟨g, rfl, hf, h⟩ := h
  refine ⟨rfl, ?_⟩
  have := mod_loop (P := .val (encGroup g)) (K := { nx := fun Γ1 => (wRet (wVar 1)) Γ1 (retK W []), bk := (retK W []).bk, ct := (retK W []).ct, rt := retW W [] }) g [] .non .non .non .non (fun x hx => ⟨partF_pow (hf.2.1 x hx).1, (hf.2.1 x hx).2, finG_many hf hx⟩) (by have := hf.2.2.1; simp; omega) rfl rfl rfl rfl fun s2 s3 s4 s5 => by simpa using h
  simp only [modB, pairG] at this
  simpa [w__law_moduli, Γ0, encGroup] using this
end GSP
end

section
set_option Elab.async false
set_option linter.all false
set_option maxRecDepth 100000
set_option maxHeartbeats 1000000
set_option exponentiation.threshold 100
namespace GSP
open PySem PySem.Spec PyProof.Rows L2 GS

def grow (m : Int) (x : List Int) : List (List Int) := (nums m).map fun v => x ++ [v]
def growAll (m : Int) (pts : List (List Int)) : List (List Int) := pts.flatMap (grow m)
theorem allOf_eq (ms : List Int) : allOf ms = ms.foldl (fun found m => growAll m found) [[]] := rfl
theorem nums_len (m : Int) : (nums m).length = m.toNat := by simp [nums]
theorem grow_len (m : Int) (x : List Int) : (grow m x).length = m.toNat := by simp [grow, nums_len]
theorem growAll_len (m : Int) (pts : List (List Int)) : (growAll m pts).length = pts.length * m.toNat := by
  unfold growAll
  induction pts with
  | nil => simp
  | cons x pts ih => rw [List.flatMap_cons, List.length_append, ih, grow_len, List.length_cons, Nat.succ_mul, Nat.add_comm]
theorem rng_nums (m : Int) : rngD 0 m.toNat = (nums m).map .int := by simp [rngD, nums, Function.comp_def]
abbrev allI : WS := (wExt 3 (wLc (wiRng1 (wVar 2)) (wgName 5) wtYes (wBin .add (wVar 4) (wTup (wvCons (wVar 5) wvNil))) [5]))
theorem all_inner {P F : Slot} {m : Int} {K : DK} (hm : 0 ≤ m ∧ m ≤ 9) : ∀ (pts acc : List (List Int)) (s4 s5 : Slot), acc.length + 9 * pts.length ≤ 10000 → (∀ x ∈ pts, x.length ≤ 100) → noRef s4 = true → plain s5 = true → (∀ s4, noRef s4 = true → K.nx [P, F, .val (.int m), .own (.lst ((acc ++ growAll m pts).map encPt)), s4, s5]) →
    forW (wgName 4) allI K (pts.map encPt) [P, F, .val (.int m), .own (.lst (acc.map encPt)), s4, s5]
  | [], acc, s4, s5, hl, hx, h4, h5, h => by simpa [forW, growAll] using h s4 h4
  | x :: pts, acc, s4, s5, hl, hx, h4, h5, h => by
    have hz : (sizeLine : Nat) = 16777216 := rfl
    have hP4 : DEnv.at [P, F, .val (.int m), .own (.lst (acc.map encPt)), s4, s5] 4 = s4 := rfl
    have hP5 : DEnv.at [P, F, .val (.int m), .own (.lst (acc.map encPt)), .val (encPt x), s5] 5 = s5 := rfl
    have hlx := hx x List.mem_cons_self
    have ih := all_inner (P := P) (F := F) (K := K) hm pts (acc ++ grow m x) (.val (encPt x)) s5 (by rw [List.length_append, grow_len]; simp only [List.length_cons] at hl; omega) (fun y hy => hx y (List.mem_cons_of_mem _ hy)) rfl h5 (by
      intro s4 k4
      have := h s4 k4
      simpa [growAll] using this)
    simp [forW, hP4, hP5, h4, h5]
    refine ⟨by omega, ?_⟩
    rw [rng_nums]
    refine compW_map (fun v : Int => (.int v : D)) (fun v => encPt (x ++ [v])) (nums m) (fun v hv A hA => ?_) ?_
    · simp [encPt, hz]
      exact ⟨by omega, by simpa [encPt] using hA⟩
    · simp only [List.length_cons] at hl
      have e : (nums m).map (fun v => encPt (x ++ [v])) = (grow m x).map encPt := by simp [grow]
      rw [e]
      simp [grow_len]
      refine ⟨by omega, ?_⟩
      rw [List.map_append] at ih
      exact ih
abbrev allB : WS := (wSeq (wSet 3 (wLst wvNil))
  (wSeq (wFor (wiRow (wVar 1)) (wgName 4) (wExt 3 (wLc (wiRng1 (wVar 2)) (wgName 5) wtYes (wBin .add (wVar 4) (wTup (wvCons (wVar 5) wvNil))) [5])))
  (wSet 1 (wVar 3))))
theorem prod_pos : ∀ (ms : List Int), (∀ m ∈ ms, 2 ≤ m ∧ m ≤ 9) → ∀ f : Int, 1 ≤ f → f * 1 ≤ ms.foldl (· * ·) f
  | [], _, f, hf => by simp
  | m :: ms, h, f, hf => by
    have hm := h m List.mem_cons_self
    have h1 : f * 1 ≤ f * m := Int.mul_le_mul_of_nonneg_left (by omega) (by omega)
    have := prod_pos ms (fun x hx => h x (List.mem_cons_of_mem _ hx)) (f * m) (by omega)
    rw [List.foldl_cons]
    omega
/-- what the first slot holds: points, own or not -/
def PtsS (s : Slot) (pts : List (List Int)) : Prop := s = .own (.lst (pts.map encPt)) ∨ s = .val (.list (pts.map encPt))
theorem all_step {P : Slot} {m : Int} {pts : List (List Int)} {F s2 s3 s4 s5 : Slot} {K : DK} (hF : PtsS F pts) (hm : 2 ≤ m ∧ m ≤ 9) (hl : pts.length ≤ 24) (hx : ∀ x ∈ pts, x.length ≤ 100) (h2 : noRef s2 = true) (h3 : noRef s3 = true) (h4 : noRef s4 = true) (h5 : plain s5 = true)
    (h : ∀ s3 s4, noRef s3 = true → noRef s4 = true → K.nx [P, .val (.list ((growAll m pts).map encPt)), .val (.int m), s3, s4, s5]) :
    wgName 2 (.int m) [P, F, s2, s3, s4, s5] fun Γ1 => allB Γ1 K := by
  have hz : (sizeLine : Nat) = 16777216 := rfl
  have hP2 : DEnv.at [P, F, s2, s3, s4, s5] 2 = s2 := rfl
  have hP3 : DEnv.at [P, F, .val (.int m), s3, s4, s5] 3 = s3 := rfl
  have := all_inner (P := P) (F := .val (.list (pts.map encPt))) (K := { nx := fun Γ1 => (wSet 1 (wVar 3)) Γ1 K, bk := K.bk, ct := K.ct, rt := K.rt }) (m := m) (by omega) pts [] s4 s5 (by simp; omega) hx h4 h5 (fun s4 k4 => by
    have := h (.val (.list ((growAll m pts).map encPt))) s4 rfl k4
    simpa using this)
  simp at this
  rcases hF with rfl | rfl
  · simp [hP2, hP3, h2, h3]
    exact this
  · simp [hP2, hP3, h2, h3]
    exact this
theorem all_loop {P : Slot} {K : DK} : ∀ (ms : List Int) (pts : List (List Int)) (F s2 s3 s4 s5 : Slot), PtsS F pts → (∀ m ∈ ms, 2 ≤ m ∧ m ≤ 9) → ms.foldl (· * ·) (pts.length : Int) ≤ 24 → 1 ≤ pts.length → (∀ x ∈ pts, x.length + ms.length ≤ 100) → noRef s2 = true → noRef s3 = true → noRef s4 = true → plain s5 = true →
    (∀ F s2 s3 s4, PtsS F (ms.foldl (fun found m => growAll m found) pts) → K.nx [P, F, s2, s3, s4, s5]) →
    forW (wgName 2) allB K (ms.map .int) [P, F, s2, s3, s4, s5]
  | [], pts, F, s2, s3, s4, s5, hF, hm, hp, h1, hx, h2, h3, h4, h5, h => h F s2 s3 s4 hF
  | m :: ms, pts, F, s2, s3, s4, s5, hF, hm, hp, h1, hx, h2, h3, h4, h5, h => by
    have hm0 := hm m List.mem_cons_self
    have hms : ∀ y ∈ ms, 2 ≤ y ∧ y ≤ 9 := fun y hy => hm y (List.mem_cons_of_mem _ hy)
    rw [List.foldl_cons] at hp
    have hpm : (1 : Int) ≤ pts.length * m := by
      have : (1 : Int) * 1 ≤ pts.length * m := Int.mul_le_mul (by omega) (by omega) (by omega) (by omega)
      omega
    have hpp := prod_pos ms hms (pts.length * m) hpm
    have hl : (pts.length : Int) * 1 ≤ pts.length * m := Int.mul_le_mul_of_nonneg_left (by omega) (by omega)
    have e : ((growAll m pts).length : Int) = pts.length * m := by
      rw [growAll_len, Int.natCast_mul, Int.toNat_of_nonneg (by omega)]
    refine all_step hF hm0 (by omega) (fun x hx' => by have := hx x hx'; omega) h2 h3 h4 h5 (fun s3 s4 k3 k4 => ?_)
    refine all_loop ms (growAll m pts) _ _ _ _ _ (.inr rfl) hms (by rw [e]; exact hp) (by omega) (fun x hx' => ?_) rfl k3 k4 h5 h
    obtain ⟨y, hy, hxy⟩ := List.mem_flatMap.mp hx'
    obtain ⟨v, _, rfl⟩ := List.mem_map.mp hxy
    have := hx y hy
    simp only [List.length_cons, List.length_append, List.length_nil] at this ⊢
    omega
theorem ms_facts {ms : List Int} (h : GoodMs ms) : (∀ m ∈ ms, 2 ≤ m ∧ m ≤ 9) := fun m hm => by
  have := h.1 m hm
  simp at this
  omega
theorem ms_len : ∀ (ms : List Int), (∀ m ∈ ms, 2 ≤ m ∧ m ≤ 9) → ∀ f : Int, 1 ≤ f → f + ms.length ≤ ms.foldl (· * ·) f
  | [], _, f, hf => by simp
  | m :: ms, h, f, hf => by
    have hm := h m List.mem_cons_self
    have h1 : f * 2 ≤ f * m := Int.mul_le_mul_of_nonneg_left (by omega) (by omega)
    have := ms_len ms (fun x hx => h x (List.mem_cons_of_mem _ hx)) (f * m) (by omega)
    rw [List.foldl_cons, List.length_cons]
    omega
theorem pure__law_all : Pure 1 6 sp__law_all w__law_all := by
  intro args W h
  obtain ⟨ms, rfl, hg, hn, hv⟩ := h
  refine ⟨rfl, ?_⟩
  have hz : (sizeLine : Nat) = 16777216 := rfl
  have hml := ms_len ms (ms_facts hg) 1 (by omega)
  have := hg.2
  have := all_loop (P := .val (.list (ms.map .int))) (K := { nx := fun Γ1 => (wRet (wVar 1)) Γ1 (retK W []), bk := (retK W []).bk, ct := (retK W []).ct, rt := retW W [] }) ms [[]] (.own (.lst [encPt []])) .non .non .non .non (.inl rfl) (ms_facts hg) hg.2 (by simp) (by simp; omega) rfl rfl rfl rfl (fun F s2 s3 s4 hF => by
    rw [← allOf_eq] at hF
    rcases hF with rfl | rfl
    · simpa using hn
    · simpa using hv)
  simp only [allB] at this
  simpa [w__law_all, Γ0, hz, encPt] using this
end GSP
end

section
set_option Elab.async false
set_option linter.all false
set_option maxRecDepth 100000
namespace GSP
open PySem PySem.Spec PyProof.Rows L2 GS
/-! ## slots of any make, by literal places -/
@[simp] theorem e_at0 {s0 : Slot} {Γ : DEnv} : DEnv.at (s0 :: Γ) 0 = s0 := rfl
@[simp] theorem e_at1 {s0 s1 : Slot} {Γ : DEnv} : DEnv.at (s0 :: s1 :: Γ) 1 = s1 := rfl
@[simp] theorem e_at2 {s0 s1 s2 : Slot} {Γ : DEnv} : DEnv.at (s0 :: s1 :: s2 :: Γ) 2 = s2 := rfl
@[simp] theorem e_at3 {s0 s1 s2 s3 : Slot} {Γ : DEnv} : DEnv.at (s0 :: s1 :: s2 :: s3 :: Γ) 3 = s3 := rfl
@[simp] theorem e_at4 {s0 s1 s2 s3 s4 : Slot} {Γ : DEnv} : DEnv.at (s0 :: s1 :: s2 :: s3 :: s4 :: Γ) 4 = s4 := rfl
@[simp] theorem e_at5 {s0 s1 s2 s3 s4 s5 : Slot} {Γ : DEnv} : DEnv.at (s0 :: s1 :: s2 :: s3 :: s4 :: s5 :: Γ) 5 = s5 := rfl
@[simp] theorem e_at6 {s0 s1 s2 s3 s4 s5 s6 : Slot} {Γ : DEnv} : DEnv.at (s0 :: s1 :: s2 :: s3 :: s4 :: s5 :: s6 :: Γ) 6 = s6 := rfl
@[simp] theorem e_at7 {s0 s1 s2 s3 s4 s5 s6 s7 : Slot} {Γ : DEnv} : DEnv.at (s0 :: s1 :: s2 :: s3 :: s4 :: s5 :: s6 :: s7 :: Γ) 7 = s7 := rfl
@[simp] theorem e_at8 {s0 s1 s2 s3 s4 s5 s6 s7 s8 : Slot} {Γ : DEnv} : DEnv.at (s0 :: s1 :: s2 :: s3 :: s4 :: s5 :: s6 :: s7 :: s8 :: Γ) 8 = s8 := rfl
@[simp] theorem e_at9 {s0 s1 s2 s3 s4 s5 s6 s7 s8 s9 : Slot} {Γ : DEnv} : DEnv.at (s0 :: s1 :: s2 :: s3 :: s4 :: s5 :: s6 :: s7 :: s8 :: s9 :: Γ) 9 = s9 := rfl
@[simp] theorem e_at10 {s0 s1 s2 s3 s4 s5 s6 s7 s8 s9 s10 : Slot} {Γ : DEnv} : DEnv.at (s0 :: s1 :: s2 :: s3 :: s4 :: s5 :: s6 :: s7 :: s8 :: s9 :: s10 :: Γ) 10 = s10 := rfl
@[simp] theorem e_at11 {s0 s1 s2 s3 s4 s5 s6 s7 s8 s9 s10 s11 : Slot} {Γ : DEnv} : DEnv.at (s0 :: s1 :: s2 :: s3 :: s4 :: s5 :: s6 :: s7 :: s8 :: s9 :: s10 :: s11 :: Γ) 11 = s11 := rfl
@[simp] theorem e_at12 {s0 s1 s2 s3 s4 s5 s6 s7 s8 s9 s10 s11 s12 : Slot} {Γ : DEnv} : DEnv.at (s0 :: s1 :: s2 :: s3 :: s4 :: s5 :: s6 :: s7 :: s8 :: s9 :: s10 :: s11 :: s12 :: Γ) 12 = s12 := rfl
@[simp] theorem e_at13 {s0 s1 s2 s3 s4 s5 s6 s7 s8 s9 s10 s11 s12 s13 : Slot} {Γ : DEnv} : DEnv.at (s0 :: s1 :: s2 :: s3 :: s4 :: s5 :: s6 :: s7 :: s8 :: s9 :: s10 :: s11 :: s12 :: s13 :: Γ) 13 = s13 := rfl
@[simp] theorem e_at14 {s0 s1 s2 s3 s4 s5 s6 s7 s8 s9 s10 s11 s12 s13 s14 : Slot} {Γ : DEnv} : DEnv.at (s0 :: s1 :: s2 :: s3 :: s4 :: s5 :: s6 :: s7 :: s8 :: s9 :: s10 :: s11 :: s12 :: s13 :: s14 :: Γ) 14 = s14 := rfl
@[simp] theorem e_at15 {s0 s1 s2 s3 s4 s5 s6 s7 s8 s9 s10 s11 s12 s13 s14 s15 : Slot} {Γ : DEnv} : DEnv.at (s0 :: s1 :: s2 :: s3 :: s4 :: s5 :: s6 :: s7 :: s8 :: s9 :: s10 :: s11 :: s12 :: s13 :: s14 :: s15 :: Γ) 15 = s15 := rfl
@[simp] theorem e_at16 {s0 s1 s2 s3 s4 s5 s6 s7 s8 s9 s10 s11 s12 s13 s14 s15 s16 : Slot} {Γ : DEnv} : DEnv.at (s0 :: s1 :: s2 :: s3 :: s4 :: s5 :: s6 :: s7 :: s8 :: s9 :: s10 :: s11 :: s12 :: s13 :: s14 :: s15 :: s16 :: Γ) 16 = s16 := rfl
@[simp] theorem e_at17 {s0 s1 s2 s3 s4 s5 s6 s7 s8 s9 s10 s11 s12 s13 s14 s15 s16 s17 : Slot} {Γ : DEnv} : DEnv.at (s0 :: s1 :: s2 :: s3 :: s4 :: s5 :: s6 :: s7 :: s8 :: s9 :: s10 :: s11 :: s12 :: s13 :: s14 :: s15 :: s16 :: s17 :: Γ) 17 = s17 := rfl
end GSP
end

section
set_option Elab.async false
set_option linter.all false
set_option maxRecDepth 100000
set_option maxHeartbeats 1000000
set_option exponentiation.threshold 100
namespace GSP
open PySem PySem.Spec PyProof.Rows L2 GS

/-! ### a row at a point -/
theorem at_map {ns : List Int} {i : Nat} (h : i < ns.length) : atI (ns.map PyData.int) (i : Int) = some (PyData.int ns[i]) := atI_nat (by simp [h])
theorem sum1 (x : Int) : [x].sum = x := by simp
abbrev rhB : WS := (wSeq (wSet 5 (w1 (wLc (wiRng1 (w1 (wVar 2) lenW)) (wgName 6) wtYes (wBin .mul (wIdx (wVar 2) (wVar 6)) (wIdx (wIdx (wVar 3) (wVar 6)) (wVar 4))) [6]) sumW))
  (wIf (wtNot (wtTru (w1 (wLc (wiRng1 (wIdx (wVar 0) (wVar 4))) (wgName 7) wtYes (wCmp .eq (wBin .mod (wBin .sub (wBin .mul (wVar 1) (wVar 7)) (wVar 5)) (wIdx (wVar 0) (wVar 4))) (wC (.int 0))) [7]) anyW))) (wRet (wC (.bool false))) wNext))
/-- the rest of the places, from i on -/
def rowFrom (ms : List Int) (d a : Int) (x : List Int) (i : Nat) : Bool := (List.zip (ms.drop i) (x.drop i)).all fun p => atOk d a p.1 p.2
theorem rowFrom_step {ms : List Int} {d a : Int} {x : List Int} {i : Nat} (h1 : i < ms.length) (h2 : i < x.length) : rowFrom ms d a x i = (atOk d a ms[i] x[i] && rowFrom ms d a x (i + 1)) := by
  unfold rowFrom
  rw [List.drop_eq_getElem_cons h1, List.drop_eq_getElem_cons h2, List.zip_cons_cons, List.all_cons]
theorem rowFrom_end {ms : List Int} {d a : Int} {x : List Int} {i : Nat} (h1 : ms.length ≤ i) : rowFrom ms d a x i = true := by
  unfold rowFrom
  rw [List.drop_eq_nil_of_le h1]
  rfl
theorem rng_one (n : Nat) : rngD (n : Int) 1 = [.int n] := by simp [rngD]
theorem rh_loop {ms : List Int} {d a : Int} {x : List Int} {K : DK} (hms : ∀ m ∈ ms, 2 ≤ m ∧ m ≤ 9) (hx : x.length = ms.length) (ha : a.natAbs < 1000000) : ∀ (n i : Nat) (s4 s5 s6 s7 : Slot), i + n = ms.length → noRef s4 = true → noRef s5 = true → plain s6 = true → plain s7 = true →
    (rowFrom ms d a x i = true → ∀ s4 s5, K.nx [.val (.list (ms.map .int)), .val (.int d), .val (.tuple [.int a]), .val (.tuple [encPt x]), s4, s5, s6, s7]) →
    (rowFrom ms d a x i = false → ∀ s4 s5, K.rt (.val (.bool false)) [.val (.list (ms.map .int)), .val (.int d), .val (.tuple [.int a]), .val (.tuple [encPt x]), s4, s5, s6, s7]) →
    forW (wgName 4) rhB K ((List.range' i n).map fun (j : Nat) => .int (j : Int)) [.val (.list (ms.map .int)), .val (.int d), .val (.tuple [.int a]), .val (.tuple [encPt x]), s4, s5, s6, s7]
  | 0, i, s4, s5, s6, s7, hi, h4, h5, h6, h7, ht, hf => by simpa [forW] using ht (rowFrom_end (by omega)) s4 s5
  | n + 1, i, s4, s5, s6, s7, hi, h4, h5, h6, h7, ht, hf => by
    have i1 : i < ms.length := by omega
    have i2 : i < x.length := by omega
    have hm := hms ms[i] (List.getElem_mem i1)
    rw [rowFrom_step i1 i2] at ht hf
    have ih := fun (h : atOk d a ms[i] x[i] = true) (s4 s5 : Slot) (k4 : noRef s4 = true) (k5 : noRef s5 = true) => rh_loop (K := K) (d := d) hms hx ha n (i + 1) s4 s5 s6 s7 (by omega) k4 k5 h6 h7 (by simpa [h] using ht) (by simpa [h] using hf)
    have r1 : rngD 0 1 = [.int 0] := by simp [rngD]
    have c1 : atI (ms.map PyData.int) (i : Int) = some (PyData.int ms[i]) := at_map i1
    have cx : ∀ V : Opd → Prop, ixW (encPt x) (.int (i : Int)) V = V (.val (.int x[i])) := fun V => by
      simp [encPt, at_map i2]
    have m1 : GS.MulOk a x[i] := mulL _ (by omega) (by omega)
    have hmn : ms[i] ≠ 0 := by omega
    rw [List.range'_succ]
    simp [forW, h4, h5, h6, h7, r1, compW, cx, m1]
    refine ⟨[a * x[i]], rfl, .int ms[i], c1, ?_⟩
    simp
    refine ⟨by omega, ?_⟩
    rw [rng_nums]
    refine compW_map (fun v : Int => (.int v : D)) (fun v => .bool (decide ((d * v - a * x[i]).fmod ms[i] = 0))) (nums ms[i]) (fun v hv A hA => ?_) ?_
    · have hv9 : v.natAbs < 10 := by
        unfold nums at hv
        obtain ⟨k, hk, rfl⟩ := List.mem_map.mp hv
        have := List.mem_range.mp hk
        omega
      have m2 : GS.MulOk d v := mulR _ (by omega) (by omega)
      simp [m2]
      refine ⟨.int ms[i], c1, ?_⟩
      simp [hmn]
      simpa using hA
    · simp
      refine ⟨(nums ms[i]).map fun v => decide ((d * v - a * x[i]).fmod ms[i] = 0), by simp, ?_⟩
      have hat : atOk d a ms[i] x[i] = (nums ms[i]).any fun v => decide ((d * v - a * x[i]).fmod ms[i] = 0) := rfl
      have hmem : (true ∈ (nums ms[i]).map fun v => decide ((d * v - a * x[i]).fmod ms[i] = 0)) ↔ atOk d a ms[i] x[i] = true := by
        rw [hat, List.any_eq_true, List.mem_map]
      rw [hmem]
      by_cases q : atOk d a ms[i] x[i] = true
      · refine .inr ⟨q, ?_⟩
        exact ih q _ _ rfl rfl
      · refine .inl ⟨q, ?_⟩
        rw [Bool.not_eq_true] at q
        exact hf (by simp [q]) _ _
theorem zip_rowFrom (ms : List Int) (d a : Int) (x : List Int) : rowFrom ms d a x 0 = rowOk ms d a x := rfl
theorem pure__law_row_holds : Pure 4 8 sp__law_row_holds w__law_row_holds := by
  intro args W h
  obtain ⟨ms, d, a, x, rfl, ⟨hg, hx, hd, ha, hxv⟩, h⟩ := h
  refine ⟨rfl, ?_⟩
  have hml := ms_len ms (ms_facts hg) 1 (by omega)
  have hg2 := hg.2
  have := rh_loop (d := d) (K := { nx := fun Γ1 => (wRet (wC (.bool true))) Γ1 (retK W []), bk := (retK W []).bk, ct := (retK W []).ct, rt := retW W [] }) (ms_facts hg) hx ha ms.length 0 .non .non .non .non (by omega) rfl rfl rfl rfl (fun q s4 s5 => by
    rw [zip_rowFrom] at q
    rw [q] at h
    simpa using h) (fun q s4 s5 => by
    rw [zip_rowFrom] at q
    rw [q] at h
    simpa using h)
  simp only [rhB] at this
  have e : rngD 0 ms.length = (List.range' 0 ms.length).map fun (j : Nat) => .int (j : Int) := by
    simp [rngD, List.range_eq_range']
  rw [← e] at this
  simp [w__law_row_holds, Γ0]
  refine ⟨by omega, ?_⟩
  simpa using this
end GSP
end

section
set_option Elab.async false
set_option linter.all false
set_option maxRecDepth 100000
set_option maxHeartbeats 1000000
set_option exponentiation.threshold 100
namespace GSP
open PySem PySem.Spec PyProof.Rows L2 GS

/-! ### points -/
def PtOk (x : List Int) (n : Nat) : Prop := x.length = n ∧ ∀ v ∈ x, v.natAbs < 1000000
theorem nums_mem {m v : Int} (h : v ∈ nums m) : 0 ≤ v ∧ v < m := by
  unfold nums at h
  obtain ⟨k, hk, rfl⟩ := List.mem_map.mp h
  have := List.mem_range.mp hk
  omega
theorem fold_pts : ∀ (ms : List Int) (pts : List (List Int)) (n : Nat), (∀ m ∈ ms, 2 ≤ m ∧ m ≤ 9) → (∀ x ∈ pts, PtOk x n) → ∀ x ∈ ms.foldl (fun found m => growAll m found) pts, PtOk x (n + ms.length)
  | [], pts, n, _, h => by simpa using h
  | m :: ms, pts, n, hm, h => by
    rw [List.foldl_cons]
    have := fold_pts ms (growAll m pts) (n + 1) (fun y hy => hm y (List.mem_cons_of_mem _ hy)) (fun x hx => by
      obtain ⟨y, hy, hxy⟩ := List.mem_flatMap.mp hx
      obtain ⟨v, hv, rfl⟩ := List.mem_map.mp hxy
      obtain ⟨g1, g2⟩ := h y hy
      refine ⟨by simp [g1], fun w hw => ?_⟩
      rcases List.mem_append.mp hw with z | z
      · exact g2 w z
      · have := nums_mem hv
        have hm0 := hm m List.mem_cons_self
        simp at z
        subst z
        omega)
    intro x hx
    have := this x hx
    rw [show n + (m :: ms).length = n + 1 + ms.length from by simp; omega]
    exact this
theorem allOf_ok {ms : List Int} (h : GoodMs ms) : ∀ x ∈ allOf ms, PtOk x ms.length := by
  have := fold_pts ms [[]] 0 (ms_facts h) (by simp [PtOk])
  rw [allOf_eq]
  simpa using this
theorem fold_zero : ∀ (ms : List Int) (pts : List (List Int)) (n : Nat), (∀ m ∈ ms, 2 ≤ m ∧ m ≤ 9) → List.replicate n 0 ∈ pts → List.replicate (n + ms.length) (0 : Int) ∈ ms.foldl (fun found m => growAll m found) pts
  | [], pts, n, _, h => by simpa using h
  | m :: ms, pts, n, hm, h => by
    rw [List.foldl_cons]
    have hm0 := hm m List.mem_cons_self
    have := fold_zero ms (growAll m pts) (n + 1) (fun y hy => hm y (List.mem_cons_of_mem _ hy)) (by
      refine List.mem_flatMap.mpr ⟨_, h, List.mem_map.mpr ⟨0, ?_, ?_⟩⟩
      · unfold nums
        exact List.mem_map.mpr ⟨0, List.mem_range.mpr (by omega), rfl⟩
      · rw [List.replicate_succ'])
    rw [show n + (m :: ms).length = n + 1 + ms.length from by simp; omega]
    exact this
theorem zero_all {ms : List Int} (h : GoodMs ms) : List.replicate ms.length (0 : Int) ∈ allOf ms := by
  have := fold_zero ms [[]] 0 (ms_facts h) (by simp)
  rw [allOf_eq]
  simpa using this
theorem zero_row {ms : List Int} (hm : ∀ m ∈ ms, 2 ≤ m ∧ m ≤ 9) (d a : Int) : rowOk ms d a (List.replicate ms.length (0 : Int)) = true := by
  unfold rowOk
  rw [List.all_eq_true]
  intro p hp
  have h1 : p.1 ∈ ms := (List.of_mem_zip hp).1
  have h2 : p.2 = 0 := List.eq_of_mem_replicate (List.of_mem_zip hp).2
  rw [h2]
  unfold atOk
  rw [List.any_eq_true]
  refine ⟨0, ?_, by simp⟩
  have := hm _ h1
  unfold nums
  exact List.mem_map.mpr ⟨0, List.mem_range.mpr (by omega), rfl⟩
theorem bothOf_ok {ms : List Int} {pts : List (List Int)} {l : Lot1} {n : Nat} (h : ∀ x ∈ pts, PtOk x n) : ∀ x ∈ bothOf ms pts l, PtOk x n := fun x hx => h x ((List.mem_filter.mp hx).1)
theorem zero_both {ms : List Int} (hg : GoodMs ms) {pts : List (List Int)} {l : Lot1} (h : List.replicate ms.length (0 : Int) ∈ pts) : List.replicate ms.length (0 : Int) ∈ bothOf ms pts l := by
  refine List.mem_filter.mpr ⟨h, ?_⟩
  rw [List.all_eq_true]
  intro r _
  exact zero_row (ms_facts hg) r.1 r.2
theorem rh_call {ms : List Int} {d a : Int} {x : List Int} {W : Res → List Ct → Prop} (hg : GoodMs ms) (hx : PtOk x ms.length) (hd : d.natAbs < 1000000) (ha : a.natAbs < 1000000) (h : W (.val (.bool (rowOk ms d a x))) []) :
    sp__law_row_holds [.val (.list (ms.map .int)), .val (.int d), .val (.tuple [.int a]), .val (.tuple [encPt x])] W := ⟨ms, d, a, x, rfl, ⟨hg, hx.1, hd, ha, hx.2⟩, h⟩
theorem all_id {α : Type} (f : α → Bool) (l : List α) : (l.map f).all id = l.all f := by simp [List.all_map, Function.comp_def]
theorem fold_len : ∀ (ms : List Int) (pts : List (List Int)), (∀ m ∈ ms, 2 ≤ m ∧ m ≤ 9) → ((ms.foldl (fun found m => growAll m found) pts).length : Int) = ms.foldl (· * ·) (pts.length : Int)
  | [], pts, _ => rfl
  | m :: ms, pts, hm => by
    have hm0 := hm m List.mem_cons_self
    rw [List.foldl_cons, List.foldl_cons, fold_len ms _ fun y hy => hm y (List.mem_cons_of_mem _ hy), growAll_len, Int.natCast_mul, Int.toNat_of_nonneg (by omega)]
theorem allOf_len {ms : List Int} (h : GoodMs ms) : (allOf ms).length ≤ 24 := by
  have h1 := fold_len ms [[]] (ms_facts h)
  have h2 := h.2
  rw [← allOf_eq] at h1
  simp at h1
  omega
theorem row_lot (l : Lot1) : rowW (encLot1 l) = fun R => R (l.map fun r : Int × Int => .tuple [.int r.1, .tuple [.int r.2]]) := by
  funext R
  simp [encLot1, encLot, up1, encRow, Function.comp_def]
theorem fm (f : Int × Int → Bool) (l : Lot1) : (false ∈ l.map f) ↔ ¬ (l.all f = true) := by
  rw [List.all_eq_true, List.mem_map]
  simp
theorem pure__law_index : Pure 4 9 sp__law_index w__law_index := by
  intro args W h
  obtain ⟨ms, one, other, rfl, ⟨hg, h1, h2⟩, h⟩ := h
  refine ⟨rfl, ?_⟩
  have hpts := allOf_ok hg
  have hfirst := bothOf_ok (ms := ms) (l := one) hpts
  have hz1 : List.replicate ms.length (0 : Int) ∈ bothOf ms (allOf ms) one := zero_both hg (zero_all hg)
  have hz2 : List.replicate ms.length (0 : Int) ∈ bothOf ms (bothOf ms (allOf ms) one) other := zero_both hg hz1
  simp [w__law_index, Γ0]
  refine compW_of encPt (fun x => one.all fun r => rowOk ms r.1 r.2 x) encPt (allOf ms) [] (fun x hx A B hA => ?_) ?_
  · simp [row_lot]
    refine compW_map (fun r : Int × Int => .tuple [.int r.1, .tuple [.int r.2]]) (fun r => .bool (rowOk ms r.1 r.2 x)) one (fun r hr A' hA' => ?_) ?_
    · have hr' := h1.2 r hr
      have hdn : r.1.natAbs < 1000000 := by have := hr'.1; have := hr'.2.1; omega
      simp
      refine ⟨by rw [sizeLine_eq]; omega, rh_call hg (hpts x hx) hdn hr'.2.2 ?_⟩
      simpa using hA'
    · simp
      refine ⟨one.map fun r => rowOk ms r.1 r.2 x, by simp, ?_⟩
      rw [fm]
      by_cases q : (one.all fun r => rowOk ms r.1 r.2 x) = true
      · rw [if_pos q] at hA
        exact .inr ⟨by simp [q], hA⟩
      · rw [if_neg q] at hA
        exact .inl ⟨q, hA⟩
  · simp
    refine compW_of encPt (fun x => other.all fun r => rowOk ms r.1 r.2 x) encPt (bothOf ms (allOf ms) one) [] (fun x hx A B hA => ?_) ?_
    · simp [row_lot]
      refine compW_map (fun r : Int × Int => .tuple [.int r.1, .tuple [.int r.2]]) (fun r => .bool (rowOk ms r.1 r.2 x)) other (fun r hr A' hA' => ?_) ?_
      · have hr' := h2.2 r hr
        have hdn : r.1.natAbs < 1000000 := by have := hr'.1; have := hr'.2.1; omega
        simp
        refine ⟨by rw [sizeLine_eq]; omega, rh_call hg (hfirst x hx) hdn hr'.2.2 ?_⟩
        simpa using hA'
      · simp
        refine ⟨other.map fun r => rowOk ms r.1 r.2 x, by simp, ?_⟩
        rw [fm]
        by_cases q : (other.all fun r => rowOk ms r.1 r.2 x) = true
        · rw [if_pos q] at hA
          exact .inr ⟨by simp [q], hA⟩
        · rw [if_neg q] at hA
          exact .inl ⟨q, hA⟩
    · have e2 : (bothOf ms (bothOf ms (allOf ms) one) other).length ≠ 0 := Nat.pos_iff_ne_zero.mp (List.length_pos_iff.mpr (List.ne_nil_of_mem hz2))
      have hle : (bothOf ms (bothOf ms (allOf ms) one) other).length ≤ (allOf ms).length := Nat.le_trans (List.length_filter_le _ _) (List.length_filter_le _ _)
      have h24 := allOf_len hg
      have hd : DivOk ((bothOf ms (allOf ms) one).length : Int) ((bothOf ms (bothOf ms (allOf ms) one) other).length : Int) := .inl ⟨by omega, by omega⟩
      unfold bruteIx at h
      simp only [bothOf] at hd h ⊢
      simp [-List.filter_filter]
      exact ⟨hd, h⟩
end GSP
end

section
set_option Elab.async false
set_option linter.all false
set_option maxRecDepth 100000
set_option maxHeartbeats 1000000
set_option exponentiation.threshold 100
namespace GSP
open PySem PySem.Spec PyProof.Rows L2 GS

def encZ (z : (Int × Int) × Pr) : D := .tuple [.int z.1.1, .int z.1.2, encPair z.2]
theorem zip3_enc : ∀ (xs ys : List Int) (l : List Pr), zip3D (xs.map .int) (ys.map .int) (l.map encPair) = (List.zip (List.zip xs ys) l).map encZ
  | [], _, _ => by simp [zip3D]
  | _ :: _, [], _ => by simp [zip3D]
  | _ :: _, _ :: _, [] => by simp [zip3D]
  | x :: xs, y :: ys, z :: l => by
    have := zip3_enc xs ys l
    simp only [List.map_cons, zip3D, List.zip_cons_cons, this]
    rfl
theorem pure__law_product : Pure 3 6 sp__law_product w__law_product := by
  intro args W h
  obtain ⟨xs, ys, l, rfl, ⟨hx, hy, bx, bys⟩, h⟩ := h
  refine ⟨rfl, ?_⟩
  simp [w__law_product, Γ0, encPairs]
  refine ⟨_, _, _, _, _, _, _, _, _, rfl, rfl, rfl, rfl, ?_⟩
  rw [zip3_enc]
  refine compW_map encZ (fun z => .int (min (z.1.1 * z.1.2) z.2.2.2)) _ (fun z hz A hA => ?_) ?_
  · obtain ⟨⟨a, b⟩, one, other, k⟩ := z
    have ha : a ∈ xs := (List.of_mem_zip (List.of_mem_zip hz).1).1
    have hb := bx a ha
    have hm : GS.MulOk a b := mulL _ (by omega) (by omega)
    simp [encZ, hm, encPair]
    simpa [encPair] using hA
  · simpa [prodV, Function.comp_def] using h
end GSP
end

section
set_option Elab.async false
set_option linter.all false
set_option maxRecDepth 100000
set_option maxHeartbeats 1000000
set_option exponentiation.threshold 100
namespace GSP
open PySem PySem.Spec PyProof.Rows L2 GS

theorem draw_call {ct : Ct} {N : Nat} {many : Int} {W : Res → List Ct → Prop} (h : SrcOk N ct) (hN : N ≤ 1000000) (h1 : 1 ≤ many) (h2 : many ≤ 1000) (hW : ∀ r ct', 0 ≤ r → r < many → SrcOk (N + 1) ct' → W (.val (.int r)) [ct']) : sp__law_draw [.ref ct, .val (.int many)] W :=
  ⟨ct, N, many, rfl, ⟨h, hN, h1, h2⟩, hW⟩
theorem SrcOk.mono {N M : Nat} {ct : Ct} (h : SrcOk N ct) (hm : N ≤ M) : SrcOk M ct := by
  obtain ⟨a, b, c, e, h1, h2, h3, h4⟩ := h
  exact ⟨a, b, c, e, h1, h2, h3, by omega⟩
theorem at_of {ds : List D} {r : Int} (h0 : 0 ≤ r) (h1 : r < ds.length) : ∃ d, d ∈ ds ∧ atI ds r = some d := by
  obtain ⟨k, rfl⟩ := Int.eq_ofNat_of_zero_le h0
  have hk : k < ds.length := by omega
  exact ⟨ds[k], List.getElem_mem hk, atI_nat (by simp [hk])⟩
theorem at_ints {ns : List Int} {r : Int} (h0 : 0 ≤ r) (h1 : r < ns.length) : ∃ v, v ∈ ns ∧ atI (ns.map PyData.int) r = some (PyData.int v) := by
  obtain ⟨k, rfl⟩ := Int.eq_ofNat_of_zero_le h0
  have hk : k < ns.length := by omega
  exact ⟨ns[k], List.getElem_mem hk, at_map hk⟩
abbrev rowE : WE := (wTup (wvCons (wIdx (wLst (wvCons (wC (.int 0)) (wvCons (wC (.int 2)) (wvCons (wC (.int 3)) (wvCons (wC (.int 4)) (wvCons (wC (.int 0)) (wvCons (wC (.int 6)) wvNil))))))) (wCall sp__law_draw (wrRef 0 (wrVal (wC (.int 6)) wrNil)))) (wvCons (wTup (wvCons (wIdx (wLst (wvCons (wC (.int 1)) (wvCons (wC (.int 2)) (wvCons (wC (.int 1)) (wvCons (wC (.int 3)) (wvCons (wC (.int 1)) (wvCons (wC (.int 4)) wvNil))))))) (wCall sp__law_draw (wrRef 0 (wrVal (wC (.int 6)) wrNil)))) wvNil)) wvNil)))
theorem rows_comp {F T L S R : Slot} {E : List D → DEnv → Prop} : ∀ (ks : List D) (acc : Lot1) (ct : Ct) (N : Nat), SrcOk N ct → N + 2 * ks.length ≤ 100000 → (∀ rows ct', (∀ r ∈ rows, RowT r) → rows.length = ks.length → SrcOk (N + 2 * ks.length) ct' → E ((up1 (acc ++ rows)).map encRow) [.ref ct', F, T, L, S, R, .non]) →
    compW (wgName 6) wtYes rowE [6] E ks ((up1 acc).map encRow) [.ref ct, F, T, L, S, R, .non]
  | [], acc, ct, N, hs, hN, h => by
    have := h [] ct (by simp) rfl hs
    simpa [compW] using this
  | k :: ks, acc, ct, N, hs, hN, h => by
    have hz : (sizeLine : Nat) = 16777216 := rfl
    simp only [List.length_cons] at hN h
    have ih := fun (row : Int × Int) (hr : RowT row) (ct2 : Ct) (h2 : SrcOk (N + 2) ct2) => rows_comp (F := F) (T := T) (L := L) (S := S) (R := R) (E := E) ks (acc ++ [row]) ct2 (N + 2) h2 (by omega) (fun rows ct' h1 h2 h3 => by
      have := h (row :: rows) ct' (fun r hr' => by
        rcases List.mem_cons.mp hr' with z | z
        · rw [z]; exact hr
        · exact h1 r z) (by simp [h2]) (h3.mono (by omega))
      simpa using this)
    simp [compW, hz]
    refine draw_call hs (by omega) (by omega) (by omega) (fun r1 ct1 a1 a2 hs1 => ?_)
    obtain ⟨v1, m1, e1⟩ := at_ints (ns := [0, 2, 3, 4, 0, 6]) a1 a2
    try simp
    refine ⟨_, e1, ?_⟩
    try simp [hz]
    refine draw_call hs1 (by omega) (by omega) (by omega) (fun r2 ct2 b1 b2 hs2 => ?_)
    obtain ⟨v2, m2, e2⟩ := at_ints (ns := [1, 2, 1, 3, 1, 4]) b1 b2
    try simp
    refine ⟨_, e2, ?_⟩
    have := ih (v1, v2) ⟨by simp at m1 ⊢; omega, by simp at m2 ⊢; omega⟩ ct2 hs2
    try simp [hz]
    simpa [up1, encRow] using this
end GSP
end

section
set_option Elab.async false
set_option linter.all false
set_option maxRecDepth 100000
set_option maxHeartbeats 1000000
set_option exponentiation.threshold 100
namespace GSP
open PySem PySem.Spec PyProof.Rows L2 GS

abbrev sideB : WS := (wSeq (wSet 5 (wLc (wiRng1 (wCall sp__law_draw (wrRef 0 (wrVal (wBin .sub (wC (.int 3)) (wVar 4)) wrNil)))) (wgName 6) wtYes rowE [6]))
  (wApp 3 (w1 (wVar 5) tupW)))
theorem side_step {ct : Ct} {N : Nat} {F T s4 s5 s6 : Slot} {lots : List D} {side : Int} {K : DK} (hs : SrcOk N ct) (hN : N ≤ 100000 - 10) (hside : 0 ≤ side ∧ side ≤ 1) (hl : lots.length ≤ 10) (h4 : noRef s4 = true) (h5 : noRef s5 = true) (h6 : plain s6 = true)
    (h : ∀ (rows : Lot1) ct' s5, (∀ r ∈ rows, RowT r) → (rows.length : Int) < 3 - side → SrcOk (N + 10) ct' → noRef s5 = true → K.nx [.ref ct', F, T, .own (.lst (lots ++ [encLot1 rows])), .val (.int side), s5, s6]) :
    wgName 4 (.int side) [.ref ct, F, T, .own (.lst lots), s4, s5, s6] fun Γ1 => sideB Γ1 K := by
  simp [h4]
  refine draw_call hs (by omega) (by omega) (by omega) (fun r ct1 a1 a2 hs1 => ?_)
  simp [h6]
  refine ⟨by omega, ?_⟩
  refine rows_comp (rngD 0 r.toNat) [] ct1 (N + 1) hs1 (by rw [rng_len]; omega) (fun rows ct' b1 b2 b3 => ?_)
  rw [rng_len] at b2 b3
  have := h rows ct' (.own (.lst ((up1 rows).map encRow))) b1 (by omega) (b3.mono (by omega)) rfl
  simp [h5]
  exact ⟨by omega, this⟩
abbrev turnB : WS := (wSeq (wSet 3 (wLst wvNil))
  (wSeq (wFor (wiRow (wTup (wvCons (wC (.int 0)) (wvCons (wC (.int 1)) wvNil)))) (wgName 4) sideB)
  (wApp 1 (wTup (wvCons (wIdx (wVar 3) (wC (.int 1))) (wvCons (wIdx (wVar 3) (wC (.int 0))) (wvCons (wBin .add (wC (.int 1)) (wCall sp__law_draw (wrRef 0 (wrVal (wC (.int 5)) wrNil)))) wvNil)))))))
theorem turn_step {ct : Ct} {N : Nat} {s2 s3 s4 s5 s6 : Slot} {t : D} {l : List Pr} {K : DK} (hs : SrcOk N ct) (hN : N ≤ 100000 - 40) (hl : l.length ≤ 10) (h2 : noRef s2 = true) (h3 : noRef s3 = true) (h4 : noRef s4 = true) (h5 : noRef s5 = true) (h6 : plain s6 = true)
    (h : ∀ (x : Pr) ct' s2 s3 s4 s5, PrT x → SrcOk (N + 30) ct' → noRef s2 = true → noRef s3 = true → noRef s4 = true → noRef s5 = true → K.nx [.ref ct', .own (.lst ((l ++ [x]).map encPair)), s2, s3, s4, s5, s6]) :
    wgName 2 t [.ref ct, .own (.lst (l.map encPair)), s2, s3, s4, s5, s6] fun Γ1 => turnB Γ1 K := by
  have hz : (sizeLine : Nat) = 16777216 := rfl
  have key := fun K1 : DK => fun hK1 => side_step (ct := ct) (N := N) (F := .own (.lst (l.map encPair))) (T := .val t) (s4 := s4) (s5 := s5) (s6 := s6) (lots := []) (side := 0) (K := K1) hs (by omega) (by omega) (by simp) h4 h5 h6 hK1
  simp only [turnB]
  simp [h2, h3, hz, -x_for1]
  refine key _ (fun rows1 ct1 t5 a1 a2 a3 a4 => ?_)
  simp only [forW]
  refine side_step (side := 1) a3 (by omega) (by omega) (by simp) rfl a4 h6 (fun rows2 ct2 u5 b1 b2 b3 b4 => ?_)
  simp
  refine draw_call b3 (by omega) (by omega) (by omega) (fun r ct3 c1 c2 hs3 => ?_)
  have := h (rows2, rows1, 1 + r) ct3 (.val t) (.own (.lst [encLot1 rows1, encLot1 rows2])) (.val (.int 1)) u5 ⟨b1, a1, by simp; omega, by simp; omega, by simp; omega, by simp; omega⟩ (hs3.mono (by omega)) rfl rfl rfl b4
  simp [hz]
  refine ⟨by omega, ?_⟩
  simpa [encPair] using this
theorem turns_loop {K : DK} : ∀ (ts : List D) (l : List Pr) (ct : Ct) (N : Nat) (s2 s3 s4 s5 s6 : Slot), SrcOk N ct → N + 30 * ts.length ≤ 99000 → l.length + ts.length ≤ 10 → noRef s2 = true → noRef s3 = true → noRef s4 = true → noRef s5 = true → plain s6 = true →
    (∀ (xs : List Pr) ct' s2 s3 s4 s5 s6, (∀ x ∈ xs, PrT x) → xs.length = ts.length → SrcOk (N + 30 * ts.length) ct' → K.nx [.ref ct', .own (.lst ((l ++ xs).map encPair)), s2, s3, s4, s5, s6]) →
    forW (wgName 2) turnB K ts [.ref ct, .own (.lst (l.map encPair)), s2, s3, s4, s5, s6]
  | [], l, ct, N, s2, s3, s4, s5, s6, hs, hN, hl, h2, h3, h4, h5, h6, h => by
    have := h [] ct s2 s3 s4 s5 s6 (by simp) rfl hs
    simpa [forW] using this
  | t :: ts, l, ct, N, s2, s3, s4, s5, s6, hs, hN, hl, h2, h3, h4, h5, h6, h => by
    simp only [List.length_cons] at hN hl h
    simp only [forW]
    refine turn_step hs (by omega) (by omega) h2 h3 h4 h5 h6 (fun x ct' s2 s3 s4 s5 hx hs' k2 k3 k4 k5 => ?_)
    refine turns_loop ts (l ++ [x]) ct' (N + 30) s2 s3 s4 s5 s6 hs' (by omega) (by simp; omega) k2 k3 k4 k5 h6 (fun xs ct2 t2 t3 t4 t5 t6 g1 g2 g3 => ?_)
    have := h (x :: xs) ct2 t2 t3 t4 t5 t6 (fun y hy => by
      rcases List.mem_cons.mp hy with z | z
      · rw [z]; exact hx
      · exact g1 y z) (by simp [g2]) (g3.mono (by omega))
    simpa using this
theorem pure__law_pairs_drawn : Pure 1 7 sp__law_pairs_drawn w__law_pairs_drawn := by
  intro args W h
  obtain ⟨ct, N, rfl, ⟨hs, hN⟩, h⟩ := h
  refine ⟨rfl, ?_⟩
  have hz : (sizeLine : Nat) = 16777216 := rfl
  simp [w__law_pairs_drawn, Γ0, hz]
  refine draw_call hs (by omega) (by omega) (by omega) (fun r ct1 a1 a2 hs1 => ?_)
  simp
  refine ⟨by omega, ?_⟩
  have := turns_loop (K := { nx := fun Γ1 => (wRet (w1 (wVar 1) tupW)) Γ1 (retK W [0]), bk := (retK W [0]).bk, ct := (retK W [0]).ct, rt := retW W [0] }) (rngD 0 (1 + r).toNat) [] ct1 (N + 1) .non .non .non .non .non hs1 (by rw [rng_len]; omega) (by rw [rng_len]; simp; omega) rfl rfl rfl rfl rfl (fun xs ct2 t2 t3 t4 t5 t6 g1 g2 g3 => by
    rw [rng_len] at g2 g3
    have := h xs ct2 ⟨g1, by omega⟩ (g3.mono (by omega))
    simpa [encPairs] using this)
  simp only [turnB, sideB, rowE] at this
  simpa using this
end GSP
end

section
set_option Elab.async false
set_option linter.all false
set_option maxRecDepth 100000
set_option maxHeartbeats 1000000
set_option exponentiation.threshold 100
namespace GSP
open PySem PySem.Spec PyProof.Rows L2 GS

/-! ## drawn groups -/
def lookM (l : Group) (p : Part) : Int := match l.find? fun y => decide (y.1 = p) with
  | some y => y.2
  | none => 0
theorem look_int (l : Group) (p : Part) : (lookD (l.map kvOf) (encPart p)).getD (.int 0) = .int (lookM l p) := by
  rw [look_find]
  unfold lookM
  cases (l.find? fun y => decide (y.1 = p)) <;> rfl
theorem look_some {l : Group} {p : Part} (h : p ∈ l.map (·.1)) : lookD (l.map kvOf) (encPart p) = some (.int (lookM l p)) := by
  rw [look_find]
  unfold lookM
  cases e : (l.find? fun y => decide (y.1 = p)) with
  | some y => rfl
  | none =>
    obtain ⟨y, hy, hp⟩ := List.mem_map.mp h
    have := List.find?_eq_none.mp e y hy
    simp [hp] at this
theorem lookM_mem {l : Group} {p : Part} : (∃ y ∈ l, y.1 = p ∧ lookM l p = y.2) ∨ ((l.find? fun y => decide (y.1 = p)) = none ∧ lookM l p = 0) := by
  unfold lookM
  cases e : (l.find? fun y => decide (y.1 = p)) with
  | none => exact .inr ⟨rfl, rfl⟩
  | some y => exact .inl ⟨y, List.mem_of_find?_eq_some e, by simpa using List.find?_some e, rfl⟩
structure TL (j : Nat) (l : Group) : Prop where
  nd : (l.map (·.1)).Nodup
  each : ∀ y ∈ l, PartT y.1 ∧ (y.2 = -1 ∨ 0 < y.2)
  len : l.length ≤ j
theorem cnt_ok {a b : Int} (h1 : a = -1 ∨ 0 < a) (h2 : b = -1 ∨ 0 ≤ b) : cnt a b = -1 ∨ 0 < cnt a b := by
  unfold cnt
  split <;> omega
theorem TL.add {j : Nat} {l : Group} (h : TL j l) {x : Part} {m : Int} (hx : PartT x) (hm : m = -1 ∨ 0 < m) : TL (j + 1) (setG l x (cnt m (lookM l x))) := by
  refine ⟨setG_nodup h.nd, fun y hy => ?_, by have := setG_len l x (cnt m (lookM l x)); have := h.len; omega⟩
  rcases setG_mem hy with rfl | z
  · refine ⟨hx, cnt_ok hm ?_⟩
    rcases lookM_mem (l := l) (p := x) with ⟨y, hy, _, e⟩ | ⟨_, e⟩
    · rw [e]; have := (h.each y hy).2; omega
    · rw [e]; omega
  · exact h.each y z
abbrev getE : WE := (wGet 1 (wVar 4) (wC (.int 0)))
abbrev toldB : WS := (wSeq (wSet 3 (wIdx (wLst (wvCons (wC (.int 2)) (wvCons (wC (.int 3)) (wvCons (wC (.int 2)) (wvCons (wC (.int 5)) wvNil))))) (wCall sp__law_draw (wrRef 0 (wrVal (wC (.int 4)) wrNil)))))
  (wSeq (wSet 4 (wIdx (wLst (wvCons (wTup (wvCons (wC (.str "line")) wvNil)) (wvCons (wTup (wvCons (wC (.str "all")) wvNil)) (wvCons (wTup (wvCons (wC (.str "apart")) (wvCons (wVar 3) wvNil))) (wvCons (wTup (wvCons (wC (.str "deep")) (wvCons (wVar 3) wvNil))) (wvCons (wTup (wvCons (wC (.str "ring")) (wvCons (wVar 3) (wvCons (wC (.int 1)) wvNil)))) (wvCons (wTup (wvCons (wC (.str "ring")) (wvCons (wVar 3) (wvCons (wC (.int 2)) wvNil)))) (wvCons (wTup (wvCons (wC (.str "ring")) (wvCons (wVar 3) (wvCons (wC (.int 3)) wvNil)))) wvNil)))))))) (wCall sp__law_draw (wrRef 0 (wrVal (wC (.int 7)) wrNil)))))
  (wSeq (wSet 5 (wIdx (wLst (wvCons (wC (.int 1)) (wvCons (wC (.int 1)) (wvCons (wC (.int 2)) (wvCons (wC (.int 3)) (wvCons (w1 (wC (.int 1)) negW) wvNil)))))) (wCall sp__law_draw (wrRef 0 (wrVal (wC (.int 5)) wrNil)))))
  (wPut 1 (wVar 4) (wIfe (wTst (wCmp .inn (w1 (wC (.int 1)) negW) (wTup (wvCons (wVar 5) (wvCons (wGet 1 (wVar 4) (wC (.int 0))) wvNil))))) (w1 (wC (.int 1)) negW) (wBin .add (wVar 5) (wGet 1 (wVar 4) (wC (.int 0)))))))))
theorem parts7 {p : Int} (hp : p = 2 ∨ p = 3 ∨ p = 5) {d : D} (h : d ∈ ([.tuple [.str "line"], .tuple [.str "all"], .tuple [.str "apart", .int p], .tuple [.str "deep", .int p], .tuple [.str "ring", .int p, .int 1], .tuple [.str "ring", .int p, .int 2], .tuple [.str "ring", .int p, .int 3]] : List D)) : ∃ x : Part, d = encPart x ∧ PartT x := by
  simp only [List.mem_cons, List.not_mem_nil, or_false] at h
  rcases h with rfl | rfl | rfl | rfl | rfl | rfl | rfl
  · exact ⟨.line, rfl, trivial⟩
  · exact ⟨.all, rfl, trivial⟩
  · exact ⟨.apart p, rfl, hp⟩
  · exact ⟨.deep p, rfl, hp⟩
  · exact ⟨.ring p 1, rfl, hp, by omega⟩
  · exact ⟨.ring p 2, rfl, hp, by omega⟩
  · exact ⟨.ring p 3, rfl, hp, by omega⟩
theorem shaped2 (a b : Int) : SeqAt.shaped (.tuple [.int a, .int b]) = true := shaped_tuple (by simp [PyData.canLay0, PyData.depth])
theorem told_step {ct : Ct} {N j : Nat} {s2 s3 s4 s5 : Slot} {t : D} {l : Group} {K : DK} (hs : SrcOk N ct) (hN : N ≤ 99000) (hl : TL j l) (hj : j ≤ 10) (h2 : noRef s2 = true) (h3 : noRef s3 = true) (h4 : noRef s4 = true) (h5 : noRef s5 = true)
    (h : ∀ (l' : Group) ct' s2 s3 s4 s5, TL (j + 1) l' → SrcOk (N + 3) ct' → noRef s2 = true → noRef s3 = true → noRef s4 = true → plain s4 = true → noRef s5 = true → K.nx [.ref ct', .own (.dct (l'.map kvOf)), s2, s3, s4, s5]) :
    wgName 2 t [.ref ct, .own (.dct (l.map kvOf)), s2, s3, s4, s5] fun Γ1 => toldB Γ1 K := by
  have hz : (sizeLine : Nat) = 16777216 := rfl
  simp [h2, h3, hz]
  refine draw_call hs (by omega) (by omega) (by omega) (fun r ct1 a1 a2 hs1 => ?_)
  obtain ⟨p, m1, e1⟩ := at_ints (ns := [2, 3, 2, 5]) a1 a2
  have hp : p = 2 ∨ p = 3 ∨ p = 5 := by simp at m1; omega
  try simp
  refine ⟨_, e1, ?_⟩
  simp [h3, hz]
  refine draw_call hs1 (by omega) (by omega) (by omega) (fun r2 ct2 b1 b2 hs2 => ?_)
  obtain ⟨d, m2, e2⟩ := at_of (ds := [.tuple [.str "line"], .tuple [.str "all"], .tuple [.str "apart", .int p], .tuple [.str "deep", .int p], .tuple [.str "ring", .int p, .int 1], .tuple [.str "ring", .int p, .int 2], .tuple [.str "ring", .int p, .int 3]]) b1 b2
  obtain ⟨x, rfl, hx⟩ := parts7 hp m2
  try simp
  refine ⟨_, e2, ?_⟩
  simp [h4, hz]
  refine draw_call hs2 (by omega) (by omega) (by omega) (fun r3 ct3 c1 c2 hs3 => ?_)
  obtain ⟨m, m3, e3⟩ := at_ints (ns := [1, 1, 2, 3, -1]) c1 c2
  have hm : m = -1 ∨ 0 < m := by simp at m3; omega
  try simp
  refine ⟨_, e3, ?_⟩
  have key := h (setG l x (cnt m (lookM l x))) ct3 (.val t) (.val (.int p)) (.val (encPart x)) (.val (.int m)) (hl.add hx hm) hs3 rfl rfl rfl rfl rfl
  have hlen : l.length ≤ 1000000 := by have := hl.len; omega
  simp [h5, keyB_part, look_int, hz, shaped2, hlen]
  unfold cnt at key
  by_cases q : m = -1 ∨ lookM l x = -1
  · rw [if_pos q, ← put_add] at key
    simp [q]
    first | exact key | exact .inr key | exact .inl key
  · rw [if_neg q, ← put_add] at key
    simp only [not_or] at q
    simp [q]
    first | exact key | exact .inr key | exact .inl key
theorem told_loop {K : DK} : ∀ (ts : List D) (j : Nat) (l : Group) (ct : Ct) (N : Nat) (s2 s3 s4 s5 : Slot), SrcOk N ct → N + 3 * ts.length ≤ 99000 → TL j l → j + ts.length ≤ 10 → noRef s2 = true → noRef s3 = true → noRef s4 = true → plain s4 = true → noRef s5 = true →
    (∀ (l' : Group) ct' s2 s3 s4 s5, TL (j + ts.length) l' → SrcOk (N + 3 * ts.length) ct' → plain s4 = true → K.nx [.ref ct', .own (.dct (l'.map kvOf)), s2, s3, s4, s5]) →
    forW (wgName 2) toldB K ts [.ref ct, .own (.dct (l.map kvOf)), s2, s3, s4, s5]
  | [], j, l, ct, N, s2, s3, s4, s5, hs, hN, hl, hj, h2, h3, h4, p4, h5, h => by
    have := h l ct s2 s3 s4 s5 hl hs p4
    simpa [forW] using this
  | t :: ts, j, l, ct, N, s2, s3, s4, s5, hs, hN, hl, hj, h2, h3, h4, p4, h5, h => by
    simp only [List.length_cons] at hN hj h
    simp only [forW]
    refine told_step hs (by omega) hl (by omega) h2 h3 h4 h5 (fun l' ct' s2 s3 s4 s5 hl' hs' k2 k3 k4 q4 k5 => ?_)
    refine told_loop ts (j + 1) l' ct' (N + 3) s2 s3 s4 s5 hs' (by omega) hl' (by omega) k2 k3 k4 q4 k5 (fun l2 ct2 t2 t3 t4 t5 g1 g2 g3 => ?_)
    exact h l2 ct2 t2 t3 t4 t5 (by rw [show j + (ts.length + 1) = j + 1 + ts.length from by omega]; exact g1) (g2.mono (by omega)) g3
theorem goodPrime235 {p : Int} (h : p = 2 ∨ p = 3 ∨ p = 5) : GoodPrime p := by
  rcases h with rfl | rfl | rfl
  · exact ⟨by decide +kernel, by omega, by omega⟩
  · exact ⟨by decide +kernel, by omega, by omega⟩
  · exact ⟨by decide +kernel, by omega, by omega⟩
theorem partT_good {x : Part} (h : PartT x) : GoodPart x := by
  cases x with
  | line => trivial
  | all => trivial
  | apart p => exact goodPrime235 h
  | deep p => exact goodPrime235 h
  | ring p n => exact ⟨goodPrime235 h.1, by have := h.2; omega, by have := h.2; omega⟩
/-- what is told at the end -/
def toldOf (l : Group) : Group := (sortP (l.map (·.1))).map fun x => (x, min 4 (lookM l x))
theorem toldOf_ok {l : Group} (h : TL 3 l) : ToldG (toldOf l) := by
  have e : (toldOf l).map (·.1) = sortP (l.map (·.1)) := by
    unfold toldOf
    rw [List.map_map]
    conv => rhs; rw [← List.map_id (sortP (l.map (·.1)))]
    rfl
  have hm : ∀ x ∈ toldOf l, PartT x.1 ∧ (x.2 = -1 ∨ 0 < x.2) ∧ x.2 ≤ 4 := fun x hx => by
    obtain ⟨y, hy, rfl⟩ := List.mem_map.mp hx
    obtain ⟨z, hz, e⟩ := List.mem_map.mp ((sortP_perm _).mem_iff.mp hy)
    have h1 := h.each z hz
    rcases lookM_mem (l := l) (p := y) with ⟨u, hu, e1, e2⟩ | ⟨e1, _⟩
    · have h2 := h.each u hu
      refine ⟨by rw [← e]; exact h1.1, ?_, ?_⟩
      · show min 4 (lookM l y) = -1 ∨ 0 < min 4 (lookM l y)
        rw [e2]; omega
      · show min 4 (lookM l y) ≤ 4
        omega
    · have := List.find?_eq_none.mp e1 z hz
      rw [← e] at this
      simp at this
  refine ⟨⟨fun x hx => ⟨partT_good (hm x hx).1, (hm x hx).2.1⟩, by rw [e]; exact sortP_asc h.nd⟩, hm, ?_⟩
  unfold toldOf
  rw [List.length_map, (sortP_perm _).length_eq, List.length_map]
  exact h.len
theorem keys_ok (l : Group) : AlikeAll ((l.map kvOf).map (·.1)) := by
  refine ⟨fun d hd e he => ?_, .inl fun d hd => ?_, fun d hd => ?_⟩
  · simp only [List.map_map, List.mem_map] at hd he
    obtain ⟨x, _, rfl⟩ := hd
    obtain ⟨y, _, rfl⟩ := he
    exact part_alike _ _
  · simp only [List.map_map, List.mem_map] at hd
    obtain ⟨x, _, rfl⟩ := hd
    show ∃ a b, encPart x.1 = _
    cases x.1 <;> exact ⟨_, _, rfl⟩
  · simp only [List.map_map, List.mem_map] at hd
    obtain ⟨x, _, rfl⟩ := hd
    exact part_depth x.1
theorem keys_sorted (l : Group) : ((l.map kvOf).map (·.1)).mergeSort (PySem.W.dataLe false id) = (sortP (l.map (·.1))).map encPart := by
  have e : (l.map kvOf).map (·.1) = (l.map (·.1)).map encPart := by rw [List.map_map, List.map_map]; rfl
  rw [e, map_sort encPart]
  rfl
theorem pure__law_told : Pure 1 6 sp__law_told w__law_told := by
  intro args W h
  obtain ⟨ct, N, rfl, ⟨hs, hN⟩, h⟩ := h
  refine ⟨rfl, ?_⟩
  have hz : (sizeLine : Nat) = 16777216 := rfl
  simp [w__law_told, Γ0, hz]
  refine draw_call hs (by omega) (by omega) (by omega) (fun r ct1 a1 a2 hs1 => ?_)
  simp
  refine ⟨by omega, ?_⟩
  have := told_loop (K := { nx := fun Γ1 => (wRet (w1 (wLc (wiRow (w1 (wVar 1) sortW)) (wgName 4) wtYes (wTup (wvCons (wVar 4) (wvCons (w2 (wC (.int 4)) (wIdx (wVar 1) (wVar 4)) min2W) wvNil))) [4]) tupW)) Γ1 (retK W [0]), bk := (retK W [0]).bk, ct := (retK W [0]).ct, rt := retW W [0] }) (rngD 0 r.toNat) 0 [] ct1 (N + 1) .non .non .non .non hs1 (by rw [rng_len]; omega) ⟨by simp, by simp, by simp⟩ (by rw [rng_len]; omega) rfl rfl rfl rfl rfl (fun l ct2 t2 t3 t4 t5 g1 g2 p4 => by
    rw [rng_len] at g1 g2
    have g3 : TL 3 l := ⟨g1.nd, g1.each, by have := g1.len; omega⟩
    have hlen : l.length ≤ 1000000 := by have := g1.len; omega
    have hk := keys_ok l
    have := h (toldOf l) ct2 (toldOf_ok g3) (g2.mono (by omega))
    have e1 := keys_sorted l
    simp only [List.map_map] at e1 hk
    simp [hk, hlen, e1, p4]
    refine compW_map encPart (fun x => encPM (x, min 4 (lookM l x))) (sortP (l.map (·.1))) (fun x hx A hA => ?_) ?_
    · have hx' := (sortP_perm _).mem_iff.mp hx
      simp
      refine ⟨keyB_part x, _, look_some hx', ?_⟩
      simp [hz]
      exact hA
    · simpa [encGroup, toldOf, Function.comp_def] using this)
  simp only [toldB] at this
  simpa using this
end GSP
end

section
set_option Elab.async false
set_option linter.all false
set_option maxRecDepth 100000
set_option maxHeartbeats 1000000
set_option exponentiation.threshold 100
namespace GSP
open PySem PySem.Spec PyProof.Rows L2 GS

/-! ## products -/
def prodI (l : List Int) : Int := l.foldr (· * ·) 1
theorem prodI_perm {l l' : List Int} (h : l.Perm l') : prodI l = prodI l' := by
  induction h with
  | nil => rfl
  | cons x _ ih => simp only [prodI, List.foldr_cons] at ih ⊢; rw [ih]
  | swap x y l => simp only [prodI, List.foldr_cons]; rw [← Int.mul_assoc, ← Int.mul_assoc, Int.mul_comm x y]
  | trans _ _ a b => exact a.trans b
theorem prodI_cons (x : Int) (l : List Int) : prodI (x :: l) = x * prodI l := rfl
theorem prodI_append : ∀ a b : List Int, prodI (a ++ b) = prodI a * prodI b
  | [], b => by simp [prodI]
  | x :: a, b => by rw [List.cons_append, prodI_cons, prodI_cons, prodI_append a b, Int.mul_assoc]
theorem foldl_prod {α : Type} (w : α → Int) : ∀ (l : List α) (s : Int), l.foldl (fun s x => s * w x) s = s * prodI (l.map w)
  | [], s => by simp [prodI]
  | x :: l, s => by rw [List.foldl_cons, foldl_prod w l, List.map_cons, prodI_cons, Int.mul_assoc]
def wG (x : Part × Int) : Int := order x.1 ^ x.2.toNat
theorem sizeG_eq (l : Group) : sizeG l = prodI (l.map wG) := by
  have := foldl_prod wG l 1
  rw [Int.one_mul] at this
  exact this
theorem sizeG_perm {l l' : Group} (h : l.Perm l') : sizeG l = sizeG l' := by
  rw [sizeG_eq, sizeG_eq]
  exact prodI_perm (h.map _)
theorem size_add {l : Group} {x : Part} (hn : (l.map (·.1)).Nodup) (hm : 0 ≤ lookM l x) : sizeG (setG l x (lookM l x + 1)) = sizeG l * order x := by
  rw [sizeG_perm (setG_perm l x _ hn), sizeG_eq, List.map_cons, prodI_cons]
  have e : wG (x, lookM l x + 1) = order x ^ (lookM l x).toNat * order x := by
    unfold wG
    rw [Int.toNat_add hm (by omega)]
    exact Int.pow_succ _ _
  rw [e]
  unfold lookM at *
  cases q : (l.find? fun y => decide (y.1 = x)) with
  | none =>
    rw [sizeG_eq, find_none q]
    simp only [Int.toNat_zero, Int.pow_zero, Int.one_mul]
    exact Int.mul_comm _ _
  | some y =>
    have h1 : y.1 = x := by simpa using List.find?_some q
    rw [sizeG_perm (find_perm l x y hn q), sizeG_eq, List.map_cons, prodI_cons]
    unfold wG
    rw [h1]
    simp only [Int.mul_assoc]
    rw [Int.mul_comm (order x)]
structure FL (j : Nat) (l : Group) : Prop where
  nd : (l.map (·.1)).Nodup
  each : ∀ y ∈ l, PartF y.1 ∧ 0 < y.2 ∧ y.2 ≤ j
  len : l.length ≤ j
  size : 1 ≤ sizeG l ∧ sizeG l ≤ 24
theorem FL.more {j k : Nat} {l : Group} (h : FL j l) (hk : j ≤ k) : FL k l := ⟨h.nd, fun y hy => by have := h.each y hy; exact ⟨this.1, this.2.1, by omega⟩, by have := h.len; omega, h.size⟩
theorem FL.look {j : Nat} {l : Group} (h : FL j l) (x : Part) : 0 ≤ lookM l x ∧ lookM l x ≤ j := by
  rcases lookM_mem (l := l) (p := x) with ⟨y, hy, _, e⟩ | ⟨_, e⟩
  · rw [e]; have := h.each y hy; omega
  · rw [e]; omega
theorem FL.add {j : Nat} {l : Group} (h : FL j l) {x : Part} (hx : PartF x) (h1 : 1 ≤ order x) (hs : sizeG l * order x ≤ 24) : FL (j + 1) (setG l x (lookM l x + 1)) := by
  have hl := h.look x
  refine ⟨setG_nodup h.nd, fun y hy => ?_, by have := setG_len l x (lookM l x + 1); have := h.len; omega, ?_⟩
  · rcases setG_mem hy with rfl | z
    · exact ⟨hx, by show 0 < lookM l x + 1; omega, by show lookM l x + 1 ≤ _; omega⟩
    · have := h.each y z
      exact ⟨this.1, this.2.1, by omega⟩
  · rw [size_add h.nd hl.1]
    refine ⟨?_, hs⟩
    have := Int.mul_le_mul h.size.1 h1 (by omega) (by have := h.size.1; omega)
    omega
abbrev finB : WS := (wSeq (wSet 5 (wIdx (wLst (wvCons (wC (.int 2)) (wvCons (wC (.int 2)) (wvCons (wC (.int 3)) (wvCons (wC (.int 5)) wvNil))))) (wCall sp__law_draw (wrRef 0 (wrVal (wC (.int 4)) wrNil)))))
  (wSeq (wSet 6 (wBin .add (wC (.int 1)) (wCall sp__law_draw (wrRef 0 (wrVal (wC (.int 3)) wrNil)))))
  (wSeq (wSet 7 (wIdx (wLst (wvCons (wC (.int 0)) (wvCons (wVar 5) (wvCons (wBin .mul (wVar 5) (wVar 5)) (wvCons (wBin .mul (wBin .mul (wVar 5) (wVar 5)) (wVar 5)) wvNil))))) (wVar 6)))
  (wIf (wTst (wCmp .le (wBin .mul (wVar 3) (wVar 7)) (wVar 1))) (wSeq (wSet 3 (wBin .mul (wVar 3) (wVar 7)))
  (wPut 2 (wTup (wvCons (wC (.str "ring")) (wvCons (wVar 5) (wvCons (wVar 6) wvNil)))) (wBin .add (wGet 2 (wTup (wvCons (wC (.str "ring")) (wvCons (wVar 5) (wvCons (wVar 6) wvNil)))) (wC (.int 0))) (wC (.int 1))))) wNext))))
theorem pow_at {p r : Int} (h0 : 0 ≤ r) (h1 : r < 3) : atI [.int 0, .int p, .int (p * p), .int (p * p * p)] (1 + r) = some (.int (p ^ (1 + r).toNat) : D) := by
  have : r = 0 ∨ r = 1 ∨ r = 2 := by omega
  rcases this with rfl | rfl | rfl
  · rw [show (1 + 0 : Int) = ((1 : Nat) : Int) from rfl, atI_nat (v := .int p) (by simp)]
    simp [Int.pow_succ]
  · rw [show (1 + 1 : Int) = ((2 : Nat) : Int) from rfl, atI_nat (v := .int (p * p)) (by simp)]
    simp [Int.pow_succ]
  · rw [show (1 + 2 : Int) = ((3 : Nat) : Int) from rfl, atI_nat (v := .int (p * p * p)) (by simp)]
    simp [Int.pow_succ]
theorem part24 {p n s : Int} (hp : p = 2 ∨ p = 3 ∨ p = 5) (h0 : 1 ≤ n) (h1 : n ≤ 3) (hs : 1 ≤ s) (h : s * p ^ n.toNat ≤ 24) : PartF (.ring p n) := by
  refine ⟨p, n, rfl, ?_⟩
  have hn : n = 1 ∨ n = 2 ∨ n = 3 := by omega
  rcases hp with rfl | rfl | rfl <;> rcases hn with rfl | rfl | rfl <;> first | decide | (exfalso; simp at h; omega)
theorem fin_step {ct : Ct} {N j : Nat} {s4 s5 s6 s7 : Slot} {t : D} {l : Group} {K : DK} (hs : SrcOk N ct) (hN : N ≤ 99000) (hl : FL j l) (hj : j ≤ 10) (h4 : noRef s4 = true) (h5 : noRef s5 = true) (h6 : noRef s6 = true) (h7 : noRef s7 = true)
    (h : ∀ (l' : Group) ct' s4 s5 s6 s7, FL (j + 1) l' → SrcOk (N + 2) ct' → noRef s4 = true → noRef s5 = true → noRef s6 = true → noRef s7 = true → K.nx [.ref ct', .val (.int 24), .own (.dct (l'.map kvOf)), .val (.int (sizeG l')), s4, s5, s6, s7]) :
    wgName 4 t [.ref ct, .val (.int 24), .own (.dct (l.map kvOf)), .val (.int (sizeG l)), s4, s5, s6, s7] fun Γ1 => finB Γ1 K := by
  have hz : (sizeLine : Nat) = 16777216 := rfl
  simp [h4, h5, hz]
  refine draw_call hs (by omega) (by omega) (by omega) (fun r ct1 a1 a2 hs1 => ?_)
  obtain ⟨p, m1, e1⟩ := at_ints (ns := [2, 2, 3, 5]) a1 a2
  have hp : p = 2 ∨ p = 3 ∨ p = 5 := by simp at m1; omega
  try simp
  refine ⟨_, e1, ?_⟩
  simp [h5, h6, hz]
  refine draw_call hs1 (by omega) (by omega) (by omega) (fun r2 ct2 b1 b2 hs2 => ?_)
  have k1 : GS.MulOk p p := mulR _ (by omega) (by omega)
  have k2 : GS.MulOk (p * p) p := mulR _ (by omega) (by omega)
  have k3 : GS.MulOk (sizeG l) (p ^ (1 + r2).toNat) := by have := hl.size; exact mulL _ (by omega) (by omega)
  simp [h6, k1, k2, hz]
  refine ⟨_, pow_at b1 b2, ?_⟩
  simp [h7, k3]
  have ho : order (.ring p (1 + r2)) = p ^ (1 + r2).toNat := rfl
  by_cases q : sizeG l * p ^ (1 + r2).toNat ≤ 24
  · have hx := part24 hp (by omega) (by omega) hl.size.1 q
    have hpos : 1 ≤ order (.ring p (1 + r2)) := by
      rw [ho]
      have : (0 : Int) < p ^ (1 + r2).toNat := Int.pow_pos (by omega)
      omega
    have e2 := size_add (x := .ring p (1 + r2)) hl.nd (hl.look _).1
    have key := h (setG l (.ring p (1 + r2)) (lookM l (.ring p (1 + r2)) + 1)) ct2 (.val t) (.val (.int p)) (.val (.int (1 + r2))) (.val (.int (p ^ (1 + r2).toNat))) (hl.add hx hpos (by rw [ho]; exact q)) hs2 rfl rfl rfl rfl
    rw [e2, ho, ← put_add] at key
    have k4 := keyB_part (.ring p (1 + r2))
    have k5 := look_int l (.ring p (1 + r2))
    have hlen : l.length ≤ 1000000 := by have := hl.len; omega
    simp only [encPart] at k4 k5 key
    simp [q, k4, k5, hlen]
    exact .inr key
  · have key := h l ct2 (.val t) (.val (.int p)) (.val (.int (1 + r2))) (.val (.int (p ^ (1 + r2).toNat))) (hl.more (by omega)) hs2 rfl rfl rfl rfl
    have q' : 24 < sizeG l * p ^ (1 + r2).toNat := by omega
    simp [q, q']
    first | exact key | exact .inl key
theorem fin_loop {K : DK} : ∀ (ts : List D) (j : Nat) (l : Group) (ct : Ct) (N : Nat) (s4 s5 s6 s7 : Slot), SrcOk N ct → N + 2 * ts.length ≤ 99000 → FL j l → j + ts.length ≤ 10 → noRef s4 = true → noRef s5 = true → noRef s6 = true → noRef s7 = true →
    (∀ (l' : Group) ct' s4 s5 s6 s7, FL (j + ts.length) l' → SrcOk (N + 2 * ts.length) ct' → K.nx [.ref ct', .val (.int 24), .own (.dct (l'.map kvOf)), .val (.int (sizeG l')), s4, s5, s6, s7]) →
    forW (wgName 4) finB K ts [.ref ct, .val (.int 24), .own (.dct (l.map kvOf)), .val (.int (sizeG l)), s4, s5, s6, s7]
  | [], j, l, ct, N, s4, s5, s6, s7, hs, hN, hl, hj, h4, h5, h6, h7, h => by
    have := h l ct s4 s5 s6 s7 hl hs
    simpa [forW] using this
  | t :: ts, j, l, ct, N, s4, s5, s6, s7, hs, hN, hl, hj, h4, h5, h6, h7, h => by
    simp only [List.length_cons] at hN hj h
    simp only [forW]
    refine fin_step hs (by omega) hl (by omega) h4 h5 h6 h7 (fun l' ct' s4 s5 s6 s7 hl' hs' k4 k5 k6 k7 => ?_)
    refine fin_loop ts (j + 1) l' ct' (N + 2) s4 s5 s6 s7 hs' (by omega) hl' (by omega) k4 k5 k6 k7 (fun l2 ct2 t4 t5 t6 t7 g1 g2 => ?_)
    exact h l2 ct2 t4 t5 t6 t7 (by rw [show j + (ts.length + 1) = j + 1 + ts.length from by omega]; exact g1) (g2.mono (by omega))
theorem partF_good {x : Part} (h : PartF x) : GoodPart x := by
  obtain ⟨p, n, rfl, hp, h1, h2⟩ := partF_pow h
  exact ⟨goodPrime235 hp, by omega, by omega⟩
theorem finG_of {l : Group} (h : FL 3 l) : FinG (sortG l) := by
  have hm : ∀ x ∈ sortG l, PartF x.1 ∧ 0 < x.2 ∧ x.2 ≤ 3 := fun x hx => h.each x ((sortG_perm l).mem_iff.mp hx)
  refine ⟨⟨fun x hx => ⟨partF_good (hm x hx).1, .inr (hm x hx).2.1⟩, sortG_asc h.nd⟩, fun x hx => ⟨(hm x hx).1, (hm x hx).2.1⟩, by rw [(sortG_perm l).length_eq]; exact h.len, by rw [sizeG_perm (sortG_perm l)]; exact h.size.2, fun x hx => by have := hm x hx; omega⟩
theorem pure__law_finite : Pure 2 8 sp__law_finite w__law_finite := by
  intro args W h
  obtain ⟨ct, N, rfl, ⟨hs, hN⟩, h⟩ := h
  refine ⟨rfl, ?_⟩
  simp [w__law_finite, Γ0]
  refine draw_call hs (by omega) (by omega) (by omega) (fun r ct1 a1 a2 hs1 => ?_)
  simp
  refine ⟨by omega, ?_⟩
  have := fin_loop (K := { nx := fun Γ1 => (wRet (w1 (wSItems 2) tupW)) Γ1 (retK W [0]), bk := (retK W [0]).bk, ct := (retK W [0]).ct, rt := retW W [0] }) (rngD 0 r.toNat) 0 [] ct1 (N + 1) .non .non .non .non hs1 (by rw [rng_len]; omega) ⟨by simp, by simp, by simp, by decide⟩ (by rw [rng_len]; omega) rfl rfl rfl rfl (fun l ct2 t4 t5 t6 t7 g1 g2 => by
    rw [rng_len] at g1 g2
    have g3 : FL 3 l := g1.more (by omega)
    have hlen : l.length ≤ 1000000 := by have := g1.len; omega
    have hi := items_ok l
    have e2 : (.tuple (sortedItems (l.map kvOf)) : D) = encGroup (sortG l) := by
      rw [items_sorted]; rfl
    have := h (sortG l) ct2 (finG_of g3) (g2.mono (by omega))
    rw [← e2] at this
    simp only [List.map_map] at hi
    simp [hi, hlen]
    exact this)
  simp only [finB] at this
  simpa [show sizeG [] = 1 from rfl] using this
end GSP
end

section
set_option Elab.async false
set_option linter.all false
set_option maxRecDepth 100000
set_option maxHeartbeats 1000000
set_option exponentiation.threshold 100
namespace GSP
open PySem PySem.Spec PyProof.Rows L2 GS

/-! ## the index of a sum is the product -/
def omul : Option Int → Option Int → Option Int
  | some a, some b => some (a * b)
  | _, _ => none
theorem omul_comm (a b : Option Int) : omul a b = omul b a := by
  cases a <;> cases b <;> simp [omul, Int.mul_comm]
theorem omul_assoc (a b c : Option Int) : omul (omul a b) c = omul a (omul b c) := by
  cases a <;> cases b <;> cases c <;> simp [omul, Int.mul_assoc]
theorem omul_one (a : Option Int) : omul (some 1) a = a := by cases a <;> simp [omul]
theorem omul_one' (a : Option Int) : omul a (some 1) = a := by cases a <;> simp [omul]
theorem omul_none (a : Option Int) : omul none a = none := by cases a <;> rfl
def oprod (l : List (Option Int)) : Option Int := l.foldr omul (some 1)
theorem oprod_perm {l l' : List (Option Int)} (h : l.Perm l') : oprod l = oprod l' := by
  induction h with
  | nil => rfl
  | cons x _ ih => simp only [oprod, List.foldr_cons] at ih ⊢; rw [ih]
  | swap x y l => simp only [oprod, List.foldr_cons]; rw [← omul_assoc, ← omul_assoc, omul_comm x y]
  | trans _ _ a b => exact a.trans b
theorem oprod_cons (x : Option Int) (l : List (Option Int)) : oprod (x :: l) = omul x (oprod l) := rfl
theorem oprod_append : ∀ a b : List (Option Int), oprod (a ++ b) = omul (oprod a) (oprod b)
  | [], b => by simp [oprod, omul_one]
  | x :: a, b => by rw [List.cons_append, oprod_cons, oprod_cons, oprod_append a b, omul_assoc]
/-- the index of a part so many times -/
def vI (one other : Lot1) (x : Part × Int) : Option Int := match ixPart x.1 one (one ++ other) with
  | none => none
  | some own => if 1 < own ∧ x.2 = -1 then none else some (own ^ (if 1 < own then x.2.toNat else 0))
theorem ixOf_eq (one other : Lot1) : ∀ (g : Group) (f : Int), ixOf g one other f = omul (some f) (oprod (g.map (vI one other)))
  | [], f => by simp [ixOf, oprod, omul]
  | (x, m) :: g, f => by
    rw [ixOf, List.map_cons, oprod_cons]
    unfold vI
    cases e : ixPart x one (one ++ other) with
    | none => simp [omul_none, omul]
    | some own =>
      simp only
      by_cases q : 1 < own ∧ m = -1
      · rw [if_pos q, if_pos q, omul_none]; rfl
      · rw [if_neg q, if_neg q, ixOf_eq one other g, ← omul_assoc]
        rfl
theorem ix_perm {g h : Group} (p : g.Perm h) (one other : Lot1) : ixOf g one other 1 = ixOf h one other 1 := by
  rw [ixOf_eq, ixOf_eq, oprod_perm (p.map _)]
/-- no index is below one -/
def OneUp (one other : Lot1) (x : Part) : Prop := ∀ own, ixPart x one (one ++ other) = some own → 1 ≤ own
theorem vI_cnt {one other : Lot1} {x : Part} {a b : Int} (hx : OneUp one other x) (ha : a = -1 ∨ 0 < a) (hb : b = -1 ∨ 0 < b) : vI one other (x, cnt a b) = omul (vI one other (x, a)) (vI one other (x, b)) := by
  unfold vI
  simp only
  cases e : ixPart x one (one ++ other) with
  | none => rfl
  | some own =>
    have h1 := hx own e
    simp only
    by_cases q : 1 < own
    · simp only [q, true_and, if_true]
      unfold cnt
      by_cases qa : a = -1
      · simp [qa, omul]
      · by_cases qb : b = -1
        · simp [qb, qa, omul]
        · have h2 : ¬ (a + b = -1) := by omega
          simp only [qa, qb, or_false, if_false, h2, omul]
          rw [Int.toNat_add (by omega) (by omega), Int.pow_add]
    · simp [q, omul]
theorem add_ix {one other : Lot1} {acc : Group} {x : Part × Int} (hn : (acc.map (·.1)).Nodup) (h1 : OneUp one other x.1) (hx : x.2 = -1 ∨ 0 < x.2) (ha : ∀ y ∈ acc, y.2 = -1 ∨ 0 < y.2) :
    oprod ((addG acc x).map (vI one other)) = omul (oprod (acc.map (vI one other))) (vI one other x) := by
  unfold addG
  rw [oprod_perm ((setG_perm acc x.1 _ hn).map _), List.map_cons, oprod_cons]
  cases q : (acc.find? fun y => decide (y.1 = x.1)) with
  | none =>
    rw [find_none q]
    exact omul_comm _ _
  | some y =>
    have hy : y.1 = x.1 := by simpa using List.find?_some q
    rw [oprod_perm ((find_perm acc x.1 y hn q).map (vI one other)), List.map_cons, oprod_cons]
    simp only
    rw [vI_cnt h1 (ha y (List.mem_of_find?_eq_some q)) hx]
    have e1 : (x.1, y.2) = y := by rw [← hy]
    rw [e1, omul_assoc, omul_assoc]
    congr 1
    exact omul_comm _ _
theorem merge_ix {one other : Lot1} : ∀ (l acc : Group), (acc.map (·.1)).Nodup → (∀ x ∈ l, OneUp one other x.1 ∧ (x.2 = -1 ∨ 0 < x.2)) → (∀ y ∈ acc, y.2 = -1 ∨ 0 < y.2) →
    oprod ((l.foldl addG acc).map (vI one other)) = omul (oprod (acc.map (vI one other))) (oprod (l.map (vI one other)))
  | [], acc, _, _, _ => by simp [oprod, omul_one']
  | x :: l, acc, hn, hl, ha => by
    have hx := hl x List.mem_cons_self
    rw [List.foldl_cons, merge_ix l (addG acc x) (addG_nodup hn) (fun y hy => hl y (List.mem_cons_of_mem _ hy)) (fun y hy => ?_), add_ix hn hx.1 hx.2 ha, List.map_cons, oprod_cons, omul_assoc]
    rcases setG_mem hy with rfl | z
    · show _ ∨ _
      cases q : (acc.find? fun y => decide (y.1 = x.1)) with
      | none => exact hx.2
      | some z =>
        have := ha z (List.mem_of_find?_eq_some q)
        have := hx.2
        simp only [cnt]
        split <;> omega
    · exact ha y z
theorem ix_sum {one other : Lot1} (l : Group) (hl : ∀ x ∈ l, OneUp one other x.1 ∧ (x.2 = -1 ∨ 0 < x.2)) : ixOf (groupIn l) one other 1 = oprod (l.map (vI one other)) := by
  unfold groupIn
  rw [ix_perm (sortG_perm _), ixOf_eq, omul_one]
  unfold mergeG
  rw [merge_ix l [] (by simp) hl (by simp)]
  exact omul_one _
theorem ix_two {one other : Lot1} (g h : Group) (hg : ∀ x ∈ g, OneUp one other x.1 ∧ (x.2 = -1 ∨ 0 < x.2)) (hh : ∀ x ∈ h, OneUp one other x.1 ∧ (x.2 = -1 ∨ 0 < x.2)) :
    ixOf (groupIn (g ++ h)) one other 1 = omul (ixOf g one other 1) (ixOf h one other 1) := by
  rw [ix_sum (g ++ h) (fun x hx => (List.mem_append.mp hx).elim (hg x) (hh x)), List.map_append, oprod_append, ixOf_eq, ixOf_eq, omul_one, omul_one]

/-! ## each index is at least one -/
theorem lcm_fold_le : ∀ (l : Lot1) (f : Int), (∀ r ∈ l, OkRow r) → 1 ≤ f → f ≤ l.foldl (fun f r => lcmD f (ownD r)) f
  | [], f, _, _ => Int.le_refl _
  | r :: l, f, hl, hf => by
    have hr := own_facts (hl r List.mem_cons_self)
    have h1 : f ≤ lcmD f (ownD r) := by
      unfold lcmD
      obtain ⟨g1, g2⟩ := gcd_pos_le (a := ownD r) (b := f) (by omega)
      rw [Nat.gcd_comm] at g1 g2
      rw [fdiv_eq (by omega)]
      refine Int.le_ediv_of_mul_le (by omega) ?_
      exact Int.mul_le_mul_of_nonneg_left g2 (by omega)
    have h2 := lcm_facts hf hr.1
    exact Int.le_trans h1 (lcm_fold_le l (lcmD f (ownD r)) (fun x hx => hl x (List.mem_cons_of_mem _ hx)) h2.1)
theorem pow_one_le {p : Int} (hp : 1 ≤ p) (k : Nat) : 1 ≤ p ^ k := by
  have : (0 : Int) < p ^ k := Int.pow_pos (by omega)
  omega
theorem ixPart_one {one other : Lot1} {x : Part} (hx : GoodPart x) (h1 : Small1 one) (h2 : Small1 (one ++ other)) : OneUp one other x := by
  intro own h
  cases x with
  | line =>
    simp only [ixPart, ixLine] at h
    split at h
    · cases h; omega
    · split at h
      · cases h
        rename_i q r
        have m1 := (mult_bound h1).1
        rw [fdiv_eq (by omega)]
        refine Int.le_ediv_of_mul_le (by omega) ?_
        rw [Int.one_mul]
        unfold mult at q r ⊢
        split at r
        · simp at r
        · rename_i qb
          rw [if_neg qb]
          split
          · have := mult_le (l := one ++ other) 1 (small_ok h2) (by omega)
            omega
          · rw [List.foldl_append]
            exact lcm_fold_le other _ (fun r hr => small_ok h2 r (List.mem_append.mpr (.inr hr))) (mult_le (l := one) 1 (small_ok h1) (by omega)).1
      · cases h
  | ring p n => cases h; exact pow_one_le (by have := hx.1.2.1; omega) _
  | deep p =>
    simp only [ixPart] at h
    have hp : GoodPrime p := hx
    split at h
    · cases h; omega
    · split at h
      · cases h; exact pow_one_le (by have := hp.2.1; omega) _
      · cases h
  | all =>
    simp only [ixPart] at h
    split at h
    · cases h; omega
    · split at h <;> cases h
      omega
  | apart p =>
    have hp : GoodPrime p := hx
    simp only [ixPart] at h
    split at h
    · cases h; omega
    · split at h
      · cases h
      · cases h; exact pow_one_le (by have := hp.2.1; omega) _
theorem vI_one {one other : Lot1} {x : Part × Int} (h : OneUp one other x.1) {v : Int} (e : vI one other x = some v) : 1 ≤ v := by
  unfold vI at e
  cases q : ixPart x.1 one (one ++ other) with
  | none => rw [q] at e; cases e
  | some own =>
    rw [q] at e
    simp only at e
    split at e
    · cases e
    · cases e; exact pow_one_le (h own q) _
theorem oprod_one : ∀ (l : List (Option Int)), (∀ x ∈ l, ∀ v, x = some v → 1 ≤ v) → ∀ v, oprod l = some v → 1 ≤ v
  | [], _, v, e => by cases e; omega
  | x :: l, h, v, e => by
    rw [oprod_cons] at e
    cases x with
    | none => rw [omul_none] at e; cases e
    | some a =>
      cases q : oprod l with
      | none => rw [q] at e; cases e
      | some b =>
        rw [q] at e
        cases e
        have h1 := h (some a) List.mem_cons_self a rfl
        have h2 := oprod_one l (fun y hy => h y (List.mem_cons_of_mem _ hy)) b q
        have := Int.mul_le_mul h1 h2 (by omega) (by omega)
        omega
theorem ixOf_one {one other : Lot1} {g : Group} (h : ∀ x ∈ g, OneUp one other x.1) {v : Int} (e : ixOf g one other 1 = some v) : 1 ≤ v := by
  rw [ixOf_eq, omul_one] at e
  refine oprod_one _ (fun x hx v hv => ?_) v e
  obtain ⟨y, hy, rfl⟩ := List.mem_map.mp hx
  exact vI_one (h y hy) hv

/-! ## numbers up to a bound -/
theorem min_mul {a b k : Int} (ha : 1 ≤ a) (hb : 1 ≤ b) (hk : 1 ≤ k) : min (min a k * min b k) k = min (a * b) k := by
  have h1 : a * 1 ≤ a * b := Int.mul_le_mul_of_nonneg_left hb (by omega)
  have h2 : 1 * b ≤ a * b := Int.mul_le_mul_of_nonneg_right ha (by omega)
  by_cases q : a ≤ k
  · by_cases r : b ≤ k
    · rw [Int.min_eq_left q, Int.min_eq_left r]
    · rw [Int.min_eq_left q, Int.min_eq_right (by omega : k ≤ b)]
      have h3 : 1 * k ≤ a * k := Int.mul_le_mul_of_nonneg_right ha (by omega)
      omega
  · rw [Int.min_eq_right (by omega : k ≤ a)]
    have h3 : k * 1 ≤ k * min b k := Int.mul_le_mul_of_nonneg_left (by omega) (by omega)
    omega
theorem cap_mul {i j : Option Int} {k : Int} (hi : ∀ v, i = some v → 1 ≤ v) (hj : ∀ v, j = some v → 1 ≤ v) (hk : 1 ≤ k) : cap (omul i j) k = min (cap i k * cap j k) k := by
  cases i with
  | none =>
    rw [omul_none]
    show k = min (k * cap j k) k
    have : 1 ≤ cap j k := by
      cases j with
      | none => exact hk
      | some b => have := hj b rfl; simp only [cap]; omega
    have h3 : k * 1 ≤ k * cap j k := Int.mul_le_mul_of_nonneg_left this (by omega)
    omega
  | some a =>
    have ha := hi a rfl
    cases j with
    | none =>
      show k = min (min a k * k) k
      have h3 : 1 * k ≤ min a k * k := Int.mul_le_mul_of_nonneg_right (by omega) (by omega)
      omega
    | some b => exact (min_mul ha (hj b rfl) hk).symm
end GSP
end

section
set_option Elab.async false
set_option linter.all false
set_option maxRecDepth 100000
set_option maxHeartbeats 1000000
set_option exponentiation.threshold 100
namespace GSP
open PySem PySem.Spec PyProof.Rows L2 GS

/-! ## a finite group's index by all its elements -/
def okAt (l : Lot1) (m v : Int) : Bool := l.all fun r => atOk r.1 r.2 m v
def cM (l : Lot1) (m : Int) : Nat := (nums m).countP (okAt l m)
def okPt (ms : List Int) (l : Lot1) (x : List Int) : Bool := l.all fun r => rowOk ms r.1 r.2 x
theorem rowOk_snoc {ms : List Int} {x : List Int} (h : ms.length = x.length) (d a m v : Int) : rowOk (ms ++ [m]) d a (x ++ [v]) = (rowOk ms d a x && atOk d a m v) := by
  unfold rowOk
  rw [List.zip_append h, List.all_append]
  simp
theorem okPt_snoc {ms : List Int} {x : List Int} (h : ms.length = x.length) (m v : Int) : ∀ l : Lot1, okPt (ms ++ [m]) l (x ++ [v]) = (okPt ms l x && okAt l m v)
  | [] => rfl
  | r :: l => by
    have := okPt_snoc h m v l
    unfold okPt okAt at this ⊢
    rw [List.all_cons, List.all_cons, List.all_cons, this, rowOk_snoc h]
    cases rowOk ms r.1 r.2 x <;> cases atOk r.1 r.2 m v <;> simp
theorem count_grow {ms : List Int} {l : Lot1} {m : Int} : ∀ (pts : List (List Int)), (∀ x ∈ pts, ms.length = x.length) → (growAll m pts).countP (okPt (ms ++ [m]) l) = pts.countP (okPt ms l) * cM l m
  | [], _ => by simp [growAll]
  | x :: pts, h => by
    have ih := count_grow (ms := ms) (l := l) (m := m) pts fun y hy => h y (List.mem_cons_of_mem _ hy)
    have hx := h x List.mem_cons_self
    have e : growAll m (x :: pts) = ((nums m).map fun v => x ++ [v]) ++ growAll m pts := by simp [growAll, grow]
    rw [e, List.countP_append, ih, List.countP_map, List.countP_cons]
    have e2 : (nums m).countP (okPt (ms ++ [m]) l ∘ fun v => x ++ [v]) = if okPt ms l x = true then cM l m else 0 := by
      by_cases q : okPt ms l x = true
      · rw [if_pos q]
        refine List.countP_congr fun v _ => ?_
        simp [okPt_snoc hx, q]
      · rw [if_neg q]
        rw [List.countP_eq_zero]
        intro v _
        simp [okPt_snoc hx, q]
    rw [e2]
    by_cases q : okPt ms l x = true
    · simp [q, Nat.add_mul, Nat.add_comm]
    · simp [q]
def prodN (l : List Nat) : Nat := l.foldr (· * ·) 1
theorem count_fold {l : Lot1} : ∀ (ms pre : List Int) (pts : List (List Int)), (∀ x ∈ pts, pre.length = x.length) → (ms.foldl (fun found m => growAll m found) pts).countP (okPt (pre ++ ms) l) = pts.countP (okPt pre l) * prodN (ms.map (cM l))
  | [], pre, pts, _ => by simp [prodN]
  | m :: ms, pre, pts, h => by
    rw [List.foldl_cons, show pre ++ m :: ms = (pre ++ [m]) ++ ms from by simp, count_fold ms (pre ++ [m]) (growAll m pts) (fun x hx => ?_), count_grow pts h, List.map_cons]
    · simp [prodN, Nat.mul_assoc]
    · obtain ⟨y, hy, hxy⟩ := List.mem_flatMap.mp hx
      obtain ⟨v, _, rfl⟩ := List.mem_map.mp hxy
      simp [h y hy]
theorem count_all (ms : List Int) (l : Lot1) : (allOf ms).countP (okPt ms l) = prodN (ms.map (cM l)) := by
  have := count_fold (l := l) ms [] [[]] (by simp)
  rw [allOf_eq]
  have e : [([] : List Int)].countP (okPt [] l) = 1 := by
    have : okPt [] l [] = true := by
      unfold okPt
      rw [List.all_eq_true]
      intro r _
      rfl
    simp [this]
  rw [e, Nat.one_mul] at this
  exact this
theorem both_len (ms : List Int) (l : Lot1) : (bothOf ms (allOf ms) l).length = prodN (ms.map (cM l)) := by
  rw [← count_all, List.countP_eq_length_filter]
  rfl
theorem both_both (ms : List Int) (pts : List (List Int)) (a b : Lot1) : bothOf ms (bothOf ms pts a) b = bothOf ms pts (a ++ b) := by
  unfold bothOf
  rw [List.filter_filter]
  refine List.filter_congr fun x _ => ?_
  rw [List.all_append, Bool.and_comm]
/-! ### one modulus -/
def six : List (Int × Int) := [(2, 1), (2, 2), (2, 3), (3, 1), (3, 2), (5, 1)]
def rows20 : List (Int × Int) := ([0, 2, 3, 4, 6] : List Int).flatMap fun d => ([1, 2, 3, 4] : List Int).map fun a => (d, a)
theorem row_six : ∀ q ∈ six, ∀ r ∈ rows20, ∀ v ∈ nums (q.1 ^ q.2.toNat), ∀ f ∈ List.range (q.2.toNat + 1),
    (decide (v.fmod (q.1 ^ f) = 0) && atOk r.1 r.2 (q.1 ^ q.2.toNat) v) = decide (v.fmod (q.1 ^ (exStep q.1 q.2 f r).toNat) = 0) := by
  decide +kernel
theorem count_six : ∀ q ∈ six, ∀ f ∈ List.range (q.2.toNat + 1), ((nums (q.1 ^ q.2.toNat)).countP fun v => decide (v.fmod (q.1 ^ f) = 0)) = (q.1 ^ (q.2.toNat - f)).toNat := by
  decide +kernel
theorem rowT_mem {r : Int × Int} (h : RowT r) : r ∈ rows20 := by
  obtain ⟨a, b⟩ := r
  obtain ⟨h1, h2⟩ := h
  exact List.mem_flatMap.mpr ⟨a, h1, List.mem_map.mpr ⟨b, h2, rfl⟩⟩
theorem ok_fold {q : Int × Int} (hq : q ∈ six) (hq2 : 0 ≤ q.2) {v : Int} (hv : v ∈ nums (q.1 ^ q.2.toNat)) : ∀ (l : Lot1) (f : Int), (∀ r ∈ l, RowT r) → 0 ≤ f → f ≤ q.2 →
    (decide (v.fmod (q.1 ^ f.toNat) = 0) && okAt l (q.1 ^ q.2.toNat) v) = decide (v.fmod (q.1 ^ (l.foldl (exStep q.1 q.2) f).toNat) = 0)
  | [], f, _, _, _ => Bool.and_true _
  | r :: l, f, hl, h0, h1 => by
    have hr := row_six q hq r (rowT_mem (hl r List.mem_cons_self)) v hv f.toNat (List.mem_range.mpr (by omega))
    rw [Int.toNat_of_nonneg h0] at hr
    have hb : 0 ≤ exStep q.1 q.2 f r ∧ exStep q.1 q.2 f r ≤ q.2 := by
      have := exFold_bounds (p := q.1) (most := q.2) [r] f
      simp only [List.foldl_cons, List.foldl_nil] at this
      omega
    have ih := ok_fold hq hq2 hv l (exStep q.1 q.2 f r) (fun x hx => hl x (List.mem_cons_of_mem _ hx)) hb.1 hb.2
    rw [List.foldl_cons, ← ih, ← hr, Bool.and_assoc]
    rfl
theorem exIn_fold0 (p : Int) (l : Lot1) (most : Int) : exIn p l most = l.foldl (exStep p most) 0 := rfl
theorem cM_six {q : Int × Int} (hq : q ∈ six) (hq2 : 0 ≤ q.2) {l : Lot1} (hl : ∀ r ∈ l, RowT r) : cM l (q.1 ^ q.2.toNat) = (q.1 ^ (q.2.toNat - (exIn q.1 l q.2).toNat)).toNat := by
  have hb := exIn_bounds q.1 l q.2
  rw [← count_six q hq (exIn q.1 l q.2).toNat (List.mem_range.mpr (by omega))]
  unfold cM
  refine List.countP_congr fun v hv => ?_
  have := ok_fold hq hq2 hv l 0 hl (by omega) hq2
  rw [exIn_fold0, ← this]
  simp
theorem exFold_mono {p most : Int} : ∀ (a b : Lot1) (f : Int), a.foldl (exStep p most) f ≤ (a ++ b).foldl (exStep p most) f := fun a b f => by
  rw [List.foldl_append]
  exact (exFold_bounds b _).1
/-- each part's index by counting -/
theorem part_six {q : Int × Int} (hq : q ∈ six) {one other : Lot1} (h1 : ∀ r ∈ one, RowT r) (h2 : ∀ r ∈ other, RowT r) :
    ∃ v : Int, ixPart (.ring q.1 q.2) one (one ++ other) = some v ∧ 1 ≤ v ∧ (cM one (q.1 ^ q.2.toNat) : Int) = v * cM (one ++ other) (q.1 ^ q.2.toNat) ∧ 0 < cM (one ++ other) (q.1 ^ q.2.toNat) := by
  have hp : 2 ≤ q.1 ∧ 0 ≤ q.2 := by
    simp [six] at hq
    rcases hq with rfl | rfl | rfl | rfl | rfl | rfl <;> decide
  refine ⟨_, rfl, pow_one_le (by omega) _, ?_⟩
  rw [cM_six hq hp.2 h1, cM_six hq hp.2 (l := one ++ other) (fun r hr => (List.mem_append.mp hr).elim (h1 r) (h2 r))]
  have b1 := exIn_bounds q.1 one q.2
  have b2 := exIn_bounds q.1 (one ++ other) q.2
  have b3 : exIn q.1 one q.2 ≤ exIn q.1 (one ++ other) q.2 := exFold_mono one other 0
  have hpos : ∀ k : Nat, 0 < q.1 ^ k := fun k => Int.pow_pos (by omega)
  rw [Int.toNat_of_nonneg (by have := hpos (q.2.toNat - (exIn q.1 one q.2).toNat); omega), Int.toNat_of_nonneg (by have := hpos (q.2.toNat - (exIn q.1 (one ++ other) q.2).toNat); omega), ← Int.pow_add]
  refine ⟨by congr 1; omega, ?_⟩
  have := hpos (q.2.toNat - (exIn q.1 (one ++ other) q.2).toNat)
  omega
theorem prodN_append : ∀ a b : List Nat, prodN (a ++ b) = prodN a * prodN b
  | [], b => by simp [prodN]
  | x :: a, b => by
    have := prodN_append a b
    simp only [prodN, List.cons_append, List.foldr_cons] at this ⊢
    rw [this, Nat.mul_assoc]
theorem prodN_rep (n k : Nat) : prodN (List.replicate k n) = n ^ k := by
  induction k with
  | zero => rfl
  | succ k ih =>
    rw [List.replicate_succ]
    simp only [prodN, List.foldr_cons] at ih ⊢
    rw [ih, Nat.pow_succ, Nat.mul_comm]
theorem fin_ix {one other : Lot1} (h1 : ∀ r ∈ one, RowT r) (h2 : ∀ r ∈ other, RowT r) : ∀ (g : Group), (∀ x ∈ g, PartF x.1 ∧ 0 < x.2) →
    ∃ v : Int, oprod (g.map (vI one other)) = some v ∧ 1 ≤ v ∧ (prodN ((moduli g).map (cM one)) : Int) = v * prodN ((moduli g).map (cM (one ++ other))) ∧ 0 < prodN ((moduli g).map (cM (one ++ other)))
  | [], _ => ⟨1, rfl, by omega, by simp [moduli, prodN], by simp [moduli, prodN]⟩
  | (x, m) :: g, h => by
    obtain ⟨v, e1, e2, e3, e4⟩ := fin_ix h1 h2 g fun y hy => h y (List.mem_cons_of_mem _ hy)
    obtain ⟨⟨p, n, rfl, hq⟩, hm⟩ := h _ List.mem_cons_self
    obtain ⟨u, f1, f2, f3, f4⟩ := part_six (q := (p, n)) hq h1 h2
    simp only at f1 f3 f4 hm
    have em : moduli ((Part.ring p n, m) :: g) = List.replicate m.toNat (p ^ n.toNat) ++ moduli g := by simp [moduli, order]
    have ev : vI one other (Part.ring p n, m) = some (u ^ m.toNat) := by
      unfold vI
      simp only [f1]
      have : ¬ m = -1 := by omega
      by_cases q : 1 < u
      · simp [q, this]
      · have : u = 1 := by omega
        subst this
        simp [Int.one_pow]
    refine ⟨u ^ m.toNat * v, by rw [List.map_cons, oprod_cons, ev, e1]; rfl, ?_, ?_, ?_⟩
    · have := Int.mul_le_mul (pow_one_le f2 m.toNat) e2 (by omega) (by have := pow_one_le f2 m.toNat; omega)
      omega
    · rw [em, List.map_append, List.map_append, prodN_append, prodN_append, List.map_replicate, List.map_replicate, prodN_rep, prodN_rep]
      simp only [Int.natCast_mul, Int.natCast_pow]
      rw [f3, e3, Int.mul_pow]
      simp only [Int.mul_assoc]
      congr 1
      rw [← Int.mul_assoc, ← Int.mul_assoc, Int.mul_comm v]
    · rw [em, List.map_append, prodN_append, List.map_replicate, prodN_rep]
      exact Nat.mul_pos (Nat.pow_pos f4) e4
theorem brute_ix {g : Group} {one other : Lot1} (hg : ∀ x ∈ g, PartF x.1 ∧ 0 < x.2) (h1 : ∀ r ∈ one, RowT r) (h2 : ∀ r ∈ other, RowT r) : ixOf g one other 1 = some (bruteIx (moduli g) one other) := by
  obtain ⟨v, e1, e2, e3, e4⟩ := fin_ix h1 h2 g hg
  rw [ixOf_eq, omul_one, e1]
  unfold bruteIx
  rw [both_both, both_len, both_len, e3]
  rw [Int.mul_fdiv_cancel _ (by omega)]
end GSP
end

section
set_option Elab.async false
set_option linter.all false
set_option maxRecDepth 100000
set_option maxHeartbeats 2000000
set_option exponentiation.threshold 100
namespace GSP
open PySem PySem.Spec PyProof.Rows L2 GS

/-! ## the law's values -/
structure OG (g : Group) : Prop where
  each : ∀ x ∈ g, GoodPart x.1 ∧ (x.2 = -1 ∨ 0 < x.2) ∧ x.2 ≤ 4
  asc : (g.map (·.1)).Pairwise fun a b => partLt a b = true
  len : g.length ≤ 3
theorem ToldG.og {g : Group} (h : ToldG g) : OG g := ⟨fun x hx => by have := h.2.1 x hx; exact ⟨partT_good this.1, this.2.1, this.2.2⟩, h.1.2, h.2.2⟩
theorem FinG.og {g : Group} (h : FinG g) : OG g := ⟨fun x hx => ⟨partF_good (h.2.1 x hx).1, .inr (h.2.1 x hx).2, h.2.2.2.2 x hx⟩, h.1.2, h.2.2.1⟩
theorem OG.good {g : Group} (h : OG g) : GoodGroup g := ⟨fun x hx => ⟨(h.each x hx).1, (h.each x hx).2.1⟩, h.asc⟩
theorem OG.small {g : Group} (h : OG g) : SmallG g := ⟨by have := h.len; omega, fun x hx => by have := (h.each x hx).2.2; omega⟩
theorem cnt_le {a b k : Int} (hk : 0 ≤ k) (h : a ≤ k) (hb : b ≤ 4) : cnt a b ≤ k + 4 := by
  unfold cnt
  split <;> omega
/-- what merging keeps -/
structure MG (k : Int) (g : Group) : Prop where
  nd : (g.map (·.1)).Nodup
  each : ∀ x ∈ g, GoodPart x.1 ∧ (x.2 = -1 ∨ 0 < x.2) ∧ x.2 ≤ k
theorem MG.add {k : Int} {g : Group} (h : MG k g) (hk : 0 ≤ k) {x : Part × Int} (hx : GoodPart x.1 ∧ (x.2 = -1 ∨ 0 < x.2) ∧ x.2 ≤ 4) : MG (k + 4) (addG g x) := by
  refine ⟨addG_nodup h.nd, fun y hy => ?_⟩
  rcases setG_mem hy with rfl | z
  · refine ⟨hx.1, ?_⟩
    show (_ ∨ _) ∧ _
    cases q : (g.find? fun y => decide (y.1 = x.1)) with
    | none => exact ⟨hx.2.1, by have := hx.2.2; show x.2 ≤ _; omega⟩
    | some z =>
      have hz := h.each z (List.mem_of_find?_eq_some q)
      refine ⟨?_, cnt_le hk hz.2.2 hx.2.2⟩
      have := hz.2.1
      have := hx.2.1
      simp only [cnt]
      split <;> omega
  · have := h.each y z
    exact ⟨this.1, this.2.1, by omega⟩
theorem MG.fold : ∀ (l : Group) (k : Int) (g : Group), MG k g → 0 ≤ k → (∀ x ∈ l, GoodPart x.1 ∧ (x.2 = -1 ∨ 0 < x.2) ∧ x.2 ≤ 4) → MG (k + 4 * l.length) (l.foldl addG g)
  | [], k, g, h, _, _ => by simpa using h
  | x :: l, k, g, h, hk, hl => by
    have := MG.fold l (k + 4) (addG g x) (h.add hk (hl x List.mem_cons_self)) (by omega) fun y hy => hl y (List.mem_cons_of_mem _ hy)
    rw [List.foldl_cons, List.length_cons]
    rw [show k + 4 * ((l.length + 1 : Nat) : Int) = k + 4 + 4 * l.length from by omega]
    exact this
theorem sum_ok {g h : Group} (hg : OG g) (hh : OG h) : GoodGroup (groupIn (g ++ h)) ∧ SmallG (groupIn (g ++ h)) := by
  have hm := MG.fold (g ++ h) 0 [] ⟨by simp, by simp⟩ (by omega) fun x hx => (List.mem_append.mp hx).elim (hg.each x) (hh.each x)
  have e : (mergeG (g ++ h)).length ≤ 6 := by
    have h1 := merge_len (g ++ h) []
    have h2 := hg.len
    have h3 := hh.len
    rw [List.length_append] at h1
    simp only [List.length_nil] at h1
    unfold mergeG
    omega
  have hp := sortG_perm (mergeG (g ++ h))
  have hl : (g ++ h).length ≤ 6 := by
    have := hg.len
    have := hh.len
    rw [List.length_append]; omega
  refine ⟨⟨fun x hx => ?_, sortG_asc hm.nd⟩, by unfold groupIn; rw [hp.length_eq]; omega, fun x hx => ?_⟩
  · have := hm.each x (hp.mem_iff.mp hx)
    exact ⟨this.1, this.2.1⟩
  · have := hm.each x (hp.mem_iff.mp hx)
    omega
theorem rowT_ok {r : Int × Int} (h : RowT r) : 0 ≤ r.1 ∧ r.1 < 1000000 ∧ r.2.natAbs < 1000000 := by
  obtain ⟨h1, h2⟩ := h
  simp at h1 h2
  omega
theorem PrT.small {x : Pr} (h : PrT x) : GoodPr x ∧ Small1 x.1 ∧ Small1 x.2.1 ∧ x.1.length + x.2.1.length ≤ 20 := by
  obtain ⟨h1, h2, h3, h4, h5, h6⟩ := h
  refine ⟨⟨fun r hr => (rowT_ok (h1 r hr)).1, fun r hr => (rowT_ok (h2 r hr)).1, by omega⟩, ⟨by omega, fun r hr => rowT_ok (h1 r hr)⟩, ⟨by omega, fun r hr => rowT_ok (h2 r hr)⟩, by omega⟩
theorem fits_all {g : Group} {l : List Pr} (h1 : GoodGroup g) (h2 : SmallG g) (h : PairsT l) : FitsAll g l := ⟨h1, h2, fun x hx => (h.1 x hx).small⟩
theorem fits_one {g : Group} {x : Pr} (h1 : GoodGroup g) (h2 : SmallG g) (h : PrT x) : Fits g x.1 x.2.1 := ⟨h1, h2, h.small.2.1, h.small.2.2.1, h.small.2.2.2⟩
theorem one_up {g : Group} (hg : ∀ x ∈ g, GoodPart x.1) {x : Pr} (h : PrT x) : ∀ y ∈ g, OneUp x.1 x.2.1 y.1 := fun y hy => ixPart_one (hg y hy) h.small.2.1 (small_append h.small.2.1 h.small.2.2.1 h.small.2.2.2)
theorem vec_bound {g : Group} (hg : ∀ x ∈ g, GoodPart x.1) {l : List Pr} (h : PairsT l) : ∀ v ∈ vecOf g l, 1 ≤ v ∧ v ≤ 5 := fun v hv => by
  obtain ⟨x, hx, rfl⟩ := List.mem_map.mp hv
  have hp := h.1 x hx
  have h5 := hp.2.2.2.2
  cases e : ixOf g x.1 x.2.1 1 with
  | none => show 1 ≤ x.2.2 ∧ x.2.2 ≤ 5; omega
  | some w =>
    have := ixOf_one (one_up hg hp) e
    show 1 ≤ min w x.2.2 ∧ min w x.2.2 ≤ 5
    omega
theorem vec_sum {g h : Group} (hg : OG g) (hh : OG h) {l : List Pr} (hl : PairsT l) : vecOf (groupIn (g ++ h)) l = prodV (vecOf g l) (vecOf h l) l := by
  have key : ∀ l : List Pr, (∀ x ∈ l, PrT x) → vecOf (groupIn (g ++ h)) l = prodV (vecOf g l) (vecOf h l) l := by
    intro l
    induction l with
    | nil => intro _; rfl
    | cons x l ih =>
      intro hl
      have ih := ih fun y hy => hl y (List.mem_cons_of_mem _ hy)
      have hx := hl x List.mem_cons_self
      unfold vecOf prodV at ih ⊢
      simp only [List.map_cons, List.zip_cons_cons]
      rw [ih]
      congr 1
      have u1 := one_up (fun y hy => (hg.each y hy).1) hx
      have u2 := one_up (fun y hy => (hh.each y hy).1) hx
      rw [ix_two g h (fun y hy => ⟨u1 y hy, (hg.each y hy).2.1⟩) (fun y hy => ⟨u2 y hy, (hh.each y hy).2.1⟩)]
      exact cap_mul (fun v e => ixOf_one u1 e) (fun v e => ixOf_one u2 e) hx.2.2.2.2.1
  exact key l hl.1
theorem vec_fin {g : Group} (hg : FinG g) {l : List Pr} (h : PairsT l) : (l.map fun x => min (bruteIx (moduli g) x.1 x.2.1) x.2.2) = vecOf g l := by
  refine List.map_congr_left fun x hx => ?_
  have hp := h.1 x hx
  rw [brute_ix hg.2.1 hp.1 hp.2.1]
  rfl
theorem vec_none {l : List Pr} (h : PairsT l) : vecOf [] l = List.replicate l.length 1 := by
  rw [List.eq_replicate_iff]
  refine ⟨by simp [vecOf], fun v hv => ?_⟩
  obtain ⟨x, hx, rfl⟩ := List.mem_map.mp hv
  have := (h.1 x hx).2.2.2.2.1
  show min 1 x.2.2 = 1
  omega
/-! ### made for repr -/
theorem sh_str4 (s : String) (h1 : PyData.strOk (PyData.shown (.str (Str.ofString s))) = true) (h2 : (Str.ofString s).cps.size ≤ 10) : Sh 1 40 (.str (Str.ofString s)) := (sh_name h1 h2).mono (by omega) (by omega)
theorem sh_part {x : Part} (h : GoodPart x) : Sh 2 123 (encPart x) := by
  have hi : ∀ i : Int, i.natAbs < 10 ^ 12 → Sh 1 40 (.int i) := fun i hi => sh_int hi
  have hp : ∀ p : Int, GoodPrime p → p.natAbs < 10 ^ 12 := fun p hp => by have := hp.2; omega
  cases x with
  | line =>
    refine sh_tuple (k := 1) (n := 40) (m := 3) (ds := [.str "line"]) ?_ (by simp)
    simp only [List.mem_cons, List.not_mem_nil, or_false, forall_eq_or_imp, forall_eq]
    exact sh_str4 "line" (by decide +kernel) (by decide +kernel)
  | all =>
    refine sh_tuple (k := 1) (n := 40) (m := 3) (ds := [.str "all"]) ?_ (by simp)
    simp only [List.mem_cons, List.not_mem_nil, or_false, forall_eq_or_imp, forall_eq]
    exact sh_str4 "all" (by decide +kernel) (by decide +kernel)
  | apart p =>
    refine sh_tuple (k := 1) (n := 40) (m := 3) (ds := [.str "apart", .int p]) ?_ (by simp)
    simp only [List.mem_cons, List.not_mem_nil, or_false, forall_eq_or_imp, forall_eq]
    exact ⟨sh_str4 "apart" (by decide +kernel) (by decide +kernel), hi p (hp p h)⟩
  | deep p =>
    refine sh_tuple (k := 1) (n := 40) (m := 3) (ds := [.str "deep", .int p]) ?_ (by simp)
    simp only [List.mem_cons, List.not_mem_nil, or_false, forall_eq_or_imp, forall_eq]
    exact ⟨sh_str4 "deep" (by decide +kernel) (by decide +kernel), hi p (hp p h)⟩
  | ring p n =>
    refine sh_tuple (k := 1) (n := 40) (m := 3) (ds := [.str "ring", .int p, .int n]) ?_ (by simp)
    simp only [List.mem_cons, List.not_mem_nil, or_false, forall_eq_or_imp, forall_eq]
    exact ⟨sh_str4 "ring" (by decide +kernel) (by decide +kernel), hi p (hp p h.1), hi n (by have := h.2; omega)⟩
theorem sh_group {g : Group} (h : OG g) : Sh 4 747 (encGroup g) := by
  refine sh_tuple (k := 3) (n := 248) (m := 3) (fun d hd => ?_) (by rw [List.length_map]; exact h.len)
  obtain ⟨x, hx, rfl⟩ := List.mem_map.mp hd
  have := h.each x hx
  refine sh_tuple (k := 2) (n := 123) (m := 2) ?_ (by simp)
  simp
  exact ⟨sh_part this.1, (sh_int (by omega)).mono (by omega) (by omega)⟩
theorem sh_row {r : Int × Int} (h : RowT r) : Sh 3 84 (encRow (r.1, [r.2])) := by
  have := rowT_ok h
  refine sh_tuple (k := 2) (n := 41) (m := 2) ?_ (by simp)
  simp
  refine ⟨(sh_int (by omega)).mono (by omega) (by omega), sh_tuple (k := 1) (n := 40) (m := 1) ?_ (by simp)⟩
  simp
  exact sh_int (by omega)
theorem sh_lot {l : Lot1} (h : ∀ r ∈ l, RowT r) (hl : l.length ≤ 2) : Sh 4 170 (encLot1 l) := by
  refine sh_tuple (k := 3) (n := 84) (m := 2) (fun d hd => ?_) (by simp [up1]; exact hl)
  simp [up1] at hd
  obtain ⟨a, b, hr, rfl⟩ := hd
  exact sh_row (h _ hr)
theorem sh_pairs {l : List Pr} (h : PairsT l) : Sh 6 1542 (encPairs l) := by
  refine sh_tuple (k := 5) (n := 513) (m := 3) (fun d hd => ?_) (by rw [List.length_map]; exact h.2)
  obtain ⟨x, hx, rfl⟩ := List.mem_map.mp hd
  obtain ⟨h1, h2, h3, h4, h5, h6⟩ := h.1 x hx
  refine sh_tuple (k := 4) (n := 170) (m := 3) ?_ (by simp)
  simp
  exact ⟨sh_lot h1 (by omega), sh_lot h2 h4, (sh_int (by omega)).mono (by omega) (by omega)⟩
theorem sh_vec {vs : List Int} {n : Nat} (h : ∀ v ∈ vs, v.natAbs < 10 ^ 12) (hl : vs.length ≤ n) : Sh 2 (n * 41) (.tuple (vs.map .int)) := by
  refine sh_tuple (k := 1) (n := 40) (m := n) (fun d hd => ?_) (by rw [List.length_map]; exact hl)
  obtain ⟨x, hx, rfl⟩ := List.mem_map.mp hd
  exact sh_int (h x hx)
theorem prodV_bound {xs ys : List Int} {l : List Pr} (hl : ∀ x ∈ l, PrT x) (hx : ∀ v ∈ xs, 1 ≤ v) (hy : ∀ v ∈ ys, 1 ≤ v) : ∀ v ∈ prodV xs ys l, v.natAbs < 10 ^ 12 := fun v hv => by
  obtain ⟨z, hz, rfl⟩ := List.mem_map.mp hv
  obtain ⟨⟨a, b⟩, p⟩ := z
  have h1 := hl p (List.of_mem_zip hz).2
  have h2 := List.of_mem_zip (List.of_mem_zip hz).1
  have h3 := hx a h2.1
  have h4 := hy b h2.2
  have h5 := Int.mul_le_mul h3 h4 (by omega) (by omega)
  have := h1.2.2.2.2
  show (min (a * b) p.2.2).natAbs < 10 ^ 12
  omega
end GSP
end

section
set_option Elab.async false
set_option linter.all false
set_option maxRecDepth 100000
set_option maxHeartbeats 1000000
namespace GSP
open PySem PySem.Spec PyProof.Rows L2 GS
/-- a comprehension whose turns may change the slots, within I -/
theorem compW_inv {α : Type} {g : WG} {we : WE} {vs : List Nat} {E : List D → DEnv → Prop} (I : DEnv → Prop) (enc : α → D) (f : α → D) : ∀ (xs : List α) (acc : List D) (Γ : DEnv), I Γ →
    (∀ x ∈ xs, ∀ Γ, I Γ → ∀ (A : D → DEnv → Prop), (∀ Γ', I Γ' → A (f x) Γ') → g (enc x) Γ fun Γ1 => we Γ1 fun o Γ3 => o.frz Γ3 fun y Γ4 => plainAll vs Γ4 ∧ A y (clr vs Γ4)) →
    (∀ Γ', I Γ' → E (acc ++ xs.map f) Γ') → compW g wtYes we vs E (xs.map enc) acc Γ
  | [], acc, Γ, hi, _, h => by simpa using h Γ hi
  | x :: xs, acc, Γ, hi, hs, h => by
    have := hs x List.mem_cons_self Γ hi (fun y Γ => compW g wtYes we vs E (xs.map enc) (acc ++ [y]) Γ) (fun Γ' hi' => compW_inv I enc f xs (acc ++ [f x]) Γ' hi' (fun y hy => hs y (List.mem_cons_of_mem _ hy)) (by simpa using h))
    simpa using this
end GSP
end

section
set_option Elab.async false
set_option linter.all false
set_option maxRecDepth 100000
set_option maxHeartbeats 2000000
set_option exponentiation.threshold 100
namespace GSP
open PySem PySem.Spec PyProof.Rows L2 GS

/-! ## a turn of the law, statement by statement -/
abbrev q0 : WS := (wAsg (wgTup 4 (wgCons (wgName 4) (wgCons (wgName 5) (wgCons (wgName 6) (wgCons (wgName 7) wgNil))))) (wTup (wvCons (wCall sp__law_told (wrRef 2 wrNil)) (wvCons (wCall sp__law_told (wrRef 2 wrNil)) (wvCons (wCall sp__law_finite (wrRef 2 (wrVal (wC (.int 24)) wrNil))) (wvCons (wCall sp__law_pairs_drawn (wrRef 2 wrNil)) wvNil))))))
abbrev q1 : WS := (wSet 8 (w1 (wLst (wvCons (wVar 4) (wvCons (wVar 7) wvNil))) reprW))
abbrev q2 : WS := (wSet 9 (w1 (wLc (wiRow (wVar 7)) (wgTup 3 (wgCons (wgName 15) (wgCons (wgName 16) (wgCons (wgName 17) wgNil)))) wtYes (wCall sp__law_capped (wrVal (wCall sp_index_in (wrVal (wVar 4) (wrVal (wVar 15) (wrVal (wVar 16) wrNil)))) (wrVal (wVar 17) wrNil))) [15, 16, 17]) tupW))
abbrev q3 : WS := (wIf (wtNot (wtTru (wCall sp__law_same (wrVal (wLst (wvCons (wCall sp_vector_of (wrVal (wVar 4) (wrVal (wVar 7) wrNil))) (wvCons (wCallK sp_vector_of [1, 0] 0 2 wvNil (wvCons (wVar 7) (wvCons (wVar 4) wvNil))) wvNil))) (wrVal (wLst (wvCons (wVar 9) (wvCons (wVar 9) wvNil))) wrNil))))) (wRet (wC (.bool false))) wNext)
abbrev q4 : WS := (wSet 10 (wCall sp__law_moduli (wrVal (wVar 6) wrNil)))
abbrev q5 : WS := (wSet 11 (wCall sp__law_all (wrVal (wVar 10) wrNil)))
abbrev q6 : WS := (wSet 12 (w1 (wLc (wiRow (wVar 7)) (wgTup 3 (wgCons (wgName 15) (wgCons (wgName 16) (wgCons (wgName 17) wgNil)))) wtYes (w2 (wCall sp__law_index (wrVal (wVar 10) (wrVal (wVar 11) (wrVal (wVar 15) (wrVal (wVar 16) wrNil))))) (wVar 17) min2W) [15, 16, 17]) tupW))
abbrev q7 : WS := (wSet 13 (wLst (wvCons (wCall sp_vector_of (wrVal (wVar 6) (wrVal (wVar 7) wrNil))) (wvCons (wCall sp_vector_of (wrVal (wTup wvNil) (wrVal (wVar 7) wrNil))) (wvCons (wCall sp_vector_of (wrVal (wVar 4) (wrVal (wTup wvNil) wrNil))) (wvCons (wCall sp_vector_of (wrVal (wCall sp_sum_of (wrVal (wVar 4) (wrVal (wVar 6) wrNil))) (wrVal (wVar 7) wrNil))) wvNil))))))
abbrev q8 : WS := (wIf (wtNot (wtTru (wCall sp__law_same (wrVal (wVar 13) (wrVal (wLst (wvCons (wVar 12) (wvCons (wBin .mul (wTup (wvCons (wC (.int 1)) wvNil)) (w1 (wVar 7) lenW)) (wvCons (wTup wvNil) (wvCons (wCall sp__law_product (wrVal (wVar 9) (wrVal (wVar 12) (wrVal (wVar 7) wrNil)))) wvNil))))) wrNil))))) (wRet (wC (.bool false))) wNext)
abbrev q9 : WS := (wSet 14 (wCall sp_vector_of (wrVal (wVar 5) (wrVal (wVar 7) wrNil))))
abbrev q10 : WS := (wSet 13 (wLst (wvCons (wCall sp_vector_of (wrVal (wCall sp_sum_of (wrVal (wVar 4) (wrVal (wVar 5) wrNil))) (wrVal (wVar 7) wrNil))) (wvCons (wCall sp_vector_of (wrVal (wCall sp_sum_of (wrVal (wVar 4) (wrVal (wVar 4) wrNil))) (wrVal (wVar 7) wrNil))) wvNil))))
abbrev q11 : WS := (wIf (wtOr (wtNot (wtTru (wCall sp__law_same (wrVal (wVar 13) (wrVal (wLst (wvCons (wCall sp__law_product (wrVal (wVar 9) (wrVal (wVar 14) (wrVal (wVar 7) wrNil)))) (wvCons (wCall sp__law_product (wrVal (wVar 9) (wrVal (wVar 9) (wrVal (wVar 7) wrNil)))) wvNil))) wrNil))))) (wTst (wCmp .ne (w1 (wLst (wvCons (wVar 4) (wvCons (wVar 7) wvNil))) reprW) (wVar 8)))) (wRet (wC (.bool false))) wNext)
section
variable {s0 s1 s2 s3 s4 s5 s6 s7 s8 s9 s10 s11 s12 s13 s14 s15 s16 s17 : Slot} {K : DK} {ct : Ct} {N : Nat} {g o s : Group} {l : List Pr}
theorem told_call {W : Res → List Ct → Prop} (h : SrcOk N ct) (hN : N ≤ 10000) (hW : ∀ g ct', ToldG g → SrcOk (N + 100) ct' → W (.val (encGroup g)) [ct']) : sp__law_told [.ref ct] W := ⟨ct, N, rfl, ⟨h, hN⟩, hW⟩
theorem fin_call {W : Res → List Ct → Prop} (h : SrcOk N ct) (hN : N ≤ 10000) (hW : ∀ g ct', FinG g → SrcOk (N + 100) ct' → W (.val (encGroup g)) [ct']) : sp__law_finite [.ref ct, .val (.int 24)] W := ⟨ct, N, rfl, ⟨h, hN⟩, hW⟩
theorem prs_call {W : Res → List Ct → Prop} (h : SrcOk N ct) (hN : N ≤ 10000) (hW : ∀ l ct', PairsT l → SrcOk (N + 100) ct' → W (.val (encPairs l)) [ct']) : sp__law_pairs_drawn [.ref ct] W := ⟨ct, N, rfl, ⟨h, hN⟩, hW⟩
theorem vec_call {W : Res → List Ct → Prop} (h1 : GoodGroup g) (h2 : SmallG g) (h : PairsT l) (hW : W (.val (.tuple ((vecOf g l).map .int))) []) : sp_vector_of [.val (encGroup g), .val (encPairs l)] W := ⟨g, l, rfl, fits_all h1 h2 h, hW⟩
theorem sum_call {W : Res → List Ct → Prop} (h1 : OG g) (h2 : OG o) (hW : W (.val (encGroup (groupIn (g ++ o)))) []) : sp_sum_of [.val (encGroup g), .val (encGroup o)] W := ⟨g, o, rfl, ⟨h1.good, h2.good, by have := h1.len; omega, by have := h2.len; omega⟩, hW⟩
theorem same_call {d e : D} {W : Res → List Ct → Prop} (e1 : d = e) (h : Sh 60 1000000 d) (hc : (∃ ds, d = .list ds) ∨ ∃ ds, d = .tuple ds) (hW : W (.val (.bool true)) []) : sp__law_same [.val d, .val e] W := ⟨d, by rw [e1], h, hc, hW⟩
theorem prod_call {xs ys : List Int} {W : Res → List Ct → Prop} (h1 : xs.length = l.length) (h2 : ys.length = l.length) (h3 : ∀ x ∈ xs, 1 ≤ x ∧ x ≤ 5) (h4 : ∀ x ∈ ys, 1 ≤ x ∧ x ≤ 5) (hW : W (.val (.tuple ((prodV xs ys l).map .int))) []) : sp__law_product [.val (.tuple (xs.map .int)), .val (.tuple (ys.map .int)), .val (encPairs l)] W :=
  ⟨xs, ys, l, rfl, ⟨h1, h2, fun x hx => by have := h3 x hx; omega, fun x hx => by have := h4 x hx; omega⟩, hW⟩
theorem vec_len {g : Group} {l : List Pr} : (vecOf g l).length = l.length := by simp [vecOf]
theorem sum_bound {g o : Group} {l : List Pr} (hg : OG g) (ho : OG o) (hl : PairsT l) : Sh 2 (3 * 41) (.tuple ((vecOf (groupIn (g ++ o)) l).map .int)) := by
  have hs := sum_ok hg ho
  have hv := vec_bound (g := groupIn (g ++ o)) (fun x hx => (hs.1.1 x hx).1) hl
  exact sh_vec (fun v hv' => by have := hv v hv'; omega) (by rw [vec_len]; exact hl.2)
theorem og_sh {g : Group} {l : List Pr} (hg : OG g) (hl : PairsT l) : Sh 2 (3 * 41) (.tuple ((vecOf g l).map .int)) := by
  have hv := vec_bound (g := g) (fun x hx => (hg.each x hx).1) hl
  exact sh_vec (fun v hv' => by have := hv v hv'; omega) (by rw [vec_len]; exact hl.2)
theorem vec2_sh {g o : Group} {l : List Pr} (hg : OG g) (ho : OG o) (hl : PairsT l) : ∀ d ∈ ([.tuple ((vecOf (groupIn (g ++ o)) l).map .int), .tuple ((vecOf (groupIn (g ++ g)) l).map .int)] : List D), Sh 2 (3 * 41) d := by
  simp only [List.mem_cons, List.not_mem_nil, or_false, forall_eq_or_imp, forall_eq]
  exact ⟨sum_bound hg ho hl, sum_bound hg hg hl⟩
theorem vec4_sh {g s : Group} {l : List Pr} (hg : OG g) (hs : OG s) (hl : PairsT l) : ∀ d ∈ ([.tuple ((vecOf s l).map .int), .tuple ((vecOf [] l).map .int), .tuple [], .tuple ((vecOf (groupIn (g ++ s)) l).map .int)] : List D), Sh 2 (3 * 41) d := by
  simp only [List.mem_cons, List.not_mem_nil, or_false, forall_eq_or_imp, forall_eq]
  exact ⟨og_sh hs hl, og_sh (g := []) ⟨by simp, by simp, by simp⟩ hl, (sh_tuple (k := 1) (n := 40) (m := 3) (ds := []) (by simp) (by simp)), sum_bound hg hs hl⟩
theorem kept_sh {g : Group} {l : List Pr} (h1 : OG g) (h2 : PairsT l) : Sh 60 1000000 (.list [encGroup g, encPairs l]) :=
  (sh_list (k := 6) (n := 1542) (m := 2) (by simp; exact ⟨(sh_group h1).mono (by omega) (by omega), sh_pairs h2⟩) (by simp)).mono (by omega) (by omega)

theorem r0 (hs : SrcOk N ct) (hN : N ≤ 5000) (h4 : noRef s4 = true) (h5 : noRef s5 = true) (h6 : noRef s6 = true) (h7 : noRef s7 = true)
    (h : ∀ g o s l ct', ToldG g → ToldG o → FinG s → PairsT l → SrcOk (N + 400) ct' → K.nx [s0, s1, .own ct', s3, .val (encGroup g), .val (encGroup o), .val (encGroup s), .val (encPairs l), s8, s9, s10, s11, s12, s13, s14, s15, s16, s17]) : q0 [s0, s1, .own ct, s3, s4, s5, s6, s7, s8, s9, s10, s11, s12, s13, s14, s15, s16, s17] K := by
  have hz : (sizeLine : Nat) = 16777216 := rfl
  simp [hz]
  refine told_call hs (by omega) (fun g ct1 g1 hs1 => ?_)
  simp
  refine told_call hs1 (by omega) (fun o ct2 g2 hs2 => ?_)
  simp
  refine fin_call hs2 (by omega) (fun s ct3 g3 hs3 => ?_)
  simp
  refine prs_call hs3 (by omega) (fun l ct4 g4 hs4 => ?_)
  simp [h4, h5, h6, h7]
  exact h g o s l ct4 g1 g2 g3 g4 (hs4.mono (by omega))
theorem r1 (h8 : noRef s8 = true) (hg : OG g) (hl : PairsT l) (h : K.nx [s0, s1, .own ct, s3, .val (encGroup g), .val (encGroup o), .val (encGroup s), .val (encPairs l), .val (.str (PyData.shown (.list [encGroup g, encPairs l]))), s9, s10, s11, s12, s13, s14, .non, .non, .non]) : q1 [s0, s1, .own ct, s3, .val (encGroup g), .val (encGroup o), .val (encGroup s), .val (encPairs l), s8, s9, s10, s11, s12, s13, s14, .non, .non, .non] K := by
  have hz : (sizeLine : Nat) = 16777216 := rfl
  simp [hz]
  refine sh_rep (kept_sh hg hl) (.inl ⟨_, rfl⟩) ?_
  simp [h8]
  exact h
theorem r2 (h9 : noRef s9 = true) (hg : OG g) (hl : PairsT l) (h : K.nx [s0, s1, .own ct, s3, .val (encGroup g), .val (encGroup o), .val (encGroup s), .val (encPairs l), s8, .val (.tuple ((vecOf g l).map .int)), s10, s11, s12, s13, s14, .non, .non, .non]) : q2 [s0, s1, .own ct, s3, .val (encGroup g), .val (encGroup o), .val (encGroup s), .val (encPairs l), s8, s9, s10, s11, s12, s13, s14, .non, .non, .non] K := by
  simp [encPairs]
  refine compW_map encPair (fun x => .int (cap (ixOf g x.1 x.2.1 1) x.2.2)) l (fun x hx A hA => ?_) ?_
  · simp [encPair]
    refine ⟨g, x.1, x.2.1, rfl, fits_one hg.good hg.small (hl.1 x hx), ?_⟩
    simp
    refine ⟨_, _, rfl, ?_⟩
    simpa [encPairs] using hA
  · simp [h9]
    simpa [vecOf, Function.comp_def, encPairs] using h
theorem r3 (hg : OG g) (hl : PairsT l) (h : K.nx [s0, s1, .own ct, s3, .val (encGroup g), .val (encGroup o), .val (encGroup s), .val (encPairs l), s8, .val (.tuple ((vecOf g l).map .int)), s10, s11, s12, s13, s14, .non, .non, .non]) : q3 [s0, s1, .own ct, s3, .val (encGroup g), .val (encGroup o), .val (encGroup s), .val (encPairs l), s8, .val (.tuple ((vecOf g l).map .int)), s10, s11, s12, s13, s14, .non, .non, .non] K := by
  have hz : (sizeLine : Nat) = 16777216 := rfl
  have hv := vec_bound (g := g) (fun x hx => (hg.each x hx).1) hl
  have hsh : Sh 2 (3 * 41) (.tuple ((vecOf g l).map .int)) := sh_vec (fun v hv' => by have := hv v hv'; omega) (by rw [vec_len]; exact hl.2)
  simp [hz]
  refine vec_call hg.good hg.small hl ?_
  simp
  refine vec_call hg.good hg.small hl ?_
  simp [hz]
  refine same_call rfl ((sh_list (k := 2) (n := 3 * 41) (m := 2) (by simp; exact hsh) (by simp)).mono (by omega) (by omega)) (.inl ⟨_, rfl⟩) ?_
  simp
  exact h
theorem r4 (h10 : noRef s10 = true) (hs : FinG s) (h : K.nx [s0, s1, .own ct, s3, .val (encGroup g), .val (encGroup o), .val (encGroup s), .val (encPairs l), s8, .val (.tuple ((vecOf g l).map .int)), .own (.lst ((moduli s).map .int)), s11, s12, s13, s14, .non, .non, .non]) : q4 [s0, s1, .own ct, s3, .val (encGroup g), .val (encGroup o), .val (encGroup s), .val (encPairs l), s8, .val (.tuple ((vecOf g l).map .int)), s10, s11, s12, s13, s14, .non, .non, .non] K := by
  simp
  refine ⟨s, rfl, hs, ?_⟩
  simp [h10]
  exact h
theorem r5 (h11 : noRef s11 = true) (hs : FinG s) (hm : GoodMs (moduli s)) (h : ∀ E, (E = .own (.lst ((allOf (moduli s)).map encPt)) ∨ E = .val (.list ((allOf (moduli s)).map encPt))) → K.nx [s0, s1, .own ct, s3, .val (encGroup g), .val (encGroup o), .val (encGroup s), .val (encPairs l), s8, .val (.tuple ((vecOf g l).map .int)), .val (.list ((moduli s).map .int)), E, s12, s13, s14, .non, .non, .non]) : q5 [s0, s1, .own ct, s3, .val (encGroup g), .val (encGroup o), .val (encGroup s), .val (encPairs l), s8, .val (.tuple ((vecOf g l).map .int)), .own (.lst ((moduli s).map .int)), s11, s12, s13, s14, .non, .non, .non] K := by
  simp
  refine ⟨moduli s, rfl, hm, ?_, ?_⟩
  · simp [h11]
    exact h _ (.inl rfl)
  · simp [h11]
    exact h _ (.inr rfl)
theorem r6 (h12 : noRef s12 = true) (hs : FinG s) (hm : GoodMs (moduli s)) (hl : PairsT l) {E : Slot} (hE : E = .own (.lst ((allOf (moduli s)).map encPt)) ∨ E = .val (.list ((allOf (moduli s)).map encPt))) (h : ∀ E, noRef E = true → K.nx [s0, s1, .own ct, s3, .val (encGroup g), .val (encGroup o), .val (encGroup s), .val (encPairs l), s8, .val (.tuple ((vecOf g l).map .int)), .val (.list ((moduli s).map .int)), E, .val (.tuple ((vecOf s l).map .int)), s13, s14, .non, .non, .non]) : q6 [s0, s1, .own ct, s3, .val (encGroup g), .val (encGroup o), .val (encGroup s), .val (encPairs l), s8, .val (.tuple ((vecOf g l).map .int)), .val (.list ((moduli s).map .int)), E, s12, s13, s14, .non, .non, .non] K := by
  have key : ∀ (x : Pr) (_ : x ∈ l) (W : Res → List Ct → Prop), W (.val (.int (bruteIx (moduli s) x.1 x.2.1))) [] → sp__law_index [.val (.list ((moduli s).map .int)), .val (.list ((allOf (moduli s)).map encPt)), .val (encLot1 x.1), .val (encLot1 x.2.1)] W := fun x hx W hW =>
    ⟨moduli s, x.1, x.2.1, rfl, ⟨hm, (hl.1 x hx).small.2.1, (hl.1 x hx).small.2.2.1⟩, hW⟩
  simp [encPairs]
  refine compW_inv (fun Γ => ∃ E, (E = .own (.lst ((allOf (moduli s)).map encPt)) ∨ E = .val (.list ((allOf (moduli s)).map encPt))) ∧ Γ = [s0, s1, .own ct, s3, .val (encGroup g), .val (encGroup o), .val (encGroup s), .val (.tuple (l.map encPair)), s8, .val (.tuple ((vecOf g l).map .int)), .val (.list ((moduli s).map .int)), E, s12, s13, s14, .non, .non, .non]) encPair (fun x => .int (min (bruteIx (moduli s) x.1 x.2.1) x.2.2)) l [] _ ⟨E, hE, rfl⟩ (fun x hx Γ hΓ A hA => ?_) (fun Γ hΓ => ?_)
  · obtain ⟨E, hE, rfl⟩ := hΓ
    have hA := hA _ ⟨.val (.list ((allOf (moduli s)).map encPt)), .inr rfl, rfl⟩
    rcases hE with rfl | rfl
    · simp [encPair]
      refine key x hx _ ?_
      simp
      exact hA
    · simp [encPair]
      refine key x hx _ ?_
      simp
      exact hA
  · obtain ⟨E, hE, rfl⟩ := hΓ
    have hn : noRef E = true := by rcases hE with rfl | rfl <;> rfl
    have := h E hn
    rw [← vec_fin hs hl] at this
    simp [h12]
    simpa [Function.comp_def, encPairs] using this
theorem r7 (h13 : noRef s13 = true) (hg : OG g) (hs : OG s) (hl : PairsT l) (h : K.nx [s0, s1, .own ct, s3, .val (encGroup g), .val (encGroup o), .val (encGroup s), .val (encPairs l), s8, .val (.tuple ((vecOf g l).map .int)), .val (.list ((moduli s).map .int)), s11, .val (.tuple ((vecOf s l).map .int)), .own (.lst [.tuple ((vecOf s l).map .int), .tuple ((vecOf [] l).map .int), .tuple [], .tuple ((vecOf (groupIn (g ++ s)) l).map .int)]), s14, .non, .non, .non]) : q7 [s0, s1, .own ct, s3, .val (encGroup g), .val (encGroup o), .val (encGroup s), .val (encPairs l), s8, .val (.tuple ((vecOf g l).map .int)), .val (.list ((moduli s).map .int)), s11, .val (.tuple ((vecOf s l).map .int)), s13, s14, .non, .non, .non] K := by
  have hz : (sizeLine : Nat) = 16777216 := rfl
  have hsum := sum_ok hg hs
  simp [hz]
  refine vec_call hs.good hs.small hl ?_
  simp
  refine vec_call (g := []) ⟨by simp, by simp⟩ ⟨by simp, by simp⟩ hl ?_
  simp
  refine vec_call (l := []) hg.good hg.small ⟨by simp, by simp⟩ ?_
  simp
  refine sum_call hg hs ?_
  simp
  refine vec_call hsum.1 hsum.2 hl ?_
  simp [h13, hz]
  exact h
theorem r8 (hg : OG g) (hs : OG s) (hl : PairsT l) (h : K.nx [s0, s1, .own ct, s3, .val (encGroup g), .val (encGroup o), .val (encGroup s), .val (encPairs l), s8, .val (.tuple ((vecOf g l).map .int)), .val (.list ((moduli s).map .int)), s11, .val (.tuple ((vecOf s l).map .int)), .val (.list [.tuple ((vecOf s l).map .int), .tuple ((vecOf [] l).map .int), .tuple [], .tuple ((vecOf (groupIn (g ++ s)) l).map .int)]), s14, .non, .non, .non]) : q8 [s0, s1, .own ct, s3, .val (encGroup g), .val (encGroup o), .val (encGroup s), .val (encPairs l), s8, .val (.tuple ((vecOf g l).map .int)), .val (.list ((moduli s).map .int)), s11, .val (.tuple ((vecOf s l).map .int)), .own (.lst [.tuple ((vecOf s l).map .int), .tuple ((vecOf [] l).map .int), .tuple [], .tuple ((vecOf (groupIn (g ++ s)) l).map .int)]), s14, .non, .non, .non] K := by
  have hz : (sizeLine : Nat) = 16777216 := rfl
  have vg := vec_bound (g := g) (fun x hx => (hg.each x hx).1) hl
  have vs := vec_bound (g := s) (fun x hx => (hs.each x hx).1) hl
  have ll := hl.2
  simp [hz]
  have hlen : lenW (encPairs l) = fun V => V (.val (.int l.length)) := by funext V; simp [encPairs]
  rw [hlen]
  simp
  refine ⟨by omega, ?_⟩
  refine prod_call vec_len vec_len vg vs ?_
  simp
  refine same_call ?_ ((sh_list (k := 2) (n := 3 * 41) (m := 4) (vec4_sh hg hs hl) (by simp)).mono (by omega) (by omega)) (.inl ⟨_, rfl⟩) ?_
  · rw [vec_none hl, vec_sum hg hs hl]
    simp
  · simp
    exact h
theorem r9 (h14 : noRef s14 = true) (ho : OG o) (hl : PairsT l) (h : K.nx [s0, s1, .own ct, s3, .val (encGroup g), .val (encGroup o), .val (encGroup s), .val (encPairs l), s8, .val (.tuple ((vecOf g l).map .int)), .val (.list ((moduli s).map .int)), s11, .val (.tuple ((vecOf s l).map .int)), .val (.list [.tuple ((vecOf s l).map .int), .tuple ((vecOf [] l).map .int), .tuple [], .tuple ((vecOf (groupIn (g ++ s)) l).map .int)]), .val (.tuple ((vecOf o l).map .int)), .non, .non, .non]) : q9 [s0, s1, .own ct, s3, .val (encGroup g), .val (encGroup o), .val (encGroup s), .val (encPairs l), s8, .val (.tuple ((vecOf g l).map .int)), .val (.list ((moduli s).map .int)), s11, .val (.tuple ((vecOf s l).map .int)), .val (.list [.tuple ((vecOf s l).map .int), .tuple ((vecOf [] l).map .int), .tuple [], .tuple ((vecOf (groupIn (g ++ s)) l).map .int)]), s14, .non, .non, .non] K := by
  simp
  refine vec_call ho.good ho.small hl ?_
  simp [h14]
  exact h
theorem r10 (hg : OG g) (ho : OG o) (hl : PairsT l) (h : K.nx [s0, s1, .own ct, s3, .val (encGroup g), .val (encGroup o), .val (encGroup s), .val (encPairs l), s8, .val (.tuple ((vecOf g l).map .int)), .val (.list ((moduli s).map .int)), s11, .val (.tuple ((vecOf s l).map .int)), .own (.lst [.tuple ((vecOf (groupIn (g ++ o)) l).map .int), .tuple ((vecOf (groupIn (g ++ g)) l).map .int)]), .val (.tuple ((vecOf o l).map .int)), .non, .non, .non]) : q10 [s0, s1, .own ct, s3, .val (encGroup g), .val (encGroup o), .val (encGroup s), .val (encPairs l), s8, .val (.tuple ((vecOf g l).map .int)), .val (.list ((moduli s).map .int)), s11, .val (.tuple ((vecOf s l).map .int)), .val (.list [.tuple ((vecOf s l).map .int), .tuple ((vecOf [] l).map .int), .tuple [], .tuple ((vecOf (groupIn (g ++ s)) l).map .int)]), .val (.tuple ((vecOf o l).map .int)), .non, .non, .non] K := by
  have hz : (sizeLine : Nat) = 16777216 := rfl
  have u1 := sum_ok hg ho
  have u2 := sum_ok hg hg
  simp [hz]
  refine sum_call hg ho ?_
  simp
  refine vec_call u1.1 u1.2 hl ?_
  simp
  refine sum_call hg hg ?_
  simp
  refine vec_call u2.1 u2.2 hl ?_
  simp [hz]
  exact h
theorem r11 (hg : OG g) (ho : OG o) (hl : PairsT l) (h : K.nx [s0, s1, .own ct, s3, .val (encGroup g), .val (encGroup o), .val (encGroup s), .val (encPairs l), .val (.str (PyData.shown (.list [encGroup g, encPairs l]))), .val (.tuple ((vecOf g l).map .int)), .val (.list ((moduli s).map .int)), s11, .val (.tuple ((vecOf s l).map .int)), .val (.list [.tuple ((vecOf (groupIn (g ++ o)) l).map .int), .tuple ((vecOf (groupIn (g ++ g)) l).map .int)]), .val (.tuple ((vecOf o l).map .int)), .non, .non, .non]) : q11 [s0, s1, .own ct, s3, .val (encGroup g), .val (encGroup o), .val (encGroup s), .val (encPairs l), .val (.str (PyData.shown (.list [encGroup g, encPairs l]))), .val (.tuple ((vecOf g l).map .int)), .val (.list ((moduli s).map .int)), s11, .val (.tuple ((vecOf s l).map .int)), .own (.lst [.tuple ((vecOf (groupIn (g ++ o)) l).map .int), .tuple ((vecOf (groupIn (g ++ g)) l).map .int)]), .val (.tuple ((vecOf o l).map .int)), .non, .non, .non] K := by
  have hz : (sizeLine : Nat) = 16777216 := rfl
  have vg := vec_bound (g := g) (fun x hx => (hg.each x hx).1) hl
  have vo := vec_bound (g := o) (fun x hx => (ho.each x hx).1) hl
  simp [hz]
  refine prod_call vec_len vec_len vg vo ?_
  simp
  refine prod_call vec_len vec_len vg vg ?_
  simp [hz]
  refine same_call ?_ ((sh_list (k := 2) (n := 3 * 41) (m := 2) (vec2_sh hg ho hl) (by simp)).mono (by omega) (by omega)) (.inl ⟨_, rfl⟩) ?_
  · rw [vec_sum hg ho hl, vec_sum hg hg hl]
  · simp [hz]
    refine sh_rep (kept_sh hg hl) (.inl ⟨_, rfl⟩) ?_
    simp [str_shaped (kept_sh hg hl).ok]
    exact ⟨(kept_sh hg hl).ok, h⟩
end
end GSP
end

section
set_option Elab.async false
set_option linter.all false
set_option maxRecDepth 100000
set_option maxHeartbeats 2000000
set_option exponentiation.threshold 100
namespace GSP
open PySem PySem.Spec PyProof.Rows L2 GS

theorem moduli_prod : ∀ g : Group, prodI (moduli g) = sizeG g
  | [] => rfl
  | x :: g => by
    have ih := moduli_prod g
    rw [sizeG_eq] at ih ⊢
    have e : moduli (x :: g) = List.replicate x.2.toNat (order x.1) ++ moduli g := by simp [moduli]
    rw [e, prodI_append, ih, List.map_cons, prodI_cons]
    congr 1
    unfold wG
    induction x.2.toNat with
    | zero => simp [prodI]
    | succ n ih => rw [List.replicate_succ, prodI_cons, ih, Int.pow_succ, Int.mul_comm]
theorem fin_ms {g : Group} (h : FinG g) : GoodMs (moduli g) := by
  refine ⟨fun m hm => ?_, ?_⟩
  · obtain ⟨x, hx, hm⟩ := List.mem_flatMap.mp hm
    have e := List.eq_of_mem_replicate hm
    obtain ⟨p, n, hq, hp⟩ := (h.2.1 x hx).1
    rw [e, hq]
    simp only [List.mem_cons, List.not_mem_nil, or_false, Prod.mk.injEq] at hp
    rcases hp with ⟨rfl, rfl⟩ | ⟨rfl, rfl⟩ | ⟨rfl, rfl⟩ | ⟨rfl, rfl⟩ | ⟨rfl, rfl⟩ | ⟨rfl, rfl⟩ <;> decide
  · have e := foldl_prod (fun x : Int => x) (moduli g) 1
    have e2 : (moduli g).foldl (· * ·) 1 = prodI (moduli g) := by simpa using e
    rw [e2, moduli_prod]
    exact h.2.2.2.1
abbrev turnQ : WS := (wSeq q0 (wSeq q1 (wSeq q2 (wSeq q3 (wSeq q4 (wSeq q5 (wSeq q6 (wSeq q7 (wSeq q8 (wSeq q9 (wSeq q10 q11)))))))))))
section
variable {S : Slot} {K : DK}
theorem law_turn {s1 s3 s4 s5 s6 s7 s8 s9 s10 s11 s12 s13 s14 : Slot} {ct : Ct} {N : Nat} {t : D} (hs : SrcOk N ct) (hN : N ≤ 5000) (n3 : noRef s3 = true) (n4 : noRef s4 = true) (n5 : noRef s5 = true) (n6 : noRef s6 = true) (n7 : noRef s7 = true) (n8 : noRef s8 = true) (n9 : noRef s9 = true) (n10 : noRef s10 = true) (n11 : noRef s11 = true) (n12 : noRef s12 = true) (n13 : noRef s13 = true) (n14 : noRef s14 = true)
    (h : ∀ ct' s3 s4 s5 s6 s7 s8 s9 s10 s11 s12 s13 s14, SrcOk (N + 400) ct' → noRef s3 = true → noRef s4 = true → noRef s5 = true → noRef s6 = true → noRef s7 = true → noRef s8 = true → noRef s9 = true → noRef s10 = true → noRef s11 = true → noRef s12 = true → noRef s13 = true → noRef s14 = true → K.nx [S, s1, .own ct', s3, s4, s5, s6, s7, s8, s9, s10, s11, s12, s13, s14, .non, .non, .non]) : wgName 3 t [S, s1, .own ct, s3, s4, s5, s6, s7, s8, s9, s10, s11, s12, s13, s14, .non, .non, .non] fun Γ1 => turnQ Γ1 K := by
  simp only [x_gname, turnQ, x_seq]
  refine ⟨⟨by simp, by simpa using n3⟩, ?_⟩
  refine r0 (s3 := .val t) hs hN n4 n5 n6 n7 (fun g o s l ct' hg ho hf hl hs' => ?_)
  have og := hg.og
  have oo := ho.og
  have os := hf.og
  have hm := fin_ms hf
  refine r1 n8 og hl ?_
  refine r2 n9 og hl ?_
  refine r3 og hl ?_
  refine r4 n10 hf ?_
  refine r5 n11 hf hm (fun E hE => ?_)
  refine r6 n12 hf hm hl hE (fun E hE => ?_)
  refine r7 n13 og os hl ?_
  refine r8 og os hl ?_
  refine r9 n14 oo hl ?_
  refine r10 og oo hl ?_
  refine r11 og oo hl ?_
  exact h ct' _ _ _ _ _ _ _ _ _ _ _ _ hs' rfl rfl rfl rfl rfl rfl rfl rfl hE rfl rfl rfl
theorem law_turns {s1 : Slot} : ∀ (ts : List D) (s3 s4 s5 s6 s7 s8 s9 s10 s11 s12 s13 s14 : Slot) (ct : Ct) (N : Nat), SrcOk N ct → N + 400 * ts.length ≤ 5000 → noRef s3 = true → noRef s4 = true → noRef s5 = true → noRef s6 = true → noRef s7 = true → noRef s8 = true → noRef s9 = true → noRef s10 = true → noRef s11 = true → noRef s12 = true → noRef s13 = true → noRef s14 = true →
    (∀ ct' s3 s4 s5 s6 s7 s8 s9 s10 s11 s12 s13 s14, noRef s3 = true → noRef s4 = true → noRef s5 = true → noRef s6 = true → noRef s7 = true → noRef s8 = true → noRef s9 = true → noRef s10 = true → noRef s11 = true → noRef s12 = true → noRef s13 = true → noRef s14 = true → K.nx [S, s1, .own ct', s3, s4, s5, s6, s7, s8, s9, s10, s11, s12, s13, s14, .non, .non, .non]) → forW (wgName 3) turnQ K ts [S, s1, .own ct, s3, s4, s5, s6, s7, s8, s9, s10, s11, s12, s13, s14, .non, .non, .non]
  | [], s3, s4, s5, s6, s7, s8, s9, s10, s11, s12, s13, s14, ct, N, hs, hN, n3, n4, n5, n6, n7, n8, n9, n10, n11, n12, n13, n14, h => h ct s3 s4 s5 s6 s7 s8 s9 s10 s11 s12 s13 s14 n3 n4 n5 n6 n7 n8 n9 n10 n11 n12 n13 n14
  | t :: ts, s3, s4, s5, s6, s7, s8, s9, s10, s11, s12, s13, s14, ct, N, hs, hN, n3, n4, n5, n6, n7, n8, n9, n10, n11, n12, n13, n14, h => by
    simp only [List.length_cons] at hN
    simp only [forW]
    exact law_turn hs (by omega) n3 n4 n5 n6 n7 n8 n9 n10 n11 n12 n13 n14 (fun ct' s3 s4 s5 s6 s7 s8 s9 s10 s11 s12 s13 s14 hs' n3 n4 n5 n6 n7 n8 n9 n10 n11 n12 n13 n14 => law_turns ts s3 s4 s5 s6 s7 s8 s9 s10 s11 s12 s13 s14 ct' (N + 400) hs' (by omega) n3 n4 n5 n6 n7 n8 n9 n10 n11 n12 n13 n14 h)
end
abbrev lawB : WS := (wSeq (wSet 2 (wCall sp__law_source (wrVal (wVar 0) (wrVal (wVar 1) wrNil)))) (wFor (wiRng1 (wC (.int 3))) (wgName 3) turnQ))
theorem law_all {ns : List Int} {K : DK} : ∀ (n i : Nat) (s1 s2 s3 s4 s5 s6 s7 s8 s9 s10 s11 s12 s13 s14 : Slot), i + n ≤ 1000 → noRef s1 = true → noRef s2 = true → noRef s3 = true → noRef s4 = true → noRef s5 = true → noRef s6 = true → noRef s7 = true → noRef s8 = true → noRef s9 = true → noRef s10 = true → noRef s11 = true → noRef s12 = true → noRef s13 = true → noRef s14 = true →
    (∀ Γ, K.nx Γ) → forW (wgName 1) lawB K ((List.range' i n).map fun (j : Nat) => .int (j : Int)) [.val (.list (ns.map .int)), s1, s2, s3, s4, s5, s6, s7, s8, s9, s10, s11, s12, s13, s14, .non, .non, .non]
  | 0, i, s1, s2, s3, s4, s5, s6, s7, s8, s9, s10, s11, s12, s13, s14, hi, n1, n2, n3, n4, n5, n6, n7, n8, n9, n10, n11, n12, n13, n14, h => h _
  | n + 1, i, s1, s2, s3, s4, s5, s6, s7, s8, s9, s10, s11, s12, s13, s14, hi, n1, n2, n3, n4, n5, n6, n7, n8, n9, n10, n11, n12, n13, n14, h => by
    rw [List.range'_succ, List.map_cons]
    simp only [forW]
    have key := fun (ct : Ct) (hs : SrcOk 0 ct) => law_turns (S := .val (.list (ns.map .int))) (s1 := .val (.int (i : Int))) (K := { nx := forW (wgName 1) lawB K ((List.range' (i + 1) n).map fun (j : Nat) => .int (j : Int)), ct := forW (wgName 1) lawB K ((List.range' (i + 1) n).map fun (j : Nat) => .int (j : Int)), bk := K.nx, rt := K.rt }) (rngD 0 3) s3 s4 s5 s6 s7 s8 s9 s10 s11 s12 s13 s14 ct 0 hs (by simp [rngD]) n3 n4 n5 n6 n7 n8 n9 n10 n11 n12 n13 n14 (fun ct' s3 s4 s5 s6 s7 s8 s9 s10 s11 s12 s13 s14 n3 n4 n5 n6 n7 n8 n9 n10 n11 n12 n13 n14 => law_all n (i + 1) _ _ s3 s4 s5 s6 s7 s8 s9 s10 s11 s12 s13 s14 (by omega) rfl rfl n3 n4 n5 n6 n7 n8 n9 n10 n11 n12 n13 n14 h)
    generalize hgen : (turnQ : WS) = T at *
    simp [n1]
    refine ⟨ns, i, rfl, by omega, fun ct hs => ?_⟩
    have := key ct hs
    simp [n2]
    subst hgen
    exact this
theorem pure_law : Pure 1 18 sp_law w_law := by
  intro args W h
  obtain ⟨ns, rfl, h⟩ := h
  refine ⟨rfl, ?_⟩
  show wSeq (wFor (wiRng1 (w2 (wC (.int 1)) (w2 (wC (.int 4)) (w1 (wVar 0) lenW) min2W) max2W)) (wgName 1) lawB) (wRet (wC (.bool true))) _ _
  have key := fun n (hn : n ≤ 4) => law_all (ns := ns) (K := { nx := fun Γ1 => (wRet (wC (.bool true))) Γ1 (retK W []), bk := (retK W []).bk, ct := (retK W []).ct, rt := retW W [] }) n 0 .non .non .non .non .non .non .non .non .non .non .non .non .non .non (by omega) rfl rfl rfl rfl rfl rfl rfl rfl rfl rfl rfl rfl rfl rfl (fun Γ => by simpa using h)
  generalize hgen : (lawB : WS) = T at *
  simp [Γ0]
  refine ⟨by omega, ?_⟩
  have := key (max 1 (min 4 (ns.length : Int))).toNat (by omega)
  have e : rngD 0 (max 1 (min 4 (ns.length : Int))).toNat = (List.range' 0 (max 1 (min 4 (ns.length : Int))).toNat).map fun (j : Nat) => .int (j : Int) := by
    simp [rngD, List.range_eq_range']
  rw [← e] at this
  simpa using this
end GSP
end

section
set_option Elab.async false
set_option linter.all false
set_option maxRecDepth 100000
set_option maxHeartbeats 0
namespace GSP
open PySem PySem.Spec PyProof.Rows L2 GS
def freeNames : List Str := ["len", "abs", "int", "bool", "str", "tuple", "list", "isinstance", "all", "any", "range", "zip", "min", "max", "sum", "sorted", "repr", "dict", "set", "enumerate"]
structure Mg (mg : Str → Option Value) : Prop where
  f : ∀ x, x ∈ freeNames → mg x = none
  gcd : mg "gcd" = some (.builtin "math.gcd")
def top (i : Nat) : Stmt := PySem.Challenge.pw_groupsayings_k78_whole_vectors.main.body.getD i (.Pass ⟨0, 0, 0, 0⟩)

abbrev st_is_integer : Stmt := top 7
theorem nd_is_integer : N_is_integer.Nodup := by decide +kernel
theorem sc_is_integer : FnScope N_is_integer ["value"] (defScope st_is_integer) := ⟨rfl, rfl, rfl, nd_is_integer, rfl, by decide +kernel, by decide +kernel⟩
theorem walk_is_integer {P : Program} {w : World} {K : PySem.W.Frag} {mg : Str → Option Value} {base : Heap} {T : List Addr} {f : Addr} {fd : FuncData} (m : Mg mg) 
    {A : Around} {outer : List Env} {s : Shared} {H : Hp} {C : DC} (hK : (⟨K, w⟩ : KW) = C.K) (hT : C.T = T) (hr : Room 0 (A.deeper (envOfC "is_integer" (defScope st_is_integer) s.heap.objs.size f fd.code))) (hG : (A.deeper (envOfC "is_integer" (defScope st_is_integer) s.heap.objs.size f fd.code)).guards = some []) :
    PSs (cxOf CX0 P w K mg base N_is_integer "is_integer" (defScope st_is_integer) f fd.code A outer s H E0).nox (defBody st_is_integer) (tDS C w_is_integer) := by
  have nd : N_is_integer.Nodup := nd_is_integer
  exact (s_one (s_ret (d_and (d_isi .int hK rfl (m.f "isinstance" (by decide)) rfl (m.f "int" (by decide)) boot_int (by decide) rfl (by rfl) (d_var rfl (vis_of rfl) rfl rfl)) (d_one (d_not (d_isi .bool hK rfl (m.f "isinstance" (by decide)) rfl (m.f "bool" (by decide)) boot_bool (by decide) rfl (by rfl) (d_var rfl (vis_of rfl) rfl rfl)))))))

abbrev st_is_natural : Stmt := top 8
theorem nd_is_natural : N_is_natural.Nodup := by decide +kernel
theorem sc_is_natural : FnScope N_is_natural ["value"] (defScope st_is_natural) := ⟨rfl, rfl, rfl, nd_is_natural, rfl, by decide +kernel, by decide +kernel⟩
theorem walk_is_natural {P : Program} {w : World} {K : PySem.W.Frag} {mg : Str → Option Value} {base : Heap} {T : List Addr} {f : Addr} {fd : FuncData} (m : Mg mg) (k_is_integer : Known P w K mg base T "is_integer" 1 ["value"] sp_is_integer)
    {A : Around} {outer : List Env} {s : Shared} {H : Hp} {C : DC} (hK : (⟨K, w⟩ : KW) = C.K) (hT : C.T = T) (hr : Room 1 (A.deeper (envOfC "is_natural" (defScope st_is_natural) s.heap.objs.size f fd.code))) (hG : (A.deeper (envOfC "is_natural" (defScope st_is_natural) s.heap.objs.size f fd.code)).guards = some []) :
    PSs (cxOf CX0 P w K mg base N_is_natural "is_natural" (defScope st_is_natural) f fd.code A outer s H E0).nox (defBody st_is_natural) (tDS C w_is_natural) := by
  have nd : N_is_natural.Nodup := nd_is_natural
  exact (s_one (s_ret (d_and (d_callN k_is_integer hK hT hr (by decide) hG rfl rfl (by rfl) (by rfl) (r_val (by rfl) (d_var rfl (vis_of rfl) rfl rfl) r_nil)) (d_one (d_cmp .ge rfl hK hr (by rfl) (d_var rfl (vis_of rfl) rfl rfl) d_int)))))

abbrev st_are_integers : Stmt := top 9
theorem nd_are_integers : N_are_integers.Nodup := by decide +kernel
theorem sc_are_integers : FnScope N_are_integers ["value", "size"] (defScope st_are_integers) := ⟨rfl, rfl, rfl, nd_are_integers, rfl, by decide +kernel, by decide +kernel⟩
theorem walk_are_integers {P : Program} {w : World} {K : PySem.W.Frag} {mg : Str → Option Value} {base : Heap} {T : List Addr} {f : Addr} {fd : FuncData} (m : Mg mg) (k_is_integer : Known P w K mg base T "is_integer" 1 ["value"] sp_is_integer) {cc PP : Addr} (hcode : fd.code = .ref cc) (TB : GxR.TabB base mg cc PP) (hPT : PP ∈ T)
    {A : Around} {outer : List Env} {s : Shared} {H : Hp} {C : DC} (hK : (⟨K, w⟩ : KW) = C.K) (hT : C.T = T) (hr : Room 2 (A.deeper (envOfC "are_integers" (defScope st_are_integers) s.heap.objs.size f fd.code))) (hG : (A.deeper (envOfC "are_integers" (defScope st_are_integers) s.heap.objs.size f fd.code)).guards = some []) :
    PSs (cxOf CX0 P w K mg base N_are_integers "are_integers" (defScope st_are_integers) f fd.code A outer s H E0).nox (defBody st_are_integers) (tDS C w_are_integers) := by
  have nd : N_are_integers.Nodup := nd_are_integers
  have hP : PP ∈ C.T := by rw [hT]; exact hPT
  exact (s_one (s_ret (d_and (d_isi .tuple hK rfl (m.f "isinstance" (by decide)) rfl (m.f "tuple" (by decide)) boot_tuple (by decide) rfl (by rfl) (d_var rfl (vis_of rfl) rfl rfl)) (d_and (d_cmp .eq rfl hK hr (by rfl) (d_len hK rfl (m.f "len" (by decide)) (by rfl) (d_var rfl (vis_of rfl) rfl rfl)) (d_var rfl (vis_of rfl) rfl rfl)) (d_one (d_all (k := 1) (own := [("one", 2)]) hr rfl nd rfl (m.f "all" (by decide)) TB hcode ⟨blkOk_by (by rfl), (by rfl), (by decide +kernel), (by rfl)⟩ hP (by decide) (by rfl) (i_row hK (d_var rfl (vis_of rfl) rfl rfl)) (fun _ _ _ _ _ _ => (g_name nd rfl (loc_of rfl) (fn_of rfl))) (fun _ _ _ _ _ _ => (d_callN k_is_integer hK hT (room_gen (k := 1) hr _) (by decide) hG rfl rfl (by rfl) (by rfl) (r_val (by rfl) (d_var rfl (vis_of rfl) rfl rfl) r_nil)))))))))

abbrev st_is_ascending : Stmt := top 10
theorem nd_is_ascending : N_is_ascending.Nodup := by decide +kernel
theorem sc_is_ascending : FnScope N_is_ascending ["items"] (defScope st_is_ascending) := ⟨rfl, rfl, rfl, nd_is_ascending, rfl, by decide +kernel, by decide +kernel⟩
theorem walk_is_ascending {P : Program} {w : World} {K : PySem.W.Frag} {mg : Str → Option Value} {base : Heap} {T : List Addr} {f : Addr} {fd : FuncData} (m : Mg mg) {cc PP : Addr} (hcode : fd.code = .ref cc) (TB : GxR.TabB base mg cc PP) (hPT : PP ∈ T)
    {A : Around} {outer : List Env} {s : Shared} {H : Hp} {C : DC} (hK : (⟨K, w⟩ : KW) = C.K) (hT : C.T = T) (hr : Room 1 (A.deeper (envOfC "is_ascending" (defScope st_is_ascending) s.heap.objs.size f fd.code))) (hG : (A.deeper (envOfC "is_ascending" (defScope st_is_ascending) s.heap.objs.size f fd.code)).guards = some []) :
    PSs (cxOf CX0 P w K mg base N_is_ascending "is_ascending" (defScope st_is_ascending) f fd.code A outer s H E0).nox (defBody st_is_ascending) (tDS C w_is_ascending) := by
  have nd : N_is_ascending.Nodup := nd_is_ascending
  have hP : PP ∈ C.T := by rw [hT]; exact hPT
  exact (s_one (s_ret (d_all (k := 0) (own := [("one", 1), ("other", 2)]) hr rfl nd rfl (m.f "all" (by decide)) TB hcode ⟨blkOk_by (by rfl), (by rfl), (by decide +kernel), (by rfl)⟩ hP (by decide) (by rfl) (i_zip hK rfl (m.f "zip" (by decide)) (by rfl) (by rfl) (v_cons (by rfl) (d_var rfl (vis_of rfl) rfl rfl) (v_cons (by rfl) (d_slc hK (d_var rfl (vis_of rfl) rfl rfl) (o_some d_int) o_none) v_nil))) (fun _ _ _ _ _ _ => (g_tup hK rfl (gs_cons (g_name nd rfl (loc_of rfl) (fn_of rfl)) (gs_cons (g_name nd rfl (loc_of rfl) (fn_of rfl)) gs_nil (by rfl)) (by rfl)) (by rfl) (by rfl))) (fun _ _ _ _ _ _ => (d_cmp .lt rfl hK (room_gen (k := 0) hr _) (by rfl) (d_var rfl (vis_of rfl) rfl rfl) (d_var rfl (vis_of rfl) rfl rfl))))))

abbrev st_exponent_of : Stmt := top 12
theorem nd_exponent_of : N_exponent_of.Nodup := by decide +kernel
theorem sc_exponent_of : FnScope N_exponent_of ["p", "number"] (defScope st_exponent_of) := ⟨rfl, rfl, rfl, nd_exponent_of, rfl, by decide +kernel, by decide +kernel⟩
theorem walk_exponent_of {P : Program} {w : World} {K : PySem.W.Frag} {mg : Str → Option Value} {base : Heap} {T : List Addr} {f : Addr} {fd : FuncData} (m : Mg mg) 
    {A : Around} {outer : List Env} {s : Shared} {H : Hp} {C : DC} (hK : (⟨K, w⟩ : KW) = C.K) (hT : C.T = T) (hr : Room 0 (A.deeper (envOfC "exponent_of" (defScope st_exponent_of) s.heap.objs.size f fd.code))) (hG : (A.deeper (envOfC "exponent_of" (defScope st_exponent_of) s.heap.objs.size f fd.code)).guards = some []) :
    PSs (cxOf CX0 P w K mg base N_exponent_of "exponent_of" (defScope st_exponent_of) f fd.code A outer s H E0).nox (defBody st_exponent_of) (tDS C w_exponent_of) := by
  have nd : N_exponent_of.Nodup := nd_exponent_of
  exact (s_cons (s_par2 rfl nd rfl rfl (by decide) rfl rfl (p_cons (by rfl) d_int (p_cons (by rfl) (d_var rfl (vis_of rfl) rfl rfl) p_nil)) (by rfl) (by rfl))
  (s_cons (s_whl PassesOwn.never (d_tcmp .eq rfl hK hr (by rfl) (d_bin .mod rfl hK (d_var rfl (vis_of rfl) rfl rfl) (d_var rfl (vis_of rfl) rfl rfl)) d_int) (s_cons (s_aug ip_add nd rfl (loc_of rfl) (fn_of rfl) d_int)
  (s_one (s_set nd rfl (loc_of rfl) (fn_of rfl) (by rfl) (d_bin .fdiv rfl hK (d_var rfl (vis_of rfl) rfl rfl) (d_var rfl (vis_of rfl) rfl rfl))))))
  (s_one (s_ret (d_var rfl (vis_of rfl) rfl rfl)))))

abbrev st_prime_powers : Stmt := top 13
theorem nd_prime_powers : N_prime_powers.Nodup := by decide +kernel
theorem sc_prime_powers : FnScope N_prime_powers ["number"] (defScope st_prime_powers) := ⟨rfl, rfl, rfl, nd_prime_powers, rfl, by decide +kernel, by decide +kernel⟩
theorem walk_prime_powers {P : Program} {w : World} {K : PySem.W.Frag} {mg : Str → Option Value} {base : Heap} {T : List Addr} {f : Addr} {fd : FuncData} (m : Mg mg) (k_exponent_of : Known P w K mg base T "exponent_of" 1 ["p", "number"] sp_exponent_of)
    {A : Around} {outer : List Env} {s : Shared} {H : Hp} {C : DC} (hK : (⟨K, w⟩ : KW) = C.K) (hT : C.T = T) (hr : Room 1 (A.deeper (envOfC "prime_powers" (defScope st_prime_powers) s.heap.objs.size f fd.code))) (hG : (A.deeper (envOfC "prime_powers" (defScope st_prime_powers) s.heap.objs.size f fd.code)).guards = some []) :
    PSs (cxOf CX0 P w K mg base N_prime_powers "prime_powers" (defScope st_prime_powers) f fd.code A outer s H E0).nox (defBody st_prime_powers) (tDS C w_prime_powers) := by
  have nd : N_prime_powers.Nodup := nd_prime_powers
  exact (s_cons (s_par3 rfl nd rfl rfl rfl (by decide) (by decide) (by decide) rfl rfl rfl (p_cons (by rfl) (d_lst v_nil) (p_cons (by rfl) (d_var rfl (vis_of rfl) rfl rfl) (p_cons (by rfl) d_int p_nil))) (by rfl) (by rfl))
  (s_cons (s_whl PassesOwn.never (d_tcmp .le rfl hK hr (by rfl) (d_bin .mul rfl hK (d_var rfl (vis_of rfl) rfl rfl) (d_var rfl (vis_of rfl) rfl rfl)) (d_var rfl (vis_of rfl) rfl rfl)) (s_cons (s_if (d_tcmp .eq rfl hK hr (by rfl) (d_bin .mod rfl hK (d_var rfl (vis_of rfl) rfl rfl) (d_var rfl (vis_of rfl) rfl rfl)) d_int) (s_one (s_app rfl (vis_of rfl) rfl rfl (by rfl) (by rfl) (by rfl) (d_tup (v_cons (by rfl) (d_var rfl (vis_of rfl) rfl rfl) (v_cons (by rfl) (d_callN k_exponent_of hK hT hr (by decide) hG rfl rfl (by rfl) (by rfl) (r_val (by rfl) (d_var rfl (vis_of rfl) rfl rfl) (r_val (by rfl) (d_var rfl (vis_of rfl) rfl rfl) r_nil))) v_nil))))) s_nil)
  (s_cons (s_whl PassesOwn.never (d_tcmp .eq rfl hK hr (by rfl) (d_bin .mod rfl hK (d_var rfl (vis_of rfl) rfl rfl) (d_var rfl (vis_of rfl) rfl rfl)) d_int) (s_one (s_set nd rfl (loc_of rfl) (fn_of rfl) (by rfl) (d_bin .fdiv rfl hK (d_var rfl (vis_of rfl) rfl rfl) (d_var rfl (vis_of rfl) rfl rfl)))))
  (s_one (s_aug ip_add nd rfl (loc_of rfl) (fn_of rfl) d_int)))))
  (s_one (s_ret (d_ife (d_tcmp .gt rfl hK hr (by rfl) (d_var rfl (vis_of rfl) rfl rfl) d_int) (d_bin .add rfl hK (d_var rfl (vis_of rfl) rfl rfl) (d_lst (v_cons (by rfl) (d_tup (v_cons (by rfl) (d_var rfl (vis_of rfl) rfl rfl) (v_cons (by rfl) d_int v_nil))) v_nil))) (d_var rfl (vis_of rfl) rfl rfl))))))

abbrev st_is_prime : Stmt := top 14
theorem nd_is_prime : N_is_prime.Nodup := by decide +kernel
theorem sc_is_prime : FnScope N_is_prime ["number"] (defScope st_is_prime) := ⟨rfl, rfl, rfl, nd_is_prime, rfl, by decide +kernel, by decide +kernel⟩
theorem walk_is_prime {P : Program} {w : World} {K : PySem.W.Frag} {mg : Str → Option Value} {base : Heap} {T : List Addr} {f : Addr} {fd : FuncData} (m : Mg mg) (k_prime_powers : Known P w K mg base T "prime_powers" 2 ["number"] sp_prime_powers)
    {A : Around} {outer : List Env} {s : Shared} {H : Hp} {C : DC} (hK : (⟨K, w⟩ : KW) = C.K) (hT : C.T = T) (hr : Room 2 (A.deeper (envOfC "is_prime" (defScope st_is_prime) s.heap.objs.size f fd.code))) (hG : (A.deeper (envOfC "is_prime" (defScope st_is_prime) s.heap.objs.size f fd.code)).guards = some []) :
    PSs (cxOf CX0 P w K mg base N_is_prime "is_prime" (defScope st_is_prime) f fd.code A outer s H E0).nox (defBody st_is_prime) (tDS C w_is_prime) := by
  have nd : N_is_prime.Nodup := nd_is_prime
  exact (s_one (s_ret (d_and (d_cmp .gt rfl hK hr (by rfl) (d_var rfl (vis_of rfl) rfl rfl) d_int) (d_one (d_cmp .eq rfl hK hr (by rfl) (d_callN k_prime_powers hK hT hr (by decide) hG rfl rfl (by rfl) (by rfl) (r_val (by rfl) (d_var rfl (vis_of rfl) rfl rfl) r_nil)) (d_lst (v_cons (by rfl) (d_tup (v_cons (by rfl) (d_var rfl (vis_of rfl) rfl rfl) (v_cons (by rfl) d_int v_nil))) v_nil)))))))

abbrev st_is_a_prime : Stmt := top 19
theorem nd_is_a_prime : N_is_a_prime.Nodup := by decide +kernel
theorem sc_is_a_prime : FnScope N_is_a_prime ["value"] (defScope st_is_a_prime) := ⟨rfl, rfl, rfl, nd_is_a_prime, rfl, by decide +kernel, by decide +kernel⟩
theorem walk_is_a_prime {P : Program} {w : World} {K : PySem.W.Frag} {mg : Str → Option Value} {base : Heap} {T : List Addr} {f : Addr} {fd : FuncData} (m : Mg mg) (k_is_integer : Known P w K mg base T "is_integer" 1 ["value"] sp_is_integer) (k_is_prime : Known P w K mg base T "is_prime" 3 ["number"] sp_is_prime)
    {A : Around} {outer : List Env} {s : Shared} {H : Hp} {C : DC} (hK : (⟨K, w⟩ : KW) = C.K) (hT : C.T = T) (hr : Room 3 (A.deeper (envOfC "is_a_prime" (defScope st_is_a_prime) s.heap.objs.size f fd.code))) (hG : (A.deeper (envOfC "is_a_prime" (defScope st_is_a_prime) s.heap.objs.size f fd.code)).guards = some []) :
    PSs (cxOf CX0 P w K mg base N_is_a_prime "is_a_prime" (defScope st_is_a_prime) f fd.code A outer s H E0).nox (defBody st_is_a_prime) (tDS C w_is_a_prime) := by
  have nd : N_is_a_prime.Nodup := nd_is_a_prime
  exact (s_one (s_ret (d_and (d_callN k_is_integer hK hT hr (by decide) hG rfl rfl (by rfl) (by rfl) (r_val (by rfl) (d_var rfl (vis_of rfl) rfl rfl) r_nil)) (d_one (d_callN k_is_prime hK hT hr (by decide) hG rfl rfl (by rfl) (by rfl) (r_val (by rfl) (d_var rfl (vis_of rfl) rfl rfl) r_nil))))))

abbrev st_is_part_in : Stmt := top 20
theorem nd_is_part_in : N_is_part_in.Nodup := by decide +kernel
theorem sc_is_part_in : FnScope N_is_part_in ["value"] (defScope st_is_part_in) := ⟨rfl, rfl, rfl, nd_is_part_in, rfl, by decide +kernel, by decide +kernel⟩
theorem walk_is_part_in {P : Program} {w : World} {K : PySem.W.Frag} {mg : Str → Option Value} {base : Heap} {T : List Addr} {f : Addr} {fd : FuncData} (m : Mg mg) (k_is_a_prime : Known P w K mg base T "is_a_prime" 4 ["value"] sp_is_a_prime) (k_is_integer : Known P w K mg base T "is_integer" 1 ["value"] sp_is_integer) (c_BY_PRIME : Const mg K "BY_PRIME" (.tuple [.str "apart", .str "deep"])) (c_WHOLE : Const mg K "WHOLE" (.tuple [.str "line", .str "all"]))
    {A : Around} {outer : List Env} {s : Shared} {H : Hp} {C : DC} (hK : (⟨K, w⟩ : KW) = C.K) (hT : C.T = T) (hr : Room 4 (A.deeper (envOfC "is_part_in" (defScope st_is_part_in) s.heap.objs.size f fd.code))) (hG : (A.deeper (envOfC "is_part_in" (defScope st_is_part_in) s.heap.objs.size f fd.code)).guards = some []) :
    PSs (cxOf CX0 P w K mg base N_is_part_in "is_part_in" (defScope st_is_part_in) f fd.code A outer s H E0).nox (defBody st_is_part_in) (tDS C w_is_part_in) := by
  have nd : N_is_part_in.Nodup := nd_is_part_in
  exact (s_cons (s_if (PW.pt (d_wor (d_tnot (d_ttru hK (by rfl) (d_isi .tuple hK rfl (m.f "isinstance" (by decide)) rfl (m.f "tuple" (by decide)) boot_tuple (by decide) rfl (by rfl) (d_var rfl (vis_of rfl) rfl rfl)))) (d_wor (d_tcmp .eq rfl hK hr (by rfl) (d_len hK rfl (m.f "len" (by decide)) (by rfl) (d_var rfl (vis_of rfl) rfl rfl)) d_int) (d_wor1 (d_tnot (d_ttru hK (by rfl) (d_isi .str hK rfl (m.f "isinstance" (by decide)) rfl (m.f "str" (by decide)) boot_str (by decide) rfl (by rfl) (d_idx hK hr (by rfl) (d_var rfl (vis_of rfl) rfl rfl) d_int)))))))) (s_one (s_ret d_bl)) s_nil)
  (s_cons (s_if (d_tcmp .inn rfl hK hr (by rfl) (d_idx hK hr (by rfl) (d_var rfl (vis_of rfl) rfl rfl) d_int) (d_const c_WHOLE hK rfl rfl)) (s_one (s_ret (d_cmp .eq rfl hK hr (by rfl) (d_len hK rfl (m.f "len" (by decide)) (by rfl) (d_var rfl (vis_of rfl) rfl rfl)) d_int))) s_nil)
  (s_cons (s_if (d_tcmp .inn rfl hK hr (by rfl) (d_idx hK hr (by rfl) (d_var rfl (vis_of rfl) rfl rfl) d_int) (d_const c_BY_PRIME hK rfl rfl)) (s_one (s_ret (d_and (d_cmp .eq rfl hK hr (by rfl) (d_len hK rfl (m.f "len" (by decide)) (by rfl) (d_var rfl (vis_of rfl) rfl rfl)) d_int) (d_one (d_callN k_is_a_prime hK hT hr (by decide) hG rfl rfl (by rfl) (by rfl) (r_val (by rfl) (d_idx hK hr (by rfl) (d_var rfl (vis_of rfl) rfl rfl) d_int) r_nil)))))) s_nil)
  (s_one (s_ret (d_and (d_cmp .eq rfl hK hr (by rfl) (d_idx hK hr (by rfl) (d_var rfl (vis_of rfl) rfl rfl) d_int) d_str) (d_and (d_cmp .eq rfl hK hr (by rfl) (d_len hK rfl (m.f "len" (by decide)) (by rfl) (d_var rfl (vis_of rfl) rfl rfl)) d_int) (d_and (d_callN k_is_a_prime hK hT hr (by decide) hG rfl rfl (by rfl) (by rfl) (r_val (by rfl) (d_idx hK hr (by rfl) (d_var rfl (vis_of rfl) rfl rfl) d_int) r_nil)) (d_and (d_callN k_is_integer hK hT hr (by decide) hG rfl rfl (by rfl) (by rfl) (r_val (by rfl) (d_idx hK hr (by rfl) (d_var rfl (vis_of rfl) rfl rfl) d_int) r_nil)) (d_one (d_cmp .gt rfl hK hr (by rfl) (d_idx hK hr (by rfl) (d_var rfl (vis_of rfl) rfl rfl) d_int) d_int)))))))))))

abbrev st_is_counted : Stmt := top 21
theorem nd_is_counted : N_is_counted.Nodup := by decide +kernel
theorem sc_is_counted : FnScope N_is_counted ["value"] (defScope st_is_counted) := ⟨rfl, rfl, rfl, nd_is_counted, rfl, by decide +kernel, by decide +kernel⟩
theorem walk_is_counted {P : Program} {w : World} {K : PySem.W.Frag} {mg : Str → Option Value} {base : Heap} {T : List Addr} {f : Addr} {fd : FuncData} (m : Mg mg) (k_is_integer : Known P w K mg base T "is_integer" 1 ["value"] sp_is_integer) (k_is_part_in : Known P w K mg base T "is_part_in" 5 ["value"] sp_is_part_in) (c_EVER : Const mg K "EVER" (.int (-1)))
    {A : Around} {outer : List Env} {s : Shared} {H : Hp} {C : DC} (hK : (⟨K, w⟩ : KW) = C.K) (hT : C.T = T) (hr : Room 5 (A.deeper (envOfC "is_counted" (defScope st_is_counted) s.heap.objs.size f fd.code))) (hG : (A.deeper (envOfC "is_counted" (defScope st_is_counted) s.heap.objs.size f fd.code)).guards = some []) :
    PSs (cxOf CX0 P w K mg base N_is_counted "is_counted" (defScope st_is_counted) f fd.code A outer s H E0).nox (defBody st_is_counted) (tDS C w_is_counted) := by
  have nd : N_is_counted.Nodup := nd_is_counted
  exact (s_cons (s_if (PW.pt (d_wor (d_tnot (d_ttru hK (by rfl) (d_isi .tuple hK rfl (m.f "isinstance" (by decide)) rfl (m.f "tuple" (by decide)) boot_tuple (by decide) rfl (by rfl) (d_var rfl (vis_of rfl) rfl rfl)))) (d_wor (d_tcmp .ne rfl hK hr (by rfl) (d_len hK rfl (m.f "len" (by decide)) (by rfl) (d_var rfl (vis_of rfl) rfl rfl)) d_int) (d_wor (d_tnot (d_ttru hK (by rfl) (d_callN k_is_part_in hK hT hr (by decide) hG rfl rfl (by rfl) (by rfl) (r_val (by rfl) (d_idx hK hr (by rfl) (d_var rfl (vis_of rfl) rfl rfl) d_int) r_nil)))) (d_wor1 (d_tnot (d_ttru hK (by rfl) (d_callN k_is_integer hK hT hr (by decide) hG rfl rfl (by rfl) (by rfl) (r_val (by rfl) (d_idx hK hr (by rfl) (d_var rfl (vis_of rfl) rfl rfl) d_int) r_nil))))))))) (s_one (s_ret d_bl)) s_nil)
  (s_one (s_ret (d_or (d_cmp .gt rfl hK hr (by rfl) (d_idx hK hr (by rfl) (d_var rfl (vis_of rfl) rfl rfl) d_int) d_int) (d_one (d_cmp .eq rfl hK hr (by rfl) (d_idx hK hr (by rfl) (d_var rfl (vis_of rfl) rfl rfl) d_int) (d_const c_EVER hK rfl rfl)))))))

abbrev st_is_group_in : Stmt := top 22
theorem nd_is_group_in : N_is_group_in.Nodup := by decide +kernel
theorem sc_is_group_in : FnScope N_is_group_in ["value"] (defScope st_is_group_in) := ⟨rfl, rfl, rfl, nd_is_group_in, rfl, by decide +kernel, by decide +kernel⟩
theorem walk_is_group_in {P : Program} {w : World} {K : PySem.W.Frag} {mg : Str → Option Value} {base : Heap} {T : List Addr} {f : Addr} {fd : FuncData} (m : Mg mg) (k_is_ascending : Known P w K mg base T "is_ascending" 2 ["items"] sp_is_ascending) (k_is_counted : Known P w K mg base T "is_counted" 6 ["value"] sp_is_counted) {cc PP : Addr} (hcode : fd.code = .ref cc) (TB : GxR.TabB base mg cc PP) (hPT : PP ∈ T)
    {A : Around} {outer : List Env} {s : Shared} {H : Hp} {C : DC} (hK : (⟨K, w⟩ : KW) = C.K) (hT : C.T = T) (hr : Room 7 (A.deeper (envOfC "is_group_in" (defScope st_is_group_in) s.heap.objs.size f fd.code))) (hG : (A.deeper (envOfC "is_group_in" (defScope st_is_group_in) s.heap.objs.size f fd.code)).guards = some []) :
    PSs (cxOf CX0 P w K mg base N_is_group_in "is_group_in" (defScope st_is_group_in) f fd.code A outer s H E0).nox (defBody st_is_group_in) (tDS C w_is_group_in) := by
  have nd : N_is_group_in.Nodup := nd_is_group_in
  have hP : PP ∈ C.T := by rw [hT]; exact hPT
  exact (s_cons (s_if (PW.pt (d_wor (d_tnot (d_ttru hK (by rfl) (d_isi .tuple hK rfl (m.f "isinstance" (by decide)) rfl (m.f "tuple" (by decide)) boot_tuple (by decide) rfl (by rfl) (d_var rfl (vis_of rfl) rfl rfl)))) (d_wor1 (d_tnot (d_ttru hK (by rfl) (d_all (k := 6) (own := [("pair", 1)]) hr rfl nd rfl (m.f "all" (by decide)) TB hcode ⟨blkOk_by (by rfl), (by rfl), (by decide +kernel), (by rfl)⟩ hP (by decide) (by rfl) (i_row hK (d_var rfl (vis_of rfl) rfl rfl)) (fun _ _ _ _ _ _ => (g_name nd rfl (loc_of rfl) (fn_of rfl))) (fun _ _ _ _ _ _ => (d_callN k_is_counted hK hT (room_gen (k := 6) hr _) (by decide) hG rfl rfl (by rfl) (by rfl) (r_val (by rfl) (d_var rfl (vis_of rfl) rfl rfl) r_nil))))))))) (s_one (s_ret d_bl)) s_nil)
  (s_one (s_ret (d_callN k_is_ascending hK hT hr (by decide) hG rfl rfl (by rfl) (by rfl) (r_val (by rfl) (d_lc (own := [("part", 2), ("_", 3)]) rfl nd (by decide) (by rfl) (i_row hK (d_var rfl (vis_of rfl) rfl rfl)) (blkOk_by (by rfl)) (fun _ _ _ _ _ => (g_tup hK rfl (gs_cons (g_name nd rfl (loc_of rfl) (fn_of rfl)) (gs_cons (g_name nd rfl (loc_of rfl) (fn_of rfl)) gs_nil (by rfl)) (by rfl)) (by rfl) (by rfl))) (fun _ _ _ _ _ => ts_nil) (fun _ _ _ _ _ => (d_var rfl (vis_of rfl) rfl rfl))) r_nil)))))

abbrev st_check_group : Stmt := top 23
theorem nd_check_group : N_check_group.Nodup := by decide +kernel
theorem sc_check_group : FnScope N_check_group ["group"] (defScope st_check_group) := ⟨rfl, rfl, rfl, nd_check_group, rfl, by decide +kernel, by decide +kernel⟩
theorem walk_check_group {P : Program} {w : World} {K : PySem.W.Frag} {mg : Str → Option Value} {base : Heap} {T : List Addr} {f : Addr} {fd : FuncData} (m : Mg mg) (k_is_group_in : Known P w K mg base T "is_group_in" 8 ["value"] sp_is_group_in)
    {A : Around} {outer : List Env} {s : Shared} {H : Hp} {C : DC} (hK : (⟨K, w⟩ : KW) = C.K) (hT : C.T = T) (hr : Room 8 (A.deeper (envOfC "check_group" (defScope st_check_group) s.heap.objs.size f fd.code))) (hG : (A.deeper (envOfC "check_group" (defScope st_check_group) s.heap.objs.size f fd.code)).guards = some []) :
    PSs (cxOf CX0 P w K mg base N_check_group "check_group" (defScope st_check_group) f fd.code A outer s H E0).nox (defBody st_check_group) (tDS C w_check_group) := by
  have nd : N_check_group.Nodup := nd_check_group
  exact (s_one (s_if (d_tnot (d_ttru hK (by rfl) (d_callN k_is_group_in hK hT hr (by decide) hG rfl rfl (by rfl) (by rfl) (r_val (by rfl) (d_var rfl (vis_of rfl) rfl rfl) r_nil)))) (s_one s_never) s_nil))

abbrev st_counted : Stmt := top 24
theorem nd_counted : N_counted.Nodup := by decide +kernel
theorem sc_counted : FnScope N_counted ["one", "other"] (defScope st_counted) := ⟨rfl, rfl, rfl, nd_counted, rfl, by decide +kernel, by decide +kernel⟩
theorem walk_counted {P : Program} {w : World} {K : PySem.W.Frag} {mg : Str → Option Value} {base : Heap} {T : List Addr} {f : Addr} {fd : FuncData} (m : Mg mg) (c_EVER : Const mg K "EVER" (.int (-1)))
    {A : Around} {outer : List Env} {s : Shared} {H : Hp} {C : DC} (hK : (⟨K, w⟩ : KW) = C.K) (hT : C.T = T) (hr : Room 0 (A.deeper (envOfC "counted" (defScope st_counted) s.heap.objs.size f fd.code))) (hG : (A.deeper (envOfC "counted" (defScope st_counted) s.heap.objs.size f fd.code)).guards = some []) :
    PSs (cxOf CX0 P w K mg base N_counted "counted" (defScope st_counted) f fd.code A outer s H E0).nox (defBody st_counted) (tDS C w_counted) := by
  have nd : N_counted.Nodup := nd_counted
  exact (s_one (s_ret (d_ife (d_tcmp .inn rfl hK hr (by rfl) (d_const c_EVER hK rfl rfl) (d_tup (v_cons (by rfl) (d_var rfl (vis_of rfl) rfl rfl) (v_cons (by rfl) (d_var rfl (vis_of rfl) rfl rfl) v_nil)))) (d_const c_EVER hK rfl rfl) (d_bin .add rfl hK (d_var rfl (vis_of rfl) rfl rfl) (d_var rfl (vis_of rfl) rfl rfl)))))

abbrev st_group_in : Stmt := top 25
theorem nd_group_in : N_group_in.Nodup := by decide +kernel
theorem sc_group_in : FnScope N_group_in ["pairs"] (defScope st_group_in) := ⟨rfl, rfl, rfl, nd_group_in, rfl, by decide +kernel, by decide +kernel⟩
theorem walk_group_in {P : Program} {w : World} {K : PySem.W.Frag} {mg : Str → Option Value} {base : Heap} {T : List Addr} {f : Addr} {fd : FuncData} (m : Mg mg) (k_counted : Known P w K mg base T "counted" 1 ["one", "other"] sp_counted)
    {A : Around} {outer : List Env} {s : Shared} {H : Hp} {C : DC} (hK : (⟨K, w⟩ : KW) = C.K) (hT : C.T = T) (hr : Room 1 (A.deeper (envOfC "group_in" (defScope st_group_in) s.heap.objs.size f fd.code))) (hG : (A.deeper (envOfC "group_in" (defScope st_group_in) s.heap.objs.size f fd.code)).guards = some []) :
    PSs (cxOf CX0 P w K mg base N_group_in "group_in" (defScope st_group_in) f fd.code A outer s H E0).nox (defBody st_group_in) (tDS C w_group_in) := by
  have nd : N_group_in.Nodup := nd_group_in
  exact (s_cons (s_set nd rfl (loc_of rfl) (fn_of rfl) (by rfl) d_dnew)
  (s_cons (s_for PassesOwn.never rfl (by rfl) (i_row hK (d_var rfl (vis_of rfl) rfl rfl)) (g_tup hK rfl (gs_cons (g_name nd rfl (loc_of rfl) (fn_of rfl)) (gs_cons (g_name nd rfl (loc_of rfl) (fn_of rfl)) gs_nil (by rfl)) (by rfl)) (by rfl) (by rfl)) (s_one (s_put (j := 1) hK hr rfl (vis_of rfl) rfl rfl (by rfl) (d_var rfl (vis_of rfl) rfl rfl) (d_ife (d_tcmp .inn rfl hK hr (by rfl) (d_var rfl (vis_of rfl) rfl rfl) (d_var rfl (vis_of rfl) rfl rfl)) (d_callN k_counted hK hT hr (by decide) hG rfl rfl (by rfl) (by rfl) (r_val (by rfl) (d_idx hK hr (by rfl) (d_var rfl (vis_of rfl) rfl rfl) (d_var rfl (vis_of rfl) rfl rfl)) (r_val (by rfl) (d_var rfl (vis_of rfl) rfl rfl) r_nil))) (d_var rfl (vis_of rfl) rfl rfl)))))
  (s_one (s_ret (d_totup hK rfl (m.f "tuple" (by decide)) (by rfl) (d_sitems hK hr rfl rfl (vis_of rfl) rfl rfl (by rfl) (by rfl) rfl (m.f "sorted" (by decide))))))))

abbrev st_sum_of : Stmt := top 26
theorem nd_sum_of : N_sum_of.Nodup := by decide +kernel
theorem sc_sum_of : FnScope N_sum_of ["one", "other"] (defScope st_sum_of) := ⟨rfl, rfl, rfl, nd_sum_of, rfl, by decide +kernel, by decide +kernel⟩
theorem walk_sum_of {P : Program} {w : World} {K : PySem.W.Frag} {mg : Str → Option Value} {base : Heap} {T : List Addr} {f : Addr} {fd : FuncData} (m : Mg mg) (k_check_group : Known P w K mg base T "check_group" 9 ["group"] sp_check_group) (k_group_in : Known P w K mg base T "group_in" 2 ["pairs"] sp_group_in)
    {A : Around} {outer : List Env} {s : Shared} {H : Hp} {C : DC} (hK : (⟨K, w⟩ : KW) = C.K) (hT : C.T = T) (hr : Room 9 (A.deeper (envOfC "sum_of" (defScope st_sum_of) s.heap.objs.size f fd.code))) (hG : (A.deeper (envOfC "sum_of" (defScope st_sum_of) s.heap.objs.size f fd.code)).guards = some []) :
    PSs (cxOf CX0 P w K mg base N_sum_of "sum_of" (defScope st_sum_of) f fd.code A outer s H E0).nox (defBody st_sum_of) (tDS C w_sum_of) := by
  have nd : N_sum_of.Nodup := nd_sum_of
  exact (s_cons (s_drop (by rfl) (d_callN k_check_group hK hT hr (by decide) hG rfl rfl (by rfl) (by rfl) (r_val (by rfl) (d_var rfl (vis_of rfl) rfl rfl) r_nil)))
  (s_cons (s_drop (by rfl) (d_callN k_check_group hK hT hr (by decide) hG rfl rfl (by rfl) (by rfl) (r_val (by rfl) (d_var rfl (vis_of rfl) rfl rfl) r_nil)))
  (s_one (s_ret (d_callN k_group_in hK hT hr (by decide) hG rfl rfl (by rfl) (by rfl) (r_val (by rfl) (d_bin .add rfl hK (d_var rfl (vis_of rfl) rfl rfl) (d_var rfl (vis_of rfl) rfl rfl)) r_nil))))))

abbrev st_is_row_in : Stmt := top 28
theorem nd_is_row_in : N_is_row_in.Nodup := by decide +kernel
theorem sc_is_row_in : FnScope N_is_row_in ["n", "value"] (defScope st_is_row_in) := ⟨rfl, rfl, rfl, nd_is_row_in, rfl, by decide +kernel, by decide +kernel⟩
theorem walk_is_row_in {P : Program} {w : World} {K : PySem.W.Frag} {mg : Str → Option Value} {base : Heap} {T : List Addr} {f : Addr} {fd : FuncData} (m : Mg mg) (k_are_integers : Known P w K mg base T "are_integers" 3 ["value", "size"] sp_are_integers) (k_is_natural : Known P w K mg base T "is_natural" 2 ["value"] sp_is_natural)
    {A : Around} {outer : List Env} {s : Shared} {H : Hp} {C : DC} (hK : (⟨K, w⟩ : KW) = C.K) (hT : C.T = T) (hr : Room 3 (A.deeper (envOfC "is_row_in" (defScope st_is_row_in) s.heap.objs.size f fd.code))) (hG : (A.deeper (envOfC "is_row_in" (defScope st_is_row_in) s.heap.objs.size f fd.code)).guards = some []) :
    PSs (cxOf CX0 P w K mg base N_is_row_in "is_row_in" (defScope st_is_row_in) f fd.code A outer s H E0).nox (defBody st_is_row_in) (tDS C w_is_row_in) := by
  have nd : N_is_row_in.Nodup := nd_is_row_in
  exact (s_one (s_ret (d_and (d_isi .tuple hK rfl (m.f "isinstance" (by decide)) rfl (m.f "tuple" (by decide)) boot_tuple (by decide) rfl (by rfl) (d_var rfl (vis_of rfl) rfl rfl)) (d_and (d_cmp .eq rfl hK hr (by rfl) (d_len hK rfl (m.f "len" (by decide)) (by rfl) (d_var rfl (vis_of rfl) rfl rfl)) d_int) (d_and (d_callN k_is_natural hK hT hr (by decide) hG rfl rfl (by rfl) (by rfl) (r_val (by rfl) (d_idx hK hr (by rfl) (d_var rfl (vis_of rfl) rfl rfl) d_int) r_nil)) (d_one (d_callN k_are_integers hK hT hr (by decide) hG rfl rfl (by rfl) (by rfl) (r_val (by rfl) (d_idx hK hr (by rfl) (d_var rfl (vis_of rfl) rfl rfl) d_int) (r_val (by rfl) (d_var rfl (vis_of rfl) rfl rfl) r_nil)))))))))

abbrev st_is_lot_in : Stmt := top 29
theorem nd_is_lot_in : N_is_lot_in.Nodup := by decide +kernel
theorem sc_is_lot_in : FnScope N_is_lot_in ["n", "value"] (defScope st_is_lot_in) := ⟨rfl, rfl, rfl, nd_is_lot_in, rfl, by decide +kernel, by decide +kernel⟩
theorem walk_is_lot_in {P : Program} {w : World} {K : PySem.W.Frag} {mg : Str → Option Value} {base : Heap} {T : List Addr} {f : Addr} {fd : FuncData} (m : Mg mg) (k_is_row_in : Known P w K mg base T "is_row_in" 4 ["n", "value"] sp_is_row_in) {cc PP : Addr} (hcode : fd.code = .ref cc) (TB : GxR.TabB base mg cc PP) (hPT : PP ∈ T)
    {A : Around} {outer : List Env} {s : Shared} {H : Hp} {C : DC} (hK : (⟨K, w⟩ : KW) = C.K) (hT : C.T = T) (hr : Room 5 (A.deeper (envOfC "is_lot_in" (defScope st_is_lot_in) s.heap.objs.size f fd.code))) (hG : (A.deeper (envOfC "is_lot_in" (defScope st_is_lot_in) s.heap.objs.size f fd.code)).guards = some []) :
    PSs (cxOf CX0 P w K mg base N_is_lot_in "is_lot_in" (defScope st_is_lot_in) f fd.code A outer s H E0).nox (defBody st_is_lot_in) (tDS C w_is_lot_in) := by
  have nd : N_is_lot_in.Nodup := nd_is_lot_in
  have hP : PP ∈ C.T := by rw [hT]; exact hPT
  exact (s_one (s_ret (d_and (d_isi .tuple hK rfl (m.f "isinstance" (by decide)) rfl (m.f "tuple" (by decide)) boot_tuple (by decide) rfl (by rfl) (d_var rfl (vis_of rfl) rfl rfl)) (d_one (d_all (k := 4) (own := [("row", 2)]) hr rfl nd rfl (m.f "all" (by decide)) TB hcode ⟨blkOk_by (by rfl), (by rfl), (by decide +kernel), (by rfl)⟩ hP (by decide) (by rfl) (i_row hK (d_var rfl (vis_of rfl) rfl rfl)) (fun _ _ _ _ _ _ => (g_name nd rfl (loc_of rfl) (fn_of rfl))) (fun _ _ _ _ _ _ => (d_callN k_is_row_in hK hT (room_gen (k := 4) hr _) (by decide) hG rfl rfl (by rfl) (by rfl) (r_val (by rfl) (d_var rfl (vis_of rfl) rfl rfl) (r_val (by rfl) (d_var rfl (vis_of rfl) rfl rfl) r_nil)))))))))

abbrev st_check_lot : Stmt := top 30
theorem nd_check_lot : N_check_lot.Nodup := by decide +kernel
theorem sc_check_lot : FnScope N_check_lot ["n", "lot"] (defScope st_check_lot) := ⟨rfl, rfl, rfl, nd_check_lot, rfl, by decide +kernel, by decide +kernel⟩
theorem walk_check_lot {P : Program} {w : World} {K : PySem.W.Frag} {mg : Str → Option Value} {base : Heap} {T : List Addr} {f : Addr} {fd : FuncData} (m : Mg mg) (k_is_lot_in : Known P w K mg base T "is_lot_in" 6 ["n", "value"] sp_is_lot_in)
    {A : Around} {outer : List Env} {s : Shared} {H : Hp} {C : DC} (hK : (⟨K, w⟩ : KW) = C.K) (hT : C.T = T) (hr : Room 6 (A.deeper (envOfC "check_lot" (defScope st_check_lot) s.heap.objs.size f fd.code))) (hG : (A.deeper (envOfC "check_lot" (defScope st_check_lot) s.heap.objs.size f fd.code)).guards = some []) :
    PSs (cxOf CX0 P w K mg base N_check_lot "check_lot" (defScope st_check_lot) f fd.code A outer s H E0).nox (defBody st_check_lot) (tDS C w_check_lot) := by
  have nd : N_check_lot.Nodup := nd_check_lot
  exact (s_one (s_if (d_tnot (d_ttru hK (by rfl) (d_callN k_is_lot_in hK hT hr (by decide) hG rfl rfl (by rfl) (by rfl) (r_val (by rfl) (d_var rfl (vis_of rfl) rfl rfl) (r_val (by rfl) (d_var rfl (vis_of rfl) rfl rfl) r_nil))))) (s_one s_never) s_nil))

abbrev st_raised : Stmt := top 31
theorem nd_raised : N_raised.Nodup := by decide +kernel
theorem sc_raised : FnScope N_raised ["p", "many"] (defScope st_raised) := ⟨rfl, rfl, rfl, nd_raised, rfl, by decide +kernel, by decide +kernel⟩
theorem walk_raised {P : Program} {w : World} {K : PySem.W.Frag} {mg : Str → Option Value} {base : Heap} {T : List Addr} {f : Addr} {fd : FuncData} (m : Mg mg) 
    {A : Around} {outer : List Env} {s : Shared} {H : Hp} {C : DC} (hK : (⟨K, w⟩ : KW) = C.K) (hT : C.T = T) (hr : Room 0 (A.deeper (envOfC "raised" (defScope st_raised) s.heap.objs.size f fd.code))) (hG : (A.deeper (envOfC "raised" (defScope st_raised) s.heap.objs.size f fd.code)).guards = some []) :
    PSs (cxOf CX0 P w K mg base N_raised "raised" (defScope st_raised) f fd.code A outer s H E0).nox (defBody st_raised) (tDS C w_raised) := by
  have nd : N_raised.Nodup := nd_raised
  exact (s_cons (s_set nd rfl (loc_of rfl) (fn_of rfl) (by rfl) d_int)
  (s_cons (s_for PassesOwn.never rfl (by rfl) (i_rng1 rfl (m.f "range" (by decide)) (by rfl) (d_var rfl (vis_of rfl) rfl rfl)) (g_name nd rfl (loc_of rfl) (fn_of rfl)) (s_one (s_set nd rfl (loc_of rfl) (fn_of rfl) (by rfl) (d_bin .mul rfl hK (d_var rfl (vis_of rfl) rfl rfl) (d_var rfl (vis_of rfl) rfl rfl)))))
  (s_one (s_ret (d_var rfl (vis_of rfl) rfl rfl)))))

abbrev st_makes_zero : Stmt := top 33
theorem nd_makes_zero : N_makes_zero.Nodup := by decide +kernel
theorem sc_makes_zero : FnScope N_makes_zero ["lot"] (defScope st_makes_zero) := ⟨rfl, rfl, rfl, nd_makes_zero, rfl, by decide +kernel, by decide +kernel⟩
theorem walk_makes_zero {P : Program} {w : World} {K : PySem.W.Frag} {mg : Str → Option Value} {base : Heap} {T : List Addr} {f : Addr} {fd : FuncData} (m : Mg mg) {cc PP : Addr} (hcode : fd.code = .ref cc) (TB : GxR.TabB base mg cc PP) (hPT : PP ∈ T)
    {A : Around} {outer : List Env} {s : Shared} {H : Hp} {C : DC} (hK : (⟨K, w⟩ : KW) = C.K) (hT : C.T = T) (hr : Room 1 (A.deeper (envOfC "makes_zero" (defScope st_makes_zero) s.heap.objs.size f fd.code))) (hG : (A.deeper (envOfC "makes_zero" (defScope st_makes_zero) s.heap.objs.size f fd.code)).guards = some []) :
    PSs (cxOf CX0 P w K mg base N_makes_zero "makes_zero" (defScope st_makes_zero) f fd.code A outer s H E0).nox (defBody st_makes_zero) (tDS C w_makes_zero) := by
  have nd : N_makes_zero.Nodup := nd_makes_zero
  have hP : PP ∈ C.T := by rw [hT]; exact hPT
  exact (s_one (s_ret (d_any (k := 0) (own := [("d", 1), ("numbers", 2)]) hr rfl nd rfl (m.f "any" (by decide)) TB hcode ⟨blkOk_by (by rfl), (by rfl), (by decide +kernel), (by rfl)⟩ hP (by decide) (by rfl) (i_row hK (d_var rfl (vis_of rfl) rfl rfl)) (fun _ _ _ _ _ _ => (g_tup hK rfl (gs_cons (g_name nd rfl (loc_of rfl) (fn_of rfl)) (gs_cons (g_name nd rfl (loc_of rfl) (fn_of rfl)) gs_nil (by rfl)) (by rfl)) (by rfl) (by rfl))) (fun _ _ _ _ _ _ => (d_and (d_cmp .eq rfl hK (room_gen (k := 0) hr _) (by rfl) (d_var rfl (vis_of rfl) rfl rfl) d_int) (d_one (d_cmp .ne rfl hK (room_gen (k := 0) hr _) (by rfl) (d_idx hK (room_gen (k := 0) hr _) (by rfl) (d_var rfl (vis_of rfl) rfl rfl) d_int) d_int)))))))

abbrev st_multiple_in : Stmt := top 34
theorem nd_multiple_in : N_multiple_in.Nodup := by decide +kernel
theorem sc_multiple_in : FnScope N_multiple_in ["lot"] (defScope st_multiple_in) := ⟨rfl, rfl, rfl, nd_multiple_in, rfl, by decide +kernel, by decide +kernel⟩
theorem walk_multiple_in {P : Program} {w : World} {K : PySem.W.Frag} {mg : Str → Option Value} {base : Heap} {T : List Addr} {f : Addr} {fd : FuncData} (m : Mg mg) (k_makes_zero : Known P w K mg base T "makes_zero" 2 ["lot"] sp_makes_zero)
    {A : Around} {outer : List Env} {s : Shared} {H : Hp} {C : DC} (hK : (⟨K, w⟩ : KW) = C.K) (hT : C.T = T) (hr : Room 2 (A.deeper (envOfC "multiple_in" (defScope st_multiple_in) s.heap.objs.size f fd.code))) (hG : (A.deeper (envOfC "multiple_in" (defScope st_multiple_in) s.heap.objs.size f fd.code)).guards = some []) :
    PSs (cxOf CX0 P w K mg base N_multiple_in "multiple_in" (defScope st_multiple_in) f fd.code A outer s H E0).nox (defBody st_multiple_in) (tDS C w_multiple_in) := by
  have nd : N_multiple_in.Nodup := nd_multiple_in
  exact (s_cons (s_if (d_ttru hK (by rfl) (d_callN k_makes_zero hK hT hr (by decide) hG rfl rfl (by rfl) (by rfl) (r_val (by rfl) (d_var rfl (vis_of rfl) rfl rfl) r_nil))) (s_one (s_ret d_int)) s_nil)
  (s_cons (s_set nd rfl (loc_of rfl) (fn_of rfl) (by rfl) d_int)
  (s_cons (s_for PassesOwn.never rfl (by rfl) (i_row hK (d_var rfl (vis_of rfl) rfl rfl)) (g_tup hK rfl (gs_cons (g_name nd rfl (loc_of rfl) (fn_of rfl)) (gs_cons (g_name nd rfl (loc_of rfl) (fn_of rfl)) gs_nil (by rfl)) (by rfl)) (by rfl) (by rfl)) (s_cons (s_set nd rfl (loc_of rfl) (fn_of rfl) (by rfl) (d_ife (d_tcmp .gt rfl hK hr (by rfl) (d_var rfl (vis_of rfl) rfl rfl) d_int) (d_bin .fdiv rfl hK (d_var rfl (vis_of rfl) rfl rfl) (d_gcd hK rfl m.gcd (by rfl) (by rfl) (d_var rfl (vis_of rfl) rfl rfl) (d_idx hK hr (by rfl) (d_var rfl (vis_of rfl) rfl rfl) d_int))) d_int))
  (s_one (s_set nd rfl (loc_of rfl) (fn_of rfl) (by rfl) (d_bin .fdiv rfl hK (d_bin .mul rfl hK (d_var rfl (vis_of rfl) rfl rfl) (d_var rfl (vis_of rfl) rfl rfl)) (d_gcd hK rfl m.gcd (by rfl) (by rfl) (d_var rfl (vis_of rfl) rfl rfl) (d_var rfl (vis_of rfl) rfl rfl)))))))
  (s_one (s_ret (d_var rfl (vis_of rfl) rfl rfl))))))

abbrev st_exponent_in : Stmt := top 35
theorem nd_exponent_in : N_exponent_in.Nodup := by decide +kernel
theorem sc_exponent_in : FnScope N_exponent_in ["p", "lot", "most"] (defScope st_exponent_in) := ⟨rfl, rfl, rfl, nd_exponent_in, rfl, by decide +kernel, by decide +kernel⟩
theorem walk_exponent_in {P : Program} {w : World} {K : PySem.W.Frag} {mg : Str → Option Value} {base : Heap} {T : List Addr} {f : Addr} {fd : FuncData} (m : Mg mg) (k_exponent_of : Known P w K mg base T "exponent_of" 1 ["p", "number"] sp_exponent_of)
    {A : Around} {outer : List Env} {s : Shared} {H : Hp} {C : DC} (hK : (⟨K, w⟩ : KW) = C.K) (hT : C.T = T) (hr : Room 1 (A.deeper (envOfC "exponent_in" (defScope st_exponent_in) s.heap.objs.size f fd.code))) (hG : (A.deeper (envOfC "exponent_in" (defScope st_exponent_in) s.heap.objs.size f fd.code)).guards = some []) :
    PSs (cxOf CX0 P w K mg base N_exponent_in "exponent_in" (defScope st_exponent_in) f fd.code A outer s H E0).nox (defBody st_exponent_in) (tDS C w_exponent_in) := by
  have nd : N_exponent_in.Nodup := nd_exponent_in
  exact (s_cons (s_set nd rfl (loc_of rfl) (fn_of rfl) (by rfl) d_int)
  (s_cons (s_for PassesOwn.never rfl (by rfl) (i_row hK (d_var rfl (vis_of rfl) rfl rfl)) (g_tup hK rfl (gs_cons (g_name nd rfl (loc_of rfl) (fn_of rfl)) (gs_cons (g_tup hK rfl (gs_cons (g_name nd rfl (loc_of rfl) (fn_of rfl)) gs_nil (by rfl)) (by rfl) (by rfl)) gs_nil (by rfl)) (by rfl)) (by rfl) (by rfl)) (s_one (s_if (d_tcmp .ne rfl hK hr (by rfl) (d_var rfl (vis_of rfl) rfl rfl) d_int) (s_cons (s_set nd rfl (loc_of rfl) (fn_of rfl) (by rfl) (d_ife (d_tcmp .gt rfl hK hr (by rfl) (d_var rfl (vis_of rfl) rfl rfl) d_int) (d_min2 rfl hK rfl (m.f "min" (by decide)) (by rfl) (by rfl) (d_var rfl (vis_of rfl) rfl rfl) (d_callN k_exponent_of hK hT hr (by decide) hG rfl rfl (by rfl) (by rfl) (r_val (by rfl) (d_var rfl (vis_of rfl) rfl rfl) (r_val (by rfl) (d_var rfl (vis_of rfl) rfl rfl) r_nil)))) (d_var rfl (vis_of rfl) rfl rfl)))
  (s_one (s_set nd rfl (loc_of rfl) (fn_of rfl) (by rfl) (d_max2 rfl hK rfl (m.f "max" (by decide)) (by rfl) (by rfl) (d_var rfl (vis_of rfl) rfl rfl) (d_bin .sub rfl hK (d_var rfl (vis_of rfl) rfl rfl) (d_callN k_exponent_of hK hT hr (by decide) hG rfl rfl (by rfl) (by rfl) (r_val (by rfl) (d_var rfl (vis_of rfl) rfl rfl) (r_val (by rfl) (d_var rfl (vis_of rfl) rfl rfl) r_nil)))))))) s_nil)))
  (s_one (s_ret (d_var rfl (vis_of rfl) rfl rfl)))))

abbrev st_torsion_in : Stmt := top 36
theorem nd_torsion_in : N_torsion_in.Nodup := by decide +kernel
theorem sc_torsion_in : FnScope N_torsion_in ["p", "lot"] (defScope st_torsion_in) := ⟨rfl, rfl, rfl, nd_torsion_in, rfl, by decide +kernel, by decide +kernel⟩
theorem walk_torsion_in {P : Program} {w : World} {K : PySem.W.Frag} {mg : Str → Option Value} {base : Heap} {T : List Addr} {f : Addr} {fd : FuncData} (m : Mg mg) (k_exponent_of : Known P w K mg base T "exponent_of" 1 ["p", "number"] sp_exponent_of)
    {A : Around} {outer : List Env} {s : Shared} {H : Hp} {C : DC} (hK : (⟨K, w⟩ : KW) = C.K) (hT : C.T = T) (hr : Room 1 (A.deeper (envOfC "torsion_in" (defScope st_torsion_in) s.heap.objs.size f fd.code))) (hG : (A.deeper (envOfC "torsion_in" (defScope st_torsion_in) s.heap.objs.size f fd.code)).guards = some []) :
    PSs (cxOf CX0 P w K mg base N_torsion_in "torsion_in" (defScope st_torsion_in) f fd.code A outer s H E0).nox (defBody st_torsion_in) (tDS C w_torsion_in) := by
  have nd : N_torsion_in.Nodup := nd_torsion_in
  exact (s_one (s_ret (d_minL rfl hK rfl (m.f "min" (by decide)) (by rfl) (d_lc (own := [("d", 2), ("number", 3)]) rfl nd (by decide) (by rfl) (i_row hK (d_var rfl (vis_of rfl) rfl rfl)) (blkOk_by (by rfl)) (fun _ _ _ _ _ => (g_tup hK rfl (gs_cons (g_name nd rfl (loc_of rfl) (fn_of rfl)) (gs_cons (g_tup hK rfl (gs_cons (g_name nd rfl (loc_of rfl) (fn_of rfl)) gs_nil (by rfl)) (by rfl) (by rfl)) gs_nil (by rfl)) (by rfl)) (by rfl) (by rfl))) (fun _ _ _ _ _ => (ts_one (PW.pt (d_wand (d_tcmp .eq rfl hK hr (by rfl) (d_var rfl (vis_of rfl) rfl rfl) d_int) (d_wand1 (d_tcmp .ne rfl hK hr (by rfl) (d_var rfl (vis_of rfl) rfl rfl) d_int)))))) (fun _ _ _ _ _ => (d_callN k_exponent_of hK hT hr (by decide) hG rfl rfl (by rfl) (by rfl) (r_val (by rfl) (d_var rfl (vis_of rfl) rfl rfl) (r_val (by rfl) (d_var rfl (vis_of rfl) rfl rfl) r_nil))))))))

abbrev st_greatest_exponent : Stmt := top 37
theorem nd_greatest_exponent : N_greatest_exponent.Nodup := by decide +kernel
theorem sc_greatest_exponent : FnScope N_greatest_exponent ["p", "lot"] (defScope st_greatest_exponent) := ⟨rfl, rfl, rfl, nd_greatest_exponent, rfl, by decide +kernel, by decide +kernel⟩
theorem walk_greatest_exponent {P : Program} {w : World} {K : PySem.W.Frag} {mg : Str → Option Value} {base : Heap} {T : List Addr} {f : Addr} {fd : FuncData} (m : Mg mg) (k_exponent_of : Known P w K mg base T "exponent_of" 1 ["p", "number"] sp_exponent_of)
    {A : Around} {outer : List Env} {s : Shared} {H : Hp} {C : DC} (hK : (⟨K, w⟩ : KW) = C.K) (hT : C.T = T) (hr : Room 1 (A.deeper (envOfC "greatest_exponent" (defScope st_greatest_exponent) s.heap.objs.size f fd.code))) (hG : (A.deeper (envOfC "greatest_exponent" (defScope st_greatest_exponent) s.heap.objs.size f fd.code)).guards = some []) :
    PSs (cxOf CX0 P w K mg base N_greatest_exponent "greatest_exponent" (defScope st_greatest_exponent) f fd.code A outer s H E0).nox (defBody st_greatest_exponent) (tDS C w_greatest_exponent) := by
  have nd : N_greatest_exponent.Nodup := nd_greatest_exponent
  exact (s_one (s_ret (d_maxL rfl hK rfl (m.f "max" (by decide)) (by rfl) (d_bin .add rfl hK (d_lst (v_cons (by rfl) d_int v_nil)) (d_lc (own := [("d", 2), ("_", 3)]) rfl nd (by decide) (by rfl) (i_row hK (d_var rfl (vis_of rfl) rfl rfl)) (blkOk_by (by rfl)) (fun _ _ _ _ _ => (g_tup hK rfl (gs_cons (g_name nd rfl (loc_of rfl) (fn_of rfl)) (gs_cons (g_name nd rfl (loc_of rfl) (fn_of rfl)) gs_nil (by rfl)) (by rfl)) (by rfl) (by rfl))) (fun _ _ _ _ _ => (ts_one (d_tcmp .gt rfl hK hr (by rfl) (d_var rfl (vis_of rfl) rfl rfl) d_int))) (fun _ _ _ _ _ => (d_callN k_exponent_of hK hT hr (by decide) hG rfl rfl (by rfl) (by rfl) (r_val (by rfl) (d_var rfl (vis_of rfl) rfl rfl) (r_val (by rfl) (d_var rfl (vis_of rfl) rfl rfl) r_nil)))))))))

abbrev st_index_of_line : Stmt := top 38
theorem nd_index_of_line : N_index_of_line.Nodup := by decide +kernel
theorem sc_index_of_line : FnScope N_index_of_line ["one", "both"] (defScope st_index_of_line) := ⟨rfl, rfl, rfl, nd_index_of_line, rfl, by decide +kernel, by decide +kernel⟩
theorem walk_index_of_line {P : Program} {w : World} {K : PySem.W.Frag} {mg : Str → Option Value} {base : Heap} {T : List Addr} {f : Addr} {fd : FuncData} (m : Mg mg) (k_multiple_in : Known P w K mg base T "multiple_in" 3 ["lot"] sp_multiple_in)
    {A : Around} {outer : List Env} {s : Shared} {H : Hp} {C : DC} (hK : (⟨K, w⟩ : KW) = C.K) (hT : C.T = T) (hr : Room 3 (A.deeper (envOfC "index_of_line" (defScope st_index_of_line) s.heap.objs.size f fd.code))) (hG : (A.deeper (envOfC "index_of_line" (defScope st_index_of_line) s.heap.objs.size f fd.code)).guards = some []) :
    PSs (cxOf CX0 P w K mg base N_index_of_line "index_of_line" (defScope st_index_of_line) f fd.code A outer s H E0).nox (defBody st_index_of_line) (tDS C w_index_of_line) := by
  have nd : N_index_of_line.Nodup := nd_index_of_line
  exact (s_cons (s_par2 rfl nd rfl rfl (by decide) rfl rfl (p_cons (by rfl) (d_callN k_multiple_in hK hT hr (by decide) hG rfl rfl (by rfl) (by rfl) (r_val (by rfl) (d_var rfl (vis_of rfl) rfl rfl) r_nil)) (p_cons (by rfl) (d_callN k_multiple_in hK hT hr (by decide) hG rfl rfl (by rfl) (by rfl) (r_val (by rfl) (d_var rfl (vis_of rfl) rfl rfl) r_nil)) p_nil)) (by rfl) (by rfl))
  (s_cons (s_if (d_tcmp .eq rfl hK hr (by rfl) (d_var rfl (vis_of rfl) rfl rfl) d_int) (s_one (s_ret d_int)) s_nil)
  (s_one (s_ret (d_ife (d_tcmp .gt rfl hK hr (by rfl) (d_var rfl (vis_of rfl) rfl rfl) d_int) (d_bin .fdiv rfl hK (d_var rfl (vis_of rfl) rfl rfl) (d_var rfl (vis_of rfl) rfl rfl)) d_non)))))

abbrev st_index_of_part : Stmt := top 39
theorem nd_index_of_part : N_index_of_part.Nodup := by decide +kernel
theorem sc_index_of_part : FnScope N_index_of_part ["part", "one", "both"] (defScope st_index_of_part) := ⟨rfl, rfl, rfl, nd_index_of_part, rfl, by decide +kernel, by decide +kernel⟩
theorem walk_index_of_part {P : Program} {w : World} {K : PySem.W.Frag} {mg : Str → Option Value} {base : Heap} {T : List Addr} {f : Addr} {fd : FuncData} (m : Mg mg) (k_exponent_in : Known P w K mg base T "exponent_in" 2 ["p", "lot", "most"] sp_exponent_in) (k_greatest_exponent : Known P w K mg base T "greatest_exponent" 2 ["p", "lot"] sp_greatest_exponent) (k_index_of_line : Known P w K mg base T "index_of_line" 4 ["one", "both"] sp_index_of_line) (k_makes_zero : Known P w K mg base T "makes_zero" 2 ["lot"] sp_makes_zero) (k_raised : Known P w K mg base T "raised" 1 ["p", "many"] sp_raised) (k_torsion_in : Known P w K mg base T "torsion_in" 2 ["p", "lot"] sp_torsion_in)
    {A : Around} {outer : List Env} {s : Shared} {H : Hp} {C : DC} (hK : (⟨K, w⟩ : KW) = C.K) (hT : C.T = T) (hr : Room 4 (A.deeper (envOfC "index_of_part" (defScope st_index_of_part) s.heap.objs.size f fd.code))) (hG : (A.deeper (envOfC "index_of_part" (defScope st_index_of_part) s.heap.objs.size f fd.code)).guards = some []) :
    PSs (cxOf CX0 P w K mg base N_index_of_part "index_of_part" (defScope st_index_of_part) f fd.code A outer s H E0).nox (defBody st_index_of_part) (tDS C w_index_of_part) := by
  have nd : N_index_of_part.Nodup := nd_index_of_part
  exact (s_cons (s_if (d_tcmp .eq rfl hK hr (by rfl) (d_idx hK hr (by rfl) (d_var rfl (vis_of rfl) rfl rfl) d_int) d_str) (s_one (s_ret (d_callN k_index_of_line hK hT hr (by decide) hG rfl rfl (by rfl) (by rfl) (r_val (by rfl) (d_var rfl (vis_of rfl) rfl rfl) (r_val (by rfl) (d_var rfl (vis_of rfl) rfl rfl) r_nil))))) s_nil)
  (s_cons (s_if (d_tcmp .eq rfl hK hr (by rfl) (d_idx hK hr (by rfl) (d_var rfl (vis_of rfl) rfl rfl) d_int) d_str) (s_one (s_ret (d_callN k_raised hK hT hr (by decide) hG rfl rfl (by rfl) (by rfl) (r_val (by rfl) (d_idx hK hr (by rfl) (d_var rfl (vis_of rfl) rfl rfl) d_int) (r_val (by rfl) (d_bin .sub rfl hK (d_callN k_exponent_in hK hT hr (by decide) hG rfl rfl (by rfl) (by rfl) (r_val (by rfl) (d_idx hK hr (by rfl) (d_var rfl (vis_of rfl) rfl rfl) d_int) (r_val (by rfl) (d_var rfl (vis_of rfl) rfl rfl) (r_val (by rfl) (d_idx hK hr (by rfl) (d_var rfl (vis_of rfl) rfl rfl) d_int) r_nil)))) (d_callN k_exponent_in hK hT hr (by decide) hG rfl rfl (by rfl) (by rfl) (r_val (by rfl) (d_idx hK hr (by rfl) (d_var rfl (vis_of rfl) rfl rfl) d_int) (r_val (by rfl) (d_var rfl (vis_of rfl) rfl rfl) (r_val (by rfl) (d_idx hK hr (by rfl) (d_var rfl (vis_of rfl) rfl rfl) d_int) r_nil))))) r_nil))))) s_nil)
  (s_cons (s_if (d_tcmp .eq rfl hK hr (by rfl) (d_idx hK hr (by rfl) (d_var rfl (vis_of rfl) rfl rfl) d_int) d_str) (s_cons (s_if (d_tnot (d_ttru hK (by rfl) (d_callN k_makes_zero hK hT hr (by decide) hG rfl rfl (by rfl) (by rfl) (r_val (by rfl) (d_var rfl (vis_of rfl) rfl rfl) r_nil)))) (s_one (s_ret d_int)) s_nil)
  (s_one (s_ret (d_ife (d_ttru hK (by rfl) (d_callN k_makes_zero hK hT hr (by decide) hG rfl rfl (by rfl) (by rfl) (r_val (by rfl) (d_var rfl (vis_of rfl) rfl rfl) r_nil))) (d_callN k_raised hK hT hr (by decide) hG rfl rfl (by rfl) (by rfl) (r_val (by rfl) (d_idx hK hr (by rfl) (d_var rfl (vis_of rfl) rfl rfl) d_int) (r_val (by rfl) (d_bin .sub rfl hK (d_callN k_torsion_in hK hT hr (by decide) hG rfl rfl (by rfl) (by rfl) (r_val (by rfl) (d_idx hK hr (by rfl) (d_var rfl (vis_of rfl) rfl rfl) d_int) (r_val (by rfl) (d_var rfl (vis_of rfl) rfl rfl) r_nil))) (d_callN k_torsion_in hK hT hr (by decide) hG rfl rfl (by rfl) (by rfl) (r_val (by rfl) (d_idx hK hr (by rfl) (d_var rfl (vis_of rfl) rfl rfl) d_int) (r_val (by rfl) (d_var rfl (vis_of rfl) rfl rfl) r_nil)))) r_nil))) d_non)))) s_nil)
  (s_cons (s_if (d_ttru hK (by rfl) (d_callN k_makes_zero hK hT hr (by decide) hG rfl rfl (by rfl) (by rfl) (r_val (by rfl) (d_var rfl (vis_of rfl) rfl rfl) r_nil))) (s_one (s_ret d_int)) s_nil)
  (s_cons (s_if (d_ttru hK (by rfl) (d_callN k_makes_zero hK hT hr (by decide) hG rfl rfl (by rfl) (by rfl) (r_val (by rfl) (d_var rfl (vis_of rfl) rfl rfl) r_nil))) (s_one (s_ret d_non)) s_nil)
  (s_cons (s_if (d_tcmp .eq rfl hK hr (by rfl) (d_idx hK hr (by rfl) (d_var rfl (vis_of rfl) rfl rfl) d_int) d_str) (s_one (s_ret d_int)) s_nil)
  (s_cons (s_set nd rfl (loc_of rfl) (fn_of rfl) (by rfl) (d_callN k_greatest_exponent hK hT hr (by decide) hG rfl rfl (by rfl) (by rfl) (r_val (by rfl) (d_idx hK hr (by rfl) (d_var rfl (vis_of rfl) rfl rfl) d_int) (r_val (by rfl) (d_var rfl (vis_of rfl) rfl rfl) r_nil))))
  (s_one (s_ret (d_callN k_raised hK hT hr (by decide) hG rfl rfl (by rfl) (by rfl) (r_val (by rfl) (d_idx hK hr (by rfl) (d_var rfl (vis_of rfl) rfl rfl) d_int) (r_val (by rfl) (d_bin .sub rfl hK (d_callN k_exponent_in hK hT hr (by decide) hG rfl rfl (by rfl) (by rfl) (r_val (by rfl) (d_idx hK hr (by rfl) (d_var rfl (vis_of rfl) rfl rfl) d_int) (r_val (by rfl) (d_var rfl (vis_of rfl) rfl rfl) (r_val (by rfl) (d_var rfl (vis_of rfl) rfl rfl) r_nil)))) (d_callN k_exponent_in hK hT hr (by decide) hG rfl rfl (by rfl) (by rfl) (r_val (by rfl) (d_idx hK hr (by rfl) (d_var rfl (vis_of rfl) rfl rfl) d_int) (r_val (by rfl) (d_var rfl (vis_of rfl) rfl rfl) (r_val (by rfl) (d_var rfl (vis_of rfl) rfl rfl) r_nil))))) r_nil))))))))))))

abbrev st_index_of : Stmt := top 40
theorem nd_index_of : N_index_of.Nodup := by decide +kernel
theorem sc_index_of : FnScope N_index_of ["group", "one", "other"] (defScope st_index_of) := ⟨rfl, rfl, rfl, nd_index_of, rfl, by decide +kernel, by decide +kernel⟩
theorem walk_index_of {P : Program} {w : World} {K : PySem.W.Frag} {mg : Str → Option Value} {base : Heap} {T : List Addr} {f : Addr} {fd : FuncData} (m : Mg mg) (k_index_of_part : Known P w K mg base T "index_of_part" 5 ["part", "one", "both"] sp_index_of_part) (k_raised : Known P w K mg base T "raised" 1 ["p", "many"] sp_raised) (c_EVER : Const mg K "EVER" (.int (-1)))
    {A : Around} {outer : List Env} {s : Shared} {H : Hp} {C : DC} (hK : (⟨K, w⟩ : KW) = C.K) (hT : C.T = T) (hr : Room 5 (A.deeper (envOfC "index_of" (defScope st_index_of) s.heap.objs.size f fd.code))) (hG : (A.deeper (envOfC "index_of" (defScope st_index_of) s.heap.objs.size f fd.code)).guards = some []) :
    PSs (cxOf CX0 P w K mg base N_index_of "index_of" (defScope st_index_of) f fd.code A outer s H E0).nox (defBody st_index_of) (tDS C w_index_of) := by
  have nd : N_index_of.Nodup := nd_index_of
  exact (s_cons (s_set nd rfl (loc_of rfl) (fn_of rfl) (by rfl) d_int)
  (s_cons (s_for PassesOwn.never rfl (by rfl) (i_row hK (d_var rfl (vis_of rfl) rfl rfl)) (g_tup hK rfl (gs_cons (g_name nd rfl (loc_of rfl) (fn_of rfl)) (gs_cons (g_name nd rfl (loc_of rfl) (fn_of rfl)) gs_nil (by rfl)) (by rfl)) (by rfl) (by rfl)) (s_cons (s_set nd rfl (loc_of rfl) (fn_of rfl) (by rfl) (d_callN k_index_of_part hK hT hr (by decide) hG rfl rfl (by rfl) (by rfl) (r_val (by rfl) (d_var rfl (vis_of rfl) rfl rfl) (r_val (by rfl) (d_var rfl (vis_of rfl) rfl rfl) (r_val (by rfl) (d_bin .add rfl hK (d_var rfl (vis_of rfl) rfl rfl) (d_var rfl (vis_of rfl) rfl rfl)) r_nil)))))
  (s_cons (s_if (PW.pt (d_wor (d_tisN (d_var rfl (vis_of rfl) rfl rfl)) (d_wor1 (PW.pt (d_wand (d_tcmp .gt rfl hK hr (by rfl) (d_var rfl (vis_of rfl) rfl rfl) d_int) (d_wand1 (d_tcmp .eq rfl hK hr (by rfl) (d_var rfl (vis_of rfl) rfl rfl) (d_const c_EVER hK rfl rfl)))))))) (s_one (s_ret d_non)) s_nil)
  (s_one (s_set nd rfl (loc_of rfl) (fn_of rfl) (by rfl) (d_bin .mul rfl hK (d_var rfl (vis_of rfl) rfl rfl) (d_callN k_raised hK hT hr (by decide) hG rfl rfl (by rfl) (by rfl) (r_val (by rfl) (d_var rfl (vis_of rfl) rfl rfl) (r_val (by rfl) (d_ife (d_tcmp .gt rfl hK hr (by rfl) (d_var rfl (vis_of rfl) rfl rfl) d_int) (d_var rfl (vis_of rfl) rfl rfl) d_int) r_nil)))))))))
  (s_one (s_ret (d_var rfl (vis_of rfl) rfl rfl)))))

abbrev st_index_in : Stmt := top 41
theorem nd_index_in : N_index_in.Nodup := by decide +kernel
theorem sc_index_in : FnScope N_index_in ["group", "one", "other"] (defScope st_index_in) := ⟨rfl, rfl, rfl, nd_index_in, rfl, by decide +kernel, by decide +kernel⟩
theorem walk_index_in {P : Program} {w : World} {K : PySem.W.Frag} {mg : Str → Option Value} {base : Heap} {T : List Addr} {f : Addr} {fd : FuncData} (m : Mg mg) (k_check_group : Known P w K mg base T "check_group" 9 ["group"] sp_check_group) (k_check_lot : Known P w K mg base T "check_lot" 7 ["n", "lot"] sp_check_lot) (k_index_of : Known P w K mg base T "index_of" 6 ["group", "one", "other"] sp_index_of)
    {A : Around} {outer : List Env} {s : Shared} {H : Hp} {C : DC} (hK : (⟨K, w⟩ : KW) = C.K) (hT : C.T = T) (hr : Room 9 (A.deeper (envOfC "index_in" (defScope st_index_in) s.heap.objs.size f fd.code))) (hG : (A.deeper (envOfC "index_in" (defScope st_index_in) s.heap.objs.size f fd.code)).guards = some []) :
    PSs (cxOf CX0 P w K mg base N_index_in "index_in" (defScope st_index_in) f fd.code A outer s H E0).nox (defBody st_index_in) (tDS C w_index_in) := by
  have nd : N_index_in.Nodup := nd_index_in
  exact (s_cons (s_drop (by rfl) (d_callN k_check_group hK hT hr (by decide) hG rfl rfl (by rfl) (by rfl) (r_val (by rfl) (d_var rfl (vis_of rfl) rfl rfl) r_nil)))
  (s_cons (s_drop (by rfl) (d_callN k_check_lot hK hT hr (by decide) hG rfl rfl (by rfl) (by rfl) (r_val (by rfl) d_int (r_val (by rfl) (d_var rfl (vis_of rfl) rfl rfl) r_nil))))
  (s_cons (s_drop (by rfl) (d_callN k_check_lot hK hT hr (by decide) hG rfl rfl (by rfl) (by rfl) (r_val (by rfl) d_int (r_val (by rfl) (d_var rfl (vis_of rfl) rfl rfl) r_nil))))
  (s_one (s_ret (d_callN k_index_of hK hT hr (by decide) hG rfl rfl (by rfl) (by rfl) (r_val (by rfl) (d_var rfl (vis_of rfl) rfl rfl) (r_val (by rfl) (d_var rfl (vis_of rfl) rfl rfl) (r_val (by rfl) (d_var rfl (vis_of rfl) rfl rfl) r_nil)))))))))

abbrev st_is_pair_in : Stmt := top 43
theorem nd_is_pair_in : N_is_pair_in.Nodup := by decide +kernel
theorem sc_is_pair_in : FnScope N_is_pair_in ["value"] (defScope st_is_pair_in) := ⟨rfl, rfl, rfl, nd_is_pair_in, rfl, by decide +kernel, by decide +kernel⟩
theorem walk_is_pair_in {P : Program} {w : World} {K : PySem.W.Frag} {mg : Str → Option Value} {base : Heap} {T : List Addr} {f : Addr} {fd : FuncData} (m : Mg mg) (k_is_integer : Known P w K mg base T "is_integer" 1 ["value"] sp_is_integer) (k_is_lot_in : Known P w K mg base T "is_lot_in" 6 ["n", "value"] sp_is_lot_in)
    {A : Around} {outer : List Env} {s : Shared} {H : Hp} {C : DC} (hK : (⟨K, w⟩ : KW) = C.K) (hT : C.T = T) (hr : Room 6 (A.deeper (envOfC "is_pair_in" (defScope st_is_pair_in) s.heap.objs.size f fd.code))) (hG : (A.deeper (envOfC "is_pair_in" (defScope st_is_pair_in) s.heap.objs.size f fd.code)).guards = some []) :
    PSs (cxOf CX0 P w K mg base N_is_pair_in "is_pair_in" (defScope st_is_pair_in) f fd.code A outer s H E0).nox (defBody st_is_pair_in) (tDS C w_is_pair_in) := by
  have nd : N_is_pair_in.Nodup := nd_is_pair_in
  exact (s_cons (s_if (PW.pt (d_wor (d_tnot (d_ttru hK (by rfl) (d_isi .tuple hK rfl (m.f "isinstance" (by decide)) rfl (m.f "tuple" (by decide)) boot_tuple (by decide) rfl (by rfl) (d_var rfl (vis_of rfl) rfl rfl)))) (d_wor (d_tcmp .ne rfl hK hr (by rfl) (d_len hK rfl (m.f "len" (by decide)) (by rfl) (d_var rfl (vis_of rfl) rfl rfl)) d_int) (d_wor (d_tnot (d_ttru hK (by rfl) (d_callN k_is_lot_in hK hT hr (by decide) hG rfl rfl (by rfl) (by rfl) (r_val (by rfl) d_int (r_val (by rfl) (d_idx hK hr (by rfl) (d_var rfl (vis_of rfl) rfl rfl) d_int) r_nil))))) (d_wor1 (d_tnot (d_ttru hK (by rfl) (d_callN k_is_lot_in hK hT hr (by decide) hG rfl rfl (by rfl) (by rfl) (r_val (by rfl) d_int (r_val (by rfl) (d_idx hK hr (by rfl) (d_var rfl (vis_of rfl) rfl rfl) d_int) r_nil)))))))))) (s_one (s_ret d_bl)) s_nil)
  (s_one (s_ret (d_and (d_callN k_is_integer hK hT hr (by decide) hG rfl rfl (by rfl) (by rfl) (r_val (by rfl) (d_idx hK hr (by rfl) (d_var rfl (vis_of rfl) rfl rfl) d_int) r_nil)) (d_one (d_cmp .gt rfl hK hr (by rfl) (d_idx hK hr (by rfl) (d_var rfl (vis_of rfl) rfl rfl) d_int) d_int))))))

abbrev st_check_pairs : Stmt := top 44
theorem nd_check_pairs : N_check_pairs.Nodup := by decide +kernel
theorem sc_check_pairs : FnScope N_check_pairs ["pairs"] (defScope st_check_pairs) := ⟨rfl, rfl, rfl, nd_check_pairs, rfl, by decide +kernel, by decide +kernel⟩
theorem walk_check_pairs {P : Program} {w : World} {K : PySem.W.Frag} {mg : Str → Option Value} {base : Heap} {T : List Addr} {f : Addr} {fd : FuncData} (m : Mg mg) (k_is_pair_in : Known P w K mg base T "is_pair_in" 7 ["value"] sp_is_pair_in) {cc PP : Addr} (hcode : fd.code = .ref cc) (TB : GxR.TabB base mg cc PP) (hPT : PP ∈ T)
    {A : Around} {outer : List Env} {s : Shared} {H : Hp} {C : DC} (hK : (⟨K, w⟩ : KW) = C.K) (hT : C.T = T) (hr : Room 8 (A.deeper (envOfC "check_pairs" (defScope st_check_pairs) s.heap.objs.size f fd.code))) (hG : (A.deeper (envOfC "check_pairs" (defScope st_check_pairs) s.heap.objs.size f fd.code)).guards = some []) :
    PSs (cxOf CX0 P w K mg base N_check_pairs "check_pairs" (defScope st_check_pairs) f fd.code A outer s H E0).nox (defBody st_check_pairs) (tDS C w_check_pairs) := by
  have nd : N_check_pairs.Nodup := nd_check_pairs
  have hP : PP ∈ C.T := by rw [hT]; exact hPT
  exact (s_one (s_if (PW.pt (d_wor (d_tnot (d_ttru hK (by rfl) (d_isi .tuple hK rfl (m.f "isinstance" (by decide)) rfl (m.f "tuple" (by decide)) boot_tuple (by decide) rfl (by rfl) (d_var rfl (vis_of rfl) rfl rfl)))) (d_wor1 (d_tnot (d_ttru hK (by rfl) (d_all (k := 7) (own := [("pair", 1)]) hr rfl nd rfl (m.f "all" (by decide)) TB hcode ⟨blkOk_by (by rfl), (by rfl), (by decide +kernel), (by rfl)⟩ hP (by decide) (by rfl) (i_row hK (d_var rfl (vis_of rfl) rfl rfl)) (fun _ _ _ _ _ _ => (g_name nd rfl (loc_of rfl) (fn_of rfl))) (fun _ _ _ _ _ _ => (d_callN k_is_pair_in hK hT (room_gen (k := 7) hr _) (by decide) hG rfl rfl (by rfl) (by rfl) (r_val (by rfl) (d_var rfl (vis_of rfl) rfl rfl) r_nil))))))))) (s_one s_never) s_nil))

abbrev st_capped : Stmt := top 45
theorem nd_capped : N_capped.Nodup := by decide +kernel
theorem sc_capped : FnScope N_capped ["number", "most"] (defScope st_capped) := ⟨rfl, rfl, rfl, nd_capped, rfl, by decide +kernel, by decide +kernel⟩
theorem walk_capped {P : Program} {w : World} {K : PySem.W.Frag} {mg : Str → Option Value} {base : Heap} {T : List Addr} {f : Addr} {fd : FuncData} (m : Mg mg) 
    {A : Around} {outer : List Env} {s : Shared} {H : Hp} {C : DC} (hK : (⟨K, w⟩ : KW) = C.K) (hT : C.T = T) (hr : Room 0 (A.deeper (envOfC "capped" (defScope st_capped) s.heap.objs.size f fd.code))) (hG : (A.deeper (envOfC "capped" (defScope st_capped) s.heap.objs.size f fd.code)).guards = some []) :
    PSs (cxOf CX0 P w K mg base N_capped "capped" (defScope st_capped) f fd.code A outer s H E0).nox (defBody st_capped) (tDS C w_capped) := by
  have nd : N_capped.Nodup := nd_capped
  exact (s_one (s_ret (d_ife (d_tisN (d_var rfl (vis_of rfl) rfl rfl)) (d_var rfl (vis_of rfl) rfl rfl) (d_min2 rfl hK rfl (m.f "min" (by decide)) (by rfl) (by rfl) (d_var rfl (vis_of rfl) rfl rfl) (d_var rfl (vis_of rfl) rfl rfl)))))

abbrev st_vector_in : Stmt := top 46
theorem nd_vector_in : N_vector_in.Nodup := by decide +kernel
theorem sc_vector_in : FnScope N_vector_in ["group", "pairs"] (defScope st_vector_in) := ⟨rfl, rfl, rfl, nd_vector_in, rfl, by decide +kernel, by decide +kernel⟩
theorem walk_vector_in {P : Program} {w : World} {K : PySem.W.Frag} {mg : Str → Option Value} {base : Heap} {T : List Addr} {f : Addr} {fd : FuncData} (m : Mg mg) (k_capped : Known P w K mg base T "capped" 1 ["number", "most"] sp_capped) (k_index_of : Known P w K mg base T "index_of" 6 ["group", "one", "other"] sp_index_of)
    {A : Around} {outer : List Env} {s : Shared} {H : Hp} {C : DC} (hK : (⟨K, w⟩ : KW) = C.K) (hT : C.T = T) (hr : Room 6 (A.deeper (envOfC "vector_in" (defScope st_vector_in) s.heap.objs.size f fd.code))) (hG : (A.deeper (envOfC "vector_in" (defScope st_vector_in) s.heap.objs.size f fd.code)).guards = some []) :
    PSs (cxOf CX0 P w K mg base N_vector_in "vector_in" (defScope st_vector_in) f fd.code A outer s H E0).nox (defBody st_vector_in) (tDS C w_vector_in) := by
  have nd : N_vector_in.Nodup := nd_vector_in
  exact (s_one (s_ret (d_totup hK rfl (m.f "tuple" (by decide)) (by rfl) (d_lc (own := [("one", 2), ("other", 3), ("most", 4)]) rfl nd (by decide) (by rfl) (i_row hK (d_var rfl (vis_of rfl) rfl rfl)) (blkOk_by (by rfl)) (fun _ _ _ _ _ => (g_tup hK rfl (gs_cons (g_name nd rfl (loc_of rfl) (fn_of rfl)) (gs_cons (g_name nd rfl (loc_of rfl) (fn_of rfl)) (gs_cons (g_name nd rfl (loc_of rfl) (fn_of rfl)) gs_nil (by rfl)) (by rfl)) (by rfl)) (by rfl) (by rfl))) (fun _ _ _ _ _ => ts_nil) (fun _ _ _ _ _ => (d_callN k_capped hK hT hr (by decide) hG rfl rfl (by rfl) (by rfl) (r_val (by rfl) (d_callN k_index_of hK hT hr (by decide) hG rfl rfl (by rfl) (by rfl) (r_val (by rfl) (d_var rfl (vis_of rfl) rfl rfl) (r_val (by rfl) (d_var rfl (vis_of rfl) rfl rfl) (r_val (by rfl) (d_var rfl (vis_of rfl) rfl rfl) r_nil)))) (r_val (by rfl) (d_var rfl (vis_of rfl) rfl rfl) r_nil))))))))

abbrev st_vector_of : Stmt := top 47
theorem nd_vector_of : N_vector_of.Nodup := by decide +kernel
theorem sc_vector_of : FnScope N_vector_of ["group", "pairs"] (defScope st_vector_of) := ⟨rfl, rfl, rfl, nd_vector_of, rfl, by decide +kernel, by decide +kernel⟩
theorem walk_vector_of {P : Program} {w : World} {K : PySem.W.Frag} {mg : Str → Option Value} {base : Heap} {T : List Addr} {f : Addr} {fd : FuncData} (m : Mg mg) (k_check_group : Known P w K mg base T "check_group" 9 ["group"] sp_check_group) (k_check_pairs : Known P w K mg base T "check_pairs" 9 ["pairs"] sp_check_pairs) (k_vector_in : Known P w K mg base T "vector_in" 7 ["group", "pairs"] sp_vector_in)
    {A : Around} {outer : List Env} {s : Shared} {H : Hp} {C : DC} (hK : (⟨K, w⟩ : KW) = C.K) (hT : C.T = T) (hr : Room 9 (A.deeper (envOfC "vector_of" (defScope st_vector_of) s.heap.objs.size f fd.code))) (hG : (A.deeper (envOfC "vector_of" (defScope st_vector_of) s.heap.objs.size f fd.code)).guards = some []) :
    PSs (cxOf CX0 P w K mg base N_vector_of "vector_of" (defScope st_vector_of) f fd.code A outer s H E0).nox (defBody st_vector_of) (tDS C w_vector_of) := by
  have nd : N_vector_of.Nodup := nd_vector_of
  exact (s_cons (s_drop (by rfl) (d_callN k_check_group hK hT hr (by decide) hG rfl rfl (by rfl) (by rfl) (r_val (by rfl) (d_var rfl (vis_of rfl) rfl rfl) r_nil)))
  (s_cons (s_drop (by rfl) (d_callN k_check_pairs hK hT hr (by decide) hG rfl rfl (by rfl) (by rfl) (r_val (by rfl) (d_var rfl (vis_of rfl) rfl rfl) r_nil)))
  (s_one (s_ret (d_callN k_vector_in hK hT hr (by decide) hG rfl rfl (by rfl) (by rfl) (r_val (by rfl) (d_var rfl (vis_of rfl) rfl rfl) (r_val (by rfl) (d_var rfl (vis_of rfl) rfl rfl) r_nil)))))))

abbrev st__law_source : Stmt := top 49
theorem nd__law_source : N__law_source.Nodup := by decide +kernel
theorem sc__law_source : FnScope N__law_source ["script", "k"] (defScope st__law_source) := ⟨rfl, rfl, rfl, nd__law_source, rfl, by decide +kernel, by decide +kernel⟩
theorem walk__law_source {P : Program} {w : World} {K : PySem.W.Frag} {mg : Str → Option Value} {base : Heap} {T : List Addr} {f : Addr} {fd : FuncData} (m : Mg mg) 
    {A : Around} {outer : List Env} {s : Shared} {H : Hp} {C : DC} (hK : (⟨K, w⟩ : KW) = C.K) (hT : C.T = T) (hr : Room 0 (A.deeper (envOfC "_law_source" (defScope st__law_source) s.heap.objs.size f fd.code))) (hG : (A.deeper (envOfC "_law_source" (defScope st__law_source) s.heap.objs.size f fd.code)).guards = some []) :
    PSs (cxOf CX0 P w K mg base N__law_source "_law_source" (defScope st__law_source) f fd.code A outer s H E0).nox (defBody st__law_source) (tDS C w__law_source) := by
  have nd : N__law_source.Nodup := nd__law_source
  exact (s_cons (s_set nd rfl (loc_of rfl) (fn_of rfl) (by rfl) (d_ife (d_tcmp .lt rfl hK hr (by rfl) (d_var rfl (vis_of rfl) rfl rfl) (d_len hK rfl (m.f "len" (by decide)) (by rfl) (d_var rfl (vis_of rfl) rfl rfl))) (d_toint hK rfl (m.f "int" (by decide)) (by rfl) (d_idx hK hr (by rfl) (d_var rfl (vis_of rfl) rfl rfl) (d_var rfl (vis_of rfl) rfl rfl))) (d_bin .add rfl hK d_int (d_bin .mul rfl hK d_int (d_var rfl (vis_of rfl) rfl rfl)))))
  (s_cons (s_set nd rfl (loc_of rfl) (fn_of rfl) (by rfl) (d_bin .add rfl hK (d_len hK rfl (m.f "len" (by decide)) (by rfl) (d_var rfl (vis_of rfl) rfl rfl)) d_int))
  (s_cons (s_for PassesOwn.never rfl (by rfl) (i_row hK (d_slc hK (d_var rfl (vis_of rfl) rfl rfl) o_none (o_some d_int))) (g_name nd rfl (loc_of rfl) (fn_of rfl)) (s_one (s_set nd rfl (loc_of rfl) (fn_of rfl) (by rfl) (d_bin .mod rfl hK (d_toint hK rfl (m.f "int" (by decide)) (by rfl) (d_bin .add rfl hK (d_bin .mul rfl hK (d_var rfl (vis_of rfl) rfl rfl) d_int) (d_bin .mod rfl hK (d_toint hK rfl (m.f "int" (by decide)) (by rfl) (d_var rfl (vis_of rfl) rfl rfl)) (d_bin .add rfl hK (d_bin .pow rfl hK d_int d_int) d_int)))) (d_bin .add rfl hK (d_bin .pow rfl hK d_int d_int) d_int)))))
  (s_cons (s_set nd rfl (loc_of rfl) (fn_of rfl) (by rfl) (d_bin .mod rfl hK (d_toint hK rfl (m.f "int" (by decide)) (by rfl) (d_bin .add rfl hK (d_bin .add rfl hK (d_bin .mul rfl hK (d_var rfl (vis_of rfl) rfl rfl) d_int) (d_bin .mul rfl hK (d_var rfl (vis_of rfl) rfl rfl) d_int)) (d_bin .mod rfl hK (d_toint hK rfl (m.f "int" (by decide)) (by rfl) (d_var rfl (vis_of rfl) rfl rfl)) (d_bin .add rfl hK (d_bin .pow rfl hK d_int d_int) d_int)))) (d_bin .add rfl hK (d_bin .pow rfl hK d_int d_int) d_int)))
  (s_one (s_ret (d_lst (v_cons (by rfl) (d_max2 rfl hK rfl (m.f "max" (by decide)) (by rfl) (by rfl) d_int (d_bin .sub rfl hK (d_abs hK rfl (m.f "abs" (by decide)) (by rfl) (d_var rfl (vis_of rfl) rfl rfl)) (d_bin .pow rfl hK d_int d_int))) (v_cons (by rfl) (d_var rfl (vis_of rfl) rfl rfl) (v_cons (by rfl) d_int v_nil))))))))))

abbrev st__law_draw : Stmt := top 50
theorem nd__law_draw : N__law_draw.Nodup := by decide +kernel
theorem sc__law_draw : FnScope N__law_draw ["source", "many"] (defScope st__law_draw) := ⟨rfl, rfl, rfl, nd__law_draw, rfl, by decide +kernel, by decide +kernel⟩
theorem walk__law_draw {P : Program} {w : World} {K : PySem.W.Frag} {mg : Str → Option Value} {base : Heap} {T : List Addr} {f : Addr} {fd : FuncData} (m : Mg mg) 
    {A : Around} {outer : List Env} {s : Shared} {H : Hp} {C : DC} (hK : (⟨K, w⟩ : KW) = C.K) (hT : C.T = T) (hr : Room 0 (A.deeper (envOfC "_law_draw" (defScope st__law_draw) s.heap.objs.size f fd.code))) (hG : (A.deeper (envOfC "_law_draw" (defScope st__law_draw) s.heap.objs.size f fd.code)).guards = some []) :
    PSs (cxOf CX0 P w K mg base N__law_draw "_law_draw" (defScope st__law_draw) f fd.code A outer s H E0).nox (defBody st__law_draw) (tDS C w__law_draw) := by
  have nd : N__law_draw.Nodup := nd__law_draw
  exact (s_cons (s_if (d_tcmp .gt rfl hK hr (by rfl) (d_idx hK hr (by rfl) (d_var rfl (vis_of rfl) rfl rfl) d_int) d_int) (s_cons (s_set nd rfl (loc_of rfl) (fn_of rfl) (by rfl) (d_bin .mod rfl hK (d_toint hK rfl (m.f "int" (by decide)) (by rfl) (d_idx hK hr (by rfl) (d_var rfl (vis_of rfl) rfl rfl) d_int)) (d_var rfl (vis_of rfl) rfl rfl)))
  (s_cons (s_put (j := 0) hK hr rfl (vis_of rfl) rfl rfl (by rfl) d_int (d_bin .fdiv rfl hK (d_idx hK hr (by rfl) (d_var rfl (vis_of rfl) rfl rfl) d_int) (d_var rfl (vis_of rfl) rfl rfl)))
  (s_one (s_ret (d_var rfl (vis_of rfl) rfl rfl))))) s_nil)
  (s_cons (s_put (j := 0) hK hr rfl (vis_of rfl) rfl rfl (by rfl) d_int (d_bin .add rfl hK (d_idx hK hr (by rfl) (d_var rfl (vis_of rfl) rfl rfl) d_int) d_int))
  (s_cons (s_put (j := 0) hK hr rfl (vis_of rfl) rfl rfl (by rfl) d_int (d_bin .mod rfl hK (d_toint hK rfl (m.f "int" (by decide)) (by rfl) (d_bin .add rfl hK (d_bin .add rfl hK (d_bin .mul rfl hK (d_idx hK hr (by rfl) (d_var rfl (vis_of rfl) rfl rfl) d_int) d_int) (d_bin .mul rfl hK (d_bin .mul rfl hK (d_idx hK hr (by rfl) (d_var rfl (vis_of rfl) rfl rfl) d_int) (d_idx hK hr (by rfl) (d_var rfl (vis_of rfl) rfl rfl) d_int)) d_int)) d_int)) (d_bin .add rfl hK (d_bin .pow rfl hK d_int d_int) d_int)))
  (s_one (s_ret (d_bin .mod rfl hK (d_toint hK rfl (m.f "int" (by decide)) (by rfl) (d_bin .fdiv rfl hK (d_idx hK hr (by rfl) (d_var rfl (vis_of rfl) rfl rfl) d_int) (d_bin .pow rfl hK d_int d_int))) (d_var rfl (vis_of rfl) rfl rfl)))))))

abbrev st__law_same : Stmt := top 51
theorem nd__law_same : N__law_same.Nodup := by decide +kernel
theorem sc__law_same : FnScope N__law_same ["told", "due"] (defScope st__law_same) := ⟨rfl, rfl, rfl, nd__law_same, rfl, by decide +kernel, by decide +kernel⟩
theorem walk__law_same {P : Program} {w : World} {K : PySem.W.Frag} {mg : Str → Option Value} {base : Heap} {T : List Addr} {f : Addr} {fd : FuncData} (m : Mg mg) 
    {A : Around} {outer : List Env} {s : Shared} {H : Hp} {C : DC} (hK : (⟨K, w⟩ : KW) = C.K) (hT : C.T = T) (hr : Room 0 (A.deeper (envOfC "_law_same" (defScope st__law_same) s.heap.objs.size f fd.code))) (hG : (A.deeper (envOfC "_law_same" (defScope st__law_same) s.heap.objs.size f fd.code)).guards = some []) :
    PSs (cxOf CX0 P w K mg base N__law_same "_law_same" (defScope st__law_same) f fd.code A outer s H E0).nox (defBody st__law_same) (tDS C w__law_same) := by
  have nd : N__law_same.Nodup := nd__law_same
  exact (s_one (s_ret (d_cmp .eq rfl hK hr (by rfl) (d_repr hr hG hK rfl (m.f "repr" (by decide)) (by rfl) (d_var rfl (vis_of rfl) rfl rfl)) (d_repr hr hG hK rfl (m.f "repr" (by decide)) (by rfl) (d_var rfl (vis_of rfl) rfl rfl)))))

abbrev st__law_finite : Stmt := top 52
theorem nd__law_finite : N__law_finite.Nodup := by decide +kernel
theorem sc__law_finite : FnScope N__law_finite ["source", "most"] (defScope st__law_finite) := ⟨rfl, rfl, rfl, nd__law_finite, rfl, by decide +kernel, by decide +kernel⟩
theorem walk__law_finite {P : Program} {w : World} {K : PySem.W.Frag} {mg : Str → Option Value} {base : Heap} {T : List Addr} {f : Addr} {fd : FuncData} (m : Mg mg) (k__law_draw : Known P w K mg base T "_law_draw" 1 ["source", "many"] sp__law_draw)
    {A : Around} {outer : List Env} {s : Shared} {H : Hp} {C : DC} (hK : (⟨K, w⟩ : KW) = C.K) (hT : C.T = T) (hr : Room 1 (A.deeper (envOfC "_law_finite" (defScope st__law_finite) s.heap.objs.size f fd.code))) (hG : (A.deeper (envOfC "_law_finite" (defScope st__law_finite) s.heap.objs.size f fd.code)).guards = some []) :
    PSs (cxOf CX0 P w K mg base N__law_finite "_law_finite" (defScope st__law_finite) f fd.code A outer s H E0).nox (defBody st__law_finite) (tDS C w__law_finite) := by
  have nd : N__law_finite.Nodup := nd__law_finite
  exact (s_cons (s_par2 rfl nd rfl rfl (by decide) rfl rfl (p_cons (by rfl) d_dnew (p_cons (by rfl) d_int p_nil)) (by rfl) (by rfl))
  (s_cons (s_for PassesOwn.never rfl (by rfl) (i_rng1 rfl (m.f "range" (by decide)) (by rfl) (d_callN k__law_draw hK hT hr (by decide) hG rfl rfl (by rfl) (by rfl) (r_ref rfl (vis_of rfl) rfl rfl (r_val (by rfl) d_int r_nil)))) (g_name nd rfl (loc_of rfl) (fn_of rfl)) (s_cons (s_set nd rfl (loc_of rfl) (fn_of rfl) (by rfl) (d_idx hK hr (by rfl) (d_lst (v_cons (by rfl) d_int (v_cons (by rfl) d_int (v_cons (by rfl) d_int (v_cons (by rfl) d_int v_nil))))) (d_callN k__law_draw hK hT hr (by decide) hG rfl rfl (by rfl) (by rfl) (r_ref rfl (vis_of rfl) rfl rfl (r_val (by rfl) d_int r_nil)))))
  (s_cons (s_set nd rfl (loc_of rfl) (fn_of rfl) (by rfl) (d_bin .add rfl hK d_int (d_callN k__law_draw hK hT hr (by decide) hG rfl rfl (by rfl) (by rfl) (r_ref rfl (vis_of rfl) rfl rfl (r_val (by rfl) d_int r_nil)))))
  (s_cons (s_set nd rfl (loc_of rfl) (fn_of rfl) (by rfl) (d_idx hK hr (by rfl) (d_lst (v_cons (by rfl) d_int (v_cons (by rfl) (d_var rfl (vis_of rfl) rfl rfl) (v_cons (by rfl) (d_bin .mul rfl hK (d_var rfl (vis_of rfl) rfl rfl) (d_var rfl (vis_of rfl) rfl rfl)) (v_cons (by rfl) (d_bin .mul rfl hK (d_bin .mul rfl hK (d_var rfl (vis_of rfl) rfl rfl) (d_var rfl (vis_of rfl) rfl rfl)) (d_var rfl (vis_of rfl) rfl rfl)) v_nil))))) (d_var rfl (vis_of rfl) rfl rfl)))
  (s_one (s_if (d_tcmp .le rfl hK hr (by rfl) (d_bin .mul rfl hK (d_var rfl (vis_of rfl) rfl rfl) (d_var rfl (vis_of rfl) rfl rfl)) (d_var rfl (vis_of rfl) rfl rfl)) (s_cons (s_set nd rfl (loc_of rfl) (fn_of rfl) (by rfl) (d_bin .mul rfl hK (d_var rfl (vis_of rfl) rfl rfl) (d_var rfl (vis_of rfl) rfl rfl)))
  (s_one (s_put (j := 2) hK hr rfl (vis_of rfl) rfl rfl (by rfl) (d_tup (v_cons (by rfl) d_str (v_cons (by rfl) (d_var rfl (vis_of rfl) rfl rfl) (v_cons (by rfl) (d_var rfl (vis_of rfl) rfl rfl) v_nil)))) (d_bin .add rfl hK (d_get (j := 2) hK hr rfl (vis_of rfl) rfl rfl (by rfl) (by rfl) (by rfl) (by rfl) (d_tup (v_cons (by rfl) d_str (v_cons (by rfl) (d_var rfl (vis_of rfl) rfl rfl) (v_cons (by rfl) (d_var rfl (vis_of rfl) rfl rfl) v_nil)))) d_int) d_int)))) s_nil))))))
  (s_one (s_ret (d_totup hK rfl (m.f "tuple" (by decide)) (by rfl) (d_sitems hK hr rfl rfl (vis_of rfl) rfl rfl (by rfl) (by rfl) rfl (m.f "sorted" (by decide))))))))

abbrev st__law_told : Stmt := top 53
theorem nd__law_told : N__law_told.Nodup := by decide +kernel
theorem sc__law_told : FnScope N__law_told ["source"] (defScope st__law_told) := ⟨rfl, rfl, rfl, nd__law_told, rfl, by decide +kernel, by decide +kernel⟩
theorem walk__law_told {P : Program} {w : World} {K : PySem.W.Frag} {mg : Str → Option Value} {base : Heap} {T : List Addr} {f : Addr} {fd : FuncData} (m : Mg mg) (k__law_draw : Known P w K mg base T "_law_draw" 1 ["source", "many"] sp__law_draw)
    {A : Around} {outer : List Env} {s : Shared} {H : Hp} {C : DC} (hK : (⟨K, w⟩ : KW) = C.K) (hT : C.T = T) (hr : Room 1 (A.deeper (envOfC "_law_told" (defScope st__law_told) s.heap.objs.size f fd.code))) (hG : (A.deeper (envOfC "_law_told" (defScope st__law_told) s.heap.objs.size f fd.code)).guards = some []) :
    PSs (cxOf CX0 P w K mg base N__law_told "_law_told" (defScope st__law_told) f fd.code A outer s H E0).nox (defBody st__law_told) (tDS C w__law_told) := by
  have nd : N__law_told.Nodup := nd__law_told
  exact (s_cons (s_set nd rfl (loc_of rfl) (fn_of rfl) (by rfl) d_dnew)
  (s_cons (s_for PassesOwn.never rfl (by rfl) (i_rng1 rfl (m.f "range" (by decide)) (by rfl) (d_callN k__law_draw hK hT hr (by decide) hG rfl rfl (by rfl) (by rfl) (r_ref rfl (vis_of rfl) rfl rfl (r_val (by rfl) d_int r_nil)))) (g_name nd rfl (loc_of rfl) (fn_of rfl)) (s_cons (s_set nd rfl (loc_of rfl) (fn_of rfl) (by rfl) (d_idx hK hr (by rfl) (d_lst (v_cons (by rfl) d_int (v_cons (by rfl) d_int (v_cons (by rfl) d_int (v_cons (by rfl) d_int v_nil))))) (d_callN k__law_draw hK hT hr (by decide) hG rfl rfl (by rfl) (by rfl) (r_ref rfl (vis_of rfl) rfl rfl (r_val (by rfl) d_int r_nil)))))
  (s_cons (s_set nd rfl (loc_of rfl) (fn_of rfl) (by rfl) (d_idx hK hr (by rfl) (d_lst (v_cons (by rfl) (d_tup (v_cons (by rfl) d_str v_nil)) (v_cons (by rfl) (d_tup (v_cons (by rfl) d_str v_nil)) (v_cons (by rfl) (d_tup (v_cons (by rfl) d_str (v_cons (by rfl) (d_var rfl (vis_of rfl) rfl rfl) v_nil))) (v_cons (by rfl) (d_tup (v_cons (by rfl) d_str (v_cons (by rfl) (d_var rfl (vis_of rfl) rfl rfl) v_nil))) (v_cons (by rfl) (d_tup (v_cons (by rfl) d_str (v_cons (by rfl) (d_var rfl (vis_of rfl) rfl rfl) (v_cons (by rfl) d_int v_nil)))) (v_cons (by rfl) (d_tup (v_cons (by rfl) d_str (v_cons (by rfl) (d_var rfl (vis_of rfl) rfl rfl) (v_cons (by rfl) d_int v_nil)))) (v_cons (by rfl) (d_tup (v_cons (by rfl) d_str (v_cons (by rfl) (d_var rfl (vis_of rfl) rfl rfl) (v_cons (by rfl) d_int v_nil)))) v_nil)))))))) (d_callN k__law_draw hK hT hr (by decide) hG rfl rfl (by rfl) (by rfl) (r_ref rfl (vis_of rfl) rfl rfl (r_val (by rfl) d_int r_nil)))))
  (s_cons (s_set nd rfl (loc_of rfl) (fn_of rfl) (by rfl) (d_idx hK hr (by rfl) (d_lst (v_cons (by rfl) d_int (v_cons (by rfl) d_int (v_cons (by rfl) d_int (v_cons (by rfl) d_int (v_cons (by rfl) (d_neg d_int) v_nil)))))) (d_callN k__law_draw hK hT hr (by decide) hG rfl rfl (by rfl) (by rfl) (r_ref rfl (vis_of rfl) rfl rfl (r_val (by rfl) d_int r_nil)))))
  (s_one (s_put (j := 1) hK hr rfl (vis_of rfl) rfl rfl (by rfl) (d_var rfl (vis_of rfl) rfl rfl) (d_ife (d_tcmp .inn rfl hK hr (by rfl) (d_neg d_int) (d_tup (v_cons (by rfl) (d_var rfl (vis_of rfl) rfl rfl) (v_cons (by rfl) (d_get (j := 1) hK hr rfl (vis_of rfl) rfl rfl (by rfl) (by rfl) (by rfl) (by rfl) (d_var rfl (vis_of rfl) rfl rfl) d_int) v_nil)))) (d_neg d_int) (d_bin .add rfl hK (d_var rfl (vis_of rfl) rfl rfl) (d_get (j := 1) hK hr rfl (vis_of rfl) rfl rfl (by rfl) (by rfl) (by rfl) (by rfl) (d_var rfl (vis_of rfl) rfl rfl) d_int)))))))))
  (s_one (s_ret (d_totup hK rfl (m.f "tuple" (by decide)) (by rfl) (d_lc (own := [("part", 4)]) rfl nd (by decide) (by rfl) (i_row hK (d_sorted hr rfl hK rfl (m.f "sorted" (by decide)) (by rfl) (d_var rfl (vis_of rfl) rfl rfl))) (blkOk_by (by rfl)) (fun _ _ _ _ _ => (g_name nd rfl (loc_of rfl) (fn_of rfl))) (fun _ _ _ _ _ => ts_nil) (fun _ _ _ _ _ => (d_tup (v_cons (by rfl) (d_var rfl (vis_of rfl) rfl rfl) (v_cons (by rfl) (d_min2 rfl hK rfl (m.f "min" (by decide)) (by rfl) (by rfl) d_int (d_idx hK hr (by rfl) (d_var rfl (vis_of rfl) rfl rfl) (d_var rfl (vis_of rfl) rfl rfl))) v_nil))))))))))

abbrev st__law_moduli : Stmt := top 54
theorem nd__law_moduli : N__law_moduli.Nodup := by decide +kernel
theorem sc__law_moduli : FnScope N__law_moduli ["group"] (defScope st__law_moduli) := ⟨rfl, rfl, rfl, nd__law_moduli, rfl, by decide +kernel, by decide +kernel⟩
theorem walk__law_moduli {P : Program} {w : World} {K : PySem.W.Frag} {mg : Str → Option Value} {base : Heap} {T : List Addr} {f : Addr} {fd : FuncData} (m : Mg mg) 
    {A : Around} {outer : List Env} {s : Shared} {H : Hp} {C : DC} (hK : (⟨K, w⟩ : KW) = C.K) (hT : C.T = T) (hr : Room 0 (A.deeper (envOfC "_law_moduli" (defScope st__law_moduli) s.heap.objs.size f fd.code))) (hG : (A.deeper (envOfC "_law_moduli" (defScope st__law_moduli) s.heap.objs.size f fd.code)).guards = some []) :
    PSs (cxOf CX0 P w K mg base N__law_moduli "_law_moduli" (defScope st__law_moduli) f fd.code A outer s H E0).nox (defBody st__law_moduli) (tDS C w__law_moduli) := by
  have nd : N__law_moduli.Nodup := nd__law_moduli
  exact (s_cons (s_set nd rfl (loc_of rfl) (fn_of rfl) (by rfl) (d_lst v_nil))
  (s_cons (s_for PassesOwn.never rfl (by rfl) (i_row hK (d_var rfl (vis_of rfl) rfl rfl)) (g_tup hK rfl (gs_cons (g_name nd rfl (loc_of rfl) (fn_of rfl)) (gs_cons (g_name nd rfl (loc_of rfl) (fn_of rfl)) gs_nil (by rfl)) (by rfl)) (by rfl) (by rfl)) (s_cons (s_set nd rfl (loc_of rfl) (fn_of rfl) (by rfl) d_int)
  (s_cons (s_for PassesOwn.never rfl (by rfl) (i_rng1 rfl (m.f "range" (by decide)) (by rfl) (d_idx hK hr (by rfl) (d_var rfl (vis_of rfl) rfl rfl) d_int)) (g_name nd rfl (loc_of rfl) (fn_of rfl)) (s_one (s_set nd rfl (loc_of rfl) (fn_of rfl) (by rfl) (d_bin .mul rfl hK (d_var rfl (vis_of rfl) rfl rfl) (d_idx hK hr (by rfl) (d_var rfl (vis_of rfl) rfl rfl) d_int)))))
  (s_one (s_set nd rfl (loc_of rfl) (fn_of rfl) (by rfl) (d_bin .add rfl hK (d_var rfl (vis_of rfl) rfl rfl) (d_bin .mul rfl hK (d_lst (v_cons (by rfl) (d_var rfl (vis_of rfl) rfl rfl) v_nil)) (d_var rfl (vis_of rfl) rfl rfl))))))))
  (s_one (s_ret (d_var rfl (vis_of rfl) rfl rfl)))))

abbrev st__law_all : Stmt := top 55
theorem nd__law_all : N__law_all.Nodup := by decide +kernel
theorem sc__law_all : FnScope N__law_all ["moduli"] (defScope st__law_all) := ⟨rfl, rfl, rfl, nd__law_all, rfl, by decide +kernel, by decide +kernel⟩
theorem walk__law_all {P : Program} {w : World} {K : PySem.W.Frag} {mg : Str → Option Value} {base : Heap} {T : List Addr} {f : Addr} {fd : FuncData} (m : Mg mg) 
    {A : Around} {outer : List Env} {s : Shared} {H : Hp} {C : DC} (hK : (⟨K, w⟩ : KW) = C.K) (hT : C.T = T) (hr : Room 0 (A.deeper (envOfC "_law_all" (defScope st__law_all) s.heap.objs.size f fd.code))) (hG : (A.deeper (envOfC "_law_all" (defScope st__law_all) s.heap.objs.size f fd.code)).guards = some []) :
    PSs (cxOf CX0 P w K mg base N__law_all "_law_all" (defScope st__law_all) f fd.code A outer s H E0).nox (defBody st__law_all) (tDS C w__law_all) := by
  have nd : N__law_all.Nodup := nd__law_all
  exact (s_cons (s_set nd rfl (loc_of rfl) (fn_of rfl) (by rfl) (d_lst (v_cons (by rfl) (d_tup v_nil) v_nil)))
  (s_cons (s_for PassesOwn.never rfl (by rfl) (i_row hK (d_var rfl (vis_of rfl) rfl rfl)) (g_name nd rfl (loc_of rfl) (fn_of rfl)) (s_cons (s_set nd rfl (loc_of rfl) (fn_of rfl) (by rfl) (d_lst v_nil))
  (s_cons (s_for PassesOwn.never rfl (by rfl) (i_row hK (d_var rfl (vis_of rfl) rfl rfl)) (g_name nd rfl (loc_of rfl) (fn_of rfl)) (s_one (s_ext hK rfl (vis_of rfl) rfl rfl (by rfl) (by rfl) (by rfl) (d_lc (own := [("value", 5)]) rfl nd (by decide) (by rfl) (i_rng1 rfl (m.f "range" (by decide)) (by rfl) (d_var rfl (vis_of rfl) rfl rfl)) (blkOk_by (by rfl)) (fun _ _ _ _ _ => (g_name nd rfl (loc_of rfl) (fn_of rfl))) (fun _ _ _ _ _ => ts_nil) (fun _ _ _ _ _ => (d_bin .add rfl hK (d_var rfl (vis_of rfl) rfl rfl) (d_tup (v_cons (by rfl) (d_var rfl (vis_of rfl) rfl rfl) v_nil))))))))
  (s_one (s_set nd rfl (loc_of rfl) (fn_of rfl) (by rfl) (d_var rfl (vis_of rfl) rfl rfl))))))
  (s_one (s_ret (d_var rfl (vis_of rfl) rfl rfl)))))

abbrev st__law_row_holds : Stmt := top 56
theorem nd__law_row_holds : N__law_row_holds.Nodup := by decide +kernel
theorem sc__law_row_holds : FnScope N__law_row_holds ["moduli", "d", "a", "points"] (defScope st__law_row_holds) := ⟨rfl, rfl, rfl, nd__law_row_holds, rfl, by decide +kernel, by decide +kernel⟩
theorem walk__law_row_holds {P : Program} {w : World} {K : PySem.W.Frag} {mg : Str → Option Value} {base : Heap} {T : List Addr} {f : Addr} {fd : FuncData} (m : Mg mg) 
    {A : Around} {outer : List Env} {s : Shared} {H : Hp} {C : DC} (hK : (⟨K, w⟩ : KW) = C.K) (hT : C.T = T) (hr : Room 0 (A.deeper (envOfC "_law_row_holds" (defScope st__law_row_holds) s.heap.objs.size f fd.code))) (hG : (A.deeper (envOfC "_law_row_holds" (defScope st__law_row_holds) s.heap.objs.size f fd.code)).guards = some []) :
    PSs (cxOf CX0 P w K mg base N__law_row_holds "_law_row_holds" (defScope st__law_row_holds) f fd.code A outer s H E0).nox (defBody st__law_row_holds) (tDS C w__law_row_holds) := by
  have nd : N__law_row_holds.Nodup := nd__law_row_holds
  exact (s_cons (s_for PassesOwn.never rfl (by rfl) (i_rng1 rfl (m.f "range" (by decide)) (by rfl) (d_len hK rfl (m.f "len" (by decide)) (by rfl) (d_var rfl (vis_of rfl) rfl rfl))) (g_name nd rfl (loc_of rfl) (fn_of rfl)) (s_cons (s_set nd rfl (loc_of rfl) (fn_of rfl) (by rfl) (d_sum rfl hK rfl (m.f "sum" (by decide)) (by rfl) (d_lc (own := [("j", 6)]) rfl nd (by decide) (by rfl) (i_rng1 rfl (m.f "range" (by decide)) (by rfl) (d_len hK rfl (m.f "len" (by decide)) (by rfl) (d_var rfl (vis_of rfl) rfl rfl))) (blkOk_by (by rfl)) (fun _ _ _ _ _ => (g_name nd rfl (loc_of rfl) (fn_of rfl))) (fun _ _ _ _ _ => ts_nil) (fun _ _ _ _ _ => (d_bin .mul rfl hK (d_idx hK hr (by rfl) (d_var rfl (vis_of rfl) rfl rfl) (d_var rfl (vis_of rfl) rfl rfl)) (d_idx hK hr (by rfl) (d_idx hK hr (by rfl) (d_var rfl (vis_of rfl) rfl rfl) (d_var rfl (vis_of rfl) rfl rfl)) (d_var rfl (vis_of rfl) rfl rfl)))))))
  (s_one (s_if (d_tnot (d_ttru hK (by rfl) (d_anyL rfl hK rfl (m.f "any" (by decide)) (by rfl) (d_lc (own := [("own", 7)]) rfl nd (by decide) (by rfl) (i_rng1 rfl (m.f "range" (by decide)) (by rfl) (d_idx hK hr (by rfl) (d_var rfl (vis_of rfl) rfl rfl) (d_var rfl (vis_of rfl) rfl rfl))) (blkOk_by (by rfl)) (fun _ _ _ _ _ => (g_name nd rfl (loc_of rfl) (fn_of rfl))) (fun _ _ _ _ _ => ts_nil) (fun _ _ _ _ _ => (d_cmp .eq rfl hK hr (by rfl) (d_bin .mod rfl hK (d_bin .sub rfl hK (d_bin .mul rfl hK (d_var rfl (vis_of rfl) rfl rfl) (d_var rfl (vis_of rfl) rfl rfl)) (d_var rfl (vis_of rfl) rfl rfl)) (d_idx hK hr (by rfl) (d_var rfl (vis_of rfl) rfl rfl) (d_var rfl (vis_of rfl) rfl rfl))) d_int)))))) (s_one (s_ret d_bl)) s_nil))))
  (s_one (s_ret d_bl)))

abbrev st__law_index : Stmt := top 57
theorem nd__law_index : N__law_index.Nodup := by decide +kernel
theorem sc__law_index : FnScope N__law_index ["moduli", "every", "one", "other"] (defScope st__law_index) := ⟨rfl, rfl, rfl, nd__law_index, rfl, by decide +kernel, by decide +kernel⟩
theorem walk__law_index {P : Program} {w : World} {K : PySem.W.Frag} {mg : Str → Option Value} {base : Heap} {T : List Addr} {f : Addr} {fd : FuncData} (m : Mg mg) (k__law_row_holds : Known P w K mg base T "_law_row_holds" 1 ["moduli", "d", "a", "points"] sp__law_row_holds)
    {A : Around} {outer : List Env} {s : Shared} {H : Hp} {C : DC} (hK : (⟨K, w⟩ : KW) = C.K) (hT : C.T = T) (hr : Room 1 (A.deeper (envOfC "_law_index" (defScope st__law_index) s.heap.objs.size f fd.code))) (hG : (A.deeper (envOfC "_law_index" (defScope st__law_index) s.heap.objs.size f fd.code)).guards = some []) :
    PSs (cxOf CX0 P w K mg base N__law_index "_law_index" (defScope st__law_index) f fd.code A outer s H E0).nox (defBody st__law_index) (tDS C w__law_index) := by
  have nd : N__law_index.Nodup := nd__law_index
  exact (s_cons (s_setLc (own := [("x", 8)]) rfl nd rfl rfl (by rfl) (by decide) (by rfl) (i_row hK (d_var rfl (vis_of rfl) rfl rfl)) (blkOk_by (by rfl)) (fun _ _ _ _ _ => (g_name nd rfl (loc_of rfl) (fn_of rfl))) (fun _ _ _ _ _ => (ts_one (d_ttru hK (by rfl) (d_allL rfl hK rfl (m.f "all" (by decide)) (by rfl) (d_lc (own := [("d", 6), ("a", 7)]) rfl nd (by decide) (by rfl) (i_row hK (d_var rfl (vis_of rfl) rfl rfl)) (blkOk_by (by rfl)) (fun _ _ _ _ _ => (g_tup hK rfl (gs_cons (g_name nd rfl (loc_of rfl) (fn_of rfl)) (gs_cons (g_name nd rfl (loc_of rfl) (fn_of rfl)) gs_nil (by rfl)) (by rfl)) (by rfl) (by rfl))) (fun _ _ _ _ _ => ts_nil) (fun _ _ _ _ _ => (d_callN k__law_row_holds hK hT hr (by decide) hG rfl rfl (by rfl) (by rfl) (r_val (by rfl) (d_var rfl (vis_of rfl) rfl rfl) (r_val (by rfl) (d_var rfl (vis_of rfl) rfl rfl) (r_val (by rfl) (d_var rfl (vis_of rfl) rfl rfl) (r_val (by rfl) (d_tup (v_cons (by rfl) (d_var rfl (vis_of rfl) rfl rfl) v_nil)) r_nil))))))))))) (fun _ _ _ _ _ => (d_var rfl (vis_of rfl) rfl rfl)))
  (s_cons (s_setLc (own := [("x", 8)]) rfl nd rfl rfl (by rfl) (by decide) (by rfl) (i_row hK (d_var rfl (vis_of rfl) rfl rfl)) (blkOk_by (by rfl)) (fun _ _ _ _ _ => (g_name nd rfl (loc_of rfl) (fn_of rfl))) (fun _ _ _ _ _ => (ts_one (d_ttru hK (by rfl) (d_allL rfl hK rfl (m.f "all" (by decide)) (by rfl) (d_lc (own := [("d", 6), ("a", 7)]) rfl nd (by decide) (by rfl) (i_row hK (d_var rfl (vis_of rfl) rfl rfl)) (blkOk_by (by rfl)) (fun _ _ _ _ _ => (g_tup hK rfl (gs_cons (g_name nd rfl (loc_of rfl) (fn_of rfl)) (gs_cons (g_name nd rfl (loc_of rfl) (fn_of rfl)) gs_nil (by rfl)) (by rfl)) (by rfl) (by rfl))) (fun _ _ _ _ _ => ts_nil) (fun _ _ _ _ _ => (d_callN k__law_row_holds hK hT hr (by decide) hG rfl rfl (by rfl) (by rfl) (r_val (by rfl) (d_var rfl (vis_of rfl) rfl rfl) (r_val (by rfl) (d_var rfl (vis_of rfl) rfl rfl) (r_val (by rfl) (d_var rfl (vis_of rfl) rfl rfl) (r_val (by rfl) (d_tup (v_cons (by rfl) (d_var rfl (vis_of rfl) rfl rfl) v_nil)) r_nil))))))))))) (fun _ _ _ _ _ => (d_var rfl (vis_of rfl) rfl rfl)))
  (s_one (s_ret (d_bin .fdiv rfl hK (d_len hK rfl (m.f "len" (by decide)) (by rfl) (d_var rfl (vis_of rfl) rfl rfl)) (d_len hK rfl (m.f "len" (by decide)) (by rfl) (d_var rfl (vis_of rfl) rfl rfl)))))))

abbrev st__law_pairs_drawn : Stmt := top 58
theorem nd__law_pairs_drawn : N__law_pairs_drawn.Nodup := by decide +kernel
theorem sc__law_pairs_drawn : FnScope N__law_pairs_drawn ["source"] (defScope st__law_pairs_drawn) := ⟨rfl, rfl, rfl, nd__law_pairs_drawn, rfl, by decide +kernel, by decide +kernel⟩
theorem walk__law_pairs_drawn {P : Program} {w : World} {K : PySem.W.Frag} {mg : Str → Option Value} {base : Heap} {T : List Addr} {f : Addr} {fd : FuncData} (m : Mg mg) (k__law_draw : Known P w K mg base T "_law_draw" 1 ["source", "many"] sp__law_draw)
    {A : Around} {outer : List Env} {s : Shared} {H : Hp} {C : DC} (hK : (⟨K, w⟩ : KW) = C.K) (hT : C.T = T) (hr : Room 1 (A.deeper (envOfC "_law_pairs_drawn" (defScope st__law_pairs_drawn) s.heap.objs.size f fd.code))) (hG : (A.deeper (envOfC "_law_pairs_drawn" (defScope st__law_pairs_drawn) s.heap.objs.size f fd.code)).guards = some []) :
    PSs (cxOf CX0 P w K mg base N__law_pairs_drawn "_law_pairs_drawn" (defScope st__law_pairs_drawn) f fd.code A outer s H E0).nox (defBody st__law_pairs_drawn) (tDS C w__law_pairs_drawn) := by
  have nd : N__law_pairs_drawn.Nodup := nd__law_pairs_drawn
  exact (s_cons (s_set nd rfl (loc_of rfl) (fn_of rfl) (by rfl) (d_lst v_nil))
  (s_cons (s_for PassesOwn.never rfl (by rfl) (i_rng1 rfl (m.f "range" (by decide)) (by rfl) (d_bin .add rfl hK d_int (d_callN k__law_draw hK hT hr (by decide) hG rfl rfl (by rfl) (by rfl) (r_ref rfl (vis_of rfl) rfl rfl (r_val (by rfl) d_int r_nil))))) (g_name nd rfl (loc_of rfl) (fn_of rfl)) (s_cons (s_set nd rfl (loc_of rfl) (fn_of rfl) (by rfl) (d_lst v_nil))
  (s_cons (s_for PassesOwn.never rfl (by rfl) (i_row hK (d_tup (v_cons (by rfl) d_int (v_cons (by rfl) d_int v_nil)))) (g_name nd rfl (loc_of rfl) (fn_of rfl)) (s_cons (s_setLc (own := [("step", 6)]) rfl nd rfl rfl (by rfl) (by decide) (by rfl) (i_rng1 rfl (m.f "range" (by decide)) (by rfl) (d_callN k__law_draw hK hT hr (by decide) hG rfl rfl (by rfl) (by rfl) (r_ref rfl (vis_of rfl) rfl rfl (r_val (by rfl) (d_bin .sub rfl hK d_int (d_var rfl (vis_of rfl) rfl rfl)) r_nil)))) (blkOk_by (by rfl)) (fun _ _ _ _ _ => (g_name nd rfl (loc_of rfl) (fn_of rfl))) (fun _ _ _ _ _ => ts_nil) (fun _ _ _ _ _ => (d_tup (v_cons (by rfl) (d_idx hK hr (by rfl) (d_lst (v_cons (by rfl) d_int (v_cons (by rfl) d_int (v_cons (by rfl) d_int (v_cons (by rfl) d_int (v_cons (by rfl) d_int (v_cons (by rfl) d_int v_nil))))))) (d_callN k__law_draw hK hT hr (by decide) hG rfl rfl (by rfl) (by rfl) (r_ref rfl (vis_of rfl) rfl rfl (r_val (by rfl) d_int r_nil)))) (v_cons (by rfl) (d_tup (v_cons (by rfl) (d_idx hK hr (by rfl) (d_lst (v_cons (by rfl) d_int (v_cons (by rfl) d_int (v_cons (by rfl) d_int (v_cons (by rfl) d_int (v_cons (by rfl) d_int (v_cons (by rfl) d_int v_nil))))))) (d_callN k__law_draw hK hT hr (by decide) hG rfl rfl (by rfl) (by rfl) (r_ref rfl (vis_of rfl) rfl rfl (r_val (by rfl) d_int r_nil)))) v_nil)) v_nil)))))
  (s_one (s_app rfl (vis_of rfl) rfl rfl (by rfl) (by rfl) (by rfl) (d_totup hK rfl (m.f "tuple" (by decide)) (by rfl) (d_var rfl (vis_of rfl) rfl rfl))))))
  (s_one (s_app rfl (vis_of rfl) rfl rfl (by rfl) (by rfl) (by rfl) (d_tup (v_cons (by rfl) (d_idx hK hr (by rfl) (d_var rfl (vis_of rfl) rfl rfl) d_int) (v_cons (by rfl) (d_idx hK hr (by rfl) (d_var rfl (vis_of rfl) rfl rfl) d_int) (v_cons (by rfl) (d_bin .add rfl hK d_int (d_callN k__law_draw hK hT hr (by decide) hG rfl rfl (by rfl) (by rfl) (r_ref rfl (vis_of rfl) rfl rfl (r_val (by rfl) d_int r_nil)))) v_nil)))))))))
  (s_one (s_ret (d_totup hK rfl (m.f "tuple" (by decide)) (by rfl) (d_var rfl (vis_of rfl) rfl rfl))))))

abbrev st__law_capped : Stmt := top 59
theorem nd__law_capped : N__law_capped.Nodup := by decide +kernel
theorem sc__law_capped : FnScope N__law_capped ["index", "most"] (defScope st__law_capped) := ⟨rfl, rfl, rfl, nd__law_capped, rfl, by decide +kernel, by decide +kernel⟩
theorem walk__law_capped {P : Program} {w : World} {K : PySem.W.Frag} {mg : Str → Option Value} {base : Heap} {T : List Addr} {f : Addr} {fd : FuncData} (m : Mg mg) 
    {A : Around} {outer : List Env} {s : Shared} {H : Hp} {C : DC} (hK : (⟨K, w⟩ : KW) = C.K) (hT : C.T = T) (hr : Room 0 (A.deeper (envOfC "_law_capped" (defScope st__law_capped) s.heap.objs.size f fd.code))) (hG : (A.deeper (envOfC "_law_capped" (defScope st__law_capped) s.heap.objs.size f fd.code)).guards = some []) :
    PSs (cxOf CX0 P w K mg base N__law_capped "_law_capped" (defScope st__law_capped) f fd.code A outer s H E0).nox (defBody st__law_capped) (tDS C w__law_capped) := by
  have nd : N__law_capped.Nodup := nd__law_capped
  exact (s_one (s_ret (d_ife (d_tisN (d_var rfl (vis_of rfl) rfl rfl)) (d_var rfl (vis_of rfl) rfl rfl) (d_min2 rfl hK rfl (m.f "min" (by decide)) (by rfl) (by rfl) (d_var rfl (vis_of rfl) rfl rfl) (d_var rfl (vis_of rfl) rfl rfl)))))

abbrev st__law_product : Stmt := top 60
theorem nd__law_product : N__law_product.Nodup := by decide +kernel
theorem sc__law_product : FnScope N__law_product ["one", "other", "pairs"] (defScope st__law_product) := ⟨rfl, rfl, rfl, nd__law_product, rfl, by decide +kernel, by decide +kernel⟩
theorem walk__law_product {P : Program} {w : World} {K : PySem.W.Frag} {mg : Str → Option Value} {base : Heap} {T : List Addr} {f : Addr} {fd : FuncData} (m : Mg mg) 
    {A : Around} {outer : List Env} {s : Shared} {H : Hp} {C : DC} (hK : (⟨K, w⟩ : KW) = C.K) (hT : C.T = T) (hr : Room 0 (A.deeper (envOfC "_law_product" (defScope st__law_product) s.heap.objs.size f fd.code))) (hG : (A.deeper (envOfC "_law_product" (defScope st__law_product) s.heap.objs.size f fd.code)).guards = some []) :
    PSs (cxOf CX0 P w K mg base N__law_product "_law_product" (defScope st__law_product) f fd.code A outer s H E0).nox (defBody st__law_product) (tDS C w__law_product) := by
  have nd : N__law_product.Nodup := nd__law_product
  exact (s_one (s_ret (d_totup hK rfl (m.f "tuple" (by decide)) (by rfl) (d_lc (own := [("mine", 3), ("theirs", 4), ("pair", 5)]) rfl nd (by decide) (by rfl) (i_zip3 hK rfl (m.f "zip" (by decide)) (by rfl) (by rfl) (by rfl) (v_cons (by rfl) (d_var rfl (vis_of rfl) rfl rfl) (v_cons (by rfl) (d_var rfl (vis_of rfl) rfl rfl) (v_cons (by rfl) (d_var rfl (vis_of rfl) rfl rfl) v_nil)))) (blkOk_by (by rfl)) (fun _ _ _ _ _ => (g_tup hK rfl (gs_cons (g_name nd rfl (loc_of rfl) (fn_of rfl)) (gs_cons (g_name nd rfl (loc_of rfl) (fn_of rfl)) (gs_cons (g_name nd rfl (loc_of rfl) (fn_of rfl)) gs_nil (by rfl)) (by rfl)) (by rfl)) (by rfl) (by rfl))) (fun _ _ _ _ _ => ts_nil) (fun _ _ _ _ _ => (d_min2 rfl hK rfl (m.f "min" (by decide)) (by rfl) (by rfl) (d_bin .mul rfl hK (d_var rfl (vis_of rfl) rfl rfl) (d_var rfl (vis_of rfl) rfl rfl)) (d_idx hK hr (by rfl) (d_var rfl (vis_of rfl) rfl rfl) d_int)))))))

abbrev st_law : Stmt := top 61
theorem nd_law : N_law.Nodup := by decide +kernel
theorem sc_law : FnScope N_law ["script"] (defScope st_law) := ⟨rfl, rfl, rfl, nd_law, rfl, by decide +kernel, by decide +kernel⟩
theorem walk_law {P : Program} {w : World} {K : PySem.W.Frag} {mg : Str → Option Value} {base : Heap} {T : List Addr} {f : Addr} {fd : FuncData} (m : Mg mg) (k__law_all : Known P w K mg base T "_law_all" 1 ["moduli"] sp__law_all) (k__law_capped : Known P w K mg base T "_law_capped" 1 ["index", "most"] sp__law_capped) (k__law_finite : Known P w K mg base T "_law_finite" 2 ["source", "most"] sp__law_finite) (k__law_index : Known P w K mg base T "_law_index" 2 ["moduli", "every", "one", "other"] sp__law_index) (k__law_moduli : Known P w K mg base T "_law_moduli" 1 ["group"] sp__law_moduli) (k__law_pairs_drawn : Known P w K mg base T "_law_pairs_drawn" 2 ["source"] sp__law_pairs_drawn) (k__law_product : Known P w K mg base T "_law_product" 1 ["one", "other", "pairs"] sp__law_product) (k__law_same : Known P w K mg base T "_law_same" 1 ["told", "due"] sp__law_same) (k__law_source : Known P w K mg base T "_law_source" 1 ["script", "k"] sp__law_source) (k__law_told : Known P w K mg base T "_law_told" 2 ["source"] sp__law_told) (k_index_in : Known P w K mg base T "index_in" 10 ["group", "one", "other"] sp_index_in) (k_sum_of : Known P w K mg base T "sum_of" 10 ["one", "other"] sp_sum_of) (k_vector_of : Known P w K mg base T "vector_of" 10 ["group", "pairs"] sp_vector_of) (k_vector_ofK : KnownK P w K mg base T "vector_of" 10 ["group", "pairs"] 0 ["pairs", "group"] [1, 0] sp_vector_of)
    {A : Around} {outer : List Env} {s : Shared} {H : Hp} {C : DC} (hK : (⟨K, w⟩ : KW) = C.K) (hT : C.T = T) (hr : Room 10 (A.deeper (envOfC "law" (defScope st_law) s.heap.objs.size f fd.code))) (hG : (A.deeper (envOfC "law" (defScope st_law) s.heap.objs.size f fd.code)).guards = some []) :
    PSs (cxOf CX0 P w K mg base N_law "law" (defScope st_law) f fd.code A outer s H E0).nox (defBody st_law) (tDS C w_law) := by
  have nd : N_law.Nodup := nd_law
  exact (s_cons (s_for PassesOwn.never rfl (by rfl) (i_rng1 rfl (m.f "range" (by decide)) (by rfl) (d_max2 rfl hK rfl (m.f "max" (by decide)) (by rfl) (by rfl) d_int (d_min2 rfl hK rfl (m.f "min" (by decide)) (by rfl) (by rfl) d_int (d_len hK rfl (m.f "len" (by decide)) (by rfl) (d_var rfl (vis_of rfl) rfl rfl))))) (g_name nd rfl (loc_of rfl) (fn_of rfl)) (s_cons (s_set nd rfl (loc_of rfl) (fn_of rfl) (by rfl) (d_callN k__law_source hK hT hr (by decide) hG rfl rfl (by rfl) (by rfl) (r_val (by rfl) (d_var rfl (vis_of rfl) rfl rfl) (r_val (by rfl) (d_var rfl (vis_of rfl) rfl rfl) r_nil))))
  (s_one (s_for PassesOwn.never rfl (by rfl) (i_rng1 rfl (m.f "range" (by decide)) (by rfl) d_int) (g_name nd rfl (loc_of rfl) (fn_of rfl)) (s_cons (s_asg (d_tup (v_cons (by rfl) (d_callN k__law_told hK hT hr (by decide) hG rfl rfl (by rfl) (by rfl) (r_ref rfl (vis_of rfl) rfl rfl r_nil)) (v_cons (by rfl) (d_callN k__law_told hK hT hr (by decide) hG rfl rfl (by rfl) (by rfl) (r_ref rfl (vis_of rfl) rfl rfl r_nil)) (v_cons (by rfl) (d_callN k__law_finite hK hT hr (by decide) hG rfl rfl (by rfl) (by rfl) (r_ref rfl (vis_of rfl) rfl rfl (r_val (by rfl) d_int r_nil))) (v_cons (by rfl) (d_callN k__law_pairs_drawn hK hT hr (by decide) hG rfl rfl (by rfl) (by rfl) (r_ref rfl (vis_of rfl) rfl rfl r_nil)) v_nil))))) (g_tup hK rfl (gs_cons (g_name nd rfl (loc_of rfl) (fn_of rfl)) (gs_cons (g_name nd rfl (loc_of rfl) (fn_of rfl)) (gs_cons (g_name nd rfl (loc_of rfl) (fn_of rfl)) (gs_cons (g_name nd rfl (loc_of rfl) (fn_of rfl)) gs_nil (by rfl)) (by rfl)) (by rfl)) (by rfl)) (by rfl) (by rfl)) (by rfl) (by rfl) (by rfl))
  (s_cons (s_set nd rfl (loc_of rfl) (fn_of rfl) (by rfl) (d_repr hr hG hK rfl (m.f "repr" (by decide)) (by rfl) (d_lst (v_cons (by rfl) (d_var rfl (vis_of rfl) rfl rfl) (v_cons (by rfl) (d_var rfl (vis_of rfl) rfl rfl) v_nil)))))
  (s_cons (s_set nd rfl (loc_of rfl) (fn_of rfl) (by rfl) (d_totup hK rfl (m.f "tuple" (by decide)) (by rfl) (d_lc (own := [("one", 15), ("more", 16), ("k", 17)]) rfl nd (by decide) (by rfl) (i_row hK (d_var rfl (vis_of rfl) rfl rfl)) (blkOk_by (by rfl)) (fun _ _ _ _ _ => (g_tup hK rfl (gs_cons (g_name nd rfl (loc_of rfl) (fn_of rfl)) (gs_cons (g_name nd rfl (loc_of rfl) (fn_of rfl)) (gs_cons (g_name nd rfl (loc_of rfl) (fn_of rfl)) gs_nil (by rfl)) (by rfl)) (by rfl)) (by rfl) (by rfl))) (fun _ _ _ _ _ => ts_nil) (fun _ _ _ _ _ => (d_callN k__law_capped hK hT hr (by decide) hG rfl rfl (by rfl) (by rfl) (r_val (by rfl) (d_callN k_index_in hK hT hr (by decide) hG rfl rfl (by rfl) (by rfl) (r_val (by rfl) (d_var rfl (vis_of rfl) rfl rfl) (r_val (by rfl) (d_var rfl (vis_of rfl) rfl rfl) (r_val (by rfl) (d_var rfl (vis_of rfl) rfl rfl) r_nil)))) (r_val (by rfl) (d_var rfl (vis_of rfl) rfl rfl) r_nil)))))))
  (s_cons (s_if (d_tnot (d_ttru hK (by rfl) (d_callN k__law_same hK hT hr (by decide) hG rfl rfl (by rfl) (by rfl) (r_val (by rfl) (d_lst (v_cons (by rfl) (d_callN k_vector_of hK hT hr (by decide) hG rfl rfl (by rfl) (by rfl) (r_val (by rfl) (d_var rfl (vis_of rfl) rfl rfl) (r_val (by rfl) (d_var rfl (vis_of rfl) rfl rfl) r_nil))) (v_cons (by rfl) (d_callNK0 k_vector_ofK hK hT hr (by decide) hG rfl rfl (by rfl) (by rfl) (by rfl) rfl (k_cons (d_var rfl (vis_of rfl) rfl rfl) (k_cons (d_var rfl (vis_of rfl) rfl rfl) k_nil))) v_nil))) (r_val (by rfl) (d_lst (v_cons (by rfl) (d_var rfl (vis_of rfl) rfl rfl) (v_cons (by rfl) (d_var rfl (vis_of rfl) rfl rfl) v_nil))) r_nil))))) (s_one (s_ret d_bl)) s_nil)
  (s_cons (s_set nd rfl (loc_of rfl) (fn_of rfl) (by rfl) (d_callN k__law_moduli hK hT hr (by decide) hG rfl rfl (by rfl) (by rfl) (r_val (by rfl) (d_var rfl (vis_of rfl) rfl rfl) r_nil)))
  (s_cons (s_set nd rfl (loc_of rfl) (fn_of rfl) (by rfl) (d_callN k__law_all hK hT hr (by decide) hG rfl rfl (by rfl) (by rfl) (r_val (by rfl) (d_var rfl (vis_of rfl) rfl rfl) r_nil)))
  (s_cons (s_set nd rfl (loc_of rfl) (fn_of rfl) (by rfl) (d_totup hK rfl (m.f "tuple" (by decide)) (by rfl) (d_lc (own := [("one", 15), ("more", 16), ("k", 17)]) rfl nd (by decide) (by rfl) (i_row hK (d_var rfl (vis_of rfl) rfl rfl)) (blkOk_by (by rfl)) (fun _ _ _ _ _ => (g_tup hK rfl (gs_cons (g_name nd rfl (loc_of rfl) (fn_of rfl)) (gs_cons (g_name nd rfl (loc_of rfl) (fn_of rfl)) (gs_cons (g_name nd rfl (loc_of rfl) (fn_of rfl)) gs_nil (by rfl)) (by rfl)) (by rfl)) (by rfl) (by rfl))) (fun _ _ _ _ _ => ts_nil) (fun _ _ _ _ _ => (d_min2 rfl hK rfl (m.f "min" (by decide)) (by rfl) (by rfl) (d_callN k__law_index hK hT hr (by decide) hG rfl rfl (by rfl) (by rfl) (r_val (by rfl) (d_var rfl (vis_of rfl) rfl rfl) (r_val (by rfl) (d_var rfl (vis_of rfl) rfl rfl) (r_val (by rfl) (d_var rfl (vis_of rfl) rfl rfl) (r_val (by rfl) (d_var rfl (vis_of rfl) rfl rfl) r_nil))))) (d_var rfl (vis_of rfl) rfl rfl))))))
  (s_cons (s_set nd rfl (loc_of rfl) (fn_of rfl) (by rfl) (d_lst (v_cons (by rfl) (d_callN k_vector_of hK hT hr (by decide) hG rfl rfl (by rfl) (by rfl) (r_val (by rfl) (d_var rfl (vis_of rfl) rfl rfl) (r_val (by rfl) (d_var rfl (vis_of rfl) rfl rfl) r_nil))) (v_cons (by rfl) (d_callN k_vector_of hK hT hr (by decide) hG rfl rfl (by rfl) (by rfl) (r_val (by rfl) (d_tup v_nil) (r_val (by rfl) (d_var rfl (vis_of rfl) rfl rfl) r_nil))) (v_cons (by rfl) (d_callN k_vector_of hK hT hr (by decide) hG rfl rfl (by rfl) (by rfl) (r_val (by rfl) (d_var rfl (vis_of rfl) rfl rfl) (r_val (by rfl) (d_tup v_nil) r_nil))) (v_cons (by rfl) (d_callN k_vector_of hK hT hr (by decide) hG rfl rfl (by rfl) (by rfl) (r_val (by rfl) (d_callN k_sum_of hK hT hr (by decide) hG rfl rfl (by rfl) (by rfl) (r_val (by rfl) (d_var rfl (vis_of rfl) rfl rfl) (r_val (by rfl) (d_var rfl (vis_of rfl) rfl rfl) r_nil))) (r_val (by rfl) (d_var rfl (vis_of rfl) rfl rfl) r_nil))) v_nil))))))
  (s_cons (s_if (d_tnot (d_ttru hK (by rfl) (d_callN k__law_same hK hT hr (by decide) hG rfl rfl (by rfl) (by rfl) (r_val (by rfl) (d_var rfl (vis_of rfl) rfl rfl) (r_val (by rfl) (d_lst (v_cons (by rfl) (d_var rfl (vis_of rfl) rfl rfl) (v_cons (by rfl) (d_bin .mul rfl hK (d_tup (v_cons (by rfl) d_int v_nil)) (d_len hK rfl (m.f "len" (by decide)) (by rfl) (d_var rfl (vis_of rfl) rfl rfl))) (v_cons (by rfl) (d_tup v_nil) (v_cons (by rfl) (d_callN k__law_product hK hT hr (by decide) hG rfl rfl (by rfl) (by rfl) (r_val (by rfl) (d_var rfl (vis_of rfl) rfl rfl) (r_val (by rfl) (d_var rfl (vis_of rfl) rfl rfl) (r_val (by rfl) (d_var rfl (vis_of rfl) rfl rfl) r_nil)))) v_nil))))) r_nil))))) (s_one (s_ret d_bl)) s_nil)
  (s_cons (s_set nd rfl (loc_of rfl) (fn_of rfl) (by rfl) (d_callN k_vector_of hK hT hr (by decide) hG rfl rfl (by rfl) (by rfl) (r_val (by rfl) (d_var rfl (vis_of rfl) rfl rfl) (r_val (by rfl) (d_var rfl (vis_of rfl) rfl rfl) r_nil))))
  (s_cons (s_set nd rfl (loc_of rfl) (fn_of rfl) (by rfl) (d_lst (v_cons (by rfl) (d_callN k_vector_of hK hT hr (by decide) hG rfl rfl (by rfl) (by rfl) (r_val (by rfl) (d_callN k_sum_of hK hT hr (by decide) hG rfl rfl (by rfl) (by rfl) (r_val (by rfl) (d_var rfl (vis_of rfl) rfl rfl) (r_val (by rfl) (d_var rfl (vis_of rfl) rfl rfl) r_nil))) (r_val (by rfl) (d_var rfl (vis_of rfl) rfl rfl) r_nil))) (v_cons (by rfl) (d_callN k_vector_of hK hT hr (by decide) hG rfl rfl (by rfl) (by rfl) (r_val (by rfl) (d_callN k_sum_of hK hT hr (by decide) hG rfl rfl (by rfl) (by rfl) (r_val (by rfl) (d_var rfl (vis_of rfl) rfl rfl) (r_val (by rfl) (d_var rfl (vis_of rfl) rfl rfl) r_nil))) (r_val (by rfl) (d_var rfl (vis_of rfl) rfl rfl) r_nil))) v_nil))))
  (s_one (s_if (PW.pt (d_wor (d_tnot (d_ttru hK (by rfl) (d_callN k__law_same hK hT hr (by decide) hG rfl rfl (by rfl) (by rfl) (r_val (by rfl) (d_var rfl (vis_of rfl) rfl rfl) (r_val (by rfl) (d_lst (v_cons (by rfl) (d_callN k__law_product hK hT hr (by decide) hG rfl rfl (by rfl) (by rfl) (r_val (by rfl) (d_var rfl (vis_of rfl) rfl rfl) (r_val (by rfl) (d_var rfl (vis_of rfl) rfl rfl) (r_val (by rfl) (d_var rfl (vis_of rfl) rfl rfl) r_nil)))) (v_cons (by rfl) (d_callN k__law_product hK hT hr (by decide) hG rfl rfl (by rfl) (by rfl) (r_val (by rfl) (d_var rfl (vis_of rfl) rfl rfl) (r_val (by rfl) (d_var rfl (vis_of rfl) rfl rfl) (r_val (by rfl) (d_var rfl (vis_of rfl) rfl rfl) r_nil)))) v_nil))) r_nil))))) (d_wor1 (d_tcmp .ne rfl hK hr (by rfl) (d_repr hr hG hK rfl (m.f "repr" (by decide)) (by rfl) (d_lst (v_cons (by rfl) (d_var rfl (vis_of rfl) rfl rfl) (v_cons (by rfl) (d_var rfl (vis_of rfl) rfl rfl) v_nil)))) (d_var rfl (vis_of rfl) rfl rfl))))) (s_one (s_ret d_bl)) s_nil)))))))))))))))))
  (s_one (s_ret d_bl)))

/-! ### the head: facts by names, the run -/
def dd_is_integer : He.DefD := ⟨("is_integer", none), "is_integer", "is_integer", defArgs st_is_integer, defBody st_is_integer, defScope st_is_integer, [], []⟩
def dd_is_natural : He.DefD := ⟨("is_natural", none), "is_natural", "is_natural", defArgs st_is_natural, defBody st_is_natural, defScope st_is_natural, [], []⟩
def dd_are_integers : He.DefD := ⟨("are_integers", none), "are_integers", "are_integers", defArgs st_are_integers, defBody st_are_integers, defScope st_are_integers, [], []⟩
def dd_is_ascending : He.DefD := ⟨("is_ascending", none), "is_ascending", "is_ascending", defArgs st_is_ascending, defBody st_is_ascending, defScope st_is_ascending, [], []⟩
def dd_exponent_of : He.DefD := ⟨("exponent_of", none), "exponent_of", "exponent_of", defArgs st_exponent_of, defBody st_exponent_of, defScope st_exponent_of, [], []⟩
def dd_prime_powers : He.DefD := ⟨("prime_powers", none), "prime_powers", "prime_powers", defArgs st_prime_powers, defBody st_prime_powers, defScope st_prime_powers, [], []⟩
def dd_is_prime : He.DefD := ⟨("is_prime", none), "is_prime", "is_prime", defArgs st_is_prime, defBody st_is_prime, defScope st_is_prime, [], []⟩
def dd_is_a_prime : He.DefD := ⟨("is_a_prime", none), "is_a_prime", "is_a_prime", defArgs st_is_a_prime, defBody st_is_a_prime, defScope st_is_a_prime, [], []⟩
def dd_is_part_in : He.DefD := ⟨("is_part_in", none), "is_part_in", "is_part_in", defArgs st_is_part_in, defBody st_is_part_in, defScope st_is_part_in, [], []⟩
def dd_is_counted : He.DefD := ⟨("is_counted", none), "is_counted", "is_counted", defArgs st_is_counted, defBody st_is_counted, defScope st_is_counted, [], []⟩
def dd_is_group_in : He.DefD := ⟨("is_group_in", none), "is_group_in", "is_group_in", defArgs st_is_group_in, defBody st_is_group_in, defScope st_is_group_in, [], []⟩
def dd_check_group : He.DefD := ⟨("check_group", none), "check_group", "check_group", defArgs st_check_group, defBody st_check_group, defScope st_check_group, [], []⟩
def dd_counted : He.DefD := ⟨("counted", none), "counted", "counted", defArgs st_counted, defBody st_counted, defScope st_counted, [], []⟩
def dd_group_in : He.DefD := ⟨("group_in", none), "group_in", "group_in", defArgs st_group_in, defBody st_group_in, defScope st_group_in, [], []⟩
def dd_sum_of : He.DefD := ⟨("sum_of", none), "sum_of", "sum_of", defArgs st_sum_of, defBody st_sum_of, defScope st_sum_of, [], []⟩
def dd_is_row_in : He.DefD := ⟨("is_row_in", none), "is_row_in", "is_row_in", defArgs st_is_row_in, defBody st_is_row_in, defScope st_is_row_in, [], []⟩
def dd_is_lot_in : He.DefD := ⟨("is_lot_in", none), "is_lot_in", "is_lot_in", defArgs st_is_lot_in, defBody st_is_lot_in, defScope st_is_lot_in, [], []⟩
def dd_check_lot : He.DefD := ⟨("check_lot", none), "check_lot", "check_lot", defArgs st_check_lot, defBody st_check_lot, defScope st_check_lot, [], []⟩
def dd_raised : He.DefD := ⟨("raised", none), "raised", "raised", defArgs st_raised, defBody st_raised, defScope st_raised, [], []⟩
def dd_makes_zero : He.DefD := ⟨("makes_zero", none), "makes_zero", "makes_zero", defArgs st_makes_zero, defBody st_makes_zero, defScope st_makes_zero, [], []⟩
def dd_multiple_in : He.DefD := ⟨("multiple_in", none), "multiple_in", "multiple_in", defArgs st_multiple_in, defBody st_multiple_in, defScope st_multiple_in, [], []⟩
def dd_exponent_in : He.DefD := ⟨("exponent_in", none), "exponent_in", "exponent_in", defArgs st_exponent_in, defBody st_exponent_in, defScope st_exponent_in, [], []⟩
def dd_torsion_in : He.DefD := ⟨("torsion_in", none), "torsion_in", "torsion_in", defArgs st_torsion_in, defBody st_torsion_in, defScope st_torsion_in, [], []⟩
def dd_greatest_exponent : He.DefD := ⟨("greatest_exponent", none), "greatest_exponent", "greatest_exponent", defArgs st_greatest_exponent, defBody st_greatest_exponent, defScope st_greatest_exponent, [], []⟩
def dd_index_of_line : He.DefD := ⟨("index_of_line", none), "index_of_line", "index_of_line", defArgs st_index_of_line, defBody st_index_of_line, defScope st_index_of_line, [], []⟩
def dd_index_of_part : He.DefD := ⟨("index_of_part", none), "index_of_part", "index_of_part", defArgs st_index_of_part, defBody st_index_of_part, defScope st_index_of_part, [], []⟩
def dd_index_of : He.DefD := ⟨("index_of", none), "index_of", "index_of", defArgs st_index_of, defBody st_index_of, defScope st_index_of, [], []⟩
def dd_index_in : He.DefD := ⟨("index_in", none), "index_in", "index_in", defArgs st_index_in, defBody st_index_in, defScope st_index_in, [], []⟩
def dd_is_pair_in : He.DefD := ⟨("is_pair_in", none), "is_pair_in", "is_pair_in", defArgs st_is_pair_in, defBody st_is_pair_in, defScope st_is_pair_in, [], []⟩
def dd_check_pairs : He.DefD := ⟨("check_pairs", none), "check_pairs", "check_pairs", defArgs st_check_pairs, defBody st_check_pairs, defScope st_check_pairs, [], []⟩
def dd_capped : He.DefD := ⟨("capped", none), "capped", "capped", defArgs st_capped, defBody st_capped, defScope st_capped, [], []⟩
def dd_vector_in : He.DefD := ⟨("vector_in", none), "vector_in", "vector_in", defArgs st_vector_in, defBody st_vector_in, defScope st_vector_in, [], []⟩
def dd_vector_of : He.DefD := ⟨("vector_of", none), "vector_of", "vector_of", defArgs st_vector_of, defBody st_vector_of, defScope st_vector_of, [], []⟩
def dd__law_source : He.DefD := ⟨("_law_source", none), "_law_source", "_law_source", defArgs st__law_source, defBody st__law_source, defScope st__law_source, [], []⟩
def dd__law_draw : He.DefD := ⟨("_law_draw", none), "_law_draw", "_law_draw", defArgs st__law_draw, defBody st__law_draw, defScope st__law_draw, [], []⟩
def dd__law_same : He.DefD := ⟨("_law_same", none), "_law_same", "_law_same", defArgs st__law_same, defBody st__law_same, defScope st__law_same, [], []⟩
def dd__law_finite : He.DefD := ⟨("_law_finite", none), "_law_finite", "_law_finite", defArgs st__law_finite, defBody st__law_finite, defScope st__law_finite, [], []⟩
def dd__law_told : He.DefD := ⟨("_law_told", none), "_law_told", "_law_told", defArgs st__law_told, defBody st__law_told, defScope st__law_told, [], []⟩
def dd__law_moduli : He.DefD := ⟨("_law_moduli", none), "_law_moduli", "_law_moduli", defArgs st__law_moduli, defBody st__law_moduli, defScope st__law_moduli, [], []⟩
def dd__law_all : He.DefD := ⟨("_law_all", none), "_law_all", "_law_all", defArgs st__law_all, defBody st__law_all, defScope st__law_all, [], []⟩
def dd__law_row_holds : He.DefD := ⟨("_law_row_holds", none), "_law_row_holds", "_law_row_holds", defArgs st__law_row_holds, defBody st__law_row_holds, defScope st__law_row_holds, [], []⟩
def dd__law_index : He.DefD := ⟨("_law_index", none), "_law_index", "_law_index", defArgs st__law_index, defBody st__law_index, defScope st__law_index, [], []⟩
def dd__law_pairs_drawn : He.DefD := ⟨("_law_pairs_drawn", none), "_law_pairs_drawn", "_law_pairs_drawn", defArgs st__law_pairs_drawn, defBody st__law_pairs_drawn, defScope st__law_pairs_drawn, [], []⟩
def dd__law_capped : He.DefD := ⟨("_law_capped", none), "_law_capped", "_law_capped", defArgs st__law_capped, defBody st__law_capped, defScope st__law_capped, [], []⟩
def dd__law_product : He.DefD := ⟨("_law_product", none), "_law_product", "_law_product", defArgs st__law_product, defBody st__law_product, defScope st__law_product, [], []⟩
def dd_law : He.DefD := ⟨("law", none), "law", "law", defArgs st_law, defBody st_law, defScope st_law, [], []⟩
def fn0 : List He.DefD := [dd_is_integer, dd_is_natural, dd_are_integers, dd_is_ascending, dd_exponent_of, dd_prime_powers, dd_is_prime, dd_is_a_prime, dd_is_part_in, dd_is_counted, dd_is_group_in, dd_check_group, dd_counted, dd_group_in, dd_sum_of]
def fg0 : List He.Fa := [.glo "is_integer", .glo "is_natural", .glo "are_integers", .glo "is_ascending", .glo "exponent_of", .glo "prime_powers", .glo "is_prime", .glo "is_a_prime", .glo "is_part_in", .glo "is_counted", .glo "is_group_in", .glo "check_group", .glo "counted", .glo "group_in", .glo "sum_of"]
def fn1 : List He.DefD := [dd_is_row_in, dd_is_lot_in, dd_check_lot, dd_raised, dd_makes_zero, dd_multiple_in, dd_exponent_in, dd_torsion_in, dd_greatest_exponent, dd_index_of_line, dd_index_of_part, dd_index_of, dd_index_in, dd_is_pair_in, dd_check_pairs]
def fg1 : List He.Fa := [.glo "is_row_in", .glo "is_lot_in", .glo "check_lot", .glo "raised", .glo "makes_zero", .glo "multiple_in", .glo "exponent_in", .glo "torsion_in", .glo "greatest_exponent", .glo "index_of_line", .glo "index_of_part", .glo "index_of", .glo "index_in", .glo "is_pair_in", .glo "check_pairs"]
def fn2 : List He.DefD := [dd_capped, dd_vector_in, dd_vector_of, dd__law_source, dd__law_draw, dd__law_same, dd__law_finite, dd__law_told, dd__law_moduli, dd__law_all, dd__law_row_holds, dd__law_index, dd__law_pairs_drawn, dd__law_capped, dd__law_product]
def fg2 : List He.Fa := [.glo "capped", .glo "vector_in", .glo "vector_of", .glo "_law_source", .glo "_law_draw", .glo "_law_same", .glo "_law_finite", .glo "_law_told", .glo "_law_moduli", .glo "_law_all", .glo "_law_row_holds", .glo "_law_index", .glo "_law_pairs_drawn", .glo "_law_capped", .glo "_law_product"]
def fn3 : List He.DefD := [dd_law]
def fg3 : List He.Fa := [.glo "law"]
def fn : List He.DefD := fn0 ++ fn1 ++ fn2 ++ fn3
def fa1 : List He.Fa := fg0 ++ fg1 ++ fg2 ++ fg3
def fa : List He.Fa := fa1 ++ freeNames.map He.Fa.free
def tf : List He.Defn := [("are_integers", none), ("is_ascending", none), ("is_group_in", none), ("is_lot_in", none), ("makes_zero", none), ("check_pairs", none)]
def conB (K : PySem.W.Frag) (x : Str) (d : D) : Bool := match PySem.W.nsIn K mainGlobals x with
  | some (some u) => isB K u d
  | _ => false
def bltB (K : PySem.W.Frag) (x : Str) (id : String) : Bool := He.eqO (PySem.W.nsIn K mainGlobals x) (some (some (.builtin id)))
def exs (K : PySem.W.Frag) : List Bool := [bltB K "gcd" "math.gcd", conB K "BY_PRIME" (.tuple [.str "apart", .str "deep"]), conB K "EVER" (.int (-1)), conB K "WHOLE" (.tuple [.str "line", .str "all"])]
def ex (K : PySem.W.Frag) : Bool := (exs K).all id
abbrev R : PySem.W.OpenRow := PySem.W.OpenLaw.row PySem.Challenge.rw_groupsayings_k78_whole_vectors
abbrev hk : PySem.W.Hook := He.hookX 4 fa fn [] tf ex
def ob (s : PySem.W.SharedT) : He.AlX := He.obsX 4 fa fn [] tf ex (HandSHeadRun.getT s)
theorem ob_eq (s : PySem.W.SharedT) : ob s = hk.obs s.abs := He.obsX_eq (HandSHeadRun.getT_eq s)
def ln0 : List PySem.Str := ["__name__", "SayingError", "InvalidGroup", "InvalidLot", "InvalidPairs", "is_integer", "is_natural", "are_integers", "is_ascending", "exponent_of", "prime_powers", "is_prime", "EVER", "WHOLE", "BY_PRIME", "is_a_prime", "is_part_in", "is_counted", "is_group_in", "check_group"]
def ln1 : List PySem.Str := ["counted", "group_in", "sum_of", "is_row_in", "is_lot_in", "check_lot", "raised", "makes_zero", "multiple_in", "exponent_in", "torsion_in", "greatest_exponent", "index_of_line", "index_of_part", "index_of", "index_in", "is_pair_in", "check_pairs", "capped", "vector_in"]
def ln2 : List PySem.Str := ["vector_of", "_law_source", "_law_draw", "_law_same", "_law_finite", "_law_told", "_law_moduli", "_law_all", "_law_row_holds", "_law_index", "_law_pairs_drawn", "_law_capped", "_law_product"]
def loose : List PySem.Str := ln0 ++ ln1 ++ ln2
theorem run (w : World) : HandSHeadRun.RunEqI R (PySem.W.view R.prog [0, 61]) hk ob 6000 loose w := by
  unfold HandSHeadRun.RunEqI
  kernel_rfl
/-! ### each def is known -/
theorem code_of {K : PySem.W.Frag} {x qual : Str} {params : Arguments} {body : List Stmt} {scope : Scope} {dvs : List V} {kws : List (Str × V)} {p : Str × Option Str} {fd : FuncData} (F : FunD K x qual params body scope dvs kws (He.fAd K p) fd) : fd.code = .ref (He.cT K p).1 := by
  obtain ⟨oc, od, dV, kV, doc, pm, an, cdv, ct, osl, e, lk, hcd, _, _⟩ := F.ex
  obtain ⟨c, hc⟩ := He.codeIn_ref hcd
  have e2 : fd.code = .ref c := by rw [e]; exact hc
  have e3 : He.codeOf K p = c := He.codeOf_eq lk e2
  rw [e2, ← e3] <;> rfl
theorem con_ok {K : PySem.W.Frag} {h : Heap} {mg : Str → Option Value} {x : Str} {d : D} (X : K.In h) (G : h.Ns mainGlobals mg) (c : conB K x d = true) : Const mg K x d := by
  unfold conB at c
  split at c
  · rename_i u e
    exact ⟨u, PySem.W.mg_of X G e, c⟩
  · cases c
theorem fc_is_integer {P : Program} {w : World} {K : PySem.W.Frag} {mg : Str → Option Value} {base : Heap} {T : List Addr} {f : Addr} {fd : FuncData} (m : Mg mg) (F : FunD K "is_integer" "is_integer" (defArgs st_is_integer) (defBody st_is_integer) (defScope st_is_integer) [] [] f fd)  : FnC P w K mg base 1 f fd ["value"] (spD ⟨K, w⟩ T sp_is_integer) :=
  fnD_of F sc_is_integer (by decide) (fun A outer s H C hK hT hr hG => walk_is_integer m  hK.symm hT hr hG) pure_is_integer
theorem bd_is_integer {K : PySem.W.Frag} {f : Addr} {fd : FuncData} (F : FunD K "is_integer" "is_integer" (defArgs st_is_integer) (defBody st_is_integer) (defScope st_is_integer) [] [] f fd) : Binds K fd ["value"] [] :=
  F.bindsN fun _ _ _ _ _ _ us hl => match us, hl with | [_], _ => rfl
theorem fc_is_natural {P : Program} {w : World} {K : PySem.W.Frag} {mg : Str → Option Value} {base : Heap} {T : List Addr} {f : Addr} {fd : FuncData} (m : Mg mg) (F : FunD K "is_natural" "is_natural" (defArgs st_is_natural) (defBody st_is_natural) (defScope st_is_natural) [] [] f fd) (k_is_integer : Known P w K mg base T "is_integer" 1 ["value"] sp_is_integer) : FnC P w K mg base 2 f fd ["value"] (spD ⟨K, w⟩ T sp_is_natural) :=
  fnD_of F sc_is_natural (by decide) (fun A outer s H C hK hT hr hG => walk_is_natural m k_is_integer hK.symm hT hr hG) pure_is_natural
theorem bd_is_natural {K : PySem.W.Frag} {f : Addr} {fd : FuncData} (F : FunD K "is_natural" "is_natural" (defArgs st_is_natural) (defBody st_is_natural) (defScope st_is_natural) [] [] f fd) : Binds K fd ["value"] [] :=
  F.bindsN fun _ _ _ _ _ _ us hl => match us, hl with | [_], _ => rfl
theorem fc_are_integers {P : Program} {w : World} {K : PySem.W.Frag} {mg : Str → Option Value} {base : Heap} {T : List Addr} {f : Addr} {fd : FuncData} (m : Mg mg) (F : FunD K "are_integers" "are_integers" (defArgs st_are_integers) (defBody st_are_integers) (defScope st_are_integers) [] [] f fd) (k_is_integer : Known P w K mg base T "is_integer" 1 ["value"] sp_is_integer) {cc PP : Addr} (hcode : fd.code = .ref cc) (TB : GxR.TabB base mg cc PP) (hPT : PP ∈ T) : FnC P w K mg base 3 f fd ["value", "size"] (spD ⟨K, w⟩ T sp_are_integers) :=
  fnD_of F sc_are_integers (by decide) (fun A outer s H C hK hT hr hG => walk_are_integers m k_is_integer hcode TB hPT hK.symm hT hr hG) pure_are_integers
theorem bd_are_integers {K : PySem.W.Frag} {f : Addr} {fd : FuncData} (F : FunD K "are_integers" "are_integers" (defArgs st_are_integers) (defBody st_are_integers) (defScope st_are_integers) [] [] f fd) : Binds K fd ["value", "size"] [] :=
  F.bindsN fun _ _ _ _ _ _ us hl => match us, hl with | [_, _], _ => rfl
theorem fc_is_ascending {P : Program} {w : World} {K : PySem.W.Frag} {mg : Str → Option Value} {base : Heap} {T : List Addr} {f : Addr} {fd : FuncData} (m : Mg mg) (F : FunD K "is_ascending" "is_ascending" (defArgs st_is_ascending) (defBody st_is_ascending) (defScope st_is_ascending) [] [] f fd) {cc PP : Addr} (hcode : fd.code = .ref cc) (TB : GxR.TabB base mg cc PP) (hPT : PP ∈ T) : FnC P w K mg base 2 f fd ["items"] (spD ⟨K, w⟩ T sp_is_ascending) :=
  fnD_of F sc_is_ascending (by decide) (fun A outer s H C hK hT hr hG => walk_is_ascending m hcode TB hPT hK.symm hT hr hG) pure_is_ascending
theorem bd_is_ascending {K : PySem.W.Frag} {f : Addr} {fd : FuncData} (F : FunD K "is_ascending" "is_ascending" (defArgs st_is_ascending) (defBody st_is_ascending) (defScope st_is_ascending) [] [] f fd) : Binds K fd ["items"] [] :=
  F.bindsN fun _ _ _ _ _ _ us hl => match us, hl with | [_], _ => rfl
theorem fc_exponent_of {P : Program} {w : World} {K : PySem.W.Frag} {mg : Str → Option Value} {base : Heap} {T : List Addr} {f : Addr} {fd : FuncData} (m : Mg mg) (F : FunD K "exponent_of" "exponent_of" (defArgs st_exponent_of) (defBody st_exponent_of) (defScope st_exponent_of) [] [] f fd)  : FnC P w K mg base 1 f fd ["p", "number"] (spD ⟨K, w⟩ T sp_exponent_of) :=
  fnD_of F sc_exponent_of (by decide) (fun A outer s H C hK hT hr hG => walk_exponent_of m  hK.symm hT hr hG) pure_exponent_of
theorem bd_exponent_of {K : PySem.W.Frag} {f : Addr} {fd : FuncData} (F : FunD K "exponent_of" "exponent_of" (defArgs st_exponent_of) (defBody st_exponent_of) (defScope st_exponent_of) [] [] f fd) : Binds K fd ["p", "number"] [] :=
  F.bindsN fun _ _ _ _ _ _ us hl => match us, hl with | [_, _], _ => rfl
theorem fc_prime_powers {P : Program} {w : World} {K : PySem.W.Frag} {mg : Str → Option Value} {base : Heap} {T : List Addr} {f : Addr} {fd : FuncData} (m : Mg mg) (F : FunD K "prime_powers" "prime_powers" (defArgs st_prime_powers) (defBody st_prime_powers) (defScope st_prime_powers) [] [] f fd) (k_exponent_of : Known P w K mg base T "exponent_of" 1 ["p", "number"] sp_exponent_of) : FnC P w K mg base 2 f fd ["number"] (spD ⟨K, w⟩ T sp_prime_powers) :=
  fnD_of F sc_prime_powers (by decide) (fun A outer s H C hK hT hr hG => walk_prime_powers m k_exponent_of hK.symm hT hr hG) pure_prime_powers
theorem bd_prime_powers {K : PySem.W.Frag} {f : Addr} {fd : FuncData} (F : FunD K "prime_powers" "prime_powers" (defArgs st_prime_powers) (defBody st_prime_powers) (defScope st_prime_powers) [] [] f fd) : Binds K fd ["number"] [] :=
  F.bindsN fun _ _ _ _ _ _ us hl => match us, hl with | [_], _ => rfl
theorem fc_is_prime {P : Program} {w : World} {K : PySem.W.Frag} {mg : Str → Option Value} {base : Heap} {T : List Addr} {f : Addr} {fd : FuncData} (m : Mg mg) (F : FunD K "is_prime" "is_prime" (defArgs st_is_prime) (defBody st_is_prime) (defScope st_is_prime) [] [] f fd) (k_prime_powers : Known P w K mg base T "prime_powers" 2 ["number"] sp_prime_powers) : FnC P w K mg base 3 f fd ["number"] (spD ⟨K, w⟩ T sp_is_prime) :=
  fnD_of F sc_is_prime (by decide) (fun A outer s H C hK hT hr hG => walk_is_prime m k_prime_powers hK.symm hT hr hG) pure_is_prime
theorem bd_is_prime {K : PySem.W.Frag} {f : Addr} {fd : FuncData} (F : FunD K "is_prime" "is_prime" (defArgs st_is_prime) (defBody st_is_prime) (defScope st_is_prime) [] [] f fd) : Binds K fd ["number"] [] :=
  F.bindsN fun _ _ _ _ _ _ us hl => match us, hl with | [_], _ => rfl
theorem fc_is_a_prime {P : Program} {w : World} {K : PySem.W.Frag} {mg : Str → Option Value} {base : Heap} {T : List Addr} {f : Addr} {fd : FuncData} (m : Mg mg) (F : FunD K "is_a_prime" "is_a_prime" (defArgs st_is_a_prime) (defBody st_is_a_prime) (defScope st_is_a_prime) [] [] f fd) (k_is_integer : Known P w K mg base T "is_integer" 1 ["value"] sp_is_integer) (k_is_prime : Known P w K mg base T "is_prime" 3 ["number"] sp_is_prime) : FnC P w K mg base 4 f fd ["value"] (spD ⟨K, w⟩ T sp_is_a_prime) :=
  fnD_of F sc_is_a_prime (by decide) (fun A outer s H C hK hT hr hG => walk_is_a_prime m k_is_integer k_is_prime hK.symm hT hr hG) pure_is_a_prime
theorem bd_is_a_prime {K : PySem.W.Frag} {f : Addr} {fd : FuncData} (F : FunD K "is_a_prime" "is_a_prime" (defArgs st_is_a_prime) (defBody st_is_a_prime) (defScope st_is_a_prime) [] [] f fd) : Binds K fd ["value"] [] :=
  F.bindsN fun _ _ _ _ _ _ us hl => match us, hl with | [_], _ => rfl
theorem fc_is_part_in {P : Program} {w : World} {K : PySem.W.Frag} {mg : Str → Option Value} {base : Heap} {T : List Addr} {f : Addr} {fd : FuncData} (m : Mg mg) (F : FunD K "is_part_in" "is_part_in" (defArgs st_is_part_in) (defBody st_is_part_in) (defScope st_is_part_in) [] [] f fd) (k_is_a_prime : Known P w K mg base T "is_a_prime" 4 ["value"] sp_is_a_prime) (k_is_integer : Known P w K mg base T "is_integer" 1 ["value"] sp_is_integer) (c_BY_PRIME : Const mg K "BY_PRIME" (.tuple [.str "apart", .str "deep"])) (c_WHOLE : Const mg K "WHOLE" (.tuple [.str "line", .str "all"])) : FnC P w K mg base 5 f fd ["value"] (spD ⟨K, w⟩ T sp_is_part_in) :=
  fnD_of F sc_is_part_in (by decide) (fun A outer s H C hK hT hr hG => walk_is_part_in m k_is_a_prime k_is_integer c_BY_PRIME c_WHOLE hK.symm hT hr hG) pure_is_part_in
theorem bd_is_part_in {K : PySem.W.Frag} {f : Addr} {fd : FuncData} (F : FunD K "is_part_in" "is_part_in" (defArgs st_is_part_in) (defBody st_is_part_in) (defScope st_is_part_in) [] [] f fd) : Binds K fd ["value"] [] :=
  F.bindsN fun _ _ _ _ _ _ us hl => match us, hl with | [_], _ => rfl
theorem fc_is_counted {P : Program} {w : World} {K : PySem.W.Frag} {mg : Str → Option Value} {base : Heap} {T : List Addr} {f : Addr} {fd : FuncData} (m : Mg mg) (F : FunD K "is_counted" "is_counted" (defArgs st_is_counted) (defBody st_is_counted) (defScope st_is_counted) [] [] f fd) (k_is_integer : Known P w K mg base T "is_integer" 1 ["value"] sp_is_integer) (k_is_part_in : Known P w K mg base T "is_part_in" 5 ["value"] sp_is_part_in) (c_EVER : Const mg K "EVER" (.int (-1))) : FnC P w K mg base 6 f fd ["value"] (spD ⟨K, w⟩ T sp_is_counted) :=
  fnD_of F sc_is_counted (by decide) (fun A outer s H C hK hT hr hG => walk_is_counted m k_is_integer k_is_part_in c_EVER hK.symm hT hr hG) pure_is_counted
theorem bd_is_counted {K : PySem.W.Frag} {f : Addr} {fd : FuncData} (F : FunD K "is_counted" "is_counted" (defArgs st_is_counted) (defBody st_is_counted) (defScope st_is_counted) [] [] f fd) : Binds K fd ["value"] [] :=
  F.bindsN fun _ _ _ _ _ _ us hl => match us, hl with | [_], _ => rfl
theorem fc_is_group_in {P : Program} {w : World} {K : PySem.W.Frag} {mg : Str → Option Value} {base : Heap} {T : List Addr} {f : Addr} {fd : FuncData} (m : Mg mg) (F : FunD K "is_group_in" "is_group_in" (defArgs st_is_group_in) (defBody st_is_group_in) (defScope st_is_group_in) [] [] f fd) (k_is_ascending : Known P w K mg base T "is_ascending" 2 ["items"] sp_is_ascending) (k_is_counted : Known P w K mg base T "is_counted" 6 ["value"] sp_is_counted) {cc PP : Addr} (hcode : fd.code = .ref cc) (TB : GxR.TabB base mg cc PP) (hPT : PP ∈ T) : FnC P w K mg base 8 f fd ["value"] (spD ⟨K, w⟩ T sp_is_group_in) :=
  fnD_of F sc_is_group_in (by decide) (fun A outer s H C hK hT hr hG => walk_is_group_in m k_is_ascending k_is_counted hcode TB hPT hK.symm hT hr hG) pure_is_group_in
theorem bd_is_group_in {K : PySem.W.Frag} {f : Addr} {fd : FuncData} (F : FunD K "is_group_in" "is_group_in" (defArgs st_is_group_in) (defBody st_is_group_in) (defScope st_is_group_in) [] [] f fd) : Binds K fd ["value"] [] :=
  F.bindsN fun _ _ _ _ _ _ us hl => match us, hl with | [_], _ => rfl
theorem fc_check_group {P : Program} {w : World} {K : PySem.W.Frag} {mg : Str → Option Value} {base : Heap} {T : List Addr} {f : Addr} {fd : FuncData} (m : Mg mg) (F : FunD K "check_group" "check_group" (defArgs st_check_group) (defBody st_check_group) (defScope st_check_group) [] [] f fd) (k_is_group_in : Known P w K mg base T "is_group_in" 8 ["value"] sp_is_group_in) : FnC P w K mg base 9 f fd ["group"] (spD ⟨K, w⟩ T sp_check_group) :=
  fnD_of F sc_check_group (by decide) (fun A outer s H C hK hT hr hG => walk_check_group m k_is_group_in hK.symm hT hr hG) pure_check_group
theorem bd_check_group {K : PySem.W.Frag} {f : Addr} {fd : FuncData} (F : FunD K "check_group" "check_group" (defArgs st_check_group) (defBody st_check_group) (defScope st_check_group) [] [] f fd) : Binds K fd ["group"] [] :=
  F.bindsN fun _ _ _ _ _ _ us hl => match us, hl with | [_], _ => rfl
theorem fc_counted {P : Program} {w : World} {K : PySem.W.Frag} {mg : Str → Option Value} {base : Heap} {T : List Addr} {f : Addr} {fd : FuncData} (m : Mg mg) (F : FunD K "counted" "counted" (defArgs st_counted) (defBody st_counted) (defScope st_counted) [] [] f fd) (c_EVER : Const mg K "EVER" (.int (-1))) : FnC P w K mg base 1 f fd ["one", "other"] (spD ⟨K, w⟩ T sp_counted) :=
  fnD_of F sc_counted (by decide) (fun A outer s H C hK hT hr hG => walk_counted m c_EVER hK.symm hT hr hG) pure_counted
theorem bd_counted {K : PySem.W.Frag} {f : Addr} {fd : FuncData} (F : FunD K "counted" "counted" (defArgs st_counted) (defBody st_counted) (defScope st_counted) [] [] f fd) : Binds K fd ["one", "other"] [] :=
  F.bindsN fun _ _ _ _ _ _ us hl => match us, hl with | [_, _], _ => rfl
theorem fc_group_in {P : Program} {w : World} {K : PySem.W.Frag} {mg : Str → Option Value} {base : Heap} {T : List Addr} {f : Addr} {fd : FuncData} (m : Mg mg) (F : FunD K "group_in" "group_in" (defArgs st_group_in) (defBody st_group_in) (defScope st_group_in) [] [] f fd) (k_counted : Known P w K mg base T "counted" 1 ["one", "other"] sp_counted) : FnC P w K mg base 2 f fd ["pairs"] (spD ⟨K, w⟩ T sp_group_in) :=
  fnD_of F sc_group_in (by decide) (fun A outer s H C hK hT hr hG => walk_group_in m k_counted hK.symm hT hr hG) pure_group_in
theorem bd_group_in {K : PySem.W.Frag} {f : Addr} {fd : FuncData} (F : FunD K "group_in" "group_in" (defArgs st_group_in) (defBody st_group_in) (defScope st_group_in) [] [] f fd) : Binds K fd ["pairs"] [] :=
  F.bindsN fun _ _ _ _ _ _ us hl => match us, hl with | [_], _ => rfl
theorem fc_sum_of {P : Program} {w : World} {K : PySem.W.Frag} {mg : Str → Option Value} {base : Heap} {T : List Addr} {f : Addr} {fd : FuncData} (m : Mg mg) (F : FunD K "sum_of" "sum_of" (defArgs st_sum_of) (defBody st_sum_of) (defScope st_sum_of) [] [] f fd) (k_check_group : Known P w K mg base T "check_group" 9 ["group"] sp_check_group) (k_group_in : Known P w K mg base T "group_in" 2 ["pairs"] sp_group_in) : FnC P w K mg base 10 f fd ["one", "other"] (spD ⟨K, w⟩ T sp_sum_of) :=
  fnD_of F sc_sum_of (by decide) (fun A outer s H C hK hT hr hG => walk_sum_of m k_check_group k_group_in hK.symm hT hr hG) pure_sum_of
theorem bd_sum_of {K : PySem.W.Frag} {f : Addr} {fd : FuncData} (F : FunD K "sum_of" "sum_of" (defArgs st_sum_of) (defBody st_sum_of) (defScope st_sum_of) [] [] f fd) : Binds K fd ["one", "other"] [] :=
  F.bindsN fun _ _ _ _ _ _ us hl => match us, hl with | [_, _], _ => rfl
theorem fc_is_row_in {P : Program} {w : World} {K : PySem.W.Frag} {mg : Str → Option Value} {base : Heap} {T : List Addr} {f : Addr} {fd : FuncData} (m : Mg mg) (F : FunD K "is_row_in" "is_row_in" (defArgs st_is_row_in) (defBody st_is_row_in) (defScope st_is_row_in) [] [] f fd) (k_are_integers : Known P w K mg base T "are_integers" 3 ["value", "size"] sp_are_integers) (k_is_natural : Known P w K mg base T "is_natural" 2 ["value"] sp_is_natural) : FnC P w K mg base 4 f fd ["n", "value"] (spD ⟨K, w⟩ T sp_is_row_in) :=
  fnD_of F sc_is_row_in (by decide) (fun A outer s H C hK hT hr hG => walk_is_row_in m k_are_integers k_is_natural hK.symm hT hr hG) pure_is_row_in
theorem bd_is_row_in {K : PySem.W.Frag} {f : Addr} {fd : FuncData} (F : FunD K "is_row_in" "is_row_in" (defArgs st_is_row_in) (defBody st_is_row_in) (defScope st_is_row_in) [] [] f fd) : Binds K fd ["n", "value"] [] :=
  F.bindsN fun _ _ _ _ _ _ us hl => match us, hl with | [_, _], _ => rfl
theorem fc_is_lot_in {P : Program} {w : World} {K : PySem.W.Frag} {mg : Str → Option Value} {base : Heap} {T : List Addr} {f : Addr} {fd : FuncData} (m : Mg mg) (F : FunD K "is_lot_in" "is_lot_in" (defArgs st_is_lot_in) (defBody st_is_lot_in) (defScope st_is_lot_in) [] [] f fd) (k_is_row_in : Known P w K mg base T "is_row_in" 4 ["n", "value"] sp_is_row_in) {cc PP : Addr} (hcode : fd.code = .ref cc) (TB : GxR.TabB base mg cc PP) (hPT : PP ∈ T) : FnC P w K mg base 6 f fd ["n", "value"] (spD ⟨K, w⟩ T sp_is_lot_in) :=
  fnD_of F sc_is_lot_in (by decide) (fun A outer s H C hK hT hr hG => walk_is_lot_in m k_is_row_in hcode TB hPT hK.symm hT hr hG) pure_is_lot_in
theorem bd_is_lot_in {K : PySem.W.Frag} {f : Addr} {fd : FuncData} (F : FunD K "is_lot_in" "is_lot_in" (defArgs st_is_lot_in) (defBody st_is_lot_in) (defScope st_is_lot_in) [] [] f fd) : Binds K fd ["n", "value"] [] :=
  F.bindsN fun _ _ _ _ _ _ us hl => match us, hl with | [_, _], _ => rfl
theorem fc_check_lot {P : Program} {w : World} {K : PySem.W.Frag} {mg : Str → Option Value} {base : Heap} {T : List Addr} {f : Addr} {fd : FuncData} (m : Mg mg) (F : FunD K "check_lot" "check_lot" (defArgs st_check_lot) (defBody st_check_lot) (defScope st_check_lot) [] [] f fd) (k_is_lot_in : Known P w K mg base T "is_lot_in" 6 ["n", "value"] sp_is_lot_in) : FnC P w K mg base 7 f fd ["n", "lot"] (spD ⟨K, w⟩ T sp_check_lot) :=
  fnD_of F sc_check_lot (by decide) (fun A outer s H C hK hT hr hG => walk_check_lot m k_is_lot_in hK.symm hT hr hG) pure_check_lot
theorem bd_check_lot {K : PySem.W.Frag} {f : Addr} {fd : FuncData} (F : FunD K "check_lot" "check_lot" (defArgs st_check_lot) (defBody st_check_lot) (defScope st_check_lot) [] [] f fd) : Binds K fd ["n", "lot"] [] :=
  F.bindsN fun _ _ _ _ _ _ us hl => match us, hl with | [_, _], _ => rfl
theorem fc_raised {P : Program} {w : World} {K : PySem.W.Frag} {mg : Str → Option Value} {base : Heap} {T : List Addr} {f : Addr} {fd : FuncData} (m : Mg mg) (F : FunD K "raised" "raised" (defArgs st_raised) (defBody st_raised) (defScope st_raised) [] [] f fd)  : FnC P w K mg base 1 f fd ["p", "many"] (spD ⟨K, w⟩ T sp_raised) :=
  fnD_of F sc_raised (by decide) (fun A outer s H C hK hT hr hG => walk_raised m  hK.symm hT hr hG) pure_raised
theorem bd_raised {K : PySem.W.Frag} {f : Addr} {fd : FuncData} (F : FunD K "raised" "raised" (defArgs st_raised) (defBody st_raised) (defScope st_raised) [] [] f fd) : Binds K fd ["p", "many"] [] :=
  F.bindsN fun _ _ _ _ _ _ us hl => match us, hl with | [_, _], _ => rfl
theorem fc_makes_zero {P : Program} {w : World} {K : PySem.W.Frag} {mg : Str → Option Value} {base : Heap} {T : List Addr} {f : Addr} {fd : FuncData} (m : Mg mg) (F : FunD K "makes_zero" "makes_zero" (defArgs st_makes_zero) (defBody st_makes_zero) (defScope st_makes_zero) [] [] f fd) {cc PP : Addr} (hcode : fd.code = .ref cc) (TB : GxR.TabB base mg cc PP) (hPT : PP ∈ T) : FnC P w K mg base 2 f fd ["lot"] (spD ⟨K, w⟩ T sp_makes_zero) :=
  fnD_of F sc_makes_zero (by decide) (fun A outer s H C hK hT hr hG => walk_makes_zero m hcode TB hPT hK.symm hT hr hG) pure_makes_zero
theorem bd_makes_zero {K : PySem.W.Frag} {f : Addr} {fd : FuncData} (F : FunD K "makes_zero" "makes_zero" (defArgs st_makes_zero) (defBody st_makes_zero) (defScope st_makes_zero) [] [] f fd) : Binds K fd ["lot"] [] :=
  F.bindsN fun _ _ _ _ _ _ us hl => match us, hl with | [_], _ => rfl
theorem fc_multiple_in {P : Program} {w : World} {K : PySem.W.Frag} {mg : Str → Option Value} {base : Heap} {T : List Addr} {f : Addr} {fd : FuncData} (m : Mg mg) (F : FunD K "multiple_in" "multiple_in" (defArgs st_multiple_in) (defBody st_multiple_in) (defScope st_multiple_in) [] [] f fd) (k_makes_zero : Known P w K mg base T "makes_zero" 2 ["lot"] sp_makes_zero) : FnC P w K mg base 3 f fd ["lot"] (spD ⟨K, w⟩ T sp_multiple_in) :=
  fnD_of F sc_multiple_in (by decide) (fun A outer s H C hK hT hr hG => walk_multiple_in m k_makes_zero hK.symm hT hr hG) pure_multiple_in
theorem bd_multiple_in {K : PySem.W.Frag} {f : Addr} {fd : FuncData} (F : FunD K "multiple_in" "multiple_in" (defArgs st_multiple_in) (defBody st_multiple_in) (defScope st_multiple_in) [] [] f fd) : Binds K fd ["lot"] [] :=
  F.bindsN fun _ _ _ _ _ _ us hl => match us, hl with | [_], _ => rfl
theorem fc_exponent_in {P : Program} {w : World} {K : PySem.W.Frag} {mg : Str → Option Value} {base : Heap} {T : List Addr} {f : Addr} {fd : FuncData} (m : Mg mg) (F : FunD K "exponent_in" "exponent_in" (defArgs st_exponent_in) (defBody st_exponent_in) (defScope st_exponent_in) [] [] f fd) (k_exponent_of : Known P w K mg base T "exponent_of" 1 ["p", "number"] sp_exponent_of) : FnC P w K mg base 2 f fd ["p", "lot", "most"] (spD ⟨K, w⟩ T sp_exponent_in) :=
  fnD_of F sc_exponent_in (by decide) (fun A outer s H C hK hT hr hG => walk_exponent_in m k_exponent_of hK.symm hT hr hG) pure_exponent_in
theorem bd_exponent_in {K : PySem.W.Frag} {f : Addr} {fd : FuncData} (F : FunD K "exponent_in" "exponent_in" (defArgs st_exponent_in) (defBody st_exponent_in) (defScope st_exponent_in) [] [] f fd) : Binds K fd ["p", "lot", "most"] [] :=
  F.bindsN fun _ _ _ _ _ _ us hl => match us, hl with | [_, _, _], _ => rfl
theorem fc_torsion_in {P : Program} {w : World} {K : PySem.W.Frag} {mg : Str → Option Value} {base : Heap} {T : List Addr} {f : Addr} {fd : FuncData} (m : Mg mg) (F : FunD K "torsion_in" "torsion_in" (defArgs st_torsion_in) (defBody st_torsion_in) (defScope st_torsion_in) [] [] f fd) (k_exponent_of : Known P w K mg base T "exponent_of" 1 ["p", "number"] sp_exponent_of) : FnC P w K mg base 2 f fd ["p", "lot"] (spD ⟨K, w⟩ T sp_torsion_in) :=
  fnD_of F sc_torsion_in (by decide) (fun A outer s H C hK hT hr hG => walk_torsion_in m k_exponent_of hK.symm hT hr hG) pure_torsion_in
theorem bd_torsion_in {K : PySem.W.Frag} {f : Addr} {fd : FuncData} (F : FunD K "torsion_in" "torsion_in" (defArgs st_torsion_in) (defBody st_torsion_in) (defScope st_torsion_in) [] [] f fd) : Binds K fd ["p", "lot"] [] :=
  F.bindsN fun _ _ _ _ _ _ us hl => match us, hl with | [_, _], _ => rfl
theorem fc_greatest_exponent {P : Program} {w : World} {K : PySem.W.Frag} {mg : Str → Option Value} {base : Heap} {T : List Addr} {f : Addr} {fd : FuncData} (m : Mg mg) (F : FunD K "greatest_exponent" "greatest_exponent" (defArgs st_greatest_exponent) (defBody st_greatest_exponent) (defScope st_greatest_exponent) [] [] f fd) (k_exponent_of : Known P w K mg base T "exponent_of" 1 ["p", "number"] sp_exponent_of) : FnC P w K mg base 2 f fd ["p", "lot"] (spD ⟨K, w⟩ T sp_greatest_exponent) :=
  fnD_of F sc_greatest_exponent (by decide) (fun A outer s H C hK hT hr hG => walk_greatest_exponent m k_exponent_of hK.symm hT hr hG) pure_greatest_exponent
theorem bd_greatest_exponent {K : PySem.W.Frag} {f : Addr} {fd : FuncData} (F : FunD K "greatest_exponent" "greatest_exponent" (defArgs st_greatest_exponent) (defBody st_greatest_exponent) (defScope st_greatest_exponent) [] [] f fd) : Binds K fd ["p", "lot"] [] :=
  F.bindsN fun _ _ _ _ _ _ us hl => match us, hl with | [_, _], _ => rfl
theorem fc_index_of_line {P : Program} {w : World} {K : PySem.W.Frag} {mg : Str → Option Value} {base : Heap} {T : List Addr} {f : Addr} {fd : FuncData} (m : Mg mg) (F : FunD K "index_of_line" "index_of_line" (defArgs st_index_of_line) (defBody st_index_of_line) (defScope st_index_of_line) [] [] f fd) (k_multiple_in : Known P w K mg base T "multiple_in" 3 ["lot"] sp_multiple_in) : FnC P w K mg base 4 f fd ["one", "both"] (spD ⟨K, w⟩ T sp_index_of_line) :=
  fnD_of F sc_index_of_line (by decide) (fun A outer s H C hK hT hr hG => walk_index_of_line m k_multiple_in hK.symm hT hr hG) pure_index_of_line
theorem bd_index_of_line {K : PySem.W.Frag} {f : Addr} {fd : FuncData} (F : FunD K "index_of_line" "index_of_line" (defArgs st_index_of_line) (defBody st_index_of_line) (defScope st_index_of_line) [] [] f fd) : Binds K fd ["one", "both"] [] :=
  F.bindsN fun _ _ _ _ _ _ us hl => match us, hl with | [_, _], _ => rfl
theorem fc_index_of_part {P : Program} {w : World} {K : PySem.W.Frag} {mg : Str → Option Value} {base : Heap} {T : List Addr} {f : Addr} {fd : FuncData} (m : Mg mg) (F : FunD K "index_of_part" "index_of_part" (defArgs st_index_of_part) (defBody st_index_of_part) (defScope st_index_of_part) [] [] f fd) (k_exponent_in : Known P w K mg base T "exponent_in" 2 ["p", "lot", "most"] sp_exponent_in) (k_greatest_exponent : Known P w K mg base T "greatest_exponent" 2 ["p", "lot"] sp_greatest_exponent) (k_index_of_line : Known P w K mg base T "index_of_line" 4 ["one", "both"] sp_index_of_line) (k_makes_zero : Known P w K mg base T "makes_zero" 2 ["lot"] sp_makes_zero) (k_raised : Known P w K mg base T "raised" 1 ["p", "many"] sp_raised) (k_torsion_in : Known P w K mg base T "torsion_in" 2 ["p", "lot"] sp_torsion_in) : FnC P w K mg base 5 f fd ["part", "one", "both"] (spD ⟨K, w⟩ T sp_index_of_part) :=
  fnD_of F sc_index_of_part (by decide) (fun A outer s H C hK hT hr hG => walk_index_of_part m k_exponent_in k_greatest_exponent k_index_of_line k_makes_zero k_raised k_torsion_in hK.symm hT hr hG) pure_index_of_part
theorem bd_index_of_part {K : PySem.W.Frag} {f : Addr} {fd : FuncData} (F : FunD K "index_of_part" "index_of_part" (defArgs st_index_of_part) (defBody st_index_of_part) (defScope st_index_of_part) [] [] f fd) : Binds K fd ["part", "one", "both"] [] :=
  F.bindsN fun _ _ _ _ _ _ us hl => match us, hl with | [_, _, _], _ => rfl
theorem fc_index_of {P : Program} {w : World} {K : PySem.W.Frag} {mg : Str → Option Value} {base : Heap} {T : List Addr} {f : Addr} {fd : FuncData} (m : Mg mg) (F : FunD K "index_of" "index_of" (defArgs st_index_of) (defBody st_index_of) (defScope st_index_of) [] [] f fd) (k_index_of_part : Known P w K mg base T "index_of_part" 5 ["part", "one", "both"] sp_index_of_part) (k_raised : Known P w K mg base T "raised" 1 ["p", "many"] sp_raised) (c_EVER : Const mg K "EVER" (.int (-1))) : FnC P w K mg base 6 f fd ["group", "one", "other"] (spD ⟨K, w⟩ T sp_index_of) :=
  fnD_of F sc_index_of (by decide) (fun A outer s H C hK hT hr hG => walk_index_of m k_index_of_part k_raised c_EVER hK.symm hT hr hG) pure_index_of
theorem bd_index_of {K : PySem.W.Frag} {f : Addr} {fd : FuncData} (F : FunD K "index_of" "index_of" (defArgs st_index_of) (defBody st_index_of) (defScope st_index_of) [] [] f fd) : Binds K fd ["group", "one", "other"] [] :=
  F.bindsN fun _ _ _ _ _ _ us hl => match us, hl with | [_, _, _], _ => rfl
theorem fc_index_in {P : Program} {w : World} {K : PySem.W.Frag} {mg : Str → Option Value} {base : Heap} {T : List Addr} {f : Addr} {fd : FuncData} (m : Mg mg) (F : FunD K "index_in" "index_in" (defArgs st_index_in) (defBody st_index_in) (defScope st_index_in) [] [] f fd) (k_check_group : Known P w K mg base T "check_group" 9 ["group"] sp_check_group) (k_check_lot : Known P w K mg base T "check_lot" 7 ["n", "lot"] sp_check_lot) (k_index_of : Known P w K mg base T "index_of" 6 ["group", "one", "other"] sp_index_of) : FnC P w K mg base 10 f fd ["group", "one", "other"] (spD ⟨K, w⟩ T sp_index_in) :=
  fnD_of F sc_index_in (by decide) (fun A outer s H C hK hT hr hG => walk_index_in m k_check_group k_check_lot k_index_of hK.symm hT hr hG) pure_index_in
theorem bd_index_in {K : PySem.W.Frag} {f : Addr} {fd : FuncData} (F : FunD K "index_in" "index_in" (defArgs st_index_in) (defBody st_index_in) (defScope st_index_in) [] [] f fd) : Binds K fd ["group", "one", "other"] [] :=
  F.bindsN fun _ _ _ _ _ _ us hl => match us, hl with | [_, _, _], _ => rfl
theorem fc_is_pair_in {P : Program} {w : World} {K : PySem.W.Frag} {mg : Str → Option Value} {base : Heap} {T : List Addr} {f : Addr} {fd : FuncData} (m : Mg mg) (F : FunD K "is_pair_in" "is_pair_in" (defArgs st_is_pair_in) (defBody st_is_pair_in) (defScope st_is_pair_in) [] [] f fd) (k_is_integer : Known P w K mg base T "is_integer" 1 ["value"] sp_is_integer) (k_is_lot_in : Known P w K mg base T "is_lot_in" 6 ["n", "value"] sp_is_lot_in) : FnC P w K mg base 7 f fd ["value"] (spD ⟨K, w⟩ T sp_is_pair_in) :=
  fnD_of F sc_is_pair_in (by decide) (fun A outer s H C hK hT hr hG => walk_is_pair_in m k_is_integer k_is_lot_in hK.symm hT hr hG) pure_is_pair_in
theorem bd_is_pair_in {K : PySem.W.Frag} {f : Addr} {fd : FuncData} (F : FunD K "is_pair_in" "is_pair_in" (defArgs st_is_pair_in) (defBody st_is_pair_in) (defScope st_is_pair_in) [] [] f fd) : Binds K fd ["value"] [] :=
  F.bindsN fun _ _ _ _ _ _ us hl => match us, hl with | [_], _ => rfl
theorem fc_check_pairs {P : Program} {w : World} {K : PySem.W.Frag} {mg : Str → Option Value} {base : Heap} {T : List Addr} {f : Addr} {fd : FuncData} (m : Mg mg) (F : FunD K "check_pairs" "check_pairs" (defArgs st_check_pairs) (defBody st_check_pairs) (defScope st_check_pairs) [] [] f fd) (k_is_pair_in : Known P w K mg base T "is_pair_in" 7 ["value"] sp_is_pair_in) {cc PP : Addr} (hcode : fd.code = .ref cc) (TB : GxR.TabB base mg cc PP) (hPT : PP ∈ T) : FnC P w K mg base 9 f fd ["pairs"] (spD ⟨K, w⟩ T sp_check_pairs) :=
  fnD_of F sc_check_pairs (by decide) (fun A outer s H C hK hT hr hG => walk_check_pairs m k_is_pair_in hcode TB hPT hK.symm hT hr hG) pure_check_pairs
theorem bd_check_pairs {K : PySem.W.Frag} {f : Addr} {fd : FuncData} (F : FunD K "check_pairs" "check_pairs" (defArgs st_check_pairs) (defBody st_check_pairs) (defScope st_check_pairs) [] [] f fd) : Binds K fd ["pairs"] [] :=
  F.bindsN fun _ _ _ _ _ _ us hl => match us, hl with | [_], _ => rfl
theorem fc_capped {P : Program} {w : World} {K : PySem.W.Frag} {mg : Str → Option Value} {base : Heap} {T : List Addr} {f : Addr} {fd : FuncData} (m : Mg mg) (F : FunD K "capped" "capped" (defArgs st_capped) (defBody st_capped) (defScope st_capped) [] [] f fd)  : FnC P w K mg base 1 f fd ["number", "most"] (spD ⟨K, w⟩ T sp_capped) :=
  fnD_of F sc_capped (by decide) (fun A outer s H C hK hT hr hG => walk_capped m  hK.symm hT hr hG) pure_capped
theorem bd_capped {K : PySem.W.Frag} {f : Addr} {fd : FuncData} (F : FunD K "capped" "capped" (defArgs st_capped) (defBody st_capped) (defScope st_capped) [] [] f fd) : Binds K fd ["number", "most"] [] :=
  F.bindsN fun _ _ _ _ _ _ us hl => match us, hl with | [_, _], _ => rfl
theorem fc_vector_in {P : Program} {w : World} {K : PySem.W.Frag} {mg : Str → Option Value} {base : Heap} {T : List Addr} {f : Addr} {fd : FuncData} (m : Mg mg) (F : FunD K "vector_in" "vector_in" (defArgs st_vector_in) (defBody st_vector_in) (defScope st_vector_in) [] [] f fd) (k_capped : Known P w K mg base T "capped" 1 ["number", "most"] sp_capped) (k_index_of : Known P w K mg base T "index_of" 6 ["group", "one", "other"] sp_index_of) : FnC P w K mg base 7 f fd ["group", "pairs"] (spD ⟨K, w⟩ T sp_vector_in) :=
  fnD_of F sc_vector_in (by decide) (fun A outer s H C hK hT hr hG => walk_vector_in m k_capped k_index_of hK.symm hT hr hG) pure_vector_in
theorem bd_vector_in {K : PySem.W.Frag} {f : Addr} {fd : FuncData} (F : FunD K "vector_in" "vector_in" (defArgs st_vector_in) (defBody st_vector_in) (defScope st_vector_in) [] [] f fd) : Binds K fd ["group", "pairs"] [] :=
  F.bindsN fun _ _ _ _ _ _ us hl => match us, hl with | [_, _], _ => rfl
theorem fc_vector_of {P : Program} {w : World} {K : PySem.W.Frag} {mg : Str → Option Value} {base : Heap} {T : List Addr} {f : Addr} {fd : FuncData} (m : Mg mg) (F : FunD K "vector_of" "vector_of" (defArgs st_vector_of) (defBody st_vector_of) (defScope st_vector_of) [] [] f fd) (k_check_group : Known P w K mg base T "check_group" 9 ["group"] sp_check_group) (k_check_pairs : Known P w K mg base T "check_pairs" 9 ["pairs"] sp_check_pairs) (k_vector_in : Known P w K mg base T "vector_in" 7 ["group", "pairs"] sp_vector_in) : FnC P w K mg base 10 f fd ["group", "pairs"] (spD ⟨K, w⟩ T sp_vector_of) :=
  fnD_of F sc_vector_of (by decide) (fun A outer s H C hK hT hr hG => walk_vector_of m k_check_group k_check_pairs k_vector_in hK.symm hT hr hG) pure_vector_of
theorem bd_vector_of {K : PySem.W.Frag} {f : Addr} {fd : FuncData} (F : FunD K "vector_of" "vector_of" (defArgs st_vector_of) (defBody st_vector_of) (defScope st_vector_of) [] [] f fd) : Binds K fd ["group", "pairs"] [] :=
  F.bindsN fun _ _ _ _ _ _ us hl => match us, hl with | [_, _], _ => rfl
theorem fc__law_source {P : Program} {w : World} {K : PySem.W.Frag} {mg : Str → Option Value} {base : Heap} {T : List Addr} {f : Addr} {fd : FuncData} (m : Mg mg) (F : FunD K "_law_source" "_law_source" (defArgs st__law_source) (defBody st__law_source) (defScope st__law_source) [] [] f fd)  : FnC P w K mg base 1 f fd ["script", "k"] (spD ⟨K, w⟩ T sp__law_source) :=
  fnD_of F sc__law_source (by decide) (fun A outer s H C hK hT hr hG => walk__law_source m  hK.symm hT hr hG) pure__law_source
theorem bd__law_source {K : PySem.W.Frag} {f : Addr} {fd : FuncData} (F : FunD K "_law_source" "_law_source" (defArgs st__law_source) (defBody st__law_source) (defScope st__law_source) [] [] f fd) : Binds K fd ["script", "k"] [] :=
  F.bindsN fun _ _ _ _ _ _ us hl => match us, hl with | [_, _], _ => rfl
theorem fc__law_draw {P : Program} {w : World} {K : PySem.W.Frag} {mg : Str → Option Value} {base : Heap} {T : List Addr} {f : Addr} {fd : FuncData} (m : Mg mg) (F : FunD K "_law_draw" "_law_draw" (defArgs st__law_draw) (defBody st__law_draw) (defScope st__law_draw) [] [] f fd)  : FnC P w K mg base 1 f fd ["source", "many"] (spD ⟨K, w⟩ T sp__law_draw) :=
  fnD_of F sc__law_draw (by decide) (fun A outer s H C hK hT hr hG => walk__law_draw m  hK.symm hT hr hG) pure__law_draw
theorem bd__law_draw {K : PySem.W.Frag} {f : Addr} {fd : FuncData} (F : FunD K "_law_draw" "_law_draw" (defArgs st__law_draw) (defBody st__law_draw) (defScope st__law_draw) [] [] f fd) : Binds K fd ["source", "many"] [] :=
  F.bindsN fun _ _ _ _ _ _ us hl => match us, hl with | [_, _], _ => rfl
theorem fc__law_same {P : Program} {w : World} {K : PySem.W.Frag} {mg : Str → Option Value} {base : Heap} {T : List Addr} {f : Addr} {fd : FuncData} (m : Mg mg) (F : FunD K "_law_same" "_law_same" (defArgs st__law_same) (defBody st__law_same) (defScope st__law_same) [] [] f fd)  : FnC P w K mg base 1 f fd ["told", "due"] (spD ⟨K, w⟩ T sp__law_same) :=
  fnD_of F sc__law_same (by decide) (fun A outer s H C hK hT hr hG => walk__law_same m  hK.symm hT hr hG) pure__law_same
theorem bd__law_same {K : PySem.W.Frag} {f : Addr} {fd : FuncData} (F : FunD K "_law_same" "_law_same" (defArgs st__law_same) (defBody st__law_same) (defScope st__law_same) [] [] f fd) : Binds K fd ["told", "due"] [] :=
  F.bindsN fun _ _ _ _ _ _ us hl => match us, hl with | [_, _], _ => rfl
theorem fc__law_finite {P : Program} {w : World} {K : PySem.W.Frag} {mg : Str → Option Value} {base : Heap} {T : List Addr} {f : Addr} {fd : FuncData} (m : Mg mg) (F : FunD K "_law_finite" "_law_finite" (defArgs st__law_finite) (defBody st__law_finite) (defScope st__law_finite) [] [] f fd) (k__law_draw : Known P w K mg base T "_law_draw" 1 ["source", "many"] sp__law_draw) : FnC P w K mg base 2 f fd ["source", "most"] (spD ⟨K, w⟩ T sp__law_finite) :=
  fnD_of F sc__law_finite (by decide) (fun A outer s H C hK hT hr hG => walk__law_finite m k__law_draw hK.symm hT hr hG) pure__law_finite
theorem bd__law_finite {K : PySem.W.Frag} {f : Addr} {fd : FuncData} (F : FunD K "_law_finite" "_law_finite" (defArgs st__law_finite) (defBody st__law_finite) (defScope st__law_finite) [] [] f fd) : Binds K fd ["source", "most"] [] :=
  F.bindsN fun _ _ _ _ _ _ us hl => match us, hl with | [_, _], _ => rfl
theorem fc__law_told {P : Program} {w : World} {K : PySem.W.Frag} {mg : Str → Option Value} {base : Heap} {T : List Addr} {f : Addr} {fd : FuncData} (m : Mg mg) (F : FunD K "_law_told" "_law_told" (defArgs st__law_told) (defBody st__law_told) (defScope st__law_told) [] [] f fd) (k__law_draw : Known P w K mg base T "_law_draw" 1 ["source", "many"] sp__law_draw) : FnC P w K mg base 2 f fd ["source"] (spD ⟨K, w⟩ T sp__law_told) :=
  fnD_of F sc__law_told (by decide) (fun A outer s H C hK hT hr hG => walk__law_told m k__law_draw hK.symm hT hr hG) pure__law_told
theorem bd__law_told {K : PySem.W.Frag} {f : Addr} {fd : FuncData} (F : FunD K "_law_told" "_law_told" (defArgs st__law_told) (defBody st__law_told) (defScope st__law_told) [] [] f fd) : Binds K fd ["source"] [] :=
  F.bindsN fun _ _ _ _ _ _ us hl => match us, hl with | [_], _ => rfl
theorem fc__law_moduli {P : Program} {w : World} {K : PySem.W.Frag} {mg : Str → Option Value} {base : Heap} {T : List Addr} {f : Addr} {fd : FuncData} (m : Mg mg) (F : FunD K "_law_moduli" "_law_moduli" (defArgs st__law_moduli) (defBody st__law_moduli) (defScope st__law_moduli) [] [] f fd)  : FnC P w K mg base 1 f fd ["group"] (spD ⟨K, w⟩ T sp__law_moduli) :=
  fnD_of F sc__law_moduli (by decide) (fun A outer s H C hK hT hr hG => walk__law_moduli m  hK.symm hT hr hG) pure__law_moduli
theorem bd__law_moduli {K : PySem.W.Frag} {f : Addr} {fd : FuncData} (F : FunD K "_law_moduli" "_law_moduli" (defArgs st__law_moduli) (defBody st__law_moduli) (defScope st__law_moduli) [] [] f fd) : Binds K fd ["group"] [] :=
  F.bindsN fun _ _ _ _ _ _ us hl => match us, hl with | [_], _ => rfl
theorem fc__law_all {P : Program} {w : World} {K : PySem.W.Frag} {mg : Str → Option Value} {base : Heap} {T : List Addr} {f : Addr} {fd : FuncData} (m : Mg mg) (F : FunD K "_law_all" "_law_all" (defArgs st__law_all) (defBody st__law_all) (defScope st__law_all) [] [] f fd)  : FnC P w K mg base 1 f fd ["moduli"] (spD ⟨K, w⟩ T sp__law_all) :=
  fnD_of F sc__law_all (by decide) (fun A outer s H C hK hT hr hG => walk__law_all m  hK.symm hT hr hG) pure__law_all
theorem bd__law_all {K : PySem.W.Frag} {f : Addr} {fd : FuncData} (F : FunD K "_law_all" "_law_all" (defArgs st__law_all) (defBody st__law_all) (defScope st__law_all) [] [] f fd) : Binds K fd ["moduli"] [] :=
  F.bindsN fun _ _ _ _ _ _ us hl => match us, hl with | [_], _ => rfl
theorem fc__law_row_holds {P : Program} {w : World} {K : PySem.W.Frag} {mg : Str → Option Value} {base : Heap} {T : List Addr} {f : Addr} {fd : FuncData} (m : Mg mg) (F : FunD K "_law_row_holds" "_law_row_holds" (defArgs st__law_row_holds) (defBody st__law_row_holds) (defScope st__law_row_holds) [] [] f fd)  : FnC P w K mg base 1 f fd ["moduli", "d", "a", "points"] (spD ⟨K, w⟩ T sp__law_row_holds) :=
  fnD_of F sc__law_row_holds (by decide) (fun A outer s H C hK hT hr hG => walk__law_row_holds m  hK.symm hT hr hG) pure__law_row_holds
theorem bd__law_row_holds {K : PySem.W.Frag} {f : Addr} {fd : FuncData} (F : FunD K "_law_row_holds" "_law_row_holds" (defArgs st__law_row_holds) (defBody st__law_row_holds) (defScope st__law_row_holds) [] [] f fd) : Binds K fd ["moduli", "d", "a", "points"] [] :=
  F.bindsN fun _ _ _ _ _ _ us hl => match us, hl with | [_, _, _, _], _ => rfl
theorem fc__law_index {P : Program} {w : World} {K : PySem.W.Frag} {mg : Str → Option Value} {base : Heap} {T : List Addr} {f : Addr} {fd : FuncData} (m : Mg mg) (F : FunD K "_law_index" "_law_index" (defArgs st__law_index) (defBody st__law_index) (defScope st__law_index) [] [] f fd) (k__law_row_holds : Known P w K mg base T "_law_row_holds" 1 ["moduli", "d", "a", "points"] sp__law_row_holds) : FnC P w K mg base 2 f fd ["moduli", "every", "one", "other"] (spD ⟨K, w⟩ T sp__law_index) :=
  fnD_of F sc__law_index (by decide) (fun A outer s H C hK hT hr hG => walk__law_index m k__law_row_holds hK.symm hT hr hG) pure__law_index
theorem bd__law_index {K : PySem.W.Frag} {f : Addr} {fd : FuncData} (F : FunD K "_law_index" "_law_index" (defArgs st__law_index) (defBody st__law_index) (defScope st__law_index) [] [] f fd) : Binds K fd ["moduli", "every", "one", "other"] [] :=
  F.bindsN fun _ _ _ _ _ _ us hl => match us, hl with | [_, _, _, _], _ => rfl
theorem fc__law_pairs_drawn {P : Program} {w : World} {K : PySem.W.Frag} {mg : Str → Option Value} {base : Heap} {T : List Addr} {f : Addr} {fd : FuncData} (m : Mg mg) (F : FunD K "_law_pairs_drawn" "_law_pairs_drawn" (defArgs st__law_pairs_drawn) (defBody st__law_pairs_drawn) (defScope st__law_pairs_drawn) [] [] f fd) (k__law_draw : Known P w K mg base T "_law_draw" 1 ["source", "many"] sp__law_draw) : FnC P w K mg base 2 f fd ["source"] (spD ⟨K, w⟩ T sp__law_pairs_drawn) :=
  fnD_of F sc__law_pairs_drawn (by decide) (fun A outer s H C hK hT hr hG => walk__law_pairs_drawn m k__law_draw hK.symm hT hr hG) pure__law_pairs_drawn
theorem bd__law_pairs_drawn {K : PySem.W.Frag} {f : Addr} {fd : FuncData} (F : FunD K "_law_pairs_drawn" "_law_pairs_drawn" (defArgs st__law_pairs_drawn) (defBody st__law_pairs_drawn) (defScope st__law_pairs_drawn) [] [] f fd) : Binds K fd ["source"] [] :=
  F.bindsN fun _ _ _ _ _ _ us hl => match us, hl with | [_], _ => rfl
theorem fc__law_capped {P : Program} {w : World} {K : PySem.W.Frag} {mg : Str → Option Value} {base : Heap} {T : List Addr} {f : Addr} {fd : FuncData} (m : Mg mg) (F : FunD K "_law_capped" "_law_capped" (defArgs st__law_capped) (defBody st__law_capped) (defScope st__law_capped) [] [] f fd)  : FnC P w K mg base 1 f fd ["index", "most"] (spD ⟨K, w⟩ T sp__law_capped) :=
  fnD_of F sc__law_capped (by decide) (fun A outer s H C hK hT hr hG => walk__law_capped m  hK.symm hT hr hG) pure__law_capped
theorem bd__law_capped {K : PySem.W.Frag} {f : Addr} {fd : FuncData} (F : FunD K "_law_capped" "_law_capped" (defArgs st__law_capped) (defBody st__law_capped) (defScope st__law_capped) [] [] f fd) : Binds K fd ["index", "most"] [] :=
  F.bindsN fun _ _ _ _ _ _ us hl => match us, hl with | [_, _], _ => rfl
theorem fc__law_product {P : Program} {w : World} {K : PySem.W.Frag} {mg : Str → Option Value} {base : Heap} {T : List Addr} {f : Addr} {fd : FuncData} (m : Mg mg) (F : FunD K "_law_product" "_law_product" (defArgs st__law_product) (defBody st__law_product) (defScope st__law_product) [] [] f fd)  : FnC P w K mg base 1 f fd ["one", "other", "pairs"] (spD ⟨K, w⟩ T sp__law_product) :=
  fnD_of F sc__law_product (by decide) (fun A outer s H C hK hT hr hG => walk__law_product m  hK.symm hT hr hG) pure__law_product
theorem bd__law_product {K : PySem.W.Frag} {f : Addr} {fd : FuncData} (F : FunD K "_law_product" "_law_product" (defArgs st__law_product) (defBody st__law_product) (defScope st__law_product) [] [] f fd) : Binds K fd ["one", "other", "pairs"] [] :=
  F.bindsN fun _ _ _ _ _ _ us hl => match us, hl with | [_, _, _], _ => rfl
theorem fc_law {P : Program} {w : World} {K : PySem.W.Frag} {mg : Str → Option Value} {base : Heap} {T : List Addr} {f : Addr} {fd : FuncData} (m : Mg mg) (F : FunD K "law" "law" (defArgs st_law) (defBody st_law) (defScope st_law) [] [] f fd) (k__law_all : Known P w K mg base T "_law_all" 1 ["moduli"] sp__law_all) (k__law_capped : Known P w K mg base T "_law_capped" 1 ["index", "most"] sp__law_capped) (k__law_finite : Known P w K mg base T "_law_finite" 2 ["source", "most"] sp__law_finite) (k__law_index : Known P w K mg base T "_law_index" 2 ["moduli", "every", "one", "other"] sp__law_index) (k__law_moduli : Known P w K mg base T "_law_moduli" 1 ["group"] sp__law_moduli) (k__law_pairs_drawn : Known P w K mg base T "_law_pairs_drawn" 2 ["source"] sp__law_pairs_drawn) (k__law_product : Known P w K mg base T "_law_product" 1 ["one", "other", "pairs"] sp__law_product) (k__law_same : Known P w K mg base T "_law_same" 1 ["told", "due"] sp__law_same) (k__law_source : Known P w K mg base T "_law_source" 1 ["script", "k"] sp__law_source) (k__law_told : Known P w K mg base T "_law_told" 2 ["source"] sp__law_told) (k_index_in : Known P w K mg base T "index_in" 10 ["group", "one", "other"] sp_index_in) (k_sum_of : Known P w K mg base T "sum_of" 10 ["one", "other"] sp_sum_of) (k_vector_of : Known P w K mg base T "vector_of" 10 ["group", "pairs"] sp_vector_of) (k_vector_ofK : KnownK P w K mg base T "vector_of" 10 ["group", "pairs"] 0 ["pairs", "group"] [1, 0] sp_vector_of) : FnC P w K mg base 11 f fd ["script"] (spD ⟨K, w⟩ T sp_law) :=
  fnD_of F sc_law (by decide) (fun A outer s H C hK hT hr hG => walk_law m k__law_all k__law_capped k__law_finite k__law_index k__law_moduli k__law_pairs_drawn k__law_product k__law_same k__law_source k__law_told k_index_in k_sum_of k_vector_of k_vector_ofK hK.symm hT hr hG) pure_law
theorem bd_law {K : PySem.W.Frag} {f : Addr} {fd : FuncData} (F : FunD K "law" "law" (defArgs st_law) (defBody st_law) (defScope st_law) [] [] f fd) : Binds K fd ["script"] [] :=
  F.bindsN fun _ _ _ _ _ _ us hl => match us, hl with | [_], _ => rfl
theorem kb_vector_of {K : PySem.W.Frag} {f : Addr} {fd : FuncData} (F : FunD K "vector_of" "vector_of" (defArgs st_vector_of) (defBody st_vector_of) (defScope st_vector_of) [] [] f fd) : KBd fd ["group", "pairs"] 0 ["pairs", "group"] [1, 0] :=
  kbd_of F fun _ _ _ _ _ _ us ws h1 h2 => match us, h1, ws, h2 with | [], _, [_, _], _ => rfl
/-! ### the whole -/
def tbs (K : PySem.W.Frag) : List Addr := (tf.map (He.cT K)).map (·.2)
theorem mg_ok {w : World} {K : PySem.W.Frag} {h : Heap} {mg : Str → Option Value} (X : K.In h) (G : h.Ns mainGlobals mg) (c : He.SaysX fa fn [] tf ex w h K) : Mg mg :=
  ⟨fun x hx => He.free_ok X G (c.t.d.facts (List.mem_append.mpr (.inr (List.mem_map.mpr ⟨x, hx, rfl⟩)))), PySem.W.mg_of X G (He.eqO_ok (List.all_eq_true.mp c.more (bltB K "gcd" "math.gcd") (List.mem_of_getElem? (l := exs K) (i := 0) rfl) : bltB K "gcd" "math.gcd" = true))⟩
theorem whole {P : Program} {w : World} {K : PySem.W.Frag} {h base : Heap} {mg : Str → Option Value} (X : K.In h) (G : h.Ns mainGlobals mg) (c : He.SaysX fa fn [] tf ex w h K) (TB0 : ∀ p ∈ tf.map (He.cT K), GxR.TabB base mg p.1 p.2) :
    ∃ fd, FunD K "law" "law" (defArgs st_law) (defBody st_law) (defScope st_law) [] [] (He.fAd K ("law", none)) fd ∧ FnC P w K mg base 11 (He.fAd K ("law", none)) fd ["script"] (spD ⟨K, w⟩ (tbs K) sp_law) := by
  have m := mg_ok X G c
  have TB : ∀ p ∈ tf, GxR.TabB base mg (He.cT K p).1 (He.cT K p).2 := fun p hp => TB0 _ (List.mem_map.mpr ⟨p, hp, rfl⟩)
  have pt : ∀ p ∈ tf, (He.cT K p).2 ∈ tbs K := fun p hp => List.mem_map.mpr ⟨He.cT K p, List.mem_map.mpr ⟨p, hp, rfl⟩, rfl⟩
  have c_BY_PRIME : Const mg K "BY_PRIME" (.tuple [.str "apart", .str "deep"]) := con_ok X G (List.all_eq_true.mp c.more _ (List.mem_of_getElem? (l := exs K) (i := 1) rfl))
  have c_EVER : Const mg K "EVER" (.int (-1)) := con_ok X G (List.all_eq_true.mp c.more _ (List.mem_of_getElem? (l := exs K) (i := 2) rfl))
  have c_WHOLE : Const mg K "WHOLE" (.tuple [.str "line", .str "all"]) := con_ok X G (List.all_eq_true.mp c.more _ (List.mem_of_getElem? (l := exs K) (i := 3) rfl))
  obtain ⟨fd__law_all, F__law_all⟩ := c.t.d.def_ 39 (d := dd__law_all) rfl
  have g__law_all : mg "_law_all" = some (.ref (He.fAd K ("_law_all", none))) := He.glo_ok X G (c.t.d.fact 39 (f := .glo "_law_all") rfl)
  have k__law_all : Known P w K mg base (tbs K) "_law_all" 1 ["moduli"] sp__law_all := ⟨_, fd__law_all, fc__law_all m F__law_all , g__law_all, F__law_all.kp, bd__law_all F__law_all⟩
  obtain ⟨fd__law_capped, F__law_capped⟩ := c.t.d.def_ 43 (d := dd__law_capped) rfl
  have g__law_capped : mg "_law_capped" = some (.ref (He.fAd K ("_law_capped", none))) := He.glo_ok X G (c.t.d.fact 43 (f := .glo "_law_capped") rfl)
  have k__law_capped : Known P w K mg base (tbs K) "_law_capped" 1 ["index", "most"] sp__law_capped := ⟨_, fd__law_capped, fc__law_capped m F__law_capped , g__law_capped, F__law_capped.kp, bd__law_capped F__law_capped⟩
  obtain ⟨fd__law_draw, F__law_draw⟩ := c.t.d.def_ 34 (d := dd__law_draw) rfl
  have g__law_draw : mg "_law_draw" = some (.ref (He.fAd K ("_law_draw", none))) := He.glo_ok X G (c.t.d.fact 34 (f := .glo "_law_draw") rfl)
  have k__law_draw : Known P w K mg base (tbs K) "_law_draw" 1 ["source", "many"] sp__law_draw := ⟨_, fd__law_draw, fc__law_draw m F__law_draw , g__law_draw, F__law_draw.kp, bd__law_draw F__law_draw⟩
  obtain ⟨fd__law_finite, F__law_finite⟩ := c.t.d.def_ 36 (d := dd__law_finite) rfl
  have g__law_finite : mg "_law_finite" = some (.ref (He.fAd K ("_law_finite", none))) := He.glo_ok X G (c.t.d.fact 36 (f := .glo "_law_finite") rfl)
  have k__law_finite : Known P w K mg base (tbs K) "_law_finite" 2 ["source", "most"] sp__law_finite := ⟨_, fd__law_finite, fc__law_finite m F__law_finite k__law_draw, g__law_finite, F__law_finite.kp, bd__law_finite F__law_finite⟩
  obtain ⟨fd__law_row_holds, F__law_row_holds⟩ := c.t.d.def_ 40 (d := dd__law_row_holds) rfl
  have g__law_row_holds : mg "_law_row_holds" = some (.ref (He.fAd K ("_law_row_holds", none))) := He.glo_ok X G (c.t.d.fact 40 (f := .glo "_law_row_holds") rfl)
  have k__law_row_holds : Known P w K mg base (tbs K) "_law_row_holds" 1 ["moduli", "d", "a", "points"] sp__law_row_holds := ⟨_, fd__law_row_holds, fc__law_row_holds m F__law_row_holds , g__law_row_holds, F__law_row_holds.kp, bd__law_row_holds F__law_row_holds⟩
  obtain ⟨fd__law_index, F__law_index⟩ := c.t.d.def_ 41 (d := dd__law_index) rfl
  have g__law_index : mg "_law_index" = some (.ref (He.fAd K ("_law_index", none))) := He.glo_ok X G (c.t.d.fact 41 (f := .glo "_law_index") rfl)
  have k__law_index : Known P w K mg base (tbs K) "_law_index" 2 ["moduli", "every", "one", "other"] sp__law_index := ⟨_, fd__law_index, fc__law_index m F__law_index k__law_row_holds, g__law_index, F__law_index.kp, bd__law_index F__law_index⟩
  obtain ⟨fd__law_moduli, F__law_moduli⟩ := c.t.d.def_ 38 (d := dd__law_moduli) rfl
  have g__law_moduli : mg "_law_moduli" = some (.ref (He.fAd K ("_law_moduli", none))) := He.glo_ok X G (c.t.d.fact 38 (f := .glo "_law_moduli") rfl)
  have k__law_moduli : Known P w K mg base (tbs K) "_law_moduli" 1 ["group"] sp__law_moduli := ⟨_, fd__law_moduli, fc__law_moduli m F__law_moduli , g__law_moduli, F__law_moduli.kp, bd__law_moduli F__law_moduli⟩
  obtain ⟨fd__law_pairs_drawn, F__law_pairs_drawn⟩ := c.t.d.def_ 42 (d := dd__law_pairs_drawn) rfl
  have g__law_pairs_drawn : mg "_law_pairs_drawn" = some (.ref (He.fAd K ("_law_pairs_drawn", none))) := He.glo_ok X G (c.t.d.fact 42 (f := .glo "_law_pairs_drawn") rfl)
  have k__law_pairs_drawn : Known P w K mg base (tbs K) "_law_pairs_drawn" 2 ["source"] sp__law_pairs_drawn := ⟨_, fd__law_pairs_drawn, fc__law_pairs_drawn m F__law_pairs_drawn k__law_draw, g__law_pairs_drawn, F__law_pairs_drawn.kp, bd__law_pairs_drawn F__law_pairs_drawn⟩
  obtain ⟨fd__law_product, F__law_product⟩ := c.t.d.def_ 44 (d := dd__law_product) rfl
  have g__law_product : mg "_law_product" = some (.ref (He.fAd K ("_law_product", none))) := He.glo_ok X G (c.t.d.fact 44 (f := .glo "_law_product") rfl)
  have k__law_product : Known P w K mg base (tbs K) "_law_product" 1 ["one", "other", "pairs"] sp__law_product := ⟨_, fd__law_product, fc__law_product m F__law_product , g__law_product, F__law_product.kp, bd__law_product F__law_product⟩
  obtain ⟨fd__law_same, F__law_same⟩ := c.t.d.def_ 35 (d := dd__law_same) rfl
  have g__law_same : mg "_law_same" = some (.ref (He.fAd K ("_law_same", none))) := He.glo_ok X G (c.t.d.fact 35 (f := .glo "_law_same") rfl)
  have k__law_same : Known P w K mg base (tbs K) "_law_same" 1 ["told", "due"] sp__law_same := ⟨_, fd__law_same, fc__law_same m F__law_same , g__law_same, F__law_same.kp, bd__law_same F__law_same⟩
  obtain ⟨fd__law_source, F__law_source⟩ := c.t.d.def_ 33 (d := dd__law_source) rfl
  have g__law_source : mg "_law_source" = some (.ref (He.fAd K ("_law_source", none))) := He.glo_ok X G (c.t.d.fact 33 (f := .glo "_law_source") rfl)
  have k__law_source : Known P w K mg base (tbs K) "_law_source" 1 ["script", "k"] sp__law_source := ⟨_, fd__law_source, fc__law_source m F__law_source , g__law_source, F__law_source.kp, bd__law_source F__law_source⟩
  obtain ⟨fd__law_told, F__law_told⟩ := c.t.d.def_ 37 (d := dd__law_told) rfl
  have g__law_told : mg "_law_told" = some (.ref (He.fAd K ("_law_told", none))) := He.glo_ok X G (c.t.d.fact 37 (f := .glo "_law_told") rfl)
  have k__law_told : Known P w K mg base (tbs K) "_law_told" 2 ["source"] sp__law_told := ⟨_, fd__law_told, fc__law_told m F__law_told k__law_draw, g__law_told, F__law_told.kp, bd__law_told F__law_told⟩
  obtain ⟨fd_is_ascending, F_is_ascending⟩ := c.t.d.def_ 3 (d := dd_is_ascending) rfl
  have g_is_ascending : mg "is_ascending" = some (.ref (He.fAd K ("is_ascending", none))) := He.glo_ok X G (c.t.d.fact 3 (f := .glo "is_ascending") rfl)
  have k_is_ascending : Known P w K mg base (tbs K) "is_ascending" 2 ["items"] sp_is_ascending := ⟨_, fd_is_ascending, fc_is_ascending m F_is_ascending (code_of F_is_ascending) (TB ("is_ascending", none) (by decide)) (pt ("is_ascending", none) (by decide)), g_is_ascending, F_is_ascending.kp, bd_is_ascending F_is_ascending⟩
  obtain ⟨fd_is_integer, F_is_integer⟩ := c.t.d.def_ 0 (d := dd_is_integer) rfl
  have g_is_integer : mg "is_integer" = some (.ref (He.fAd K ("is_integer", none))) := He.glo_ok X G (c.t.d.fact 0 (f := .glo "is_integer") rfl)
  have k_is_integer : Known P w K mg base (tbs K) "is_integer" 1 ["value"] sp_is_integer := ⟨_, fd_is_integer, fc_is_integer m F_is_integer , g_is_integer, F_is_integer.kp, bd_is_integer F_is_integer⟩
  obtain ⟨fd_exponent_of, F_exponent_of⟩ := c.t.d.def_ 4 (d := dd_exponent_of) rfl
  have g_exponent_of : mg "exponent_of" = some (.ref (He.fAd K ("exponent_of", none))) := He.glo_ok X G (c.t.d.fact 4 (f := .glo "exponent_of") rfl)
  have k_exponent_of : Known P w K mg base (tbs K) "exponent_of" 1 ["p", "number"] sp_exponent_of := ⟨_, fd_exponent_of, fc_exponent_of m F_exponent_of , g_exponent_of, F_exponent_of.kp, bd_exponent_of F_exponent_of⟩
  obtain ⟨fd_prime_powers, F_prime_powers⟩ := c.t.d.def_ 5 (d := dd_prime_powers) rfl
  have g_prime_powers : mg "prime_powers" = some (.ref (He.fAd K ("prime_powers", none))) := He.glo_ok X G (c.t.d.fact 5 (f := .glo "prime_powers") rfl)
  have k_prime_powers : Known P w K mg base (tbs K) "prime_powers" 2 ["number"] sp_prime_powers := ⟨_, fd_prime_powers, fc_prime_powers m F_prime_powers k_exponent_of, g_prime_powers, F_prime_powers.kp, bd_prime_powers F_prime_powers⟩
  obtain ⟨fd_is_prime, F_is_prime⟩ := c.t.d.def_ 6 (d := dd_is_prime) rfl
  have g_is_prime : mg "is_prime" = some (.ref (He.fAd K ("is_prime", none))) := He.glo_ok X G (c.t.d.fact 6 (f := .glo "is_prime") rfl)
  have k_is_prime : Known P w K mg base (tbs K) "is_prime" 3 ["number"] sp_is_prime := ⟨_, fd_is_prime, fc_is_prime m F_is_prime k_prime_powers, g_is_prime, F_is_prime.kp, bd_is_prime F_is_prime⟩
  obtain ⟨fd_is_a_prime, F_is_a_prime⟩ := c.t.d.def_ 7 (d := dd_is_a_prime) rfl
  have g_is_a_prime : mg "is_a_prime" = some (.ref (He.fAd K ("is_a_prime", none))) := He.glo_ok X G (c.t.d.fact 7 (f := .glo "is_a_prime") rfl)
  have k_is_a_prime : Known P w K mg base (tbs K) "is_a_prime" 4 ["value"] sp_is_a_prime := ⟨_, fd_is_a_prime, fc_is_a_prime m F_is_a_prime k_is_integer k_is_prime, g_is_a_prime, F_is_a_prime.kp, bd_is_a_prime F_is_a_prime⟩
  obtain ⟨fd_is_part_in, F_is_part_in⟩ := c.t.d.def_ 8 (d := dd_is_part_in) rfl
  have g_is_part_in : mg "is_part_in" = some (.ref (He.fAd K ("is_part_in", none))) := He.glo_ok X G (c.t.d.fact 8 (f := .glo "is_part_in") rfl)
  have k_is_part_in : Known P w K mg base (tbs K) "is_part_in" 5 ["value"] sp_is_part_in := ⟨_, fd_is_part_in, fc_is_part_in m F_is_part_in k_is_a_prime k_is_integer c_BY_PRIME c_WHOLE, g_is_part_in, F_is_part_in.kp, bd_is_part_in F_is_part_in⟩
  obtain ⟨fd_is_counted, F_is_counted⟩ := c.t.d.def_ 9 (d := dd_is_counted) rfl
  have g_is_counted : mg "is_counted" = some (.ref (He.fAd K ("is_counted", none))) := He.glo_ok X G (c.t.d.fact 9 (f := .glo "is_counted") rfl)
  have k_is_counted : Known P w K mg base (tbs K) "is_counted" 6 ["value"] sp_is_counted := ⟨_, fd_is_counted, fc_is_counted m F_is_counted k_is_integer k_is_part_in c_EVER, g_is_counted, F_is_counted.kp, bd_is_counted F_is_counted⟩
  obtain ⟨fd_is_group_in, F_is_group_in⟩ := c.t.d.def_ 10 (d := dd_is_group_in) rfl
  have g_is_group_in : mg "is_group_in" = some (.ref (He.fAd K ("is_group_in", none))) := He.glo_ok X G (c.t.d.fact 10 (f := .glo "is_group_in") rfl)
  have k_is_group_in : Known P w K mg base (tbs K) "is_group_in" 8 ["value"] sp_is_group_in := ⟨_, fd_is_group_in, fc_is_group_in m F_is_group_in k_is_ascending k_is_counted (code_of F_is_group_in) (TB ("is_group_in", none) (by decide)) (pt ("is_group_in", none) (by decide)), g_is_group_in, F_is_group_in.kp, bd_is_group_in F_is_group_in⟩
  obtain ⟨fd_check_group, F_check_group⟩ := c.t.d.def_ 11 (d := dd_check_group) rfl
  have g_check_group : mg "check_group" = some (.ref (He.fAd K ("check_group", none))) := He.glo_ok X G (c.t.d.fact 11 (f := .glo "check_group") rfl)
  have k_check_group : Known P w K mg base (tbs K) "check_group" 9 ["group"] sp_check_group := ⟨_, fd_check_group, fc_check_group m F_check_group k_is_group_in, g_check_group, F_check_group.kp, bd_check_group F_check_group⟩
  obtain ⟨fd_are_integers, F_are_integers⟩ := c.t.d.def_ 2 (d := dd_are_integers) rfl
  have g_are_integers : mg "are_integers" = some (.ref (He.fAd K ("are_integers", none))) := He.glo_ok X G (c.t.d.fact 2 (f := .glo "are_integers") rfl)
  have k_are_integers : Known P w K mg base (tbs K) "are_integers" 3 ["value", "size"] sp_are_integers := ⟨_, fd_are_integers, fc_are_integers m F_are_integers k_is_integer (code_of F_are_integers) (TB ("are_integers", none) (by decide)) (pt ("are_integers", none) (by decide)), g_are_integers, F_are_integers.kp, bd_are_integers F_are_integers⟩
  obtain ⟨fd_is_natural, F_is_natural⟩ := c.t.d.def_ 1 (d := dd_is_natural) rfl
  have g_is_natural : mg "is_natural" = some (.ref (He.fAd K ("is_natural", none))) := He.glo_ok X G (c.t.d.fact 1 (f := .glo "is_natural") rfl)
  have k_is_natural : Known P w K mg base (tbs K) "is_natural" 2 ["value"] sp_is_natural := ⟨_, fd_is_natural, fc_is_natural m F_is_natural k_is_integer, g_is_natural, F_is_natural.kp, bd_is_natural F_is_natural⟩
  obtain ⟨fd_is_row_in, F_is_row_in⟩ := c.t.d.def_ 15 (d := dd_is_row_in) rfl
  have g_is_row_in : mg "is_row_in" = some (.ref (He.fAd K ("is_row_in", none))) := He.glo_ok X G (c.t.d.fact 15 (f := .glo "is_row_in") rfl)
  have k_is_row_in : Known P w K mg base (tbs K) "is_row_in" 4 ["n", "value"] sp_is_row_in := ⟨_, fd_is_row_in, fc_is_row_in m F_is_row_in k_are_integers k_is_natural, g_is_row_in, F_is_row_in.kp, bd_is_row_in F_is_row_in⟩
  obtain ⟨fd_is_lot_in, F_is_lot_in⟩ := c.t.d.def_ 16 (d := dd_is_lot_in) rfl
  have g_is_lot_in : mg "is_lot_in" = some (.ref (He.fAd K ("is_lot_in", none))) := He.glo_ok X G (c.t.d.fact 16 (f := .glo "is_lot_in") rfl)
  have k_is_lot_in : Known P w K mg base (tbs K) "is_lot_in" 6 ["n", "value"] sp_is_lot_in := ⟨_, fd_is_lot_in, fc_is_lot_in m F_is_lot_in k_is_row_in (code_of F_is_lot_in) (TB ("is_lot_in", none) (by decide)) (pt ("is_lot_in", none) (by decide)), g_is_lot_in, F_is_lot_in.kp, bd_is_lot_in F_is_lot_in⟩
  obtain ⟨fd_check_lot, F_check_lot⟩ := c.t.d.def_ 17 (d := dd_check_lot) rfl
  have g_check_lot : mg "check_lot" = some (.ref (He.fAd K ("check_lot", none))) := He.glo_ok X G (c.t.d.fact 17 (f := .glo "check_lot") rfl)
  have k_check_lot : Known P w K mg base (tbs K) "check_lot" 7 ["n", "lot"] sp_check_lot := ⟨_, fd_check_lot, fc_check_lot m F_check_lot k_is_lot_in, g_check_lot, F_check_lot.kp, bd_check_lot F_check_lot⟩
  obtain ⟨fd_exponent_in, F_exponent_in⟩ := c.t.d.def_ 21 (d := dd_exponent_in) rfl
  have g_exponent_in : mg "exponent_in" = some (.ref (He.fAd K ("exponent_in", none))) := He.glo_ok X G (c.t.d.fact 21 (f := .glo "exponent_in") rfl)
  have k_exponent_in : Known P w K mg base (tbs K) "exponent_in" 2 ["p", "lot", "most"] sp_exponent_in := ⟨_, fd_exponent_in, fc_exponent_in m F_exponent_in k_exponent_of, g_exponent_in, F_exponent_in.kp, bd_exponent_in F_exponent_in⟩
  obtain ⟨fd_greatest_exponent, F_greatest_exponent⟩ := c.t.d.def_ 23 (d := dd_greatest_exponent) rfl
  have g_greatest_exponent : mg "greatest_exponent" = some (.ref (He.fAd K ("greatest_exponent", none))) := He.glo_ok X G (c.t.d.fact 23 (f := .glo "greatest_exponent") rfl)
  have k_greatest_exponent : Known P w K mg base (tbs K) "greatest_exponent" 2 ["p", "lot"] sp_greatest_exponent := ⟨_, fd_greatest_exponent, fc_greatest_exponent m F_greatest_exponent k_exponent_of, g_greatest_exponent, F_greatest_exponent.kp, bd_greatest_exponent F_greatest_exponent⟩
  obtain ⟨fd_makes_zero, F_makes_zero⟩ := c.t.d.def_ 19 (d := dd_makes_zero) rfl
  have g_makes_zero : mg "makes_zero" = some (.ref (He.fAd K ("makes_zero", none))) := He.glo_ok X G (c.t.d.fact 19 (f := .glo "makes_zero") rfl)
  have k_makes_zero : Known P w K mg base (tbs K) "makes_zero" 2 ["lot"] sp_makes_zero := ⟨_, fd_makes_zero, fc_makes_zero m F_makes_zero (code_of F_makes_zero) (TB ("makes_zero", none) (by decide)) (pt ("makes_zero", none) (by decide)), g_makes_zero, F_makes_zero.kp, bd_makes_zero F_makes_zero⟩
  obtain ⟨fd_multiple_in, F_multiple_in⟩ := c.t.d.def_ 20 (d := dd_multiple_in) rfl
  have g_multiple_in : mg "multiple_in" = some (.ref (He.fAd K ("multiple_in", none))) := He.glo_ok X G (c.t.d.fact 20 (f := .glo "multiple_in") rfl)
  have k_multiple_in : Known P w K mg base (tbs K) "multiple_in" 3 ["lot"] sp_multiple_in := ⟨_, fd_multiple_in, fc_multiple_in m F_multiple_in k_makes_zero, g_multiple_in, F_multiple_in.kp, bd_multiple_in F_multiple_in⟩
  obtain ⟨fd_index_of_line, F_index_of_line⟩ := c.t.d.def_ 24 (d := dd_index_of_line) rfl
  have g_index_of_line : mg "index_of_line" = some (.ref (He.fAd K ("index_of_line", none))) := He.glo_ok X G (c.t.d.fact 24 (f := .glo "index_of_line") rfl)
  have k_index_of_line : Known P w K mg base (tbs K) "index_of_line" 4 ["one", "both"] sp_index_of_line := ⟨_, fd_index_of_line, fc_index_of_line m F_index_of_line k_multiple_in, g_index_of_line, F_index_of_line.kp, bd_index_of_line F_index_of_line⟩
  obtain ⟨fd_raised, F_raised⟩ := c.t.d.def_ 18 (d := dd_raised) rfl
  have g_raised : mg "raised" = some (.ref (He.fAd K ("raised", none))) := He.glo_ok X G (c.t.d.fact 18 (f := .glo "raised") rfl)
  have k_raised : Known P w K mg base (tbs K) "raised" 1 ["p", "many"] sp_raised := ⟨_, fd_raised, fc_raised m F_raised , g_raised, F_raised.kp, bd_raised F_raised⟩
  obtain ⟨fd_torsion_in, F_torsion_in⟩ := c.t.d.def_ 22 (d := dd_torsion_in) rfl
  have g_torsion_in : mg "torsion_in" = some (.ref (He.fAd K ("torsion_in", none))) := He.glo_ok X G (c.t.d.fact 22 (f := .glo "torsion_in") rfl)
  have k_torsion_in : Known P w K mg base (tbs K) "torsion_in" 2 ["p", "lot"] sp_torsion_in := ⟨_, fd_torsion_in, fc_torsion_in m F_torsion_in k_exponent_of, g_torsion_in, F_torsion_in.kp, bd_torsion_in F_torsion_in⟩
  obtain ⟨fd_index_of_part, F_index_of_part⟩ := c.t.d.def_ 25 (d := dd_index_of_part) rfl
  have g_index_of_part : mg "index_of_part" = some (.ref (He.fAd K ("index_of_part", none))) := He.glo_ok X G (c.t.d.fact 25 (f := .glo "index_of_part") rfl)
  have k_index_of_part : Known P w K mg base (tbs K) "index_of_part" 5 ["part", "one", "both"] sp_index_of_part := ⟨_, fd_index_of_part, fc_index_of_part m F_index_of_part k_exponent_in k_greatest_exponent k_index_of_line k_makes_zero k_raised k_torsion_in, g_index_of_part, F_index_of_part.kp, bd_index_of_part F_index_of_part⟩
  obtain ⟨fd_index_of, F_index_of⟩ := c.t.d.def_ 26 (d := dd_index_of) rfl
  have g_index_of : mg "index_of" = some (.ref (He.fAd K ("index_of", none))) := He.glo_ok X G (c.t.d.fact 26 (f := .glo "index_of") rfl)
  have k_index_of : Known P w K mg base (tbs K) "index_of" 6 ["group", "one", "other"] sp_index_of := ⟨_, fd_index_of, fc_index_of m F_index_of k_index_of_part k_raised c_EVER, g_index_of, F_index_of.kp, bd_index_of F_index_of⟩
  obtain ⟨fd_index_in, F_index_in⟩ := c.t.d.def_ 27 (d := dd_index_in) rfl
  have g_index_in : mg "index_in" = some (.ref (He.fAd K ("index_in", none))) := He.glo_ok X G (c.t.d.fact 27 (f := .glo "index_in") rfl)
  have k_index_in : Known P w K mg base (tbs K) "index_in" 10 ["group", "one", "other"] sp_index_in := ⟨_, fd_index_in, fc_index_in m F_index_in k_check_group k_check_lot k_index_of, g_index_in, F_index_in.kp, bd_index_in F_index_in⟩
  obtain ⟨fd_counted, F_counted⟩ := c.t.d.def_ 12 (d := dd_counted) rfl
  have g_counted : mg "counted" = some (.ref (He.fAd K ("counted", none))) := He.glo_ok X G (c.t.d.fact 12 (f := .glo "counted") rfl)
  have k_counted : Known P w K mg base (tbs K) "counted" 1 ["one", "other"] sp_counted := ⟨_, fd_counted, fc_counted m F_counted c_EVER, g_counted, F_counted.kp, bd_counted F_counted⟩
  obtain ⟨fd_group_in, F_group_in⟩ := c.t.d.def_ 13 (d := dd_group_in) rfl
  have g_group_in : mg "group_in" = some (.ref (He.fAd K ("group_in", none))) := He.glo_ok X G (c.t.d.fact 13 (f := .glo "group_in") rfl)
  have k_group_in : Known P w K mg base (tbs K) "group_in" 2 ["pairs"] sp_group_in := ⟨_, fd_group_in, fc_group_in m F_group_in k_counted, g_group_in, F_group_in.kp, bd_group_in F_group_in⟩
  obtain ⟨fd_sum_of, F_sum_of⟩ := c.t.d.def_ 14 (d := dd_sum_of) rfl
  have g_sum_of : mg "sum_of" = some (.ref (He.fAd K ("sum_of", none))) := He.glo_ok X G (c.t.d.fact 14 (f := .glo "sum_of") rfl)
  have k_sum_of : Known P w K mg base (tbs K) "sum_of" 10 ["one", "other"] sp_sum_of := ⟨_, fd_sum_of, fc_sum_of m F_sum_of k_check_group k_group_in, g_sum_of, F_sum_of.kp, bd_sum_of F_sum_of⟩
  obtain ⟨fd_is_pair_in, F_is_pair_in⟩ := c.t.d.def_ 28 (d := dd_is_pair_in) rfl
  have g_is_pair_in : mg "is_pair_in" = some (.ref (He.fAd K ("is_pair_in", none))) := He.glo_ok X G (c.t.d.fact 28 (f := .glo "is_pair_in") rfl)
  have k_is_pair_in : Known P w K mg base (tbs K) "is_pair_in" 7 ["value"] sp_is_pair_in := ⟨_, fd_is_pair_in, fc_is_pair_in m F_is_pair_in k_is_integer k_is_lot_in, g_is_pair_in, F_is_pair_in.kp, bd_is_pair_in F_is_pair_in⟩
  obtain ⟨fd_check_pairs, F_check_pairs⟩ := c.t.d.def_ 29 (d := dd_check_pairs) rfl
  have g_check_pairs : mg "check_pairs" = some (.ref (He.fAd K ("check_pairs", none))) := He.glo_ok X G (c.t.d.fact 29 (f := .glo "check_pairs") rfl)
  have k_check_pairs : Known P w K mg base (tbs K) "check_pairs" 9 ["pairs"] sp_check_pairs := ⟨_, fd_check_pairs, fc_check_pairs m F_check_pairs k_is_pair_in (code_of F_check_pairs) (TB ("check_pairs", none) (by decide)) (pt ("check_pairs", none) (by decide)), g_check_pairs, F_check_pairs.kp, bd_check_pairs F_check_pairs⟩
  obtain ⟨fd_capped, F_capped⟩ := c.t.d.def_ 30 (d := dd_capped) rfl
  have g_capped : mg "capped" = some (.ref (He.fAd K ("capped", none))) := He.glo_ok X G (c.t.d.fact 30 (f := .glo "capped") rfl)
  have k_capped : Known P w K mg base (tbs K) "capped" 1 ["number", "most"] sp_capped := ⟨_, fd_capped, fc_capped m F_capped , g_capped, F_capped.kp, bd_capped F_capped⟩
  obtain ⟨fd_vector_in, F_vector_in⟩ := c.t.d.def_ 31 (d := dd_vector_in) rfl
  have g_vector_in : mg "vector_in" = some (.ref (He.fAd K ("vector_in", none))) := He.glo_ok X G (c.t.d.fact 31 (f := .glo "vector_in") rfl)
  have k_vector_in : Known P w K mg base (tbs K) "vector_in" 7 ["group", "pairs"] sp_vector_in := ⟨_, fd_vector_in, fc_vector_in m F_vector_in k_capped k_index_of, g_vector_in, F_vector_in.kp, bd_vector_in F_vector_in⟩
  obtain ⟨fd_vector_of, F_vector_of⟩ := c.t.d.def_ 32 (d := dd_vector_of) rfl
  have g_vector_of : mg "vector_of" = some (.ref (He.fAd K ("vector_of", none))) := He.glo_ok X G (c.t.d.fact 32 (f := .glo "vector_of") rfl)
  have k_vector_of : Known P w K mg base (tbs K) "vector_of" 10 ["group", "pairs"] sp_vector_of := ⟨_, fd_vector_of, fc_vector_of m F_vector_of k_check_group k_check_pairs k_vector_in, g_vector_of, F_vector_of.kp, bd_vector_of F_vector_of⟩
  have k_vector_ofK : KnownK P w K mg base (tbs K) "vector_of" 10 ["group", "pairs"] 0 ["pairs", "group"] [1, 0] sp_vector_of := ⟨_, fd_vector_of, fc_vector_of m F_vector_of k_check_group k_check_pairs k_vector_in, g_vector_of, F_vector_of.kp, kb_vector_of F_vector_of⟩
  obtain ⟨fd_law, F_law⟩ := c.t.d.def_ 45 (d := dd_law) rfl
  have g_law : mg "law" = some (.ref (He.fAd K ("law", none))) := He.glo_ok X G (c.t.d.fact 45 (f := .glo "law") rfl)
  exact ⟨fd_law, F_law, fc_law m F_law k__law_all k__law_capped k__law_finite k__law_index k__law_moduli k__law_pairs_drawn k__law_product k__law_same k__law_source k__law_told k_index_in k_sum_of k_vector_of k_vector_ofK⟩
theorem law_at (w : World) (mg : Str → Option Value) (f : Addr) (h : Heap) (Y : hk.says w h) (G : h.Ns mainGlobals mg) (hf : mg ("law" : Str) = some (.ref f)) : ∃ K : PySem.W.Frag, K.In h ∧ LawAtC PySem.Challenge.rw_groupsayings_k78_whole_vectors w K 11 63 "script" mg f h := by
  obtain ⟨K, X, c⟩ := Y
  have e := hf.symm.trans (He.glo_ok X G (c.t.d.fact 45 (f := .glo "law") rfl))
  cases e
  obtain ⟨fd0, F0⟩ := c.t.d.def_ 45 (d := dd_law) rfl
  refine ⟨K, X, fd0, tf.map (He.cT K), sp_law, fun p hp => ?_, fun p hp => ?_, fun p hp => ?_, fun s u => ?_, fun ns _ _ => ⟨ns, rfl, rfl⟩, fun base KX NG TB => ?_⟩
  · obtain ⟨q, hq, rfl⟩ := List.mem_map.mp hp
    exact c.empty q hq
  · obtain ⟨q, hq, rfl⟩ := List.mem_map.mp hp
    exact c.out q hq
  · obtain ⟨q, hq, rfl⟩ := List.mem_map.mp hp
    exact PySem.W.codeHd_of_K X (c.hd q hq)
  · exact F0.bindsA (ps := ["script"]) (fun _ _ _ _ _ _ us hl => match us, hl with | [_], _ => rfl) s [u] rfl
  · obtain ⟨fd1, F1, FC⟩ := whole (P := (PySem.Challenge.rw_groupsayings_k78_whole_vectors).prog) (base := base) X G c TB
    have e : fd1 = fd0 := by
      obtain ⟨_, _, _, _, _, _, _, _, _, _, _, l1, _⟩ := F0.ex
      obtain ⟨_, _, _, _, _, _, _, _, _, _, _, l2, _⟩ := F1.ex
      have l1 : K.lookup (He.fAd K ("law", none)) = _ := l1
      rw [l1] at l2
      have := Option.some.inj l2
      injection this with _ _ d _
      injection d with d
      exact d.symm
    rw [← e]
    exact FC
end GSP
open PySem PySem.W PySem.Calls PyProof.Rows
theorem PySem.Challenge.cw_groupsayings_k78_whole_vectors_holds : PySem.Challenge.rw_groupsayings_k78_whole_vectors.Holds := by
  w_on; o_law
  refine HandSHeadRun.head_imp (r := OpenLaw.row PySem.Challenge.rw_groupsayings_k78_whole_vectors) (q := view (OpenLaw.row PySem.Challenge.rw_groupsayings_k78_whole_vectors).prog [0, 61]) (H := GSP.hk) (ob := GSP.ob) (M := 6000) (loose := GSP.loose) (d := HandSHeadRun.topDef (OpenLaw.row PySem.Challenge.rw_groupsayings_k78_whole_vectors).prog 61) (kwd := []) GSP.ob_eq GSP.run
    (by kernel_rfl) (by kernel_rfl) (by kernel_rfl) (by rfl) (by first | assumption | decide +kernel) (by decide +kernel) ⟨rfl, rfl, rfl, rfl, rfl, by decide +kernel⟩ ?hw ?hc
  case hw => w_witness2
  case hc =>
    refine GS.walk_ofC (l := PySem.Challenge.rw_groupsayings_k78_whole_vectors) (n := 63) (k := 11) (x := "script") rfl (by decide) (by kernel_rfl) ⟨rfl, by decide, by decide⟩ ?F
    intro w mg fa h Y G hmg0
    have hmg : mg ("law" : PySem.Str) = some (.ref fa) := by
      have e : (HandSHeadRun.topDef (OpenLaw.row PySem.Challenge.rw_groupsayings_k78_whole_vectors).prog 61).name = ("law" : PySem.Str) := by kernel_rfl
      rw [← e]
      exact hmg0
    exact GSP.law_at w mg fa h Y G hmg
end
