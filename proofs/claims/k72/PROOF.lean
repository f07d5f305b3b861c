import PyProof.Rows.All
import Wide.All
import OpenK.AllK
import Wide.FinOn
import HandS.ForMost
import HandS.Exc
import HandS.Defaults
import HandS.MakeKw
import HandS.Lambda
import HandS.TupAny
import HandS.Zip
import HandS.Wide
import HandS.IsInst
import HandS.Deep
import HandS.HeadHook4
import HandS.Style
import HandS.TupLe
import HandS.Flow
import HandS.WideBits
import HandS.Text
import HandS.More
import HandS.CallSlots
import HandS.Comp
import HandS.ExcInit
import HandS.ExcField
import KE.KExcIs
import KE.KTupSum
import HandS.Star
import PyProof.InstNe
import HandS.RaiseMore
import HandS.EndTab
import HandS.Head0
import HandS.Head1
import HandS.Head2
import HandS.HeadEnd
import HandS.HeadWalk
import KE.KStateDown
import KE.KEqDeep
import HandS.HeadHook1
import HandS.HeadHook2
import PySem.Challenge.RW_anyseven_k72_rounds_and_their_sums
set_option Elab.async false
set_option linter.all false
set_option maxRecDepth 100000
set_option maxHeartbeats 1000000
set_option autoImplicit false
/-! Dl1: deep data D over the hand layer; worlds, steps, satisfaction; the judgement of expressions. -/
namespace Dl
open PySem PySem.Spec PyProof.Rows L2
/-- what a type is called: a built-in one, an own class -/
inductive Tg where
  | b (n : String)
  | c (C : Str)
  deriving DecidableEq
/-- T: the tables of code objects that lambdas are written into; isa: a value of this type is one of that class -/
class Tb where
  T : List (Addr × Str)
  isa : Tg → Tg → Bool
variable [Tb]

/-- data, without the heap. ins: an instance of the class that the module's name C stands for; exc: a raised and held exception; cell i: the i-th thing that may change; own: a new list handed back; lam: a lambda handed on; scr: the script -/
inductive D where
  | non | bl (b : Bool) | int (i : Int) | str (x : Str) | ty (n : String) | ref (a : Addr)
  | lst (xs : List D) | tup (xs : List D)
  | ins (C : Str) (ks : List Str) (xs : List D)
  | exc (C : Str) (ks : List Str) (xs : List D)
  | dct (ks : List Key) (xs : List D)
  | scr (ns : List Int)
  | cell (i : Nat)
  | own (xs : List D)
  | lam (f c : Addr) (q : Str)
  deriving Inhabited

/-- the class, the def that a module's name stands for -/
def clA (mg : Str → Option Value) (C : Str) : Addr := match mg C with
  | some (.ref a) => a
  | _ => 0

/-- the class C is plain, and none of these names stands in it -/
def InsOk (K : PySem.W.Frag) (mg : Str → Option Value) (C : Str) (ks : List Str) : Prop := Cls K (clA mg C) ∧ ∀ f ∈ ks, NoAttr K (clA mg C) f
/-- a held exception of the class at C, its dict at dd -/
def excH (a C dd : Addr) : HO := .ext fun h => ∃ (oe : Obj) (vs : Array Value), h.get? a = some oe ∧ Zc (.ref C) (some dd) oe ∧ oe.data = .fields vs
theorem excH_tbl {a C dd : Addr} : ∀ ps, excH a C dd ≠ .tbl ps := fun vs e => by
  have e : HO.ext _ = HO.tbl vs := e
  cases e
theorem excH_lst {a C dd : Addr} : ∀ vs, excH a C dd ≠ .lst vs := fun vs e => by
  have e : HO.ext _ = HO.lst vs := e
  cases e
mutual
inductive Rep (K : PySem.W.Frag) (mg : Str → Option Value) (F : Hp) : V → D → Prop
  | non : Rep K mg F .non .non
  | bl (b : Bool) : Rep K mg F (.bl b) (.bl b)
  | int (i : Int) : Rep K mg F (.int i) (.int i)
  | str (x : Str) : Rep K mg F (.str x) (.str x)
  | ty (n : String) : Rep K mg F (.ty n) (.ty n)
  | ref (a : Addr) : Rep K mg F (.ref a) (.ref a)
  | lst {a : Addr} {vs : List V} {ds : List D} : F a = some (.lst vs) → Reps K mg F vs ds → Rep K mg F (.ref a) (.lst ds)
  | tup {a : Addr} {vs : List V} {ds : List D} : SqT K F a vs → Reps K mg F vs ds → Rep K mg F (.ref a) (.tup ds)
  | ins {a dx : Addr} {C : Str} {ks : List Str} {fs : List (Str × V)} {ds : List D} : F a = some (.ins (clA mg C) dx fs) → InsOk K mg C ks → fs.map (·.1) = ks → Reps K mg F (fs.map (·.2)) ds → Rep K mg F (.ref a) (.ins C ks ds)
  | exc {a dd : Addr} {C : Str} {ks : List Str} {fs : List (Str × V)} {ds : List D} : F a = some (excH a (clA mg C) dd) → F dd = some (.xd fs) → fs.map (·.1) = ks → Reps K mg F (fs.map (·.2)) ds → Rep K mg F (.ref a) (.exc C ks ds)
  | dct {a : Addr} {ks : List Key} {kvs : List (Key × V)} {ds : List D} : F a = some (.dK kvs) → kvs.map (·.1) = ks → Reps K mg F (kvs.map (·.2)) ds → Rep K mg F (.ref a) (.dct ks ds)
  | scr {a : Addr} {ns : List Int} : SqL K F a (ns.map V.int) → Rep K mg F (.ref a) (.scr ns)
  | lam {f c : Addr} {q : Str} : F c = some (LamX.CodeO c q) → Rep K mg F (.ref f) (.lam f c q)
inductive Reps (K : PySem.W.Frag) (mg : Str → Option Value) (F : Hp) : List V → List D → Prop
  | nil : Reps K mg F [] []
  | cons {v : V} {vs : List V} {d : D} {ds : List D} : Rep K mg F v d → Reps K mg F vs ds → Reps K mg F (v :: vs) (d :: ds)
end

def Ex (H H' : Hp) : Prop := ∀ a o, H a = some o → H' a = some o
theorem Ex.refl (H : Hp) : Ex H H := fun _ _ h => h
theorem Ex.trans {H H1 H2 : Hp} (a : Ex H H1) (b : Ex H1 H2) : Ex H H2 := fun x o h => b x o (a x o h)
theorem Ex.upd {H : Hp} {p : Addr} {o : HO} (h : H p = none) : Ex H (upd H p o) := fun a u e => by
  rw [upd_ne (ne_of_none e h)]
  exact e
theorem Ex.fresh {H H' : Hp} (e : Ex H H') {p : Addr} (h : H' p = none) : H p = none := by
  cases q : H p with
  | none => rfl
  | some o =>
    rw [e p o q] at h
    cases h
theorem Ex.sqT {K : PySem.W.Frag} {H H' : Hp} {a : Addr} {xs : List V} (e : Ex H H') (h : SqT K H a xs) : SqT K H' a xs :=
  h.elim (fun h => .inl (h.elim (fun h => .inl (e _ _ h)) fun ⟨o, h⟩ => .inr ⟨o, e _ _ h⟩)) fun h => .inr h
theorem Ex.sqL {K : PySem.W.Frag} {H H' : Hp} {a : Addr} {xs : List V} (e : Ex H H') (h : SqL K H a xs) : SqL K H' a xs :=
  h.elim (fun h => .inl (h.elim (fun h => .inl (e _ _ h)) fun ⟨o, h⟩ => .inr ⟨o, e _ _ h⟩)) fun h => .inr h

section
variable {K : PySem.W.Frag} {mg : Str → Option Value} {F F' : Hp}
mutual
theorem Rep.mono (e : Ex F F') : ∀ (d : D) (v : V), Rep K mg F v d → Rep K mg F' v d
  | .non, _, h => by cases h; exact .non
  | .bl b, _, h => by cases h; exact .bl b
  | .int i, _, h => by cases h; exact .int i
  | .str x, _, h => by cases h; exact .str x
  | .ty n, _, h => by cases h; exact .ty n
  | .ref a, _, h => by cases h; exact .ref a
  | .lst ds, _, h => by
    cases h with
    | lst h1 h2 => exact .lst (e _ _ h1) (Reps.mono e ds _ h2)
  | .tup ds, _, h => by
    cases h with
    | tup h1 h2 => exact .tup (e.sqT h1) (Reps.mono e ds _ h2)
  | .ins C ks ds, _, h => by
    cases h with
    | ins h1 h0 h2 h3 => exact .ins (e _ _ h1) h0 h2 (Reps.mono e ds _ h3)
  | .exc C ks ds, _, h => by
    cases h with
    | exc h1 h2 h3 h4 => exact .exc (e _ _ h1) (e _ _ h2) h3 (Reps.mono e ds _ h4)
  | .dct ks ds, _, h => by
    cases h with
    | dct h1 h2 h3 => exact .dct (e _ _ h1) h2 (Reps.mono e ds _ h3)
  | .scr ns, _, h => by
    cases h with
    | scr h1 => exact .scr (e.sqL h1)
  | .cell i, _, h => by cases h
  | .own xs, _, h => by cases h
  | .lam f c q, _, h => by
    cases h with
    | lam h1 => exact .lam (e _ _ h1)
theorem Reps.mono (e : Ex F F') : ∀ (ds : List D) (vs : List V), Reps K mg F vs ds → Reps K mg F' vs ds
  | [], _, h => by cases h; exact .nil
  | d :: ds, _, h => by
    cases h with
    | cons h1 h2 => exact .cons (Rep.mono e d _ h1) (Reps.mono e ds _ h2)
end
theorem Reps.length : ∀ {vs : List V} {ds : List D}, Reps K mg F vs ds → vs.length = ds.length
  | _, _, .nil => rfl
  | _, _, .cons _ h => congrArg Nat.succ (Reps.length h)
theorem Reps.get : ∀ {vs : List V} {ds : List D} {i : Nat} {d : D}, Reps K mg F vs ds → ds[i]? = some d → ∃ v, vs[i]? = some v ∧ Rep K mg F v d
  | _, _, _, _, .nil, e => by simp at e
  | _, _, 0, _, .cons r _, e => by simp at e; subst e; exact ⟨_, rfl, r⟩
  | _, _, i + 1, d, .cons _ t, e => by
    obtain ⟨v, h1, h2⟩ := Reps.get (i := i) (d := d) t (by simpa using e)
    exact ⟨v, by simpa using h1, h2⟩
theorem Reps.get' : ∀ {vs : List V} {ds : List D} {i : Nat} {v : V}, Reps K mg F vs ds → vs[i]? = some v → ∃ d, ds[i]? = some d ∧ Rep K mg F v d
  | _, _, _, _, .nil, e => by simp at e
  | _, _, 0, _, .cons r _, e => by simp at e; subst e; exact ⟨_, rfl, r⟩
  | _, _, i + 1, v, .cons _ t, e => by
    obtain ⟨d, h1, h2⟩ := Reps.get' (i := i) (v := v) t (by simpa using e)
    exact ⟨d, by simpa using h1, h2⟩
theorem Reps.append : ∀ {vs us : List V} {ds es : List D}, Reps K mg F vs ds → Reps K mg F us es → Reps K mg F (vs ++ us) (ds ++ es)
  | _, _, _, _, .nil, h => h
  | _, _, _, _, .cons r t, h => .cons r (Reps.append t h)
theorem Reps.take : ∀ {vs : List V} {ds : List D} (n : Nat), Reps K mg F vs ds → Reps K mg F (vs.take n) (ds.take n)
  | _, _, 0, _ => .nil
  | _, _, _ + 1, .nil => .nil
  | _, _, n + 1, .cons r t => .cons r (Reps.take n t)
theorem Reps.drop : ∀ {vs : List V} {ds : List D} (n : Nat), Reps K mg F vs ds → Reps K mg F (vs.drop n) (ds.drop n)
  | _, _, 0, r => r
  | _, _, _ + 1, .nil => .nil
  | _, _, n + 1, .cons _ t => Reps.drop n t
theorem Reps.set {v : V} {d : D} (r : Rep K mg F v d) : ∀ {vs : List V} {ds : List D} (i : Nat), Reps K mg F vs ds → Reps K mg F (vs.set i v) (ds.set i d)
  | _, _, _, .nil => .nil
  | _, _, 0, .cons _ t => .cons r t
  | _, _, i + 1, .cons q t => .cons q (Reps.set r i t)
theorem Reps.rev {vs : List V} {ds : List D} (h : Reps K mg F vs ds) : Reps K mg F vs.reverse ds.reverse := by
  induction vs generalizing ds with
  | nil => cases h; exact .nil
  | cons v vs ih =>
    cases h with
    | cons r t =>
      rw [List.reverse_cons, List.reverse_cons]
      exact (ih t).append (.cons r .nil)
theorem Reps.ints : ∀ {vs : List V} {ns : List Int}, Reps K mg F vs (ns.map D.int) → vs = ns.map V.int
  | _, [], h => by cases h; rfl
  | _, n :: ns, h => by
    cases h with
    | cons r t =>
      cases r
      rw [Reps.ints t]
      rfl
theorem Reps.of_ints : ∀ (ns : List Int), Reps K mg F (ns.map V.int) (ns.map D.int)
  | [] => .nil
  | n :: ns => .cons (.int n) (Reps.of_ints ns)
theorem Reps.bls : ∀ {vs : List V} {bs : List Bool}, Reps K mg F vs (bs.map D.bl) → vs = bs.map V.bl
  | _, [], h => by cases h; rfl
  | _, n :: ns, h => by
    cases h with
    | cons r t =>
      cases r
      rw [Reps.bls t]
      rfl
theorem Reps.strs : ∀ {vs : List V} {bs : List Str}, Reps K mg F vs (bs.map D.str) → vs = bs.map V.str
  | _, [], h => by cases h; rfl
  | _, n :: ns, h => by
    cases h with
    | cons r t =>
      cases r
      rw [Reps.strs t]
      rfl
theorem Reps.of_strs : ∀ (ns : List Str), Reps K mg F (ns.map V.str) (ns.map D.str)
  | [] => .nil
  | n :: ns => .cons (.str n) (Reps.of_strs ns)
end

/-! ### worlds -/
/-- F: what is known for good; al: the things that may change -/
structure Wd where
  F : Hp
  al : List Addr
/-- a thing that may change. dead: none -/
inductive MO where
  | dead | lst (xs : List D) | ins (C : Str) (ks : List Str) (xs : List D) | dct (ks : List Key) (xs : List D)
  deriving Inhabited
abbrev MS := List MO
structure Wd.le (w w' : Wd) : Prop where
  F : Ex w.F w'.F
  al : ∃ r, w'.al = w.al ++ r
theorem Wd.le.refl (w : Wd) : w.le w := ⟨Ex.refl _, [], by simp⟩
theorem Wd.le.trans {w w1 w2 : Wd} (a : w.le w1) (b : w1.le w2) : w.le w2 := by
  obtain ⟨r, hr⟩ := a.al
  obtain ⟨r', hr'⟩ := b.al
  exact ⟨a.F.trans b.F, r ++ r', by rw [hr', hr, List.append_assoc]⟩
theorem Wd.le.mem {w w' : Wd} (h : w.le w') {a : Addr} (m : a ∈ w.al) : a ∈ w'.al := by
  obtain ⟨r, hr⟩ := h.al
  rw [hr]
  exact List.mem_append_left _ m
theorem Wd.le.at {w w' : Wd} (h : w.le w') {i : Nat} {a : Addr} (m : w.al[i]? = some a) : w'.al[i]? = some a := by
  obtain ⟨r, hr⟩ := h.al
  rw [hr, List.getElem?_append_left (List.getElem?_eq_some_iff.mp m).1]
  exact m

def noTbl (o : HO) : Prop := ∀ ps, o ≠ .tbl ps
theorem tbl_or (u : HO) : noTbl u ∨ ∃ ps, u = .tbl ps := by
  cases u with
  | tbl ps => exact .inr ⟨ps, rfl⟩
  | _ => exact .inl fun ps e => by cases e
/-- nothing stands there, but a table perhaps -/
def Nw (H : Hp) (a : Addr) : Prop := ∀ o, H a = some o → ∃ ps, o = .tbl ps
theorem Nw.of {H : Hp} {a : Addr} (e : H a = none) : Nw H a := fun o h => by rw [e] at h; cases h
theorem Nw.no {H : Hp} {a : Addr} (n : Nw H a) {o : HO} (e : H a = some o) (t : noTbl o) : False := by
  obtain ⟨ps, z⟩ := n o e
  exact t ps z
theorem nw_or (H : Hp) (a : Addr) : Nw H a ∨ ∃ o, H a = some o ∧ noTbl o := by
  cases q : H a with
  | none => exact .inl (.of q)
  | some u =>
    rcases tbl_or u with t | ⟨ps, rfl⟩
    · exact .inr ⟨u, rfl, t⟩
    · exact .inl fun o e => by
        rw [q] at e
        cases e
        exact ⟨ps, rfl⟩
/-- the state has gone on: what was known stays, other things may have changed only at al; the tables are not told of -/
structure Step (w : Wd) (H : Hp) (w' : Wd) (H' : Hp) : Prop where
  le : w.le w'
  keep : ∀ a o, H a = some o → noTbl o → a ∉ w.al → H' a = some o ∧ a ∉ w'.al
  there : ∀ a o, H a = some o → noTbl o → ∃ o', H' a = some o' ∧ noTbl o'
  grow : ∀ a o, w'.F a = some o → w.F a = some o ∨ Nw H a ∨ a ∈ w.al ∨ ∃ φ, H a = some (.ext φ)
theorem Step.refl (w : Wd) (H : Hp) : Step w H w H := ⟨.refl w, fun _ _ h _ n => ⟨h, n⟩, fun _ o h t => ⟨o, h, t⟩, fun _ _ h => .inl h⟩
theorem Step.out {w w' : Wd} {H H' : Hp} (s : Step w H w' H') {p : Addr} (hp : p ∉ w.al) {u : HO} (q : H p = some u) (t : noTbl u) : p ∉ w'.al := (s.keep p u q t hp).2
theorem Step.nw {w w' : Wd} {H H' : Hp} (s : Step w H w' H') {p : Addr} (n : Nw H' p) : Nw H p := by
  rcases nw_or H p with h | ⟨o, h, t⟩
  · exact h
  · obtain ⟨o', h', t'⟩ := s.there p o h t
    exact (n.no h' t').elim
theorem Step.ext_back {w w' : Wd} {H H' : Hp} (s : Step w H w' H') {p : Addr} {φ : Heap → Prop} (h : H' p = some (.ext φ)) {P : Prop} : P ∨ Nw H p ∨ p ∈ w.al ∨ ∃ φ, H p = some (.ext φ) := by
  by_cases hp : p ∈ w.al
  · exact .inr (.inr (.inl hp))
  · rcases nw_or H p with q | ⟨u, q, t⟩
    · exact .inr (.inl q)
    · have z := (s.keep p u q t hp).1
      rw [h] at z
      cases z
      exact .inr (.inr (.inr ⟨φ, q⟩))
theorem Step.trans {w w1 w2 : Wd} {H H1 H2 : Hp} (a : Step w H w1 H1) (b : Step w1 H1 w2 H2) : Step w H w2 H2 := by
  refine ⟨a.le.trans b.le, fun p o h t n => ?_, fun p o h t => ?_, fun p o h => ?_⟩
  · obtain ⟨h1, n1⟩ := a.keep p o h t n
    exact b.keep p o h1 t n1
  · obtain ⟨o', h1, t1⟩ := a.there p o h t
    exact b.there p o' h1 t1
  · rcases b.grow p o h with h1 | h1 | h1 | ⟨φ, h1⟩
    · exact a.grow p o h1
    · exact .inr (.inl (a.nw h1))
    · by_cases hp : p ∈ w.al
      · exact .inr (.inr (.inl hp))
      · right; left
        rcases nw_or H p with q | ⟨u, q, t⟩
        · exact q
        · exact absurd h1 (a.out hp q t)
    · exact a.ext_back h1

section
variable (K : PySem.W.Frag) (mg : Str → Option Value)
/-- a value that may be a thing that changes -/
def RepA (w : Wd) (v : V) (d : D) : Prop := Rep K mg w.F v d ∨ ∃ i a, d = .cell i ∧ v = .ref a ∧ w.al[i]? = some a
/-- what stands at a, of a thing that may change -/
def MRep (F H : Hp) (a : Addr) : MO → Prop
  | .dead => False
  | .lst ds => F a = none ∧ ∃ vs, H a = some (.lst vs) ∧ Reps K mg F vs ds
  | .ins C ks ds => F a = none ∧ ∃ dx fs, H a = some (.ins (clA mg C) dx fs) ∧ InsOk K mg C ks ∧ fs.map (·.1) = ks ∧ Reps K mg F (fs.map (·.2)) ds
  | .dct ks ds => F a = none ∧ ∃ kvs, H a = some (.dK kvs) ∧ kvs.map (·.1) = ks ∧ Reps K mg F (kvs.map (·.2)) ds
structure Cells (w : Wd) (H : Hp) (M : MS) : Prop where
  fh : Ex w.F H
  nd : w.al.Nodup
  len : w.al.length = M.length
  at_ : ∀ (i : Nat) (a : Addr) (mo : MO), w.al[i]? = some a → M[i]? = some mo → MRep K mg w.F H a mo
  ft : ∀ a ps, w.F a ≠ some (.tbl ps)
/-- where one came from: what was known, the heap -/
structure Org where
  w : Wd
  H : Hp
abbrev Ro := List (Option D)
structure Sat (O : Org) (σ : L2.St) (H : Hp) (ρ : Ro) (M : MS) (w : Wd) : Prop where
  step : Step O.w O.H w H
  tabs : LamX.Tabs Tb.T H
  cells : Cells K mg w H M
  len : ρ.length = σ.length
  slots : ∀ (i : Nat) (d : D), ρ[i]? = some (some d) → ∃ v, σ[i]? = some (some v) ∧ RepA K mg w v d
end

section
variable {K : PySem.W.Frag} {mg : Str → Option Value} {w w' : Wd} {H H' : Hp} {M : MS} {O : Org} {σ : L2.St} {ρ : Ro} {v : V} {d : D}
theorem RepA.mono (e : w.le w') (h : RepA K mg w v d) : RepA K mg w' v d := by
  rcases h with h | ⟨i, a, h1, h2, h3⟩
  · exact .inl (h.mono e.F)
  · exact .inr ⟨i, a, h1, h2, e.at h3⟩
theorem MRep.there {F : Hp} {a : Addr} : ∀ {mo : MO}, MRep K mg F H a mo → ∃ o, H a = some o
  | .dead, h => h.elim
  | .lst _, ⟨_, _, h, _⟩ => ⟨_, h⟩
  | .ins _ _ _, ⟨_, _, _, h, _⟩ => ⟨_, h⟩
  | .dct _ _, ⟨_, _, h, _⟩ => ⟨_, h⟩
theorem Cells.alive (c : Cells K mg w H M) {a : Addr} (m : a ∈ w.al) : ∃ o, H a = some o := by
  obtain ⟨i, hi, e⟩ := List.mem_iff_getElem.mp m
  have h1 : w.al[i]? = some a := by rw [List.getElem?_eq_getElem hi, e]
  have h2 : i < M.length := by rw [← c.len]; exact hi
  exact (c.at_ i a M[i] h1 (List.getElem?_eq_getElem h2)).there
theorem Cells.fresh (c : Cells K mg w H M) {p : Addr} (hp : H p = none) : p ∉ w.al := fun m => by
  obtain ⟨o, e⟩ := c.alive m
  rw [hp] at e
  cases e
theorem MRep.thereN {F : Hp} {a : Addr} : ∀ {mo : MO}, MRep K mg F H a mo → ∃ o, H a = some o ∧ noTbl o
  | .dead, h => h.elim
  | .lst _, ⟨_, _, h, _⟩ => ⟨_, h, fun ps e => by cases e⟩
  | .ins _ _ _, ⟨_, _, _, h, _⟩ => ⟨_, h, fun ps e => by cases e⟩
  | .dct _ _, ⟨_, _, h, _⟩ => ⟨_, h, fun ps e => by cases e⟩
theorem Cells.freshN (c : Cells K mg w H M) {p : Addr} (hp : Nw H p) : p ∉ w.al := fun m => by
  obtain ⟨i, hi, e⟩ := List.mem_iff_getElem.mp m
  have h1 : w.al[i]? = some p := by rw [List.getElem?_eq_getElem hi, e]
  have h2 : i < M.length := by rw [← c.len]; exact hi
  obtain ⟨o, q, t⟩ := (c.at_ i p M[i] h1 (List.getElem?_eq_getElem h2)).thereN
  exact hp.no q t
/-- all that is tracked stays, but for what may change -/
theorem MRep.stay {F F' : Hp} {a : Addr} (hF : Ex F F') (hn : F a = none → F' a = none) (hH : ∀ o, H a = some o → H' a = some o) : ∀ {mo : MO}, MRep K mg F H a mo → MRep K mg F' H' a mo
  | .dead, h => h.elim
  | .lst ds, ⟨n, vs, h, r⟩ => ⟨hn n, vs, hH _ h, r.mono hF⟩
  | .ins C ks ds, ⟨n, dx, fs, h, z, e, r⟩ => ⟨hn n, dx, fs, hH _ h, z, e, r.mono hF⟩
  | .dct ks ds, ⟨n, kvs, h, e, r⟩ => ⟨hn n, kvs, hH _ h, e, r.mono hF⟩
/-- something new, known for good -/
def Wd.more (w : Wd) (p : Addr) (o : HO) : Wd := ⟨upd w.F p o, w.al⟩
theorem Wd.le_more {p : Addr} {o : HO} (h : w.F p = none) : w.le (w.more p o) := ⟨Ex.upd h, [], by simp [Wd.more]⟩
theorem more_ft {w : Wd} {p : Addr} {o : HO} (h : ∀ a ps, w.F a ≠ some (.tbl ps)) (nt : noTbl o) : ∀ a ps, (w.more p o).F a ≠ some (.tbl ps) := fun a ps e => by
  by_cases ha : a = p
  · have e : (upd w.F p o) a = some (.tbl ps) := e
    rw [ha, upd_same] at e
    exact nt ps (Option.some.inj e)
  · have e : (upd w.F p o) a = some (.tbl ps) := e
    rw [upd_ne ha] at e
    exact h a ps e
theorem Cells.more {p : Addr} {o : HO} (c : Cells K mg w H M) (hp : H p = none) (nt : noTbl o := by intro ps e; cases e) : Cells K mg (w.more p o) (upd H p o) M := by
  have hF : w.F p = none := c.fh.fresh hp
  refine ⟨fun a u e => ?_, c.nd, c.len, fun i a mo h1 h2 => ?_, more_ft c.ft nt⟩
  · by_cases ha : a = p
    · subst ha
      have e1 : (upd w.F a o) a = some u := e
      rw [upd_same] at e1 ⊢
      exact e1
    · have e1 : (upd w.F p o) a = some u := e
      rw [upd_ne ha] at e1 ⊢
      exact c.fh a u e1
  · have hne : a ≠ p := fun e => c.fresh hp (e ▸ List.mem_of_getElem? h1)
    exact (c.at_ i a mo h1 h2).stay (Ex.upd hF) (fun n => by rw [upd_ne hne]; exact n) fun u e => by rw [upd_ne hne]; exact e
theorem Step.more {p : Addr} {o : HO} (c : Cells K mg w H M) (hp : H p = none) : Step w H (w.more p o) (upd H p o) := by
  have hF : w.F p = none := c.fh.fresh hp
  refine ⟨Wd.le_more hF, fun a u e _ n => ⟨?_, n⟩, fun a u e t => ⟨u, ?_, t⟩, fun a u e => ?_⟩
  · rw [upd_ne (ne_of_none e hp)]; exact e
  · rw [upd_ne (ne_of_none e hp)]; exact e
  · by_cases ha : a = p
    · subst ha
      exact .inr (.inl (.of hp))
    · have e1 : (upd w.F p o) a = some u := e
      rw [upd_ne ha] at e1
      exact .inl e1
theorem tabs_upd {T : List (Addr × Str)} {p : Addr} {o : HO} (t : LamX.Tabs T H) (hp : H p = none) : LamX.Tabs T (upd H p o) := t.ext fun b u e => by
  rw [upd_ne (ne_of_none e hp)]; exact e
theorem Sat.more {p : Addr} {o : HO} (s : Sat K mg O σ H ρ M w) (hp : H p = none) (nt : noTbl o := by intro ps e; cases e) : Sat K mg O σ (upd H p o) ρ M (w.more p o) :=
  ⟨s.step.trans (Step.more s.cells hp), tabs_upd s.tabs hp, s.cells.more hp nt, s.len, fun i d e => let ⟨v, h1, h2⟩ := s.slots i d e; ⟨v, h1, h2.mono (Wd.le_more (s.cells.fh.fresh hp))⟩⟩
end

/-! ### the weakest readings -/
abbrev Exn := Str × List Str × List D
def WE (X : Cx) (e : Expr) : TE := fun σ H Q => ∀ pins s, Inv X pins σ H s → wpAny (model X.prog X.w) X.A (eval e X.env) (EP X pins σ Q) X.xe s
theorem we_pe (X : Cx) (e : Expr) : PE X e (WE X e) := ⟨fun pins s _ _ _ I h => h pins s I⟩
theorem we_of {X : Cx} {e : Expr} {t : TE} (h : PE X e t) {σ : L2.St} {H : Hp} {Q : VK} (q : t σ H Q) : WE X e σ H Q := fun pins s I => h.run pins s σ H Q I q
theorem we_mono {X : Cx} {e : Expr} {σ : L2.St} {H : Hp} {Q Q' : VK} (h : WE X e σ H Q) (q : ∀ v H', Q v H' → Q' v H') : WE X e σ H Q' := fun pins s I =>
  thn (h pins s I) fun u s' ⟨v, H', I', r, z⟩ => ⟨v, H', I', r, q v H' z⟩
def WT (X : Cx) (e : Expr) : TT := fun σ H Q => ∀ pins s, Inv X pins σ H s → wpAny (model X.prog X.w) X.A (isTrue e X.env (eval e X.env)) (TP X pins σ Q) X.xe s
theorem wt_pt (X : Cx) (e : Expr) : PT X e (WT X e) := ⟨fun pins s _ _ _ I h => h pins s I⟩
theorem wt_of {X : Cx} {e : Expr} {t : TT} (h : PT X e t) {σ : L2.St} {H : Hp} {Q : Bool → Hp → Prop} (q : t σ H Q) : WT X e σ H Q := fun pins s I => h.run pins s σ H Q I q
def WA (X : Cx) (es : List Expr) : TA := fun σ H Q => ∀ pos pins s, Inv X pins σ H s → wpAny (model X.prog X.w) X.A (spliced (backTo pos (starEach es X.env))) (AP X pins σ Q) X.xe s
theorem wa_pa (X : Cx) (es : List Expr) : PA X es (WA X es) := ⟨fun pos pins s _ _ _ I h => h pos pins s I⟩
theorem wa_of {X : Cx} {es : List Expr} {t : TA} (h : PA X es t) {σ : L2.St} {H : Hp} {Q : List V → Hp → Prop} (q : t σ H Q) : WA X es σ H Q := fun pos pins s I => h.run pos pins s σ H Q I q

/-! ### what an exception finds -/
def liftX (X : Cx) (O : Org) (R : Exn → Ro → MS → Prop) : WX := fun cls dd σ H => ∃ (C : Str) (a : Addr) (fs : List (Str × V)) (ds : List D) (ρ : Ro) (M : MS) (w : Wd),
  cls = .ref (clA X.mg C) ∧ dd = some a ∧ w.F a = some (.xd fs) ∧ Reps X.K X.mg w.F (fs.map (·.2)) ds ∧ Sat X.K X.mg O σ H ρ M w ∧ R (C, fs.map (·.1), ds) ρ M
def TakesD (X : Cx) (O : Org) (R : Exn → Ro → MS → Prop) : Prop := Takes X (liftX X O R)
theorem TakesD.nox {X : Cx} {O : Org} : TakesD X O fun _ _ _ => False := fun u s' h => by
  obtain ⟨a, B, sI, pins, σ, H, cls, d, _, _, _, _, _, _, _, _, C, dd, fs, ds, ρ, M, w, _, _, _, _, _, q⟩ := h
  exact q.elim

/-! ### the judgement -/
abbrev KD := D → MS → Prop
abbrev XD := Exn → MS → Prop
abbrev DE := Ro → MS → KD → XD → Prop
abbrev DT := Ro → MS → (Bool → MS → Prop) → XD → Prop
abbrev DA := Ro → MS → (List D → MS → Prop) → XD → Prop
def PoE (X : Cx) (O : Org) (σ : L2.St) (ρ : Ro) (w : Wd) (k : KD) : VK := fun v H' => ∃ (w' : Wd) (d : D) (M' : MS), w.le w' ∧ Sat X.K X.mg O σ H' ρ M' w' ∧ RepA X.K X.mg w' v d ∧ k d M'
structure EV (X : Cx) (e : Expr) (τ : DE) : Prop where
  run : ∀ (O : Org) (R : Exn → Ro → MS → Prop), TakesD X O R → ∀ (ρ : Ro) (M : MS) (k : KD), τ ρ M k (fun x M' => R x ρ M') → ∀ (σ : L2.St) (H : Hp) (w : Wd), Sat X.K X.mg O σ H ρ M w → WE X e σ H (PoE X O σ ρ w k)
def PoT (X : Cx) (O : Org) (σ : L2.St) (ρ : Ro) (w : Wd) (k : Bool → MS → Prop) : Bool → Hp → Prop := fun b H' => ∃ (w' : Wd) (M' : MS), w.le w' ∧ Sat X.K X.mg O σ H' ρ M' w' ∧ k b M'
structure EVT (X : Cx) (e : Expr) (τ : DT) : Prop where
  run : ∀ (O : Org) (R : Exn → Ro → MS → Prop), TakesD X O R → ∀ (ρ : Ro) (M : MS) (k : Bool → MS → Prop), τ ρ M k (fun x M' => R x ρ M') → ∀ (σ : L2.St) (H : Hp) (w : Wd), Sat X.K X.mg O σ H ρ M w → WT X e σ H (PoT X O σ ρ w k)
inductive RepsA (K : PySem.W.Frag) (mg : Str → Option Value) (w : Wd) : List V → List D → Prop
  | nil : RepsA K mg w [] []
  | cons {v : V} {vs : List V} {d : D} {ds : List D} : RepA K mg w v d → RepsA K mg w vs ds → RepsA K mg w (v :: vs) (d :: ds)
theorem RepsA.mono {K : PySem.W.Frag} {mg : Str → Option Value} {w w' : Wd} (e : w.le w') : ∀ {vs : List V} {ds : List D}, RepsA K mg w vs ds → RepsA K mg w' vs ds
  | _, _, .nil => .nil
  | _, _, .cons r t => .cons (r.mono e) (RepsA.mono e t)
theorem RepsA.length {K : PySem.W.Frag} {mg : Str → Option Value} {w : Wd} : ∀ {vs : List V} {ds : List D}, RepsA K mg w vs ds → vs.length = ds.length
  | _, _, .nil => rfl
  | _, _, .cons _ t => congrArg Nat.succ (RepsA.length t)
def PoA (X : Cx) (O : Org) (σ : L2.St) (ρ : Ro) (w : Wd) (k : List D → MS → Prop) : List V → Hp → Prop := fun vs H' => ∃ (w' : Wd) (ds : List D) (M' : MS), w.le w' ∧ Sat X.K X.mg O σ H' ρ M' w' ∧ RepsA X.K X.mg w' vs ds ∧ k ds M'
structure EVA (X : Cx) (es : List Expr) (τ : DA) : Prop where
  run : ∀ (O : Org) (R : Exn → Ro → MS → Prop), TakesD X O R → ∀ (ρ : Ro) (M : MS) (k : List D → MS → Prop), τ ρ M k (fun x M' => R x ρ M') → ∀ (σ : L2.St) (H : Hp) (w : Wd), Sat X.K X.mg O σ H ρ M w → WA X es σ H (PoA X O σ ρ w k)

section
variable {X : Cx} {O : Org} {σ : L2.St} {H : Hp} {ρ : Ro} {M : MS} {w w' : Wd} {k : KD} {pos : Pos} {e a b : Expr} {ta tb : DE}
theorem PoE.le (h : w.le w') {v : V} (q : PoE X O σ ρ w' k v H) : PoE X O σ ρ w k v H := by
  obtain ⟨w2, d, M', h1, h2⟩ := q
  exact ⟨w2, d, M', h.trans h1, h2⟩
theorem PoE.here {v : V} {d : D} (s : Sat X.K X.mg O σ H ρ M w) (r : RepA X.K X.mg w v d) (q : k d M) : PoE X O σ ρ w k v H := ⟨w, d, M, .refl w, s, r, q⟩
/-- a thing newly made, known for good -/
theorem PoE.new {p : Addr} {o : HO} {d : D} (s : Sat X.K X.mg O σ H ρ M w) (hp : H p = none) (nt : noTbl o) (r : Rep X.K X.mg (upd w.F p o) (.ref p) d) (q : k d M) : PoE X O σ ρ w k (.ref p) (upd H p o) :=
  ⟨w.more p o, d, M, Wd.le_more (s.cells.fh.fresh hp), s.more hp nt, .inl r, q⟩

/-! ### names, constants -/
def dVar (i : Nat) : DE := fun ρ M k _ => ∃ d, ρ[i]? = some (some d) ∧ k d M
theorem ev_var (i : Nat) {x : Str} (hN : X.N[i]? = some x) (hv : Vis X.env.scope x) (hd : (x == ("__debug__" : Str)) = false := by decide) (hcd : (x == ("__classdict__" : Str)) = false := by decide) : EV X (.Name x pos) (dVar i) := by
  refine ⟨fun O R TX ρ M k h σ H w s => ?_⟩
  obtain ⟨d, e1, q⟩ := h
  obtain ⟨v, e2, r⟩ := s.slots i d e1
  exact we_of (pe_var hN hv hd hcd) ⟨v, e2, PoE.here s r q⟩
def dC (d : D) : DE := fun _ M k _ => k d M
theorem ev_int {i j} : EV X (.Constant (.int i) j pos) (dC (.int i)) := ⟨fun O R TX ρ M k h σ H w s => we_of pe_int (PoE.here s (.inl (.int i)) h)⟩
theorem ev_bl {i j} : EV X (.Constant (.bool i) j pos) (dC (.bl i)) := ⟨fun O R TX ρ M k h σ H w s => we_of pe_bl (PoE.here s (.inl (.bl i)) h)⟩
theorem ev_non {j} : EV X (.Constant .none j pos) (dC .non) := ⟨fun O R TX ρ M k h σ H w s => we_of pe_non (PoE.here s (.inl .non) h)⟩
theorem ev_str {x j} : EV X (.Constant (.str x) j pos) (dC (.str x)) := ⟨fun O R TX ρ M k h σ H w s => we_of pe_str (PoE.here s (.inl (.str x)) h)⟩
/-- a module's constant -/
theorem ev_glob {x : Str} {v : V} {u : Value} {d : D} (hg : Gl X x) (hm : X.mg x = some u) (r : RelV v u) (rd : ∀ F : Hp, Rep X.K X.mg F v d) (hd : (x == ("__debug__" : Str)) = false := by decide) : EV X (.Name x pos) (dC d) :=
  ⟨fun O R TX ρ M k h σ H w s => we_of (pe_glob hg hm r hd) (PoE.here s (.inl (rd _)) h)⟩

/-! ### two-place operators -/
/-- what a result must satisfy: known already, or newly made -/
def Fin (K : PySem.W.Frag) (mg : Str → Option Value) (w : Wd) (H : Hp) (k : D → Prop) (Q : VK) : Prop :=
  (∀ v d, RepA K mg w v d → k d → Q v H) ∧ ∀ p o d, H p = none → noTbl o → Rep K mg (upd w.F p o) (.ref p) d → k d → Q (.ref p) (upd H p o)
theorem fin_of (s : Sat X.K X.mg O σ H ρ M w) (h : w'.le w) : Fin X.K X.mg w H (fun d => k d M) (PoE X O σ ρ w' k) :=
  ⟨fun v d r q => PoE.le h (PoE.here s r q), fun p o d hp nt r q => PoE.le h (PoE.new s hp nt r q)⟩
end

/-- read through: a list (a dict) that may change is read as what it holds now -/
def view (M : MS) : D → D
  | .cell i => match M[i]? with
    | some (.lst xs) => .lst xs
    | some (.dct ks xs) => .dct ks xs
    | some (.ins C ks xs) => .ins C ks xs
    | _ => .cell i
  | d => d
section
variable (K : PySem.W.Frag) (mg : Str → Option Value)
/-- what can be read at a value now -/
inductive RdH (w : Wd) (H : Hp) : V → D → Prop
  | pure {v : V} {d : D} : Rep K mg w.F v d → RdH w H v d
  | cell {i : Nat} {a : Addr} : w.al[i]? = some a → RdH w H (.ref a) (.cell i)
  | lst {a : Addr} {vs : List V} {ds : List D} : H a = some (.lst vs) → Reps K mg w.F vs ds → RdH w H (.ref a) (.lst ds)
  | dct {a : Addr} {kvs : List (Key × V)} {ds : List D} : H a = some (.dK kvs) → Reps K mg w.F (kvs.map (·.2)) ds → RdH w H (.ref a) (.dct (kvs.map (·.1)) ds)
  | ins {a dx : Addr} {C : Str} {fs : List (Str × V)} {ds : List D} : H a = some (.ins (clA mg C) dx fs) → InsOk K mg C (fs.map (·.1)) → Reps K mg w.F (fs.map (·.2)) ds → RdH w H (.ref a) (.ins C (fs.map (·.1)) ds)
end
section
variable {K : PySem.W.Frag} {mg : Str → Option Value} {w w' : Wd} {H H' : Hp} {M : MS} {v : V} {d : D}
theorem rdh_view (c : Cells K mg w H M) (r : RepA K mg w v d) : RdH K mg w H v (view M d) := by
  rcases r with r | ⟨i, a, rfl, rfl, h3⟩
  · have e : view M d = d := by cases r <;> rfl
    rw [e]
    exact .pure r
  · have hi : i < M.length := by rw [← c.len]; exact (List.getElem?_eq_some_iff.mp h3).1
    have hm := c.at_ i a M[i] h3 (List.getElem?_eq_getElem hi)
    have e : view M (.cell i) = (match M[i]? with
      | some (.lst xs) => .lst xs
      | some (.dct ks xs) => .dct ks xs
      | some (.ins C ks xs) => .ins C ks xs
      | _ => .cell i) := rfl
    rw [e, List.getElem?_eq_getElem hi]
    generalize M[i] = mo at hm
    cases mo with
    | dead => exact hm.elim
    | ins C ks ds =>
      obtain ⟨_, dx, fs, h, z, e, r⟩ := hm
      subst e
      exact .ins h z r
    | lst ds =>
      obtain ⟨_, vs, h, r⟩ := hm
      exact .lst h r
    | dct ks ds =>
      obtain ⟨_, kvs, h, e, r⟩ := hm
      subst e
      exact .dct h r
theorem RdH.int {i : Int} (r : RdH K mg w H v (.int i)) : v = .int i := by
  cases r with
  | pure r => cases r; rfl
theorem RdH.bl {i : Bool} (r : RdH K mg w H v (.bl i)) : v = .bl i := by
  cases r with
  | pure r => cases r; rfl
theorem RdH.str {i : Str} (r : RdH K mg w H v (.str i)) : v = .str i := by
  cases r with
  | pure r => cases r; rfl
theorem RdH.non (r : RdH K mg w H v .non) : v = .non := by
  cases r with
  | pure r => cases r; rfl
theorem RdH.ty {n : String} (r : RdH K mg w H v (.ty n)) : v = .ty n := by
  cases r with
  | pure r => cases r; rfl
theorem RdH.lstE {ds : List D} (c : Ex w.F H) (r : RdH K mg w H v (.lst ds)) : ∃ a vs, v = .ref a ∧ H a = some (.lst vs) ∧ Reps K mg w.F vs ds := by
  cases r with
  | pure r =>
    cases r with
    | lst h1 h2 => exact ⟨_, _, rfl, c _ _ h1, h2⟩
  | lst h r => exact ⟨_, _, rfl, h, r⟩
theorem RdH.tup {ds : List D} (c : Ex w.F H) (r : RdH K mg w H v (.tup ds)) : ∃ a vs, v = .ref a ∧ SqT K H a vs ∧ Reps K mg w.F vs ds := by
  cases r with
  | pure r =>
    cases r with
    | tup h1 h2 => exact ⟨_, _, rfl, c.sqT h1, h2⟩
theorem RdH.tupP {ds : List D} (r : RdH K mg w H v (.tup ds)) : Rep K mg w.F v (.tup ds) := by
  cases r with
  | pure r => exact r
theorem RdH.scr {ns : List Int} (c : Ex w.F H) (r : RdH K mg w H v (.scr ns)) : ∃ a, v = .ref a ∧ SqL K H a (ns.map V.int) := by
  cases r with
  | pure r =>
    cases r with
    | scr h1 => exact ⟨_, rfl, c.sqL h1⟩
theorem RdH.insE {C : Str} {ks : List Str} {ds : List D} (c : Ex w.F H) (r : RdH K mg w H v (.ins C ks ds)) : ∃ a dx fs, v = .ref a ∧ H a = some (.ins (clA mg C) dx fs) ∧ InsOk K mg C ks ∧ fs.map (·.1) = ks ∧ Reps K mg w.F (fs.map (·.2)) ds := by
  cases r with
  | pure r =>
    cases r with
    | ins h1 h0 h2 h3 => exact ⟨_, _, _, rfl, c _ _ h1, h0, h2, h3⟩
  | ins h z r => exact ⟨_, _, _, rfl, h, z, rfl, r⟩
end

abbrev B2 := D → D → (D → Prop) → Prop
def dBin (B : B2) (ta tb : DE) : DE := fun ρ M k x => ta ρ M (fun d1 M1 => tb ρ M1 (fun d2 M2 => B (view M2 d1) (view M2 d2) fun d => k d M2) x) x
/-- an operation's rule, by values, does what B says of data -/
def OpD (K : PySem.W.Frag) (mg : Str → Option Value) (r : R2) (B : B2) : Prop := ∀ (w : Wd) (H : Hp) (x y : V) (d1 d2 : D) (k : D → Prop) (Q : VK), Ex w.F H → RdH K mg w H x d1 → RdH K mg w H y d2 → B d1 d2 k → Fin K mg w H k Q → r x y H Q
section
variable {X : Cx} {O : Org} {σ : L2.St} {H : Hp} {ρ : Ro} {M : MS} {w w' : Wd} {k : KD} {pos : Pos} {e a b : Expr} {ta tb : DE}
theorem bin_run {r : R2} {B : B2} (hB : OpD X.K X.mg r B) (ha : EV X a ta) (hb : EV X b tb) {R : Exn → Ro → MS → Prop} (TX : TakesD X O R) (h : dBin B ta tb ρ M k fun x M' => R x ρ M') (s : Sat X.K X.mg O σ H ρ M w) :
    tOp r (WE X a) (WE X b) σ H (PoE X O σ ρ w k) := by
  refine we_mono (ha.run O R TX ρ M _ h σ H w s) fun x H1 ⟨w1, d1, M1, l1, s1, r1, q1⟩ => ?_
  refine we_mono (hb.run O R TX ρ M1 _ q1 σ H1 w1 s1) fun y H2 ⟨w2, d2, M2, l2, s2, r2, q2⟩ => ?_
  exact hB w2 H2 x y _ _ _ _ s2.cells.fh (rdh_view s2.cells (r1.mono l2)) (rdh_view s2.cells r2) q2 (fin_of s2 (l1.trans l2))
theorem ev_bin {op : Operator} {r : R2} {B : B2} (ho : OpR X (binaryOp op) r) (hB : OpD X.K X.mg r B) (ha : EV X a ta) (hb : EV X b tb) : EV X (.BinOp a op b pos) (dBin B ta tb) :=
  ⟨fun O R TX ρ M k h σ H w s => we_of (pe_op ho (we_pe X a) (we_pe X b)) (bin_run hB ha hb TX h s)⟩
theorem ev_cmp {op : CmpOp} {r : R2} {B : B2} (ho : OpR X (compareOp op) r) (hB : OpD X.K X.mg r B) (ha : EV X a ta) (hb : EV X b tb) (hm : behindInMarks op b = false) : EV X (.Compare a [op] [b] pos) (dBin B ta tb) :=
  ⟨fun O R TX ρ M k h σ H w s => we_of (pe_cmpR ho (we_pe X a) (we_pe X b) hm) (bin_run hB ha hb TX h s)⟩
/-- a bool's value as a test -/
def dTst (ta : DE) : DT := fun ρ M k x => ta ρ M (fun d M1 => ∃ b, d = .bl b ∧ k b M1) x
theorem tst_run {k : Bool → MS → Prop} {v : V} (q : PoE X O σ ρ w (fun d M1 => ∃ b, d = .bl b ∧ k b M1) v H) : ∃ c, v = .bl c ∧ PoT X O σ ρ w k c H := by
  obtain ⟨w', d, M', l, s, r, b, rfl, q⟩ := q
  rcases r with r | ⟨_, _, e, _⟩
  · cases r
    exact ⟨b, rfl, w', M', l, s, q⟩
  · cases e
theorem evt_cmp {op : CmpOp} {r : R2} {B : B2} (ho : OpR X (compareOp op) r) (hB : OpD X.K X.mg r B) (ha : EV X a ta) (hb : EV X b tb) (hm : behindInMarks op b = false) : EVT X (.Compare a [op] [b] pos) (dTst (dBin B ta tb)) :=
  ⟨fun O R TX ρ M k h σ H w s => wt_of (t := tTest (tOp r (WE X a) (WE X b))) (pt_cmpR ho (we_pe X a) (we_pe X b) hm) (by
    refine we_mono (ha.run O R TX ρ M _ h σ H w s) fun x H1 ⟨w1, d1, M1, l1, s1, r1, q1⟩ => ?_
    refine we_mono (hb.run O R TX ρ M1 _ q1 σ H1 w1 s1) fun y H2 ⟨w2, d2, M2, l2, s2, r2, q2⟩ => ?_
    refine hB w2 H2 x y _ _ _ _ s2.cells.fh (rdh_view s2.cells (r1.mono l2)) (rdh_view s2.cells r2) q2 ⟨fun v d r q => ?_, fun p o d hp nt r q => ?_⟩
    · exact tst_run (PoE.le (l1.trans l2) (PoE.here s2 r q))
    · exact tst_run (PoE.le (l1.trans l2) (PoE.new s2 hp nt r q)))⟩
/-- an expression whose value is a bool, as a test -/
theorem evt_val (ha : EV X e ta) (he : ∀ whole, isTrue e X.env whole = (do let v ← whole; standAt e.pos; holding [v] (truthy v)) := by intro _; rfl) : EVT X e (dTst ta) :=
  ⟨fun O R TX ρ M k h σ H w s => wt_of (t := tB (WE X e)) (pt_val (we_pe X e) he) (we_mono (ha.run O R TX ρ M _ h σ H w s) fun v H' q => tst_run q)⟩
end
end Dl
set_option Elab.async false
set_option linter.all false
set_option maxRecDepth 100000
set_option maxHeartbeats 1000000
set_option autoImplicit false
/-! Dl2: operators, comparisons, tests, displays, subscripts over data. -/
namespace Dl
open PySem PySem.Spec PyProof.Rows L2
variable [Tb]

/-! ### data as plain data -/
mutual
def toPy : D → Option PyData
  | .non => some .none
  | .bl b => some (.bool b)
  | .int i => some (.int i)
  | .str x => some (.str x)
  | .lst xs => (toPys xs).map .list
  | .tup xs => (toPys xs).map .tuple
  | _ => none
def toPys : List D → Option (List PyData)
  | [] => some []
  | x :: xs => match toPy x, toPys xs with
    | some a, some as => some (a :: as)
    | _, _ => none
end
section
variable {K : PySem.W.Frag} {mg : Str → Option Value} {F H : Hp}
mutual
theorem Rep.dp (e : Ex F H) : ∀ (d : D) (v : V) (p : PyData), Rep K mg F v d → toPy d = some p → Dp K H v p
  | .non, _, _, h, q => by cases h; cases q; exact .non
  | .bl b, _, _, h, q => by cases h; cases q; exact .bl b
  | .int b, _, _, h, q => by cases h; cases q; exact .int b
  | .str b, _, _, h, q => by cases h; cases q; exact .str b
  | .lst ds, _, _, h, q => by
    cases h with
    | lst h1 h2 =>
      cases z : toPys ds with
      | none =>
        rw [toPy, z] at q
        cases q
      | some ps =>
        rw [toPy, z] at q
        cases q
        exact .lst (.of (e _ _ h1)) (Reps.dp e ds _ ps h2 z)
  | .tup ds, _, _, h, q => by
    cases h with
    | tup h1 h2 =>
      cases z : toPys ds with
      | none =>
        rw [toPy, z] at q
        cases q
      | some ps =>
        rw [toPy, z] at q
        cases q
        exact .tup (e.sqT h1) (Reps.dp e ds _ ps h2 z)
  | .ty _, _, _, _, q => by cases q
  | .ref _, _, _, _, q => by cases q
  | .ins _ _ _, _, _, _, q => by cases q
  | .exc _ _ _, _, _, _, q => by cases q
  | .dct _ _, _, _, _, q => by cases q
  | .scr _, _, _, _, q => by cases q
  | .cell _, _, _, _, q => by cases q
  | .own _, _, _, _, q => by cases q
theorem Reps.dp (e : Ex F H) : ∀ (ds : List D) (vs : List V) (ps : List PyData), Reps K mg F vs ds → toPys ds = some ps → DpAll K H vs ps
  | [], _, _, h, q => by cases h; cases q; exact .nil
  | d :: ds, _, _, h, q => by
    cases h with
    | cons h1 h2 =>
      cases z1 : toPy d with
      | none =>
        rw [toPys, z1] at q
        cases q
      | some a =>
        cases z2 : toPys ds with
        | none =>
          rw [toPys, z1, z2] at q
          cases q
        | some as =>
          rw [toPys, z1, z2] at q
          cases q
          exact .cons (Rep.dp e d _ a h1 z1) (Reps.dp e ds _ as h2 z2)
end
end
theorem RdH.dp {K : PySem.W.Frag} {mg : Str → Option Value} {w : Wd} {H : Hp} {v : V} {d : D} {p : PyData} (c : Ex w.F H) (r : RdH K mg w H v d) (q : toPy d = some p) : Dp K H v p := by
  cases r with
  | pure r => exact r.dp c d v p q
  | @lst a vs ds h r =>
    cases z : toPys ds with
    | none =>
      rw [toPy, z] at q
      cases q
    | some ps =>
      rw [toPy, z] at q
      cases q
      exact .lst (.of h) (Reps.dp c ds _ ps r z)
  | cell _ => cases q
  | dct _ _ => cases q
  | ins _ _ _ => cases q

/-- equality of plain data -/
def eqB : B2 := fun a b k => ∃ p q, toPy a = some p ∧ toPy b = some q ∧ SeqAt.shaped p = true ∧ SeqAt.shaped q = true ∧ k (.bl (PyData.eqv p q))
def neB : B2 := fun a b k => ∃ p q, toPy a = some p ∧ toPy b = some q ∧ SeqAt.shaped p = true ∧ SeqAt.shaped q = true ∧ k (.bl (!PyData.eqv p q))
section
variable {K : PySem.W.Frag} {mg : Str → Option Value}
theorem opd_eq : OpD K mg (rEqD K) eqB := by
  intro w H x y d1 d2 k Q c r1 r2 h f
  obtain ⟨p, q, e1, e2, s1, s2, z⟩ := h
  exact ⟨p, q, r1.dp c e1, r2.dp c e2, s1, s2, f.1 _ _ (.inl (.bl _)) z⟩
theorem opd_ne : OpD K mg (rNeD K) neB := by
  intro w H x y d1 d2 k Q c r1 r2 h f
  obtain ⟨p, q, e1, e2, s1, s2, z⟩ := h
  exact ⟨p, q, r1.dp c e1, r2.dp c e2, s1, s2, f.1 _ _ (.inl (.bl _)) z⟩

/-! ### + -/
def addB : B2
  | .int i, .int j, k => k (.int (i + j))
  | .int i, .bl j, k => k (.int (i + b2i j))
  | .str a, .str b, k => a.length + b.length ≤ sizeLine ∧ k (.str (a ++ b))
  | .lst a, .lst b, k => a.length + b.length ≤ sizeLine ∧ k (.lst (a ++ b))
  | .tup a, .tup b, k => a.length + b.length ≤ sizeLine ∧ k (.tup (a ++ b))
  | _, _, _ => False
def rAddX (K : PySem.W.Frag) : R2 := fun x y H Q => (rI0 fun i j => .int (i + j)) x y H Q ∨ (∃ i j, x = .str i ∧ y = .str j ∧ i.length + j.length ≤ sizeLine ∧ Q (.str (i ++ j)) H) ∨ rCat x y H Q ∨ rCatA K x y H Q ∨
  ∃ i k, x = .int i ∧ y = .bl k ∧ Q (.int (i + b2i k)) H
theorem opr_add {X : Cx} : OpR X (binaryOp .Add) (rAddX X.K) := op_add.or (op_add_str.or (op_cat.or (op_catA.or op_add_ib)))
theorem Reps.nil_iff {F : Hp} {vs : List V} {ds : List D} (r : Reps K mg F vs ds) : vs = [] ↔ ds = [] := by
  cases r <;> simp
theorem opd_add : OpD K mg (rAddX K) addB := by
  intro w H x y d1 d2 k Q c r1 r2 h f
  cases d1 with
  | int i =>
    cases d2 with
    | int j => exact .inl ⟨i, j, r1.int, r2.int, f.1 _ _ (.inl (.int _)) h⟩
    | bl j => exact .inr (.inr (.inr (.inr ⟨i, j, r1.int, r2.bl, f.1 _ _ (.inl (.int _)) h⟩)))
    | _ => exact h.elim
  | str a =>
    cases d2 with
    | str b => exact .inr (.inl ⟨a, b, r1.str, r2.str, h.1, f.1 _ _ (.inl (.str _)) h.2⟩)
    | _ => exact h.elim
  | lst a =>
    cases d2 with
    | lst b =>
      obtain ⟨p, vs, rfl, h1, q1⟩ := r1.lstE c
      obtain ⟨q, us, rfl, h2, q2⟩ := r2.lstE c
      refine .inr (.inr (.inl ⟨p, q, vs, us, rfl, rfl, h1, h2, by rw [q1.length, q2.length]; exact h.1, fun n hn => f.2 n _ _ hn (by intro ps e; cases e) ?_ h.2⟩))
      have e : Ex w.F (upd w.F n (.lst (vs ++ us))) := Ex.upd (c.fresh hn)
      exact .lst upd_same ((q1.append q2).mono e)
    | _ => exact h.elim
  | tup a =>
    cases d2 with
    | tup b =>
      obtain ⟨p, vs, rfl, h1, q1⟩ := r1.tup c
      obtain ⟨q, us, rfl, h2, q2⟩ := r2.tup c
      have hk := h.2
      refine .inr (.inr (.inr (.inl ⟨p, q, vs, us, rfl, rfl, h1, h2, by rw [q1.length, q2.length]; exact h.1, fun n => ?_, fun n1 n2 => ?_, fun n1 n2 n hn => ?_⟩)))
      · have e : a = [] := q1.nil_iff.mp n
        subst e
        exact f.1 _ _ (.inl r2.tupP) hk
      · have e : b = [] := q2.nil_iff.mp n2
        subst e
        rw [List.append_nil] at hk
        exact f.1 _ _ (.inl r1.tupP) hk
      · have e : Ex w.F (upd w.F n (.tup (vs ++ us))) := Ex.upd (c.fresh hn)
        exact f.2 n _ _ hn (by intro ps e; cases e) (.tup (.of upd_same) ((q1.append q2).mono e)) hk
    | _ => exact h.elim
  | _ => exact h.elim

/-! ### other arithmetic -/
def intB (C : Int → Int → Prop) (g : Int → Int → D) : B2
  | .int i, .int j, k => C i j ∧ k (g i j)
  | _, _, _ => False
theorem opd_int {C : Int → Int → Prop} {g : Int → Int → V} {gD : Int → Int → D} (hg : ∀ i j (F : Hp), Rep K mg F (g i j) (gD i j)) : OpD K mg (rI C g) (intB C gD) := by
  intro w H x y d1 d2 k Q c r1 r2 h f
  cases d1 with
  | int i =>
    cases d2 with
    | int j => exact ⟨i, j, r1.int, r2.int, h.1, f.1 _ _ (.inl (hg i j _)) h.2⟩
    | _ => exact h.elim
  | _ => exact h.elim
theorem opd_int0 {g : Int → Int → V} {gD : Int → Int → D} (hg : ∀ i j (F : Hp), Rep K mg F (g i j) (gD i j)) : OpD K mg (rI0 g) (intB (fun _ _ => True) gD) := by
  intro w H x y d1 d2 k Q c r1 r2 h f
  cases d1 with
  | int i =>
    cases d2 with
    | int j => exact ⟨i, j, r1.int, r2.int, f.1 _ _ (.inl (hg i j _)) h.2⟩
    | _ => exact h.elim
  | _ => exact h.elim
def subB : B2 := intB (fun _ _ => True) fun i j => .int (i - j)
theorem opd_sub : OpD K mg (rI0 fun i j => .int (i - j)) subB := opd_int0 fun _ _ _ => .int _
/-- i // j, j above 0 and below 2^9000 -/
def fdivB : B2 := intB CDivW fun i j => .int (i / j)
theorem opd_fdiv : OpD K mg (rI CDivW fun i j => .int (i / j)) fdivB := opd_int fun _ _ _ => .int _
def modB : B2 := intB (fun _ j => 0 < j) fun i j => .int (i % j)
theorem opd_mod : OpD K mg (rI (fun _ j => 0 < j) fun i j => .int (i % j)) modB := opd_int fun _ _ _ => .int _
def powB : B2 := intB CPow fun i j => .int (i ^ j.toNat)
theorem opd_pow : OpD K mg (rI CPow fun i j => .int (i ^ j.toNat)) powB := opd_int fun _ _ _ => .int _
/-- a product: of ints; a list so many times -/
def mulB : B2
  | .int i, .int j, k => IntMulOk i j ∧ k (.int (i * j))
  | .lst xs, .int j, k => -(2 ^ 63) ≤ j ∧ j < 2 ^ 63 ∧ xs.length * j.toNat ≤ sizeLine ∧ k (.lst (List.replicate j.toNat xs).flatten)
  | _, _, _ => False
def rMulX : R2 := fun x y H Q => (rI IntMulOk fun i j => .int (i * j)) x y H Q ∨ rRep x y H Q
theorem op_mulI {X : Cx} : OpR X (binaryOp .Mult) (rI IntMulOk fun i j => .int (i * j)) := opI fun _ _ _ _ _ _ _ hc q => mul_int q hc
theorem opr_mul {X : Cx} : OpR X (binaryOp .Mult) rMulX := op_mulI.or op_rep
theorem Reps.rep {F : Hp} {vs : List V} {ds : List D} (r : Reps K mg F vs ds) : ∀ n : Nat, Reps K mg F (List.replicate n vs).flatten (List.replicate n ds).flatten
  | 0 => .nil
  | n + 1 => by
    rw [List.replicate_succ, List.replicate_succ, List.flatten_cons, List.flatten_cons]
    exact r.append (Reps.rep r n)
theorem opd_mul : OpD K mg rMulX mulB := by
  intro w H x y d1 d2 k Q c r1 r2 h f
  cases d1 with
  | int i =>
    cases d2 with
    | int j => exact .inl ⟨i, j, r1.int, r2.int, h.1, f.1 _ _ (.inl (.int _)) h.2⟩
    | _ => exact h.elim
  | lst a =>
    cases d2 with
    | int j =>
      obtain ⟨p, vs, rfl, h1, q1⟩ := r1.lstE c
      obtain ⟨n1, n2, n3, hk⟩ := h
      refine .inr ⟨p, j, vs, rfl, r2.int, h1, n1, n2, by rw [q1.length]; exact n3, fun n hn => f.2 n _ _ hn (by intro ps e; cases e) ?_ hk⟩
      exact .lst upd_same ((q1.rep _).mono (Ex.upd (c.fresh hn)))
    | _ => exact h.elim
  | _ => exact h.elim

/-! ### order -/
def ltB : B2 := intB (fun _ _ => True) fun i j => .bl (decide (i < j))
def leB : B2 := intB (fun _ _ => True) fun i j => .bl (decide (i ≤ j))
def gtB : B2 := intB (fun _ _ => True) fun i j => .bl (decide (j < i))
def geB : B2 := intB (fun _ _ => True) fun i j => .bl (decide (j ≤ i))
theorem opd_lt : OpD K mg (rI0 fun i j => .bl (decide (i < j))) ltB := opd_int0 fun _ _ _ => .bl _
theorem opd_le : OpD K mg (rI0 fun i j => .bl (decide (i ≤ j))) leB := opd_int0 fun _ _ _ => .bl _
theorem opd_gt : OpD K mg (rI0 fun i j => .bl (decide (j < i))) gtB := opd_int0 fun _ _ _ => .bl _
theorem opd_ge : OpD K mg (rI0 fun i j => .bl (decide (j ≤ i))) geB := opd_int0 fun _ _ _ => .bl _
/-- of tuples of ints -/
def leTB : B2 := fun a b k => ∃ ns ms : List Int, a = .tup (ns.map .int) ∧ b = .tup (ms.map .int) ∧
  k (.bl (Ob.lexAt (fun j => decide (ns.getD j 0 = ms.getD j 0)) (fun j => decide (ns.getD j 0 ≤ ms.getD j 0)) (decide (ns.length ≤ ms.length)) 0 (min ns.length ms.length)))
theorem opd_leT : OpD K mg (rLeT K) leTB := by
  intro w H x y d1 d2 k Q c r1 r2 h f
  obtain ⟨ns, ms, rfl, rfl, q⟩ := h
  obtain ⟨a, vs, rfl, h1, q1⟩ := r1.tup c
  obtain ⟨b, us, rfl, h2, q2⟩ := r2.tup c
  rw [q1.ints] at h1
  rw [q2.ints] at h2
  exact ⟨a, b, ns, ms, rfl, rfl, h1, h2, f.1 _ _ (.inl (.bl _)) q⟩

/-! ### is -/
def isNon : D → Bool
  | .non => true
  | _ => false
/-- is None: of what is no thing that may change, too -/
def isNB : B2 := fun a b k => b = .non ∧ k (.bl (isNon a))
def notNB : B2 := fun a b k => b = .non ∧ k (.bl (!isNon a))
theorem RdH.isNon {w : Wd} {H : Hp} {v : V} {d : D} (r : RdH K mg w H v d) : decide (v = .non) = isNon d := by
  cases r with
  | pure r => cases r <;> rfl
  | _ => rfl
theorem opd_isN : OpD K mg (fun x y H Q => y = .non ∧ Q (.bl (decide (x = .non))) H) isNB := by
  intro w H x y d1 d2 k Q c r1 r2 h f
  obtain ⟨rfl, q⟩ := h
  exact ⟨r2.non, by rw [r1.isNon]; exact f.1 _ _ (.inl (.bl _)) q⟩
theorem opd_notN : OpD K mg (fun x y H Q => y = .non ∧ Q (.bl (!decide (x = .non))) H) notNB := by
  intro w H x y d1 d2 k Q c r1 r2 h f
  obtain ⟨rfl, q⟩ := h
  exact ⟨r2.non, by rw [r1.isNon]; exact f.1 _ _ (.inl (.bl _)) q⟩
/-- is True, is not True: of bools -/
def isBB : B2 := fun a b k => ∃ p q, a = .bl p ∧ b = .bl q ∧ k (.bl (decide (p = q)))
def notBB : B2 := fun a b k => ∃ p q, a = .bl p ∧ b = .bl q ∧ k (.bl (!decide (p = q)))
theorem opd_isB : OpD K mg rIsB isBB := by
  intro w H x y d1 d2 k Q c r1 r2 h f
  obtain ⟨p, q, rfl, rfl, z⟩ := h
  exact ⟨p, q, r1.bl, r2.bl, f.1 _ _ (.inl (.bl _)) z⟩
theorem opd_notB : OpD K mg rNotB notBB := by
  intro w H x y d1 d2 k Q c r1 r2 h f
  obtain ⟨p, q, rfl, rfl, z⟩ := h
  exact ⟨p, q, r1.bl, r2.bl, f.1 _ _ (.inl (.bl _)) z⟩

/-! ### in -/
/-- x in a list or a tuple of plain flat items (none, bools, ints, texts) -/
def flatD : D → Bool
  | .non | .bl _ | .int _ | .str _ => true
  | _ => false
def eqF : D → D → Bool
  | .non, .non => true
  | .bl a, .bl b => a == b
  | .bl a, .int j => (if a then 1 else 0) == j
  | .int i, .bl b => i == (if b then 1 else 0)
  | .int i, .int j => i == j
  | .str a, .str b => a == b
  | _, _ => false
end
end Dl
set_option Elab.async false
set_option linter.all false
set_option maxRecDepth 100000
set_option maxHeartbeats 1000000
set_option autoImplicit false
/-! Dl3: in, and, or, not, displays, subscripts, slices, fields, arguments, built-in functions. -/
namespace Dl
open PySem PySem.Spec PyProof.Rows L2
variable [Tb]

/-! ### in -/
section
variable {K : PySem.W.Frag} {mg : Str → Option Value}
theorem Rep.flat {F : Hp} {v : V} {d : D} (r : Rep K mg F v d) (h : flatD d = true) : flatV v = true := by
  cases r <;> first | rfl | cases h
theorem Reps.flat {F : Hp} : ∀ {vs : List V} {ds : List D}, Reps K mg F vs ds → ds.all flatD = true → vs.all flatV = true
  | _, _, .nil, _ => rfl
  | _, _, .cons r t, h => by
    rw [List.all_cons, Bool.and_eq_true] at h ⊢
    exact ⟨r.flat h.1, Reps.flat t h.2⟩
theorem eqV_F {F : Hp} {v u : V} {d e : D} (r : Rep K mg F v d) (q : Rep K mg F u e) (h : flatD d = true) (h2 : flatD e = true) : eqV v u = eqF d e := by
  cases r <;> first | (cases h; done) | (cases q <;> first | (cases h2; done) | rfl)
theorem inV_F {F : Hp} {v : V} {d : D} (r : Rep K mg F v d) (h : flatD d = true) : ∀ {us : List V} {es : List D}, Reps K mg F us es → es.all flatD = true → inV v us = es.any fun y => eqF y d
  | _, _, .nil, _ => rfl
  | _, _, .cons q t, h2 => by
    rw [List.all_cons, Bool.and_eq_true] at h2
    show (eqV _ v || inV v _) = (eqF _ d || _)
    rw [eqV_F q r h2.1 h, inV_F r h t h2.2]
theorem RdH.flat {w : Wd} {H : Hp} {v : V} {d : D} (r : RdH K mg w H v d) (h : flatD d = true) : Rep K mg w.F v d := by
  cases r with
  | pure r => exact r
  | _ => cases h
def inB (neg : Bool) : B2 := fun a b k => ∃ xs, (b = .lst xs ∨ b = .tup xs) ∧ flatD a = true ∧ xs.all flatD = true ∧ k (.bl (if neg then !xs.any fun y => eqF y a else xs.any fun y => eqF y a))
theorem opd_in (neg : Bool) : OpD K mg (rIn K neg) (inB neg) := by
  intro w H x y d1 d2 k Q c r1 r2 h f
  obtain ⟨xs, hb, h1, h2, q⟩ := h
  have ra := r1.flat h1
  rcases hb with rfl | rfl
  · obtain ⟨p, vs, rfl, e, r⟩ := r2.lstE c
    refine ⟨p, vs, rfl, .inl (.of e), ra.flat h1, r.flat h2, ?_⟩
    rw [inV_F ra h1 r h2]
    exact f.1 _ _ (.inl (.bl _)) q
  · obtain ⟨p, vs, rfl, e, r⟩ := r2.tup c
    refine ⟨p, vs, rfl, .inr e, ra.flat h1, r.flat h2, ?_⟩
    rw [inV_F ra h1 r h2]
    exact f.1 _ _ (.inl (.bl _)) q
/-- one sign in a text -/
def inSB (neg : Bool) : B2 := fun a b k => ∃ (c : Nat) (z : Str), a = .str ⟨#[c]⟩ ∧ b = .str z ∧ k (.bl (if neg then !decide (c ∈ z.cps.toList) else decide (c ∈ z.cps.toList)))
theorem opd_inS : OpD K mg (fun x y H Q => ∃ (c : Nat) (z : Str), x = .str ⟨#[c]⟩ ∧ y = .str z ∧ Q (.bl (decide (c ∈ z.cps.toList))) H) (inSB false) := by
  intro w H x y d1 d2 k Q c r1 r2 h f
  obtain ⟨s, z, rfl, rfl, q⟩ := h
  exact ⟨s, z, r1.str, r2.str, f.1 _ _ (.inl (.bl _)) q⟩
theorem opd_notInS : OpD K mg (fun x y H Q => ∃ (c : Nat) (z : Str), x = .str ⟨#[c]⟩ ∧ y = .str z ∧ Q (.bl (!decide (c ∈ z.cps.toList))) H) (inSB true) := by
  intro w H x y d1 d2 k Q c r1 r2 h f
  obtain ⟨s, z, rfl, rfl, q⟩ := h
  exact ⟨s, z, r1.str, r2.str, f.1 _ _ (.inl (.bl _)) q⟩
end

/-! ### tests: and, or, not -/
def WW (X : Cx) (e : Expr) : TT := fun σ H Q => ∀ whole pins s, Inv X pins σ H s → wpAny (model X.prog X.w) X.A (isTrue e X.env whole) (TP X pins σ Q) X.xe s
theorem ww_pw (X : Cx) (e : Expr) : PW X e (WW X e) := ⟨fun whole pins s _ _ _ I h => h whole pins s I⟩
theorem ww_of {X : Cx} {e : Expr} {t : TT} (h : PW X e t) {σ : L2.St} {H : Hp} {Q : Bool → Hp → Prop} (q : t σ H Q) : WW X e σ H Q := fun whole pins s I => h.run whole pins s σ H Q I q
theorem wt_mono {X : Cx} {e : Expr} {σ : L2.St} {H : Hp} {Q Q' : Bool → Hp → Prop} (h : WT X e σ H Q) (q : ∀ v H', Q v H' → Q' v H') : WT X e σ H Q' := fun pins s I =>
  thn (h pins s I) fun u s' ⟨H', I', z⟩ => ⟨H', I', q u H' z⟩
theorem ww_mono {X : Cx} {e : Expr} {σ : L2.St} {H : Hp} {Q Q' : Bool → Hp → Prop} (h : WW X e σ H Q) (q : ∀ v H', Q v H' → Q' v H') : WW X e σ H Q' := fun whole pins s I =>
  thn (h whole pins s I) fun u s' ⟨H', I', z⟩ => ⟨H', I', q u H' z⟩
structure EVW (X : Cx) (e : Expr) (τ : DT) : Prop where
  run : ∀ (O : Org) (R : Exn → Ro → MS → Prop), TakesD X O R → ∀ (ρ : Ro) (M : MS) (k : Bool → MS → Prop), τ ρ M k (fun x M' => R x ρ M') → ∀ (σ : L2.St) (H : Hp) (w : Wd), Sat X.K X.mg O σ H ρ M w → WW X e σ H (PoT X O σ ρ w k)
def dAnd (t u : DT) : DT := fun ρ M k x => t ρ M (fun b M1 => if b = true then u ρ M1 k x else k false M1) x
def dOr (t u : DT) : DT := fun ρ M k x => t ρ M (fun b M1 => if b = true then k true M1 else u ρ M1 k x) x
def dNot (t : DT) : DT := fun ρ M k x => t ρ M (fun b M1 => k (!b) M1) x
section
variable {X : Cx} {O : Org} {σ : L2.St} {H : Hp} {ρ : Ro} {M : MS} {w w' : Wd} {pos : Pos} {e a b c : Expr} {rest : List Expr} {ta tb tc : DE} {t u : DT}
theorem PoT.le {k : Bool → MS → Prop} (h : w.le w') {v : Bool} (q : PoT X O σ ρ w' k v H) : PoT X O σ ρ w k v H := by
  obtain ⟨w2, M', h1, h2⟩ := q
  exact ⟨w2, M', h.trans h1, h2⟩
theorem PoT.here {k : Bool → MS → Prop} {v : Bool} (s : Sat X.K X.mg O σ H ρ M w) (q : k v M) : PoT X O σ ρ w k v H := ⟨w, M, .refl w, s, q⟩
theorem evt_w (h : EVW X e t) : EVT X e t := ⟨fun O R TX ρ M k q σ H w s => wt_of (PW.pt (ww_pw X e)) (h.run O R TX ρ M k q σ H w s)⟩
theorem evw_and1 (h : EVT X a t) : EVW X (.BoolOp .And [a] pos) t := ⟨fun O R TX ρ M k q σ H w s => ww_of (pw_and1 (wt_pt X a)) (h.run O R TX ρ M k q σ H w s)⟩
theorem evw_or1 (h : EVT X a t) : EVW X (.BoolOp .Or [a] pos) t := ⟨fun O R TX ρ M k q σ H w s => ww_of (pw_or1 (wt_pt X a)) (h.run O R TX ρ M k q σ H w s)⟩
theorem evw_and (h : EVT X a t) (h2 : EVW X (.BoolOp .And (b :: rest) pos) u) : EVW X (.BoolOp .And (a :: b :: rest) pos) (dAnd t u) := ⟨fun O R TX ρ M k q σ H w s =>
  ww_of (pw_and (wt_pt X a) (ww_pw X _)) (wt_mono (h.run O R TX ρ M _ q σ H w s) fun v H1 ⟨w1, M1, l1, s1, q1⟩ => by
    cases v with
    | true => exact ww_mono (h2.run O R TX ρ M1 k q1 σ H1 w1 s1) fun v2 H2 z => z.le l1
    | false => exact (PoT.here s1 q1).le l1)⟩
theorem evw_or (h : EVT X a t) (h2 : EVW X (.BoolOp .Or (b :: rest) pos) u) : EVW X (.BoolOp .Or (a :: b :: rest) pos) (dOr t u) := ⟨fun O R TX ρ M k q σ H w s =>
  ww_of (pw_or (wt_pt X a) (ww_pw X _)) (wt_mono (h.run O R TX ρ M _ q σ H w s) fun v H1 ⟨w1, M1, l1, s1, q1⟩ => by
    cases v with
    | false => exact ww_mono (h2.run O R TX ρ M1 k q1 σ H1 w1 s1) fun v2 H2 z => z.le l1
    | true => exact (PoT.here s1 q1).le l1)⟩
theorem evt_not (h : EVT X a t) : EVT X (.UnaryOp .Not a pos) (dNot t) := ⟨fun O R TX ρ M k q σ H w s => wt_of (pt_not (wt_pt X a)) (h.run O R TX ρ M _ q σ H w s)⟩

/-! ### truth of a value -/
def truD : D → Option Bool
  | .non => some false
  | .bl b => some b
  | .int i => some (i != 0)
  | .lst xs => some (!xs.isEmpty)
  | .tup xs => some (!xs.isEmpty)
  | .dct _ xs => some (!xs.isEmpty)
  | _ => none
theorem Reps.isEmpty {K : PySem.W.Frag} {mg : Str → Option Value} {F : Hp} {vs : List V} {ds : List D} (r : Reps K mg F vs ds) : vs.isEmpty = ds.isEmpty := by
  cases r <;> rfl
theorem RdH.tru {d : D} {v : V} {c : Bool} (e : Ex w.F H) (r : RdH X.K X.mg w H v d) (h : truD d = some c) : TruV X.K v H c := by
  cases d with
  | non => cases h; rw [r.non]; rfl
  | bl b => cases h; rw [r.bl]; rfl
  | int i => cases h; rw [r.int]; rfl
  | lst xs =>
    cases h
    obtain ⟨a, vs, rfl, h1, q⟩ := r.lstE e
    exact .inl ⟨vs, .of h1, by rw [q.isEmpty]⟩
  | tup xs =>
    cases h
    obtain ⟨a, vs, rfl, h1, q⟩ := r.tup e
    exact .inr (.inl ⟨vs, h1, by rw [q.isEmpty]⟩)
  | dct ks xs =>
    cases h
    cases r with
    | pure r =>
      cases r with
      | @dct a _ kvs _ h1 h2 h3 => exact .inr (.inr ⟨kvs, e _ _ h1, by rw [← h3.isEmpty]; cases kvs <;> rfl⟩)
    | @dct a kvs _ h1 h2 => exact .inr (.inr ⟨kvs, h1, by rw [← h2.isEmpty]; cases kvs <;> rfl⟩)
  | _ => cases h
/-- a value's truth -/
def dTru (ta : DE) : DT := fun ρ M k x => ta ρ M (fun d M1 => ∃ b, truD (view M1 d) = some b ∧ k b M1) x
theorem evt_tru (ha : EV X e ta) (he : ∀ whole, isTrue e X.env whole = (do let v ← whole; standAt e.pos; holding [v] (truthy v)) := by intro _; rfl) : EVT X e (dTru ta) :=
  ⟨fun O R TX ρ M k h σ H w s => wt_of (pt_truth (we_pe X e) he) (we_mono (ha.run O R TX ρ M _ h σ H w s) fun v H1 ⟨w1, d, M1, l1, s1, r1, b, hb, q⟩ =>
    ⟨b, (rdh_view s1.cells r1).tru s1.cells.fh hb, (PoT.here s1 q).le l1⟩)⟩

/-! ### and, or, not as values -/
def dAndV (ta tb : DE) : DE := fun ρ M k x => ta ρ M (fun d M1 => ∃ b, truD (view M1 d) = some b ∧ if b = true then tb ρ M1 k x else k d M1) x
def dOrV (ta tb : DE) : DE := fun ρ M k x => ta ρ M (fun d M1 => ∃ b, truD (view M1 d) = some b ∧ if b = true then k d M1 else tb ρ M1 k x) x
def dNotV (ta : DE) : DE := fun ρ M k x => ta ρ M (fun d M1 => ∃ b, truD (view M1 d) = some b ∧ k (.bl (!b)) M1) x
theorem ev_one {op} (h : EV X a ta) : EV X (.BoolOp op [a] pos) ta := ⟨fun O R TX ρ M k q σ H w s => we_of (pe_one (we_pe X a)) (h.run O R TX ρ M k q σ H w s)⟩
theorem ev_and (ha : EV X a ta) (hb : EV X (.BoolOp .And (b :: rest) pos) tb) : EV X (.BoolOp .And (a :: b :: rest) pos) (dAndV ta tb) := ⟨fun O R TX ρ M k h σ H w s =>
  we_of (pe_andT (we_pe X a) (we_pe X _)) (we_mono (ha.run O R TX ρ M _ h σ H w s) fun v H1 ⟨w1, d, M1, l1, s1, r1, b, hb', q⟩ => by
    refine ⟨b, (rdh_view s1.cells r1).tru s1.cells.fh hb', ?_⟩
    cases b with
    | true => exact we_mono (hb.run O R TX ρ M1 k q σ H1 w1 s1) fun v2 H2 z => z.le l1
    | false => exact (PoE.here s1 r1 q).le l1)⟩
theorem ev_or (ha : EV X a ta) (hb : EV X (.BoolOp .Or (b :: rest) pos) tb) : EV X (.BoolOp .Or (a :: b :: rest) pos) (dOrV ta tb) := ⟨fun O R TX ρ M k h σ H w s =>
  we_of (pe_orT (we_pe X a) (we_pe X _)) (we_mono (ha.run O R TX ρ M _ h σ H w s) fun v H1 ⟨w1, d, M1, l1, s1, r1, b, hb', q⟩ => by
    refine ⟨b, (rdh_view s1.cells r1).tru s1.cells.fh hb', ?_⟩
    cases b with
    | false => exact we_mono (hb.run O R TX ρ M1 k q σ H1 w1 s1) fun v2 H2 z => z.le l1
    | true => exact (PoE.here s1 r1 q).le l1)⟩
theorem ev_not (ha : EV X a ta) : EV X (.UnaryOp .Not a pos) (dNotV ta) := ⟨fun O R TX ρ M k h σ H w s =>
  we_of (pe_notT (we_pe X a)) (we_mono (ha.run O R TX ρ M _ h σ H w s) fun v H1 ⟨w1, d, M1, l1, s1, r1, b, hb', q⟩ =>
    ⟨b, (rdh_view s1.cells r1).tru s1.cells.fh hb', (PoE.here s1 (.inl (.bl _)) q).le l1⟩)⟩
/-- x if t else y -/
def dIf (t : DT) (ta tb : DE) : DE := fun ρ M k x => t ρ M (fun b M1 => if b = true then ta ρ M1 k x else tb ρ M1 k x) x
theorem ev_if (h : EVT X c t) (ha : EV X a ta) (hb : EV X b tb) : EV X (.IfExp c a b pos) (dIf t ta tb) := ⟨fun O R TX ρ M k h' σ H w s =>
  we_of (pe_ifExp (wt_pt X c) (we_pe X a) (we_pe X b)) (wt_mono (h.run O R TX ρ M _ h' σ H w s) fun v H1 ⟨w1, M1, l1, s1, q1⟩ => by
    cases v with
    | true => exact we_mono (ha.run O R TX ρ M1 k q1 σ H1 w1 s1) fun v2 H2 z => z.le l1
    | false => exact we_mono (hb.run O R TX ρ M1 k q1 σ H1 w1 s1) fun v2 H2 z => z.le l1)⟩

/-! ### -x -/
abbrev B1 := D → (D → Prop) → Prop
def dUn (B : B1) (ta : DE) : DE := fun ρ M k x => ta ρ M (fun d M1 => B (view M1 d) fun d' => k d' M1) x
def negB : B1
  | .int i, k => k (.int (-i))
  | _, _ => False
theorem ev_neg (ha : EV X a ta) : EV X (.UnaryOp .USub a pos) (dUn negB ta) := ⟨fun O R TX ρ M k h σ H w s =>
  we_of (pe_un un_neg (we_pe X a)) (we_mono (ha.run O R TX ρ M _ h σ H w s) fun v H1 ⟨w1, d, M1, l1, s1, r1, q⟩ => by
    have r2 := rdh_view s1.cells r1
    have q : negB (view M1 d) fun d' => k d' M1 := q
    generalize view M1 d = d2 at q r2
    cases d2 with
    | int i => exact ⟨i, r2.int, (PoE.here s1 (.inl (.int _)) q).le l1⟩
    | _ => exact False.elim q)⟩

/-! ### a op b op c -/
def dChain (B B' : B2) (ta tb tc : DE) : DE := fun ρ M k x => ta ρ M (fun d1 M1 => tb ρ M1 (fun d2 M2 => B (view M2 d1) (view M2 d2) fun z => ∃ c, z = .bl c ∧
  if c = true then tc ρ M2 (fun d3 M3 => B' (view M3 d2) (view M3 d3) fun d => k d M3) x else k (.bl false) M2) x) x
theorem chain_run {op op' : CmpOp} {r r' : R2} {B B' : B2} (hB : OpD X.K X.mg r B) (hB' : OpD X.K X.mg r' B') (ha : EV X a ta) (hb : EV X b tb) (hc : EV X c tc) {R : Exn → Ro → MS → Prop} {k : KD} (TX : TakesD X O R)
    (h : dChain B B' ta tb tc ρ M k fun x M' => R x ρ M') (s : Sat X.K X.mg O σ H ρ M w) : tChain r r' (WE X a) (WE X b) (WE X c) σ H (PoE X O σ ρ w k) := by
  refine we_mono (ha.run O R TX ρ M _ h σ H w s) fun x H1 ⟨w1, d1, M1, l1, s1, r1, q1⟩ => ?_
  refine we_mono (hb.run O R TX ρ M1 _ q1 σ H1 w1 s1) fun y H2 ⟨w2, d2, M2, l2, s2, r2, q2⟩ => ?_
  have go : ∀ (w3 : Wd) (H3 : Hp) (z : V) (d : D), w2.le w3 → Sat X.K X.mg O σ H3 ρ M2 w3 → RepA X.K X.mg w3 z d → (∃ c', d = .bl c' ∧
    if c' = true then tc ρ M2 (fun d3 M3 => B' (view M3 d2) (view M3 d3) fun d => k d M3) (fun x M' => R x ρ M') else k (.bl false) M2) →
      ∃ k', z = .bl k' ∧ (if k' = true then WE X c σ H3 fun w' H4 => r' y w' H4 (PoE X O σ ρ w k) else PoE X O σ ρ w k (.bl false) H3) := by
    intro w3 H3 z d l3 s3 r3 q3
    obtain ⟨c', rfl, q3⟩ := q3
    have ez : z = .bl c' := by
      rcases r3 with r3 | ⟨_, _, e, _⟩
      · cases r3; rfl
      · cases e
    subst ez
    refine ⟨c', rfl, ?_⟩
    cases c' with
    | false => exact PoE.le ((l1.trans l2).trans l3) (PoE.here s3 (.inl (.bl _)) q3)
    | true =>
      refine we_mono (hc.run O R TX ρ M2 _ q3 σ H3 w3 s3) fun u H4 ⟨w4, d3, M3, l4, s4, r4, q4⟩ => ?_
      exact hB' w4 H4 y u _ _ _ _ s4.cells.fh (rdh_view s4.cells (r2.mono (l3.trans l4))) (rdh_view s4.cells r4) q4 (fin_of s4 (((l1.trans l2).trans l3).trans l4))
  exact hB w2 H2 x y _ _ _ _ s2.cells.fh (rdh_view s2.cells (r1.mono l2)) (rdh_view s2.cells r2) q2
    ⟨fun v d r q => go w2 H2 v d (.refl _) s2 r q, fun p o d hp nt r q => go (w2.more p o) _ _ d (Wd.le_more (s2.cells.fh.fresh hp)) (s2.more hp nt) (.inl r) q⟩
theorem ev_chain {op op' : CmpOp} {r r' : R2} {B B' : B2} (ho : OpR X (compareOp op) r) (ho' : OpR X (compareOp op') r') (hB : OpD X.K X.mg r B) (hB' : OpD X.K X.mg r' B') (ha : EV X a ta) (hb : EV X b tb) (hc : EV X c tc)
    (hm : lastMarks [op, op'] [b, c] = false := by with_unfolding_all rfl) : EV X (.Compare a [op, op'] [b, c] pos) (dChain B B' ta tb tc) := ⟨fun O R TX ρ M k h σ H w s =>
  we_of (pe_chain ho ho' (we_pe X a) (we_pe X b) (we_pe X c) hm) (chain_run (op := op) (op' := op') hB hB' ha hb hc TX h s)⟩
theorem tch_mono {r r' : R2} (hr : ∀ x y H Q Q', (∀ v H', Q v H' → Q' v H') → r x y H Q → r x y H Q') (hr' : ∀ x y H Q Q', (∀ v H', Q v H' → Q' v H') → r' x y H Q → r' x y H Q') {Q Q' : VK} (hq : ∀ v H', Q v H' → Q' v H')
    (h : tChain r r' (WE X a) (WE X b) (WE X c) σ H Q) : tChain r r' (WE X a) (WE X b) (WE X c) σ H Q' :=
  we_mono h fun x H1 h1 => we_mono h1 fun y H2 h2 => hr _ _ _ _ _ (fun z H3 ⟨k, e, q⟩ => ⟨k, e, by
    cases k with
    | true => exact we_mono q fun u H4 q4 => hr' _ _ _ _ _ hq q4
    | false => exact hq _ _ q⟩) h2
/-- of ints, as a test -/
theorem evt_chainI {op op' : CmpOp} {g g' : Int → Int → Bool} (ho : OpR X (compareOp op) (rI0 fun i j => .bl (g i j))) (ho' : OpR X (compareOp op') (rI0 fun i j => .bl (g' i j))) (ha : EV X a ta) (hb : EV X b tb) (hc : EV X c tc)
    (hm : lastMarks [op, op'] [b, c] = false := by with_unfolding_all rfl) : EVT X (.Compare a [op, op'] [b, c] pos) (dTst (dChain (intB (fun _ _ => True) fun i j => .bl (g i j)) (intB (fun _ _ => True) fun i j => .bl (g' i j)) ta tb tc)) := ⟨fun O R TX ρ M k h σ H w s =>
  wt_of (pt_chain ho ho' (we_pe X a) (we_pe X b) (we_pe X c) hm) (tch_mono (fun x y H Q Q' hq ⟨i, j, e1, e2, q⟩ => ⟨i, j, e1, e2, hq _ _ q⟩) (fun x y H Q Q' hq ⟨i, j, e1, e2, q⟩ => ⟨i, j, e1, e2, hq _ _ q⟩) (fun v H' q => tst_run q)
    (chain_run (op := op) (op' := op') (opd_int0 fun _ _ _ => .bl _) (opd_int0 fun _ _ _ => .bl _) ha hb hc TX h s))⟩
end

/-! ### arguments, displays -/
def isPure : D → Bool
  | .cell _ => false
  | .own _ => false
  | _ => true
def allPure (ds : List D) : Bool := ds.all isPure
section
variable {X : Cx} {O : Org} {σ : L2.St} {H : Hp} {ρ : Ro} {M : MS} {w w' : Wd} {pos : Pos} {e a b c : Expr} {es : List Expr} {ta tb tc : DE} {t : DA}
theorem RepsA.pure : ∀ {vs : List V} {ds : List D}, RepsA X.K X.mg w vs ds → allPure ds = true → Reps X.K X.mg w.F vs ds
  | _, _, .nil, _ => .nil
  | _, _, .cons r t, h => by
    rw [allPure, List.all_cons, Bool.and_eq_true] at h
    rcases r with r | ⟨_, _, rfl, _⟩
    · exact .cons r (RepsA.pure t h.2)
    · cases h.1
def dNil : DA := fun _ M k _ => k [] M
def dCons (ta : DE) (t : DA) : DA := fun ρ M k x => ta ρ M (fun d M1 => t ρ M1 (fun ds M2 => k (d :: ds) M2) x) x
theorem PoA.le {k : List D → MS → Prop} (h : w.le w') {v : List V} (q : PoA X O σ ρ w' k v H) : PoA X O σ ρ w k v H := by
  obtain ⟨w2, d, M', h1, h2⟩ := q
  exact ⟨w2, d, M', h.trans h1, h2⟩
theorem wa_mono {es : List Expr} {Q Q' : List V → Hp → Prop} (h : WA X es σ H Q) (q : ∀ v H', Q v H' → Q' v H') : WA X es σ H Q' := fun pos pins s I =>
  thn (h pos pins s I) fun u s' ⟨v, H', I', r, z⟩ => ⟨v, H', I', r, q v H' z⟩
theorem eva_nil : EVA X [] dNil := ⟨fun O R TX ρ M k h σ H w s => wa_of pa_nil ⟨w, [], M, .refl w, s, .nil, h⟩⟩
theorem eva_cons (ha : EV X e ta) (hr : EVA X es t) (hs : starEach (e :: es) X.env = (false, eval e X.env) :: starEach es X.env := by rfl) : EVA X (e :: es) (dCons ta t) := ⟨fun O R TX ρ M k h σ H w s =>
  wa_of (pa_cons (we_pe X e) (wa_pa X es) hs) (we_mono (ha.run O R TX ρ M _ h σ H w s) fun v H1 ⟨w1, d, M1, l1, s1, r1, q1⟩ =>
    wa_mono (hr.run O R TX ρ M1 _ q1 σ H1 w1 s1) fun vs H2 ⟨w2, ds, M2, l2, s2, r2, q2⟩ => ⟨w2, d :: ds, M2, l1.trans l2, s2, .cons (r1.mono l2) r2, q2⟩)⟩
def dTup (t : DA) : DE := fun ρ M k x => t ρ M (fun ds M1 => allPure ds = true ∧ ds.length ≤ sizeLine ∧ k (.tup ds) M1) x
def dLst (t : DA) : DE := fun ρ M k x => t ρ M (fun ds M1 => allPure ds = true ∧ ds.length ≤ sizeLine ∧ k (.lst ds) M1) x
/-- a new list that will change -/
def dLstC (t : DA) : DE := fun ρ M k x => t ρ M (fun ds M1 => allPure ds = true ∧ ds.length ≤ sizeLine ∧ k (.cell M1.length) (M1 ++ [.lst ds])) x
theorem ev_tup {x1} (h : EVA X es t) : EV X (.Tuple es x1 pos) (dTup t) := ⟨fun O R TX ρ M k q σ H w s =>
  we_of (pe_tup (wa_pa X es)) (wa_mono (h.run O R TX ρ M _ q σ H w s) fun vs H1 ⟨w1, ds, M1, l1, s1, r1, e1, e2, q1⟩ =>
    ⟨by rw [r1.length]; exact e2, fun p hp => PoE.le l1 (PoE.new s1 hp (by intro ps e; cases e) (.tup (.of upd_same) ((r1.pure e1).mono (Ex.upd (s1.cells.fh.fresh hp)))) q1)⟩)⟩
theorem ev_lst (h : EVA X es t) : EV X (.List es pos) (dLst t) := ⟨fun O R TX ρ M k q σ H w s =>
  we_of (pe_lst (wa_pa X es)) (wa_mono (h.run O R TX ρ M _ q σ H w s) fun vs H1 ⟨w1, ds, M1, l1, s1, r1, e1, e2, q1⟩ =>
    ⟨by rw [r1.length]; exact e2, fun p hp => PoE.le l1 (PoE.new s1 hp (by intro ps e; cases e) (.lst upd_same ((r1.pure e1).mono (Ex.upd (s1.cells.fh.fresh hp)))) q1)⟩)⟩
/-- a new thing that may change -/
def Wd.cell (w : Wd) (p : Addr) : Wd := ⟨w.F, w.al ++ [p]⟩
theorem Wd.le_cell {p : Addr} : w.le (w.cell p) := ⟨Ex.refl _, [p], rfl⟩
theorem Sat.cell {p : Addr} {o : HO} {mo : MO} {K : PySem.W.Frag} {mg : Str → Option Value} (s : Sat K mg O σ H ρ M w) (hp : H p = none) (r : MRep K mg w.F (upd H p o) p mo) : Sat K mg O σ (upd H p o) ρ (M ++ [mo]) (w.cell p) := by
  have hF : w.F p = none := s.cells.fh.fresh hp
  have hal := s.cells.fresh hp
  have ne : ∀ a u, H a = some u → a ≠ p := fun a u e => ne_of_none e hp
  refine ⟨s.step.trans ⟨Wd.le_cell, fun a u e _ n => ?_, fun a u e t => ⟨u, ?_, t⟩, fun a u e => .inl e⟩, tabs_upd s.tabs hp, ⟨fun a u e => ?_, ?_, ?_, fun i a mo' h1 h2 => ?_, s.cells.ft⟩, s.len, fun i d e => ?_⟩
  · refine ⟨by rw [upd_ne (ne a u e)]; exact e, fun m => ?_⟩
    rcases List.mem_append.mp m with m | m
    · exact n m
    · exact ne a u e (List.mem_singleton.mp m)
  · rw [upd_ne (ne a u e)]; exact e
  · have e : w.F a = some u := e
    rw [upd_ne (fun z => by rw [z, hF] at e; cases e)]; exact s.cells.fh a u e
  · refine List.nodup_append.mpr ⟨s.cells.nd, List.nodup_cons.mpr ⟨List.not_mem_nil, List.nodup_nil⟩, fun a ha b hb => ?_⟩
    rw [List.mem_singleton.mp hb]
    exact fun z => hal (z ▸ ha)
  · show (w.al ++ [p]).length = (M ++ [mo]).length
    rw [List.length_append, List.length_append, s.cells.len]
    rfl
  · have h1' : (w.al ++ [p])[i]? = some a := h1
    by_cases hi : i < w.al.length
    · rw [List.getElem?_append_left hi] at h1'
      rw [List.getElem?_append_left (by rw [← s.cells.len]; exact hi)] at h2
      have hne : a ≠ p := fun z => hal (z ▸ List.mem_of_getElem? h1')
      exact (s.cells.at_ i a mo' h1' h2).stay (Ex.refl _) (fun n => n) fun u e => by rw [upd_ne hne]; exact e
    · have hl := (List.getElem?_eq_some_iff.mp h1').1
      rw [List.length_append, List.length_singleton] at hl
      have ei : i = w.al.length := by omega
      subst ei
      rw [List.getElem?_append_right (Nat.le_refl _)] at h1'
      rw [List.getElem?_append_right (by rw [s.cells.len]; exact Nat.le_refl _)] at h2
      simp at h1'
      rw [s.cells.len] at h2
      simp at h2
      subst h1' h2
      exact r
  · obtain ⟨v, h1, h2⟩ := s.slots i d e
    exact ⟨v, h1, h2.mono Wd.le_cell⟩
theorem RepA.cell {p : Addr} {K : PySem.W.Frag} {mg : Str → Option Value} (s : Sat K mg O σ H ρ M w) : RepA K mg (w.cell p) (.ref p) (.cell M.length) := by
  refine .inr ⟨_, p, rfl, rfl, ?_⟩
  show (w.al ++ [p])[M.length]? = some p
  rw [← s.cells.len, List.getElem?_append_right (Nat.le_refl _)]
  simp
theorem ev_lstC (h : EVA X es t) : EV X (.List es pos) (dLstC t) := ⟨fun O R TX ρ M k q σ H w s =>
  we_of (pe_lst (wa_pa X es)) (wa_mono (h.run O R TX ρ M _ q σ H w s) fun vs H1 ⟨w1, ds, M1, l1, s1, r1, e1, e2, q1⟩ =>
    ⟨by rw [r1.length]; exact e2, fun p hp => ⟨w1.cell p, _, _, l1.trans Wd.le_cell, s1.cell (mo := .lst ds) hp ⟨s1.cells.fh.fresh hp, vs, upd_same, r1.pure e1⟩, RepA.cell s1, q1⟩⟩)⟩
end
end Dl
set_option Elab.async false
set_option linter.all false
set_option maxRecDepth 100000
set_option maxHeartbeats 1000000
set_option autoImplicit false
/-! Dl4: subscripts, slices, fields, built-in functions and methods. -/
namespace Dl
open PySem PySem.Spec PyProof.Rows L2
variable [Tb]

/-! ### a[i] -/
section
variable {K : PySem.W.Frag} {mg : Str → Option Value}
theorem Reps.atI {F : Hp} {vs : List V} {ds : List D} (r : Reps K mg F vs ds) {i : Int} {d : D} (h : atI ds i = some d) : ∃ v, atI vs i = some v ∧ Rep K mg F v d := by
  unfold L2.atI at h ⊢
  rw [r.length]
  cases e : ixN ds.length i with
  | none =>
    rw [e] at h
    cases h
  | some j =>
    rw [e] at h
    exact r.get (i := j) h
def idxB : B2
  | .lst xs, .int i, k => ∃ d, atI xs i = some d ∧ k d
  | .tup xs, .int i, k => ∃ d, atI xs i = some d ∧ k d
  | .scr ns, .int i, k => ∃ d, atI ns i = some d ∧ k (.int d)
  | .str z, .int i, k => ∃ c, z.length ≤ sizeLine ∧ atI z.cps.toList i = some c ∧ k (.str ⟨#[c]⟩)
  | _, _, _ => False
theorem atI_map {α β : Type} (f : α → β) {xs : List α} {i : Int} {d : α} (h : atI xs i = some d) : atI (xs.map f) i = some (f d) := by
  unfold L2.atI at h ⊢
  rw [List.length_map]
  cases e : ixN xs.length i with
  | none =>
    rw [e] at h
    cases h
  | some j =>
    rw [e] at h
    show (xs.map f)[j]? = some (f d)
    rw [List.getElem?_map, show xs[j]? = some d from h]
    rfl
theorem opd_idx : OpD K mg (rIx K) idxB := by
  intro w H x y d1 d2 k Q c r1 r2 h f
  cases d1 with
  | lst xs =>
    cases d2 with
    | int i =>
      obtain ⟨d, e, q⟩ := h
      obtain ⟨p, vs, rfl, h1, r⟩ := r1.lstE c
      obtain ⟨v, e2, rv⟩ := r.atI e
      exact .inl ⟨p, vs, i, v, rfl, r2.int, .of h1, e2, f.1 _ _ (.inl rv) q⟩
    | _ => exact h.elim
  | tup xs =>
    cases d2 with
    | int i =>
      obtain ⟨d, e, q⟩ := h
      obtain ⟨p, vs, rfl, h1, r⟩ := r1.tup c
      obtain ⟨v, e2, rv⟩ := r.atI e
      exact .inr (.inl ⟨p, vs, i, v, rfl, r2.int, h1, e2, f.1 _ _ (.inl rv) q⟩)
    | _ => exact h.elim
  | scr ns =>
    cases d2 with
    | int i =>
      obtain ⟨d, e, q⟩ := h
      obtain ⟨p, rfl, h1⟩ := r1.scr c
      exact .inl ⟨p, _, i, _, rfl, r2.int, h1, atI_map V.int e, f.1 _ _ (.inl (.int _)) q⟩
    | _ => exact h.elim
  | str z =>
    cases d2 with
    | int i =>
      obtain ⟨d, hz, e, q⟩ := h
      exact .inr (.inr ⟨z, i, d, r1.str, r2.int, hz, e, f.1 _ _ (.inl (.str _)) q⟩)
    | _ => exact h.elim
  | _ => exact h.elim
end
section
variable {X : Cx} {O : Org} {σ : L2.St} {H : Hp} {ρ : Ro} {M : MS} {w w' : Wd} {pos p2 : Pos} {e a b : Expr} {es : List Expr} {lo hi : Option Expr} {ta tb : DE} {t : DA}
theorem ev_idx (ha : EV X a ta) (hb : EV X b tb) (hs : PlainIx b := by intro _ _; rfl) : EV X (.Subscript a b pos) (dBin idxB ta tb) :=
  ⟨fun O R TX ρ M k h σ H w s => we_of (pe_ix ix_seq (we_pe X a) (we_pe X b) hs) (bin_run opd_idx ha hb TX h s)⟩

/-! ### a[lo:hi] -/
abbrev DO := Ro → MS → (Option Int → MS → Prop) → XD → Prop
def PoO (X : Cx) (O : Org) (σ : L2.St) (ρ : Ro) (w : Wd) (k : Option Int → MS → Prop) : Option Int → Hp → Prop := fun o H' => ∃ (w' : Wd) (M' : MS), w.le w' ∧ Sat X.K X.mg O σ H' ρ M' w' ∧ k o M'
/-- a part of a slice -/
structure EVO (X : Cx) (e : Option Expr) (τ : DO) : Prop where
  run : ∀ (O : Org) (R : Exn → Ro → MS → Prop), TakesD X O R → ∀ (ρ : Ro) (M : MS) (k : Option Int → MS → Prop), τ ρ M k (fun x M' => R x ρ M') → ∀ (σ : L2.St) (H : Hp) (w : Wd), Sat X.K X.mg O σ H ρ M w →
    ∃ t : TO, PO X e t ∧ t σ H (PoO X O σ ρ w k)
def dNo : DO := fun _ M k _ => k none M
def dPart (ta : DE) : DO := fun ρ M k x => ta ρ M (fun d M1 => ∃ i, d = .int i ∧ k (some i) M1) x
theorem evo_no : EVO X none dNo := ⟨fun O R TX ρ M k h σ H w s => ⟨tNoPart, po_none, w, M, .refl w, s, h⟩⟩
theorem evo_part (ha : EV X a ta) : EVO X (some a) (dPart ta) := ⟨fun O R TX ρ M k h σ H w s => ⟨tPart (WE X a), po_some (we_pe X a), we_mono (ha.run O R TX ρ M _ h σ H w s) fun v H1 ⟨w1, d, M1, l1, s1, r1, i, e, q⟩ => by
  subst e
  rcases r1 with r1 | ⟨_, _, z, _⟩
  · cases r1
    exact ⟨i, rfl, w1, M1, l1, s1, q⟩
  · cases z⟩⟩
def cutD {α : Type} (xs : List α) (lo hi : Option Int) : List α := (xs.drop (HT.sIx xs.length 0 lo)).take (HT.sIx xs.length xs.length hi - HT.sIx xs.length 0 lo)
theorem Reps.cut {K : PySem.W.Frag} {mg : Str → Option Value} {F : Hp} {vs : List V} {ds : List D} (r : Reps K mg F vs ds) (lo hi : Option Int) : Reps K mg F (cutV vs lo hi) (cutD ds lo hi) := by
  unfold cutV cutD
  rw [r.length]
  exact (r.drop _).take _
theorem cutV_map {α : Type} (f : α → V) (xs : List α) (lo hi : Option Int) : cutV (xs.map f) lo hi = (cutD xs lo hi).map f := by
  unfold cutV cutD
  rw [List.length_map, List.map_take, List.map_drop]
def slB : D → Option Int → Option Int → (D → Prop) → Prop
  | .lst xs, lo, hi, k => k (.lst (cutD xs lo hi))
  | .tup xs, lo, hi, k => k (.tup (cutD xs lo hi))
  | .scr ns, lo, hi, k => k (.lst ((cutD ns lo hi).map D.int))
  | .str z, lo, hi, k => z.length ≤ sizeLine ∧ k (.str (cutS z lo hi))
  | _, _, _, _ => False
def rSlX (K : PySem.W.Frag) : V → Option Int → Option Int → Hp → VK → Prop := fun x lo hi H Q => rSlL K x lo hi H Q ∨ rSlA K x lo hi H Q ∨ rSlS x lo hi H Q
theorem slr_x : SlR X (rSlX X.K) := sl_list.or (sl_tupA.or sl_str)
theorem cutD_whole {α : Type} {xs : List α} {lo hi : Option Int} (h1 : HT.sIx xs.length 0 lo = 0) (h2 : HT.sIx xs.length xs.length hi = xs.length) : cutD xs lo hi = xs := by
  unfold cutD
  rw [h1, h2]
  simp
def dSl (ta : DE) (tl th : DO) : DE := fun ρ M k x => ta ρ M (fun d M1 => tl ρ M1 (fun lo M2 => th ρ M2 (fun hi M3 => slB (view M3 d) lo hi fun d' => k d' M3) x) x) x
theorem sl_run {H : Hp} {k : D → Prop} {Q : VK} {v : V} {d : D} {lo hi : Option Int} (c : Ex w.F H) (r : RdH X.K X.mg w H v d) (h : slB d lo hi k) (f : Fin X.K X.mg w H k Q) : rSlX X.K v lo hi H Q := by
  cases d with
  | lst xs =>
    obtain ⟨p, vs, rfl, h1, q⟩ := r.lstE c
    exact .inl ⟨p, vs, rfl, .of h1, fun n hn => f.2 n _ _ hn (by intro ps e; cases e) (.lst upd_same ((q.cut lo hi).mono (Ex.upd (c.fresh hn)))) h⟩
  | tup xs =>
    obtain ⟨p, vs, rfl, h1, q⟩ := r.tup c
    have h : k (.tup (cutD xs lo hi)) := h
    refine .inr (.inl ⟨p, vs, rfl, h1, fun ⟨e1, e2⟩ => ?_, fun _ n hn => f.2 n _ _ hn (by intro ps e; cases e) (.tup (.of upd_same) ((q.cut lo hi).mono (Ex.upd (c.fresh hn)))) h⟩)
    rw [q.length] at e1 e2
    rw [cutD_whole e1 e2] at h
    exact f.1 _ _ (.inl r.tupP) h
  | scr ns =>
    obtain ⟨p, rfl, h1⟩ := r.scr c
    refine .inl ⟨p, _, rfl, h1, fun n hn => f.2 n _ _ hn (by intro ps e; cases e) (.lst upd_same ?_) h⟩
    rw [cutV_map]
    exact Reps.of_ints _
  | str z => exact .inr (.inr ⟨z, r.str, h.1, f.1 _ _ (.inl (.str _)) h.2⟩)
  | _ => exact h.elim
theorem ev_sl {tl th : DO} (ha : EV X a ta) (hl : EVO X lo tl) (hh : EVO X hi th) : EV X (.Subscript a (.Slice lo hi none p2) pos) (dSl ta tl th) := by
  refine ⟨fun O R TX ρ M k h σ H w s => ?_⟩
  intro pins sh I
  -- the parts' readings hang on the state: chosen by the weakest ones
  have wo : ∀ (e : Option Expr), ∃ t : TO, PO X e t ∧ ∀ (t' : TO), PO X e t' → ∀ σ H Q, t' σ H Q → t σ H Q := fun e =>
    ⟨fun σ H Q => ∀ pins s, Inv X pins σ H s → wpAny (model X.prog X.w) X.A (evalPart e X.env) (fun u s' => ∃ o H', Inv X pins σ H' s' ∧ IsPart u o ∧ Q o H') X.xe s,
      ⟨fun pins s _ _ _ I h => h pins s I⟩, fun t' h σ H Q q pins s I => h.run pins s σ H Q I q⟩
  obtain ⟨tlo, plo, mlo⟩ := wo lo
  obtain ⟨thi, phi, mhi⟩ := wo hi
  have mono_hi : ∀ σ H (Q Q' : Option Int → Hp → Prop), (∀ o H', Q o H' → Q' o H') → ∀ t' : TO, PO X hi t' → t' σ H Q → thi σ H Q' := fun σ H Q Q' hq t' h q => mhi (fun σ H Q' => ∃ Q, (∀ o H', Q o H' → Q' o H') ∧ t' σ H Q)
    ⟨fun pins s σ H Q' I ⟨Q, hq, z⟩ => thn (h.run pins s σ H Q I z) fun u s' ⟨o, H', I', p, z⟩ => ⟨o, H', I', p, hq _ _ z⟩⟩ σ H Q' ⟨Q, hq, q⟩
  have mono_lo : ∀ σ H (Q Q' : Option Int → Hp → Prop), (∀ o H', Q o H' → Q' o H') → ∀ t' : TO, PO X lo t' → t' σ H Q → tlo σ H Q' := fun σ H Q Q' hq t' h q => mlo (fun σ H Q' => ∃ Q, (∀ o H', Q o H' → Q' o H') ∧ t' σ H Q)
    ⟨fun pins s σ H Q' I ⟨Q, hq, z⟩ => thn (h.run pins s σ H Q I z) fun u s' ⟨o, H', I', p, z⟩ => ⟨o, H', I', p, hq _ _ z⟩⟩ σ H Q' ⟨Q, hq, q⟩
  refine (pe_slice slr_x (we_pe X a) plo phi (pos := pos) (p2 := p2)).run pins sh σ H _ I (we_mono (ha.run O R TX ρ M _ h σ H w s) fun v H1 ⟨w1, d, M1, l1, s1, r1, q1⟩ => ?_)
  obtain ⟨t1, pt1, z1⟩ := hl.run O R TX ρ M1 _ q1 σ H1 w1 s1
  refine mono_lo σ H1 _ _ (fun o1 H2 ⟨w2, M2, l2, s2, q2⟩ => ?_) t1 pt1 z1
  obtain ⟨t2, pt2, z2⟩ := hh.run O R TX ρ M2 _ q2 σ H2 w2 s2
  refine mono_hi σ H2 _ _ (fun o2 H3 ⟨w3, M3, l3, s3, q3⟩ => ?_) t2 pt2 z2
  exact sl_run s3.cells.fh (rdh_view s3.cells (r1.mono (l2.trans l3))) q3 (fin_of s3 ((l1.trans l2).trans l3))
/-- a[::-1], a list -/
def revB : B1
  | .lst xs, k => k (.lst xs.reverse)
  | _, _ => False
theorem ev_rev {k0 p1 p3 p4} (ha : EV X a ta) : EV X (.Subscript a (.Slice none none (some (.UnaryOp .USub (.Constant (.int 1) k0 p1) p3)) p4) pos) (dUn revB ta) := ⟨fun O R TX ρ M k h σ H w s =>
  we_of (pe_revL (we_pe X a)) (we_mono (ha.run O R TX ρ M _ h σ H w s) fun v H1 ⟨w1, d, M1, l1, s1, r1, q⟩ => by
    have r2 := rdh_view s1.cells r1
    have q : revB (view M1 d) fun d' => k d' M1 := q
    generalize view M1 d = d2 at q r2
    cases d2 with
    | lst xs =>
      obtain ⟨p, vs, rfl, h1, r⟩ := r2.lstE s1.cells.fh
      exact ⟨p, vs, rfl, .of h1, fun n hn => PoE.le l1 (PoE.new s1 hn (by intro ps e; cases e) (.lst upd_same (r.rev.mono (Ex.upd (s1.cells.fh.fresh hn)))) q)⟩
    | _ => exact False.elim q)⟩

/-! ### fields -/
def lookD (f : Str) : List Str → List D → Option D
  | k :: ks, d :: ds => if f = k then some d else lookD f ks ds
  | _, _ => none
theorem lookD_ok {K : PySem.W.Frag} {mg : Str → Option Value} {F : Hp} {f : Str} : ∀ {fs : List (Str × V)} {ds : List D} {d : D}, Reps K mg F (fs.map (·.2)) ds → lookD f (fs.map (·.1)) ds = some d → ∃ v, fs.lookup f = some v ∧ Rep K mg F v d ∧ f ∈ fs.map (·.1)
  | [], _, _, r, h => by cases r; cases h
  | (k, v) :: fs, _, d, r, h => by
    cases r with
    | cons r1 r2 =>
      rename_i d1 ds1
      have h : (if f = k then some d1 else lookD f (fs.map (·.1)) ds1) = some d := h
      by_cases e : f = k
      · rw [if_pos e] at h
        cases h
        subst e
        exact ⟨v, by simp [List.lookup], r1, List.mem_cons_self⟩
      · rw [if_neg e] at h
        obtain ⟨u, h1, h2, h3⟩ := lookD_ok r2 h
        have hb : (f == k) = false := beq_eq_false_iff_ne.mpr e
        exact ⟨u, by simp only [List.lookup, hb]; exact h1, h2, List.mem_cons_of_mem _ h3⟩
def fldB (f : Str) : B1
  | .ins _ ks ds, k => ∃ d, lookD f ks ds = some d ∧ k d
  | _, _ => False
theorem ev_fld {f : Str} (ha : EV X a ta) (hb : attributeBase a f X.env (eval a X.env) = eval a X.env := by rfl) : EV X (.Attribute a f pos) (dUn (fldB f) ta) := ⟨fun O R TX ρ M k h σ H w s =>
  we_of (pe_fld (we_pe X a) hb) (we_mono (ha.run O R TX ρ M _ h σ H w s) fun v H1 ⟨w1, d, M1, l1, s1, r1, q⟩ => by
    have r2 := rdh_view s1.cells r1
    have q : fldB f (view M1 d) fun d' => k d' M1 := q
    generalize view M1 d = d2 at q r2
    cases d2 with
    | ins C ks ds =>
      obtain ⟨d', e, q⟩ := q
      obtain ⟨p, dx, fs, rfl, h1, io, rfl, r⟩ := r2.insE s1.cells.fh
      obtain ⟨v', h2, rv, hm⟩ := lookD_ok r e
      exact ⟨p, _, dx, fs, v', rfl, h1, io.1, io.2 f hm, h2, PoE.le l1 (PoE.here s1 (.inl rv) q)⟩
    | _ => exact False.elim q)⟩

/-! ### built-in functions -/
abbrev BC := List D → (D → Prop) → Prop
inductive RdHs (K : PySem.W.Frag) (mg : Str → Option Value) (w : Wd) (H : Hp) : List V → List D → Prop
  | nil : RdHs K mg w H [] []
  | cons {v : V} {vs : List V} {d : D} {ds : List D} : RdH K mg w H v d → RdHs K mg w H vs ds → RdHs K mg w H (v :: vs) (d :: ds)
theorem rdhs_view {K : PySem.W.Frag} {mg : Str → Option Value} (c : Cells K mg w H M) : ∀ {vs : List V} {ds : List D}, RepsA K mg w vs ds → RdHs K mg w H vs (ds.map (view M))
  | _, _, .nil => .nil
  | _, _, .cons r t => .cons (rdh_view c r) (rdhs_view c t)
def CallD (K : PySem.W.Frag) (mg : Str → Option Value) (r : List V → Hp → VK → Prop) (B : BC) : Prop := ∀ (w : Wd) (H : Hp) (vs : List V) (ds : List D) (k : D → Prop) (Q : VK), Ex w.F H → RdHs K mg w H vs ds → B ds k → Fin K mg w H k Q → r vs H Q
def dCB (B : BC) (t : DA) : DE := fun ρ M k x => t ρ M (fun ds M1 => B (ds.map (view M1)) fun d => k d M1) x
theorem cb_run {r : List V → Hp → VK → Prop} {B : BC} {k : KD} (hB : CallD X.K X.mg r B) (ha : EVA X es t) {R : Exn → Ro → MS → Prop} (TX : TakesD X O R) (h : dCB B t ρ M k fun x M' => R x ρ M') (s : Sat X.K X.mg O σ H ρ M w) :
    tCB r (WA X es) σ H (PoE X O σ ρ w k) :=
  wa_mono (ha.run O R TX ρ M _ h σ H w s) fun vs H1 ⟨w1, ds, M1, l1, s1, r1, q1⟩ => hB w1 H1 vs _ _ _ s1.cells.fh (rdhs_view s1.cells r1) q1 (fin_of s1 l1)
theorem ev_cb {x : Str} {p : Pos} {id : String} {r : List V → Hp → VK → Prop} {B : BC} (hc : CallR X (.builtin id) r) (hB : CallD X.K X.mg r B) (hg : Gl X x) (hm : X.mg x = none) (hv : bootBuiltins x = some (.builtin id)) (ha : EVA X (e :: es) t) (hn : x ≠ "__name__" := by decide)
    (hdb : (x == ("__debug__" : Str)) = false := by decide) (he : starEach (e :: es) X.env = (false, eval e X.env) :: starEach es X.env := by rfl) (hpl : (backTo pos (starEach es X.env)).any (·.1) = false := by rfl) : EV X (.Call (.Name x p) (e :: es) [] pos) (dCB B t) :=
  ⟨fun O R TX ρ M k h σ H w s => we_of (pe_callB hc hg hm hv (wa_pa X _) hn hdb he hpl) (cb_run hB ha TX h s)⟩
theorem ev_cty {x : Str} {p : Pos} {id : String} {r : List V → Hp → VK → Prop} {B : BC} (hc : CallR X (.type id) r) (hB : CallD X.K X.mg r B) (hg : Gl X x) (hm : X.mg x = none) (hv : bootBuiltins x = some (.type id)) (ha : EVA X (e :: es) t) (hn : x ≠ "__name__" := by decide)
    (hdb : (x == ("__debug__" : Str)) = false := by decide) (he : starEach (e :: es) X.env = (false, eval e X.env) :: starEach es X.env := by rfl) (hpl : (backTo pos (starEach es X.env)).any (·.1) = false := by rfl) : EV X (.Call (.Name x p) (e :: es) [] pos) (dCB B t) :=
  ⟨fun O R TX ρ M k h σ H w s => we_of (pe_callTy hc hg hm hv (wa_pa X _) hn hdb he hpl) (cb_run hB ha TX h s)⟩
end
section
variable {K : PySem.W.Frag} {mg : Str → Option Value} {X : Cx}
def lenB : BC
  | [.lst xs], k => k (.int xs.length)
  | [.tup xs], k => k (.int xs.length)
  | [.scr xs], k => k (.int xs.length)
  | [.str z], k => z.length ≤ sizeLine ∧ k (.int z.length)
  | _, _ => False
abbrev rLenX (K : PySem.W.Frag) : List V → Hp → VK → Prop := fun xs H Q => ∃ x n, xs = [x] ∧ LenV K x H n ∧ Q (.int n) H
theorem cd_len : CallD K mg (rLenX K) lenB := by
  intro w H vs ds k Q c r h f
  cases r with
  | nil => exact h.elim
  | cons r t =>
    cases t with
    | cons _ _ => unfold lenB at h; split at h <;> first | exact h.elim | (rename_i e; cases e)
    | nil =>
      rename_i v d
      cases d with
      | lst xs =>
        obtain ⟨p, vs, rfl, h1, q⟩ := r.lstE c
        exact ⟨_, vs.length, rfl, .inl ⟨vs, .of h1, rfl⟩, by rw [q.length]; exact f.1 _ _ (.inl (.int _)) h⟩
      | tup xs =>
        obtain ⟨p, vs, rfl, h1, q⟩ := r.tup c
        exact ⟨_, vs.length, rfl, .inr ⟨vs, h1, rfl⟩, by rw [q.length]; exact f.1 _ _ (.inl (.int _)) h⟩
      | scr ns =>
        obtain ⟨p, rfl, h1⟩ := r.scr c
        exact ⟨_, ns.length, rfl, .inl ⟨_, h1, by simp⟩, f.1 _ _ (.inl (.int _)) h⟩
      | str z =>
        have e := r.str
        subst e
        exact ⟨_, z.length, rfl, ⟨h.1, rfl⟩, f.1 _ _ (.inl (.int _)) h.2⟩
      | _ => exact h.elim
/-- int(x), x an int or a bool -/
def intB1 : BC
  | [.int i], k => k (.int i)
  | [.bl b], k => k (.int (if b then 1 else 0))
  | _, _ => False
theorem cd_int1 : CallD K mg (fun xs H Q => (∃ i, xs = [.int i] ∧ Q (.int i) H) ∨ ∃ k, xs = [.bl k] ∧ Q (.int (if k then 1 else 0)) H) intB1 := by
  intro w H vs ds k Q c r h f
  cases r with
  | nil => exact h.elim
  | cons r t =>
    cases t with
    | cons _ _ => unfold intB1 at h; split at h <;> first | exact h.elim | (rename_i e; cases e)
    | nil =>
      rename_i v d
      cases d with
      | int i =>
        have e := r.int
        subst e
        exact .inl ⟨i, rfl, f.1 _ _ (.inl (.int _)) h⟩
      | bl i =>
        have e := r.bl
        subst e
        exact .inr ⟨i, rfl, f.1 _ _ (.inl (.int _)) h⟩
      | _ => exact h.elim
def absB : BC
  | [.int i], k => k (.int (if i < 0 then -i else i))
  | _, _ => False
theorem cd_abs : CallD K mg (fun xs H Q => ∃ i, xs = [.int i] ∧ Q (.int (if i < 0 then -i else i)) H) absB := by
  intro w H vs ds k Q c r h f
  cases r with
  | nil => exact h.elim
  | cons r t =>
    cases t with
    | cons _ _ => unfold absB at h; split at h <;> first | exact h.elim | (rename_i e; cases e)
    | nil =>
      rename_i v d
      cases d with
      | int i =>
        have e := r.int
        subst e
        exact ⟨i, rfl, f.1 _ _ (.inl (.int _)) h⟩
      | _ => exact h.elim
def two (g : Int → Int → Int) : BC
  | [.int i, .int j], k => k (.int (g i j))
  | _, _ => False
theorem cd_two {g : Int → Int → Int} : CallD K mg (fun xs H Q => ∃ i j, xs = [.int i, .int j] ∧ Q (.int (g i j)) H) (two g) := by
  intro w H vs ds k Q c r h f
  cases r with
  | nil => exact h.elim
  | cons r t =>
    cases t with
    | nil => unfold two at h; split at h <;> first | exact h.elim | (rename_i e; cases e)
    | cons r2 t =>
      cases t with
      | cons _ _ => unfold two at h; split at h <;> first | exact h.elim | (rename_i e; cases e)
      | nil =>
        rename_i v d v2 d2
        cases d with
        | int i =>
          cases d2 with
          | int j =>
            have e := r.int
            have e2 := r2.int
            subst e e2
            exact ⟨i, j, rfl, f.1 _ _ (.inl (.int _)) h⟩
          | _ => exact h.elim
        | _ => cases d2 <;> exact h.elim
/-- a list (of ints) read -/
theorem RdHs.one {w : Wd} {H : Hp} {vs : List V} {d : D} (r : RdHs K mg w H vs [d]) : ∃ v, vs = [v] ∧ RdH K mg w H v d := by
  cases r with
  | cons r t =>
    cases t
    exact ⟨_, rfl, r⟩
theorem RdHs.two {w : Wd} {H : Hp} {vs : List V} {d e : D} (r : RdHs K mg w H vs [d, e]) : ∃ v u, vs = [v, u] ∧ RdH K mg w H v d ∧ RdH K mg w H u e := by
  cases r with
  | cons r t =>
    cases t with
    | cons r2 t =>
      cases t
      exact ⟨_, _, rfl, r, r2⟩
def sumB : BC := fun ds k => ∃ ns : List Int, ds = [.lst (ns.map .int)] ∧ k (.int ns.sum)
theorem cd_sum : CallD K mg (rSum K) sumB := by
  intro w H vs ds k Q c r h f
  obtain ⟨ns, rfl, q⟩ := h
  obtain ⟨v, rfl, r1⟩ := r.one
  obtain ⟨p, us, rfl, h1, z⟩ := r1.lstE c
  rw [z.ints] at h1
  exact ⟨p, ns, rfl, .of h1, f.1 _ _ (.inl (.int _)) q⟩
def maxB : BC := fun ds k => ∃ ns : List Int, ds = [.lst (ns.map .int)] ∧ 0 < ns.length ∧ ∀ m, m ∈ ns → (∀ y, y ∈ ns → y ≤ m) → k (.int m)
theorem cd_max : CallD K mg (rMax K) maxB := by
  intro w H vs ds k Q c r h f
  obtain ⟨ns, rfl, hl, q⟩ := h
  obtain ⟨v, rfl, r1⟩ := r.one
  obtain ⟨p, us, rfl, h1, z⟩ := r1.lstE c
  rw [z.ints] at h1
  exact ⟨p, ns, rfl, .of h1, hl, fun m h2 h3 => f.1 _ _ (.inl (.int _)) (q m h2 h3)⟩
def minB : BC := fun ds k => ∃ ns : List Int, ds = [.lst (ns.map .int)] ∧ 0 < ns.length ∧ ∀ m, m ∈ ns → (∀ y, y ∈ ns → m ≤ y) → k (.int m)
theorem cd_min : CallD K mg (rMin K) minB := by
  intro w H vs ds k Q c r h f
  obtain ⟨ns, rfl, hl, q⟩ := h
  obtain ⟨v, rfl, r1⟩ := r.one
  obtain ⟨p, us, rfl, h1, z⟩ := r1.lstE c
  rw [z.ints] at h1
  exact ⟨p, ns, rfl, .of h1, hl, fun m h2 h3 => f.1 _ _ (.inl (.int _)) (q m h2 h3)⟩
def allB : BC := fun ds k => ∃ bs : List Bool, ds = [.lst (bs.map .bl)] ∧ k (.bl (bs.all id))
theorem cd_all : CallD K mg (rAll K) allB := by
  intro w H vs ds k Q c r h f
  obtain ⟨ns, rfl, q⟩ := h
  obtain ⟨v, rfl, r1⟩ := r.one
  obtain ⟨p, us, rfl, h1, z⟩ := r1.lstE c
  rw [z.bls] at h1
  exact ⟨p, ns, rfl, .of h1, f.1 _ _ (.inl (.bl _)) q⟩
def anyB : BC := fun ds k => ∃ bs : List Bool, ds = [.lst (bs.map .bl)] ∧ k (.bl (bs.any id))
theorem cd_any : CallD K mg (rAny K) anyB := by
  intro w H vs ds k Q c r h f
  obtain ⟨ns, rfl, q⟩ := h
  obtain ⟨v, rfl, r1⟩ := r.one
  obtain ⟨p, us, rfl, h1, z⟩ := r1.lstE c
  rw [z.bls] at h1
  exact ⟨p, ns, rfl, .of h1, f.1 _ _ (.inl (.bl _)) q⟩
/-- list(x), tuple(x) -/
def listB : BC
  | [.lst xs], k => k (.lst xs)
  | [.tup xs], k => k (.lst xs)
  | [.scr xs], k => k (.lst (xs.map .int))
  | _, _ => False
abbrev rListX (K : PySem.W.Frag) : List V → Hp → VK → Prop := fun xs H Q => ∃ p ys, xs = [.ref p] ∧ (SqL K H p ys ∨ SqT K H p ys) ∧ ∀ l, H l = none → Q (.ref l) (upd H l (.lst ys))
theorem cd_list : CallD K mg (rListX K) listB := by
  intro w H vs ds k Q c r h f
  cases r with
  | nil => exact h.elim
  | cons r t =>
    cases t with
    | cons _ _ => unfold listB at h; split at h <;> first | exact h.elim | (rename_i e; cases e)
    | nil =>
      rename_i v d
      cases d with
      | lst xs =>
        obtain ⟨p, vs, rfl, h1, q⟩ := r.lstE c
        exact ⟨p, vs, rfl, .inl (.of h1), fun n hn => f.2 n _ _ hn (by intro ps e; cases e) (.lst upd_same (q.mono (Ex.upd (c.fresh hn)))) h⟩
      | tup xs =>
        obtain ⟨p, vs, rfl, h1, q⟩ := r.tup c
        exact ⟨p, vs, rfl, .inr h1, fun n hn => f.2 n _ _ hn (by intro ps e; cases e) (.lst upd_same (q.mono (Ex.upd (c.fresh hn)))) h⟩
      | scr ns =>
        obtain ⟨p, rfl, h1⟩ := r.scr c
        exact ⟨p, _, rfl, .inl h1, fun n hn => f.2 n _ _ hn (by intro ps e; cases e) (.lst upd_same (Reps.of_ints _)) h⟩
      | _ => exact h.elim
def tupB : BC
  | [.lst xs], k => k (.tup xs)
  | [.tup xs], k => k (.tup xs)
  | _, _ => False
abbrev rTupX (K : PySem.W.Frag) : List V → Hp → VK → Prop := fun xs H Q => ∃ p ys, xs = [.ref p] ∧ ((SqL K H p ys ∧ ∀ l, H l = none → Q (.ref l) (upd H l (.tup ys))) ∨ (SqT K H p ys ∧ Q (.ref p) H))
theorem cd_tup : CallD K mg (rTupX K) tupB := by
  intro w H vs ds k Q c r h f
  cases r with
  | nil => exact h.elim
  | cons r t =>
    cases t with
    | cons _ _ => unfold tupB at h; split at h <;> first | exact h.elim | (rename_i e; cases e)
    | nil =>
      rename_i v d
      cases d with
      | lst xs =>
        obtain ⟨p, vs, rfl, h1, q⟩ := r.lstE c
        exact ⟨p, vs, rfl, .inl ⟨.of h1, fun n hn => f.2 n _ _ hn (by intro ps e; cases e) (.tup (.of upd_same) (q.mono (Ex.upd (c.fresh hn)))) h⟩⟩
      | tup xs =>
        have rp := r.tupP
        obtain ⟨p, vs, rfl, h1, q⟩ := r.tup c
        exact ⟨p, vs, rfl, .inr ⟨h1, f.1 _ _ (.inl rp) h⟩⟩
      | _ => exact h.elim
end
end Dl
set_option Elab.async false
set_option linter.all false
set_option maxRecDepth 100000
set_option maxHeartbeats 1000000
set_option autoImplicit false
/-! Dl5: what a def promises of data; calls of defs, methods, classes. -/
namespace Dl
open PySem PySem.Spec PyProof.Rows L2
variable [Tb]

/-! ### promises -/
abbrev SpD := List D → MS → KD → XD → Prop
/-- a def's answer: known for good, or a new list of its own -/
def RetA (K : PySem.W.Frag) (mg : Str → Option Value) (w : Wd) (H : Hp) (w' : Wd) (H' : Hp) (v : V) (d : D) : Prop :=
  Rep K mg w'.F v d ∨ ∃ xs a vs, d = .own xs ∧ v = .ref a ∧ Nw H a ∧ w'.F a = none ∧ a ∉ w'.al ∧ H' a = some (.lst vs) ∧ Reps K mg w'.F vs xs
/-- the promise of the layer below -/
def lift (K : PySem.W.Frag) (mg : Str → Option Value) (sp : SpD) : Sp := fun vs H Q E => ∃ (w : Wd) (ds : List D) (M : MS) (k : KD) (x : XD), RepsA K mg w vs ds ∧ Cells K mg w H M ∧ LamX.Tabs Tb.T H ∧ sp ds M k x ∧
  (∀ v H' w' d M', Step w H w' H' → w'.al = w.al → Cells K mg w' H' M' → LamX.Tabs Tb.T H' → RetA K mg w H w' H' v d → k d M' → Q v H') ∧
  ∀ C a fs H' w' ds' M', Step w H w' H' → w'.al = w.al → Cells K mg w' H' M' → LamX.Tabs Tb.T H' → w'.F a = some (.xd fs) → Reps K mg w'.F (fs.map (·.2)) ds' → x (C, fs.map (·.1), ds') M' → E (.ref (clA mg C)) (some a) H'

/-! ### the cells that are passed -/
def passed : List D → List Nat
  | [] => []
  | .cell i :: ds => i :: passed ds
  | _ :: ds => passed ds
def ren (ix : List Nat) : D → D
  | .cell i => .cell (ix.idxOf i)
  | d => d
def sel (M : MS) (ix : List Nat) : MS := ix.map fun i => M.getD i .dead
/-- the things at ix are now Mc -/
def putb (M : MS) : List Nat → MS → MS
  | i :: ix, mo :: Mc => putb (M.set i mo) ix Mc
  | _, _ => M
theorem putb_length : ∀ (ix : List Nat) (M Mc : MS), (putb M ix Mc).length = M.length
  | [], _, _ => by rw [putb]; simp
  | _ :: _, _, [] => rfl
  | i :: ix, M, mo :: Mc => by
    rw [putb, putb_length ix]
    exact List.length_set
theorem putb_out : ∀ {ix : List Nat} {M Mc : MS} {j : Nat}, j ∉ ix → (putb M ix Mc)[j]? = M[j]?
  | [], M, Mc, j, _ => by rw [putb]; simp
  | _ :: _, _, [], _, _ => rfl
  | i :: ix, M, mo :: Mc, j, h => by
    rw [putb, putb_out (fun m => h (List.mem_cons_of_mem _ m)), List.getElem?_set_ne (by intro e; subst e; exact h List.mem_cons_self)]
theorem putb_at : ∀ {ix : List Nat} {M Mc : MS} {n j : Nat} {mo : MO}, ix.Nodup → ix[n]? = some j → j < M.length → Mc[n]? = some mo → (putb M ix Mc)[j]? = some mo
  | [], _, _, _, _, _, _, h, _, _ => by simp at h
  | _ :: _, _, [], _, _, _, _, _, _, h => by simp at h
  | i :: ix, M, m :: Mc, 0, j, mo, nd, h1, h2, h3 => by
    simp at h1 h3
    subst h1 h3
    rw [putb, putb_out (List.nodup_cons.mp nd).1, List.getElem?_set_self h2]
  | i :: ix, M, m :: Mc, n + 1, j, mo, nd, h1, h2, h3 => by
    rw [putb]
    exact putb_at (n := n) (List.nodup_cons.mp nd).2 (by simpa using h1) (by rw [List.length_set]; exact h2) (by simpa using h3)

section
variable {K : PySem.W.Frag} {mg : Str → Option Value} {w w' : Wd} {H H' : Hp} {M Mc : MS} {O : Org} {σ : L2.St} {ρ : Ro}
/-- where the passed things stand -/
def adr (w : Wd) (ix : List Nat) : List Addr := ix.map fun i => w.al.getD i 0
theorem adr_at {ix : List Nat} {n : Nat} {a : Addr} (h : (adr w ix)[n]? = some a) (hx : ∀ i ∈ ix, i < w.al.length) : ∃ i, ix[n]? = some i ∧ w.al[i]? = some a := by
  unfold adr at h
  rw [List.getElem?_map] at h
  cases e : ix[n]? with
  | none =>
    rw [e] at h
    cases h
  | some i =>
    rw [e] at h
    refine ⟨i, rfl, ?_⟩
    have hi := hx i (List.mem_of_getElem? e)
    have h : w.al.getD i 0 = a := Option.some.inj h
    rw [List.getElem?_eq_getElem hi, ← h]
    simp [List.getD, List.getElem?_eq_getElem hi]
theorem adr_mem {ix : List Nat} {a : Addr} (h : a ∈ adr w ix) (hx : ∀ i ∈ ix, i < w.al.length) : a ∈ w.al := by
  obtain ⟨n, hn, e⟩ := List.mem_iff_getElem.mp h
  obtain ⟨i, _, h2⟩ := adr_at (n := n) (a := a) (by rw [List.getElem?_eq_getElem hn, e]) hx
  exact List.mem_of_getElem? h2
theorem nd_inj {l : List Addr} (nd : l.Nodup) {i j : Nat} {a : Addr} (h1 : l[i]? = some a) (h2 : l[j]? = some a) : i = j := by
  obtain ⟨p1, e1⟩ := List.getElem?_eq_some_iff.mp h1
  obtain ⟨p2, e2⟩ := List.getElem?_eq_some_iff.mp h2
  exact (List.getElem_inj nd).mp (e1.trans e2.symm)
theorem adr_nodup {ix : List Nat} (nd : ix.Nodup) (na : w.al.Nodup) (hx : ∀ i ∈ ix, i < w.al.length) : (adr w ix).Nodup := by
  refine List.pairwise_iff_getElem.mpr fun i j hi hj hij h => ?_
  obtain ⟨p, p1, p2⟩ := adr_at (List.getElem?_eq_getElem hi) hx
  obtain ⟨q, q1, q2⟩ := adr_at (List.getElem?_eq_getElem hj) hx
  rw [h] at p2
  have e := nd_inj na p2 q2
  subst e
  obtain ⟨a1, b1⟩ := List.getElem?_eq_some_iff.mp p1
  obtain ⟨a2, b2⟩ := List.getElem?_eq_some_iff.mp q1
  have := (List.getElem_inj nd).mp (b1.trans b2.symm)
  omega
/-- the callee's world -/
def sub (w : Wd) (ix : List Nat) : Wd := ⟨w.F, adr w ix⟩
theorem Cells.sub {ix : List Nat} (c : Cells K mg w H M) (nd : ix.Nodup) (hx : ∀ i ∈ ix, i < w.al.length) : Cells K mg (sub w ix) H (sel M ix) := by
  refine ⟨c.fh, adr_nodup nd c.nd hx, by simp [Dl.sub, adr, sel], fun n a mo h1 h2 => ?_, c.ft⟩
  obtain ⟨i, e1, e2⟩ := adr_at (show (adr w ix)[n]? = some a from h1) hx
  unfold sel at h2
  rw [List.getElem?_map, e1] at h2
  have hi : i < M.length := by rw [← c.len]; exact (List.getElem?_eq_some_iff.mp e2).1
  have e3 : M[i]? = some mo := by
    rw [← Option.some.inj h2, List.getElem?_eq_getElem hi]
    simp [List.getD, List.getElem?_eq_getElem hi]
  exact c.at_ i a mo e2 e3
/-- BACK FROM A CALL: the caller's other things stand as they stood -/
theorem Sat.back {ix : List Nat} (s : Sat K mg O σ H ρ M w) (nd : ix.Nodup) (hx : ∀ i ∈ ix, i < w.al.length) (st : Step (Dl.sub w ix) H w' H') (ha : w'.al = adr w ix) (c : Cells K mg w' H' Mc) (t : LamX.Tabs Tb.T H') :
    Sat K mg O σ H' ρ (putb M ix Mc) ⟨w'.F, w.al⟩ ∧ w.le ⟨w'.F, w.al⟩ := by
  have le : w.le ⟨w'.F, w.al⟩ := ⟨st.le.F, [], by simp⟩
  have out : ∀ {a : Addr}, a ∉ w.al → a ∉ (Dl.sub w ix).al := fun n m => n (adr_mem m hx)
  have lc : Mc.length = ix.length := by
    rw [← c.len, ha]
    simp [adr]
  refine ⟨⟨s.step.trans ⟨le, fun a o e nt n => ⟨(st.keep a o e nt (out n)).1, n⟩, st.there, fun a o e => ?_⟩, t,
    ⟨c.fh, s.cells.nd, by rw [putb_length]; exact s.cells.len, fun i a mo h1 h2 => ?_, c.ft⟩, s.len, fun i d e => ?_⟩, le⟩
  · rcases st.grow a o e with h | h | h | h
    · exact .inl h
    · exact .inr (.inl h)
    · exact .inr (.inr (.inl (adr_mem h hx)))
    · exact .inr (.inr (.inr h))
  · have h1 : w.al[i]? = some a := h1
    by_cases hi : i ∈ ix
    · obtain ⟨n, hn, en⟩ := List.mem_iff_getElem.mp hi
      have e1 : ix[n]? = some i := by rw [List.getElem?_eq_getElem hn, en]
      have hil : i < M.length := by rw [← s.cells.len]; exact hx i hi
      have hn2 : n < Mc.length := by rw [lc]; exact hn
      have e2 := putb_at (M := M) (Mc := Mc) nd e1 hil (List.getElem?_eq_getElem hn2)
      rw [h2] at e2
      have e3 : w'.al[n]? = some a := by
        rw [ha, adr, List.getElem?_map, e1]
        show some (w.al.getD i 0) = some a
        simp [List.getD, h1]
      exact c.at_ n a mo e3 (by rw [List.getElem?_eq_getElem hn2]; exact e2.symm)
    · rw [putb_out hi] at h2
      have na : a ∉ (Dl.sub w ix).al := fun m => by
        obtain ⟨n, hn, en⟩ := List.mem_iff_getElem.mp m
        have e4 : (Dl.sub w ix).al[n]? = some a := by rw [List.getElem?_eq_getElem hn, en]
        obtain ⟨j, j1, j2⟩ := adr_at (show (adr w ix)[n]? = some a from e4) hx
        exact hi (nd_inj s.cells.nd h1 j2 ▸ List.mem_of_getElem? j1)
      have mr := s.cells.at_ i a mo h1 h2
      have nt : ∀ o, H a = some o → noTbl o := fun o e ps eq => by
        subst eq
        cases mo with
        | dead => exact mr.elim
        | lst _ => obtain ⟨_, _, z, _⟩ := mr; rw [e] at z; cases z
        | ins _ _ _ => obtain ⟨_, _, _, z, _⟩ := mr; rw [e] at z; cases z
        | dct _ _ => obtain ⟨_, _, z, _⟩ := mr; rw [e] at z; cases z
      refine mr.stay st.le.F (fun n => ?_) fun o e => (st.keep a o e (nt o e) na).1
      cases q : w'.F a with
      | none => rfl
      | some u =>
        rcases st.grow a u q with z | z | z | ⟨φ, z⟩
        · have z : w.F a = some u := z
          rw [show w.F a = none from n] at z
          cases z
        · obtain ⟨o, z2, z3⟩ := mr.thereN
          exact (z.no z2 z3).elim
        · exact absurd z na
        · cases mo with
          | dead => exact mr.elim
          | lst _ => obtain ⟨_, _, z2, _⟩ := mr; rw [z] at z2; cases z2
          | ins _ _ _ => obtain ⟨_, _, _, z2, _⟩ := mr; rw [z] at z2; cases z2
          | dct _ _ => obtain ⟨_, _, z2, _⟩ := mr; rw [z] at z2; cases z2
  · obtain ⟨v, h1, h2⟩ := s.slots i d e
    exact ⟨v, h1, h2.mono le⟩
end

/-! ### lending a list -/
mutual
/-- no list object is seen from it -/
def noL : D → Bool
  | .lst _ => false
  | .scr _ => false
  | .own xs => noLs xs
  | .tup xs => noLs xs
  | .ins _ _ xs => noLs xs
  | .exc _ _ xs => noLs xs
  | .dct _ xs => noLs xs
  | _ => true
def noLs : List D → Bool
  | [] => true
  | d :: ds => noL d && noLs ds
end
def noLM : MO → Bool
  | .dead => true
  | .lst xs => noLs xs
  | .ins _ _ xs => noLs xs
  | .dct _ xs => noLs xs
def noLMs : MS → Bool
  | [] => true
  | m :: ms => noLM m && noLMs ms
/-- without what stands at L -/
def hide (L : List Addr) (F : Hp) : Hp := fun b => if b ∈ L then none else F b
def lend (L : List Addr) (H F : Hp) : Hp := fun b => if b ∈ L then H b else F b
section
variable {K : PySem.W.Frag} {mg : Str → Option Value} {F : Hp} {L : List Addr}
theorem hide_at {a : Addr} {o : HO} (hL : ∀ b ∈ L, ∃ vs, F b = some (.lst vs)) (e : F a = some o) (n : ∀ vs, o ≠ .lst vs) : hide L F a = some o := by
  unfold hide
  by_cases h : a ∈ L
  · obtain ⟨vs, h2⟩ := hL a h
    rw [e] at h2
    exact absurd (Option.some.inj h2) (n vs)
  · rw [if_neg h]; exact e
theorem hide_sqT {a : Addr} {xs : List V} (hL : ∀ b ∈ L, ∃ vs, F b = some (.lst vs)) (h : SqT K F a xs) : SqT K (hide L F) a xs :=
  h.elim (fun h => .inl (h.elim (fun h => .inl (hide_at hL h (by intro vs e; cases e))) fun ⟨o, h⟩ => .inr ⟨o, hide_at hL h (by intro vs e; cases e)⟩)) fun h => .inr h
mutual
theorem Rep.hide (hL : ∀ b ∈ L, ∃ vs, F b = some (.lst vs)) : ∀ (d : D) (v : V), Rep K mg F v d → noL d = true → Rep K mg (Dl.hide L F) v d
  | .non, _, h, _ => by cases h; exact .non
  | .bl b, _, h, _ => by cases h; exact .bl b
  | .int i, _, h, _ => by cases h; exact .int i
  | .str x, _, h, _ => by cases h; exact .str x
  | .ty n, _, h, _ => by cases h; exact .ty n
  | .ref a, _, h, _ => by cases h; exact .ref a
  | .lst ds, _, h, n => by cases n
  | .tup ds, _, h, n => by
    cases h with
    | tup h1 h2 => exact .tup (hide_sqT hL h1) (Reps.hide hL ds _ h2 (by rw [noL] at n; exact n))
  | .ins C ks ds, _, h, n => by
    cases h with
    | ins h1 h0 h2 h3 => exact .ins (hide_at hL h1 (by intro vs e; cases e)) h0 h2 (Reps.hide hL ds _ h3 (by rw [noL] at n; exact n))
  | .exc C ks ds, _, h, n => by
    cases h with
    | exc h1 h2 h3 h4 => exact .exc (hide_at hL h1 excH_lst) (hide_at hL h2 (by intro vs e; cases e)) h3 (Reps.hide hL ds _ h4 (by rw [noL] at n; exact n))
  | .dct ks ds, _, h, n => by
    cases h with
    | dct h1 h2 h3 => exact .dct (hide_at hL h1 (by intro vs e; cases e)) h2 (Reps.hide hL ds _ h3 (by rw [noL] at n; exact n))
  | .scr ns, _, h, n => by cases n
  | .cell i, _, h, _ => by cases h
  | .own xs, _, h, _ => by cases h
  | .lam f c q, _, h, _ => by
    cases h with
    | lam h1 => exact .lam (hide_at hL h1 (by intro vs e; unfold LamX.CodeO at e; cases e))
theorem Reps.hide (hL : ∀ b ∈ L, ∃ vs, F b = some (.lst vs)) : ∀ (ds : List D) (vs : List V), Reps K mg F vs ds → noLs ds = true → Reps K mg (Dl.hide L F) vs ds
  | [], _, h, _ => by cases h; exact .nil
  | d :: ds, _, h, n => by
    cases h with
    | cons h1 h2 =>
      rw [noLs, Bool.and_eq_true] at n
      exact .cons (Rep.hide hL d _ h1 n.1) (Reps.hide hL ds _ h2 n.2)
end
theorem noLMs_at : ∀ {M : MS} {n : Nat} {mo : MO}, noLMs M = true → M[n]? = some mo → noLM mo = true
  | [], _, _, _, e => by simp at e
  | m :: ms, 0, mo, h, e => by
    simp at e
    subst e
    rw [noLMs, Bool.and_eq_true] at h
    exact h.1
  | m :: ms, n + 1, mo, h, e => by
    rw [noLMs, Bool.and_eq_true] at h
    exact noLMs_at h.2 (by simpa using e)
theorem MRep.hide {H : Hp} {a : Addr} (hL : ∀ b ∈ L, ∃ vs, F b = some (.lst vs)) : ∀ {mo : MO}, noLM mo = true → MRep K mg F H a mo → MRep K mg (Dl.hide L F) H a mo
  | .dead, _, h => h
  | .lst ds, n, ⟨f, vs, h, r⟩ => ⟨by unfold Dl.hide; split <;> first | rfl | exact f, vs, h, Reps.hide hL _ _ r (by rw [noLM] at n; exact n)⟩
  | .ins C ks ds, n, ⟨f, dx, fs, h, z, e, r⟩ => ⟨by unfold Dl.hide; split <;> first | rfl | exact f, dx, fs, h, z, e, Reps.hide hL _ _ r (by rw [noLM] at n; exact n)⟩
  | .dct ks ds, n, ⟨f, kvs, h, e, r⟩ => ⟨by unfold Dl.hide; split <;> first | rfl | exact f, kvs, h, e, Reps.hide hL _ _ r (by rw [noLM] at n; exact n)⟩
end

/-! ### the known grows by what stands there -/
section
variable {K : PySem.W.Frag} {mg : Str → Option Value} {w w' : Wd} {H H' : Hp} {M Mc : MS} {O : Org} {σ : L2.St} {ρ : Ro}
theorem Sat.know {a : Addr} {o : HO} (s : Sat K mg O σ H ρ M w) (e : H a = some o) (n : Nw O.H a) (na : a ∉ w.al) (hF : w.F a = none) (nt : noTbl o := by intro ps e; cases e) : Sat K mg O σ H ρ M (w.more a o) := by
  refine ⟨⟨s.step.le.trans (Wd.le_more hF), s.step.keep, s.step.there, fun b u h => ?_⟩, s.tabs, ⟨fun b u h => ?_, s.cells.nd, s.cells.len, fun i b mo h1 h2 => ?_, more_ft s.cells.ft nt⟩, s.len, fun i d h => let ⟨v, h1, h2⟩ := s.slots i d h; ⟨v, h1, h2.mono (Wd.le_more hF)⟩⟩
  · by_cases hb : b = a
    · rw [hb]; exact .inr (.inl n)
    · have h1 : (upd w.F a o) b = some u := h
      rw [upd_ne hb] at h1
      exact s.step.grow b u h1
  · have h1 : (upd w.F a o) b = some u := h
    by_cases hb : b = a
    · rw [hb, upd_same] at h1
      rw [hb, e, Option.some.inj h1]
    · rw [upd_ne hb] at h1
      exact s.cells.fh b u h1
  · have hne : b ≠ a := fun z => na (z ▸ List.mem_of_getElem? h1)
    exact (s.cells.at_ i b mo h1 h2).stay (Ex.upd hF) (fun n => by show (upd w.F a o) b = none; rw [upd_ne hne]; exact n) fun u h => h
/-- something that stands there is a thing that may change -/
theorem Sat.knowC {a : Addr} {mo : MO} (s : Sat K mg O σ H ρ M w) (r : MRep K mg w.F H a mo) (n : Nw O.H a) (na : a ∉ w.al) : Sat K mg O σ H ρ (M ++ [mo]) (w.cell a) := by
  have ne : ∀ b u, O.H b = some u → noTbl u → b ≠ a := fun b u e t z => by rw [z] at e; exact n.no e t
  have out : ∀ {b : Addr} {u : HO}, O.H b = some u → noTbl u → b ∉ w.al → b ∉ (w.cell a).al := fun e t m z => by
    rcases List.mem_append.mp z with z | z
    · exact m z
    · exact ne _ _ e t (List.mem_singleton.mp z)
  refine ⟨⟨s.step.le.trans Wd.le_cell, fun b u h t m => ?_, s.step.there, s.step.grow⟩, s.tabs, ⟨s.cells.fh, ?_, ?_, fun i b mo' h1 h2 => ?_, s.cells.ft⟩, s.len, fun i d h => ?_⟩
  · have z := s.step.keep b u h t m
    exact ⟨z.1, out h t z.2⟩
  · refine List.nodup_append.mpr ⟨s.cells.nd, List.nodup_cons.mpr ⟨List.not_mem_nil, List.nodup_nil⟩, fun b hb c hc => ?_⟩
    rw [List.mem_singleton.mp hc]
    exact fun z => na (z ▸ hb)
  · show (w.al ++ [a]).length = (M ++ [mo]).length
    rw [List.length_append, List.length_append, s.cells.len]
    rfl
  · have h1' : (w.al ++ [a])[i]? = some b := h1
    by_cases hi : i < w.al.length
    · rw [List.getElem?_append_left hi] at h1'
      rw [List.getElem?_append_left (by rw [← s.cells.len]; exact hi)] at h2
      exact s.cells.at_ i b mo' h1' h2
    · have e0 : i = w.al.length := by
        have := (List.getElem?_eq_some_iff.mp h1').1
        rw [List.length_append] at this
        simp at this
        omega
      subst e0
      rw [List.getElem?_append_right (Nat.le_refl _)] at h1'
      rw [s.cells.len, List.getElem?_append_right (Nat.le_refl _)] at h2
      simp at h1' h2
      subst h1' h2
      exact r
  · obtain ⟨v, h1, h2⟩ := s.slots i d h
    exact ⟨v, h1, h2.mono Wd.le_cell⟩
/-- the last thing that may change is known from now on -/
theorem Sat.pop {F : Hp} {al : List Addr} {a : Addr} {o : HO} {mo : MO} (s : Sat K mg O σ H ρ (M ++ [mo]) ⟨F, al ++ [a]⟩) (e : H a = some o) (n : Nw O.H a) (hF : F a = none) (le : O.w.le ⟨F, al⟩)
    (sl : ∀ (i : Nat) (d : D), ρ[i]? = some (some d) → ∃ v, σ[i]? = some (some v) ∧ RepA K mg ⟨F, al⟩ v d) (nt : noTbl o := by intro ps e; cases e) : Sat K mg O σ H ρ M ⟨upd F a o, al⟩ := by
  have nal : a ∉ al := fun m => (List.nodup_append.mp s.cells.nd).2.2 a m a List.mem_cons_self rfl
  have hl : al.length = M.length := by
    have := s.cells.len
    have this : (al ++ [a]).length = (M ++ [mo]).length := this
    simp at this
    exact this
  refine ⟨⟨⟨le.F.trans (Ex.upd hF), le.al⟩, fun b u h t m => ?_, s.step.there, fun b u h => ?_⟩, s.tabs, ⟨fun b u h => ?_, (List.nodup_append.mp s.cells.nd).1, hl, fun i b mo' h1 h2 => ?_, more_ft (w := ⟨F, al⟩) s.cells.ft nt⟩, s.len, fun i d h => ?_⟩
  · have z := s.step.keep b u h t m
    exact ⟨z.1, fun y => z.2 (List.mem_append_left _ y)⟩
  · by_cases hb : b = a
    · rw [hb]; exact .inr (.inl n)
    · have h1 : (upd F a o) b = some u := h
      rw [upd_ne hb] at h1
      exact s.step.grow b u h1
  · have h1 : (upd F a o) b = some u := h
    by_cases hb : b = a
    · rw [hb, upd_same] at h1
      rw [hb, e, Option.some.inj h1]
    · rw [upd_ne hb] at h1
      exact s.cells.fh b u h1
  · have h1 : al[i]? = some b := h1
    have hne : b ≠ a := fun z => nal (z ▸ List.mem_of_getElem? h1)
    have hi := (List.getElem?_eq_some_iff.mp h1).1
    have h3 : (M ++ [mo])[i]? = some mo' := by rw [List.getElem?_append_left (by rw [← hl]; exact hi)]; exact h2
    have h4 : (al ++ [a])[i]? = some b := by rw [List.getElem?_append_left hi]; exact h1
    exact (s.cells.at_ i b mo' h4 h3).stay (Ex.upd hF) (fun n => by show (upd F a o) b = none; rw [upd_ne hne]; exact n) fun u h => h
  · obtain ⟨v, h1, h2⟩ := sl i d h
    exact ⟨v, h1, h2.mono ⟨Ex.upd hF, [], by simp⟩⟩
end

/-! ### a call's arguments -/
/-- an argument is handed on as the thing that may change (b) or as what it holds now -/
def hand1 (M : MS) : Bool → D → D
  | false, .cell i => match M[i]? with
    | some (.lst xs) => .lst xs
    | _ => .cell i
  | _, d => d
def lent1 (M : MS) : Bool → D → List Nat
  | false, .cell i => match M[i]? with
    | some (.lst _) => [i]
    | _ => []
  | _, _ => []
theorem hand1_cases (M : MS) (b : Bool) (d : D) : (hand1 M b d = d ∧ lent1 M b d = []) ∨ ∃ i xs, d = .cell i ∧ M[i]? = some (.lst xs) ∧ hand1 M b d = .lst xs ∧ lent1 M b d = [i] := by
  cases b with
  | true => exact .inl ⟨rfl, rfl⟩
  | false =>
    cases d with
    | cell i =>
      cases e : M[i]? with
      | none => exact .inl ⟨by simp [hand1, e], by simp [lent1, e]⟩
      | some mo =>
        cases mo with
        | lst xs => exact .inr ⟨i, xs, rfl, e, by simp [hand1, e], by simp [lent1, e]⟩
        | _ => exact .inl ⟨by simp [hand1, e], by simp [lent1, e]⟩
    | _ => exact .inl ⟨rfl, rfl⟩
def handed (M : MS) (mu : List Nat) : Nat → List D → List D
  | _, [] => []
  | n, d :: ds => hand1 M (mu.contains n) d :: handed M mu (n + 1) ds
def lentIx (M : MS) (mu : List Nat) : Nat → List D → List Nat
  | _, [] => []
  | n, d :: ds => lent1 M (mu.contains n) d ++ lentIx M mu (n + 1) ds
def adopt : D → D
  | .own xs => .lst xs
  | d => d
/-- how an answer is taken -/
abbrev Ad := KD → KD
def adF : Ad := fun k d M => k (adopt d) M
def adC : Ad := fun k d M => ∃ xs, d = .own xs ∧ k (.cell M.length) (M ++ [.lst xs])
structure app' (sp : SpD) (mu : List Nat) (as : List D) (M : MS) (k : KD) (x : XD) : Prop where
  nd : (passed (handed M mu 0 as)).Nodup
  ap : ∀ j ∈ lentIx M mu 0 as, j ∉ passed (handed M mu 0 as)
  sp : sp ((handed M mu 0 as).map (ren (passed (handed M mu 0 as)))) (sel M (passed (handed M mu 0 as)))
    (fun d Mc => (lentIx M mu 0 as = [] ∨ (noL d = true ∧ noLMs Mc = true)) ∧ k d (putb M (passed (handed M mu 0 as)) Mc))
    (fun e Mc => (lentIx M mu 0 as = [] ∨ (noLs e.2.2 = true ∧ noLMs Mc = true)) ∧ x e (putb M (passed (handed M mu 0 as)) Mc))

section
variable {K : PySem.W.Frag} {mg : Str → Option Value} {w w' : Wd} {H H' : Hp} {M Mc : MS} {O : Org} {σ : L2.St} {ρ : Ro}
theorem hide_nil {F : Hp} : hide [] F = F := by funext b; simp [hide]
theorem Rep.hide' {F : Hp} {L : List Addr} (hL : ∀ b ∈ L, ∃ vs, F b = some (.lst vs)) {v : V} {d : D} (r : Rep K mg F v d) (n : L = [] ∨ noL d = true) : Rep K mg (Dl.hide L F) v d := by
  rcases n with rfl | n
  · rw [hide_nil]; exact r
  · exact r.hide hL d v n
theorem Reps.hide' {F : Hp} {L : List Addr} (hL : ∀ b ∈ L, ∃ vs, F b = some (.lst vs)) {v : List V} {d : List D} (r : Reps K mg F v d) (n : L = [] ∨ noLs d = true) : Reps K mg (Dl.hide L F) v d := by
  rcases n with rfl | n
  · rw [hide_nil]; exact r
  · exact r.hide hL d v n
theorem MRep.hide' {F : Hp} {L : List Addr} (hL : ∀ b ∈ L, ∃ vs, F b = some (.lst vs)) {a : Addr} {mo : MO} (n : L = [] ∨ noLM mo = true) (r : MRep K mg F H a mo) : MRep K mg (Dl.hide L F) H a mo := by
  rcases n with rfl | n
  · rw [hide_nil]; exact r
  · exact r.hide hL n
theorem lent_ok {mu : List Nat} : ∀ {as : List D} {vs : List V} {n i : Nat}, RepsA K mg w vs as → i ∈ lentIx M mu n as → ∃ a xs, w.al[i]? = some a ∧ M[i]? = some (.lst xs)
  | [], _, _, _, _, h => by simp [lentIx] at h
  | d :: ds, _, n, i, .cons r t, h => by
    rw [lentIx] at h
    rcases List.mem_append.mp h with h | h
    · rcases hand1_cases M (mu.contains n) d with ⟨_, e⟩ | ⟨j, xs, rfl, e, _, e2⟩
      · rw [e] at h
        cases h
      · rw [e2] at h
        have := List.mem_singleton.mp h
        subst this
        rcases r with r | ⟨_, a, e1, _, e3⟩
        · cases r
        · cases e1
          exact ⟨a, xs, e3, e⟩
    · exact lent_ok t h
theorem passed_ok {mu : List Nat} : ∀ {as : List D} {vs : List V} {n i : Nat}, RepsA K mg w vs as → i ∈ passed (handed M mu n as) → ∃ a, w.al[i]? = some a
  | [], _, _, _, _, h => by simp [handed, passed] at h
  | d :: ds, _, n, i, .cons r t, h => by
    rw [handed] at h
    rcases hand1_cases M (mu.contains n) d with ⟨e, _⟩ | ⟨j, xs, rfl, _, e, _⟩
    · rw [e] at h
      rcases r with r | ⟨j, a, e1, _, e3⟩
      · have h : i ∈ passed (handed M mu (n + 1) ds) := by cases r <;> exact h
        exact passed_ok t h
      · subst e1
        rcases List.mem_cons.mp (show i ∈ j :: passed (handed M mu (n + 1) ds) from h) with h | h
        · subst h
          exact ⟨a, e3⟩
        · exact passed_ok t h
    · rw [e] at h
      exact passed_ok t (show i ∈ passed (handed M mu (n + 1) ds) from h)
theorem handed_rep {mu ix ln : List Nat} {wc : Wd} (hF : Ex w.F wc.F) (hx : ∀ i a, i ∈ ix → w.al[i]? = some a → wc.al[ix.idxOf i]? = some a)
    (hl : ∀ i a xs, w.al[i]? = some a → M[i]? = some (.lst xs) → i ∈ ln → Rep K mg wc.F (.ref a) (.lst xs)) :
    ∀ {as : List D} {vs : List V} {n : Nat}, RepsA K mg w vs as → (∀ i, i ∈ passed (handed M mu n as) → i ∈ ix) → (∀ i, i ∈ lentIx M mu n as → i ∈ ln) → RepsA K mg wc vs ((handed M mu n as).map (ren ix))
  | [], _, _, .nil, _, _ => .nil
  | d :: ds, _, n, .cons (v := v) r t, h, h2 => by
    rw [handed] at h ⊢
    rw [lentIx] at h2
    rw [List.map_cons]
    have tl : ∀ i, i ∈ passed (handed M mu (n + 1) ds) → i ∈ ix := by
      intro i m
      refine h i ?_
      generalize hand1 M (mu.contains n) d = e
      cases e <;> first | exact m | exact List.mem_cons_of_mem _ m
    refine .cons ?_ (handed_rep hF hx hl (n := n + 1) t tl fun i m => h2 i (List.mem_append_right _ m))
    rcases hand1_cases M (mu.contains n) d with ⟨e, _⟩ | ⟨j, xs, rfl, e, e2, e4⟩
    · rw [e] at h ⊢
      rcases r with r | ⟨j, a, e1, e2, e3⟩
      · have e : ren ix d = d := by cases r <;> rfl
        rw [e]
        exact .inl (r.mono hF)
      · subst e1
        exact .inr ⟨_, a, rfl, e2, hx j a (h j List.mem_cons_self) e3⟩
    · rw [e4] at h2
      rw [e2]
      rcases r with r | ⟨j', a, e5, e6, e3⟩
      · cases r
      · cases e5
        subst e6
        exact .inl (hl j a xs e3 e (h2 j (List.mem_append_left _ List.mem_cons_self)))
end
section
variable {X : Cx} {O : Org} {σ : L2.St} {H : Hp} {ρ : Ro} {M : MS} {w : Wd} {sp : SpD} {mu : List Nat} {as : List D} {vs : List V} {k : KD} {R : Exn → Ro → MS → Prop} {Q : VK}
/-- A CALL: what the callee promises holds at the caller's -/
theorem app_run (s : Sat X.K X.mg O σ H ρ M w) (ra : RepsA X.K X.mg w vs as) (h : app' sp mu as M k (fun e M' => R e ρ M'))
    (hk : ∀ v H' w2 d M', w.le w2 → w2.al = w.al → Sat X.K X.mg O σ H' ρ M' w2 → RetA X.K X.mg w H w2 H' v d → k d M' → Q v H') :
    lift X.K X.mg sp vs H Q (fun cls dd H' => liftX X O R cls dd σ H') := by
  obtain ⟨nd, ap, hs⟩ := h
  generalize hix : passed (handed M mu 0 as) = ix at nd ap hs
  generalize hln : lentIx M mu 0 as = ln at ap hs
  have hx : ∀ i ∈ ix, i < w.al.length := fun i m => by
    obtain ⟨a, e⟩ := passed_ok (n := 0) (mu := mu) (M := M) (i := i) ra (by rw [hix]; exact m)
    exact (List.getElem?_eq_some_iff.mp e).1
  have hl : ∀ i ∈ ln, ∃ a xs, w.al[i]? = some a ∧ M[i]? = some (.lst xs) := fun i m => lent_ok (n := 0) (mu := mu) ra (by rw [hln]; exact m)
  have hll : ∀ i ∈ ln, i < w.al.length := fun i m => by
    obtain ⟨a, xs, e, _⟩ := hl i m
    exact (List.getElem?_eq_some_iff.mp e).1
  have hLa : ∀ b ∈ adr w ln, ∃ i xs, i ∈ ln ∧ w.al[i]? = some b ∧ M[i]? = some (.lst xs) ∧ w.F b = none ∧ ∃ vs, H b = some (.lst vs) ∧ Reps X.K X.mg w.F vs xs := fun b m => by
    obtain ⟨n, hn, en⟩ := List.mem_iff_getElem.mp m
    obtain ⟨i, e1, e2⟩ := adr_at (show (adr w ln)[n]? = some b by rw [List.getElem?_eq_getElem hn, en]) hll
    have mi := List.mem_of_getElem? e1
    obtain ⟨a, xs, e3, e4⟩ := hl i mi
    obtain ⟨z1, vs, z2, z3⟩ := s.cells.at_ i b _ e2 e4
    exact ⟨i, xs, mi, e2, e4, z1, vs, z2, z3⟩
  let wc : Wd := ⟨lend (adr w ln) H w.F, adr w ix⟩
  have wcF : wc.F = lend (adr w ln) H w.F := rfl
  have exF : Ex w.F wc.F := fun b o e => by
    rw [wcF, lend]
    by_cases m : b ∈ adr w ln
    · obtain ⟨_, _, _, _, _, z, _⟩ := hLa b m
      rw [z] at e
      cases e
    · rw [if_neg m]; exact e
  have cw : Cells X.K X.mg wc H (sel M ix) := by
    have c0 := s.cells.sub nd hx
    refine ⟨fun b o e => ?_, c0.nd, c0.len, fun n a mo h1 h2 => ?_, fun b ps e => ?_⟩
    · rw [wcF, lend] at e
      split at e
      · exact e
      · exact s.cells.fh b o e
    · obtain ⟨i, e1, e2⟩ := adr_at (show (adr w ix)[n]? = some a from h1) hx
      refine (c0.at_ n a mo h1 h2).stay exF (fun z => ?_) fun o e => e
      rw [wcF, lend, if_neg]
      · exact z
      · intro m
        obtain ⟨j, _, mj, f2, _⟩ := hLa a m
        have := nd_inj s.cells.nd e2 f2
        subst this
        exact ap i mj (List.mem_of_getElem? e1)
    · rw [wcF, lend] at e
      split at e
      · rename_i m
        obtain ⟨_, _, _, _, _, _, us, h1, _⟩ := hLa b m
        rw [e] at h1
        cases h1
      · exact s.cells.ft b ps e
  have ra' : RepsA X.K X.mg wc vs ((handed M mu 0 as).map (ren ix)) := by
    refine handed_rep (ln := ln) exF (fun i a m e => ?_) (fun i a xs e1 e2 m => ?_) ra (fun i m => hix ▸ m) (fun i m => hln ▸ m)
    · show (adr w ix)[ix.idxOf i]? = some a
      unfold adr
      rw [List.getElem?_map, List.getElem?_eq_getElem (List.idxOf_lt_length_of_mem m)]
      show some (w.al.getD (ix[ix.idxOf i]'_) 0) = some a
      rw [List.getElem_idxOf]
      simp [List.getD, e]
    · have mb : a ∈ adr w ln := List.mem_map.mpr ⟨i, m, by simp [List.getD, e1]⟩
      obtain ⟨j, ys, mj, f1, f2, _, us, f3, f4⟩ := hLa a mb
      have := nd_inj s.cells.nd e1 f1
      subst this
      rw [e2] at f2
      cases f2
      refine .lst ?_ (f4.mono exF)
      rw [wcF, lend, if_pos mb]
      exact f3
  have back : ∀ {H' : Hp} {w' : Wd} {Mc : MS}, Step wc H w' H' → w'.al = wc.al → Cells X.K X.mg w' H' Mc → LamX.Tabs Tb.T H' → (ln = [] ∨ noLMs Mc = true) → (∀ b ∈ adr w ln, ∃ vs, w'.F b = some (.lst vs)) ∧
      Sat X.K X.mg O σ H' ρ (putb M ix Mc) ⟨hide (adr w ln) w'.F, w.al⟩ ∧ w.le ⟨hide (adr w ln) w'.F, w.al⟩ := by
    intro H' w' Mc st ha c t nl
    have hL : ∀ b ∈ adr w ln, ∃ vs, w'.F b = some (.lst vs) := fun b m => by
      obtain ⟨_, _, _, _, _, _, us, e, _⟩ := hLa b m
      exact ⟨us, st.le.F b _ (by rw [wcF, lend, if_pos m]; exact e)⟩
    refine ⟨hL, ?_⟩
    refine Sat.back (w' := ⟨hide (adr w ln) w'.F, w'.al⟩) s nd hx ⟨⟨fun b o e => ?_, st.le.al⟩, st.keep, st.there, fun b o e => ?_⟩ ha ⟨fun b o e => ?_, c.nd, c.len, fun i a mo h1 h2 => ?_, fun b ps e => ?_⟩ t
    · have e : w.F b = some o := e
      show hide (adr w ln) w'.F b = some o
      have m : b ∉ adr w ln := fun m => by
        obtain ⟨_, _, _, _, _, z, _⟩ := hLa b m
        rw [z] at e
        cases e
      rw [hide, if_neg m]
      exact st.le.F b o (exF b o e)
    · have e : hide (adr w ln) w'.F b = some o := e
      rw [hide] at e
      split at e
      · cases e
      · rename_i m
        rcases st.grow b o e with z | z | z | z
        · rw [wcF, lend, if_neg m] at z
          exact .inl z
        · exact .inr (.inl z)
        · exact .inr (.inr (.inl z))
        · exact .inr (.inr (.inr z))
    · have e : hide (adr w ln) w'.F b = some o := e
      rw [hide] at e
      split at e
      · cases e
      · exact c.fh b o e
    · refine (c.at_ i a mo h1 h2).hide' hL ?_
      rcases nl with rfl | nl
      · exact .inl rfl
      · exact .inr (noLMs_at nl h2)
    · have e : hide (adr w ln) w'.F b = some (.tbl ps) := e
      rw [hide] at e
      split at e
      · cases e
      · exact c.ft b ps e
  refine ⟨wc, _, _, _, _, ra', cw, s.tabs, hs, ?_, ?_⟩
  · intro v H' w' d Mc st ha c t ret ⟨nl, q⟩
    obtain ⟨hL, s2, l2⟩ := back st ha c t (nl.imp id (·.2))
    refine hk v H' _ d _ l2 rfl s2 ?_ q
    rcases ret with r | ⟨xs, a, us, rfl, rfl, e1, e2, e3, e4, e5⟩
    · exact .inl (r.hide' hL (nl.imp (fun e => by rw [e]; rfl) (·.1)))
    · refine .inr ⟨xs, a, us, rfl, rfl, e1, ?_, s.cells.freshN e1, e4, e5.hide' hL (nl.imp (fun e => by rw [e]; rfl) fun n => by have n := n.1; rw [noL] at n; exact n)⟩
      show hide (adr w ln) w'.F a = none
      rw [hide, e2, ite_self]
  · intro C a fs H' w' ds' Mc st ha c t e1 e2 ⟨nl, q⟩
    obtain ⟨hL, s2, l2⟩ := back st ha c t (nl.imp id (·.2))
    exact ⟨C, a, fs, ds', ρ, _, _, rfl, rfl, hide_at hL e1 (by intro vs e; cases e), e2.hide' hL (nl.imp (fun e => by rw [e]; rfl) (·.1)), s2, q⟩
/-- the answer, taken -/
def AdOk (ad : Ad) : Prop := ∀ {X : Cx} {O : Org} {σ : L2.St} {H : Hp} {ρ : Ro} {w : Wd} {k : KD} (v : V) (H' : Hp) (w0 w2 : Wd) (d : D) (M' : MS), (∀ a, Nw H a → Nw O.H a) → w0.le w → w.le w2 → Sat X.K X.mg O σ H' ρ M' w2 → RetA X.K X.mg w H w2 H' v d → ad k d M' → PoE X O σ ρ w0 k v H'
theorem adF_ok : AdOk adF := by
  intro X O σ H ρ w k v H' w0 w2 d M' hO l0 l s r q
  rcases r with r | ⟨xs, a, vs, rfl, rfl, e1, e2, e3, e4, e5⟩
  · have e : adopt d = d := by cases r <;> rfl
    unfold adF at q
    rw [e] at q
    exact ⟨w2, d, M', l0.trans l, s, .inl r, q⟩
  · exact ⟨w2.more a (.lst vs), .lst xs, M', (l0.trans l).trans (Wd.le_more e2), s.know e4 (hO a e1) e3 e2, .inl (.lst upd_same (e5.mono (Ex.upd e2))), q⟩
theorem adC_ok : AdOk adC := by
  intro X O σ H ρ w k v H' w0 w2 d M' hO l0 l s r q
  obtain ⟨ys, rfl, q⟩ := q
  rcases r with r | ⟨xs, a, vs, e0, rfl, e1, e2, e3, e4, e5⟩
  · cases r
  · cases e0
    refine ⟨w2.cell a, .cell M'.length, M' ++ [.lst ys], (l0.trans l).trans Wd.le_cell, s.knowC (mo := .lst ys) ⟨e2, vs, e4, e5⟩ (hO a e1) e3, .inr ⟨_, a, rfl, rfl, ?_⟩, q⟩
    show (w2.al ++ [a])[M'.length]? = some a
    rw [← s.cells.len, List.getElem?_append_right (Nat.le_refl _)]
    simp
/-! ### making -/
/-- self, then the arguments; the thing made is known as it then stands -/
def makeF (C : Str) (sp : SpD) (mu : List Nat) (as : D → List D) (M : MS) (k : KD) (x : XD) : Prop :=
  app' sp mu (as (.cell M.length)) (M ++ [.ins C [] []]) (fun d M' => d = .non ∧ ∃ ks xs, M' = M'.take M.length ++ [.ins C ks xs] ∧ k (.ins C ks xs) (M'.take M.length)) (fun e M' => x e (M'.take M.length))
def makeC (C : Str) (sp : SpD) (mu : List Nat) (as : D → List D) (M : MS) (k : KD) (x : XD) : Prop :=
  app' sp mu (as (.cell M.length)) (M ++ [.ins C [] []]) (fun d M' => d = .non ∧ k (.cell M.length) M') (fun e M' => x e M')
end
end Dl
set_option Elab.async false
set_option linter.all false
set_option maxRecDepth 100000
set_option maxHeartbeats 1000000
set_option autoImplicit false
/-! Dl6: the rules of calls: defs, methods, classes. -/
namespace Dl
open PySem PySem.Spec PyProof.Rows L2
variable [Tb]

/-- the places idx of l -/
def pk {α : Type} (idx : List Nat) (l : List α) : List α := idx.filterMap fun i => l[i]?
theorem RepsA.at_ {K : PySem.W.Frag} {mg : Str → Option Value} {w : Wd} : ∀ {vs : List V} {ds : List D} (i : Nat), RepsA K mg w vs ds → (vs[i]? = none ∧ ds[i]? = none) ∨ ∃ v d, vs[i]? = some v ∧ ds[i]? = some d ∧ RepA K mg w v d
  | _, _, _, .nil => .inl ⟨by simp, by simp⟩
  | _, _, 0, .cons r _ => .inr ⟨_, _, rfl, rfl, r⟩
  | _, _, i + 1, .cons _ t => by
    rcases RepsA.at_ i t with h | h
    · exact .inl (by simpa using h)
    · exact .inr (by simpa using h)
theorem RepsA.pk {K : PySem.W.Frag} {mg : Str → Option Value} {w : Wd} {vs : List V} {ds : List D} (r : RepsA K mg w vs ds) : ∀ idx : List Nat, RepsA K mg w (pk idx vs) (pk idx ds)
  | [] => .nil
  | i :: idx => by
    unfold Dl.pk
    rcases RepsA.at_ i r with ⟨h1, h2⟩ | ⟨v, d, h1, h2, h3⟩
    · rw [List.filterMap_cons_none h1, List.filterMap_cons_none h2]
      exact RepsA.pk r idx
    · rw [List.filterMap_cons_some h1, List.filterMap_cons_some h2]
      exact .cons h3 (RepsA.pk r idx)
theorem RepsA.app {K : PySem.W.Frag} {mg : Str → Option Value} {w : Wd} : ∀ {vs us : List V} {ds es : List D}, RepsA K mg w vs ds → RepsA K mg w us es → RepsA K mg w (vs ++ us) (ds ++ es)
  | _, _, _, _, .nil, h => h
  | _, _, _, _, .cons r t, h => .cons r (RepsA.app t h)
theorem RepsA.of {K : PySem.W.Frag} {mg : Str → Option Value} {w : Wd} : ∀ {vs : List V} {ds : List D}, Reps K mg w.F vs ds → RepsA K mg w vs ds
  | _, _, .nil => .nil
  | _, _, .cons r t => .cons (.inl r) (RepsA.of t)
theorem vals_pk {vs : List V} {us : List Value} (r : Vals vs us) : ∀ idx : List Nat, Vals (pk idx vs) (pk idx us)
  | [] => .nil
  | i :: idx => by
    unfold pk
    cases e : vs[i]? with
    | none =>
      have e2 : us[i]? = none := by
        rw [List.getElem?_eq_none_iff] at e ⊢
        rw [← r.length]; exact e
      rw [List.filterMap_cons_none e, List.filterMap_cons_none e2]
      exact vals_pk r idx
    | some v =>
      obtain ⟨u, e2, e3⟩ := r.get e
      rw [List.filterMap_cons_some e, List.filterMap_cons_some e2]
      exact .cons e3 (vals_pk r idx)

/-! ### binding -/
/-- n values are written, keywords named ks; all in their places -/
structure Bd (K : PySem.W.Frag) (fd : FuncData) (ps : List Str) (n : Nat) (ks : List Str) (idx : List Nat) (dvs : List V) : Prop where
  ex : ∃ its : List Value, Vals dvs its ∧ ∀ (s : Shared) (us ws : List Value), K.In s.heap → us.length = n → ws.length = ks.length → BindsTo s fd ⟨us, ks.zip ws⟩ (ps.zip (pk idx (us ++ its ++ ws)))
section
variable {K : PySem.W.Frag} {x qual : Str} {params : Arguments} {body : List Stmt} {scope : Scope} {dvs : List V} {f : Addr} {fd : FuncData} {ps : List Str}
theorem Bd.none (F : FunD K x qual params body scope [] [] f fd) {n : Nat} {ks : List Str} {idx : List Nat}
    (h : ∀ (kV doc pm : Value) (an : Option Addr) (cdv ct : Value) (us ws : List Value), us.length = n → ws.length = ks.length → bindArgs (PySem.W.fnOf x qual params body scope .none kV doc pm an cdv ct) ⟨us, ks.zip ws⟩ = pure (ps.zip (pk idx (us ++ [] ++ ws)))) :
    Bd K fd ps n ks idx [] := by
  obtain ⟨oc, od, dV, kV, doc, pm, an, cdv, ct, osl, rfl, lk, hcd, hD, hK⟩ := F.ex
  rcases hD with ⟨_, rfl⟩ | ⟨e, _⟩
  · exact ⟨[], .nil, fun s us ws _ l1 l2 => .of_eq (h kV doc pm an cdv ct us ws l1 l2)⟩
  · exact absurd rfl e
theorem Bd.dfl (F : FunD K x qual params body scope dvs [] f fd) {n : Nat} {ks : List Str} {idx : List Nat} (hd : dvs ≠ [])
    (h : ∀ (T : Addr) (kV doc pm : Value) (an : Option Addr) (cdv ct : Value) (us its ws : List Value), us.length = n → its.length = dvs.length → ws.length = ks.length →
      ∃ k, bindArgs (PySem.W.fnOf x qual params body scope (.ref T) kV doc pm an cdv ct) ⟨us, ks.zip ws⟩ = seqItems? (.ref T) >>= k ∧ k (some its.toArray) = pure (ps.zip (pk idx (us ++ its ++ ws)))) : Bd K fd ps n ks idx dvs := by
  obtain ⟨oc, od, dV, kV, doc, pm, an, cdv, ct, osl, rfl, lk, hcd, hD, hK⟩ := F.ex
  rcases hD with ⟨e, _⟩ | ⟨_, T, o, its, m, rfl, lT, oT, rT⟩
  · exact absurd e hd
  · refine ⟨its, rT, fun s us ws X l1 l2 => ?_⟩
    obtain ⟨k, e1, e2⟩ := h T kV doc pm an cdv ct us its ws l1 rT.length.symm l2
    refine BindsTo.of_looks fun M => ?_
    rw [e1]
    exact looks_items X lT oT (.of_pure e2)
end

/-! ### keywords -/
def WK (X : Cx) (kws : List Keyword) : TA := fun σ H Q => ∀ (pos : Pos) pins s, Inv X pins σ H s → wpAny (model X.prog X.w) X.A (evalAll ((backToKw pos (keywordEach kws X.env)).map (·.2))) (AP X pins σ Q) X.xe s
theorem wk_pk (X : Cx) (kws : List Keyword) : PK X kws (WK X kws) := ⟨fun pos pins s _ _ _ I h => h pos pins s I⟩
theorem wk_of {X : Cx} {kws : List Keyword} {t : TA} (h : PK X kws t) {σ : L2.St} {H : Hp} {Q : List V → Hp → Prop} (q : t σ H Q) : WK X kws σ H Q := fun pos pins s I => h.run pos pins s σ H Q I q
theorem wk_mono {X : Cx} {kws : List Keyword} {σ : L2.St} {H : Hp} {Q Q' : List V → Hp → Prop} (h : WK X kws σ H Q) (q : ∀ v H', Q v H' → Q' v H') : WK X kws σ H Q' := fun pos pins s I =>
  thn (h pos pins s I) fun u s' ⟨v, H', I', r, z⟩ => ⟨v, H', I', r, q v H' z⟩
structure EVK (X : Cx) (kws : List Keyword) (τ : DA) : Prop where
  run : ∀ (O : Org) (R : Exn → Ro → MS → Prop), TakesD X O R → ∀ (ρ : Ro) (M : MS) (k : List D → MS → Prop), τ ρ M k (fun x M' => R x ρ M') → ∀ (σ : L2.St) (H : Hp) (w : Wd), Sat X.K X.mg O σ H ρ M w → WK X kws σ H (PoA X O σ ρ w k)
theorem evk_nil {X : Cx} : EVK X [] dNil := ⟨fun O R TX ρ M k h σ H w s => wk_of pk_nil ⟨w, [], M, .refl w, s, .nil, h⟩⟩
theorem evk_cons {X : Cx} {e : Expr} {kws : List Keyword} {nm : Option Str} {kpos : Pos} {ta : DE} {t : DA} (ha : EV X e ta) (hr : EVK X kws t) : EVK X (⟨nm, e, kpos⟩ :: kws) (dCons ta t) := ⟨fun O R TX ρ M k h σ H w s =>
  wk_of (pk_cons (we_pe X e) (wk_pk X kws)) (we_mono (ha.run O R TX ρ M _ h σ H w s) fun v H1 ⟨w1, d, M1, l1, s1, r1, q1⟩ =>
    wk_mono (hr.run O R TX ρ M1 _ q1 σ H1 w1 s1) fun vs H2 ⟨w2, ds, M2, l2, s2, r2, q2⟩ => ⟨w2, d :: ds, M2, l1.trans l2, s2, .cons (r1.mono l2) r2, q2⟩)⟩

/-! ### running -/
section
variable {X : Cx} {O : Org} {σ : L2.St} {H : Hp} {ρ : Ro} {M : MS} {w w0 : Wd} {sp : SpD} {mu idx : List Nat} {ds zs dfl : List D} {vs xs : List V} {dvs : List V} {k : KD} {R : Exn → Ro → MS → Prop} {ad : Ad}
  {kd n : Nat} {f : Addr} {fd : FuncData} {ps ks : List Str} {pins : List (Addr × Obj)} {s : Shared} {us ws : List Value} {C : Str}
/-- the defaults are these data -/
def DflD (K : PySem.W.Frag) (mg : Str → Option Value) (dvs : List V) (dfl : List D) : Prop := ∀ F : Hp, Reps K mg F dvs dfl
abbrev FnD (X : Cx) (kd : Nat) (f : Addr) (fd : FuncData) (ps : List Str) (sp : SpD) : Prop := FnOk X.prog X.w X.K X.mg X.base (L2.CX X.prog X.w) kd f fd ps (lift X.K X.mg sp)
theorem runD (F : FnD X kd f fd ps sp) (hr : Room kd X.A) (hb : Bd X.K fd ps n ks idx dvs) (hd : DflD X.K X.mg dvs dfl) (had : AdOk ad) (TX : TakesD X O R) (I : Inv X pins σ H s) (r : Vals vs us) (rz : Vals xs ws) (l1 : ds.length = n) (l2 : zs.length = ks.length)
    (S : Sat X.K X.mg O σ H ρ M w) (le : w0.le w) (ra : RepsA X.K X.mg w vs ds) (rb : RepsA X.K X.mg w xs zs) (h : app' sp mu (pk idx (ds ++ dfl ++ zs)) M (ad k) (fun e M' => R e ρ M')) :
    wpAny (model X.prog X.w) X.A (call (.ref f) us (ks.zip ws)) (EP X pins σ (PoE X O σ ρ w0 k)) X.xe s := by
  obtain ⟨its, rI, hb⟩ := hb.ex
  have r2 := vals_pk ((r.append rI).append rz) idx
  have ra2 := ((ra.app (RepsA.of (hd w.F))).app rb).pk idx
  have L := app_run (Q := PoE X O σ ρ w0 k) S ra2 h fun v H' w2 d M' q1 q2 q3 q4 q5 => had v H' w0 w2 d M' (fun a e => S.step.nw e) le q1 q3 q4 q5
  refine wpAny_call (codeAny_mono (F.run X.A X.stack s H ⟨us, ks.zip ws⟩ _ _ (PoE X O σ ρ w0 k) _ hr I.env0 (hb s us ws I.kIn ((r.length.symm.trans ra.length).trans l1) ((rz.length.symm.trans rb.length).trans l2)) r2 L) fun r s' hq => ?_)
  cases r with
  | error e => exact passAt TX σ pins H s e s' I hq
  | ok fl =>
    cases fl with
    | ret u => exact I.after hq
    | next => exact False.elim hq
    | brk => exact False.elim hq
    | cont => exact False.elim hq

/-- what a making ends as. b: it may still change -/
def mkEnd (b : Bool) (C : Str) (n : Nat) (k : KD) : KD := fun d M' => d = .non ∧ (match b with
  | true => k (.cell n) M'
  | false => ∃ M0 ks xs, M' = M0 ++ [.ins C ks xs] ∧ M0.length = n ∧ k (.ins C ks xs) M0)
theorem runM {b : Bool} (Mk : Mk X.K (clA X.mg C) f) (F : FnD X kd f fd ps sp) (hc : Cls X.K (clA X.mg C)) (hr : Room (kd + 1) X.A) (hb : Bd X.K fd ps (n + 1) ks idx dvs) (hd : DflD X.K X.mg dvs dfl) (TX : TakesD X O R) (I : Inv X pins σ H s) (r : Vals vs us) (rz : Vals xs ws) (l1 : ds.length = n) (l2 : zs.length = ks.length)
    (S : Sat X.K X.mg O σ H ρ M w) (le : w0.le w) (ra : RepsA X.K X.mg w vs ds) (rb : RepsA X.K X.mg w xs zs) (h : app' sp mu (pk idx ((.cell M.length :: ds) ++ dfl ++ zs)) (M ++ [.ins C [] []]) (mkEnd b C M.length k) (fun e M' => R e ρ M')) :
    wpAny (model X.prog X.w) X.A (call (.ref (clA X.mg C)) us (ks.zip ws)) (EP X pins σ (PoE X O σ ρ w0 k)) X.xe s := by
  obtain ⟨its, rI, hb⟩ := hb.ex
  have hx1 : H (s.heap.objs.size + 1) = none := I.hok.fresh (Nat.le_succ _)
  have hx2 : H s.heap.objs.size = none := I.hok.fresh (Nat.le_refl _)
  have hne : s.heap.objs.size + 1 ≠ s.heap.objs.size := Nat.ne_of_gt (Nat.lt_succ_self _)
  generalize hX : s.heap.objs.size + 1 = x at hx1 hne
  generalize hDX : s.heap.objs.size = dx at hx2 hne
  have I2 := Inv.made (C := clA X.mg C) I
  rw [hX, hDX] at I2
  have S1 := S.more (o := .own x) hx2
  have hx3 : (upd H dx (.own x)) x = none := by rw [upd_ne hne]; exact hx1
  have hF3 : (w.more dx (.own x)).F x = none := S1.cells.fh.fresh hx3
  have S2 := S1.cell (o := .ins (clA X.mg C) dx []) (mo := .ins C [] []) hx3 ⟨hF3, dx, [], upd_same, ⟨hc, fun f m => by cases m⟩, rfl, .nil⟩
  have lw : w.le ((w.more dx (.own x)).cell x) := (Wd.le_more (S.cells.fh.fresh hx2)).trans Wd.le_cell
  have r2 := vals_pk ((Vals.append (show Vals (V.ref x :: vs) (Value.ref x :: us) from .cons rfl r) rI).append rz) idx
  have ra2 : RepsA X.K X.mg ((w.more dx (.own x)).cell x) (pk idx ((V.ref x :: vs) ++ dvs ++ xs)) (pk idx ((.cell M.length :: ds) ++ dfl ++ zs)) := ((((RepsA.cons (RepA.cell S1) (ra.mono lw)) : RepsA X.K X.mg _ (V.ref x :: vs) (.cell M.length :: ds)).app (RepsA.of (hd _))).app (rb.mono lw)).pk idx
  have L := app_run (Q := fun v H' => v = .non ∧ PoE X O σ ρ w0 k (.ref x) H') S2 ra2 h fun v H' w2 d M' q1 q2 q3 q4 q5 => by
    obtain ⟨rfl, q5⟩ := q5
    have ev : v = .non := by
      rcases q4 with q4 | ⟨_, _, _, e, _⟩
      · cases q4; rfl
      · cases e
    refine ⟨ev, ?_⟩
    have ex : w2.al[M.length]? = some x := by
      rw [q2]
      show (w.al ++ [x])[M.length]? = some x
      rw [← S.cells.len, List.getElem?_append_right (Nat.le_refl _)]
      simp
    cases b with
    | true => exact ⟨w2, .cell M.length, M', (le.trans lw).trans q1, q3, .inr ⟨_, x, rfl, rfl, ex⟩, q5⟩
    | false =>
      obtain ⟨M0, kz, ys, rfl, hl, q5⟩ := q5
      obtain ⟨z1, dx', fs, z2, z3, z4, z5⟩ := q3.cells.at_ M.length x (.ins C kz ys) ex (by rw [← hl, List.getElem?_append_right (Nat.le_refl _)]; simp)
      have q2' : w2.al = w.al ++ [x] := q2
      have q3' : Sat X.K X.mg O σ H' ρ (M0 ++ [.ins C kz ys]) ⟨w2.F, w.al ++ [x]⟩ := by rw [← q2']; exact q3
      have lF : w.le ⟨w2.F, w.al⟩ := ⟨fun a o e => q1.F a o (lw.F a o e), [], by simp⟩
      have S3 := q3'.pop z2 (S.step.nw (.of hx1)) z1 (S.step.le.trans lF) fun i d e => let ⟨v, e1, e2⟩ := S.slots i d e; ⟨v, e1, e2.mono lF⟩
      exact ⟨⟨upd w2.F x _, w.al⟩, .ins C kz ys, M0, (le.trans lF).trans ⟨Ex.upd z1, [], by simp⟩, S3, .inl (.ins upd_same z3 z4 (z5.mono (Ex.upd z1))), q5⟩
  refine wpAny_call (make_map (f := f) I.kIn Mk.makes Mk.init (beq_iff_eq.mp Mk.fn) ?_)
  rw [hX, hDX]
  refine codeAny_mono (F.run _ X.stack _ _ ⟨Value.ref x :: us, ks.zip ws⟩ _ _ _ _ (hr.make (clA X.mg C) us (ks.zip ws))
    (I2.env0.make (clA X.mg C) us (ks.zip ws)) (hb _ (Value.ref x :: us) ws I2.kIn (congrArg Nat.succ ((r.length.symm.trans ra.length).trans l1)) ((rz.length.symm.trans rb.length).trans l2)) r2 L) fun r s' hq' => ?_
  cases r with
  | error e => exact passAt TX σ pins _ _ e s' I2 hq'
  | ok fl =>
    cases fl with
    | ret u =>
      obtain ⟨v, H', I3, rv, ev, q3⟩ := I2.after hq'
      subst ev
      exact ⟨rv, ⟨V.ref x, H', I3, rfl, q3⟩⟩
    | next => exact False.elim hq'
    | brk => exact False.elim hq'
    | cont => exact False.elim hq'
end

/-! ### the rules -/
/-- f(..). n: so many are written, m: so many keywords -/
def dCall (ad : Ad) (sp : SpD) (mu : List Nat) (n m : Nat) (idx : List Nat) (dfl : List D) (t tk : DA) : DE := fun ρ M k x => t ρ M (fun ds M1 => tk ρ M1 (fun zs M2 => ds.length = n ∧ zs.length = m ∧ app' sp mu (pk idx (ds ++ dfl ++ zs)) M2 (ad k) x) x) x
/-- o.m(..) of an instance of C -/
def dMeth (C m : Str) (ad : Ad) (sp : SpD) (mu : List Nat) (n j : Nat) (idx : List Nat) (dfl : List D) (to : DE) (t tk : DA) : DE := fun ρ M k x => to ρ M (fun d M0 => (∃ ks xs, view M0 d = .ins C ks xs ∧ ks.contains m = false) ∧
  t ρ M0 (fun ds M1 => tk ρ M1 (fun zs M2 => ds.length = n ∧ zs.length = j ∧ app' sp mu (pk idx ((d :: ds) ++ dfl ++ zs)) M2 (ad k) x) x) x) x
/-- C(..) -/
def dMake (C : Str) (b : Bool) (sp : SpD) (mu : List Nat) (n m : Nat) (idx : List Nat) (dfl : List D) (t tk : DA) : DE := fun ρ M k x => t ρ M (fun ds M1 => tk ρ M1 (fun zs M2 => ds.length = n ∧ zs.length = m ∧
  app' sp mu (pk idx ((.cell M2.length :: ds) ++ dfl ++ zs)) (M2 ++ [.ins C [] []]) (mkEnd b C M2.length k) x) x) x
section
variable {X : Cx} {O : Org} {σ : L2.St} {H : Hp} {ρ : Ro} {M : MS} {w w0 : Wd} {sp : SpD} {mu idx : List Nat} {dfl : List D} {dvs : List V} {ad : Ad} {t tk : DA} {to : DE} {b : Bool}
  {kd n : Nat} {f : Addr} {fd : FuncData} {ps ks : List Str} {C m x : Str} {p pos apos : Pos} {e o : Expr} {es : List Expr} {kws : List Keyword}
theorem ev_call (F : FnD X kd f fd ps sp) (hr : Room kd X.A) (hg : Gl X x) (hm : X.mg x = some (.ref f)) (hk : PySem.W.keepIn X.K (.ref f) = true) (hb : Bd X.K fd ps n ks idx dvs) (hd : DflD X.K X.mg dvs dfl) (had : AdOk ad)
    (ha : EVA X (e :: es) t) (hkw : EVK X kws tk) (hall : (backToKw pos (keywordEach kws X.env)).all (·.1.isSome) = true := by rfl) (hks : (backToKw pos (keywordEach kws X.env)).filterMap (·.1) = ks := by rfl)
    (hdb : (x == ("__debug__" : Str)) = false := by decide) (he : starEach (e :: es) X.env = (false, eval e X.env) :: starEach es X.env := by rfl)
    (hpl : ((backTo pos (starEach (e :: es) X.env)).any (·.1) || (backToKw pos (keywordEach kws X.env)).any (·.1.isNone)) = false := by rfl) :
    EV X (.Call (.Name x p) (e :: es) kws pos) (dCall ad sp mu n ks.length idx dfl t tk) := by
  refine ⟨fun O R TX ρ M k h σ H w S pins s I => ?_⟩
  refine wpAny_Call_Name_kw (ld_glob I hg hm ?_ hdb)
  refine PySem.W.callWith_KW (h₀ := X.base) I.ok.mod.kin hk hall (thn (ha.run O R TX ρ M _ h σ H w S pos pins s I) fun us s1 ⟨vs, H1, I1, r, w1, ds, M1, le1, S1, r1, q1⟩ => ?_) hpl he
  refine thn (hkw.run O R TX ρ M1 _ q1 σ H1 w1 S1 pos pins s1 I1) fun ws s2 ⟨xs, H2, I2, rz, w2, zs, M2, le2, S2, r2, l1, l2, q2⟩ => ⟨I2.kIn, ?_⟩
  rw [hks]
  exact runD F hr hb hd had TX I2 r rz l1 l2 S2 (le1.trans le2) (r1.mono le2) r2 q2
theorem ev_call0 (F : FnD X kd f fd ps sp) (hr : Room kd X.A) (hg : Gl X x) (hm : X.mg x = some (.ref f)) (hk : PySem.W.keepIn X.K (.ref f) = true) (hb : Bd X.K fd ps 0 ks idx dvs) (hd : DflD X.K X.mg dvs dfl) (had : AdOk ad)
    (hkw : EVK X kws tk) (hall : (backToKw pos (keywordEach kws X.env)).all (·.1.isSome) = true := by rfl) (hks : (backToKw pos (keywordEach kws X.env)).filterMap (·.1) = ks := by rfl)
    (hdb : (x == ("__debug__" : Str)) = false := by decide)
    (hpl : ((backTo pos (starEach [] X.env)).any (·.1) || (backToKw pos (keywordEach kws X.env)).any (·.1.isNone)) = false := by rfl) :
    EV X (.Call (.Name x p) [] kws pos) (dCall ad sp mu 0 ks.length idx dfl dNil tk) := by
  refine ⟨fun O R TX ρ M k h σ H w S pins s I => ?_⟩
  refine wpAny_Call_Name_kw (ld_glob I hg hm ?_ hdb)
  refine PySem.W.callWith_KW0 (h₀ := X.base) I.ok.mod.kin hk hall ?_ hpl
  refine thn (hkw.run O R TX ρ M _ h σ H w S pos pins s I) fun ws s2 ⟨xs, H2, I2, rz, w2, zs, M2, le2, S2, r2, l1, l2, q2⟩ => ⟨I2.kIn, ?_⟩
  rw [hks]
  exact runD (us := []) (vs := []) (ds := []) F hr hb hd had TX I2 .nil rz l1 l2 S2 le2 .nil r2 q2
theorem ev_meth {pl : Sem Bool} (ho : EV X o to) (hm : Meth X.K (clA X.mg C) m f) (F : FnD X kd f fd ps sp) (hr : Room kd X.A) (hb : Bd X.K fd ps (n + 1) ks idx dvs) (hd : DflD X.K X.mg dvs dfl) (had : AdOk ad)
    (ha : EVA X (e :: es) t) (hkw : EVK X kws tk) (hall : (backToKw pos (keywordEach kws X.env)).all (·.1.isSome) = true := by rfl) (hks : (backToKw pos (keywordEach kws X.env)).filterMap (·.1) = ks := by rfl)
    (he : starEach (e :: es) X.env = (false, eval e X.env) :: starEach es X.env := by rfl)
    (hpl : ((backTo pos (starEach (e :: es) X.env)).any (·.1) || (backToKw pos (keywordEach kws X.env)).any (·.1.isNone)) = false := by rfl)
    (ht : eval (.Call (.Attribute o m apos) (e :: es) kws pos) X.env = (do
      let ov ← eval o X.env
      standAt apos.atName
      let (f, first) ← holding [ov] (getMethod ov m pl)
      callWith pos f first (backTo pos (starEach (e :: es) X.env)) (backToKw pos (keywordEach kws X.env))) := by rfl) :
    EV X (.Call (.Attribute o m apos) (e :: es) kws pos) (dMeth C m ad sp mu n ks.length idx dfl to t tk) := by
  refine ⟨fun O R TX ρ M k h σ H w S pins s I => ?_⟩
  refine PySem.W.methodCall_KW (pl := pl) (thn (ho.run O R TX ρ M _ h σ H w S pins s I) fun u s0 ⟨v, H0, I0, rv, w0, d, M0, le0, S0, r0, ⟨kz, ys, hC, hn⟩, q0⟩ => ?_) ht
  have rd := rdh_view S0.cells r0
  rw [hC] at rd
  obtain ⟨a, dx, fs, rfl, ea, io, rfl, _⟩ := rd.insE S0.cells.fh
  obtain rfl : u = Value.ref a := rv
  have lk : fs.lookup m = none := by
    cases q : fs.lookup m with
    | none => rfl
    | some z =>
      obtain ⟨l1, l2, e1, _⟩ := List.lookup_eq_some_iff.mp q
      rw [e1] at hn
      simp at hn
  refine getmeth_ok I0 ea io.1 hm lk ?_
  refine PySem.W.callWith_KW (first := [.ref a]) (h₀ := X.base) I0.ok.mod.kin hm.kp hall (thn (ha.run O R TX ρ M0 _ q0 σ H0 w0 S0 pos pins s0 I0) fun us s1 ⟨vs, H1, I1, r, w1, ds, M1, le1, S1, r1, q1⟩ => ?_) hpl he
  refine thn (hkw.run O R TX ρ M1 _ q1 σ H1 w1 S1 pos pins s1 I1) fun ws s2 ⟨xs, H2, I2, rz, w2, zs, M2, le2, S2, r2, l1, l2, q2⟩ => ⟨I2.kIn, ?_⟩
  rw [hks]
  exact runD (us := .ref a :: us) (vs := .ref a :: vs) (ds := d :: ds) F hr hb hd had TX I2 (.cons rfl r) rz (congrArg Nat.succ l1) l2 S2 ((le0.trans le1).trans le2) (.cons (r0.mono (le1.trans le2)) (r1.mono le2)) r2 q2
theorem ev_meth0 {pl : Sem Bool} (ho : EV X o to) (hm : Meth X.K (clA X.mg C) m f) (F : FnD X kd f fd ps sp) (hr : Room kd X.A) (hb : Bd X.K fd ps 1 ks idx dvs) (hd : DflD X.K X.mg dvs dfl) (had : AdOk ad)
    (hkw : EVK X kws tk) (hall : (backToKw pos (keywordEach kws X.env)).all (·.1.isSome) = true := by rfl) (hks : (backToKw pos (keywordEach kws X.env)).filterMap (·.1) = ks := by rfl)
    (hpl : ((backTo pos (starEach [] X.env)).any (·.1) || (backToKw pos (keywordEach kws X.env)).any (·.1.isNone)) = false := by rfl)
    (ht : eval (.Call (.Attribute o m apos) [] kws pos) X.env = (do
      let ov ← eval o X.env
      standAt apos.atName
      let (f, first) ← holding [ov] (getMethod ov m pl)
      callWith pos f first (backTo pos (starEach [] X.env)) (backToKw pos (keywordEach kws X.env))) := by rfl) :
    EV X (.Call (.Attribute o m apos) [] kws pos) (dMeth C m ad sp mu 0 ks.length idx dfl to dNil tk) := by
  refine ⟨fun O R TX ρ M k h σ H w S pins s I => ?_⟩
  refine PySem.W.methodCall_KW (pl := pl) (thn (ho.run O R TX ρ M _ h σ H w S pins s I) fun u s0 ⟨v, H0, I0, rv, w0, d, M0, le0, S0, r0, ⟨kz, ys, hC, hn⟩, q0⟩ => ?_) ht
  have rd := rdh_view S0.cells r0
  rw [hC] at rd
  obtain ⟨a, dx, fs, rfl, ea, io, rfl, _⟩ := rd.insE S0.cells.fh
  obtain rfl : u = Value.ref a := rv
  have lk : fs.lookup m = none := by
    cases q : fs.lookup m with
    | none => rfl
    | some z =>
      obtain ⟨l1, l2, e1, _⟩ := List.lookup_eq_some_iff.mp q
      rw [e1] at hn
      simp at hn
  refine getmeth_ok I0 ea io.1 hm lk ?_
  refine PySem.W.callWith_KW0 (first := [.ref a]) (h₀ := X.base) I0.ok.mod.kin hm.kp hall ?_ hpl
  refine thn (hkw.run O R TX ρ M0 _ q0 σ H0 w0 S0 pos pins s0 I0) fun ws s2 ⟨xs, H2, I2, rz, w2, zs, M2, le2, S2, r2, l1, l2, q2⟩ => ⟨I2.kIn, ?_⟩
  rw [hks]
  exact runD (us := [.ref a]) (vs := [.ref a]) (ds := [d]) F hr hb hd had TX I2 (.cons rfl .nil) rz rfl l2 S2 (le0.trans le2) (.cons (r0.mono le2) .nil) r2 q2
theorem ev_make (Mk : Mk X.K (clA X.mg C) f) (F : FnD X kd f fd ps sp) (hc : Cls X.K (clA X.mg C)) (hr : Room (kd + 1) X.A) (hg : Gl X C) (hm : X.mg C = some (.ref (clA X.mg C))) (hb : Bd X.K fd ps (n + 1) ks idx dvs) (hd : DflD X.K X.mg dvs dfl)
    (ha : EVA X (e :: es) t) (hkw : EVK X kws tk) (hall : (backToKw pos (keywordEach kws X.env)).all (·.1.isSome) = true := by rfl) (hks : (backToKw pos (keywordEach kws X.env)).filterMap (·.1) = ks := by rfl)
    (hdb : (C == ("__debug__" : Str)) = false := by decide) (he : starEach (e :: es) X.env = (false, eval e X.env) :: starEach es X.env := by rfl)
    (hpl : ((backTo pos (starEach (e :: es) X.env)).any (·.1) || (backToKw pos (keywordEach kws X.env)).any (·.1.isNone)) = false := by rfl) :
    EV X (.Call (.Name C p) (e :: es) kws pos) (dMake C b sp mu n ks.length idx dfl t tk) := by
  refine ⟨fun O R TX ρ M k h σ H w S pins s I => ?_⟩
  refine wpAny_Call_Name_kw (ld_glob I hg hm ?_ hdb)
  refine PySem.W.callWith_KW (h₀ := X.base) I.ok.mod.kin Mk.kp hall (thn (ha.run O R TX ρ M _ h σ H w S pos pins s I) fun us s1 ⟨vs, H1, I1, r, w1, ds, M1, le1, S1, r1, q1⟩ => ?_) hpl he
  refine thn (hkw.run O R TX ρ M1 _ q1 σ H1 w1 S1 pos pins s1 I1) fun ws s2 ⟨xs, H2, I2, rz, w2, zs, M2, le2, S2, r2, l1, l2, q2⟩ => ⟨I2.kIn, ?_⟩
  rw [hks]
  exact runM Mk F hc hr hb hd TX I2 r rz l1 l2 S2 (le1.trans le2) (r1.mono le2) r2 q2
theorem ev_make0 (Mk : Mk X.K (clA X.mg C) f) (F : FnD X kd f fd ps sp) (hc : Cls X.K (clA X.mg C)) (hr : Room (kd + 1) X.A) (hg : Gl X C) (hm : X.mg C = some (.ref (clA X.mg C))) (hb : Bd X.K fd ps 1 ks idx dvs) (hd : DflD X.K X.mg dvs dfl)
    (hkw : EVK X kws tk) (hall : (backToKw pos (keywordEach kws X.env)).all (·.1.isSome) = true := by rfl) (hks : (backToKw pos (keywordEach kws X.env)).filterMap (·.1) = ks := by rfl)
    (hdb : (C == ("__debug__" : Str)) = false := by decide)
    (hpl : ((backTo pos (starEach [] X.env)).any (·.1) || (backToKw pos (keywordEach kws X.env)).any (·.1.isNone)) = false := by rfl) :
    EV X (.Call (.Name C p) [] kws pos) (dMake C b sp mu 0 ks.length idx dfl dNil tk) := by
  refine ⟨fun O R TX ρ M k h σ H w S pins s I => ?_⟩
  refine wpAny_Call_Name_kw (ld_glob I hg hm ?_ hdb)
  refine PySem.W.callWith_KW0 (h₀ := X.base) I.ok.mod.kin Mk.kp hall ?_ hpl
  refine thn (hkw.run O R TX ρ M _ h σ H w S pos pins s I) fun ws s2 ⟨xs, H2, I2, rz, w2, zs, M2, le2, S2, r2, l1, l2, q2⟩ => ⟨I2.kIn, ?_⟩
  rw [hks]
  exact runM (us := []) (vs := []) (ds := []) Mk F hc hr hb hd TX I2 .nil rz l1 l2 S2 le2 .nil r2 q2
end
end Dl
set_option Elab.async false
set_option linter.all false
set_option maxRecDepth 100000
set_option maxHeartbeats 1000000
set_option autoImplicit false
/-! Dl7: statements. -/
namespace Dl
open PySem PySem.Spec PyProof.Rows L2
variable [Tb]

structure EnD where
  nx : Ro → MS → Prop
  rt : D → MS → Prop
  bk : Ro → MS → Prop := fun _ _ => False
  ct : Ro → MS → Prop := fun _ _ => False
abbrev XR := Exn → Ro → MS → Prop
abbrev DS := EnD → XR → Ro → MS → Prop
def LEn (X : Cx) (O : Org) (w0 : Wd) (E : EnD) : Ends where
  nx := fun σ H => ∃ ρ M w, w0.le w ∧ Sat X.K X.mg O σ H ρ M w ∧ E.nx ρ M
  bk := fun σ H => ∃ ρ M w, w0.le w ∧ Sat X.K X.mg O σ H ρ M w ∧ E.bk ρ M
  ct := fun σ H => ∃ ρ M w, w0.le w ∧ Sat X.K X.mg O σ H ρ M w ∧ E.ct ρ M
  rt := fun v H => ∃ σ ρ d M w, w0.le w ∧ Sat X.K X.mg O σ H ρ M w ∧ RepA X.K X.mg w v d ∧ E.rt d M
def WS (X : Cx) (st : Stmt) : TS := fun D σ H => ∀ pins s, Inv X pins σ H s → wpAny (model X.prog X.w) X.A (exec st X.env) (SP X pins D) X.xe s
theorem ws_ps (X : Cx) (st : Stmt) : PS X st (WS X st) := ⟨fun pins s _ _ _ I h => h pins s I⟩
theorem ws_of {X : Cx} {st : Stmt} {t : TS} (h : PS X st t) {D : Ends} {σ : L2.St} {H : Hp} (q : t D σ H) : WS X st D σ H := fun pins s I => h.run pins s σ H D I q
def WSs (X : Cx) (st : List Stmt) : TS := fun D σ H => ∀ pins s, Inv X pins σ H s → wpAny (model X.prog X.w) X.A (execs st X.env) (SP X pins D) X.xe s
theorem wss_pss (X : Cx) (st : List Stmt) : PSs X st (WSs X st) := ⟨fun pins s _ _ _ I h => h pins s I⟩
theorem wss_of {X : Cx} {st : List Stmt} {t : TS} (h : PSs X st t) {D : Ends} {σ : L2.St} {H : Hp} (q : t D σ H) : WSs X st D σ H := fun pins s I => h.run pins s σ H D I q
def EndsLe (D D' : Ends) : Prop := (∀ σ H, D.nx σ H → D'.nx σ H) ∧ (∀ v H, D.rt v H → D'.rt v H) ∧ (∀ σ H, D.bk σ H → D'.bk σ H) ∧ ∀ σ H, D.ct σ H → D'.ct σ H
theorem SP.le {X : Cx} {pins : List (Addr × Obj)} {D D' : Ends} (h : EndsLe D D') {f : Flow} {s : Shared} (q : SP X pins D f s) : SP X pins D' f s := by
  cases f with
  | next => obtain ⟨σ, H, I, q⟩ := q; exact ⟨σ, H, I, h.1 _ _ q⟩
  | brk => obtain ⟨σ, H, I, q⟩ := q; exact ⟨σ, H, I, h.2.2.1 _ _ q⟩
  | cont => obtain ⟨σ, H, I, q⟩ := q; exact ⟨σ, H, I, h.2.2.2 _ _ q⟩
  | ret v => obtain ⟨x, σ, H, I, r, q⟩ := q; exact ⟨x, σ, H, I, r, h.2.1 _ _ q⟩
theorem ws_mono {X : Cx} {st : Stmt} {D D' : Ends} {σ : L2.St} {H : Hp} (h : EndsLe D D') (q : WS X st D σ H) : WS X st D' σ H := fun pins s I => thn (q pins s I) fun _ _ z => SP.le h z
theorem wss_mono {X : Cx} {st : List Stmt} {D D' : Ends} {σ : L2.St} {H : Hp} (h : EndsLe D D') (q : WSs X st D σ H) : WSs X st D' σ H := fun pins s I => thn (q pins s I) fun _ _ z => SP.le h z
theorem len_le {X : Cx} {O : Org} {w w0 : Wd} (l : w0.le w) (E : EnD) : EndsLe (LEn X O w E) (LEn X O w0 E) :=
  ⟨fun _ _ ⟨ρ, M, w1, a, b⟩ => ⟨ρ, M, w1, l.trans a, b⟩, fun _ _ ⟨σ, ρ, d, M, w1, a, b⟩ => ⟨σ, ρ, d, M, w1, l.trans a, b⟩, fun _ _ ⟨ρ, M, w1, a, b⟩ => ⟨ρ, M, w1, l.trans a, b⟩, fun _ _ ⟨ρ, M, w1, a, b⟩ => ⟨ρ, M, w1, l.trans a, b⟩⟩
structure EVS (X : Cx) (st : Stmt) (τ : DS) : Prop where
  run : ∀ (O : Org) (R : XR), TakesD X O R → ∀ (ρ : Ro) (M : MS) (E : EnD), τ E R ρ M → ∀ (σ : L2.St) (H : Hp) (w : Wd), Sat X.K X.mg O σ H ρ M w → WS X st (LEn X O w E) σ H
structure EVSs (X : Cx) (st : List Stmt) (τ : DS) : Prop where
  run : ∀ (O : Org) (R : XR), TakesD X O R → ∀ (ρ : Ro) (M : MS) (E : EnD), τ E R ρ M → ∀ (σ : L2.St) (H : Hp) (w : Wd), Sat X.K X.mg O σ H ρ M w → WSs X st (LEn X O w E) σ H

section
variable {K : PySem.W.Frag} {mg : Str → Option Value} {w : Wd} {H : Hp} {M : MS} {O : Org} {σ : L2.St} {ρ : Ro} {v : V} {d : D}
theorem Sat.set (s : Sat K mg O σ H ρ M w) (r : RepA K mg w v d) (i : Nat) : Sat K mg O (σ.set i (some v)) H (ρ.set i (some d)) M w := by
  refine ⟨s.step, s.tabs, s.cells, by rw [List.length_set, List.length_set]; exact s.len, fun j e h => ?_⟩
  by_cases hij : i = j
  · subst hij
    have hl : i < ρ.length := by
      have := (List.getElem?_eq_some_iff.mp h).1
      rwa [List.length_set] at this
    rw [List.getElem?_set_self hl] at h
    cases Option.some.inj (Option.some.inj h)
    exact ⟨v, List.getElem?_set_self (by rw [← s.len]; exact hl), r⟩
  · rw [List.getElem?_set_ne hij] at h ⊢
    exact s.slots j e h
/-- a thing that may change, changes -/
theorem Sat.write {i : Nat} {a : Addr} {o o' : HO} {mo' : MO} (s : Sat K mg O σ H ρ M w) (e : w.al[i]? = some a) (hF : w.F a = none) (ho : H a = some o) (nt : noTbl o) (nx : ∀ φ, o ≠ .ext φ) (r : MRep K mg w.F (upd H a o') a mo') :
    Sat K mg O σ (upd H a o') ρ (M.set i mo') w := by
  have ma := List.mem_of_getElem? e
  have ne : ∀ b u, H b = some u → b ∉ w.al → b ≠ a := fun b u _ n z => n (z ▸ ma)
  refine ⟨⟨s.step.le, fun b u h t n => ?_, fun b u h t => ?_, s.step.grow⟩, fun p hp => ?_, ⟨fun b u h => ?_, s.cells.nd, by rw [List.length_set]; exact s.cells.len, fun j b mo h1 h2 => ?_, s.cells.ft⟩, s.len, s.slots⟩
  · obtain ⟨z1, z2⟩ := s.step.keep b u h t n
    exact ⟨by rw [upd_ne (ne b u z1 z2)]; exact z1, z2⟩
  · by_cases hb : b = a
    · rw [hb]; exact r.thereN
    · obtain ⟨u', z, z2⟩ := s.step.there b u h t
      exact ⟨u', by rw [upd_ne hb]; exact z, z2⟩
  · obtain ⟨ps, z1, z2, z3⟩ := s.tabs p hp
    refine ⟨ps, ?_, z2, fun pos cv hc => ?_⟩
    · rw [upd_ne]
      · exact z1
      · intro z
        rw [z, ho] at z1
        exact nt _ (Option.some.inj z1)
    · obtain ⟨c, e1, e2⟩ := z3 pos cv hc
      refine ⟨c, e1, ?_⟩
      rw [upd_ne]
      · exact e2
      · intro z
        rw [z, ho] at e2
        exact nx _ (Option.some.inj e2)
  · rw [upd_ne (fun z => by rw [z, hF] at h; cases h)]
    exact s.cells.fh b u h
  · by_cases hij : i = j
    · subst hij
      rw [e] at h1
      cases h1
      have hl : i < M.length := by rw [← s.cells.len]; exact (List.getElem?_eq_some_iff.mp e).1
      rw [List.getElem?_set_self hl] at h2
      cases h2
      exact r
    · rw [List.getElem?_set_ne hij] at h2
      have nb : b ≠ a := fun z => hij (nd_inj s.cells.nd e (z ▸ h1))
      exact (s.cells.at_ j b mo h1 h2).stay (Ex.refl _) (fun n => n) fun u h => by rw [upd_ne nb]; exact h
end

/-! ### rules -/
def sNil : DS := fun E _ ρ M => E.nx ρ M
def sCons (t u : DS) : DS := fun E R ρ M => t { E with nx := u E R } R ρ M
def sSet (i : Nat) (te : DE) : DS := fun E R ρ M => te ρ M (fun d M1 => E.nx (ρ.set i (some d)) M1) fun x M1 => R x ρ M1
def sRet (te : DE) : DS := fun E R ρ M => te ρ M E.rt fun x M1 => R x ρ M1
def sRetN : DS := fun E _ _ M => E.rt .non M
def sIf (tc : DT) (t u : DS) : DS := fun E R ρ M => tc ρ M (fun b M1 => if b = true then t E R ρ M1 else u E R ρ M1) fun x M1 => R x ρ M1
def sDrop (te : DE) : DS := fun E R ρ M => te ρ M (fun _ M1 => E.nx ρ M1) fun x M1 => R x ρ M1
def sBrk : DS := fun E _ ρ M => E.bk ρ M
def sCnt : DS := fun E _ ρ M => E.ct ρ M
def sNever : DS := fun _ _ _ _ => False
section
variable {X : Cx} {st : Stmt} {rest : List Stmt} {t u : DS} {e c : Expr} {te : DE} {tc : DT} {pos : Pos}
theorem evs_nil : EVSs X [] sNil := ⟨fun O R TX ρ M E h σ H w s => wss_of pss_nil ⟨ρ, M, w, .refl w, s, h⟩⟩
theorem evs_cons (h1 : EVS X st t) (h2 : EVSs X rest u) : EVSs X (st :: rest) (sCons t u) := ⟨fun O R TX ρ M E h σ H w s =>
  wss_of (pss_cons (ws_ps X st) (wss_pss X rest)) (ws_mono (D := LEn X O w { E with nx := u E R }) ⟨fun σ' H' ⟨ρ', M', w', l, s', q⟩ => wss_mono (len_le l E) (h2.run O R TX ρ' M' E q σ' H' w' s'), fun _ _ q => q, fun _ _ q => q, fun _ _ q => q⟩
    (h1.run O R TX ρ M _ h σ H w s))⟩
theorem evs_set {i : Nat} {x : Str} {pos' : Pos} (hN : X.N.Nodup) (hi : X.N[i]? = some x) (hx : Loc X.env.scope x) (he : EV X e te) (hs : swapsWith e (some (.Name x pos')) pos.line X.env = pure false := by rfl)
    (hf : X.fn x = true ∨ X.env.scope.names.lookup x = some .local := by first | exact .inl rfl | exact .inr rfl | assumption) : EVS X (.Assign [.Name x pos'] e pos) (sSet i te) := ⟨fun O R TX ρ M E h σ H w s =>
  ws_of (ps_set hN hi hx (we_pe X e) hs hf) (we_mono (he.run O R TX ρ M _ h σ H w s) fun v H1 ⟨w1, d, M1, l, s1, r, q⟩ => ⟨_, M1, w1, l, s1.set r i, q⟩)⟩
theorem evs_ret (he : EV X e te) : EVS X (.Return (some e) pos) (sRet te) := ⟨fun O R TX ρ M E h σ H w s =>
  ws_of (ps_ret (we_pe X e)) (we_mono (he.run O R TX ρ M _ h σ H w s) fun v H1 ⟨w1, d, M1, l, s1, r, q⟩ => ⟨σ, ρ, d, M1, w1, l, s1, r, q⟩)⟩
theorem evs_retN : EVS X (.Return none pos) sRetN := ⟨fun O R TX ρ M E h σ H w s => ws_of ps_retN ⟨σ, ρ, .non, M, w, .refl w, s, .inl .non, h⟩⟩
theorem evs_if {a b : List Stmt} (hc : EVT X c tc) (ha : EVSs X a t) (hb : EVSs X b u) : EVS X (.If c a b pos) (sIf tc t u) := ⟨fun O R TX ρ M E h σ H w s =>
  ws_of (ps_if (wt_pt X c) (wss_pss X a) (wss_pss X b)) (fun pins s0 I => thn (hc.run O R TX ρ M _ h σ H w s pins s0 I) fun d s1 ⟨H1, I1, w1, M1, l, sa, q⟩ => ⟨H1, I1, by
    cases d with
    | true => exact wss_mono (len_le l E) (ha.run O R TX ρ M1 E q σ H1 w1 sa)
    | false => exact wss_mono (len_le l E) (hb.run O R TX ρ M1 E q σ H1 w1 sa)⟩)⟩
theorem evs_expr (he : EV X e te) (hs : swapsWith e none pos.line X.env = pure false := by rfl) : EVS X (.Expr e pos) (sDrop te) := ⟨fun O R TX ρ M E h σ H w s =>
  ws_of (ps_expr (we_pe X e) hs) (we_mono (he.run O R TX ρ M _ h σ H w s) fun v H1 ⟨w1, d, M1, l, s1, r, q⟩ => ⟨ρ, M1, w1, l, s1, q⟩)⟩
theorem evs_pass : EVS X (.Pass pos) sNil := ⟨fun O R TX ρ M E h σ H w s => ws_of ps_pass ⟨ρ, M, w, .refl w, s, h⟩⟩
theorem evs_doc {x j pos'} : EVS X (.Expr (.Constant (.str x) j pos) pos') sNil := ⟨fun O R TX ρ M E h σ H w s => ws_of ps_doc ⟨ρ, M, w, .refl w, s, h⟩⟩
theorem evs_brk : EVS X (.Break pos) sBrk := ⟨fun O R TX ρ M E h σ H w s => ws_of ps_break ⟨ρ, M, w, .refl w, s, h⟩⟩
theorem evs_cnt : EVS X (.Continue pos) sCnt := ⟨fun O R TX ρ M E h σ H w s => ws_of ps_continue ⟨ρ, M, w, .refl w, s, h⟩⟩
theorem evs_never : EVS X st sNever := ⟨fun O R TX ρ M E h σ H w s => h.elim⟩
theorem evss_never {sts : List Stmt} : EVSs X sts sNever := ⟨fun O R TX ρ M E h σ H w s => h.elim⟩
/-- a, b = x, y -/
def sPar (i j : Nat) (ta : DA) : DS := fun E R ρ M => ta ρ M (fun ds M1 => ∃ d1 d2, ds = [d1, d2] ∧ E.nx ((ρ.set i (some d1)).set j (some d2)) M1) fun x M1 => R x ρ M1
theorem evs_par {i j : Nat} {x y : Str} {a b : Expr} {ta : DA} {px py pt : Pos} {kt k2 pt2} (hc : X.calm = true) (hN : X.N.Nodup) (hi : X.N[i]? = some x) (hj : X.N[j]? = some y) (hij : i ≠ j)
    (hx : X.env.scope.names.lookup x = some .local) (hy : X.env.scope.names.lookup y = some .local) (ha : EVA X [a, b] ta)
    (hw : swappedStores [.Tuple [.Name x px, .Name y py] kt pt] (.Tuple [a, b] k2 pt2) X.env = pure (some [x, y]))
    (hs : swapsWithSole [.Tuple [.Name x px, .Name y py] kt pt] (.Tuple [a, b] k2 pt2) pos.line X.env = pure false := by rfl) :
    EVS X (.Assign [.Tuple [.Name x px, .Name y py] kt pt] (.Tuple [a, b] k2 pt2) pos) (sPar i j ta) := ⟨fun O R TX ρ M E h σ H w s =>
  ws_of (ps_par hc hN hi hj hij hx hy (wa_pa X [a, b]) hw hs) (wa_mono (ha.run O R TX ρ M _ h σ H w s) fun vs H1 ⟨w1, ds, M1, l, s1, r, d1, d2, e, q⟩ => by
    subst e
    cases r with
    | cons r1 t =>
      cases t with
      | cons r2 t =>
        cases t
        exact ⟨_, _, rfl, _, M1, w1, l, (s1.set r1 i).set r2 j, q⟩)⟩
end

/-! ### targets -/
abbrev DG := D → Ro → MS → (Ro → MS → Prop) → Prop
abbrev DGs := List D → Ro → MS → (Ro → MS → Prop) → Prop
def WG (X : Cx) (tg : Expr) : TG := fun v σ H Q => ∀ pins s u, Inv X pins σ H s → RelV v u → wpAny (model X.prog X.w) X.A (assign tg X.env u) (fun _ s' => ∃ σ' H', Inv X pins σ' H' s' ∧ Q σ' H') X.xe s
theorem wg_pg (X : Cx) (tg : Expr) : PG X tg (WG X tg) := ⟨fun pins s _ _ _ u _ I r h => h pins s u I r⟩
theorem wg_of {X : Cx} {tg : Expr} {t : TG} (h : PG X tg t) {v : V} {σ : L2.St} {H : Hp} {Q : L2.St → Hp → Prop} (q : t v σ H Q) : WG X tg v σ H Q := fun pins s u I r => h.run pins s σ H v u Q I r q
theorem wg_mono {X : Cx} {tg : Expr} {v : V} {σ : L2.St} {H : Hp} {Q Q' : L2.St → Hp → Prop} (h : WG X tg v σ H Q) (q : ∀ σ H, Q σ H → Q' σ H) : WG X tg v σ H Q' := fun pins s u I r =>
  thn (h pins s u I r) fun _ s' ⟨σ', H', I', z⟩ => ⟨σ', H', I', q _ _ z⟩
/-- only the slots ix are touched -/
structure Tch (ix : List Nat) (σ σ' : L2.St) : Prop where
  len : σ'.length = σ.length
  out : ∀ j, j ∉ ix → σ'[j]? = σ[j]?
theorem Tch.refl {ix : List Nat} (σ : L2.St) : Tch ix σ σ := ⟨rfl, fun _ _ => rfl⟩
theorem Tch.trans {ix iy : List Nat} {σ σ1 σ2 : L2.St} (a : Tch ix σ σ1) (b : Tch iy σ1 σ2) : Tch (ix ++ iy) σ σ2 := ⟨b.len.trans a.len, fun j h => (b.out j fun m => h (List.mem_append_right _ m)).trans (a.out j fun m => h (List.mem_append_left _ m))⟩
def PoG (X : Cx) (O : Org) (w : Wd) (ix : List Nat) (σ0 : L2.St) (k : Ro → MS → Prop) : L2.St → Hp → Prop := fun σ H => Tch ix σ0 σ ∧ ∃ ρ M w', w.le w' ∧ Sat X.K X.mg O σ H ρ M w' ∧ k ρ M
structure EVG (X : Cx) (tg : Expr) (ix : List Nat) (g : DG) : Prop where
  run : ∀ (O : Org) (d : D) (ρ : Ro) (M : MS) (k : Ro → MS → Prop), g d ρ M k → ∀ (v : V) (σ : L2.St) (H : Hp) (w : Wd), Sat X.K X.mg O σ H ρ M w → RepA X.K X.mg w v d → WG X tg v σ H (PoG X O w ix σ k)
def WGs (X : Cx) (ts : List Expr) : TGs := fun vs σ H Q => ∀ pins s us, Inv X pins σ H s → Vals vs us → wpAny (model X.prog X.w) X.A (assignInOrder ((assignEach ts X.env).map (·.2)) us) (fun _ s' => ∃ σ' H', Inv X pins σ' H' s' ∧ Q σ' H') X.xe s
theorem wgs_pgs (X : Cx) (ts : List Expr) : PGs X ts (WGs X ts) := ⟨fun pins s _ _ _ us _ I r h => h pins s us I r⟩
theorem wgs_of {X : Cx} {ts : List Expr} {t : TGs} (h : PGs X ts t) {v : List V} {σ : L2.St} {H : Hp} {Q : L2.St → Hp → Prop} (q : t v σ H Q) : WGs X ts v σ H Q := fun pins s u I r => h.run pins s σ H v u Q I r q
theorem wgs_mono {X : Cx} {ts : List Expr} {v : List V} {σ : L2.St} {H : Hp} {Q Q' : L2.St → Hp → Prop} (h : WGs X ts v σ H Q) (q : ∀ σ H, Q σ H → Q' σ H) : WGs X ts v σ H Q' := fun pins s u I r =>
  thn (h pins s u I r) fun _ s' ⟨σ', H', I', z⟩ => ⟨σ', H', I', q _ _ z⟩
structure EVGs (X : Cx) (ts : List Expr) (ix : List Nat) (g : DGs) : Prop where
  run : ∀ (O : Org) (ds : List D) (ρ : Ro) (M : MS) (k : Ro → MS → Prop), g ds ρ M k → ∀ (vs : List V) (σ : L2.St) (H : Hp) (w : Wd), Sat X.K X.mg O σ H ρ M w → Reps X.K X.mg w.F vs ds → WGs X ts vs σ H (PoG X O w ix σ k)
def gSet (i : Nat) : DG := fun d ρ M k => k (ρ.set i (some d)) M
def gNo : DGs := fun ds ρ M k => ds = [] ∧ k ρ M
def gAnd (g : DG) (gs : DGs) : DGs := fun ds ρ M k => ∃ d r, ds = d :: r ∧ g d ρ M fun ρ1 M1 => gs r ρ1 M1 k
def gUn (n : Nat) (gs : DGs) : DG := fun d ρ M k => ∃ ds, view M d = .tup ds ∧ ds.length = n ∧ gs ds ρ M k
section
variable {X : Cx} {tg e : Expr} {es : List Expr} {g : DG} {gs : DGs} {pos : Pos} {te : DE} {ix iy : List Nat}
theorem evg_name {i : Nat} {x : Str} (hN : X.N.Nodup) (hi : X.N[i]? = some x) (hx : Loc X.env.scope x) (hf : X.fn x = true ∨ X.env.scope.names.lookup x = some .local := by first | exact .inl rfl | exact .inr rfl | assumption) : EVG X (.Name x pos) [i] (gSet i) :=
  ⟨fun O d ρ M k h v σ H w s r => wg_of (pg_name hN hi hx hf) ⟨⟨by rw [List.length_set], fun j n => List.getElem?_set_ne (fun e => n (by rw [e]; exact List.mem_cons_self))⟩, _, M, w, .refl w, s.set r i, h⟩⟩
theorem evgs_nil : EVGs X [] [] gNo := ⟨fun O ds ρ M k h vs σ H w s r => wgs_of pgs_nil (by obtain ⟨rfl, h⟩ := h; cases r; exact ⟨rfl, .refl σ, ρ, M, w, .refl w, s, h⟩)⟩
theorem evgs_cons (h1 : EVG X e ix g) (h2 : EVGs X es iy gs) (hs : (assignEach (e :: es) X.env).map (·.2) = assign e X.env :: (assignEach es X.env).map (·.2) := by rfl) : EVGs X (e :: es) (ix ++ iy) (gAnd g gs) := ⟨fun O ds ρ M k h vs σ H w s r =>
  wgs_of (pgs_cons (wg_pg X e) (wgs_pgs X es) hs) (by
    obtain ⟨d, ds', rfl, h⟩ := h
    cases r with
    | cons r1 rr =>
      exact ⟨_, _, rfl, wg_mono (h1.run O d ρ M _ h _ σ H w s (.inl r1)) fun σ1 H1 ⟨t1, ρ1, M1, w1, l, s1, q⟩ => wgs_mono (h2.run O ds' ρ1 M1 k q _ σ1 H1 w1 s1 (rr.mono l.F)) fun σ2 H2 ⟨t2, ρ2, M2, w2, l2, s2, q2⟩ => ⟨t1.trans t2, ρ2, M2, w2, l.trans l2, s2, q2⟩⟩)⟩
theorem evg_tup {k n : Nat} (hc : X.calm = true) (h : EVGs X es ix gs) (hn : (assignEach es X.env).length = n := by rfl) (hst : (assignEach es X.env).findIdx? (·.1) = none := by rfl) : EVG X (.Tuple es k pos) ix (gUn n gs) := ⟨fun O d ρ M k h0 v σ H w s r =>
  wg_of (pg_tup hc (wgs_pgs X es) hn hst) (by
    obtain ⟨ds, e1, e2, q⟩ := h0
    have rd := rdh_view s.cells r
    rw [e1] at rd
    have rp := rd.tupP
    cases rp with
    | tup h1 h2 => exact ⟨_, _, rfl, s.cells.fh.sqT h1, by rw [h2.length]; exact e2, h.run O ds ρ M k q _ σ H w s h2⟩)⟩
/-- target = value -/
def sAsg (te : DE) (g : DG) : DS := fun E R ρ M => te ρ M (fun d M1 => g d ρ M1 E.nx) fun x M1 => R x ρ M1
theorem evs_asg (he : EV X e te) (hg : EVG X tg ix g) (hs : swapsWithSole [tg] e pos.line X.env = pure false := by rfl) (hw : swappedStores [tg] e X.env = pure none := by rfl)
    (h1 : (assignEach [tg] X.env).map (·.2) = [assign tg X.env] := by rfl) : EVS X (.Assign [tg] e pos) (sAsg te g) := ⟨fun O R TX ρ M E h σ H w s =>
  ws_of (ps_asg (we_pe X e) (wg_pg X tg) hs hw h1) (we_mono (he.run O R TX ρ M _ h σ H w s) fun v H1 ⟨w1, d, M1, l, s1, r, q⟩ =>
    wg_mono (hg.run O d ρ M1 _ q v σ H1 w1 s1 r) fun σ2 H2 ⟨_, ρ2, M2, w2, l2, s2, q2⟩ => ⟨ρ2, M2, w2, l.trans l2, s2, q2⟩)⟩
/-- o[i] = .. of a list that may change -/
def gIx (to ti : DE) : DG := fun d ρ M k => to ρ M (fun o M1 => ti ρ M1 (fun i M2 => isPure d = true ∧ ∃ j xs z n, o = .cell j ∧ M2[j]? = some (.lst xs) ∧ i = .int z ∧ ixN xs.length z = some n ∧ k ρ (M2.set j (.lst (xs.set n d)))) fun _ _ => False) fun _ _ => False
theorem evg_sub {o i : Expr} {to ti : DE} (ho : EV X o to) (hi : EV X i ti)
    (ha : ∀ v, assign (.Subscript o i pos) X.env v = (do
      let ov ← holding [v] (eval o X.env)
      let iv ← holding [v, ov] (eval i X.env)
      standAt pos
      holding [v, ov, iv] (setItem ov iv v)
      release [v, ov, iv] []) := by intro _; rfl) : EVG X (.Subscript o i pos) [] (gIx to ti) := ⟨fun O d ρ M k h v σ H w s r =>
  wg_of (pg_sub (we_pe X o) (we_pe X i) set_list ha) (we_mono (ho.run O (fun _ _ _ => False) TakesD.nox ρ M _ h σ H w s) fun x H1 ⟨w1, d1, M1, l1, s1, r1, q1⟩ =>
    we_mono (hi.run O (fun _ _ _ => False) TakesD.nox ρ M1 _ q1 σ H1 w1 s1) fun y H2 ⟨w2, d2, M2, l2, s2, r2, hp, j, xs, z, n, e1, e2, e3, e4, q⟩ => by
      subst e1 e3
      rcases r1 with r1 | ⟨_, a, e, rfl, e6⟩
      · cases r1
      · cases e
        have ha := l2.at e6
        obtain ⟨hF, vs, h3, h4⟩ := s2.cells.at_ j a _ ha e2
        have ey : y = .int z := by
          rcases r2 with r2 | ⟨_, _, e, _⟩
          · cases r2; rfl
          · cases e
        have rv : Rep X.K X.mg w2.F v d := by
          rcases r with r | ⟨_, _, e, _⟩
          · exact r.mono (l1.trans l2).F
          · subst e
            cases hp
        exact ⟨a, vs, z, n, rfl, ey, h3, by rw [h4.length]; exact e4, .refl σ, ρ, _, w2, l1.trans l2, s2.write (mo' := .lst (xs.set n d)) ha hF h3 (fun ps e => by cases e) (fun φ e => by cases e) ⟨hF, _, upd_same, h4.set rv n⟩, q⟩)⟩
end
end Dl
set_option Elab.async false
set_option linter.all false
set_option maxRecDepth 100000
set_option maxHeartbeats 1000000
set_option autoImplicit false
/-! Dl8: walks, for, comprehensions. -/
namespace Dl
open PySem PySem.Spec PyProof.Rows L2
variable [Tb]

/-! ### what is walked -/
abbrev DI := Ro → MS → (Nat → (Nat → D) → (MS → Prop) → MS → Prop) → XD → Prop
/-- J yields f 0, .., f (n - 1) -/
def GoodI (X : Cx) (O : Org) (w1 : Wd) (J : It) (n : Nat) (f : Nat → D) (stay : MS → Prop) : Prop :=
  ∀ (i : Nat) (σ : L2.St) (ρ : Ro) (M : MS) (w : Wd) (H : Hp), w1.le w → Sat X.K X.mg O σ H ρ M w → stay M → (i < n → J.go i H ∧ ∀ x H', J.yld i H x H' → ∃ w', w.le w' ∧ w'.al = w.al ∧ Sat X.K X.mg O σ H' ρ M w' ∧ RepA X.K X.mg w' x (f i)) ∧ (i = n → J.stop i H)
def WI (X : Cx) (tg iter : Expr) : TI := fun σ H R => ∀ pins s, Inv X pins σ H s → wpAny (model X.prog X.w) X.A (eval iter X.env) (fun v s1 => wpAny (model X.prog X.w) X.A (pyIter v) (PIE X pins σ tg R) X.xe s1) X.xe s
theorem wi_pi (X : Cx) (tg iter : Expr) : PI X tg iter (WI X tg iter) := ⟨fun pins s _ _ _ I h => h pins s I⟩
theorem wi_of {X : Cx} {tg iter : Expr} {t : TI} (h : PI X tg iter t) {σ : L2.St} {H : Hp} {R : It → Hp → Prop} (q : t σ H R) : WI X tg iter σ H R := fun pins s I => h.run pins s σ H R I q
def PoI (X : Cx) (O : Org) (σ : L2.St) (ρ : Ro) (w : Wd) (k : Nat → (Nat → D) → (MS → Prop) → MS → Prop) : It → Hp → Prop := fun J H1 => ∃ n f stay w1 M1, w.le w1 ∧ Sat X.K X.mg O σ H1 ρ M1 w1 ∧ GoodI X O w1 J n f stay ∧ k n f stay M1
structure EVI (X : Cx) (tg iter : Expr) (ι : DI) : Prop where
  run : ∀ (O : Org) (R : Exn → Ro → MS → Prop), TakesD X O R → ∀ (ρ : Ro) (M : MS) (k : Nat → (Nat → D) → (MS → Prop) → MS → Prop), ι ρ M k (fun x M' => R x ρ M') → ∀ (σ : L2.St) (H : Hp) (w : Wd), Sat X.K X.mg O σ H ρ M w → WI X tg iter σ H (PoI X O σ ρ w k)
/-- the items of a list, a tuple -/
def itemsD : D → Option (List D)
  | .lst xs => some xs
  | .tup xs => some xs
  | _ => none
def iSeqK (K : PySem.W.Frag) (tl : TE) : TI := fun σ H R => tl σ H fun x H1 => ∃ a, x = .ref a ∧ (((∃ xs, SqL K H1 a xs) ∧ R (Itl K a) H1) ∨ ((∃ xs, SqT K H1 a xs) ∧ R (Itt K a) H1))
theorem pi_seq {X : Cx} {tg l : Expr} {tl : TE} (hl : PE X l tl) : PI X tg l (iSeqK X.K tl) := by
  refine ⟨fun pins s σ H R I h => ?_⟩
  refine thn (hl.run pins s σ H _ I h) fun v s1 ⟨x, H1, I1, r1, q1⟩ => ?_
  obtain ⟨a, e, q1⟩ := q1
  subst e
  cases r1
  rcases q1 with ⟨⟨xs, hq⟩, q⟩ | ⟨⟨xs, hq⟩, q⟩
  · obtain ⟨its, rv, p, hz⟩ := I1.list hq
    refine wpAny_pyIter_list p.isList ?_
    refine ⟨s1.heap.objs.size, [s1.heap.objs.size], _, _, H1, rfl, I1.kept (t' := s1.toks) fun b o e => Heap.get?_push_of_some _ e, turn_list a _, ⟨_, Heap.get?_push_size _ rfl, rfl, rfl⟩, fun b hb => ?_, q⟩
    have e : b = s1.heap.objs.size := by simpa using hb
    subst e
    exact I1.fpOk (Nat.le_refl _) (I1.hok.fresh (Nat.le_refl _))
  · obtain ⟨its, rv, p, hz⟩ := I1.tuple hq
    refine wpAny_pyIter_tuple (show s1.heap.IsTuple a its.toArray from p) ?_
    refine ⟨s1.heap.objs.size, [s1.heap.objs.size], _, _, H1, rfl, I1.kept (t' := s1.toks) fun b o e => Heap.get?_push_of_some _ e, turn_tuple a _, ⟨_, Heap.get?_push_size _ rfl, rfl, rfl⟩, fun b hb => ?_, q⟩
    have e : b = s1.heap.objs.size := by simpa using hb
    subst e
    exact I1.fpOk (Nat.le_refl _) (I1.hok.fresh (Nat.le_refl _))
/-- over a list or a tuple that stays -/
def iSeq (te : DE) : DI := fun ρ M k x => te ρ M (fun d M1 => ∃ xs, itemsD (view M1 d) = some xs ∧ k xs.length (fun i => xs.getD i .non) (fun M2 => view M2 d = view M1 d) M1) x
section
variable {X : Cx} {tg e e2 : Expr} {te : DE} {ta : DA} {O : Org}
theorem good_lst {a : Addr} {d : D} {xs : List D} {w1 : Wd} (r : RepA X.K X.mg w1 (.ref a) d) : GoodI X O w1 (Itl X.K a) xs.length (fun i => xs.getD i .non) (fun M => view M d = .lst xs) := by
  intro i σ ρ M w H l s st
  have rd := rdh_view s.cells (r.mono l)
  rw [st] at rd
  obtain ⟨b, vs, e, h1, h2⟩ := rd.lstE s.cells.fh
  cases e
  refine ⟨fun hi => ?_, fun e => ⟨vs, .of h1, by rw [h2.length, e]; exact Nat.le_refl _⟩⟩
  have hx : xs[i]? = some (xs.getD i .non) := by simp [List.getD, List.getElem?_eq_getElem hi]
  obtain ⟨v, e1, rv⟩ := h2.get hx
  refine ⟨⟨vs, v, .of h1, e1⟩, fun x H' ⟨eH, hy⟩ => ?_⟩
  subst eH
  have := hy vs (.of h1)
  rw [e1] at this
  cases this
  exact ⟨w, .refl w, rfl, s, .inl rv⟩
theorem good_tup {a : Addr} {d : D} {xs : List D} {w1 : Wd} (r : RepA X.K X.mg w1 (.ref a) d) : GoodI X O w1 (Itt X.K a) xs.length (fun i => xs.getD i .non) (fun M => view M d = .tup xs) := by
  intro i σ ρ M w H l s st
  have rd := rdh_view s.cells (r.mono l)
  rw [st] at rd
  obtain ⟨b, vs, e, h1, h2⟩ := rd.tup s.cells.fh
  cases e
  refine ⟨fun hi => ?_, fun e => ⟨vs, h1, by rw [h2.length, e]; exact Nat.le_refl _⟩⟩
  have hx : xs[i]? = some (xs.getD i .non) := by simp [List.getD, List.getElem?_eq_getElem hi]
  obtain ⟨v, e1, rv⟩ := h2.get hx
  refine ⟨⟨vs, v, h1, e1⟩, fun x H' ⟨eH, hy⟩ => ?_⟩
  subst eH
  have := hy vs h1
  rw [e1] at this
  cases this
  exact ⟨w, .refl w, rfl, s, .inl rv⟩
theorem evi_seq (he : EV X e te) : EVI X tg e (iSeq te) := ⟨fun O R TX ρ M k h σ H w s =>
  wi_of (pi_seq (we_pe X e)) (we_mono (he.run O R TX ρ M _ h σ H w s) fun v H1 ⟨w1, d, M1, l, s1, r, xs, e1, q⟩ => by
    have rd := rdh_view s1.cells r
    generalize hv : view M1 d = d0 at rd e1 q
    cases d0 with
    | lst ys =>
      cases e1
      obtain ⟨a, vs, rfl, h1, h2⟩ := rd.lstE s1.cells.fh
      exact ⟨a, rfl, .inl ⟨⟨vs, .of h1⟩, _, _, _, w1, M1, l, s1, good_lst r, q⟩⟩
    | tup ys =>
      cases e1
      obtain ⟨a, vs, rfl, h1, h2⟩ := rd.tup s1.cells.fh
      exact ⟨a, rfl, .inr ⟨⟨vs, h1⟩, _, _, _, w1, M1, l, s1, good_tup r, q⟩⟩
    | _ => cases e1)⟩
/-- range -/
theorem good_rng {lo : Int} {n : Nat} {w1 : Wd} : GoodI X O w1 (Itr lo n) n (fun i => .int (lo + i)) (fun _ => True) := by
  intro i σ ρ M w H l s _
  refine ⟨fun hi => ⟨hi, fun x H' ⟨e1, e2⟩ => ?_⟩, fun e => ?_⟩
  · subst e1 e2
    exact ⟨w, .refl w, rfl, s, .inl (.int _)⟩
  · exact Nat.le_of_eq e.symm
def iR1 (ta : DA) : DI := fun ρ M k x => ta ρ M (fun ds M1 => ∃ j : Int, ds = [.int j] ∧ -(2 ^ 62) ≤ j ∧ j < 2 ^ 62 ∧ k j.toNat (fun i => .int ((0 : Int) + i)) (fun _ => True) M1) x
def iR2 (ta : DA) : DI := fun ρ M k x => ta ρ M (fun ds M1 => ∃ i j : Int, ds = [.int i, .int j] ∧ (-(2 ^ 62) ≤ i ∧ i < 2 ^ 62 ∧ -(2 ^ 62) ≤ j ∧ j < 2 ^ 62) ∧ k (j - i).toNat (fun z => .int (i + z)) (fun _ => True) M1) x
theorem evi_r1 {p pos : Pos} (hg : Gl X "range") (hm : X.mg "range" = none) (ha : EVA X [e] ta) (hs : starEach [e] X.env = [(false, eval e X.env)] := by rfl) : EVI X tg (.Call (.Name "range" p) [e] [] pos) (iR1 ta) := ⟨fun O R TX ρ M k h σ H w s =>
  wi_of (pi_range1 hg hm (wa_pa X [e]) hs) (wa_mono (ha.run O R TX ρ M _ h σ H w s) fun vs H1 ⟨w1, ds, M1, l, s1, r, j, ed, b1, b2, q⟩ => by
    subst ed
    cases r with
    | cons r t =>
      cases t
      rcases r with r | ⟨_, _, e, _⟩
      · cases r
        exact ⟨j, rfl, b1, b2, _, _, _, w1, M1, l, s1, good_rng, q⟩
      · cases e)⟩
theorem evi_r2 {p pos : Pos} (hg : Gl X "range") (hm : X.mg "range" = none) (ha : EVA X [e, e2] ta) (hs : starEach [e, e2] X.env = [(false, eval e X.env), (false, eval e2 X.env)] := by rfl) (hs2 : starEach [e2] X.env = [(false, eval e2 X.env)] := by rfl) :
    EVI X tg (.Call (.Name "range" p) [e, e2] [] pos) (iR2 ta) := ⟨fun O R TX ρ M k h σ H w s =>
  wi_of (pi_range2 hg hm (wa_pa X [e, e2]) hs hs2) (wa_mono (ha.run O R TX ρ M _ h σ H w s) fun vs H1 ⟨w1, ds, M1, l, s1, r, i, j, ed, b, q⟩ => by
    subst ed
    cases r with
    | cons r t =>
      cases t with
      | cons r2 t =>
        cases t
        rcases r with r | ⟨_, _, e, _⟩
        · rcases r2 with r2 | ⟨_, _, e, _⟩
          · cases r
            cases r2
            exact ⟨i, j, rfl, b, _, _, _, w1, M1, l, s1, good_rng, q⟩
          · cases e
        · cases e)⟩
/-- a text's signs -/
def iStrD (te : DE) : DI := fun ρ M k x => te ρ M (fun d M1 => ∃ z : Str, d = .str z ∧ k z.cps.size (fun i => .str ⟨#[z.cps.getD i 0]⟩) (fun _ => True) M1) x
theorem evi_str (he : EV X e te) : EVI X tg e (iStrD te) := ⟨fun O R TX ρ M k h σ H w s =>
  wi_of (pi_str (we_pe X e)) (we_mono (he.run O R TX ρ M _ h σ H w s) fun v H1 ⟨w1, d, M1, l, s1, r, z, ed, q⟩ => by
    subst ed
    rcases r with r | ⟨_, _, e, _⟩
    · cases r
      refine ⟨z, rfl, _, _, _, w1, M1, l, s1, ?_, q⟩
      intro i σ ρ M w H l s _
      refine ⟨fun hi => ⟨hi, fun x H' ⟨e1, c, e2, e3⟩ => ?_⟩, fun e => ?_⟩
      · subst e1 e3
        refine ⟨w, .refl w, rfl, s, .inl ?_⟩
        have : z.cps.getD i 0 = c := by simp [Array.getD_eq_getD_getElem?, e2]
        show Rep _ _ _ (.str ⟨#[c]⟩) (.str ⟨#[z.cps.getD i 0]⟩)
        rw [this]
        exact .str _
      · exact Nat.le_of_eq e.symm
    · cases e)⟩
end

/-! ### for -/
def sFor (ι : DI) (g : DG) (tb : DS) : DS := fun E R ρ M => ι ρ M (fun n f stay M1 => ∃ P : Nat → Ro → MS → Prop, P 0 ρ M1 ∧ ∀ i ρ' M', P i ρ' M' → i ≤ n → stay M' ∧
  (i < n → g (f i) ρ' M' fun ρ2 M2 => tb { E with nx := P (i + 1), ct := P (i + 1), bk := E.nx } R ρ2 M2) ∧ (i = n → E.nx ρ' M')) fun x M1 => R x ρ M1
theorem evs_for {X : Cx} {tg iter : Expr} {body : List Stmt} {ι : DI} {g : DG} {ix : List Nat} {tb : DS} {pos : Pos} (hp : PassesOwn (model X.prog X.w) X.A X.env X.xe) (hc : X.calm = true) (hi : EVI X tg iter ι) (hg : EVG X tg ix g) (hb : EVSs X body tb)
    (hs : ∀ x, foldedSetIterable iter X.env x = pure x := by intro _; rfl) : EVS X (.For tg iter body [] pos) (sFor ι g tb) := ⟨fun O R TX ρ M E h σ H w s =>
  ws_of (ps_for hp hc (wi_pi X tg iter) (wg_pg X tg) (wss_pss X body) hs) (fun pins s0 I => thn (hi.run O R TX ρ M _ h σ H w s pins s0 I) fun v s1 h1 => thn h1 fun itv s2 ⟨it, fp, tn, J, H2, e, I2, T, st2, f2, n, f, stay, w1, M1, l1, S1, G, P, p0, step⟩ => by
    refine ⟨it, fp, tn, J, H2, e, I2, T, st2, f2, fun i m σ H => m = n - i ∧ i ≤ n ∧ ∃ ρ M w', w1.le w' ∧ Sat X.K X.mg O σ H ρ M w' ∧ P i ρ M, ⟨n, rfl, Nat.zero_le _, ρ, M1, w1, .refl w1, S1, p0⟩, ?_⟩
    rintro i m σ3 H3 ⟨rfl, hn, ρ3, M3, w3, l3, S3, p3⟩
    obtain ⟨st, q1, q2⟩ := step i ρ3 M3 p3 hn
    obtain ⟨g1, g2⟩ := G i σ3 ρ3 M3 w3 H3 l3 S3 st
    by_cases hlt : i < n
    · obtain ⟨go, y⟩ := g1 hlt
      refine .inr ⟨go, fun σ H => ∃ ρ M w', w1.le w' ∧ Sat X.K X.mg O σ H ρ M w' ∧ P (i + 1) ρ M, fun σ' H' ⟨ρ4, M4, w4, l4, S4, p4⟩ => ⟨n - (i + 1), by omega, rfl, hlt, ρ4, M4, w4, l4, S4, p4⟩, fun x H' hy => ?_⟩
      obtain ⟨w4, l4, _, S4, r4⟩ := y x H' hy
      refine wg_mono (hg.run O (f i) ρ3 M3 _ (q1 hlt) x σ3 H' w4 S4 r4) fun σ5 H5 ⟨_, ρ5, M5, w5, l5, S5, q5⟩ => ?_
      have l15 := (l3.trans l4).trans l5
      refine wss_mono ⟨?_, ?_, ?_, ?_⟩ (hb.run O R TX ρ5 M5 _ q5 σ5 H5 w5 S5)
      · exact fun σ H ⟨ρ, M, w, a, b⟩ => ⟨ρ, M, w, l15.trans a, b⟩
      · exact fun v H ⟨σ, ρ, d, M, w, a, b⟩ => ⟨σ, ρ, d, M, w, (l1.trans l15).trans a, b⟩
      · exact fun σ H ⟨ρ, M, w, a, b⟩ => ⟨ρ, M, w, (l1.trans l15).trans a, b⟩
      · exact fun σ H ⟨ρ, M, w, a, b⟩ => ⟨ρ, M, w, l15.trans a, b⟩
    · have e : i = n := by omega
      exact .inl ⟨g2 e, ρ3, M3, w3, l1.trans l3, S3, q2 e⟩)⟩
/-! ### while -/
/-- P: the invariant with its measure -/
def sWhl (tc : DT) (tb : DS) : DS := fun E R ρ M => ∃ P : Nat → Ro → MS → Prop, (∃ m, P m ρ M) ∧ ∀ m ρ' M', P m ρ' M' → tc ρ' M' (fun b M1 => if b = true then tb { E with nx := fun ρ2 M2 => ∃ m', m' < m ∧ P m' ρ2 M2, ct := fun ρ2 M2 => ∃ m', m' < m ∧ P m' ρ2 M2, bk := E.nx } R ρ' M1 else E.nx ρ' M1) fun x M1 => R x ρ' M1
theorem evs_while {X : Cx} {c : Expr} {body : List Stmt} {tc : DT} {tb : DS} {pos : Pos} (hp : PassesOwn (model X.prog X.w) X.A X.env X.xe) (hc : EVT X c tc) (hb : EVSs X body tb) : EVS X (.While c body [] pos) (sWhl tc tb) := ⟨fun O R TX ρ M E h σ H w s =>
  ws_of (ps_while hp (wt_pt X c) (wss_pss X body)) (by
    obtain ⟨P, ⟨m0, p0⟩, turn⟩ := h
    refine ⟨fun m σ H => ∃ ρ M w', w.le w' ∧ Sat X.K X.mg O σ H ρ M w' ∧ P m ρ M, ⟨m0, ρ, M, w, .refl w, s, p0⟩, ?_⟩
    rintro m σ1 H1 ⟨ρ1, M1, w1, l1, s1, p1⟩
    intro pins s0 I
    refine thn (hc.run O R TX ρ1 M1 _ (turn m ρ1 M1 p1) σ1 H1 w1 s1 pins s0 I) fun b s2 ⟨H2, I2, w2, M2, l2, S2, q⟩ => ⟨H2, I2, ?_⟩
    cases b with
    | true =>
      refine ⟨fun σ H => ∃ ρ2 M2 w', w.le w' ∧ Sat X.K X.mg O σ H ρ2 M2 w' ∧ ∃ m', m' < m ∧ P m' ρ2 M2, fun σ' H' ⟨ρ4, M4, w4, l4, S4, m', hm, p4⟩ => ⟨m', hm, ρ4, M4, w4, l4, S4, p4⟩, ?_⟩
      have l12 := l1.trans l2
      refine wss_mono ⟨?_, ?_, ?_, ?_⟩ (hb.run O R TX ρ1 M2 _ q σ1 H2 w2 S2)
      · exact fun σ H ⟨ρ, M, w, a, b⟩ => ⟨ρ, M, w, l12.trans a, b⟩
      · exact fun v H ⟨σ, ρ, d, M, w, a, b⟩ => ⟨σ, ρ, d, M, w, l12.trans a, b⟩
      · exact fun σ H ⟨ρ, M, w, a, b⟩ => ⟨ρ, M, w, l12.trans a, b⟩
      · exact fun σ H ⟨ρ, M, w, a, b⟩ => ⟨ρ, M, w, l12.trans a, b⟩
    | false => exact ⟨ρ1, M2, w2, l1.trans l2, S2, q⟩)⟩
end Dl
set_option Elab.async false
set_option linter.all false
set_option maxRecDepth 100000
set_option maxHeartbeats 1000000
set_option autoImplicit false
/-! Dl9: comprehensions; fields written; lists that grow. -/
namespace Dl
open PySem PySem.Spec PyProof.Rows L2
variable [Tb]

def wipeD (ρ : Ro) : List Nat → Ro
  | [] => ρ
  | v :: vs => (wipeD ρ vs).set v none
theorem wipeD_length (ρ : Ro) : ∀ vs : List Nat, (wipeD ρ vs).length = ρ.length
  | [] => rfl
  | v :: vs => by unfold wipeD; rw [List.length_set, wipeD_length ρ vs]
theorem wipeD_some {ρ : Ro} {i : Nat} {x : D} : ∀ {vs : List Nat}, (wipeD ρ vs)[i]? = some (some x) → ρ[i]? = some (some x) ∧ i ∉ vs
  | [], h => ⟨h, by simp⟩
  | v :: vs, h => by
    unfold wipeD at h
    by_cases e : v = i
    · subst e
      by_cases hl : v < (wipeD ρ vs).length
      · rw [List.getElem?_set_self hl] at h; simp at h
      · rw [List.getElem?_eq_none (by rw [List.length_set]; omega)] at h; cases h
    · rw [List.getElem?_set_ne e] at h
      obtain ⟨h1, h2⟩ := wipeD_some h
      exact ⟨h1, fun m => (List.mem_cons.mp m).elim (fun z => e z.symm) h2⟩
theorem wipe_in {σ : L2.St} {i : Nat} : ∀ {vs : List Nat}, i ∈ vs → i < σ.length → (wipe σ vs)[i]? = some none
  | v :: vs, m, hl => by
    unfold wipe
    by_cases e : v = i
    · subst e
      exact List.getElem?_set_self (by rw [wipe_length]; exact hl)
    · rw [List.getElem?_set_ne e]
      exact wipe_in ((List.mem_cons.mp m).elim (fun z => absurd z.symm e) id) hl
theorem wipe_eq {σ σ' : L2.St} {vs ix : List Nat} (h : Tch ix σ σ') (hi : ∀ i ∈ ix, i ∈ vs) : wipe σ' vs = wipe σ vs := by
  refine List.ext_getElem? fun i => ?_
  by_cases m : i ∈ vs
  · by_cases hl : i < σ.length
    · rw [wipe_in m hl, wipe_in m (by rw [h.len]; exact hl)]
    · rw [List.getElem?_eq_none (by rw [wipe_length, h.len]; omega), List.getElem?_eq_none (by rw [wipe_length]; omega)]
  · rw [wipe_out m, wipe_out m]
    exact h.out i fun z => m (hi i z)
theorem wipe_wipe {σ : L2.St} {vs : List Nat} : wipe (wipe σ vs) vs = wipe σ vs := by
  refine List.ext_getElem? fun i => ?_
  by_cases m : i ∈ vs
  · by_cases hl : i < σ.length
    · rw [wipe_in m hl, wipe_in m (by rw [wipe_length]; exact hl)]
    · rw [List.getElem?_eq_none (by rw [wipe_length, wipe_length]; omega), List.getElem?_eq_none (by rw [wipe_length]; omega)]
  · rw [wipe_out m]
section
variable {K : PySem.W.Frag} {mg : Str → Option Value} {w : Wd} {H : Hp} {M : MS} {O : Org} {σ σ' : L2.St} {ρ ρ' : Ro}
/-- other slots -/
theorem Sat.re (s : Sat K mg O σ' H ρ' M w) (l : ρ.length = σ.length) (h : ∀ (i : Nat) (d : D), ρ[i]? = some (some d) → ∃ v, σ[i]? = some (some v) ∧ RepA K mg w v d) : Sat K mg O σ H ρ M w := ⟨s.step, s.tabs, s.cells, l, h⟩
theorem Sat.wipe (s : Sat K mg O σ H ρ M w) (vs : List Nat) : Sat K mg O (wipe σ vs) H (wipeD ρ vs) M w :=
  s.re (by rw [wipeD_length, wipe_length]; exact s.len) fun i d h => by
    obtain ⟨h1, h2⟩ := wipeD_some h
    obtain ⟨v, e, r⟩ := s.slots i d h1
    exact ⟨v, by rw [wipe_out h2]; exact e, r⟩
end

/-! ### tests -/
def WTs (X : Cx) (ifs : List Expr) : TT := fun σ H Q => ∀ pins s, Inv X pins σ H s →
    wpAny (model X.prog X.w) X.A (forIn ifs true fun c r => if r = true then do let ok ← isTrue c X.env (eval c X.env); pure (ForInStep.yield ok) else pure (ForInStep.yield r)) (TP X pins σ Q) X.xe s
theorem wts_pts (X : Cx) (ifs : List Expr) : PTs X ifs (WTs X ifs) := ⟨fun pins s _ _ _ I h => h pins s I⟩
theorem wts_of {X : Cx} {ifs : List Expr} {t : TT} (h : PTs X ifs t) {σ : L2.St} {H : Hp} {Q : Bool → Hp → Prop} (q : t σ H Q) : WTs X ifs σ H Q := fun pins s I => h.run pins s σ H Q I q
structure EVTs (X : Cx) (ifs : List Expr) (τ : DT) : Prop where
  run : ∀ (O : Org) (R : Exn → Ro → MS → Prop), TakesD X O R → ∀ (ρ : Ro) (M : MS) (k : Bool → MS → Prop), τ ρ M k (fun x M' => R x ρ M') → ∀ (σ : L2.St) (H : Hp) (w : Wd), Sat X.K X.mg O σ H ρ M w → WTs X ifs σ H (PoT X O σ ρ w k)
def dYes : DT := fun _ M k _ => k true M
theorem evts_nil {X : Cx} : EVTs X [] dYes := ⟨fun O R TX ρ M k h σ H w s => wts_of pts_nil ⟨w, M, .refl w, s, h⟩⟩
theorem evts_one {X : Cx} {c : Expr} {t : DT} (h : EVT X c t) : EVTs X [c] t := ⟨fun O R TX ρ M k q σ H w s => wts_of (pts_one (wt_pt X c)) (h.run O R TX ρ M k q σ H w s)⟩

/-! ### [elt for target in iter if ..] -/
def dLc (c : Bool) (ι : DI) (g : DG) (tt : DT) (te : DE) (vs : List Nat) : DE := fun ρ M k x => ι ρ M (fun n f stay M1 => ∃ P : Nat → List D → MS → Prop, P 0 [] M1 ∧ ∀ i acc M', P i acc M' → i ≤ n → M'.length = M1.length ∧ stay (M' ++ [.lst acc]) ∧
  (i < n → g (f i) (wipeD ρ vs) (M' ++ [.lst acc]) fun ρ2 M2 => tt ρ2 M2 (fun b M3 => if b = true then te ρ2 M3 (fun d M4 => isPure d = true ∧ acc.length < sizeLine ∧ ∃ M5, M4 = M5 ++ [.lst acc] ∧ P (i + 1) (acc ++ [d]) M5) (fun _ _ => False)
    else ∃ M5, M3 = M5 ++ [.lst acc] ∧ P (i + 1) acc M5) (fun _ _ => False)) ∧
  (i = n → match c with
    | true => k (.cell M'.length) (M' ++ [.lst acc])
    | false => k (.lst acc) M')) x
section
variable {X : Cx} {O : Org} {σ : L2.St} {H : Hp} {ρ : Ro} {M : MS} {w : Wd} {k : KD}
theorem le_al {w0 w1 : Wd} {p : Addr} (l : (w0.cell p).le w1) (h : w1.al.length = w0.al.length + 1) : w1.al = w0.al ++ [p] := by
  obtain ⟨r, hr⟩ := l.al
  rw [hr] at h ⊢
  have e : r.length = 0 := by
    have : ((w0.al ++ [p]) ++ r).length = w0.al.length + 1 := h
    simp at this
    exact List.length_eq_zero_iff.mpr this
  rw [List.length_eq_zero_iff.mp e, List.append_nil]
  rfl
theorem lc_run {c : Bool} {elt tg iter : Expr} {ifs : List Expr} {scope : Scope} {ι : DI} {g : DG} {ix vs : List Nat} {tt : DT} {te : DE} (hi : EVI X tg iter ι) (hix : ∀ i ∈ ix, i ∈ vs)
    (hg : ∀ (s : Shared) (H : Hp) (C : Addr) (cl : List (Str × Addr)) (fp : List Addr), EVG (X.blk s H scope (compEnvC scope cl C X.env) fp) tg ix g) (ht : ∀ (s : Shared) (H : Hp) (C : Addr) (cl : List (Str × Addr)) (fp : List Addr), EVTs (X.blk s H scope (compEnvC scope cl C X.env) fp) ifs tt)
    (he : ∀ (s : Shared) (H : Hp) (C : Addr) (cl : List (Str × Addr)) (fp : List Addr), EV (X.blk s H scope (compEnvC scope cl C X.env) fp) elt te) {R : Exn → Ro → MS → Prop} (TX : TakesD X O R) (h : dLc c ι g tt te vs ρ M k fun x M' => R x ρ M') (s : Sat X.K X.mg O σ H ρ M w) {Q : VK} (hQ : ∀ v H, PoE X O σ ρ w k v H → Q v H) :
    tLc (WI X tg iter) (fun v σ H Q => ∀ s0 H0 C cl fp, WG (X.blk s0 H0 scope (compEnvC scope cl C X.env) fp) tg v σ H Q) (fun σ H Q => ∀ s0 H0 C cl fp, WTs (X.blk s0 H0 scope (compEnvC scope cl C X.env) fp) ifs σ H Q)
      (fun σ H Q => ∀ s0 H0 C cl fp, WE (X.blk s0 H0 scope (compEnvC scope cl C X.env) fp) elt σ H Q) vs σ H Q := by
  intro pins s0 I
  refine thn (hi.run O R TX ρ M _ h σ H w s pins s0 I) fun v s1 h1 => thn h1 fun itv s2 ⟨it, fp, tn, J, H2, e, I2, T, st2, f2, n, f, stay, w1, M1, l1, S1, G, P, p0, step⟩ => by
    refine ⟨it, fp, tn, J, H2, e, I2, T, st2, f2, fun D hD => ?_⟩
    have S2 := (S1.wipe vs).cell (o := .lst []) (mo := .lst []) hD ⟨S1.cells.fh.fresh hD, [], upd_same, .nil⟩
    refine ⟨fun i m H => m = n - i ∧ i ≤ n ∧ ∃ acc M' w', (w1.cell D).le w' ∧ Sat X.K X.mg O (wipe σ vs) H (wipeD ρ vs) (M' ++ [.lst acc]) w' ∧ M'.length = M1.length ∧ P i acc M', ⟨n, rfl, Nat.zero_le _, [], M1, _, .refl _, S2, rfl, p0⟩, ?_⟩
    rintro i m H3 ⟨rfl, hn, acc, M3, w3, l3, S3, e3, p3⟩
    obtain ⟨_, st, q1, q2⟩ := step i acc M3 p3 hn
    have lw : w1.le w3 := Wd.le_cell.trans l3
    obtain ⟨g1, g2⟩ := G i _ _ _ w3 H3 lw S3 st
    have al : w3.al = w1.al ++ [D] := le_al l3 (by rw [S3.cells.len, S1.cells.len]; simp [e3])
    by_cases hlt : i < n
    · obtain ⟨go, y⟩ := g1 hlt
      refine .inr ⟨go, fun H => ∃ acc M' w', (w1.cell D).le w' ∧ Sat X.K X.mg O (wipe σ vs) H (wipeD ρ vs) (M' ++ [.lst acc]) w' ∧ M'.length = M1.length ∧ P (i + 1) acc M', fun H' ⟨acc, M', w', a, b, c, d⟩ => ⟨n - (i + 1), by omega, rfl, hlt, acc, M', w', a, b, c, d⟩, fun x H' hy => ?_⟩
      obtain ⟨w4, l4, _, S4, r4⟩ := y x H' hy
      intro s0 H0 C cl fp
      refine wg_mono ((hg s0 H0 C cl fp).run O (f i) _ _ _ (q1 hlt) x (wipe σ vs) H' w4 S4 r4) fun σ5 H5 ⟨t5, ρ5, M5, w5, l5, S5, q5⟩ => ?_
      have ew : wipe σ5 vs = wipe σ vs := (wipe_eq t5 hix).trans wipe_wipe
      refine ⟨ew, ?_⟩
      have l35 : (w1.cell D).le w5 := (l3.trans l4).trans l5
      -- the slots, as they stood
      have back : ∀ {σ8 : L2.St} {ρ8 : Ro} {H8 : Hp} {M8 : MS} {w8 : Wd}, Sat X.K X.mg O σ8 H8 ρ8 M8 w8 → w5.le w8 → Sat X.K X.mg O (wipe σ vs) H8 (wipeD ρ vs) M8 w8 := fun S8 l8 =>
        S8.re (by rw [wipeD_length, wipe_length]; exact s.len) fun i d e => let ⟨v, e1, e2⟩ := S3.slots i d e; ⟨v, e1, e2.mono ((l4.trans l5).trans l8)⟩
      have lenOf : ∀ {M8 : MS} {w8 : Wd} {a : List Dl.D} {H8 : Hp} {σ8 : L2.St} {ρ8 : Ro}, P (i + 1) a M8 → M8.length = M1.length := fun p => (step (i + 1) _ _ p hlt).1
      intro s0 H0 C cl fp pins s6 I6
      refine thn ((ht s0 H0 C cl fp).run O (fun _ _ _ => False) TakesD.nox ρ5 M5 _ q5 σ5 H5 w5 S5 pins s6 I6) fun b s7 ⟨H7, I7, w7, M7, l7, S7, q7⟩ => ⟨H7, I7, ?_⟩
      cases b with
      | true =>
        simp only [if_true] at q7 ⊢
        intro s0 H0 C cl fp
        refine we_mono ((he s0 H0 C cl fp).run O (fun _ _ _ => False) TakesD.nox ρ5 M7 _ q7 σ5 H7 w7 S7) fun y H8 ⟨w8, d, M8, l8, S8, r8, hp, hz, M9, e9, p9⟩ => ?_
        subst e9
        have l78 := l7.trans l8
        have e10 := (step (i + 1) _ _ p9 hlt).1
        have ed : w8.al[M9.length]? = some D := by
          refine (l35.trans l78).at ?_
          show (w1.al ++ [D])[M9.length]? = some D
          rw [e10, ← S1.cells.len, List.getElem?_append_right (Nat.le_refl _)]
          simp
        obtain ⟨hF, us, h3, h4⟩ := S8.cells.at_ M9.length D (.lst acc) ed (by rw [List.getElem?_append_right (Nat.le_refl _)]; simp)
        have rv : Rep X.K X.mg w8.F y d := by
          rcases r8 with r8 | ⟨_, _, e, _⟩
          · exact r8
          · subst e
            cases hp
        refine ⟨us, h3, by rw [h4.length]; exact hz, acc ++ [d], M9, w8, l35.trans l78, ?_, e10, p9⟩
        have S9 := (back S8 l78).write (mo' := .lst (acc ++ [d])) ed hF h3 (fun ps e => by cases e) (fun φ e => by cases e) ⟨hF, _, upd_same, h4.append (.cons rv .nil)⟩
        have es : (M9 ++ [MO.lst acc]).set M9.length (.lst (acc ++ [d])) = M9 ++ [.lst (acc ++ [d])] := by
          rw [List.set_append_right _ _ (Nat.le_refl _)]
          simp
        rw [es] at S9
        exact S9
      | false =>
        simp only [Bool.false_eq_true, if_false] at q7 ⊢
        obtain ⟨M9, e9, p9⟩ := q7
        subst e9
        exact ⟨acc, M9, w7, l35.trans l7, back S7 l7, (step (i + 1) _ _ p9 hlt).1, p9⟩
    · have e : i = n := by omega
      refine .inl ⟨g2 e, hQ _ _ ?_⟩
      have q := q2 e
      have ed : w3.al[M3.length]? = some D := by
        rw [al, e3, ← S1.cells.len, List.getElem?_append_right (Nat.le_refl _)]
        simp
      have lF : w.le ⟨w3.F, w1.al⟩ := ⟨(l1.trans lw).F, l1.al⟩
      cases c with
      | true => exact ⟨w3, _, _, l1.trans lw, S3.re s.len (fun i d e => let ⟨v, e1, e2⟩ := s.slots i d e; ⟨v, e1, e2.mono (l1.trans lw)⟩), .inr ⟨_, D, rfl, rfl, ed⟩, q⟩
      | false =>
        obtain ⟨hF, us, h3, h4⟩ := S3.cells.at_ M3.length D (.lst acc) ed (by rw [List.getElem?_append_right (Nat.le_refl _)]; simp)
        have S3' : Sat X.K X.mg O σ H3 ρ (M3 ++ [.lst acc]) ⟨w3.F, w1.al ++ [D]⟩ := by
          rw [← al]
          exact S3.re s.len (fun i d e => let ⟨v, e1, e2⟩ := s.slots i d e; ⟨v, e1, e2.mono (l1.trans lw)⟩)
        have S4 := S3'.pop h3 (S1.step.nw (.of hD)) hF (S1.step.le.trans ⟨lw.F, [], by simp⟩) fun i d e => let ⟨v, e1, e2⟩ := s.slots i d e; ⟨v, e1, e2.mono lF⟩
        exact ⟨⟨upd w3.F D (.lst us), w1.al⟩, .lst acc, M3, lF.trans ⟨Ex.upd hF, [], by simp⟩, S4, .inl (.lst upd_same (h4.mono (Ex.upd hF))), q⟩
end
section
variable {X : Cx}
theorem ev_lc {c : Bool} {elt tg iter : Expr} {ifs : List Expr} {scope : Scope} {own : List (Str × Nat)} {pos : Pos} {ι : DI} {g : DG} {ix : List Nat} {tt : DT} {te : DE} (hc : X.calm = true) (hN : X.N.Nodup) (hi : EVI X tg iter ι) (ok : BlkOk X.N X.env.scope scope own) (hix : ∀ i ∈ ix, i ∈ own.map (·.2))
    (hg : ∀ (s : Shared) (H : Hp) (C : Addr) (cl : List (Str × Addr)) (fp : List Addr), EVG (X.blk s H scope (compEnvC scope cl C X.env) fp) tg ix g) (ht : ∀ (s : Shared) (H : Hp) (C : Addr) (cl : List (Str × Addr)) (fp : List Addr), EVTs (X.blk s H scope (compEnvC scope cl C X.env) fp) ifs tt)
    (he : ∀ (s : Shared) (H : Hp) (C : Addr) (cl : List (Str × Addr)) (fp : List Addr), EV (X.blk s H scope (compEnvC scope cl C X.env) fp) elt te) (hs : ∀ x, foldedSetIterable iter X.env x = pure x := by intro _; rfl) :
    EV X (.ListComp elt [⟨tg, iter, ifs, 0⟩] scope pos) (dLc c ι g tt te (own.map (·.2))) := ⟨fun O R TX ρ M k h σ H w s =>
  we_of (pe_lc hc hN (wi_pi X tg iter) ok (fun s0 H0 C cl fp => ⟨fun pins s σ H v u Q I r q => q s0 H0 C cl fp pins s u I r⟩) (fun s0 H0 C cl fp => ⟨fun pins s σ H Q I q => q s0 H0 C cl fp pins s I⟩) (fun s0 H0 C cl fp => ⟨fun pins s σ H Q I q => q s0 H0 C cl fp pins s I⟩) hs)
    (lc_run hi hix hg ht he TX h s fun _ _ q => q)⟩
theorem evs_setLc {c : Bool} {i : Nat} {y : Str} {py : Pos} {elt tg iter : Expr} {ifs : List Expr} {scope : Scope} {own : List (Str × Nat)} {pos spos : Pos} {ι : DI} {g : DG} {ix : List Nat} {tt : DT} {te : DE} (hc : X.calm = true) (hN : X.N.Nodup) (hy : X.N[i]? = some y) (hyl : X.env.scope.names.lookup y = some .local)
    (hsw : swapsWith (.ListComp elt [⟨tg, iter, ifs, 0⟩] scope pos) (some (.Name y py)) spos.line X.env = pure true) (hi : EVI X tg iter ι) (ok : BlkOk X.N X.env.scope scope own) (hix : ∀ i ∈ ix, i ∈ own.map (·.2))
    (hg : ∀ (s : Shared) (H : Hp) (C : Addr) (cl : List (Str × Addr)) (fp : List Addr), EVG (X.blk s H scope (compEnvC scope cl C X.env) fp) tg ix g) (ht : ∀ (s : Shared) (H : Hp) (C : Addr) (cl : List (Str × Addr)) (fp : List Addr), EVTs (X.blk s H scope (compEnvC scope cl C X.env) fp) ifs tt)
    (he : ∀ (s : Shared) (H : Hp) (C : Addr) (cl : List (Str × Addr)) (fp : List Addr), EV (X.blk s H scope (compEnvC scope cl C X.env) fp) elt te) (hs : ∀ x, foldedSetIterable iter X.env x = pure x := by intro _; rfl) :
    EVS X (.Assign [.Name y py] (.ListComp elt [⟨tg, iter, ifs, 0⟩] scope pos) spos) (sSet i (dLc c ι g tt te (own.map (·.2)))) := ⟨fun O R TX ρ M E h σ H w s =>
  ws_of (t := tAsg (tLc (WI X tg iter) (fun v σ H Q => ∀ s0 H0 C cl fp, WG (X.blk s0 H0 scope (compEnvC scope cl C X.env) fp) tg v σ H Q) (fun σ H Q => ∀ s0 H0 C cl fp, WTs (X.blk s0 H0 scope (compEnvC scope cl C X.env) fp) ifs σ H Q)
      (fun σ H Q => ∀ s0 H0 C cl fp, WE (X.blk s0 H0 scope (compEnvC scope cl C X.env) fp) elt σ H Q) (own.map (·.2))) (gName i))
    (ps_setLc hc hN hy hyl hsw (wi_pi X tg iter) ok (fun s0 H0 C cl fp => ⟨fun pins s σ H v u Q I r q => q s0 H0 C cl fp pins s u I r⟩) (fun s0 H0 C cl fp => ⟨fun pins s σ H Q I q => q s0 H0 C cl fp pins s I⟩) (fun s0 H0 C cl fp => ⟨fun pins s σ H Q I q => q s0 H0 C cl fp pins s I⟩) hs)
    (lc_run (Q := fun v H1 => gName i v σ H1 (LEn X O w E).nx) hi hix hg ht he TX h s fun v H1 ⟨w1, d, M1, l, s1, r, q⟩ => ⟨_, M1, w1, l, s1.set r i, q⟩)⟩
end

/-! ### fields written -/
def repl (f : Str) (d : D) : List Str → List D → List D
  | k :: ks, x :: xs => if k = f then d :: xs else x :: repl f d ks xs
  | _, xs => xs
def putK (f : Str) (ks : List Str) : List Str := if ks.contains f then ks else ks ++ [f]
def putX (f : Str) (d : D) (ks : List Str) (xs : List D) : List D := if ks.contains f then repl f d ks xs else xs ++ [d]
section
variable {K : PySem.W.Frag} {mg : Str → Option Value} {F : Hp}
theorem putF_map {f : Str} {v : V} {d : D} (r : Rep K mg F v d) : ∀ {fs : List (Str × V)} {xs : List D}, Reps K mg F (fs.map (·.2)) xs → (putF f v fs).map (·.1) = putK f (fs.map (·.1)) ∧ Reps K mg F ((putF f v fs).map (·.2)) (putX f d (fs.map (·.1)) xs)
  | [], _, h => by
    cases h
    refine ⟨rfl, ?_⟩
    show Reps K mg F [v] (putX f d [] [])
    exact .cons r .nil
  | (g, x) :: fs, _, h => by
    cases h with
    | cons h1 h2 =>
      rename_i e es
      obtain ⟨i1, i2⟩ := putF_map (f := f) (fs := fs) r h2
      show (if g = f then (g, v) :: fs else (g, x) :: putF f v fs).map (·.1) = putK f (g :: fs.map (·.1)) ∧ Reps K mg F ((if g = f then (g, v) :: fs else (g, x) :: putF f v fs).map (·.2)) (putX f d (g :: fs.map (·.1)) (e :: es))
      unfold putK putX
      by_cases hg : g = f
      · subst hg
        have c : (g :: fs.map (·.1)).contains g = true := by simp
        rw [if_pos rfl, if_pos c, if_pos c]
        refine ⟨rfl, ?_⟩
        show Reps K mg F (v :: fs.map (·.2)) (if g = g then d :: es else _)
        rw [if_pos rfl]
        exact .cons r h2
      · have c : (g :: fs.map (·.1)).contains f = (fs.map (·.1)).contains f := by
          rw [List.contains_cons, beq_eq_false_iff_ne.mpr (fun e => hg e.symm), Bool.false_or]
        rw [if_neg hg, c]
        unfold putK at i1
        unfold putX at i2
        refine ⟨?_, ?_⟩
        · show g :: (putF f v fs).map (·.1) = _
          rw [i1]
          split <;> rfl
        · show Reps K mg F (x :: (putF f v fs).map (·.2)) _
          have e2 : repl f d (g :: fs.map (·.1)) (e :: es) = e :: repl f d (fs.map (·.1)) es := if_neg hg
          rw [e2]
          split
          · rename_i q
            rw [if_pos q] at i2
            exact .cons h1 i2
          · rename_i q
            rw [if_neg q] at i2
            exact .cons h1 i2
end
def sFldP (C f : Str) (to te : DE) : DS := fun E R ρ M => te ρ M (fun d M1 => to ρ M1 (fun o M2 => isPure d = true ∧ ∃ i ks xs, o = .cell i ∧ M2[i]? = some (.ins C ks xs) ∧ ks.length < 1000 ∧ E.nx ρ (M2.set i (.ins C (putK f ks) (putX f d ks xs)))) fun x M2 => R x ρ M2) fun x M1 => R x ρ M1
section
variable {X : Cx} {o e value : Expr} {es : List Expr} {to te : DE} {ta : DA} {pos pos' apos cpos : Pos}
theorem evs_fld {C f : Str} (n : NoAttr X.K (clA X.mg C) f) (ho : EV X o to) (hv : EV X value te) (hs : swapsWith value (some (.Attribute o f pos')) pos.line X.env = pure false := by rfl) : EVS X (.Assign [.Attribute o f pos'] value pos) (sFldP C f to te) := ⟨fun O R TX ρ M E h σ H w s =>
  ws_of (ps_fld (we_pe X o) (we_pe X value) hs) (we_mono (hv.run O R TX ρ M _ h σ H w s) fun y H1 ⟨w1, d, M1, l1, s1, r1, q1⟩ =>
    we_mono (ho.run O R TX ρ M1 _ q1 σ H1 w1 s1) fun x H2 ⟨w2, o, M2, l2, s2, r2, hp, i, ks, xs, e1, e2, e3, q⟩ => by
      subst e1
      rcases r2 with r2 | ⟨_, a, e, rfl, e6⟩
      · cases r2
      · cases e
        obtain ⟨hF, dx, fs, h3, io, rfl, h4⟩ := s2.cells.at_ i a _ e6 e2
        have rv : Rep X.K X.mg w2.F y d := by
          rcases r1 with r1 | ⟨_, _, e, _⟩
          · exact r1.mono l2.F
          · subst e
            cases hp
        obtain ⟨p1, p2⟩ := putF_map (f := f) rv h4
        refine ⟨a, _, dx, fs, rfl, h3, io.1, n, by rw [List.length_map] at e3; exact e3, ρ, _, w2, l1.trans l2, s2.write (mo' := .ins C (putK f (fs.map (·.1))) (putX f d (fs.map (·.1)) xs)) e6 hF h3 (fun ps e => by cases e) (fun φ e => by cases e) ⟨hF, dx, putF f y fs, upd_same, ⟨io.1, fun g m => ?_⟩, p1, p2⟩, q⟩
        unfold putK at m
        split at m
        · exact io.2 g m
        · rcases List.mem_append.mp m with m | m
          · exact io.2 g m
          · rw [List.mem_singleton.mp m]; exact n)⟩
/-! ### xs.append(e) -/
def dApp (to te : DE) : DE := fun ρ M k x => to ρ M (fun o M1 => ∃ j xs0, o = .cell j ∧ M1[j]? = some (.lst xs0) ∧ te ρ M1 (fun d M2 => isPure d = true ∧ ∃ xs, M2[j]? = some (.lst xs) ∧ xs.length < sizeLine ∧ k .non (M2.set j (.lst (xs ++ [d])))) x) x
theorem ev_app (ho : EV X o to) (ha : EV X e te) (hbase : attributeBase o "append" X.env (eval o X.env) = eval o X.env := by rfl)
    (hfew : ((backTo cpos (starEach [e] X.env)).all (fun x => !x.1) && (backToKw cpos (keywordEach [] X.env)).all (fun x => x.1.isSome)
      && decide (([e] : List Expr).length + ([] : List Keyword).length + (if ([] : List Keyword).isEmpty then 0 else 1) < 30)) = true := by rfl)
    (hline : (apos.endLine == cpos.line) = true := by rfl) (hs : starEach [e] X.env = (false, eval e X.env) :: starEach [] X.env := by rfl) :
    EV X (.Call (.Attribute o "append" apos) [e] [] cpos) (dApp to te) := ⟨fun O R TX ρ M k h σ H w s =>
  we_of (pe_bm PySem.F.plainAttrs_list PySem.F.slot_list_append PySem.F.type_list_append mt_append (we_pe X o) (pa_cons (we_pe X e) pa_nil hs) hbase hfew hline hs)
    (we_mono (ho.run O R TX ρ M _ h σ H w s) fun x H1 ⟨w1, o, M1, l1, s1, r1, j, xs0, e1, e2, q1⟩ => by
      subst e1
      rcases r1 with r1 | ⟨_, a, e, rfl, e6⟩
      · cases r1
      · cases e
        obtain ⟨hF1, vs1, h31, h41⟩ := s1.cells.at_ j a _ e6 e2
        refine ⟨.inl ⟨rfl, _, SqL.of h31⟩, we_mono (ha.run O R TX ρ M1 _ q1 σ H1 w1 s1) fun y H2 ⟨w2, d, M2, l2, s2, r2, hp, xs, e3, e4, q⟩ => ?_⟩
        have ha := l2.at e6
        obtain ⟨hF, vs, h3, h4⟩ := s2.cells.at_ j a _ ha e3
        have rv : Rep X.K X.mg w2.F y d := by
          rcases r2 with r2 | ⟨_, _, e, _⟩
          · exact r2
          · subst e
            cases hp
        exact ⟨a, vs, y, rfl, rfl, h3, by rw [h4.length]; exact e4, w2, .non, _, l1.trans l2, s2.write (mo' := .lst (xs ++ [d])) ha hF h3 (fun ps e => by cases e) (fun φ e => by cases e) ⟨hF, _, upd_same, h4.append (.cons rv .nil)⟩, .inl .non, q⟩)⟩
end
end Dl
set_option Elab.async false
set_option linter.all false
set_option maxRecDepth 100000
set_option maxHeartbeats 1000000
set_option autoImplicit false
/-! Dl10: defs keep their promises; raise. -/
namespace Dl
open PySem PySem.Spec PyProof.Rows L2
variable [Tb]

def startD (N : List Str) (ds : List D) : Ro := ds.map some ++ List.replicate (N.length - ds.length) none
/-- a def's answer: a list of its own is handed over -/
def retK (n : Nat) (k : KD) : KD := fun d M' => match d with
  | .cell i => n ≤ i ∧ ∃ xs, M'[i]? = some (.lst xs) ∧ k (.own xs) (M'.take n)
  | d => k d (M'.take n)
def enD (n : Nat) (k : KD) : EnD := { nx := fun _ M' => k .non (M'.take n), rt := retK n k }
section
variable {K : PySem.W.Frag} {mg : Str → Option Value} {w w1 : Wd} {H H1 : Hp} {M M1 : MS} {σ : L2.St} {ρ : Ro} {N : List Str} {vs : List V} {ds : List D} {v : V} {d : D} {k : KD} {Q : VK}
theorem repsA_at {i : Nat} {d : D} : ∀ {vs : List V} {ds : List D}, RepsA K mg w vs ds → ds[i]? = some d → ∃ v, vs[i]? = some v ∧ RepA K mg w v d
  | _, _, r, h => by
    rcases r.at_ i with ⟨_, e⟩ | ⟨v, d', e1, e2, e3⟩
    · rw [e] at h; cases h
    · rw [e2] at h; cases h; exact ⟨v, e1, e3⟩
theorem sat_start (r : RepsA K mg w vs ds) (c : Cells K mg w H M) (t : LamX.Tabs Tb.T H) : Sat K mg ⟨w, H⟩ (L2.start N vs) H (startD N ds) M w := by
  refine ⟨.refl w H, t, c, by simp [startD, L2.start, r.length], fun i d h => ?_⟩
  unfold startD at h
  by_cases hi : i < ds.length
  · rw [List.getElem?_append_left (by rw [List.length_map]; exact hi), List.getElem?_map] at h
    cases e : ds[i]? with
    | none => rw [e] at h; cases h
    | some d' =>
      rw [e] at h
      cases h
      obtain ⟨v, e1, e2⟩ := repsA_at r e
      refine ⟨v, ?_, e2⟩
      unfold L2.start
      rw [List.getElem?_append_left (by rw [List.length_map, r.length]; exact hi), List.getElem?_map, e1]
      rfl
  · rw [List.getElem?_append_right (by rw [List.length_map]; omega)] at h
    rw [List.getElem?_replicate] at h
    split at h <;> cases h
/-- the things made meanwhile are let go -/
theorem trim (s : Sat K mg ⟨w, H⟩ σ H1 ρ M1 w1) : Step w H ⟨w1.F, w.al⟩ H1 ∧ Cells K mg ⟨w1.F, w.al⟩ H1 (M1.take w.al.length) := by
  obtain ⟨r, hr⟩ := s.step.le.al
  have hr : w1.al = w.al ++ r := hr
  have nd := s.cells.nd
  have hl := s.cells.len
  rw [hr] at nd hl
  have sub : ∀ {b : Addr}, b ∉ w1.al → b ∉ w.al := fun n m => n (by rw [hr]; exact List.mem_append_left _ m)
  refine ⟨⟨⟨s.step.le.F, [], by simp⟩, fun a o e t n => ⟨(s.step.keep a o e t n).1, n⟩, s.step.there, s.step.grow⟩, s.cells.fh, (List.nodup_append.mp nd).1, ?_, fun i a mo h1 h2 => ?_, s.cells.ft⟩
  · rw [List.length_take, ← hl, List.length_append]
    show w.al.length = min w.al.length _
    omega
  · have h1 : w.al[i]? = some a := h1
    have hi := (List.getElem?_eq_some_iff.mp h1).1
    rw [List.getElem?_take_of_lt hi] at h2
    exact s.cells.at_ i a mo (by rw [hr, List.getElem?_append_left hi]; exact h1) h2
theorem ret_of {s0 : Cells K mg w H M} (s : Sat K mg ⟨w, H⟩ σ H1 ρ M1 w1) (r : RepA K mg w1 v d) (q : retK M.length k d M1)
    (h : ∀ v H' w' d M', Step w H w' H' → w'.al = w.al → Cells K mg w' H' M' → LamX.Tabs Tb.T H' → RetA K mg w H w' H' v d → k d M' → Q v H') : Q v H1 := by
  obtain ⟨t1, t2⟩ := trim s
  have hn : w.al.length = M.length := s0.len
  rw [hn] at t2
  rcases r with r | ⟨i, a, rfl, rfl, e⟩
  · have e : retK M.length k d M1 = k d (M1.take M.length) := by cases r <;> rfl
    rw [e] at q
    exact h v H1 ⟨w1.F, w.al⟩ d _ t1 rfl t2 s.tabs (.inl r) q
  · obtain ⟨hi, xs, e2, q⟩ := q
    obtain ⟨hF, us, e3, e4⟩ := s.cells.at_ i a _ e e2
    obtain ⟨r, hr⟩ := s.step.le.al
    have hr : w1.al = w.al ++ r := hr
    have na : a ∉ w.al := fun m => by
      obtain ⟨j, hj, ej⟩ := List.mem_iff_getElem.mp m
      have e5 : w1.al[j]? = some a := by rw [hr, List.getElem?_append_left hj, List.getElem?_eq_getElem hj, ej]
      have := nd_inj s.cells.nd e e5
      omega
    have ma : a ∈ w1.al := List.mem_of_getElem? e
    have nH : Nw H a := by
      rcases nw_or H a with q | ⟨u, q, t⟩
      · exact q
      · exact absurd ma (s.step.out na q t)
    exact h (.ref a) H1 ⟨w1.F, w.al⟩ (.own xs) _ t1 rfl t2 s.tabs (.inr ⟨xs, a, us, rfl, rfl, nH, hF, na, e3, e4⟩) q
end
/-- A DEF KEEPS ITS PROMISE -/
theorem fnD {P : Program} {W : World} {K : PySem.W.Frag} {mg : Str → Option Value} {base : Heap} {x qual : Str} {params : Arguments} {body : List Stmt} {scope : Scope} {dvs : List V} {kws : List (Str × V)} {f : Addr} {fd : FuncData} {N ps : List Str} {kd : Nat} {sp : SpD} {τ : DS}
    (F : FunD K x qual params body scope dvs kws f fd) (S : FnScope N ps scope) (len : ∀ ds M k x, sp ds M k x → ds.length = ps.length)
    (hb : ∀ (cdv : Value) (A : Around) (outer : List Env) (s : Shared) (H : Hp) (E : XK), Room kd (A.deeper (envOfC qual scope s.heap.objs.size f cdv)) → EVSs (cxOf (L2.CX P W) P W K mg base N qual scope f cdv A outer s H E) body τ)
    (vc : ∀ ds M k x, sp ds M k x → τ (enD M.length k) (fun e _ M' => x e (M'.take M.length)) (startD N ds) M) : FnOk P W K mg base (L2.CX P W) (kd + 1) f fd ps (lift K mg sp) := by
  refine F.ok S (fun vs H Q E ⟨w, ds, M, k, x, r, c, t, h, _⟩ => by rw [r.length]; exact len _ _ _ _ h) fun cdv A outer s H vs Q E hr ⟨w, ds, M, k, x, r, c, t, h, hQ, hE⟩ => ?_
  have B := hb cdv A outer s H E hr
  refine ⟨_, wss_pss _ _, ?_⟩
  have TX : TakesD (cxOf (L2.CX P W) P W K mg base N qual scope f cdv A outer s H E) ⟨w, H⟩ (fun e _ M' => x e (M'.take M.length)) := by
    refine (takes_of (E := E) rfl rfl rfl rfl).imp fun cls d σ H' ⟨C, a, fs, ds', ρ, M', w', e1, e2, e3, e4, s', q⟩ => ?_
    subst e1 e2
    obtain ⟨t1, t2⟩ := trim s'
    have hn : w.al.length = M.length := c.len
    rw [hn] at t2
    exact hE C a fs H' ⟨w'.F, w.al⟩ ds' _ t1 rfl t2 s'.tabs e3 e4 q
  refine wss_mono ⟨?_, ?_, ?_, ?_⟩ (B.run ⟨w, H⟩ _ TX _ _ _ (vc ds M k x h) (L2.start N vs) H w (sat_start r c t))
  · intro σ H1 ⟨ρ, M1, w1, _, s1, q⟩
    exact ret_of (s0 := c) (d := .non) (k := k) s1 (.inl .non) q hQ
  · intro v H1 ⟨σ, ρ, d, M1, w1, _, s1, r1, q⟩
    exact ret_of (s0 := c) s1 r1 q hQ
  · intro σ H1 ⟨_, _, _, _, _, q⟩
    exact q.elim
  · intro σ H1 ⟨_, _, _, _, _, q⟩
    exact q.elim

/-! ### raise -/
/-- an own exception class: one field f, or two, f then g -/
def sp1 (C : Addr) (f : Str) : Sp := fun vs H Q _ => ∃ (a : Addr) (y : V), vs = [.ref a, y] ∧ H a = some (exo a C none) ∧ ∀ dx, H dx = none → dx ≠ a → Q .non (upd (upd H dx (exd dx [(f, y)])) a (exo a C (some dx)))
def sp2 (C : Addr) (f g : Str) : Sp := fun vs H Q _ => ∃ (a : Addr) (y z : V), vs = [.ref a, y, z] ∧ H a = some (exo a C none) ∧ ∀ dx, H dx = none → dx ≠ a → Q .non (upd (upd (upd H dx (exd dx [(f, y)])) a (exo a C (some dx))) dx (exd dx [(g, z), (f, y)]))
structure ExC1 (X : Cx) (k : Nat) (C f : Str) : Prop where
  oex : OexC X.K (clA X.mg C)
  ex : ∃ (fI : Addr) (fd : FuncData) (ps : List Str), PySem.W.findIn X.K (.ref (clA X.mg C)) "__init__" = some (some (.ref fI)) ∧ PySem.W.typeIn X.K (.ref fI) = some (.type "function") ∧ FnOk X.prog X.w X.K X.mg X.base CX0 k fI fd ps (sp1 (clA X.mg C) f) ∧ Binds X.K fd ps []
  at_ : X.mg C = some (.ref (clA X.mg C))
structure ExC2 (X : Cx) (k : Nat) (C f g : Str) : Prop where
  oex : OexC X.K (clA X.mg C)
  ex : ∃ (fI : Addr) (fd : FuncData) (ps : List Str), PySem.W.findIn X.K (.ref (clA X.mg C)) "__init__" = some (some (.ref fI)) ∧ PySem.W.typeIn X.K (.ref fI) = some (.type "function") ∧ FnOk X.prog X.w X.K X.mg X.base CX0 k fI fd ps (sp2 (clA X.mg C) f g) ∧ Binds X.K fd ps []
  at_ : X.mg C = some (.ref (clA X.mg C))
def sRai1 (C f : Str) (te : DA) : DS := fun _ R ρ M => te ρ M (fun ds M1 => ∃ d, ds = [d] ∧ isPure d = true ∧ R (C, [f], [d]) ρ M1) fun x M1 => R x ρ M1
def sRai2 (C f g : Str) (te : DA) : DS := fun _ R ρ M => te ρ M (fun ds M1 => ∃ d e, ds = [d, e] ∧ isPure d = true ∧ isPure e = true ∧ R (C, [g, f], [e, d]) ρ M1) fun x M1 => R x ρ M1
section
variable {X : Cx} {C f g : Str} {e e2 : Expr} {ta : DA} {kd : Nat} {p pos pos2 : Pos}
theorem upd_back {H : Hp} {a dx : Addr} {o1 o2 u : HO} (na : H a = none) (nd : dx ≠ a) : upd (del (upd (upd H dx o1) a o2) a) dx u = upd H dx u := by
  funext b
  by_cases h1 : b = dx
  · rw [h1, upd_same, upd_same]
  · rw [upd_ne h1, upd_ne h1]
    by_cases h2 : b = a
    · rw [h2, del_same, na]
    · rw [del_ne h2, upd_ne h2, upd_ne h1]
theorem upd_back2 {H : Hp} {a dx : Addr} {o1 o2 o3 u : HO} (na : H a = none) (nd : dx ≠ a) : upd (del (upd (upd (upd H dx o1) a o2) dx o3) a) dx u = upd H dx u := by
  funext b
  by_cases h1 : b = dx
  · rw [h1, upd_same, upd_same]
  · rw [upd_ne h1, upd_ne h1]
    by_cases h2 : b = a
    · rw [h2, del_same, na]
    · rw [del_ne h2, upd_ne h1, upd_ne h2, upd_ne h1]
theorem evs_raise1 (hc : X.calm = true) (T : ExC1 X kd C f) (hr : Room (kd + 1) X.A) (ha : EVA X [e] ta) (hg : Gl X C) (hdb : (C == ("__debug__" : Str)) = false := by decide)
    (he : starEach [e] X.env = (false, eval e X.env) :: starEach [] X.env := by rfl) (hpl : (backTo pos (starEach [] X.env)).any (·.1) = false := by rfl) : EVS X (.Raise (some (.Call (.Name C p) [e] [] pos)) none pos2) (sRai1 C f ta) := ⟨fun O R TX ρ M E h σ H w s => by
  obtain ⟨fI, fd, ps, i1, i2, F, hb⟩ := T.ex
  refine ws_of (ps_raise hc TX (pmk_oex T.oex i1 i2 F hr hb .nil (fun _ _ _ _ _ _ _ z => z.elim) hg T.at_ (wa_pa X [e]) hdb he hpl)) ?_
  refine wa_mono (ha.run O R TX ρ M _ h σ H w s) fun vs H1 ⟨w1, ds, M1, l1, s1, r1, d, ed, hp, q⟩ => ?_
  subst ed
  cases r1 with
  | @cons v _ _ _ r t =>
    cases t
    have rv : Rep X.K X.mg w1.F v d := by
      rcases r with r | ⟨_, _, e, _⟩
      · exact r
      · subst e; cases hp
    refine ⟨(by show 1 ≤ 1000; decide), fun a na => ⟨a, v, rfl, upd_same, fun dx hd nd => ?_⟩⟩
    have hd1 : H1 dx = none := by rw [upd_ne nd] at hd; exact hd
    refine ⟨rfl, dx, _, upd_same, by rw [upd_ne nd, upd_same], hd1, ?_⟩
    have eq : upd (upd (upd H1 a (exo a (clA X.mg C) none)) dx (exd dx [(f, v)])) a (exo a (clA X.mg C) (some dx)) = upd (upd H1 dx (exd dx [(f, v)])) a (exo a (clA X.mg C) (some dx)) := by
      funext b
      by_cases h2 : b = a
      · rw [h2, upd_same, upd_same]
      · rw [upd_ne h2, upd_ne h2]
        by_cases h1 : b = dx
        · rw [h1, upd_same, upd_same]
        · rw [upd_ne h1, upd_ne h1, upd_ne h2]
    rw [eq, upd_back na nd]
    exact ⟨C, dx, [(f, v)], [d], ρ, M1, w1.more dx _, rfl, rfl, upd_same, .cons (rv.mono (Ex.upd (s1.cells.fh.fresh hd1))) .nil, s1.more hd1, q⟩⟩
theorem evs_raise2 (hc : X.calm = true) (T : ExC2 X kd C f g) (hr : Room (kd + 1) X.A) (ha : EVA X [e, e2] ta) (hg : Gl X C) (hdb : (C == ("__debug__" : Str)) = false := by decide)
    (he : starEach [e, e2] X.env = (false, eval e X.env) :: starEach [e2] X.env := by rfl) (hpl : (backTo pos (starEach [e2] X.env)).any (·.1) = false := by rfl) : EVS X (.Raise (some (.Call (.Name C p) [e, e2] [] pos)) none pos2) (sRai2 C f g ta) := ⟨fun O R TX ρ M E h σ H w s => by
  obtain ⟨fI, fd, ps, i1, i2, F, hb⟩ := T.ex
  refine ws_of (ps_raise hc TX (pmk_oex T.oex i1 i2 F hr hb .nil (fun _ _ _ _ _ _ _ z => z.elim) hg T.at_ (wa_pa X [e, e2]) hdb he hpl)) ?_
  refine wa_mono (ha.run O R TX ρ M _ h σ H w s) fun vs H1 ⟨w1, ds, M1, l1, s1, r1, d, d2, ed, hp, hp2, q⟩ => ?_
  subst ed
  cases r1 with
  | @cons v _ _ _ r t =>
    cases t with
    | @cons v2 _ _ _ r2 t =>
      cases t
      have rv : Rep X.K X.mg w1.F v d := by
        rcases r with r | ⟨_, _, e, _⟩
        · exact r
        · subst e; cases hp
      have rv2 : Rep X.K X.mg w1.F v2 d2 := by
        rcases r2 with r | ⟨_, _, e, _⟩
        · exact r
        · subst e; cases hp2
      refine ⟨(by show 2 ≤ 1000; decide), fun a na => ⟨a, v, v2, rfl, upd_same, fun dx hd nd => ?_⟩⟩
      have hd1 : H1 dx = none := by rw [upd_ne nd] at hd; exact hd
      refine ⟨rfl, dx, [(g, v2), (f, v)], by rw [upd_ne (Ne.symm nd), upd_same], upd_same, hd1, ?_⟩
      have eq : upd (upd (upd (upd H1 a (exo a (clA X.mg C) none)) dx (exd dx [(f, v)])) a (exo a (clA X.mg C) (some dx))) dx (exd dx [(g, v2), (f, v)]) = upd (upd (upd H1 dx (exd dx [(f, v)])) a (exo a (clA X.mg C) (some dx))) dx (exd dx [(g, v2), (f, v)]) := by
        funext b
        by_cases h1 : b = dx
        · rw [h1, upd_same, upd_same]
        · rw [upd_ne h1, upd_ne h1]
          by_cases h2 : b = a
          · rw [h2, upd_same, upd_same]
          · rw [upd_ne h2, upd_ne h2, upd_ne h1, upd_ne h1, upd_ne h2]
      rw [eq, upd_back2 na nd]
      exact ⟨C, dx, [(g, v2), (f, v)], [d2, d], ρ, M1, w1.more dx _, rfl, rfl, upd_same, .cons (rv2.mono (Ex.upd (s1.cells.fh.fresh hd1))) (.cons (rv.mono (Ex.upd (s1.cells.fh.fresh hd1))) .nil), s1.more hd1, q⟩⟩
end
end Dl
set_option Elab.async false
set_option linter.all false
set_option maxRecDepth 100000
set_option maxHeartbeats 1000000
set_option autoImplicit false
/-! Dl11: isinstance; exceptions held. -/
namespace Dl
open PySem PySem.Spec PyProof.Rows L2
variable [Tb]

def tgV (mg : Str → Option Value) : Tg → Value
  | .b n => .type n
  | .c C => .ref (clA mg C)
def tag : D → Option Tg
  | .non => some (.b "NoneType")
  | .bl _ => some (.b "bool")
  | .int _ => some (.b "int")
  | .str _ => some (.b "str")
  | .lst _ => some (.b "list")
  | .scr _ => some (.b "list")
  | .tup _ => some (.b "tuple")
  | .dct _ _ => some (.b "dict")
  | .ins C _ _ => some (.c C)
  | .exc C _ _ => some (.c C)
  | _ => none
/-- what isinstance asks of an own class -/
structure IsC (K : PySem.W.Frag) (C : Addr) : Prop where
  ha : PySem.W.findIn K (.ref C) "__class__" = some (some (.builtin "object.__class__"))
  hn : PySem.W.specialIn K (.builtin "object.__class__") "__get__" = some (some (.builtin "getset_descriptor.__get__"))
  htk : PySem.W.takesIn K (.builtin "object.__class__") = some true
  hm : PySem.W.mroIn K C (.type "object") = some true
/-- what is asked of an own exception class -/
structure ExK (K : PySem.W.Frag) (C : Addr) : Prop where
  is : IsC K C
  hc : (PySem.W.clsIn K C).isSome = true
  xf : XfC K C
/-- the types that are asked about: ts of values, cs of classes -/
structure Isa (K : PySem.W.Frag) (mg : Str → Option Value) (is es : List Str) : Prop where
  ins : ∀ C ∈ is, IsC K (clA mg C)
  exc : ∀ C ∈ es, ExK K (clA mg C)
def bTags : List String := ["NoneType", "bool", "int", "str", "list", "tuple", "dict"]
/-- d is of a type that may be asked about -/
def okT (is es : List Str) : D → Bool
  | .ins C _ _ => is.contains C
  | .exc C _ _ => es.contains C
  | _ => true
def tgs (is es : List Str) : List Tg := bTags.map .b ++ (is ++ es).map .c
/-- isinstance is answered as isa says -/
def IsaOk (K : PySem.W.Frag) (mg : Str → Option Value) (is es : List Str) (cs : List Tg) : Prop := ∀ t ∈ tgs is es, ∀ c ∈ cs, PySem.W.kitOne K (tgV mg t) (tgV mg c) = some (Tb.isa t c)
def isB (is es : List Str) (cs : List Tg) (d : D) (k : D → Prop) : Prop := okT is es d = true ∧ ∃ t, tag d = some t ∧ k (.bl (cs.any (Tb.isa t)))
theorem tag_mem {is es : List Str} {d : D} {t : Tg} (h : tag d = some t) (o : okT is es d = true) : t ∈ tgs is es := by
  unfold tgs
  cases d with
  | ins C ks xs =>
    cases h
    exact List.mem_append_right _ (List.mem_map.mpr ⟨C, List.mem_append_left _ (List.contains_iff_mem.mp o), rfl⟩)
  | exc C ks xs =>
    cases h
    exact List.mem_append_right _ (List.mem_map.mpr ⟨C, List.mem_append_right _ (List.contains_iff_mem.mp o), rfl⟩)
  | _ => first
    | (cases h; exact List.mem_append_left _ (List.mem_map.mpr ⟨_, by decide, rfl⟩))
    | cases h
section
variable {X : Cx} {is es : List Str} {pins : List (Addr × Obj)} {σ : L2.St} {H : Hp} {s : Shared} {w : Wd} {v : V} {d : D} {u : Value} {t : Tg}
theorem kit_d (T : Isa X.K X.mg is es) (I : Inv X pins σ H s) (c : Ex w.F H) (r : RdH X.K X.mg w H v d) (rv : RelV v u) (o : okT is es d = true) (h : tag d = some t) :
    ∃ P : Heap → Prop, PySem.W.KitX X.K u (tgV X.mg t) P ∧ P s.heap ∧ u ≠ .builtin "__main__.__loader__#opaque" := by
  cases d with
  | non => cases h; rw [r.non] at rv; exact kit_of I rv (.base .non)
  | bl b => cases h; rw [r.bl] at rv; exact kit_of I rv (.base (.bl b))
  | int i => cases h; rw [r.int] at rv; exact kit_of I rv (.base (.int i))
  | str x => cases h; rw [r.str] at rv; exact kit_of I rv (.base (.str x))
  | lst xs =>
    cases h
    obtain ⟨a, vs, rfl, h1, _⟩ := r.lstE c
    exact kit_of I rv (.base (.lst h1))
  | scr ns =>
    cases h
    obtain ⟨a, rfl, h1⟩ := r.scr c
    rcases h1 with h1 | ⟨o, its, n, h1, h2, _⟩
    · rcases h1 with h1 | ⟨o, h1⟩
      · exact kit_of I rv (.base (.lst h1))
      · exact kit_of I rv (.base (.frz h1))
    · exact kit_of I rv (.kList h1 h2)
  | tup xs =>
    cases h
    obtain ⟨a, vs, rfl, h1, _⟩ := r.tup c
    rcases h1 with h1 | ⟨o, its, n, h1, h2, _⟩
    · rcases h1 with h1 | ⟨o, h1⟩
      · exact kit_of I rv (.base (.tup h1))
      · exact kit_of I rv (.fTuple h1)
    · exact kit_of I rv (.kTuple h1 h2)
  | dct ks xs =>
    cases h
    cases r with
    | pure r =>
      cases r with
      | dct h1 _ _ => exact kit_of I rv (.base (.dK (c _ _ h1)))
    | dct h1 _ => exact kit_of I rv (.base (.dK h1))
  | ins C ks xs =>
    cases h
    obtain ⟨a, dx, fs, rfl, h1, io, _, _⟩ := r.insE c
    have z := T.ins C (List.contains_iff_mem.mp o)
    exact kit_of I rv (.base (.ins h1 io.1 z.ha z.hn z.htk z.hm))
  | exc C ks xs =>
    cases h
    have z := T.exc C (List.contains_iff_mem.mp o)
    cases r with
    | pure r =>
      cases r with
      | @exc a dd _ _ fs _ h1 h2 h3 h4 =>
        cases (show u = Value.ref a from rv)
        have ok : ObjOk X.prog X.w H s.heap a (excH a (clA X.mg C) dd) := I.hok a _ (c _ _ h1)
        obtain ⟨⟨oe, vs, e1, e2, e3⟩, _, _⟩ := ok
        obtain ⟨mA, hns, _⟩ := (show ObjOk X.prog X.w H s.heap dd (.xd fs) from I.hok dd _ (c _ _ h2))
        obtain ⟨od, ho, _⟩ := lookIn_ns hns
        have J : PySem.W.InstAt s.heap a oe (clA X.mg C) (some od) := ⟨e1, e2.1, by unfold PySem.W.notCls; rw [e3] <;> rfl, by rw [e2.2]; exact ho⟩
        exact ⟨_, PySem.W.kitx_exc z.hc z.xf.ga z.xf.gg z.xf.exC z.is.ha z.is.hn z.is.htk z.is.hm, J, fun z => nomatch z⟩
  | _ => cases h
end
/-! ### isinstance(e, C), isinstance(e, (C, ..)) -/
def dIs (is es : List Str) (cs : List Tg) (te : DE) : DE := fun ρ M k x => te ρ M (fun d M1 => isB is es cs (view M1 d) fun z => k z M1) x
/-- a name that is a class -/
def ClsNm (X : Cx) (x : Str) (t : Tg) : Prop := Gl X x ∧ (x == ("__debug__" : Str)) = false ∧ match t with
  | .b n => X.mg x = none ∧ bootBuiltins x = some (.type n) ∧ x ≠ "__name__"
  | .c C => x = C ∧ X.mg x = some (.ref (clA X.mg C))
def clV (mg : Str → Option Value) : Tg → V
  | .b n => .ty n
  | .c C => .ref (clA mg C)
theorem clV_ok {mg : Str → Option Value} : ∀ t : Tg, ClsV (clV mg t) (tgV mg t)
  | .b n => .ty n
  | .c _ => .own _
theorem pe_cls {X : Cx} {x : Str} {t : Tg} {p : Pos} (h : ClsNm X x t) : PE X (.Name x p) (tC (clV X.mg t)) := by
  obtain ⟨hg, hd, h⟩ := h
  refine ⟨fun pins s σ H Q I q => ?_⟩
  cases t with
  | b n => exact ld_blt I hg h.1 h.2.1 ⟨.ty n, H, I, rfl, q⟩ h.2.2 hd
  | c C =>
    obtain ⟨rfl, h⟩ := h
    exact ld_glob I hg h ⟨.ref (clA X.mg x), H, I, rfl, q⟩ hd
/-- the classes of a tuple -/
inductive ClsNms (X : Cx) : List Expr → List Tg → Prop
  | nil : ClsNms X [] []
  | cons {x : Str} {p : Pos} {t : Tg} {es : List Expr} {ts : List Tg} : ClsNm X x t → ClsNms X es ts → ClsNms X (.Name x p :: es) (t :: ts)
def tClss (mg : Str → Option Value) (ts : List Tg) : TA := fun _ H Q => Q (ts.map (clV mg)) H
theorem starEach_name {x : Str} {p : Pos} {es : List Expr} {env : Env} : starEach (.Name x p :: es) env = (false, eval (.Name x p) env) :: starEach es env := rfl
theorem pa_clss {X : Cx} : ∀ {es : List Expr} {ts : List Tg}, ClsNms X es ts → PA X es (tClss X.mg ts)
  | _, _, .nil => ⟨fun pos pins s σ H Q I h => pa_nil.run pos pins s σ H Q I h⟩
  | _, _, .cons h t => ⟨fun pos pins s σ H Q I q => (pa_cons (pe_cls h) (pa_clss t) starEach_name).run pos pins s σ H Q I q⟩
def rIsD (X : Cx) (cs : List Tg) : List V → Hp → VK → Prop := fun xs H Q => ∃ (x : V) (t : Tg) (b : Bool), (∃ cv, xs = [x, cv] ∧ ((∃ c, cs = [c] ∧ cv = clV X.mg c) ∨ ∃ tp, cv = .ref tp ∧ H tp = some (.tup (cs.map (clV X.mg))))) ∧
  (∀ (pins : List (Addr × Obj)) (σ : L2.St) (s : Shared) (u : Value), Inv X pins σ H s → RelV x u → ∃ P : Heap → Prop, PySem.W.KitX X.K u (tgV X.mg t) P ∧ P s.heap ∧ u ≠ .builtin "__main__.__loader__#opaque") ∧ (∀ c ∈ cs, PySem.W.kitOne X.K (tgV X.mg t) (tgV X.mg c) = some (Tb.isa t c)) ∧ Q (.bl (cs.any (Tb.isa t))) H
theorem kitAny_isa {K : PySem.W.Frag} {mg : Str → Option Value} {t : Tg} : ∀ {cs : List Tg}, (∀ c ∈ cs, PySem.W.kitOne K (tgV mg t) (tgV mg c) = some (Tb.isa t c)) → PySem.W.kitAny K (tgV mg t) (cs.map (tgV mg)) = some (cs.any (Tb.isa t))
  | [], _ => kitAny_nil
  | c :: cs, h => by
    rw [List.map_cons, List.any_cons]
    refine kitAny_cons (h c List.mem_cons_self) (fun e => ?_) (fun e => by rw [e]; rfl)
    rw [e, Bool.false_or]
    exact kitAny_isa fun c m => h c (List.mem_cons_of_mem _ m)
theorem clss_all {mg : Str → Option Value} : ∀ cs : List Tg, Paired ClsV (cs.map (clV mg)) (cs.map (tgV mg))
  | [] => .nil
  | c :: cs => .cons (clV_ok c) (clss_all cs)
theorem call_isD {X : Cx} {cs : List Tg} : CallR X (.builtin "isinstance") (rIsD X cs) := by
  intro pins s σ H xs us Q I r h
  obtain ⟨x, t, b, ⟨cv, rfl, hcv⟩, hk, ho, q⟩ := h
  obtain ⟨u1, u2, rfl, r1, r2⟩ := vals2 r
  obtain ⟨P, Z, p, hx⟩ := hk pins σ s u1 I r1
  rcases hcv with ⟨c, rfl, rfl⟩ | ⟨tp, rfl, hT⟩
  · have e2 := (clV_ok c).eq r2
    subst e2
    have e : PySem.W.kitOne X.K (tgV X.mg t) (tgV X.mg c) = some ([c].any (Tb.isa t)) := by
      rw [ho c List.mem_cons_self]
      simp
    exact PySem.W.kia_one Z I.kIn p e hx fun tk => ⟨.bl _, H, I.tok tk, rfl, q⟩
  · cases (show u2 = Value.ref tp from r2)
    obtain ⟨_, its, rv, o, h1, h2, n, h3⟩ := (show ObjOk X.prog X.w H s.heap tp (.tup (cs.map (clV X.mg))) from I.hok tp _ hT)
    have e3 := ClsV.all (clss_all cs) rv
    subst e3
    obtain ⟨oc, od, dt, sl⟩ := o
    simp only at h2 h3
    subst h2 h3
    exact PySem.W.kia_tup Z I.kIn p h1 (kitAny_isa ho) hx fun tk => ⟨.bl _, H, I.tok tk, rfl, q⟩
section
variable {X : Cx} {is es : List Str} {e : Expr} {te : DE} {x c : Str} {t : Tg} {ts : List Tg} {ces : List Expr} {p p2 pos : Pos} {x1 : Nat}
theorem ev_is (T : Isa X.K X.mg is es) (ok : IsaOk X.K X.mg is es [t]) (hg : Gl X "isinstance") (hm : X.mg "isinstance" = none) (he : EV X e te) (hc : ClsNm X c t) (hs : starEach [e, .Name c p2] X.env = (false, eval e X.env) :: starEach [.Name c p2] X.env := by rfl)
    (hpl : (backTo pos (starEach [.Name c p2] X.env)).any (·.1) = false := by rfl) : EV X (.Call (.Name "isinstance" p) [e, .Name c p2] [] pos) (dIs is es [t] te) := ⟨fun O R TX ρ M k h σ H w s =>
  we_of (pe_callB call_isD hg hm boot_isinstance (pa_cons (we_pe X e) (pa_cons (pe_cls hc) pa_nil starEach_name) hs) (by decide) (by decide) hs hpl)
    (we_mono (he.run O R TX ρ M _ h σ H w s) fun v H1 ⟨w1, d, M1, l1, s1, r1, o, tg, e1, q⟩ =>
      ⟨v, tg, true, ⟨_, rfl, .inl ⟨t, rfl, rfl⟩⟩, fun pins σ s u I ru => kit_d T I s1.cells.fh (rdh_view s1.cells r1) ru o e1, fun c m => ok tg (tag_mem e1 o) c m, w1, _, M1, l1, s1, .inl (.bl _), q⟩)⟩
theorem ev_isT (T : Isa X.K X.mg is es) (ok : IsaOk X.K X.mg is es ts) (hg : Gl X "isinstance") (hm : X.mg "isinstance" = none) (he : EV X e te) (hc : ClsNms X ces ts) (hl : ts.length ≤ 1000 := by decide)
    (hs : starEach [e, .Tuple ces x1 p2] X.env = (false, eval e X.env) :: starEach [.Tuple ces x1 p2] X.env := by rfl) (hs2 : starEach [.Tuple ces x1 p2] X.env = (false, eval (.Tuple ces x1 p2) X.env) :: starEach [] X.env := by rfl)
    (hpl : (backTo pos (starEach [.Tuple ces x1 p2] X.env)).any (·.1) = false := by rfl) : EV X (.Call (.Name "isinstance" p) [e, .Tuple ces x1 p2] [] pos) (dIs is es ts te) := ⟨fun O R TX ρ M k h σ H w s =>
  we_of (pe_callB call_isD hg hm boot_isinstance (pa_cons (we_pe X e) (pa_cons (pe_tup (pa_clss hc)) pa_nil hs2) hs) (by decide) (by decide) hs hpl)
    (we_mono (he.run O R TX ρ M _ h σ H w s) fun v H1 ⟨w1, d, M1, l1, s1, r1, o, tg, e1, q⟩ => by
      refine ⟨by rw [List.length_map, sizeLine_eq]; omega, fun tp hp => ?_⟩
      have s2 := s1.more (o := .tup (ts.map (clV X.mg))) hp
      have l2 : w1.le (w1.more tp (.tup (ts.map (clV X.mg)))) := Wd.le_more (s1.cells.fh.fresh hp)
      exact ⟨v, tg, true, ⟨_, rfl, .inr ⟨tp, rfl, upd_same⟩⟩, fun pins σ s u I ru => kit_d T I s2.cells.fh (rdh_view s2.cells (r1.mono l2)) ru o e1, fun c m => ok tg (tag_mem e1 o) c m, _, _, M1, l1.trans l2, s2, .inl (.bl _), q⟩)⟩
end

/-! ### a held exception's field -/
def dXf (es : List Str) (f : Str) (te : DE) : DE := fun ρ M k x => te ρ M (fun d M1 => ∃ C ks xs z, view M1 d = .exc C ks xs ∧ es.contains C = true ∧ lookD f ks xs = some z ∧ k z M1) x
theorem ev_xf {X : Cx} {is es : List Str} {e : Expr} {te : DE} {f : Str} {pos : Pos} (T : Isa X.K X.mg is es) (hno : ∀ C ∈ es, PySem.W.findIn X.K (.ref (clA X.mg C)) f = some none) (he : EV X e te) (hb : attributeBase e f X.env (eval e X.env) = eval e X.env := by rfl) :
    EV X (.Attribute e f pos) (dXf es f te) := ⟨fun O R TX ρ M k h σ H w s pins s0 I => by
  refine attr_of hb (thn (he.run O R TX ρ M _ h σ H w s pins s0 I) fun u s1 ⟨v, H1, I1, rv, w1, d, M1, l1, S1, r1, C, ks, xs, z, e1, e2, e3, q⟩ => ?_)
  have rd := rdh_view S1.cells r1
  rw [e1] at rd
  have hz := T.exc C (List.contains_iff_mem.mp e2)
  cases rd with
  | pure r =>
    cases r with
    | @exc a dd _ _ fs _ h1 h2 h3 h4 =>
      subst h3
      cases (show u = Value.ref a from rv)
      have c := S1.cells.fh
      have ok : ObjOk X.prog X.w H1 s1.heap a (excH a (clA X.mg C) dd) := I1.hok a _ (c _ _ h1)
      obtain ⟨⟨oe, vs, o1, o2, o3⟩, _, _⟩ := ok
      obtain ⟨mA, hns, hr⟩ := (show ObjOk X.prog X.w H1 s1.heap dd (.xd fs) from I1.hok dd _ (c _ _ h2))
      obtain ⟨od, ho, hl⟩ := lookIn_ns hns
      have J : PySem.W.InstAt s1.heap a oe (clA X.mg C) (some od) := ⟨o1, o2.1, by unfold PySem.W.notCls; rw [o3] <;> rfl, by rw [o2.2]; exact ho⟩
      obtain ⟨v', l, rv', _⟩ := lookD_ok h4 e3
      obtain ⟨u', hu, ru⟩ := RelO.some_of (v := v') (o := mA f) (by rw [← l]; exact hr f)
      exact HandSPX.exc_get I1.kIn J hz.xf.ga hz.xf.gg hz.xf.exC (PySem.W.findObj_own hz.xf.hdC (hno C (List.contains_iff_mem.mp e2)) rfl (by rw [hl, hu])) (handed_of ru) ⟨v', H1, I1.tok _, ru, w1, z, M1, l1, S1, .inl rv', q⟩⟩
end Dl
set_option Elab.async false
set_option linter.all false
set_option maxRecDepth 100000
set_option maxHeartbeats 1000000
set_option autoImplicit false
/-! Dl12: try: .. except C as n: m = n; the exception is held by m. -/
namespace Dl
open PySem PySem.Spec PyProof.Rows L2
variable [Tb]

section
variable {X : Cx} {pins : List (Addr × Obj)} {σ : L2.St} {H : Hp} {s : Shared}
/-- the exception that the suite held is tracked from now on -/
theorem Inv.held {a C dd : Addr} {oe : Obj} {vs : Array Value} (I : Inv X pins σ H s) (ha : s.heap.get? a = some oe) (hz : Zc (.ref C) (some dd) oe) (hd : oe.data = .fields vs) (na : H a = none) (nL : a ≠ X.env.locals)
    (nS : X.s_0.heap.get? a = none) (nP : ∀ p ∈ X.pn ++ pins, p.1 ≠ a) : Inv X pins σ (upd H a (excH a C dd)) s := by
  have nex : ∀ b o, H b = some o → b ≠ a := fun b o e z => by rw [z, na] at e; cases e
  refine ⟨I.ok, I.os, I.bare, ⟨I.base.keep, I.base.slot, fun b o e n hx => ?_, I.base.there, fun b xs e => ?_, fun b o u e => ?_, fun b ps e => ?_⟩, I.loc, I.cell, ?_, fun x c e => ?_, fun p hp => ?_, fun b o e => ?_, I.len⟩
  · rw [upd_ne (fun z => by rw [z, nS] at e; cases e)]
    exact I.base.free b o e n hx
  · have z := I.base.tups b xs e
    rw [upd_ne (nex b _ z)]; exact z
  · have z := I.base.frzs b o u e
    rw [upd_ne (nex b _ z)]; exact z
  · obtain ⟨m, z⟩ := I.base.tbls b ps e
    exact ⟨m, by rw [upd_ne (nex b _ z)]; exact z⟩
  · rw [upd_ne (Ne.symm nL)]; exact I.free
  · rw [upd_ne]
    · exact I.freeC x c e
    · intro z
      obtain ⟨v, q⟩ := I.cell x c e
      rw [z] at q
      obtain ⟨o, e1, e2⟩ := q
      rw [ha] at e1
      cases e1
      rw [hd] at e2
      cases e2
  · obtain ⟨z1, z2, z3⟩ := I.pin p hp
    exact ⟨z1, by rw [upd_ne (nP p hp)]; exact z2, z3⟩
  · by_cases hb : b = a
    · subst hb
      rw [upd_same] at e
      cases e
      exact ⟨⟨oe, vs, ha, hz, hd⟩, ⟨oe, ha⟩, fun h1 h2 ⟨oe', vs', e1, e2, e3⟩ k => ⟨oe', vs', k _ e1, e2, e3⟩⟩
    · rw [upd_ne hb] at e
      exact (I.hok b o e).stay (fun _ _ _ q => q) (fun c q => by rw [upd_ne (nex c _ q)]; exact q) fun c xs q => by rw [upd_ne (nex c _ q)]; exact q
end
/-- what the clause wishes of an exception of the body: i is n's slot, j is m's -/
def wKp (X : Cx) (c : Value) (i j : Nat) (Wout : WX) (D : Ends) : WX := fun cls d σ H =>
  ∃ b, PySem.W.exmOne X.K cls c = some b ∧ (b = true → σ.length = X.N.length → ∃ C dd, cls = .ref C ∧ d = some dd ∧ ∀ a, H a = none → D.nx (((σ.set i (some (.ref a))).set j (some (.ref a))).set i none) (upd H a (excH a C dd))) ∧ (b = false → Wout cls d σ H)
section
variable {X : Cx} {x n m : Str} {c : Value} {i j : Nat} {body : List Stmt} {np mp np2 apos pos pos' : Pos} {tb : WX → TS} {Wout : WX}
theorem ps_try_keep (hs : X.stack = X.env :: X.outer) (hf : X.env.frame = some X.env.locals) (hex : X.ex = []) (hN : X.N.Nodup) (hi : X.N[i]? = some n) (hln : X.env.kindOf n = some .local) (hj : X.N[j]? = some m) (hlm : X.env.kindOf m = some .local) (hij : i ≠ j) (hd1 : (n == ("__debug__" : Str)) = false) (hd2 : (n == ("__classdict__" : Str)) = false)
    (hsw : swapsWith (.Name n np2) (some (.Name m mp)) apos.line X.env = pure false) (hc : Names X x c) (tk : Takes X Wout)
    (hb : ∀ (W : WX) (pn : List (Addr × Obj)) (xe : Value → Shared → Prop), Takes (X.tr pn xe) W → PassesOwn (model X.prog X.w) X.A X.env xe → PSs (X.tr pn xe) body (tb W)) :
    PS X (.Try body [.ExceptHandler (some (.Name x np)) (some n) [.Assign [.Name m mp] (.Name n np2) apos] pos'] [] [] pos) (fun D σ H => tb (wKp X c i j Wout D) D σ H) := by
  refine ⟨fun pins s σ H D I h => ?_⟩
  have ok := I.ok
  have hfr : X.A.frames = some (X.env :: X.outer) := by rw [ok.frames, hs]
  have hloc : Loc X.env.scope n := .inl hln
  refine wpAny_Try_except ?_
  refine wpAny_mono ((hb (wKp X c i j Wout D) (X.pn ++ pins) (fun e s₁ => wpAny (model X.prog X.w) X.A (noteFrame e X.env) (fun _ s₂ => wpAny (model X.prog X.w) X.A (setFlight e none) (fun _ s₃ =>
    wpAny (model X.prog X.w) X.A (handleBy e X.env [.ExceptHandler (some (.Name x np)) (some n) [.Assign [.Name m mp] (.Name n np2) apos] pos']) (SP X pins D) X.xe s₃) X.xe s₂) X.xe s₁) (fun u s' xx => ?_) PassesOwn.looking).run [] s σ H D (I.toTry _) h) (fun f s1 hsp => ?_) (fun e s1 he => he)
  · obtain ⟨a, B, sI, pins', σ', H', cls, d, rfl, J', nb, up, sky, na, os, ag, b, hb1, hyes, hno⟩ := xx
    have J : Inv X pins σ' H' sI := J'.ofTry ok
    have sky' : Sky B (X.env :: X.outer) a (Zc cls d) X.env.locals s'.heap := by rw [← hs]; exact sky
    show wpAny (model X.prog X.w) X.A (noteFrame (.ref a) X.env) _ _ _
    refine Sky.land Zc.steady hfr hf sky' fun h3 fl3 up3 => ?_
    have J3 : Inv X pins σ' H' { s' with heap := h3 } := J.landed nb fl3.1 (up.trans up3) os ag
    obtain ⟨oe3, vs3, he3, hz3, hd3⟩ := fl3.there
    have nfr : a ∉ frs (X.env :: X.outer) := fun hm => by
      obtain ⟨_, o', e', hnf⟩ := fl3.2.2.1.mem hm
      rw [he3] at e'; cases e'
      exact hnf _ hd3
    have nL : a ≠ X.env.locals := fun z => nfr (List.mem_filterMap.mpr ⟨X.env, List.mem_cons_self, by rw [hf, z]⟩)
    have nF : a ∉ X.fs := fun hm => by
      obtain ⟨e, he, q⟩ := List.mem_filterMap.mp hm
      exact nfr (List.mem_filterMap.mpr ⟨e, List.mem_cons_of_mem _ he, q⟩)
    -- it is new
    have nI : sI.heap.get? a = none := by
      cases q : sI.heap.get? a with
      | none => rfl
      | some o =>
        have z := nb a o q (by rw [hs]; exact nfr)
        rw [fl3.2.1] at z
        cases z
    have nS : X.s_0.heap.get? a = none := by
      cases q : X.s_0.heap.get? a with
      | none => rfl
      | some o =>
        obtain ⟨o', z⟩ := J.base.there a o q (by rw [hex]; exact List.not_mem_nil)
        rw [nI] at z
        cases z
    have nP : ∀ p ∈ X.pn ++ pins, p.1 ≠ a := fun p hp z => by
      have e := (J.pin p hp).1
      rw [z, nI] at e
      cases e
    have S3 := J3.suite he3 hd3 na nL nF
    refine wpAny_handleBy_cons (codeAny_handlers_test ?_) (by intro q; cases q)
    have LT : PySem.W.Looks (model X.prog X.w) h3 (typeOf (.ref a)) cls := fun A Q E s k q => wpAny_typeOf_ref (k _ _ he3) (by rw [hz3.1]; exact q)
    have LM := PySem.W.exm_one (M := model X.prog X.w) (J3.kIn) LT hb1
    have test : ∀ {Q : Value → Shared → Prop} {E : Value → Shared → Prop}, Q c { s' with heap := h3 } → wpAny (model X.prog X.w) (X.A.mark (some (.ref a))) (eval (.Name x np) X.env) Q E { s' with heap := h3 } := fun {Q E} q => by
      obtain ⟨hg, hdbg, hm | ⟨hm, hv, hnn⟩⟩ := hc
      · exact ld_glob (X := X.suite a ((a, oe3) :: (X.pn ++ pins))) S3 hg hm q hdbg
      · exact ld_blt (X := X.suite a ((a, oe3) :: (X.pn ++ pins))) S3 hg hm hv q hnn hdbg
    refine test (LM.here ?_)
    cases b with
    | true =>
      obtain ⟨C, dd, rfl, rfl, hq⟩ := hyes rfl J.len
      refine codeAny_handlers_suite_as ?_
      refine HandSPX.lands_againZ fl3 fun h4 fl4 up4 => ?_
      have J4 : Inv X pins σ' H' { s' with heap := h4 } := J.landed nb fl4.1 ((up.trans up3).trans up4) os ag
      obtain ⟨oe4, vs4, he4, hz4, hd4⟩ := fl4.there
      have S4 := J4.suite he4 hd4 na nL nF
      refine store_ok (X := X.suite a ((a, oe4) :: (X.pn ++ pins))) (v := .ref a) S4 hN hi hloc rfl (fun s5 S5 => ?_) (.inr hln)
      have su : PSs (X.suite a ((a, oe4) :: (X.pn ++ pins))) [.Assign [.Name m mp] (.Name n np2) apos] (tAsg (tVar i) (gName j)) := pss_one (ps_set hN hj (.inl hlm) (pe_var hi (.inl hln) hd1 hd2) hsw (.inr hlm))
      have hil : i < σ'.length := by
        rw [J.len]
        exact (List.getElem?_eq_some_iff.mp hi).1
      refine wpAny_mono (su.run [] s5 _ H' { nx := fun σ6 H6 => σ6 = (σ'.set i (some (.ref a))).set j (some (.ref a)) ∧ H6 = H', rt := fun _ _ => False } S5 ⟨_, List.getElem?_set_self hil, rfl, rfl⟩) (fun f s6 hsp => ?_) (fun _ _ z => False.elim z)
      cases f with
      | next =>
        obtain ⟨σ6, H6, S6, e1, e2⟩ := hsp
        subst e1 e2
        refine gone_ok (X := X.suite a ((a, oe4) :: (X.pn ++ pins))) S6 hN hi hln fun s7 S7 => ?_
        have p7 := (S7.pin (a, oe4) (List.mem_append_left _ List.mem_cons_self)).1
        exact ⟨_, _, Inv.held (S7.unsuite ok) p7 hz4 hd4 na nL nS nP, hq a na⟩
      | brk =>
        obtain ⟨_, _, _, z⟩ := hsp
        exact z.elim
      | cont =>
        obtain ⟨_, _, _, z⟩ := hsp
        exact z.elim
      | ret u =>
        obtain ⟨_, _, _, _, _, z⟩ := hsp
        exact z.elim
    | false =>
      show wpAny _ X.A (handleBy (.ref a) X.env []) _ _ _
      refine wpAny_handleBy_nil ?_
      obtain ⟨k1, k2, k3, oe, vs, T, oT, ts', he, hz, hd, h1, hr⟩ := id fl3
      unfold PySem.passOn
      refine wpAny_bind (wpAny_field he hd h1 ?_)
      rw [if_neg (show ¬ ((Value.ref T == Value.none) = true) from by simp)]
      have fin : wpAny (model X.prog X.w) X.A (setFlight (.ref a) X.env.frame) (fun _ s4 => wpAny (model X.prog X.w) X.A (throw (.ref a) : Sem Flow) (SP X pins D) X.xe s4) X.xe { s' with heap := h3 } := by
        rw [hf]
        refine HandSPX.setFlight_upZ fl3 fun h4 hh4 up4 => wpAny_throw (tk _ _ ?_)
        exact ⟨a, B, sI, pins, σ', H', cls, d, rfl, J, nb, (up.trans up3).trans up4, .inr (.inr (by rw [hs]; exact hh4)), na, os, ag, hno rfl⟩
      first
        | exact wpAny_bind (wpAny_pure (wpAny_bind fin))
        | exact wpAny_bind fin
  · cases f with
    | next =>
      obtain ⟨σ', H', J', q⟩ := hsp
      exact wpAny_execs_nil ⟨σ', H', J'.ofTry ok, q⟩
    | brk =>
      obtain ⟨σ', H', J', q⟩ := hsp
      exact ⟨σ', H', J'.ofTry ok, q⟩
    | cont =>
      obtain ⟨σ', H', J', q⟩ := hsp
      exact ⟨σ', H', J'.ofTry ok, q⟩
    | ret u =>
      obtain ⟨v, σ', H', J', r, q⟩ := hsp
      exact ⟨v, σ', H', J'.ofTry ok, r, q⟩
end

def tryR (hit : List (Str × Bool)) (i j : Nat) (E : EnD) (R : XR) : XR := fun e ρ' M' => ∃ b, hit.lookup e.1 = some b ∧ (match b with
  | true => E.nx (((ρ'.set i (some (.exc e.1 e.2.1 e.2.2))).set j (some (.exc e.1 e.2.1 e.2.2))).set i none) M'
  | false => R e ρ' M')
/-- hit: which classes are caught; i is the clause's name, j the name that holds it -/
def sTry (hit : List (Str × Bool)) (i j : Nat) (tb : DS) : DS := fun E R ρ M => tb E (tryR hit i j E R) ρ M
theorem Sat.org {K : PySem.W.Frag} {mg : Str → Option Value} {w w' : Wd} {H H' : Hp} {M : MS} {O : Org} {σ : L2.St} {ρ : Ro} (h : Step O.w O.H w H) (s : Sat K mg ⟨w, H⟩ σ H' ρ M w') : Sat K mg O σ H' ρ M w' := ⟨h.trans s.step, s.tabs, s.cells, s.len, s.slots⟩
theorem Sat.fresh {K : PySem.W.Frag} {mg : Str → Option Value} {w : Wd} {H : Hp} {M : MS} {O : Org} {σ : L2.St} {ρ : Ro} (s : Sat K mg O σ H ρ M w) : Sat K mg ⟨w, H⟩ σ H ρ M w := ⟨.refl w H, s.tabs, s.cells, s.len, s.slots⟩
theorem Sat.unset {K : PySem.W.Frag} {mg : Str → Option Value} {w : Wd} {H : Hp} {M : MS} {O : Org} {σ : L2.St} {ρ : Ro} (s : Sat K mg O σ H ρ M w) (i : Nat) : Sat K mg O (σ.set i none) H (ρ.set i none) M w := by
  refine s.re (by rw [List.length_set, List.length_set]; exact s.len) fun j d h => ?_
  by_cases hij : i = j
  · subst hij
    by_cases hl : i < ρ.length
    · rw [List.getElem?_set_self hl] at h
      cases h
    · rw [List.getElem?_eq_none (by rw [List.length_set]; omega)] at h
      cases h
  · rw [List.getElem?_set_ne hij] at h ⊢
    exact s.slots j d h
section
variable {X : Cx} {x n m : Str} {c : Value} {i j : Nat} {body : List Stmt} {np mp np2 apos pos pos' : Pos} {tb : DS} {hit : List (Str × Bool)}
theorem evs_try (hs : X.stack = X.env :: X.outer) (hf : X.env.frame = some X.env.locals) (hex : X.ex = []) (hN : X.N.Nodup) (hi : X.N[i]? = some n) (hln : X.env.kindOf n = some .local) (hj : X.N[j]? = some m) (hlm : X.env.kindOf m = some .local) (hij : i ≠ j) (hd1 : (n == ("__debug__" : Str)) = false) (hd2 : (n == ("__classdict__" : Str)) = false)
    (hsw : swapsWith (.Name n np2) (some (.Name m mp)) apos.line X.env = pure false) (hc : Names X x c) (hh : ∀ C b, hit.lookup C = some b → PySem.W.exmOne X.K (.ref (clA X.mg C)) c = some b)
    (hb : ∀ (pn : List (Addr × Obj)) (xe : Value → Shared → Prop), PassesOwn (model X.prog X.w) X.A X.env xe → EVSs (X.tr pn xe) body tb) :
    EVS X (.Try body [.ExceptHandler (some (.Name x np)) (some n) [.Assign [.Name m mp] (.Name n np2) apos] pos'] [] [] pos) (sTry hit i j tb) := ⟨fun O R TX ρ M E h σ H w s =>
  ws_of (ps_try_keep (c := c) (Wout := liftX X O R) (tb := fun W D σ H => ∀ pn xe, Takes (X.tr pn xe) W → PassesOwn (model X.prog X.w) X.A X.env xe → WSs (X.tr pn xe) body D σ H) hs hf hex hN hi hln hj hlm hij hd1 hd2 hsw hc TX
    (fun W pn xe tk po => ⟨fun pins s σ H D I q => q pn xe tk po pins s I⟩)) (fun pn xe tk po => by
      refine wss_mono (X := X.tr pn xe) (D := LEn X ⟨w, H⟩ w E) ⟨?_, ?_, ?_, ?_⟩ ((hb pn xe po).run ⟨w, H⟩ (tryR hit i j E R) (tk.imp fun cls d σ1 H1 ⟨C, a, fs, ds, ρ1, M1, w1, e1, e2, e3, e4, s1, b, e5, q⟩ => ?_) ρ M E h σ H w s.fresh)
      · exact fun σ' H' ⟨ρ', M', w', l, s', q⟩ => ⟨ρ', M', w', l, s'.org s.step, q⟩
      · exact fun v H' ⟨σ', ρ', d, M', w', l, s', q⟩ => ⟨σ', ρ', d, M', w', l, s'.org s.step, q⟩
      · exact fun σ' H' ⟨ρ', M', w', l, s', q⟩ => ⟨ρ', M', w', l, s'.org s.step, q⟩
      · exact fun σ' H' ⟨ρ', M', w', l, s', q⟩ => ⟨ρ', M', w', l, s'.org s.step, q⟩
      have lw : w.le w1 := s1.step.le
      have s1' := s1.org s.step
      refine ⟨b, by rw [e1]; exact hh C b e5, fun eb _ => ?_, fun eb => ?_⟩
      · subst eb
        refine ⟨clA X.mg C, a, e1, e2, fun a0 na => ?_⟩
        have s2 := s1'.more (o := excH a0 (clA X.mg C) a) na excH_tbl
        have hF : w1.F a0 = none := s1'.cells.fh.fresh na
        have r : RepA X.K X.mg (w1.more a0 (excH a0 (clA X.mg C) a)) (.ref a0) (.exc C (fs.map (·.1)) ds) := .inl (.exc upd_same (by
          show (upd w1.F a0 _) a = _
          rw [upd_ne (fun z => by rw [z, hF] at e3; cases e3)]
          exact e3) rfl (e4.mono (Ex.upd hF)))
        exact ⟨_, M1, _, lw.trans (Wd.le_more hF), ((s2.set r i).set r j).unset i, q⟩
      · subst eb
        exact ⟨C, a, fs, ds, ρ1, M1, w1, e1, e2, e3, e4, s1', q⟩)⟩
end
end Dl
set_option Elab.async false
set_option linter.all false
set_option maxRecDepth 100000
set_option maxHeartbeats 1000000
set_option autoImplicit false
/-! Dl13: x(lambda: ..), x a def that calls what it got in a try. -/
namespace Dl
open PySem PySem.Spec PyProof.Rows L2
variable [Tb]

/-- what a lambda does, by data -/
abbrev Ask := MS → KD → XD → Prop
section
variable (K : PySem.W.Frag) (mg : Str → Option Value)
/-- an exception, the slots forgotten -/
def liftE (w : Wd) (H : Hp) (x : XD) : XK := fun cls dd H' => ∃ (C : Str) (a : Addr) (fs : List (Str × V)) (ds : List D) (M : MS) (w' : Wd), cls = .ref (clA mg C) ∧ dd = some a ∧ w'.F a = some (.xd fs) ∧ Reps K mg w'.F (fs.map (·.2)) ds ∧
  Step w H w' H' ∧ LamX.Tabs Tb.T H' ∧ Cells K mg w' H' M ∧ x (C, fs.map (·.1), ds) M
def PoL (w : Wd) (H : Hp) (k : KD) : VK := fun v H' => ∃ (w' : Wd) (d : D) (M' : MS), Step w H w' H' ∧ Cells K mg w' H' M' ∧ LamX.Tabs Tb.T H' ∧ RepA K mg w' v d ∧ k d M'
/-- the reading tl does what ask says -/
def Impl (tl : XK → Hp → VK → Prop) (w : Wd) (H : Hp) (ask : Ask) : Prop := ∀ (w1 : Wd) (H1 : Hp) (M1 : MS) (k : KD) (x : XD), Step w H w1 H1 → Cells K mg w1 H1 M1 → LamX.Tabs Tb.T H1 → ask M1 k x → tl (liftE K mg w1 H1 x) H1 (PoL K mg w1 H1 k)
/-- the def that calls it: τ by the lambda's two addresses -/
def TTd (Ng : List Str) (q : Str) (τ : Addr → Addr → Ask → DS) : (XK → Hp → VK → Prop) → Hp → VK → Prop := fun tl H Q => ∃ (w : Wd) (M : MS) (k : KD) (ask : Ask), Cells K mg w H M ∧ LamX.Tabs Tb.T H ∧ Impl K mg tl w H ask ∧
  (∀ f c, τ f c ask (enD M.length k) (fun _ _ _ => False) (startD Ng [.lam f c q]) M) ∧
  ∀ v H' w' d M', Step w H w' H' → w'.al = w.al → Cells K mg w' H' M' → LamX.Tabs Tb.T H' → RetA K mg w H w' H' v d → k d M' → Q v H'
end
theorem Sat.knowE {K : PySem.W.Frag} {mg : Str → Option Value} {w : Wd} {H : Hp} {M : MS} {O : Org} {σ : L2.St} {ρ : Ro} {a : Addr} {φ : Heap → Prop} (s : Sat K mg O σ H ρ M w) (e : H a = some (.ext φ)) (hF : w.F a = none) : Sat K mg O σ H ρ M (w.more a (.ext φ)) := by
  have na : a ∉ w.al := fun m => by
    obtain ⟨i, hi, ei⟩ := List.mem_iff_getElem.mp m
    have h1 : w.al[i]? = some a := by rw [List.getElem?_eq_getElem hi, ei]
    have h2 : i < M.length := by rw [← s.cells.len]; exact hi
    have r := s.cells.at_ i a M[i] h1 (List.getElem?_eq_getElem h2)
    generalize M[i] = mo at r
    cases mo with
    | dead => exact r
    | lst _ => obtain ⟨_, _, z, _⟩ := r; rw [e] at z; cases z
    | ins _ _ _ => obtain ⟨_, _, _, z, _⟩ := r; rw [e] at z; cases z
    | dct _ _ => obtain ⟨_, _, z, _⟩ := r; rw [e] at z; cases z
  refine ⟨⟨s.step.le.trans (Wd.le_more hF), s.step.keep, s.step.there, fun b u h => ?_⟩, s.tabs, ⟨fun b u h => ?_, s.cells.nd, s.cells.len, fun i b mo h1 h2 => ?_, more_ft s.cells.ft (by intro ps e; cases e)⟩, s.len, fun i d h => let ⟨v, h1, h2⟩ := s.slots i d h; ⟨v, h1, h2.mono (Wd.le_more hF)⟩⟩
  · by_cases hb : b = a
    · rw [hb]; exact s.step.ext_back e
    · have h1 : (upd w.F a _) b = some u := h
      rw [upd_ne hb] at h1
      exact s.step.grow b u h1
  · have h1 : (upd w.F a _) b = some u := h
    by_cases hb : b = a
    · rw [hb, upd_same] at h1
      rw [hb, e, Option.some.inj h1]
    · rw [upd_ne hb] at h1
      exact s.cells.fh b u h1
  · have hne : b ≠ a := fun z => na (z ▸ List.mem_of_getElem? h1)
    exact (s.cells.at_ i b mo h1 h2).stay (Ex.upd hF) (fun n => by show (upd w.F a _) b = none; rw [upd_ne hne]; exact n) fun u h => h

/-! ### the try in the def that calls it -/
/-- try: a() / except .. as n: m = n -/
def sHeard (N : Nat) (hit : List (Str × Bool)) (i j : Nat) (f c : Addr) (q : Str) (ask : Ask) : DS := fun E _ ρ M => ρ[0]? = some (some (.lam f c q)) ∧ ask M (fun _ M' => E.nx ρ M') (fun e M' => ∃ b, hit.lookup e.1 = some b ∧ (match b with
  | true => E.nx ((((List.replicate N none).set i (some (.exc e.1 e.2.1 e.2.2))).set j (some (.exc e.1 e.2.1 e.2.2))).set i none) M'
  | false => False))
/-- the same, of one origin -/
structure EVSo (X : Cx) (O : Org) (st : Stmt) (τ : DS) : Prop where
  run : ∀ (R : XR), TakesD X O R → ∀ (ρ : Ro) (M : MS) (E : EnD), τ E R ρ M → ∀ (σ : L2.St) (H : Hp) (w : Wd), Sat X.K X.mg O σ H ρ M w → WS X st (LEn X O w E) σ H
structure EVSos (X : Cx) (O : Org) (st : List Stmt) (τ : DS) : Prop where
  run : ∀ (R : XR), TakesD X O R → ∀ (ρ : Ro) (M : MS) (E : EnD), τ E R ρ M → ∀ (σ : L2.St) (H : Hp) (w : Wd), Sat X.K X.mg O σ H ρ M w → WSs X st (LEn X O w E) σ H
theorem EVS.o {X : Cx} {O : Org} {st : Stmt} {τ : DS} (h : EVS X st τ) : EVSo X O st τ := ⟨h.run O⟩
theorem EVSs.o {X : Cx} {O : Org} {st : List Stmt} {τ : DS} (h : EVSs X st τ) : EVSos X O st τ := ⟨h.run O⟩
theorem evso_cons {X : Cx} {O : Org} {st : Stmt} {rest : List Stmt} {t u : DS} (h1 : EVSo X O st t) (h2 : EVSos X O rest u) : EVSos X O (st :: rest) (sCons t u) := ⟨fun R TX ρ M E h σ H w s =>
  wss_of (pss_cons (ws_ps X st) (wss_pss X rest)) (ws_mono (D := LEn X O w { E with nx := u E R }) ⟨fun σ' H' ⟨ρ', M', w', l, s', q⟩ => wss_mono (len_le l E) (h2.run R TX ρ' M' E q σ' H' w' s'), fun _ _ q => q, fun _ _ q => q, fun _ _ q => q⟩
    (h1.run R TX ρ M _ h σ H w s))⟩
section
variable {X : Cx} {x n m a q : Str} {c : Value} {i j : Nat} {f c' : Addr} {p1 p2 p3 np mp np2 apos pos pos' : Pos} {hit : List (Str × Bool)} {tl : XK → Hp → VK → Prop} {ask : Ask} {O : Org}
theorem evs_heard (act : ∀ (W : WX) (pn : List (Addr × Obj)) (xe : Value → Shared → Prop) (E : XK), Takes (X.tr pn xe) W → (∀ cls d σ' H', E cls d H' → W cls d σ' H') →
      PE (X.tr pn xe) (.Call (.Name a p1) [] [] p2) (fun σZ HZ Q => σZ[0]? = some (some (.ref f)) ∧ HZ c' = some (LamX.CodeO c' q) ∧ tl E HZ Q))
    (imp : Impl X.K X.mg tl O.w O.H ask)
    (hs : X.stack = X.env :: X.outer) (hf : X.env.frame = some X.env.locals) (hex : X.ex = []) (hN : X.N.Nodup) (hi : X.N[i]? = some n) (hln : X.env.kindOf n = some .local) (hj : X.N[j]? = some m) (hlm : X.env.kindOf m = some .local) (hij : i ≠ j) (hd1 : (n == ("__debug__" : Str)) = false) (hd2 : (n == ("__classdict__" : Str)) = false)
    (hsw : swapsWith (.Name n np2) (some (.Name m mp)) apos.line X.env = pure false) (hse : ∀ pn xe, swapsWith (.Call (.Name a p1) [] [] p2) none p3.line (X.tr pn xe).env = pure false) (hc : Names X x c) (hh : ∀ C b, hit.lookup C = some b → PySem.W.exmOne X.K (.ref (clA X.mg C)) c = some b) :
    EVSo X O (.Try [.Expr (.Call (.Name a p1) [] [] p2) p3] [.ExceptHandler (some (.Name x np)) (some n) [.Assign [.Name m mp] (.Name n np2) apos] pos'] [] [] pos) (sHeard X.N.length hit i j f c' q ask) := ⟨fun R TX ρ M E h σ H w s =>
  ws_of (ps_try_keep (c := c) (Wout := fun _ _ _ _ => False) (tb := fun W D σ H => ∃ (Ech : XK) (Q' : VK), (∀ cls d σ' H', Ech cls d H' → W cls d σ' H') ∧ σ[0]? = some (some (.ref f)) ∧ H c' = some (LamX.CodeO c' q) ∧ tl Ech H Q' ∧ ∀ v H1, Q' v H1 → D.nx σ H1) hs hf hex hN hi hln hj hlm hij hd1 hd2 hsw hc LamX.takes0
    (fun W pn xe tk po => ⟨fun pins s σ H D I ⟨Ech, Q', hW, h1, h2, h3, h4⟩ => (pss_one (ps_expr (we_pe (X.tr pn xe) _) (hse pn xe))).run pins s σ H D I (we_mono (we_of (act W pn xe Ech tk hW) ⟨h1, h2, h3⟩) h4)⟩)) (by
      obtain ⟨h0, ha⟩ := h
      obtain ⟨v, e1, r⟩ := s.slots 0 _ h0
      have hz : v = .ref f ∧ w.F c' = some (LamX.CodeO c' q) := by
        rcases r with r | ⟨_, _, z, _⟩
        · cases r with
          | lam hz => exact ⟨rfl, hz⟩
        · cases z
      obtain ⟨rfl, hz⟩ := hz
      refine ⟨liftE X.K X.mg w H _, _, ?_, e1, s.cells.fh _ _ hz, imp w H M _ _ s.step s.cells s.tabs ha, ?_⟩
      · rintro cls d σ1 H1 ⟨C, a, fs, ds, M1, w1, e1, e2, e3, e4, s1, t1, c1, b, e5, q⟩
        refine ⟨b, by rw [e1]; exact hh C b e5, fun eb hlen => ?_, fun eb => ?_⟩
        · subst eb
          refine ⟨clA X.mg C, a, e1, e2, fun a0 na => ?_⟩
          have s1' : Sat X.K X.mg O σ1 H1 (List.replicate X.N.length none) M1 w1 := ⟨s.step.trans s1, t1, c1, by rw [List.length_replicate]; exact hlen.symm, fun i d h => by
            rw [List.getElem?_replicate] at h
            split at h <;> cases h⟩
          have s2 := s1'.more (o := excH a0 (clA X.mg C) a) na excH_tbl
          have hF : w1.F a0 = none := s1'.cells.fh.fresh na
          have r : RepA X.K X.mg (w1.more a0 (excH a0 (clA X.mg C) a)) (.ref a0) (.exc C (fs.map (·.1)) ds) := .inl (.exc upd_same (by
            show (upd w1.F a0 _) a = _
            rw [upd_ne (fun z => by rw [z, hF] at e3; cases e3)]
            exact e3) rfl (e4.mono (Ex.upd hF)))
          exact ⟨_, M1, _, s1.le.trans (Wd.le_more hF), ((s2.set r i).set r j).unset i, q⟩
        · subst eb
          exact q.elim
      · rintro v H1 ⟨w1, d, M1, s1, c1, t1, _, q⟩
        exact ⟨ρ, M1, w1, s1.le, ⟨s.step.trans s1, t1, c1, s.len, fun i d e => let ⟨v, a1, a2⟩ := s.slots i d e; ⟨v, a1, a2.mono s1.le⟩⟩, q⟩)⟩
end
/-! ### the def that calls it gives what TTd says -/
theorem gives {X : Cx} {Ng : List Str} {x a q : Str} {sg : Scope} {g : Addr} {cdg : Value} {bg : List Stmt} {τ : Addr → Addr → Ask → DS}
    (hb : ∀ (f c' : Addr) (s : Shared) (H : Hp) (tl : XK → Hp → VK → Prop) (ask : Ask) (O : Org),
      (∀ (W : WX) (pn : List (Addr × Obj)) (xe : Value → Shared → Prop) (E : XK) (p1 p2 : Pos), Takes ((cxOf C8.CX0 X.prog X.w X.K X.mg X.base Ng x sg g cdg X.A X.stack s H C8.E0).tr pn xe) W → (∀ cls d σ' H', E cls d H' → W cls d σ' H') →
        PE ((cxOf C8.CX0 X.prog X.w X.K X.mg X.base Ng x sg g cdg X.A X.stack s H C8.E0).tr pn xe) (.Call (.Name a p1) [] [] p2) (fun σZ HZ Q => σZ[0]? = some (some (.ref f)) ∧ HZ c' = some (LamX.CodeO c' q) ∧ tl E HZ Q)) →
      Impl X.K X.mg tl O.w O.H ask → EVSos (cxOf C8.CX0 X.prog X.w X.K X.mg X.base Ng x sg g cdg X.A X.stack s H C8.E0).nox O bg (τ f c' ask)) :
    LamX.GivesTo X Ng x sg g cdg bg a q (TTd X.K X.mg Ng q τ) := by
  intro f c' s H Q tl act hc ⟨w, M, k, ask, cl, tb, imp, hd, hQ⟩
  refine ⟨_, wss_pss _ _, ?_⟩
  have B := hb f c' s H tl ask ⟨w, H⟩ act imp
  have S0 : Sat X.K X.mg ⟨w, H⟩ (L2.start Ng []) H (startD Ng []) M w := sat_start .nil cl tb
  -- the lambda's code object is known
  have key : ∃ w', w.le w' ∧ Sat X.K X.mg ⟨w, H⟩ (L2.start Ng []) H (startD Ng []) M w' ∧ w'.F c' = some (LamX.CodeO c' q) := by
    cases q0 : w.F c' with
    | some o =>
      have z := cl.fh c' o q0
      rw [hc] at z
      cases z
      exact ⟨w, .refl w, S0, q0⟩
    | none => exact ⟨_, Wd.le_more q0, S0.knowE hc q0, upd_same⟩
  obtain ⟨w', l, S1, hz⟩ := key
  have S2 : Sat X.K X.mg ⟨w, H⟩ (L2.start Ng [.ref f]) H (startD Ng [.lam f c' q]) M w' := S1.re (by simp [startD, L2.start]) fun i d h => by
    unfold startD at h
    cases i with
    | zero =>
      cases h
      exact ⟨.ref f, rfl, .inl (.lam hz)⟩
    | succ i =>
      have h : (List.replicate (Ng.length - 1) (none : Option D))[i]? = some (some d) := h
      rw [List.getElem?_replicate] at h
      split at h <;> cases h
  refine wss_mono ⟨?_, ?_, ?_, ?_⟩ (B.run (fun _ _ _ => False) TakesD.nox _ _ _ (hd f c') (L2.start Ng [.ref f]) H w' S2)
  · intro σ H1 ⟨ρ, M1, w1, _, s1, q⟩
    exact ret_of (s0 := cl) (d := .non) (k := k) s1 (.inl .non) q hQ
  · intro v H1 ⟨σ, ρ, d, M1, w1, _, s1, r1, q⟩
    exact ret_of (s0 := cl) s1 r1 q hQ
  · intro σ H1 ⟨_, _, _, _, _, q⟩
    exact q.elim
  · intro σ H1 ⟨_, _, _, _, _, q⟩
    exact q.elim
/-! ### the call -/
def dHeard (Ng : List Str) (q : Str) (τ : Addr → Addr → Ask → DS) (tb : DE) : DE := fun ρ M k _ => ∀ f c, τ f c (fun M' k' x' => tb ρ M' k' x') (enD M.length fun d M' => k (adopt d) M') (fun _ _ _ => False) (startD Ng [.lam f c q]) M
theorem extN_step {K : PySem.W.Frag} {mg : Str → Option Value} {w : Wd} {H H1 : Hp} {M : MS} (c : Cells K mg w H M) (e : LamX.ExtN H H1) : Step w H w H1 :=
  ⟨.refl w, fun a o h t n => ⟨e a o h t, n⟩, fun a o h t => ⟨o, e a o h t, t⟩, fun _ _ h => .inl h⟩
theorem extN_cells {K : PySem.W.Frag} {mg : Str → Option Value} {w : Wd} {H H1 : Hp} {M : MS} (c : Cells K mg w H M) (e : LamX.ExtN H H1) : Cells K mg w H1 M :=
  ⟨fun a o h => e a o (c.fh a o h) fun ps z => c.ft a ps (by rw [h, z]), c.nd, c.len, fun i a mo h1 h2 => by
    have r := c.at_ i a mo h1 h2
    obtain ⟨o, ho, nt⟩ := r.thereN
    refine r.stay (Ex.refl _) (fun n => n) fun u hu => e a u hu fun ps z => ?_
    rw [ho] at hu
    cases hu
    exact nt ps z, c.ft⟩

theorem ev_heard {X : Cx} {x a : Str} {g c P : Addr} {kd : Nat} {pg : Arguments} {bg : List Stmt} {sg : Scope} {dV kV doc pm cdv ct oc : Value} {an od : Option Addr} {osl : Array (Option Value)} {Ng : List Str} {q : Str} {τ : Addr → Addr → Ask → DS} {tb : DE}
    {params : Arguments} {body : Expr} {scope : Scope} {p lpos pos : Pos} (hg : Gl X x) (hm : X.mg x = some (.ref g)) (hk : PySem.W.keepIn X.K (.ref g) = true)
    (lk : X.K.lookup g = some ⟨oc, od, .func (PySem.W.fnOf x x pg bg sg dV kV doc pm an cdv ct), osl⟩) (hcg : PySem.W.codeIn X.K cdv x = true) (hb : L2.Binds X.K (PySem.W.fnOf x x pg bg sg dV kV doc pm an cdv ct) [a] []) (Sg : FnScope Ng [a] sg) (hNg : Ng[0]? = some a) (hva : Vis sg a)
    (hq : X.env.qual ++ "<lambda>" = q) (hG : LamX.GivesTo X Ng x sg g cdv bg a q (TTd X.K X.mg Ng q τ))
    (TB : LamX.TabB X.base X.mg c P) (hcode : X.env.code = .ref c) (hmT : (P, q) ∈ Tb.T) (hu : ∀ p ∈ Tb.T, p.1 = P → p.2 = q) (hr : Room (kd + 2) X.A) (L : LamX.LamS X.env.scope scope) (hdef : defaultsOf params X.env = ([], []))
    (hbind : ∀ (q : Str) (cl : List (Str × Addr)) (pm cv ctv : Value), bindArgs (PySem.W.kla_fn "<lambda>" q params body scope cl pm cv ctv) ⟨[], []⟩ = pure [])
    (hbody : ∀ (A : Around) (outer : List Env) (s : Shared) (H : Hp) (E : XK) (f c' : Addr), Room kd (A.deeper (LamX.lamEnv X scope s.heap.objs.size f c')) → EV (LamX.lamCx X A outer s H E scope f c') body tb)
    (hdb : (x == ("__debug__" : Str)) = false := by decide) (hd : (a == ("__debug__" : Str)) = false := by decide) (hcd : (a == ("__classdict__" : Str)) = false := by decide) :
    EV X (.Call (.Name x p) [.Lambda params body scope lpos] [] pos) (dHeard Ng q τ tb) := ⟨fun O R TX ρ M k h σ H w s => by
  subst hq
  refine we_of (LamX.pe_lamcall (T := Tb.T) (TT := TTd X.K X.mg Ng (X.env.qual ++ "<lambda>") τ) (k := kd) (t := fun E σ H Q => ∀ A outer s0 H0 f c', Room kd (A.deeper (LamX.lamEnv X scope s0.heap.objs.size f c')) → WE (LamX.lamCx X A outer s0 H0 E scope f c') body σ H Q)
    hg hm hk lk hcg hb Sg hNg hva hG TB hcode hmT hu hr L hdef hbind (fun A outer s0 H0 E f c' hr2 => ⟨fun pins s σ H Q I z => z A outer s0 H0 f c' hr2 pins s I⟩) hdb hd hcd) ⟨s.tabs, fun H1 ext t1 => ?_⟩
  have st1 : Step w H w H1 := extN_step s.cells ext
  refine ⟨w, M, fun d M' => k (adopt d) M', fun M' k' x' => tb ρ M' k' x', extN_cells s.cells ext, t1, ?_, h, ?_⟩
  · intro w1 H2 M1 k1 x1 st c2 t2 hq A outer s0 H0 f c' hr2
    have B := hbody A outer s0 H0 (liftE X.K X.mg w1 H2 x1) f c' hr2
    have S : Sat X.K X.mg ⟨w1, H2⟩ σ H2 ρ M1 w1 := ⟨.refl w1 H2, t2, c2, s.len, fun i d e => let ⟨v, e1, e2⟩ := s.slots i d e; ⟨v, e1, e2.mono st.le⟩⟩
    have TX' : TakesD (LamX.lamCx X A outer s0 H0 (liftE X.K X.mg w1 H2 x1) scope f c') ⟨w1, H2⟩ (fun e _ M' => x1 e M') := by
      refine (takes_of (E := liftE X.K X.mg w1 H2 x1) rfl rfl rfl rfl).imp fun cls d σ H' ⟨C, a, fs, ds', ρ', M', w', e1, e2, e3, e4, s', q⟩ => ?_
      exact ⟨C, a, fs, ds', M', w', e1, e2, e3, e4, s'.step, s'.tabs, s'.cells, q⟩
    exact we_mono (B.run ⟨w1, H2⟩ _ TX' ρ M1 k1 hq σ H2 w1 S) fun v H' ⟨w', d, M', l, s', r, q⟩ => ⟨w', d, M', s'.step, s'.cells, s'.tabs, r, q⟩
  · intro v H' w' d M' st al c' t' r q
    have S : Sat X.K X.mg O σ H' ρ M' w' := ⟨(s.step.trans st1).trans st, t', c', s.len, fun i d e => let ⟨v, e1, e2⟩ := s.slots i d e; ⟨v, e1, e2.mono st.le⟩⟩
    exact adF_ok v H' w w' d M' (fun a n => (s.step.trans st1).nw n) (.refl w) st.le S r q⟩
end Dl
set_option Elab.async false
set_option linter.all false
set_option maxRecDepth 100000
set_option maxHeartbeats 1000000
set_option autoImplicit false
/-! Dl14: == and != of own instances, len of them; repr, sums of tuples, lists times ints, stars, dicts. -/
namespace PySem.W
open PySem PySem.Spec PySem.Calls PyProof.Rows
section
variable {prog : Program} {w : World} {A : Around} {E : Value → Shared → Prop} {s : Shared} {K : Frag} {x C L f : Addr} {h₀ : Heap} {m : Str → Option Value} {ox : Obj} {od : Option Obj} {b tb : Value}
theorem dl_ifBoundNe {M : Model} {args : List Value} {Q : Option Value → Shared → Prop} (X : K.In s.heap) (I : InstAt s.heap x ox C od) (hs : findIn K (.ref C) "__ne__" = some (some (.builtin "object.__ne__")))
    (h : wpAny M A (call (.builtin "object.__ne__") (.ref x :: args)) (fun v => Q (some v)) E s) : wpAny M A (callSpecialIfBound? (.ref x) "__ne__" args) Q E s := by
  simp only [callSpecialIfBound?, bindSpecialIfBound?]
  refine wpAny_holding (wpAny_bind (wpAny_bind (wpAny_bind (I.type.here ((looks_findIn X hs).here ?_)))))
  refine wpAny_bind (wpAny_askSetting (wpAny_ite ?_))
  have fin : wpAny M A (call (.builtin "object.__ne__") ([.ref x] ++ args) >>= fun v => pure (some v)) Q E s := wpAny_bind (wpAny_mono h (fun v s' h' => wpAny_pure h') fun _ _ h' => h')
  split
  · exact wpAny_bind (wpAny_of_eq (F.cmp_object.ne.bind _) (wpAny_pure (by exact fin)))
  · exact wpAny_tryCatch (wpAny_bind (wpAny_of_eq (F.cmp_object.ne.bind _) (wpAny_pure (by exact fin))))
theorem dl_objNe {Q : Fin → Shared → Prop} (hu : A.units < cLine) (X : K.In s.heap) (I : InstAt s.heap x ox C od) (hs : findIn K (.ref C) "__eq__" = some (some (.ref f))) (hf : isFn K (.ref f) = true)
    (hcall : wpAny (model prog w) A (call (.ref f) [.ref x, b]) (fun v s' => ∃ b, v = .bool b ∧ Q (.done (.ret (.bool (!b)))) s') E s) :
    wpAny (model prog w) A (Builtin.«object.__ne__» ⟨[.ref x, b], []⟩) Q E s := by
  unfold Builtin.«object.__ne__»
  repeat (first
    | with_reducible refine wpAny_cRoomFor hu ?_
    | (refine wpAny_bind (m := callSpecialIfBound? (.ref x) (Str.ofString "__eq__") [b])
        (ifBound_K X I hs hf (wpAny_mono hcall (fun r s' hr => by
          obtain ⟨b, rfl, hq⟩ := hr
          repeat (first | exact hq | exact wpAny_pure hq | exact wpAny_truthy_bool hq | (refine wpAny_bind (m := truthy (.bool _)) (wpAny_truthy_bool ?_)) | wp_step)) fun _ _ e => e)))
    | wp_step)
theorem dl_ne {Q : Value → Shared → Prop} (hu : A.units + 1 < cLine) (F0 : Fr h₀ L s.heap m) (X₀ : K.In h₀) (I : InstAt s.heap x ox C od) (hb : Looks (model prog w) s.heap (typeOf b) tb) (hn : notFirst K C tb = true)
    (hne : findIn K (.ref C) "__ne__" = some (some (.builtin "object.__ne__"))) (hm : mroIn K C (.type "object") = some true) (hs : findIn K (.ref C) "__eq__" = some (some (.ref f))) (hf : isFn K (.ref f) = true)
    (h : wpAny (model prog w) A.in1 (call (.ref f) [.ref x, b]) (fun v s' => ∃ c, v = .bool c ∧ Q (.bool (!c)) s') E s) : wpAny (model prog w) A (richCompare .NotEq (.ref x) b) Q E s := by
  have X := X₀.keeps F0.keep
  have one : wpAny (model prog w) A (tryCompare (.ref x) (cmpInfo .NotEq).2.1 b) (fun r s' => ∃ v, r = some v ∧ Q v s') E s := by
    unfold tryCompare
    refine wpAny_bind (dl_ifBoundNe X I hne (wpAny_call (codeAny_call_builtin F.cmp_object.ne.plain F.cmpEntry_ne (check_slot F.cmpKind_ne F.cmpSplit_ne (I.type.andThen (looks_mroIn X hm)) (F.cmpArgs_ne _ _)
      (dl_objNe (A := A.in1) hu X I hs hf (wpAny_mono h (fun v s' hv => ?_) fun _ _ e => e))))))
    obtain ⟨c, rfl, hq⟩ := hv
    first
      | exact ⟨c, rfl, wpAny_pure ⟨_, rfl, hq⟩⟩
      | exact ⟨c, rfl, ⟨_, rfl, hq⟩⟩
  unfold richCompare
  simp only [oneThing_ref]
  refine wpAny_holding (wpAny_bind (wpAny_cRoomFor (Nat.lt_of_succ_lt hu) ?_))
  refine wpAny_bind (I.type.here (wpAny_bind (hb.here ?_)))
  split
  · rename_i q
    have e : subIn K tb (.ref C) = some false := by
      rcases Bool.or_eq_true_iff.mp hn with e | e
      · rw [beq_iff_eq.mp e] at q; simp at q
      · exact beq_iff_eq.mp e
    refine wpAny_bind ((looks_subIn X e).here ?_)
    simp only [Bool.false_eq_true, if_false]
    refine wpAny_bind (wpAny_mono one (fun r s' z => ?_) fun _ _ e => e)
    obtain ⟨v, rfl, hq⟩ := z
    exact wpAny_pure hq
  · refine wpAny_bind (wpAny_pure ?_)
    simp only [Bool.false_eq_true, if_false]
    refine wpAny_bind (wpAny_mono one (fun r s' z => ?_) fun _ _ e => e)
    obtain ⟨v, rfl, hq⟩ := z
    exact wpAny_pure hq
end
end PySem.W
namespace Dl
open PySem PySem.Spec PyProof.Rows L2
variable [Tb]

/-- the callee runs under any Around of this frame -/
theorem runA {X : Cx} {A : Around} {pins : List (Addr × Obj)} {σ : L2.St} {H : Hp} {s : Shared} {kd : Nat} {f : Addr} {fd : FuncData} {ps : List Str} {sp : Sp} {idx : List Nat} {vs : List V} {us : List Value} {Q : VK} {n : Nat}
    (F : FnOk X.prog X.w X.K X.mg X.base (L2.CX X.prog X.w) kd f fd ps sp) (hr : Room kd A) (e0 : Env0 X.prog X.w X.K X.mg X.base A X.stack s H) (hb : Bd X.K fd ps n [] idx []) (hi : idx = List.range n) (hl : us.length = n) (I : Inv X pins σ H s) (r : Vals vs us) (h : sp vs H Q (fun _ _ _ => False)) {E' : Value → Shared → Prop} :
    wpAny (model X.prog X.w) A (call (.ref f) us) (EP X pins σ Q) E' s := by
  obtain ⟨its, rI, hb⟩ := hb.ex
  cases rI
  have hb := hb s us [] I.kIn hl rfl
  have ep : pk idx (us ++ [] ++ []) = us := by
    rw [List.append_nil, List.append_nil, hi, ← hl]
    unfold pk
    refine List.ext_getElem? fun i => ?_
    have e : ∀ (l : List Value), (List.range l.length).filterMap (fun i => l[i]?) = l := fun l => by
      induction l with
      | nil => rfl
      | cons a l ih =>
        rw [List.length_cons, List.range_succ_eq_map, List.filterMap_cons_some (by rfl : (a :: l)[0]? = some a), List.filterMap_map]
        exact congrArg (a :: ·) ih
    rw [e]
  rw [ep] at hb
  refine wpAny_call (codeAny_mono (F.run A X.stack s H ⟨us, []⟩ us vs Q (fun _ _ _ => False) hr e0 hb r h) fun r s' hq => ?_)
  cases r with
  | error e =>
    obtain ⟨_, _, _, _, _, _, _, _, _, _, _, _, z⟩ := hq
    exact z.elim
  | ok fl =>
    cases fl with
    | ret u => exact I.after hq
    | next => exact False.elim hq
    | brk => exact False.elim hq
    | cont => exact False.elim hq

/-! ### a == b, a != b, a an own instance with an own __eq__ -/
def rEqO (X : Cx) (neg : Bool) (C : Addr) (sp : Sp) : R2 := fun x y H Q => ∃ (a dx : Addr) (fs : List (Str × V)) (t : Value), x = .ref a ∧ H a = some (.ins C dx fs) ∧ (∀ (pins : List (Addr × Obj)) (σ : L2.St) (s : Shared) (u : Value), Inv X pins σ H s → RelV y u → ∃ P : Heap → Prop, PySem.W.KitX X.K u t P ∧ P s.heap) ∧
  PySem.W.notFirst X.K C t = true ∧ sp [x, y] H (fun v H' => ∃ c, v = .bl c ∧ Q (.bl (c != neg)) H') (fun _ _ _ => False)
structure EqOwn (X : Cx) (C : Addr) (f : Addr) : Prop where
  eq : PySem.W.findIn X.K (.ref C) "__eq__" = some (some (.ref f))
  fn : PySem.W.isFn X.K (.ref f) = true
  ne : PySem.W.findIn X.K (.ref C) "__ne__" = some (some (.builtin "object.__ne__"))
  mro : PySem.W.mroIn X.K C (.type "object") = some true
section
variable {X : Cx} {kd : Nat} {f C : Addr} {fd : FuncData} {ps : List Str} {sp : Sp}
theorem op_eqO (T : EqOwn X C f) (F : FnOk X.prog X.w X.K X.mg X.base (L2.CX X.prog X.w) kd f fd ps sp) (hr : Room kd X.A) (hb : Bd X.K fd ps 2 [] [0, 1] []) : OpR X (compareOp .Eq) (rEqO X false C sp) := by
  intro pins s σ H x y v u Q I rx ry h
  obtain ⟨a, dx, fs, t, rfl, ha, hk, hn, hsp⟩ := h
  cases (show v = Value.ref a from rx)
  obtain ⟨mA, O, _⟩ := ins_get I.hok ha
  obtain ⟨od, J, _⟩ := O.look
  obtain ⟨P, Z, p⟩ := hk pins σ s u I ry
  obtain ⟨m, fr⟩ := I.fr
  refine PySem.W.cmp_K (op := .Eq) hr.units0 fr I.ok.mod.kin J (Z.ty _ _ I.kIn p) hn T.eq T.fn ?_
  refine thn (runA (vs := [.ref a, y]) (us := [.ref a, u]) F hr I.env0 hb rfl rfl I (.cons rfl (.cons ry .nil)) hsp) fun r s' ⟨w, H', I', rw', c, ew, q⟩ => ?_
  subst ew
  cases (show r = Value.bool c from rw')
  refine ⟨.bl c, H', I', rfl, ?_⟩
  have e : (c != false) = c := by cases c <;> rfl
  rw [e] at q
  exact q
theorem op_neO (T : EqOwn X C f) (F : FnOk X.prog X.w X.K X.mg X.base (L2.CX X.prog X.w) kd f fd ps sp) (hr : Room (kd + 1) X.A) (hb : Bd X.K fd ps 2 [] [0, 1] []) : OpR X (compareOp .NotEq) (rEqO X true C sp) := by
  intro pins s σ H x y v u Q I rx ry h
  obtain ⟨a, dx, fs, t, rfl, ha, hk, hn, hsp⟩ := h
  cases (show v = Value.ref a from rx)
  obtain ⟨mA, O, _⟩ := ins_get I.hok ha
  obtain ⟨od, J, _⟩ := O.look
  obtain ⟨P, Z, p⟩ := hk pins σ s u I ry
  obtain ⟨m, fr⟩ := I.fr
  refine PySem.W.dl_ne (by have := hr.un; omega) fr I.ok.mod.kin J (Z.ty _ _ I.kIn p) hn T.ne T.mro T.eq T.fn ?_
  refine thn (runA (vs := [.ref a, y]) (us := [.ref a, u]) F hr.in1 I.env0.in1 hb rfl rfl I (.cons rfl (.cons ry .nil)) hsp) fun r s' ⟨w, H', I', rw', c, ew, q⟩ => ?_
  subst ew
  cases (show r = Value.bool c from rw')
  refine ⟨c, rfl, .bl (!c), H', I', rfl, ?_⟩
  have e : (c != true) = !c := by cases c <;> rfl
  rw [e] at q
  exact q
end
def dEqO (is es : List Str) (C : Str) (neg : Bool) (sp : SpD) (ta tb : DE) : DE := fun ρ M k x => ta ρ M (fun d1 M1 => tb ρ M1 (fun d2 M2 => (∃ ks xs, view M2 d1 = .ins C ks xs) ∧ okT is es (view M2 d2) = true ∧ (∃ t, tag (view M2 d2) = some t) ∧
  app' sp [] [d1, d2] M2 (fun d M' => ∃ c, d = .bl c ∧ k (.bl (c != neg)) M') (fun _ _ => False)) x) x
section
variable {X : Cx} {is es : List Str} {C : Str} {kd : Nat} {f : Addr} {fd : FuncData} {ps : List Str} {sp : SpD} {a b : Expr} {ta tb : DE} {pos : Pos} {O : Org} {σ : L2.St} {H : Hp} {ρ : Ro} {M : MS} {w : Wd} {k : KD} {R : Exn → Ro → MS → Prop} {neg : Bool}
theorem eqO_run (T : Isa X.K X.mg is es) (hnf : ∀ t ∈ tgs is es, PySem.W.notFirst X.K (clA X.mg C) (tgV X.mg t) = true) (ha : EV X a ta) (hb : EV X b tb) (TX : TakesD X O R) (h : dEqO is es C neg sp ta tb ρ M k fun x M' => R x ρ M') (s : Sat X.K X.mg O σ H ρ M w) :
    tOp (rEqO X neg (clA X.mg C) (lift X.K X.mg sp)) (WE X a) (WE X b) σ H (PoE X O σ ρ w k) := by
  refine we_mono (ha.run O R TX ρ M _ h σ H w s) fun x H1 ⟨w1, d1, M1, l1, s1, r1, q1⟩ => ?_
  refine we_mono (hb.run O R TX ρ M1 _ q1 σ H1 w1 s1) fun y H2 ⟨w2, d2, M2, l2, s2, r2, ⟨ks, xs, ev⟩, ok, ⟨t, et⟩, ap⟩ => ?_
  have rd := rdh_view s2.cells (r1.mono l2)
  rw [ev] at rd
  obtain ⟨a0, dx, fs, rfl, h1, io, rfl, _⟩ := rd.insE s2.cells.fh
  refine ⟨a0, dx, fs, tgV X.mg t, rfl, h1, fun pins σ s u I ru => ?_, hnf t (tag_mem et ok), ?_⟩
  · obtain ⟨P, Z, p, _⟩ := kit_d T I s2.cells.fh (rdh_view s2.cells r2) ru ok et
    exact ⟨P, Z, p⟩
  · have L := app_run (X := X) (R := fun _ _ _ => False) (Q := fun v H' => ∃ c, v = .bl c ∧ PoE X O σ ρ w k (.bl (c != neg)) H') s2 (.cons (r1.mono l2) (.cons r2 .nil)) ap fun v H' w3 d M' q1 q2 q3 q4 q5 => by
      obtain ⟨c, rfl, q5⟩ := q5
      have ev : v = .bl c := by
        rcases q4 with q4 | ⟨_, _, _, e, _⟩
        · cases q4; rfl
        · cases e
      exact ⟨c, ev, w3, _, M', (l1.trans l2).trans q1, q3, .inl (.bl _), q5⟩
    obtain ⟨wc, ds, Mc, k', x', z1, z2, z3, z4, z5, z6⟩ := L
    refine ⟨wc, ds, Mc, k', x', z1, z2, z3, z4, z5, fun C a fs H' w' ds' M' y1 y2 y3 y4 y5 y6 y7 => ?_⟩
    obtain ⟨_, _, _, _, _, _, _, _, _, _, _, _, z⟩ := z6 C a fs H' w' ds' M' y1 y2 y3 y4 y5 y6 y7
    exact z
theorem ev_eqO (T : Isa X.K X.mg is es) (hnf : ∀ t ∈ tgs is es, PySem.W.notFirst X.K (clA X.mg C) (tgV X.mg t) = true) (TE : EqOwn X (clA X.mg C) f) (F : FnD X kd f fd ps sp) (hr : Room kd X.A) (hbd : Bd X.K fd ps 2 [] [0, 1] []) (ha : EV X a ta) (hb : EV X b tb) :
    EV X (.Compare a [.Eq] [b] pos) (dEqO is es C false sp ta tb) := ⟨fun O R TX ρ M k h σ H w s => we_of (pe_cmpR (op_eqO TE F hr hbd) (we_pe X a) (we_pe X b) (nomark b)) (eqO_run T hnf ha hb TX h s)⟩
theorem ev_neO (T : Isa X.K X.mg is es) (hnf : ∀ t ∈ tgs is es, PySem.W.notFirst X.K (clA X.mg C) (tgV X.mg t) = true) (TE : EqOwn X (clA X.mg C) f) (F : FnD X kd f fd ps sp) (hr : Room (kd + 1) X.A) (hbd : Bd X.K fd ps 2 [] [0, 1] []) (ha : EV X a ta) (hb : EV X b tb) :
    EV X (.Compare a [.NotEq] [b] pos) (dEqO is es C true sp ta tb) := ⟨fun O R TX ρ M k h σ H w s => we_of (pe_cmpR (op_neO TE F hr hbd) (we_pe X a) (we_pe X b) (nomark b)) (eqO_run T hnf ha hb TX h s)⟩
end
end Dl
set_option Elab.async false
set_option linter.all false
set_option maxRecDepth 100000
set_option maxHeartbeats 1000000
set_option autoImplicit false
/-! Dl15: len of an own instance; repr; sums of lists and tuples; stars; dicts; the __init__ of own exceptions. -/
namespace Dl
open PySem PySem.Spec PyProof.Rows L2
variable [Tb]

/-! ### len(o), o an own instance with __len__ -/
def rLenO (X : Cx) (C : Addr) (sp : Sp) : List V → Hp → VK → Prop := fun xs H Q => ∃ (a dx : Addr) (fs : List (Str × V)), xs = [.ref a] ∧ H a = some (.ins C dx fs) ∧ sp [.ref a] H (fun v H' => ∃ n : Int, v = .int n ∧ 0 ≤ n ∧ n < 2 ^ 63 ∧ Q (.int n) H') (fun _ _ _ => False)
structure LenOwn (X : Cx) (C : Addr) (f : Addr) : Prop where
  at_ : PySem.W.findIn X.K (.ref C) "__len__" = some (some (.ref f))
  fn : PySem.W.isFn X.K (.ref f) = true
theorem call_lenO {X : Cx} {kd : Nat} {f C : Addr} {fd : FuncData} {ps : List Str} {sp : Sp} (T : LenOwn X C f) (F : FnOk X.prog X.w X.K X.mg X.base (L2.CX X.prog X.w) kd f fd ps sp) (hr : Room (kd + 1) X.A) (hb : Bd X.K fd ps 1 [] [0] []) : CallR X (.builtin "len") (rLenO X C sp) := by
  intro pins s σ H xs us Q I r h
  obtain ⟨a, dx, fs, rfl, ha, hsp⟩ := h
  obtain ⟨u, rfl, ru⟩ := vals1 r
  cases (show u = Value.ref a from ru)
  obtain ⟨mA, O, _⟩ := ins_get I.hok ha
  obtain ⟨od, J, _⟩ := O.look
  obtain ⟨m, fr⟩ := I.fr
  refine PySem.W.len_K fr I.ok.mod.kin J T.at_ T.fn ?_
  refine thn (runA (vs := [.ref a]) (us := [.ref a]) F hr.in1 I.env0.in1 hb rfl rfl I (.cons rfl .nil) hsp) fun r s' ⟨w, H', I', rw', n, ew, h1, h2, q⟩ => ?_
  subst ew
  obtain ⟨t, rfl⟩ := (show ∃ t, r = Value.int n t from rw')
  exact ⟨⟨h1, h2⟩, .int n, H', I'.tok _, ⟨_, rfl⟩, q⟩
def dLenO (C : Str) (sp : SpD) (te : DE) : DE := fun ρ M k x => te ρ M (fun d M1 => (∃ ks xs, view M1 d = .ins C ks xs) ∧ app' sp [] [d] M1 (fun d M' => ∃ n : Int, d = .int n ∧ 0 ≤ n ∧ n < 2 ^ 63 ∧ k (.int n) M') (fun _ _ => False)) x
theorem ev_lenO {X : Cx} {C : Str} {kd : Nat} {f : Addr} {fd : FuncData} {ps : List Str} {sp : SpD} {e : Expr} {te : DE} {p pos : Pos} (T : LenOwn X (clA X.mg C) f) (F : FnD X kd f fd ps sp) (hr : Room (kd + 1) X.A) (hbd : Bd X.K fd ps 1 [] [0] []) (hg : Gl X "len") (hm : X.mg "len" = none) (he : EV X e te)
    (hs : starEach [e] X.env = (false, eval e X.env) :: starEach [] X.env := by rfl) (hpl : (backTo pos (starEach [] X.env)).any (·.1) = false := by rfl) : EV X (.Call (.Name "len" p) [e] [] pos) (dLenO C sp te) := ⟨fun O R TX ρ M k h σ H w s =>
  we_of (pe_callB (call_lenO T F hr hbd) hg hm boot_len (pa_cons (we_pe X e) pa_nil hs) (by decide) (by decide) hs hpl)
    (we_mono (he.run O R TX ρ M _ h σ H w s) fun v H1 ⟨w1, d, M1, l1, s1, r1, ⟨ks, xs, ev⟩, ap⟩ => by
      have rd := rdh_view s1.cells r1
      rw [ev] at rd
      obtain ⟨a0, dx, fs, rfl, h1, io, rfl, _⟩ := rd.insE s1.cells.fh
      refine ⟨a0, dx, fs, rfl, h1, ?_⟩
      have L := app_run (X := X) (R := fun _ _ _ => False) (Q := fun v H' => ∃ n : Int, v = .int n ∧ 0 ≤ n ∧ n < 2 ^ 63 ∧ PoE X O σ ρ w k (.int n) H') s1 (.cons r1 .nil) ap fun v H' w3 d M' q1 q2 q3 q4 q5 => by
        obtain ⟨n, rfl, g1, g2, q5⟩ := q5
        have ev : v = .int n := by
          rcases q4 with q4 | ⟨_, _, _, e, _⟩
          · cases q4; rfl
          · cases e
        exact ⟨n, ev, g1, g2, w3, _, M', l1.trans q1, q3, .inl (.int _), q5⟩
      obtain ⟨wc, ds, Mc, k', x', z1, z2, z3, z4, z5, z6⟩ := L
      refine ⟨wc, ds, Mc, k', x', z1, z2, z3, z4, z5, fun C a fs H' w' ds' M' y1 y2 y3 y4 y5 y6 y7 => ?_⟩
      obtain ⟨_, _, _, _, _, _, _, _, _, _, _, _, z⟩ := z6 C a fs H' w' ds' M' y1 y2 y3 y4 y5 y6 y7
      exact z)⟩

/-! ### repr -/
def boolStr (b : Bool) : Str := if b then "True" else "False"
def reprB : BC
  | [.bl b], k => k (.str (boolStr b))
  | [.int i], k => i.natAbs.log2 < 1920 ∧ k (.str (toString i))
  | [.non], k => k (.str "None")
  | _, _ => False
def rReprX : List V → Hp → VK → Prop := fun xs H Q => (∃ b, xs = [.bl b] ∧ Q (.str (boolStr b)) H) ∨ (∃ i, xs = [.int i] ∧ i.natAbs.log2 < 1920 ∧ Q (.str (toString i)) H) ∨ (xs = [.non] ∧ Q (.str "None") H)
theorem call_reprX {X : Cx} : CallR X (.builtin "repr") rReprX := by
  intro pins s σ H xs us Q I r h
  rcases h with ⟨b, rfl, q⟩ | h | ⟨rfl, q⟩
  · obtain ⟨u, rfl, ru⟩ := vals1 r
    cases (show u = Value.bool b from ru)
    refine PySem.P.repr_of_bool ⟨.str (boolStr b), H, I.tok _, ⟨s.toks, ?_⟩, q⟩
    cases b <;> rfl
  · exact SkE.call_repr_int pins s σ H xs us Q I r h
  · obtain ⟨u, rfl, ru⟩ := vals1 r
    cases (show u = Value.none from ru)
    exact PySem.P.repr_of_none ⟨.str "None", H, I.tok _, ⟨s.toks, rfl⟩, q⟩
section
variable {K : PySem.W.Frag} {mg : Str → Option Value}
theorem cd_repr : CallD K mg rReprX reprB := by
  intro w H vs ds k Q c r h f
  cases r with
  | nil => exact h.elim
  | cons r t =>
    cases t with
    | cons _ _ => unfold reprB at h; split at h <;> first | exact h.elim | (rename_i e; cases e)
    | nil =>
      rename_i v d
      cases d with
      | bl b => rw [r.bl]; exact .inl ⟨b, rfl, f.1 _ _ (.inl (.str _)) h⟩
      | int i => rw [r.int]; exact .inr (.inl ⟨i, rfl, h.1, f.1 _ _ (.inl (.str _)) h.2⟩)
      | non => rw [r.non]; exact .inr (.inr ⟨rfl, f.1 _ _ (.inl (.str _)) h⟩)
      | _ => exact h.elim
/-! ### sum -/
def sumXB : BC := fun ds k => ∃ (d : D) (ns : List Int), ds = [d] ∧ itemsD d = some (ns.map .int) ∧ k (.int ns.sum)
def rSumT (K : PySem.W.Frag) : List V → Hp → VK → Prop := fun vs H Q => ∃ (a : Addr) (ns : List Int), vs = [V.ref a] ∧ SqT K H a (ns.map V.int) ∧ Q (.int ns.sum) H
def rSumX (K : PySem.W.Frag) : List V → Hp → VK → Prop := fun vs H Q => rSum K vs H Q ∨ rSumT K vs H Q
end
theorem call_sumT {X : Cx} (hc : X.calm = true) : CallR X (.builtin "sum") (rSumT X.K) := by
  intro pins s σ H xs us Q I r h
  obtain ⟨a, ns, rfl, hq, q⟩ := h
  obtain ⟨u, rfl, ru⟩ := vals1 r
  cases (show u = Value.ref a from ru)
  obtain ⟨its, rv, p, hz⟩ := I.tuple hq
  have hi := RZ.intsAre_vals rv
  have hl : s.heap.IsTuple a its.toArray := p
  obtain ⟨xs, hx⟩ := hi.allInts.items
  have hn : numsOf its.toArray.toList = ns := by rw [show its.toArray.toList = its from rfl, hi.numsOf]
  rw [hx] at hl hn
  rw [nums_intItems] at hn
  refine PySem.W.ktm_sumG (I.ok.hd hc) hl fun h' tk t' hk => ?_
  rw [preSum_eq, List.take_of_length_le (by simp), hn]
  exact ⟨.int _, H, I.kept (t' := tk) hk, ⟨t', rfl⟩, q⟩
theorem call_sumX {X : Cx} (hc : X.calm = true) : CallR X (.builtin "sum") (rSumX X.K) := by
  intro pins s σ H xs us Q I r h
  rcases h with h | h
  · exact cr_sum hc pins s σ H xs us Q I r h
  · exact call_sumT hc pins s σ H xs us Q I r h
theorem cd_sumX {K : PySem.W.Frag} {mg : Str → Option Value} : CallD K mg (rSumX K) sumXB := by
  intro w H vs ds k Q c r h f
  obtain ⟨d, ns, rfl, e, q⟩ := h
  obtain ⟨v, rfl, r1⟩ := r.one
  cases d with
  | lst xs =>
    cases e
    obtain ⟨p, us, rfl, h1, z⟩ := r1.lstE c
    rw [z.ints] at h1
    exact .inl ⟨p, ns, rfl, .of h1, f.1 _ _ (.inl (.int _)) q⟩
  | tup xs =>
    cases e
    obtain ⟨p, us, rfl, h1, z⟩ := r1.tup c
    rw [z.ints] at h1
    exact .inr ⟨p, ns, rfl, h1, f.1 _ _ (.inl (.int _)) q⟩
  | _ => cases e

/-! ### [*a, ..] -/
def dStar (te : DE) (t : DA) : DA := fun ρ M k x => te ρ M (fun d M1 => ∃ xs, itemsD (view M1 d) = some xs ∧ t ρ M1 (fun ds M2 => k (xs ++ ds) M2) x) x
theorem eva_star {X : Cx} {e : Expr} {es : List Expr} {te : DE} {t : DA} {p : Pos} (he : EV X e te) (hr : EVA X es t) (hs : starEach (.Starred e p :: es) X.env = (true, eval e X.env) :: starEach es X.env := by rfl) : EVA X (.Starred e p :: es) (dStar te t) := ⟨fun O R TX ρ M k h σ H w s =>
  wa_of (StX.pa_star (we_pe X e) (wa_pa X es) hs) (we_mono (he.run O R TX ρ M _ h σ H w s) fun v H1 ⟨w1, d, M1, l1, s1, r1, xs, e1, q⟩ => by
    have rd := rdh_view s1.cells r1
    generalize view M1 d = d0 at rd e1
    have fin : ∀ (a : Addr) (vs : List V), v = .ref a → (SqT X.K H1 a vs ∨ SqL X.K H1 a vs) → Reps X.K X.mg w1.F vs xs → ∃ p xs, v = V.ref p ∧ (SqT X.K H1 p xs ∨ SqL X.K H1 p xs) ∧ WA X es σ H1 (fun ys H2 => PoA X O σ ρ w k (xs ++ ys) H2) := fun a vs ev h1 h2 =>
      ⟨a, vs, ev, h1, wa_mono (hr.run O R TX ρ M1 _ q σ H1 w1 s1) fun us H2 ⟨w2, ds, M2, l2, s2, r2, q2⟩ => ⟨w2, xs ++ ds, M2, l1.trans l2, s2, (RepsA.of (h2.mono l2.F)).app r2, q2⟩⟩
    cases d0 with
    | lst ys =>
      cases e1
      obtain ⟨a, vs, rfl, h1, h2⟩ := rd.lstE s1.cells.fh
      exact fin a vs rfl (.inr (.of h1)) h2
    | tup ys =>
      cases e1
      obtain ⟨a, vs, rfl, h1, h2⟩ := rd.tup s1.cells.fh
      exact fin a vs rfl (.inl h1) h2
    | _ => cases e1)⟩

/-! ### {}, {i: j} -/
theorem ev_dnew {X : Cx} {pos : Pos} : EV X (.Dict [] [] pos) (dC (.dct [] [])) := ⟨fun O R TX ρ M k h σ H w s => we_of pe_dnewK fun p hp => PoE.new s hp (by intro ps e; cases e) (.dct upd_same rfl .nil) h⟩
theorem ev_dII {X : Cx} {i j : Int} {k1 k2 : Tok} {p1 p2 pos : Pos} : EV X (.Dict [some (.Constant (.int i) k1 p1)] [.Constant (.int j) k2 p2] pos) (dC (.dct [.inl i] [.int j])) := ⟨fun O R TX ρ M k h σ H w s =>
  we_of (pe_disp (pps_cons pe_int pe_int pps_nil) rfl rfl (by simp) (by simp)) fun p hp => by
    refine ⟨upd_same, [(.inl i, .int j)], rfl, by simp, ?_⟩
    have e : upd (upd H p (.dK [])) p (.dK (mergeK [] [((.inl i : Key), V.int j)])) = upd H p (.dK [((.inl i : Key), V.int j)]) := by
      funext b
      by_cases hb : b = p
      · rw [hb, upd_same, upd_same]; rfl
      · rw [upd_ne hb, upd_ne hb, upd_ne hb]
    rw [e]
    exact PoE.new s hp (by intro ps e; cases e) (.dct upd_same rfl (.cons (.int j) .nil)) h⟩

/-! ### own exceptions -/
section
variable {P : Program} {W : World} {K : PySem.W.Frag} {mg : Str → Option Value} {base : Heap} {qual fl gl y z : Str} {params : Arguments} {body : List Stmt} {scope : Scope} {f C : Addr} {fd : FuncData} {p1 p2 p3 p4 p5 p6 p7 p8 : Pos}
theorem init1 (F : FunD K "__init__" qual params body scope [] [] f fd) (S : FnScope ["self", y] ["self", y] scope) (hb : body = [.Assign [.Attribute (.Name "self" p1) fl p2] (.Name y p3) p4]) (v0 : scope.names.lookup ("self" : Str) = some .local) (vy : scope.names.lookup y = some .local) (hd : (y == ("__debug__" : Str)) = false) (hcd : (y == ("__classdict__" : Str)) = false)
    (oex : OexC K C) (no : PySem.W.findIn K (.ref C) fl = some none) (sw : ∀ env, swapsWith (.Name y p3) (some (.Attribute (.Name "self" p1) fl p2)) p4.line env = pure false) : FnOk P W K mg base C8.CX0 1 f fd ["self", y] (sp1 C fl) := by
  refine F.ok S (fun vs H Q E ⟨a, y, e, _⟩ => by rw [e]; rfl) fun cdv A outer s H vs Q E hr ⟨a, yv, e, ha, q⟩ => ?_
  subst hb
  refine ⟨_, pss_one (ps_ost (f := fl) (pe_var (i := 0) rfl (.inl v0)) (pe_var (i := 1) rfl (.inl vy) hd hcd) (sw _)), ?_⟩
  subst e
  exact ⟨yv, rfl, .ref a, rfl, a, C, rfl, oex, no, .inl ⟨ha, fun dx h1 h2 => q dx h1 h2⟩⟩
theorem init2 (F : FunD K "__init__" qual params body scope [] [] f fd) (S : FnScope ["self", y, z] ["self", y, z] scope) (hb : body = [.Assign [.Attribute (.Name "self" p1) fl p2] (.Name y p3) p4, .Assign [.Attribute (.Name "self" p5) gl p6] (.Name z p7) p8]) (v0 : scope.names.lookup ("self" : Str) = some .local) (vy : scope.names.lookup y = some .local) (vz : scope.names.lookup z = some .local) (hd : (y == ("__debug__" : Str)) = false) (hcd : (y == ("__classdict__" : Str)) = false) (hd2 : (z == ("__debug__" : Str)) = false) (hcd2 : (z == ("__classdict__" : Str)) = false)
    (oex : OexC K C) (no : PySem.W.findIn K (.ref C) fl = some none) (no2 : PySem.W.findIn K (.ref C) gl = some none) (sw : ∀ env, swapsWith (.Name y p3) (some (.Attribute (.Name "self" p1) fl p2)) p4.line env = pure false) (sw2 : ∀ env, swapsWith (.Name z p7) (some (.Attribute (.Name "self" p5) gl p6)) p8.line env = pure false) : FnOk P W K mg base C8.CX0 1 f fd ["self", y, z] (sp2 C fl gl) := by
  refine F.ok S (fun vs H Q E ⟨a, y, z, e, _⟩ => by rw [e]; rfl) fun cdv A outer s H vs Q E hr ⟨a, yv, zv, e, ha, q⟩ => ?_
  subst hb
  refine ⟨_, pss_cons (ps_ost (f := fl) (pe_var (i := 0) rfl (.inl v0)) (pe_var (i := 1) rfl (.inl vy) hd hcd) (sw _)) (pss_one (ps_ost (f := gl) (pe_var (i := 0) rfl (.inl v0)) (pe_var (i := 2) rfl (.inl vz) hd2 hcd2) (sw2 _))), ?_⟩
  subst e
  refine ⟨yv, rfl, .ref a, rfl, a, C, rfl, oex, no, .inl ⟨ha, fun dx h1 h2 => ?_⟩⟩
  exact ⟨zv, rfl, .ref a, rfl, a, C, rfl, oex, no2, .inr ⟨dx, [(fl, yv)], upd_same, by rw [upd_ne h2, upd_same], by simp, q dx h1 h2⟩⟩
end
end Dl
set_option Elab.async false
set_option linter.all false
set_option maxRecDepth 100000
set_option maxHeartbeats 1000000
set_option autoImplicit false
/-! Dl16: what printed derivations use. -/
namespace Dl
open PySem PySem.Spec PyProof.Rows L2
variable [Tb]

/-- the function's data at f -/
def fdA (K : PySem.W.Frag) (f : Addr) : FuncData := match K.lookup f with
  | some ⟨_, _, .func fd, _⟩ => fd
  | _ => PySem.W.fnOf "" "" { posonlyargs := [], args := [], vararg := none, kwonlyargs := [], kw_defaults := [], kwarg := none, defaults := [] } [] { kind := .function, names := [], isGenerator := false, isCoroutine := false } .none .none .none .none none .none .none
theorem fdA_ok {K : PySem.W.Frag} {x qual : Str} {params : Arguments} {body : List Stmt} {scope : Scope} {dvs : List V} {kws : List (Str × V)} {f : Addr} (h : ∃ fd, FunD K x qual params body scope dvs kws f fd) : FunD K x qual params body scope dvs kws f (fdA K f) := by
  obtain ⟨fd, F⟩ := h
  obtain ⟨oc, od, dV, kV, doc, pm, an, cdv, ct, osl, e, lk, _⟩ := F.ex
  have e2 : fdA K f = fd := by
    unfold fdA
    rw [lk]
  rw [e2]
  exact F
abbrev Fn (P : Program) (W : World) (K : PySem.W.Frag) (mg : Str → Option Value) (base : Heap) (d : Nat) (f : Addr) (ps : List Str) (sp : SpD) : Prop := FnOk P W K mg base (L2.CX P W) d f (fdA K f) ps (lift K mg sp)
structure EqT (K : PySem.W.Frag) (C f : Addr) : Prop where
  eq : PySem.W.findIn K (.ref C) "__eq__" = some (some (.ref f))
  fn : PySem.W.isFn K (.ref f) = true
  ne : PySem.W.findIn K (.ref C) "__ne__" = some (some (.builtin "object.__ne__"))
  mro : PySem.W.mroIn K C (.type "object") = some true
structure LenT (K : PySem.W.Frag) (C f : Addr) : Prop where
  at_ : PySem.W.findIn K (.ref C) "__len__" = some (some (.ref f))
  fn : PySem.W.isFn K (.ref f) = true
section
variable {X : Cx} {x : Str} {n : Int} {z : Str} {pos : Pos}
theorem glob_int (hg : Gl X x) (h : ∃ t, X.mg x = some (.int n t)) (hd : (x == ("__debug__" : Str)) = false := by decide) : EV X (.Name x pos) (dC (.int n)) := by
  obtain ⟨t, h⟩ := h
  exact ev_glob (v := .int n) hg h ⟨t, rfl⟩ (fun F => .int n) hd
theorem glob_str (hg : Gl X x) (h : ∃ t, X.mg x = some (.str z t)) (hd : (x == ("__debug__" : Str)) = false := by decide) : EV X (.Name x pos) (dC (.str z)) := by
  obtain ⟨t, h⟩ := h
  exact ev_glob (v := .str z) hg h ⟨t, rfl⟩ (fun F => .str z) hd
end
/-! ### list(x), to be changed -/
def dListC (te : DE) : DE := fun ρ M k x => te ρ M (fun d M1 => ∃ xs, itemsD (view M1 d) = some xs ∧ k (.cell M1.length) (M1 ++ [.lst xs])) x
theorem ev_listC {X : Cx} {e : Expr} {te : DE} {p pos : Pos} (hg : Gl X "list") (hm : X.mg "list" = none) (he : EV X e te)
    (hs : starEach [e] X.env = (false, eval e X.env) :: starEach [] X.env := by rfl) (hpl : (backTo pos (starEach [] X.env)).any (·.1) = false := by rfl) : EV X (.Call (.Name "list" p) [e] [] pos) (dListC te) := ⟨fun O R TX ρ M k h σ H w s =>
  we_of (pe_callTy call_list_of hg hm boot_list (pa_cons (we_pe X e) pa_nil hs) (by decide) (by decide) hs hpl) (we_mono (he.run O R TX ρ M _ h σ H w s) fun v H1 ⟨w1, d, M1, l1, s1, r1, xs, e1, q⟩ => by
    have rd := rdh_view s1.cells r1
    generalize view M1 d = d0 at rd e1
    have fin : ∀ (a : Addr) (vs : List V), v = .ref a → (SqL X.K H1 a vs ∨ SqT X.K H1 a vs) → Reps X.K X.mg w1.F vs xs → ∃ p ys, [v] = [V.ref p] ∧ (SqL X.K H1 p ys ∨ SqT X.K H1 p ys) ∧ ∀ l, H1 l = none → PoE X O σ ρ w k (.ref l) (upd H1 l (.lst ys)) := fun a vs ev h1 h2 =>
      ⟨a, vs, by rw [ev], h1, fun l hl => ⟨w1.cell l, _, _, l1.trans Wd.le_cell, s1.cell (mo := .lst xs) hl ⟨s1.cells.fh.fresh hl, vs, upd_same, h2⟩, RepA.cell s1, q⟩⟩
    cases d0 with
    | lst ys =>
      cases e1
      obtain ⟨a, vs, ev, h1, h2⟩ := rd.lstE s1.cells.fh
      exact fin a vs ev (.inl (.of h1)) h2
    | tup ys =>
      cases e1
      obtain ⟨a, vs, ev, h1, h2⟩ := rd.tup s1.cells.fh
      exact fin a vs ev (.inr h1) h2
    | _ => cases e1)⟩
/-! ### == of own instances, as tests -/
section
variable {X : Cx} {is es : List Str} {C : Str} {kd : Nat} {f : Addr} {fd : FuncData} {ps : List Str} {sp : SpD} {a b : Expr} {ta tb : DE} {pos : Pos} {O : Org} {σ : L2.St} {H : Hp} {ρ : Ro} {M : MS} {w : Wd} {R : Exn → Ro → MS → Prop} {neg : Bool}
theorem rEqO_mono {neg : Bool} {C : Addr} {sp : SpD} {x y : V} {H : Hp} {Q Q' : VK} (q : ∀ v H', Q v H' → Q' v H') (h : rEqO X neg C (lift X.K X.mg sp) x y H Q) : rEqO X neg C (lift X.K X.mg sp) x y H Q' := by
  obtain ⟨a, dx, fs, t, e1, e2, e3, e4, wc, ds, Mc, k', x', z1, z2, z3, z4, z5, z6⟩ := h
  exact ⟨a, dx, fs, t, e1, e2, e3, e4, wc, ds, Mc, k', x', z1, z2, z3, z4, fun v H' w' d M' y1 y2 y3 y4 y5 y6 => let ⟨c, g1, g2⟩ := z5 v H' w' d M' y1 y2 y3 y4 y5 y6; ⟨c, g1, q _ _ g2⟩, z6⟩
theorem eqO_tst (T : Isa X.K X.mg is es) (hnf : ∀ t ∈ tgs is es, PySem.W.notFirst X.K (clA X.mg C) (tgV X.mg t) = true) (ha : EV X a ta) (hb : EV X b tb) (TX : TakesD X O R) {k : Bool → MS → Prop} (h : dTst (dEqO is es C neg sp ta tb) ρ M k fun x M' => R x ρ M') (s : Sat X.K X.mg O σ H ρ M w) :
    tTest (tOp (rEqO X neg (clA X.mg C) (lift X.K X.mg sp)) (WE X a) (WE X b)) σ H (PoT X O σ ρ w k) :=
  we_mono (eqO_run T hnf ha hb TX h s) fun x H1 q1 => we_mono q1 fun y H2 q2 => rEqO_mono (fun v H' q => tst_run q) q2
theorem evt_eqO (T : Isa X.K X.mg is es) (hnf : ∀ t ∈ tgs is es, PySem.W.notFirst X.K (clA X.mg C) (tgV X.mg t) = true) (TE : EqOwn X (clA X.mg C) f) (F : FnD X kd f fd ps sp) (hr : Room kd X.A) (hbd : Bd X.K fd ps 2 [] [0, 1] []) (ha : EV X a ta) (hb : EV X b tb) :
    EVT X (.Compare a [.Eq] [b] pos) (dTst (dEqO is es C false sp ta tb)) := ⟨fun O R TX ρ M k h σ H w s => wt_of (pt_cmpR (op_eqO TE F hr hbd) (we_pe X a) (we_pe X b) (nomark b)) (eqO_tst T hnf ha hb TX h s)⟩
theorem evt_neO (T : Isa X.K X.mg is es) (hnf : ∀ t ∈ tgs is es, PySem.W.notFirst X.K (clA X.mg C) (tgV X.mg t) = true) (TE : EqOwn X (clA X.mg C) f) (F : FnD X kd f fd ps sp) (hr : Room (kd + 1) X.A) (hbd : Bd X.K fd ps 2 [] [0, 1] []) (ha : EV X a ta) (hb : EV X b tb) :
    EVT X (.Compare a [.NotEq] [b] pos) (dTst (dEqO is es C true sp ta tb)) := ⟨fun O R TX ρ M k h σ H w s => wt_of (pt_cmpR (op_neO TE F hr hbd) (we_pe X a) (we_pe X b) (nomark b)) (eqO_tst T hnf ha hb TX h s)⟩
end
end Dl
set_option Elab.async false
set_option linter.all false
set_option maxRecDepth 100000
set_option maxHeartbeats 1000000
set_option autoImplicit false
/-! Dl17: defs that write lambdas; the law's end. -/
namespace Dl
open PySem PySem.Spec PyProof.Rows L2
variable [Tb]

/-- fnD, where the def's code object is told -/
theorem fnDL {P : Program} {W : World} {K : PySem.W.Frag} {mg : Str → Option Value} {base : Heap} {x qual : Str} {params : Arguments} {body : List Stmt} {scope : Scope} {dvs : List V} {kws : List (Str × V)} {fd : FuncData} {N ps : List Str} {kd : Nat} {sp : SpD} {τ : DS} (p : He.Defn)
    (F : FunD K x qual params body scope dvs kws (He.fAd K p) fd) (S : FnScope N ps scope) (len : ∀ ds M k x, sp ds M k x → ds.length = ps.length)
    (hb : ∀ (A : Around) (outer : List Env) (s : Shared) (H : Hp) (E : XK), Room kd (A.deeper (envOfC qual scope s.heap.objs.size (He.fAd K p) (.ref (He.codeOf K p)))) → EVSs (cxOf (L2.CX P W) P W K mg base N qual scope (He.fAd K p) (.ref (He.codeOf K p)) A outer s H E) body τ)
    (vc : ∀ ds M k x, sp ds M k x → τ (enD M.length k) (fun e _ M' => x e (M'.take M.length)) (startD N ds) M) : FnOk P W K mg base (L2.CX P W) (kd + 1) (He.fAd K p) fd ps (lift K mg sp) := by
  obtain ⟨oc, od, dV, kV, doc, pm, an, cdv, ct, osl, rfl, lk, hcd, _, _⟩ := F.ex
  obtain ⟨c, rfl⟩ := He.codeIn_ref hcd
  have ec : He.codeOf K p = c := He.codeOf_eq lk rfl
  subst ec
  refine fn_of lk hcd S (fun vs H Q E ⟨w, ds, M, k, x, r, c, t, h, _⟩ => by rw [r.length]; exact len _ _ _ _ h) fun A outer s H vs Q E hr ⟨w, ds, M, k, x, r, c, t, h, hQ, hE⟩ => ?_
  have B := hb A outer s H E hr
  refine ⟨_, wss_pss _ _, ?_⟩
  have TX : TakesD (cxOf (L2.CX P W) P W K mg base N qual scope (He.fAd K p) (.ref (He.codeOf K p)) A outer s H E) ⟨w, H⟩ (fun e _ M' => x e (M'.take M.length)) := by
    refine (takes_of (E := E) rfl rfl rfl rfl).imp fun cls d σ H' ⟨C, a, fs, ds', ρ, M', w', e1, e2, e3, e4, s', q⟩ => ?_
    subst e1 e2
    obtain ⟨t1, t2⟩ := trim s'
    have hn : w.al.length = M.length := c.len
    rw [hn] at t2
    exact hE C a fs H' ⟨w'.F, w.al⟩ ds' _ t1 rfl t2 s'.tabs e3 e4 q
  refine wss_mono ⟨?_, ?_, ?_, ?_⟩ (B.run ⟨w, H⟩ _ TX _ _ _ (vc ds M k x h) (L2.start N vs) H w (sat_start r c t))
  · intro σ H1 ⟨ρ, M1, w1, _, s1, q⟩
    exact ret_of (s0 := c) (d := .non) (k := k) s1 (.inl .non) q hQ
  · intro v H1 ⟨σ, ρ, d, M1, w1, _, s1, r1, q⟩
    exact ret_of (s0 := c) s1 r1 q hQ
  · intro σ H1 ⟨_, _, _, _, _, q⟩
    exact q.elim
  · intro σ H1 ⟨_, _, _, _, _, q⟩
    exact q.elim
theorem hit_of {K : PySem.W.Frag} {mg : Str → Option Value} {c : Value} : ∀ {hit : List (Str × Bool)}, (∀ p ∈ hit, PySem.W.exmOne K (.ref (clA mg p.1)) c = some p.2) → ∀ C b, hit.lookup C = some b → PySem.W.exmOne K (.ref (clA mg C)) c = some b := fun h C b e => by
  obtain ⟨l1, l2, e1, _⟩ := List.lookup_eq_some_iff.mp e
  exact h (C, b) (by rw [e1]; simp)
/-- the law's promise, of the script -/
theorem law_sp {K : PySem.W.Frag} {mg : Str → Option Value} {sp : SpD} {H : Hp} {a : Addr} {ns : List Int} (hS : SqL K H a (ns.map V.int)) (ht : LamX.Tabs Tb.T H) (h : sp [.scr ns] [] (fun d _ => d = .bl true) (fun _ _ => False)) :
    lift K mg sp [.ref a] H (fun v _ => v = .bl true) fun _ _ _ => False := by
  let F : Hp := fun b => if b = a then (match H a with
    | some (.tbl _) => none
    | o => o) else none
  have hF : Ex F H := fun b o e => by
    have e : (if b = a then (match H a with
      | some (.tbl _) => none
      | o => o) else none) = some o := e
    split at e
    · rename_i hb
      subst hb
      split at e
      · cases e
      · exact e
    · cases e
  have hT : ∀ b ps, F b ≠ some (.tbl ps) := fun b ps e => by
    have e : (if b = a then (match H a with
      | some (.tbl _) => none
      | o => o) else none) = some (.tbl ps) := e
    split at e
    · split at e
      · cases e
      · rename_i h1
        exact h1 ps e
    · cases e
  have hS2 : SqL K F a (ns.map V.int) := by
    rcases hS with (h1 | ⟨o, h1⟩) | h1
    · refine .inl (.inl ?_)
      show (if a = a then _ else none) = _
      rw [if_pos rfl, h1]
    · refine .inl (.inr ⟨o, ?_⟩)
      show (if a = a then _ else none) = _
      rw [if_pos rfl, h1]
    · exact .inr h1
  refine ⟨⟨F, []⟩, [.scr ns], [], _, _, .cons (.inl (.scr hS2)) .nil, ⟨hF, List.nodup_nil, rfl, fun i b mo h1 _ => by simp at h1, hT⟩, ht, h, ?_, ?_⟩
  · intro v H' w' d M' _ _ _ _ r e
    subst e
    rcases r with r | ⟨_, _, _, e, _⟩
    · cases r; rfl
    · cases e
  · intro _ _ _ _ _ _ _ _ _ _ _ _ _ z
    exact z
end Dl
set_option Elab.async false
set_option linter.all false
set_option maxRecDepth 100000
set_option maxHeartbeats 1000000
set_option autoImplicit false
/-! Dl18: facts of the written part, by Booleans. -/
namespace Dl
open PySem PySem.Spec PyProof.Rows L2
def eqV (a b : Option (Option Value)) : Bool := decide (a = b)
section
variable {K : PySem.W.Frag} {mg : Str → Option Value} {h : Heap}
theorem cl_ga (X : K.In h) (G : h.Ns mainGlobals mg) {x : Str} (c : (He.Fa.glo x).ok K = true) : clA mg x = He.ga K x := by
  unfold clA
  rw [He.glo_ok X G c]
theorem glo_cl (X : K.In h) (G : h.Ns mainGlobals mg) {x : Str} (c : (He.Fa.glo x).ok K = true) : mg x = some (.ref (clA mg x)) := by
  rw [cl_ga X G c]
  exact He.glo_ok X G c
def oexB (K : PySem.W.Frag) (C : Addr) : Bool := (match K.lookup C with
  | some ⟨.type "type", _, .cls cd, sl⟩ => (match cd.mro, sl.toList with
    | .ref C' :: bm, [_, _, _, _, some (.builtin n), _] => C' == C && n == "ValueError.__new__" && !cd.hasDel && cd.hasDict && PySem.HandSPX.refsVE bm
    | _, _ => false)
  | _ => false) && eqV (PySem.W.findIn K (.ref C) "__setattr__") (some (some (.builtin "object.__setattr__"))) && decide (PySem.W.subIn K (.ref C) (.type "BaseException") = some true) && decide (PySem.W.typeIn K (.ref C) = some (.type "type")) && PySem.W.keepIn K (.ref C)
theorem oexB_ok {C : Addr} (q : oexB K C = true) : OexC K C := by
  unfold oexB at q
  obtain ⟨q, q5⟩ := Bool.and_eq_true_iff.mp q
  obtain ⟨q, q4⟩ := Bool.and_eq_true_iff.mp q
  obtain ⟨q, q3⟩ := Bool.and_eq_true_iff.mp q
  obtain ⟨q, q2⟩ := Bool.and_eq_true_iff.mp q
  refine ⟨?_, of_decide_eq_true q2, of_decide_eq_true q3, of_decide_eq_true q4, q5⟩
  split at q
  · rename_i dd cd sl ho
    split at q
    · rename_i C' bm k0 k1 k2 k3 n k5 hm hs
      simp only [Bool.and_eq_true, beq_iff_eq, Bool.not_eq_true'] at q
      obtain ⟨⟨⟨⟨rfl, rfl⟩, hdel⟩, hdc⟩, hv⟩ := q
      obtain ⟨nm, bs, mro, ns, qn, hd, sn, sub, ab, col, del⟩ := cd
      dsimp only at hm hdel hdc
      subst hm hdel hdc
      have hsl : sl = #[k0, k1, k2, k3, some (.builtin "ValueError.__new__"), k5] := by
        obtain ⟨l⟩ := sl
        simp only at hs
        rw [hs]
      subst hsl
      exact ⟨nm, qn, ns, bs, bm, sn, sub, ab, col, dd, k0, k1, k2, k3, k5, ho, hv⟩
    · cases q
  · cases q
def isCB (K : PySem.W.Frag) (C : Addr) : Bool := eqV (PySem.W.findIn K (.ref C) "__class__") (some (some (.builtin "object.__class__"))) && eqV (PySem.W.specialIn K (.builtin "object.__class__") "__get__") (some (some (.builtin "getset_descriptor.__get__"))) &&
  decide (PySem.W.takesIn K (.builtin "object.__class__") = some true) && decide (PySem.W.mroIn K C (.type "object") = some true)
theorem isCB_ok [Tb] {C : Addr} (q : isCB K C = true) : IsC K C := by
  unfold isCB at q
  obtain ⟨q, q4⟩ := Bool.and_eq_true_iff.mp q
  obtain ⟨q, q3⟩ := Bool.and_eq_true_iff.mp q
  obtain ⟨q1, q2⟩ := Bool.and_eq_true_iff.mp q
  exact ⟨of_decide_eq_true q1, of_decide_eq_true q2, of_decide_eq_true q3, of_decide_eq_true q4⟩
def exKB (K : PySem.W.Frag) (C : Addr) : Bool := isCB K C && (PySem.W.clsIn K C).isSome && xfB K C
theorem exKB_ok [Tb] {C : Addr} (q : exKB K C = true) : ExK K C := by
  unfold exKB at q
  obtain ⟨q, q3⟩ := Bool.and_eq_true_iff.mp q
  obtain ⟨q1, q2⟩ := Bool.and_eq_true_iff.mp q
  exact ⟨isCB_ok q1, q2, xfB_ok q3⟩
def tgK (K : PySem.W.Frag) : Tg → Value
  | .b n => .type n
  | .c C => .ref (He.ga K C)
def isaB (K : PySem.W.Frag) (isa : Tg → Tg → Bool) (ts cs : List Tg) : Bool := ts.all fun t => cs.all fun c => decide (PySem.W.kitOne K (tgK K t) (tgK K c) = some (isa t c))
def nfB (K : PySem.W.Frag) (C : Addr) (ts : List Tg) : Bool := ts.all fun t => PySem.W.notFirst K C (tgK K t)
def eqTB (K : PySem.W.Frag) (C : Addr) : Bool := eqV (PySem.W.findIn K (.ref C) "__eq__") (some (some (.ref (He.ma K C "__eq__")))) && PySem.W.isFn K (.ref (He.ma K C "__eq__")) && eqV (PySem.W.findIn K (.ref C) "__ne__") (some (some (.builtin "object.__ne__"))) && decide (PySem.W.mroIn K C (.type "object") = some true)
def lenTB (K : PySem.W.Frag) (C : Addr) : Bool := eqV (PySem.W.findIn K (.ref C) "__len__") (some (some (.ref (He.ma K C "__len__")))) && PySem.W.isFn K (.ref (He.ma K C "__len__"))
def initB (K : PySem.W.Frag) (C : Addr) : Bool := eqV (PySem.W.findIn K (.ref C) "__init__") (some (some (.ref (He.ma K C "__init__")))) && decide (PySem.W.typeIn K (.ref (He.ma K C "__init__")) = some (.type "function"))
theorem eqTB_ok [Tb] {C : Addr} (q : eqTB K C = true) : EqT K C (He.ma K C "__eq__") := by
  unfold eqTB at q
  obtain ⟨q, q4⟩ := Bool.and_eq_true_iff.mp q
  obtain ⟨q, q3⟩ := Bool.and_eq_true_iff.mp q
  obtain ⟨q1, q2⟩ := Bool.and_eq_true_iff.mp q
  exact ⟨of_decide_eq_true q1, q2, of_decide_eq_true q3, of_decide_eq_true q4⟩
theorem lenTB_ok [Tb] {C : Addr} (q : lenTB K C = true) : LenT K C (He.ma K C "__len__") := by
  unfold lenTB at q
  obtain ⟨q1, q2⟩ := Bool.and_eq_true_iff.mp q
  exact ⟨of_decide_eq_true q1, q2⟩
theorem initB_ok {C : Addr} (q : initB K C = true) : PySem.W.findIn K (.ref C) "__init__" = some (some (.ref (He.ma K C "__init__"))) ∧ PySem.W.typeIn K (.ref (He.ma K C "__init__")) = some (.type "function") := by
  unfold initB at q
  obtain ⟨q1, q2⟩ := Bool.and_eq_true_iff.mp q
  exact ⟨of_decide_eq_true q1, of_decide_eq_true q2⟩
/-- the classes stand at their names -/
def ClOk (K : PySem.W.Frag) (mg : Str → Option Value) (Cs : List Str) : Prop := ∀ C ∈ Cs, clA mg C = He.ga K C
def TgIn (Cs : List Str) : Tg → Prop
  | .b _ => True
  | .c C => C ∈ Cs
theorem tgV_K {Cs : List Str} (c : ClOk K mg Cs) {t : Tg} (h : TgIn Cs t) : tgV mg t = tgK K t := by
  cases t with
  | b n => rfl
  | c C =>
    show Value.ref (clA mg C) = .ref (He.ga K C)
    rw [c C h]
theorem tgs_in {is es : List Str} {t : Tg} (h : t ∈ tgs is es) : TgIn (is ++ es) t := by
  unfold tgs at h
  rcases List.mem_append.mp h with h | h
  · obtain ⟨n, _, rfl⟩ := List.mem_map.mp h
    trivial
  · obtain ⟨C, hC, rfl⟩ := List.mem_map.mp h
    exact hC
theorem isa_of [Tb] {is es : List Str} (c : ClOk K mg (is ++ es)) (h1 : is.all (fun C => isCB K (He.ga K C)) = true) (h2 : es.all (fun C => exKB K (He.ga K C)) = true) : Isa K mg is es :=
  ⟨fun C m => by rw [c C (List.mem_append_left _ m)]; exact isCB_ok (List.all_eq_true.mp h1 C m), fun C m => by rw [c C (List.mem_append_right _ m)]; exact exKB_ok (List.all_eq_true.mp h2 C m)⟩
theorem isaOk_of [Tb] {is es : List Str} {cs : List Tg} (c : ClOk K mg (is ++ es)) (hc : ∀ t ∈ cs, TgIn (is ++ es) t) (h : isaB K Tb.isa (tgs is es) cs = true) : IsaOk K mg is es cs := fun t ht c' hc' => by
  rw [tgV_K c (tgs_in ht), tgV_K c (hc c' hc')]
  exact of_decide_eq_true (List.all_eq_true.mp (List.all_eq_true.mp h t ht) c' hc')
def tgInB (Cs : List Str) : Tg → Bool
  | .b _ => true
  | .c C => Cs.any fun D => decide (D = C)
theorem tgIn_of {Cs : List Str} {cs : List Tg} (h : cs.all (tgInB Cs) = true) : ∀ t ∈ cs, TgIn Cs t := fun t ht => by
  have q := List.all_eq_true.mp h t ht
  cases t with
  | b n => trivial
  | c C =>
    obtain ⟨D, hD, e⟩ := List.any_eq_true.mp q
    have e' : D = C := of_decide_eq_true e
    subst e'
    exact hD
theorem nf_of [Tb] {is es : List Str} {C : Addr} (c : ClOk K mg (is ++ es)) (h : nfB K C (tgs is es) = true) : ∀ t ∈ tgs is es, PySem.W.notFirst K C (tgV mg t) = true := fun t ht => by
  rw [tgV_K c (tgs_in ht)]
  exact List.all_eq_true.mp h t ht
end
end Dl
set_option Elab.async false
set_option linter.all false
set_option maxRecDepth 100000
set_option maxHeartbeats 1000000
set_option autoImplicit false
/-! Dl19: the transformers, unfolded by simp. -/
namespace Dl
open PySem PySem.Spec PyProof.Rows L2
variable [Tb]
section
variable {ρ : Ro} {M : MS} {k : KD} {x : XD} {kb : Bool → MS → Prop} {kl : List D → MS → Prop} {ta tb tc : DE} {t u : DT} {l lk : DA} {E : EnD} {R : XR} {s s' : DS} {g : DG} {gs : DGs} {kg : Ro → MS → Prop}
@[simp] theorem dVar_ap (i : Nat) : dVar i ρ M k x = ∃ d, ρ[i]? = some (some d) ∧ k d M := rfl
@[simp] theorem dC_ap (d : D) : dC d ρ M k x = k d M := rfl
@[simp] theorem dBin_ap (B : B2) : dBin B ta tb ρ M k x = ta ρ M (fun d1 M1 => tb ρ M1 (fun d2 M2 => B (view M2 d1) (view M2 d2) fun d => k d M2) x) x := rfl
@[simp] theorem dTst_ap : dTst ta ρ M kb x = ta ρ M (fun d M1 => ∃ b, d = .bl b ∧ kb b M1) x := rfl
@[simp] theorem dTru_ap : dTru ta ρ M kb x = ta ρ M (fun d M1 => ∃ b, truD (view M1 d) = some b ∧ kb b M1) x := rfl
@[simp] theorem dAnd_ap : dAnd t u ρ M kb x = t ρ M (fun b M1 => if b = true then u ρ M1 kb x else kb false M1) x := rfl
@[simp] theorem dOr_ap : dOr t u ρ M kb x = t ρ M (fun b M1 => if b = true then kb true M1 else u ρ M1 kb x) x := rfl
@[simp] theorem dNot_ap : dNot t ρ M kb x = t ρ M (fun b M1 => kb (!b) M1) x := rfl
@[simp] theorem dAndV_ap : dAndV ta tb ρ M k x = ta ρ M (fun d M1 => ∃ b, truD (view M1 d) = some b ∧ if b = true then tb ρ M1 k x else k d M1) x := rfl
@[simp] theorem dOrV_ap : dOrV ta tb ρ M k x = ta ρ M (fun d M1 => ∃ b, truD (view M1 d) = some b ∧ if b = true then k d M1 else tb ρ M1 k x) x := rfl
@[simp] theorem dNotV_ap : dNotV ta ρ M k x = ta ρ M (fun d M1 => ∃ b, truD (view M1 d) = some b ∧ k (.bl (!b)) M1) x := rfl
@[simp] theorem dIf_ap : dIf t ta tb ρ M k x = t ρ M (fun b M1 => if b = true then ta ρ M1 k x else tb ρ M1 k x) x := rfl
@[simp] theorem dUn_ap (B : B1) : dUn B ta ρ M k x = ta ρ M (fun d M1 => B (view M1 d) fun d' => k d' M1) x := rfl
@[simp] theorem dNil_ap : dNil ρ M kl x = kl [] M := rfl
@[simp] theorem dCons_ap : dCons ta l ρ M kl x = ta ρ M (fun d M1 => l ρ M1 (fun ds M2 => kl (d :: ds) M2) x) x := rfl
@[simp] theorem dTup_ap : dTup l ρ M k x = l ρ M (fun ds M1 => allPure ds = true ∧ ds.length ≤ sizeLine ∧ k (.tup ds) M1) x := rfl
@[simp] theorem dLst_ap : dLst l ρ M k x = l ρ M (fun ds M1 => allPure ds = true ∧ ds.length ≤ sizeLine ∧ k (.lst ds) M1) x := rfl
@[simp] theorem dLstC_ap : dLstC l ρ M k x = l ρ M (fun ds M1 => allPure ds = true ∧ ds.length ≤ sizeLine ∧ k (.cell M1.length) (M1 ++ [.lst ds])) x := rfl
@[simp] theorem dCB_ap (B : BC) : dCB B l ρ M k x = l ρ M (fun ds M1 => B (ds.map (view M1)) fun d => k d M1) x := rfl
@[simp] theorem dListC_ap : dListC ta ρ M k x = ta ρ M (fun d M1 => ∃ xs, itemsD (view M1 d) = some xs ∧ k (.cell M1.length) (M1 ++ [.lst xs])) x := rfl
@[simp] theorem dIs_ap (is es : List Str) (cs : List Tg) : dIs is es cs ta ρ M k x = ta ρ M (fun d M1 => okT is es (view M1 d) = true ∧ ∃ t, tag (view M1 d) = some t ∧ k (.bl (cs.any (Tb.isa t))) M1) x := rfl
@[simp] theorem dXf_ap (es : List Str) (f : Str) : dXf es f ta ρ M k x = ta ρ M (fun d M1 => ∃ C ks xs z, view M1 d = .exc C ks xs ∧ es.contains C = true ∧ lookD f ks xs = some z ∧ k z M1) x := rfl
@[simp] theorem dStar_ap : dStar ta l ρ M kl x = ta ρ M (fun d M1 => ∃ xs, itemsD (view M1 d) = some xs ∧ l ρ M1 (fun ds M2 => kl (xs ++ ds) M2) x) x := rfl
@[simp] theorem dSl_ap (tl th : DO) : dSl ta tl th ρ M k x = ta ρ M (fun d M1 => tl ρ M1 (fun lo M2 => th ρ M2 (fun hi M3 => slB (view M3 d) lo hi fun d' => k d' M3) x) x) x := rfl
@[simp] theorem dNo_ap {ko : Option Int → MS → Prop} : dNo ρ M ko x = ko none M := rfl
@[simp] theorem dPart_ap {ko : Option Int → MS → Prop} : dPart ta ρ M ko x = ta ρ M (fun d M1 => ∃ i, d = .int i ∧ ko (some i) M1) x := rfl
@[simp] theorem dCall_ap (ad : Ad) (sp : SpD) (mu : List Nat) (n m : Nat) (idx : List Nat) (dfl : List D) : dCall ad sp mu n m idx dfl l lk ρ M k x = l ρ M (fun ds M1 => lk ρ M1 (fun zs M2 => ds.length = n ∧ zs.length = m ∧ app' sp mu (pk idx (ds ++ dfl ++ zs)) M2 (ad k) x) x) x := rfl
@[simp] theorem dMeth_ap (C m : Str) (ad : Ad) (sp : SpD) (mu : List Nat) (n j : Nat) (idx : List Nat) (dfl : List D) : dMeth C m ad sp mu n j idx dfl ta l lk ρ M k x = ta ρ M (fun d M0 => (∃ ks xs, view M0 d = .ins C ks xs ∧ ks.contains m = false) ∧
  l ρ M0 (fun ds M1 => lk ρ M1 (fun zs M2 => ds.length = n ∧ zs.length = j ∧ app' sp mu (pk idx ((d :: ds) ++ dfl ++ zs)) M2 (ad k) x) x) x) x := rfl
@[simp] theorem dMake_ap (C : Str) (b : Bool) (sp : SpD) (mu : List Nat) (n m : Nat) (idx : List Nat) (dfl : List D) : dMake C b sp mu n m idx dfl l lk ρ M k x = l ρ M (fun ds M1 => lk ρ M1 (fun zs M2 => ds.length = n ∧ zs.length = m ∧
  app' sp mu (pk idx ((.cell M2.length :: ds) ++ dfl ++ zs)) (M2 ++ [.ins C [] []]) (mkEnd b C M2.length k) x) x) x := rfl
@[simp] theorem dEqO_ap (is es : List Str) (C : Str) (neg : Bool) (sp : SpD) : dEqO is es C neg sp ta tb ρ M k x = ta ρ M (fun d1 M1 => tb ρ M1 (fun d2 M2 => (∃ ks xs, view M2 d1 = .ins C ks xs) ∧ okT is es (view M2 d2) = true ∧ (∃ t, tag (view M2 d2) = some t) ∧
  app' sp [] [d1, d2] M2 (fun d M' => ∃ c, d = .bl c ∧ k (.bl (c != neg)) M') (fun _ _ => False)) x) x := rfl
@[simp] theorem dLenO_ap (C : Str) (sp : SpD) : dLenO C sp ta ρ M k x = ta ρ M (fun d M1 => (∃ ks xs, view M1 d = .ins C ks xs) ∧ app' sp [] [d] M1 (fun d M' => ∃ n : Int, d = .int n ∧ 0 ≤ n ∧ n < 2 ^ 63 ∧ k (.int n) M') (fun _ _ => False)) x := rfl
@[simp] theorem dApp_ap : dApp ta tb ρ M k x = ta ρ M (fun o M1 => ∃ j xs0, o = .cell j ∧ M1[j]? = some (.lst xs0) ∧ tb ρ M1 (fun d M2 => isPure d = true ∧ ∃ xs, M2[j]? = some (.lst xs) ∧ xs.length < sizeLine ∧ k .non (M2.set j (.lst (xs ++ [d])))) x) x := rfl
@[simp] theorem adF_ap (d : D) : adF k d M = k (adopt d) M := rfl
@[simp] theorem adC_ap (d : D) : adC k d M = ∃ xs, d = .own xs ∧ k (.cell M.length) (M ++ [.lst xs]) := rfl
@[simp] theorem dChain_ap (B B' : B2) : dChain B B' ta tb tc ρ M k x = ta ρ M (fun d1 M1 => tb ρ M1 (fun d2 M2 => B (view M2 d1) (view M2 d2) fun z => ∃ c, z = .bl c ∧ if c = true then tc ρ M2 (fun d3 M3 => B' (view M3 d2) (view M3 d3) fun d => k d M3) x else k (.bl false) M2) x) x := rfl
/-! statements -/
@[simp] theorem sNil_ap : sNil E R ρ M = E.nx ρ M := rfl
@[simp] theorem sCons_ap : sCons s s' E R ρ M = s { E with nx := s' E R } R ρ M := rfl
@[simp] theorem sSet_ap (i : Nat) : sSet i ta E R ρ M = ta ρ M (fun d M1 => E.nx (ρ.set i (some d)) M1) (fun x M1 => R x ρ M1) := rfl
@[simp] theorem sRet_ap : sRet ta E R ρ M = ta ρ M E.rt (fun x M1 => R x ρ M1) := rfl
@[simp] theorem sRetN_ap : sRetN E R ρ M = E.rt .non M := rfl
@[simp] theorem sIf_ap : sIf t s s' E R ρ M = t ρ M (fun b M1 => if b = true then s E R ρ M1 else s' E R ρ M1) (fun x M1 => R x ρ M1) := rfl
@[simp] theorem sDrop_ap : sDrop ta E R ρ M = ta ρ M (fun _ M1 => E.nx ρ M1) (fun x M1 => R x ρ M1) := rfl
@[simp] theorem sPar_ap (i j : Nat) : sPar i j l E R ρ M = l ρ M (fun ds M1 => ∃ d1 d2, ds = [d1, d2] ∧ E.nx ((ρ.set i (some d1)).set j (some d2)) M1) (fun x M1 => R x ρ M1) := rfl
@[simp] theorem sAsg_ap : sAsg ta g E R ρ M = ta ρ M (fun d M1 => g d ρ M1 E.nx) (fun x M1 => R x ρ M1) := rfl
@[simp] theorem sFldP_ap (C f : Str) : sFldP C f ta tb E R ρ M = tb ρ M (fun d M1 => ta ρ M1 (fun o M2 => isPure d = true ∧ ∃ i ks xs, o = .cell i ∧ M2[i]? = some (.ins C ks xs) ∧ ks.length < 1000 ∧ E.nx ρ (M2.set i (.ins C (putK f ks) (putX f d ks xs)))) (fun x M2 => R x ρ M2)) (fun x M1 => R x ρ M1) := rfl
@[simp] theorem sRai1_ap (C f : Str) : sRai1 C f l E R ρ M = l ρ M (fun ds M1 => ∃ d, ds = [d] ∧ isPure d = true ∧ R (C, [f], [d]) ρ M1) (fun x M1 => R x ρ M1) := rfl
@[simp] theorem sRai2_ap (C f g : Str) : sRai2 C f g l E R ρ M = l ρ M (fun ds M1 => ∃ d e, ds = [d, e] ∧ isPure d = true ∧ isPure e = true ∧ R (C, [g, f], [e, d]) ρ M1) (fun x M1 => R x ρ M1) := rfl
@[simp] theorem gSet_ap (i : Nat) (d : D) : gSet i d ρ M kg = kg (ρ.set i (some d)) M := rfl
@[simp] theorem gNo_ap (ds : List D) : gNo ds ρ M kg = (ds = [] ∧ kg ρ M) := rfl
@[simp] theorem gAnd_ap (ds : List D) : gAnd g gs ds ρ M kg = ∃ d r, ds = d :: r ∧ g d ρ M fun ρ1 M1 => gs r ρ1 M1 kg := rfl
@[simp] theorem gUn_ap (n : Nat) (d : D) : gUn n gs d ρ M kg = ∃ ds, view M d = .tup ds ∧ ds.length = n ∧ gs ds ρ M kg := rfl
@[simp] theorem gIx_ap (d : D) : gIx ta tb d ρ M kg = ta ρ M (fun o M1 => tb ρ M1 (fun i M2 => isPure d = true ∧ ∃ j xs z n, o = .cell j ∧ M2[j]? = some (.lst xs) ∧ i = .int z ∧ ixN xs.length z = some n ∧ kg ρ (M2.set j (.lst (xs.set n d)))) fun _ _ => False) fun _ _ => False := rfl
@[simp] theorem enD_nx (n : Nat) : (enD n k).nx ρ M = k .non (M.take n) := rfl
@[simp] theorem enD_rt (n : Nat) : (enD n k).rt = retK n k := rfl
@[simp] theorem retK_bl (n : Nat) (b : Bool) : retK n k (.bl b) M = k (.bl b) (M.take n) := rfl
@[simp] theorem retK_int (n : Nat) (b : Int) : retK n k (.int b) M = k (.int b) (M.take n) := rfl
@[simp] theorem retK_non (n : Nat) : retK n k .non M = k .non (M.take n) := rfl
@[simp] theorem retK_str (n : Nat) (z : Str) : retK n k (.str z) M = k (.str z) (M.take n) := rfl
@[simp] theorem retK_lst (n : Nat) (z : List D) : retK n k (.lst z) M = k (.lst z) (M.take n) := rfl
@[simp] theorem retK_tup (n : Nat) (z : List D) : retK n k (.tup z) M = k (.tup z) (M.take n) := rfl
@[simp] theorem retK_ins (n : Nat) (C : Str) (ks : List Str) (z : List D) : retK n k (.ins C ks z) M = k (.ins C ks z) (M.take n) := rfl
@[simp] theorem retK_cell (n i : Nat) : retK n k (.cell i) M = (n ≤ i ∧ ∃ xs, M[i]? = some (.lst xs) ∧ k (.own xs) (M.take n)) := rfl
theorem retK_pure (n : Nat) {d : D} (h : isPure d = true) : retK n k d M = k d (M.take n) := by cases d <;> first | rfl | cases h
end
/-! values -/
section
variable {M : MS} {k : D → Prop}
@[simp] theorem view_int (i : Int) : view M (.int i) = .int i := rfl
@[simp] theorem view_bl (i : Bool) : view M (.bl i) = .bl i := rfl
@[simp] theorem view_non : view M .non = .non := rfl
@[simp] theorem view_str (z : Str) : view M (.str z) = .str z := rfl
@[simp] theorem view_lst (z : List D) : view M (.lst z) = .lst z := rfl
@[simp] theorem view_tup (z : List D) : view M (.tup z) = .tup z := rfl
@[simp] theorem view_scr (z : List Int) : view M (.scr z) = .scr z := rfl
@[simp] theorem view_ins (C : Str) (ks : List Str) (z : List D) : view M (.ins C ks z) = .ins C ks z := rfl
@[simp] theorem view_exc (C : Str) (ks : List Str) (z : List D) : view M (.exc C ks z) = .exc C ks z := rfl
@[simp] theorem view_dct (ks : List Key) (z : List D) : view M (.dct ks z) = .dct ks z := rfl
theorem view_pure {d : D} (h : isPure d = true) : view M d = d := by cases d <;> first | rfl | cases h
theorem view_cell_lst {i : Nat} {xs : List D} (h : M[i]? = some (.lst xs)) : view M (.cell i) = .lst xs := by
  show (match M[i]? with
    | some (.lst xs) => D.lst xs
    | some (.dct ks xs) => .dct ks xs
    | some (.ins C ks xs) => .ins C ks xs
    | _ => .cell i) = _
  rw [h]
theorem view_cell_ins {i : Nat} {C : Str} {ks : List Str} {xs : List D} (h : M[i]? = some (.ins C ks xs)) : view M (.cell i) = .ins C ks xs := by
  show (match M[i]? with
    | some (.lst xs) => D.lst xs
    | some (.dct ks xs) => .dct ks xs
    | some (.ins C ks xs) => .ins C ks xs
    | _ => .cell i) = _
  rw [h]
@[simp] theorem view_c0 {xs : List D} {r : MS} : view (.lst xs :: r) (.cell 0) = .lst xs := rfl
@[simp] theorem view_c1 {m : MO} {xs : List D} {r : MS} : view (m :: .lst xs :: r) (.cell 1) = .lst xs := rfl
@[simp] theorem view_c2 {m m1 : MO} {xs : List D} {r : MS} : view (m :: m1 :: .lst xs :: r) (.cell 2) = .lst xs := rfl
@[simp] theorem view_i0 {C : Str} {ks : List Str} {xs : List D} {r : MS} : view (.ins C ks xs :: r) (.cell 0) = .ins C ks xs := rfl
@[simp] theorem isPure_int (i : Int) : isPure (.int i) = true := rfl
@[simp] theorem isPure_bl (i : Bool) : isPure (.bl i) = true := rfl
@[simp] theorem isPure_non : isPure .non = true := rfl
@[simp] theorem isPure_str (z : Str) : isPure (.str z) = true := rfl
@[simp] theorem isPure_lst (z : List D) : isPure (.lst z) = true := rfl
@[simp] theorem isPure_tup (z : List D) : isPure (.tup z) = true := rfl
@[simp] theorem isPure_scr (z : List Int) : isPure (.scr z) = true := rfl
@[simp] theorem isPure_ins (C : Str) (ks : List Str) (z : List D) : isPure (.ins C ks z) = true := rfl
@[simp] theorem isPure_exc (C : Str) (ks : List Str) (z : List D) : isPure (.exc C ks z) = true := rfl
@[simp] theorem isPure_dct (ks : List Key) (z : List D) : isPure (.dct ks z) = true := rfl
@[simp] theorem isPure_cell (i : Nat) : isPure (.cell i) = false := rfl
@[simp] theorem allPure_nil : allPure [] = true := rfl
@[simp] theorem allPure_cons (d : D) (ds : List D) : allPure (d :: ds) = (isPure d && allPure ds) := rfl
@[simp] theorem truD_bl (b : Bool) : truD (.bl b) = some b := rfl
@[simp] theorem truD_non : truD .non = some false := rfl
@[simp] theorem truD_int (i : Int) : truD (.int i) = some (i != 0) := rfl
@[simp] theorem truD_lst (xs : List D) : truD (.lst xs) = some (!xs.isEmpty) := rfl
@[simp] theorem truD_tup (xs : List D) : truD (.tup xs) = some (!xs.isEmpty) := rfl
@[simp] theorem itemsD_lst (xs : List D) : itemsD (.lst xs) = some xs := rfl
@[simp] theorem itemsD_tup (xs : List D) : itemsD (.tup xs) = some xs := rfl
@[simp] theorem intB_ap (C : Int → Int → Prop) (g : Int → Int → D) (i j : Int) : intB C g (.int i) (.int j) k = (C i j ∧ k (g i j)) := rfl
@[simp] theorem subB_ap (i j : Int) : subB (.int i) (.int j) k = (True ∧ k (.int (i - j))) := rfl
@[simp] theorem fdivB_ap (i j : Int) : fdivB (.int i) (.int j) k = (CDivW i j ∧ k (.int (i / j))) := rfl
@[simp] theorem modB_ap (i j : Int) : modB (.int i) (.int j) k = (0 < j ∧ k (.int (i % j))) := rfl
@[simp] theorem powB_ap (i j : Int) : powB (.int i) (.int j) k = (CPow i j ∧ k (.int (i ^ j.toNat))) := rfl
@[simp] theorem mulB_ap (i j : Int) : mulB (.int i) (.int j) k = (IntMulOk i j ∧ k (.int (i * j))) := rfl
@[simp] theorem mulB_lst (xs : List D) (j : Int) : mulB (.lst xs) (.int j) k = (-(2 ^ 63) ≤ j ∧ j < 2 ^ 63 ∧ xs.length * j.toNat ≤ sizeLine ∧ k (.lst (List.replicate j.toNat xs).flatten)) := rfl
@[simp] theorem ltB_ap (i j : Int) : ltB (.int i) (.int j) k = (True ∧ k (.bl (decide (i < j)))) := rfl
@[simp] theorem leB_ap (i j : Int) : leB (.int i) (.int j) k = (True ∧ k (.bl (decide (i ≤ j)))) := rfl
@[simp] theorem gtB_ap (i j : Int) : gtB (.int i) (.int j) k = (True ∧ k (.bl (decide (j < i)))) := rfl
@[simp] theorem geB_ap (i j : Int) : geB (.int i) (.int j) k = (True ∧ k (.bl (decide (j ≤ i)))) := rfl
@[simp] theorem addB_int (i j : Int) : addB (.int i) (.int j) k = k (.int (i + j)) := rfl
@[simp] theorem negB_ap (i : Int) : negB (.int i) k = k (.int (-i)) := rfl
@[simp] theorem isNB_ap (d : D) : isNB d .non k = k (.bl (isNon d)) := by unfold isNB; simp
@[simp] theorem notNB_ap (d : D) : notNB d .non k = k (.bl (!isNon d)) := by unfold notNB; simp
@[simp] theorem isNon_non : isNon .non = true := rfl
@[simp] theorem isNon_int (i : Int) : isNon (.int i) = false := rfl
@[simp] theorem idxB_lst (xs : List D) (i : Int) : idxB (.lst xs) (.int i) k = ∃ d, atI xs i = some d ∧ k d := rfl
@[simp] theorem idxB_tup (xs : List D) (i : Int) : idxB (.tup xs) (.int i) k = ∃ d, atI xs i = some d ∧ k d := rfl
@[simp] theorem lenB_lst (xs : List D) : lenB [.lst xs] k = k (.int xs.length) := rfl
@[simp] theorem lenB_tup (xs : List D) : lenB [.tup xs] k = k (.int xs.length) := rfl
@[simp] theorem intB1_int (i : Int) : intB1 [.int i] k = k (.int i) := rfl
@[simp] theorem intB1_bl (b : Bool) : intB1 [.bl b] k = k (.int (if b then 1 else 0)) := rfl
@[simp] theorem absB_ap (i : Int) : absB [.int i] k = k (.int (if i < 0 then -i else i)) := rfl
@[simp] theorem two_ap (g : Int → Int → Int) (i j : Int) : two g [.int i, .int j] k = k (.int (g i j)) := rfl
@[simp] theorem tupB_lst (xs : List D) : tupB [.lst xs] k = k (.tup xs) := rfl
@[simp] theorem tupB_tup (xs : List D) : tupB [.tup xs] k = k (.tup xs) := rfl
@[simp] theorem reprB_bl (b : Bool) : reprB [.bl b] k = k (.str (boolStr b)) := rfl
@[simp] theorem fldB_ap (f C : Str) (ks : List Str) (ds : List D) : fldB f (.ins C ks ds) k = ∃ d, lookD f ks ds = some d ∧ k d := rfl
@[simp] theorem adopt_bl (b : Bool) : adopt (.bl b) = .bl b := rfl
@[simp] theorem adopt_int (b : Int) : adopt (.int b) = .int b := rfl
@[simp] theorem adopt_non : adopt .non = .non := rfl
@[simp] theorem adopt_str (b : Str) : adopt (.str b) = .str b := rfl
@[simp] theorem adopt_lst (b : List D) : adopt (.lst b) = .lst b := rfl
@[simp] theorem adopt_own (b : List D) : adopt (.own b) = .lst b := rfl
@[simp] theorem adopt_tup (b : List D) : adopt (.tup b) = .tup b := rfl
@[simp] theorem adopt_ins (C : Str) (ks : List Str) (b : List D) : adopt (.ins C ks b) = .ins C ks b := rfl
theorem adopt_pure {d : D} (h : isPure d = true) : adopt d = d := by cases d <;> first | rfl | cases h
end
/-! calls -/
theorem handed_pure {M : MS} {mu : List Nat} : ∀ {as : List D} {n : Nat}, allPure as = true → handed M mu n as = as ∧ lentIx M mu n as = [] ∧ passed as = []
  | [], _, _ => ⟨rfl, rfl, rfl⟩
  | d :: ds, n, h => by
    rw [allPure_cons, Bool.and_eq_true] at h
    obtain ⟨e1, e2, e3⟩ := handed_pure (M := M) (mu := mu) (as := ds) (n := n + 1) h.2
    rw [handed, lentIx, e1, e2]
    rcases hand1_cases M (mu.contains n) d with ⟨a, b⟩ | ⟨i, xs, rfl, _⟩
    · rw [a, b]
      refine ⟨rfl, rfl, ?_⟩
      have h1 := h.1
      cases d <;> first | exact e3 | cases h1
    · cases h.1
theorem ren_pure {as : List D} (h : allPure as = true) : as.map (ren []) = as := by
  induction as with
  | nil => rfl
  | cons d ds ih =>
    rw [allPure_cons, Bool.and_eq_true] at h
    rw [List.map_cons, ih h.2]
    have h1 := h.1
    cases d <;> first | rfl | cases h1
theorem app_pure {sp : SpD} {mu : List Nat} {as : List D} {M : MS} {k : KD} {x : XD} (h : allPure as = true) (q : sp as [] (fun d _ => k d M) (fun e _ => x e M)) : app' sp mu as M k x := by
  obtain ⟨e1, e2, e3⟩ := handed_pure (M := M) (mu := mu) (n := 0) h
  refine ⟨by rw [e1, e3]; exact List.nodup_nil, (by rw [e2]; intro j m; cases m), ?_⟩
  rw [e1, e2, e3, ren_pure h]
  have ep : ∀ Mc, putb M [] Mc = M := fun Mc => by cases Mc <;> rfl
  simp only [true_or, true_and, ep]
  exact q
/-- one thing that may change is handed on, ahead of pure data -/
theorem app_one {sp : SpD} {i : Nat} {as : List D} {M : MS} {k : KD} {x : XD} {mo : MO} (hm : M[i]? = some mo) (h : allPure as = true) (q : sp (.cell 0 :: as) [mo] (fun d Mc => k d (putb M [i] Mc)) (fun e Mc => x e (putb M [i] Mc))) : app' sp [0] (.cell i :: as) M k x := by
  obtain ⟨e1, e2, e3⟩ := handed_pure (M := M) (mu := [0]) (n := 1) h
  have a1 : handed M [0] 0 (.cell i :: as) = .cell i :: as := by
    rw [handed, e1]
    rfl
  have a2 : lentIx M [0] 0 (.cell i :: as) = [] := by
    rw [lentIx, e2]
    rfl
  have a3 : passed (.cell i :: as) = [i] := by
    show i :: passed as = [i]
    rw [e3]
  refine ⟨by rw [a1, a3]; simp, (by rw [a2]; intro j m; cases m), ?_⟩
  rw [a1, a2, a3]
  have a4 : (D.cell i :: as).map (ren [i]) = .cell 0 :: as := by
    rw [List.map_cons]
    have e4 : as.map (ren [i]) = as := by
      clear q e1 e2 e3 a1 a2 a3
      induction as with
      | nil => rfl
      | cons d ds ih =>
        rw [allPure_cons, Bool.and_eq_true] at h
        rw [List.map_cons, ih h.2]
        have h1 := h.1
        cases d <;> first | rfl | cases h1
    rw [e4]
    show D.cell ([i].idxOf i) :: as = _
    simp
  have a5 : sel M [i] = [mo] := by
    show [M.getD i .dead] = [mo]
    simp [List.getD, hm]
  rw [a4, a5]
  simp only [true_or, true_and]
  exact q
/-- a list that may change is lent, ahead of pure data -/
theorem app_lend {sp : SpD} {i : Nat} {as : List D} {M : MS} {k : KD} {x : XD} {xs : List D} (hm : M[i]? = some (.lst xs)) (h : allPure as = true) (q : sp (.lst xs :: as) [] (fun d _ => noL d = true ∧ k d M) (fun e _ => noLs e.2.2 = true ∧ x e M)) (h0 : ∀ Mc : MS, True) : ∀ (hx : ∀ ds (M0 : MS) (k k' : KD) (x x' : XD), (∀ d Mc, k d Mc → k' d Mc) → (∀ e Mc, x e Mc → x' e Mc) → sp ds M0 k x → sp ds M0 k' x') (hM : ∀ ds k x, sp ds [] k x → sp ds [] (fun d Mc => Mc = [] ∧ k d Mc) (fun e Mc => Mc = [] ∧ x e Mc)), app' sp [] (.cell i :: as) M k x := by
  intro hx hM
  obtain ⟨e1, e2, e3⟩ := handed_pure (M := M) (mu := []) (n := 1) h
  have a1 : handed M [] 0 (.cell i :: as) = .lst xs :: as := by
    rw [handed, e1]
    show (match M[i]? with
      | some (.lst xs) => D.lst xs
      | _ => .cell i) :: as = _
    rw [hm]
  have a2 : lentIx M [] 0 (.cell i :: as) = [i] := by
    rw [lentIx, e2]
    show (match M[i]? with
      | some (.lst _) => [i]
      | _ => []) ++ [] = _
    rw [hm]
    rfl
  have a3 : passed (D.lst xs :: as) = [] := e3
  refine ⟨by rw [a1, a3]; exact List.nodup_nil, (by rw [a1, a3]; intro j _ m; cases m), ?_⟩
  rw [a1, a2, a3]
  have a4 : (D.lst xs :: as).map (ren []) = .lst xs :: as := by
    rw [List.map_cons, ren_pure h]
    rfl
  rw [a4]
  refine hx _ _ _ _ _ _ ?_ ?_ (hM _ _ _ q)
  · rintro d Mc ⟨rfl, q1, q2⟩
    exact ⟨.inr ⟨q1, rfl⟩, q2⟩
  · rintro d Mc ⟨rfl, q1, q2⟩
    exact ⟨.inr ⟨q1, rfl⟩, q2⟩
end Dl
set_option Elab.async false
set_option linter.all false
set_option maxRecDepth 100000
set_option maxHeartbeats 1000000
set_option autoImplicit false
/-! Dl20: a head's facts, told of what the module's classes and functions reach alone. -/
namespace Dl
open PySem PySem.Spec PyProof.Rows L2
/-- classes and functions among them -/
def fcOf (g : Addr → Option Obj) (as : List Addr) : List Addr := as.filter fun a => match g a with
  | some ⟨_, _, .func _, _⟩ => true
  | some ⟨_, _, .cls _, _⟩ => true
  | _ => false
/-- what a dict's values are -/
def valsOf (g : Addr → Option Obj) (a : Addr) : List Addr := match g a with
  | some ⟨_, _, .dict es _, _⟩ => es.toList.flatMap fun e => He.refV e.val
  | _ => []
/-- a class's dict -/
def nsOf (g : Addr → Option Obj) (a : Addr) : List Addr := match g a with
  | some ⟨_, _, .cls cd, _⟩ => [cd.ns]
  | _ => []
/-- a function's code, its defaults -/
def codeOfA (g : Addr → Option Obj) (a : Addr) : List Addr := match g a with
  | some ⟨_, _, .func fd, _⟩ => He.refV fd.code ++ He.refV fd.defaults
  | _ => []
def asW (g : Addr → Option Obj) : List Addr :=
  let l1 := fcOf g (valsOf g mainGlobals)
  let l2 := l1.flatMap (nsOf g)
  let l3 := fcOf g (l2.flatMap (valsOf g))
  mainGlobals :: l1 ++ l2 ++ l3 ++ l1.flatMap (codeOfA g) ++ l3.flatMap (codeOfA g)
section
variable {fa : List He.Fa} {fn : List He.DefD} {tf : List He.Defn} {ex : PySem.W.Frag → Bool}
def obsK (fa : List He.Fa) (fn : List He.DefD) (tf : List He.Defn) (ex : PySem.W.Frag → Bool) (g : Addr → Option Obj) (K : PySem.W.Frag) : He.AlX := (He.obsT fa fn [] K, ex K && He.tabsB g tf K)
def obsW (fa : List He.Fa) (fn : List He.DefD) (tf : List He.Defn) (ex : PySem.W.Frag → Bool) (g : Addr → Option Obj) : He.AlX := obsK fa fn tf ex g (He.frT g (asW g))
theorem saysW_of {w : World} {h : Heap} (e : obsW fa fn tf ex h.get? = He.valX fn [] w) : He.SaysX fa fn [] tf ex w h (He.frT h.get? (asW h.get?)) := by
  have e1 : He.obsT fa fn [] (He.frT h.get? (asW h.get?)) = He.valT fn [] w := congrArg (fun z : He.AlX => z.1) e
  have e2 : (ex (He.frT h.get? (asW h.get?)) && He.tabsB h.get? tf (He.frT h.get? (asW h.get?))) = true := congrArg (fun z : He.AlX => z.2) e
  obtain ⟨h1, h2⟩ := He.ba e2
  have key : ∀ p ∈ tf, PySem.W.codeHdIn (He.frT h.get? (asW h.get?)) (He.cT (He.frT h.get? (asW h.get?)) p).1 (He.cT (He.frT h.get? (asW h.get?)) p).2 = true ∧ ∃ o, h.get? (He.cT (He.frT h.get? (asW h.get?)) p).2 = some o ∧ He.emptyTab o = true := fun p hp => by
    obtain ⟨h3, h4⟩ := He.ba (List.all_eq_true.mp h2 p hp)
    refine ⟨h3, ?_⟩
    cases q : h.get? (He.cT (He.frT h.get? (asW h.get?)) p).2 with
    | none =>
      rw [q] at h4
      cases h4
    | some o =>
      rw [q] at h4
      exact ⟨o, rfl, h4⟩
  exact ⟨e1, h1, fun p hp => (key p hp).1, fun p hp => by
    obtain ⟨_, o, q, z⟩ := key p hp
    exact He.frT_none q z, fun p hp => by
    obtain ⟨_, o, q, z⟩ := key p hp
    rw [q, He.emptyTab_eq z]⟩
end
def hookW (fa : List He.Fa) (fn : List He.DefD) (tf : List He.Defn) (ex : PySem.W.Frag → Bool) : PySem.W.Hook where
  α := He.AlX
  obs := fun s => obsW fa fn tf ex s.heap.get?
  val := fun w => He.valX fn [] w
  says := fun w h => ∃ K : PySem.W.Frag, K.In h ∧ He.SaysX fa fn [] tf ex w h K
  of := fun _ _ e => ⟨_, He.frT_in, saysW_of e⟩
  keeps := fun _ _ _ ⟨K, hK, c⟩ k => ⟨K, PySem.W.Frag.In.keeps hK k, ⟨c.t, c.more, c.hd, c.out, fun p hp => k _ _ (c.empty p hp)⟩⟩
theorem obsW_eq {fa : List He.Fa} {fn : List He.DefD} {tf : List He.Defn} {ex : PySem.W.Frag → Bool} {g : Addr → Option Obj} {s : Shared} (h : ∀ a, g a = s.heap.get? a) : obsW fa fn tf ex g = (hookW fa fn tf ex).obs s := by
  have e : g = s.heap.get? := funext h
  rw [e] <;> rfl
end Dl
set_option Elab.async false
set_option linter.all false
set_option maxRecDepth 100000
set_option maxHeartbeats 1000000
set_option autoImplicit false
/-! Dl21: lists of integers as data, == of them. -/
namespace Dl
open PySem PySem.Spec PyProof.Rows L2
def dI (ns : List Int) : List D := ns.map .int
@[simp] theorem dI_nil : dI [] = [] := rfl
@[simp] theorem dI_cons (n : Int) (ns : List Int) : dI (n :: ns) = .int n :: dI ns := rfl
@[simp] theorem dI_len (ns : List Int) : (dI ns).length = ns.length := by simp [dI]
theorem dI_app (a b : List Int) : dI (a ++ b) = dI a ++ dI b := by simp [dI]
@[simp] theorem dI_pure (ns : List Int) : allPure (dI ns) = true := by
  induction ns with
  | nil => rfl
  | cons n ns ih => simp [ih]
theorem dI_get (ns : List Int) (i : Nat) (h : i < ns.length) : (dI ns)[i]? = some (.int (ns.getD i 0)) := by
  simp [dI, List.getElem?_map, List.getElem?_eq_getElem h, List.getD]
theorem dI_getD (ns : List Int) (i : Nat) (h : i < ns.length) : (dI ns).getD i .non = .int (ns.getD i 0) := by
  simp [List.getD, dI_get ns i h]
theorem dI_inj {a b : List Int} (h : dI a = dI b) : a = b := by
  induction a generalizing b with
  | nil => cases b with
    | nil => rfl
    | cons y ys => simp [dI] at h
  | cons x xs ih => cases b with
    | nil => simp [dI] at h
    | cons y ys =>
      simp only [dI_cons, List.cons.injEq, D.int.injEq] at h
      rw [h.1, ih h.2]
def isI : D → Bool
  | .int _ => true
  | _ => false
def toInts : List D → Option (List Int)
  | [] => some []
  | .int i :: r => (toInts r).map (i :: ·)
  | _ => none
/-- the integers of a list, of a tuple -/
def intsOf (d : D) : Option (List Int) := (itemsD d).bind toInts
@[simp] theorem toInts_dI (ns : List Int) : toInts (dI ns) = some ns := by
  induction ns with
  | nil => rfl
  | cons n ns ih => simp [toInts, ih]
theorem toInts_eq : ∀ {ds : List D} {ns : List Int}, toInts ds = some ns → ds = dI ns
  | [], _, h => by cases h; rfl
  | d :: ds, ns, h => by
    cases d with
    | int i =>
      cases e : toInts ds with
      | none => simp [toInts, e] at h
      | some ms =>
        simp [toInts, e] at h
        subst h
        rw [dI_cons, toInts_eq e]
    | _ => cases h
theorem toInts_all : ∀ {ds : List D}, (ds.map isI).all id = (toInts ds).isSome
  | [] => rfl
  | d :: ds => by
    have := toInts_all (ds := ds)
    cases d <;> simp_all [toInts, isI]
@[simp] theorem toPys_dI : ∀ ns : List Int, toPys (dI ns) = some (ns.map PyData.int)
  | [] => rfl
  | n :: ns => by
    show (match toPy (.int n), toPys (dI ns) with
      | some a, some as => some (a :: as)
      | _, _ => none) = _
    rw [toPys_dI ns]
    rfl
@[simp] theorem shaped_tup_ints (ns : List Int) : SeqAt.shaped (.tuple (ns.map PyData.int)) = true := by
  simp [SeqAt.shaped, PyData.canLay0, PyData.depth, PySem.W.ke_canLayAll0, PySem.W.ke_depthAll]
@[simp] theorem shaped_int (i : Int) : SeqAt.shaped (.int i) = true := by simp [SeqAt.shaped, PyData.canLay0, PyData.depth]
@[simp] theorem shaped_bool (i : Bool) : SeqAt.shaped (.bool i) = true := by simp [SeqAt.shaped, PyData.canLay0, PyData.depth]
section
variable [Tb] {M : MS} {k : D → Prop}
@[simp] theorem eqB_int (i j : Int) : eqB (.int i) (.int j) k = k (.bl (decide (i = j))) := by
  have e : PyData.eqv (.int i) (.int j) = decide (i = j) := by simp [PyData.eqv]; rfl
  simp [eqB, toPy, e]
@[simp] theorem neB_int (i j : Int) : neB (.int i) (.int j) k = k (.bl (decide (i ≠ j))) := by
  have e : PyData.eqv (.int i) (.int j) = decide (i = j) := by simp [PyData.eqv]; rfl
  simp [neB, toPy, e]
@[simp] theorem eqB_bl (i j : Bool) : eqB (.bl i) (.bl j) k = k (.bl (decide (i = j))) := by
  have e : PyData.eqv (.bool i) (.bool j) = decide (i = j) := by cases i <;> cases j <;> rfl
  simp [eqB, toPy, e]
@[simp] theorem neB_bl (i j : Bool) : neB (.bl i) (.bl j) k = k (.bl (decide (i ≠ j))) := by
  have e : PyData.eqv (.bool i) (.bool j) = decide (i = j) := by cases i <;> cases j <;> rfl
  simp [neB, toPy, e]
@[simp] theorem eqB_lst (a b : List Int) : eqB (.lst (dI a)) (.lst (dI b)) k = k (.bl (decide (a = b))) := by
  have e : PyData.eqv (.list (a.map .int)) (.list (b.map .int)) = decide (a = b) := by rw [PyData.eqv]; exact PySem.W.ked_eqvAll a b
  simp [eqB, toPy, e, PySem.W.ke_shaped_ints]
@[simp] theorem neB_lst (a b : List Int) : neB (.lst (dI a)) (.lst (dI b)) k = k (.bl (decide (a ≠ b))) := by
  have e : PyData.eqv (.list (a.map .int)) (.list (b.map .int)) = decide (a = b) := by rw [PyData.eqv]; exact PySem.W.ked_eqvAll a b
  simp [neB, toPy, e, PySem.W.ke_shaped_ints]
@[simp] theorem eqB_tup (a b : List Int) : eqB (.tup (dI a)) (.tup (dI b)) k = k (.bl (decide (a = b))) := by
  have e : PyData.eqv (.tuple (a.map .int)) (.tuple (b.map .int)) = decide (a = b) := by rw [PyData.eqv]; exact PySem.W.ked_eqvAll a b
  simp [eqB, toPy, e]
@[simp] theorem neB_tup (a b : List Int) : neB (.tup (dI a)) (.tup (dI b)) k = k (.bl (decide (a ≠ b))) := by
  have e : PyData.eqv (.tuple (a.map .int)) (.tuple (b.map .int)) = decide (a = b) := by rw [PyData.eqv]; exact PySem.W.ked_eqvAll a b
  simp [neB, toPy, e]
@[simp] theorem eqB_nil (a : List Int) : eqB (.lst (dI a)) (.lst []) k = k (.bl (decide (a = []))) := eqB_lst a []
@[simp] theorem neB_nil (a : List Int) : neB (.lst (dI a)) (.lst []) k = k (.bl (decide (a ≠ []))) := neB_lst a []
theorem sumX_lst (ns : List Int) : k (.int ns.sum) → sumXB [.lst (dI ns)] k := fun h => ⟨_, ns, rfl, rfl, h⟩
theorem sumX_tup (ns : List Int) : k (.int ns.sum) → sumXB [.tup (dI ns)] k := fun h => ⟨_, ns, rfl, rfl, h⟩
theorem items_two {d : D} {xs : List D} (h : itemsD d = some xs) : d = .lst xs ∨ d = .tup xs := by
  cases d <;> simp_all [itemsD]
theorem okG_ints {d : D} {ns : List Int} (h : intsOf d = some ns) : itemsD d = some (dI ns) := by
  unfold intsOf at h
  cases e : itemsD d with
  | none => rw [e] at h; cases h
  | some xs =>
    rw [e] at h
    rw [toInts_eq h]
end
end Dl
set_option Elab.async false
set_option linter.all false
set_option autoImplicit false
/-! K72s: what each def promises, by data. -/
namespace K72
open PySem PySem.Spec PyProof.Rows L2 Dl
def owns : List Str := ["Round", "Row", "Rule", "Some"]
def excs : List Str := ["BadRound", "TooMany", "BadNumber", "BadRow", "BadRule", "BadSaying"]
def hit : List (Str × Bool) := excs.map fun C => (C, true)
def isa : Tg → Tg → Bool := fun t c => decide (t = c) || (decide (t = .b "bool") && decide (c = .b "int"))
/-- a value that may be asked about -/
def okV (d : D) : Bool := isPure d && okT owns excs d && (tag d).isSome
/-- what may be asked for its gains -/
def okG (d : D) : Prop := okV d = true ∧ (∀ s, d ≠ .scr s) ∧ ∀ xs, itemsD d = some xs → xs.length ≤ 1000 ∧ ∀ y ∈ xs, okV y = true
def within (v lo hi : D) : Bool := match v with
  | .int i => (match lo with
    | .int a => decide (a ≤ i)
    | _ => true) && (match hi with
    | .int b => decide (i ≤ b)
    | _ => true)
  | _ => false
def bnd : D → Bool
  | .non => true
  | .int _ => true
  | _ => false
def bnds : D → D → Bool
  | .non, .non => false
  | .int a, .int b => decide (a ≤ b)
  | _, _ => true
/-! data -/
def scan (s : Int) : List Int → List Int
  | [] => []
  | n :: r => (s + n) :: scan (s + n) r
def heights (ns : List Int) : List Int := 0 :: scan 0 ns
def rdK : List Str := ["gains", "days", "total"]
def rdX (ns : List Int) : List D := [.tup (dI ns), .int ns.length, .int ns.sum]
def rwK : List Str := ["gains", "heights", "days", "total"]
def rwX (ns : List Int) : List D := [.tup (dI ns), .tup (dI (heights ns)), .int ns.length, .int ns.sum]
def ruK : List Str := ["length", "low", "high"]
def roundD (ns : List Int) : D := .ins "Round" rdK (rdX ns)
def rowD (ns : List Int) : D := .ins "Row" rwK (rwX ns)
def ruleD (n : Int) (lo hi : D) : D := .ins "Rule" ruK [.int n, lo, hi]
def someD (n : Int) (lo hi : D) : D := .ins "Some" ruK [.int n, lo, hi]
/-- of a day, of 48 days at most -/
def Ln (ns : List Int) : Prop := 0 < ns.length ∧ ns.length ≤ 48
/-- small gains -/
def Sm (ns : List Int) : Prop := Ln ns ∧ ∀ g ∈ ns, g.natAbs ≤ 2 ^ 30
def height (ns : List Int) (p : Int) : Int := p / ns.length * ns.sum + (ns.take (p % ns.length).toNat).sum
/-- the sum over l days from the day b on -/
def S (ns : List Int) (b l : Int) : Int := height ns (b + l) - height ns b
def sumsR (ns : List Int) (l : Int) : List Int := (List.range ns.length).map fun b : Nat => S ns b l
def word (ss : List Int) : Str := if ss.all (fun s => decide (0 < s)) then "gains" else if ss.all (fun s => decide (s < 0)) then "loses" else if ss.all (fun s => decide (s = 0)) then "flat" else "mixed"
/-- m days from the day b on -/
def rowL (ns : List Int) (b : Int) (m : Nat) : List Int := (List.range m).map fun i : Nat => ns.getD ((b + i) % ns.length).toNat 0
/-- a row keeps a rule -/
def kept (ms : List Int) (n : Int) (lo hi : D) : Bool := (List.range ((ms.length : Int) - n + 1).toNat).all fun i : Nat => within (.int ((heights ms).getD (i + n.toNat) 0 - (heights ms).getD i 0)) lo hi
/-- the mill, after b turns at most -/
def Ml (b : Nat) (M : MS) : Prop := ∃ (cs : List Int) (p : Nat) (r : Int), M = [.lst [.lst (dI cs), .int p, .int r]] ∧ p ≤ b
/-! promises -/
def sp__law_mill : SpD := fun ds M k _ => ∃ s, ds = [.scr s] ∧ ∀ cs, k (.own [.lst (dI cs), .int 0, .int 0]) M
def sp__law_grind : SpD := fun ds M k _ => ∃ (b : Nat) (n : Int), ds = [.cell 0, .int n] ∧ Ml b M ∧ b ≤ 10000 ∧ 0 < n ∧ n < 2 ^ 80 ∧ ∀ r M', 0 ≤ r → r < n → Ml (b + 1) M' → k (.int r) M'
def sp__law_gains : SpD := fun ds M k _ => ∃ b : Nat, ds = [.cell 0] ∧ Ml b M ∧ b ≤ 9000 ∧ ∀ ns M', Sm ns → Ml (b + 60) M' → k (.own (dI ns)) M'
def sp_is_integer : SpD := fun ds M k _ => ∃ d, ds = [d] ∧ okV d = true ∧ k (.bl (isI d)) M
def sp_are_integers : SpD := fun ds M k _ => ∃ d, ds = [d] ∧ okG d ∧ k (.bl (intsOf d).isSome) M
def sp_Round_X__init_X_ : SpD := fun ds M k x => ∃ d, ds = [.cell 0, d] ∧ M = [.ins "Round" [] []] ∧ okG d ∧
  ((intsOf d = none ∨ intsOf d = some []) → x ("BadRound", ["part"], [.str "gains"]) M) ∧
  (∀ ns, intsOf d = some ns → 48 < ns.length → x ("TooMany", ["most", "what"], [.int 48, .str "days"]) M) ∧
  ∀ ns, intsOf d = some ns → Ln ns → k .non [.ins "Round" rdK (rdX ns)]
def sp_Round_X__eq_X_ : SpD := fun ds M k _ => ∃ ns o, ds = [roundD ns, o] ∧ Ln ns ∧ okV o = true ∧
  ((∃ ms, o = roundD ms ∧ Ln ms ∧ k (.bl (decide (ns = ms))) M) ∨ (tag o ≠ some (.c "Round") ∧ k (.bl false) M))
def sp_Round_X__len_X_ : SpD := fun ds M k _ => ∃ ns, ds = [roundD ns] ∧ k (.int ns.length) M
def sp_is_within : SpD := fun ds M k _ => ∃ v lo hi, ds = [v, lo, hi] ∧ okV v = true ∧ bnd lo = true ∧ bnd hi = true ∧ k (.bl (within v lo hi)) M
def sp_need_number : SpD := fun ds M k x => ∃ v p lo hi, ds = [v, .str p, lo, hi] ∧ okV v = true ∧ bnd lo = true ∧ bnd hi = true ∧ (within v lo hi = true → k .non M) ∧ (within v lo hi = false → x ("BadNumber", ["part"], [.str p]) M)
def sp_word_of : SpD := fun ds M k _ => ∃ ss, ds = [.lst (dI ss)] ∧ 0 < ss.length ∧ k (.str (word ss)) M
def sp_height_in : SpD := fun ds M k _ => ∃ ns p, ds = [.tup (dI ns), .int p] ∧ Sm ns ∧ k (.int (height ns p)) M
def sp_sums_in_rounds : SpD := fun ds M k _ => ∃ (ns : List Int) (l : Int), ds = [.tup (dI ns), .int l] ∧ Sm ns ∧ k (.lst (dI (sumsR ns l))) M
def sp_Round_sort_of : SpD := fun ds M k x => ∃ ns v, ds = [roundD ns, v] ∧ Sm ns ∧ okV v = true ∧ (∀ l, v = .int l → 1 ≤ l → k (.str (word (sumsR ns l))) M) ∧ (within v (.int 1) .non = false → x ("BadNumber", ["part"], [.str "length"]) M)
def sp__law_pick : SpD := fun ds M k _ => ∃ (b : Nat) (xs : List D), ds = [.cell 0, .lst xs] ∧ Ml b M ∧ b ≤ 10000 ∧ 0 < xs.length ∧ xs.length ≤ 1000 ∧ allPure xs = true ∧ ∀ d M', d ∈ xs → Ml (b + 1) M' → k d M'
def sp__law_sum : SpD := fun ds M k _ => ∃ (ns : List Int) (b l : Int), ds = [.lst (dI ns), .int b, .int l] ∧ Sm ns ∧ k (.int (S ns b l)) M
def sp_Round_sum_of : SpD := fun ds M k x => ∃ ns v u, ds = [roundD ns, v, u] ∧ Sm ns ∧ okV v = true ∧ okV u = true ∧ (isI v = false → x ("BadNumber", ["part"], [.str "begin"]) M) ∧
  (isI v = true → within u (.int 1) .non = false → x ("BadNumber", ["part"], [.str "length"]) M) ∧ ∀ b l, v = .int b → u = .int l → 1 ≤ l → k (.int (S ns b l)) M
def sp__law_word : SpD := fun ds M k _ => ∃ ss, ds = [.lst (dI ss)] ∧ ss.length ≤ 48 ∧ k (.str (word ss)) M
def sp__law_sums_right : SpD := fun ds M k _ => ∃ (b : Nat) (ns : List Int), ds = [.cell 0, roundD ns, .lst (dI ns)] ∧ Sm ns ∧ Ml b M ∧ b ≤ 9000 ∧ ∀ M', Ml (b + 20) M' → k (.bl true) M'
def sp_Round_turned : SpD := fun ds M k x => ∃ ns v, ds = [roundD ns, v] ∧ Ln ns ∧ okV v = true ∧ (isI v = false → x ("BadNumber", ["part"], [.str "by"]) M) ∧ ∀ b, v = .int b → k (roundD (rowL ns b ns.length)) M
def sp_heights_of : SpD := fun ds M k _ => ∃ ns, ds = [.lst (dI ns)] ∧ ns.length ≤ 48 ∧ k (.tup (dI (heights ns))) M
def sp_Row_X__init_X_ : SpD := fun ds M k _ => ∃ ns, ds = [.cell 0, .lst (dI ns)] ∧ M = [.ins "Row" [] []] ∧ Ln ns ∧ k .non [.ins "Row" rwK (rwX ns)]
def sp_Round_row : SpD := fun ds M k x => ∃ ns v u, ds = [roundD ns, v, u] ∧ Ln ns ∧ okV v = true ∧ okV u = true ∧ (isI v = false → x ("BadNumber", ["part"], [.str "begin"]) M) ∧
  (isI v = true → within u (.int 1) (.int 48) = false → x ("BadNumber", ["part"], [.str "days"]) M) ∧ ∀ b m, v = .int b → u = .int m → 1 ≤ m → m ≤ 48 → k (rowD (rowL ns b m.toNat)) M
def sp_Round_twice : SpD := fun ds M k x => ∃ ns, ds = [roundD ns] ∧ Ln ns ∧ (2 * ns.length ≤ 48 → k (roundD (ns ++ ns)) M) ∧ (48 < 2 * ns.length → x ("TooMany", ["most", "what"], [.int 48, .str "days"]) M)
def sp__law_other_right : SpD := fun ds M k _ => ∃ (b : Nat) (ns : List Int), ds = [.cell 0, roundD ns, .lst (dI ns)] ∧ Sm ns ∧ Ml b M ∧ b ≤ 9000 ∧ ∀ M', Ml (b + 20) M' → k (.bl true) M'
def sp_need_bound : SpD := fun ds M k _ => ∃ v p, ds = [v, .str p] ∧ bnd v = true ∧ k .non M
def sp_are_bounds : SpD := fun ds M k _ => ∃ lo hi, ds = [lo, hi] ∧ bnd lo = true ∧ bnd hi = true ∧ k (.bl (bnds lo hi)) M
def sp_Rule_X__init_X_ : SpD := fun ds M k _ => ∃ l lo hi, ds = [.cell 0, .int l, lo, hi] ∧ M = [.ins "Rule" [] []] ∧ 1 ≤ l ∧ l ≤ 48 ∧ bnd lo = true ∧ bnd hi = true ∧ bnds lo hi = true ∧ k .non [.ins "Rule" ruK [.int l, lo, hi]]
def sp_need_row : SpD := fun ds M k x => ∃ r p, ds = [r, .str p] ∧ okV r = true ∧ (tag r = some (.c "Row") → k .non M) ∧ (tag r ≠ some (.c "Row") → x ("BadRow", ["part"], [.str p]) M)
def sp_Rule_first_broken : SpD := fun ds M k x => ∃ n lo hi r, ds = [ruleD n lo hi, r] ∧ 1 ≤ n ∧ n ≤ 48 ∧ bnd lo = true ∧ bnd hi = true ∧ okV r = true ∧
  ((∃ ms, r = rowD ms ∧ Ln ms ∧ (kept ms n lo hi = true → k .non M) ∧ (kept ms n lo hi = false → ∀ i, k (.int i) M)) ∨ (tag r ≠ some (.c "Row") ∧ x ("BadRow", ["part"], [.str "row"]) M))
def sp_Rule_keeps : SpD := fun ds M k x => ∃ n lo hi r, ds = [ruleD n lo hi, r] ∧ 1 ≤ n ∧ n ≤ 48 ∧ bnd lo = true ∧ bnd hi = true ∧ okV r = true ∧
  ((∃ ms, r = rowD ms ∧ Ln ms ∧ k (.bl (kept ms n lo hi)) M) ∨ (tag r ≠ some (.c "Row") ∧ x ("BadRow", ["part"], [.str "row"]) M))
def sp_Round_keeps : SpD := fun ds M k x => ∃ ns r, ds = [roundD ns, r] ∧ Sm ns ∧ okV r = true ∧
  ((∃ n lo hi, r = ruleD n lo hi ∧ bnd lo = true ∧ bnd hi = true ∧ k (.bl ((sumsR ns n).all fun s => within (.int s) lo hi)) M) ∨ (tag r ≠ some (.c "Rule") ∧ x ("BadRule", ["part"], [.str "rule"]) M))
def sp__law_kept_right : SpD := fun ds M k _ => ∃ (b : Nat) (ns : List Int), ds = [.cell 0, roundD ns, .lst (dI ns)] ∧ Sm ns ∧ Ml b M ∧ b ≤ 9000 ∧ ∀ M', Ml (b + 30) M' → k (.bl true) M'
def sp_need_bounds : SpD := fun ds M k _ => ∃ lo hi, ds = [lo, hi] ∧ bnd lo = true ∧ bnd hi = true ∧ bnds lo hi = true ∧ k .non M
def sp_Some_X__init_X_ : SpD := fun ds M k _ => ∃ l lo hi, ds = [.cell 0, .int l, lo, hi] ∧ M = [.ins "Some" [] []] ∧ 1 ≤ l ∧ l ≤ 48 ∧ bnd lo = true ∧ bnd hi = true ∧ bnds lo hi = true ∧ k .non [.ins "Some" ruK [.int l, lo, hi]]
def sp__law_refused_right : SpD := fun ds M k _ => ∃ (b : Nat) (ns : List Int), ds = [.cell 0, roundD ns, .lst (dI ns)] ∧ Sm ns ∧ Ml b M ∧ b ≤ 9000 ∧ ∀ M', Ml (b + 20) M' → k (.bl true) M'
def sp_law : SpD := fun ds M k _ => ∃ s, ds = [.scr s] ∧ M = [] ∧ k (.bl true) M
end K72
set_option Elab.async false
set_option linter.all false
set_option maxRecDepth 100000
set_option autoImplicit false
/-! K72t: what each def does to data (printed by gen.py). -/
namespace K72
open PySem PySem.Spec PyProof.Rows L2 Dl
variable [Tb]
def t__law_mill : DS := (sCons (sRet (dLstC (dCons (dLc false (iSeq (dSl (dVar 0) dNo (dPart (dC (.int 57))))) (gSet 1) dYes (dCB intB1 (dCons (dVar 1) dNil)) [1]) (dCons (dC (.int 0)) (dCons (dC (.int 0)) dNil)))))
  sNil)
def t__law_grind : DS := (sCons (sIf (dTst (dBin gtB (dBin idxB (dVar 0) (dC (.int 2))) (dC (.int 0)))) (sCons (sSet 2 (dBin idxB (dVar 0) (dC (.int 2))))
  (sCons (sAsg (dBin fdivB (dCB intB1 (dCons (dVar 2) dNil)) (dVar 1)) (gIx (dVar 0) (dC (.int 2))))
  (sCons (sRet (dBin modB (dCB intB1 (dCons (dVar 2) dNil)) (dVar 1)))
  sNil))) sNil)
  (sCons (sPar 3 4 (dCons (dBin idxB (dVar 0) (dC (.int 0))) (dCons (dBin idxB (dVar 0) (dC (.int 1))) dNil)))
  (sCons (sAsg (dBin addB (dVar 4) (dC (.int 1))) (gIx (dVar 0) (dC (.int 1))))
  (sCons (sSet 5 (dBin addB (dBin mulB (dC (.int 72031)) (dVar 4)) (dC (.int 5051))))
  (sCons (sIf (dTst (dBin neB (dVar 3) (dLst dNil))) (sCons (sSet 5 (dBin idxB (dVar 3) (dBin modB (dCB intB1 (dCons (dVar 4) dNil)) (dCB lenB (dCons (dVar 3) dNil)))))
  sNil) sNil)
  (sCons (sIf (dAnd (dTst (dBin ltB (dVar 4) (dCB lenB (dCons (dVar 3) dNil)))) (dTst (dBin geB (dCB absB (dCons (dVar 5) dNil)) (dBin powB (dC (.int 10)) (dC (.int 18)))))) (sCons (sSet 2 (dBin addB (dBin mulB (dC (.int 2)) (dBin subB (dCB absB (dCons (dVar 5) dNil)) (dBin powB (dC (.int 10)) (dC (.int 18))))) (dCB intB1 (dCons (dBin ltB (dVar 5) (dC (.int 0))) dNil))))
  (sCons (sAsg (dBin fdivB (dCB intB1 (dCons (dVar 2) dNil)) (dVar 1)) (gIx (dVar 0) (dC (.int 2))))
  (sCons (sRet (dBin modB (dCB intB1 (dCons (dVar 2) dNil)) (dVar 1)))
  sNil))) sNil)
  (sCons (sSet 6 (dBin modB (dCB intB1 (dCons (dBin powB (dBin addB (dBin addB (dBin modB (dCB intB1 (dCons (dVar 5) dNil)) (dC (.int 2147483549))) (dBin mulB (dC (.int 47059)) (dVar 4))) (dC (.int 5051))) (dC (.int 5))) dNil)) (dC (.int 2147483629))))
  (sCons (sSet 6 (dBin modB (dCB intB1 (dCons (dBin powB (dBin addB (dBin addB (dBin mulB (dVar 6) (dBin addB (dBin mulB (dC (.int 2)) (dVar 4)) (dC (.int 3079)))) (dBin mulB (dBin mulB (dC (.int 58061)) (dVar 4)) (dVar 4))) (dC (.int 7069))) (dC (.int 3))) dNil)) (dC (.int 2147483563))))
  (sCons (sRet (dBin modB (dCB intB1 (dCons (dBin fdivB (dVar 6) (dC (.int 64))) dNil)) (dVar 1)))
  sNil)))))))))
def t__law_gains : DS := (sCons (sAsg (dTup (dCons (dBin addB (dC (.int 1)) (dCall adF sp__law_grind [0] 2 0 [0, 1] [] (dCons (dVar 0) (dCons (dC (.int 9)) dNil)) dNil)) (dCons (dCall adF sp__law_grind [0] 2 0 [0, 1] [] (dCons (dVar 0) (dCons (dC (.int 5)) dNil)) dNil) dNil))) (gUn 2 (gAnd (gSet 1) (gAnd (gSet 2) gNo))))
  (sCons (sIf (dTst (dBin eqB (dCall adF sp__law_grind [0] 2 0 [0, 1] [] (dCons (dVar 0) (dCons (dC (.int 12)) dNil)) dNil) (dC (.int 0)))) (sCons (sSet 1 (dC (.int 48)))
  sNil) sNil)
  (sCons (sSet 3 (dLc true (iR1 (dCons (dVar 1) dNil)) (gSet 5) dYes (dBin mulB (dBin subB (dCall adF sp__law_grind [0] 2 0 [0, 1] [] (dCons (dVar 0) (dCons (dC (.int 9)) dNil)) dNil) (dC (.int 4))) (dIf (dTst (dBin eqB (dVar 2) (dC (.int 1)))) (dC (.int 99991)) (dC (.int 1)))) [5]))
  (sCons (sIf (dTst (dBin gtB (dVar 2) (dC (.int 2)))) (sCons (sSet 4 (dCall adF sp__law_grind [0] 2 0 [0, 1] [] (dCons (dVar 0) (dCons (dVar 1) dNil)) dNil))
  (sCons (sAsg (dBin subB (dBin idxB (dVar 3) (dVar 4)) (dCB sumXB (dCons (dVar 3) dNil))) (gIx (dVar 3) (dVar 4)))
  sNil)) sNil)
  (sCons (sRet (dVar 3))
  sNil)))))
def t_is_integer : DS := (sCons (sRet (dAndV (dIs owns excs [.b "int"] (dVar 0)) (dNotV (dIs owns excs [.b "bool"] (dVar 0)))))
  sNil)
def t_are_integers : DS := (sCons (sRet (dAndV (dIs owns excs [.b "list", .b "tuple"] (dVar 0)) (dCB allB (dCons (dLc false (iSeq (dVar 0)) (gSet 1) dYes (dCall adF sp_is_integer [] 1 0 [0] [] (dCons (dVar 1) dNil) dNil) [1]) dNil))))
  sNil)
def t_Round_X__init_X_ : DS := (sCons (sIf (dOr (dNot (dTru (dCall adF sp_are_integers [] 1 0 [0] [] (dCons (dVar 1) dNil) dNil))) (dTst (dBin eqB (dCB lenB (dCons (dVar 1) dNil)) (dC (.int 0))))) (sCons (sRai1 "BadRound" "part" (dCons (dC (.str "gains")) dNil))
  sNil) sNil)
  (sCons (sIf (dTst (dBin gtB (dCB lenB (dCons (dVar 1) dNil)) (dC (.int 48)))) (sCons (sRai2 "TooMany" "what" "most" (dCons (dC (.str "days")) (dCons (dC (.int 48)) dNil)))
  sNil) sNil)
  (sCons (sFldP "Round" "gains" (dVar 0) (dCB tupB (dCons (dVar 1) dNil)))
  (sCons (sFldP "Round" "days" (dVar 0) (dCB lenB (dCons (dUn (fldB "gains") (dVar 0)) dNil)))
  (sCons (sFldP "Round" "total" (dVar 0) (dCB sumXB (dCons (dUn (fldB "gains") (dVar 0)) dNil)))
  sNil)))))
def t_Round_X__eq_X_ : DS := (sCons (sRet (dAndV (dIs owns excs [.c "Round"] (dVar 1)) (dBin eqB (dUn (fldB "gains") (dVar 0)) (dUn (fldB "gains") (dVar 1)))))
  sNil)
def t_Round_X__len_X_ : DS := (sCons (sRet (dCB lenB (dCons (dUn (fldB "gains") (dVar 0)) dNil)))
  sNil)
def t_is_within : DS := (sCons (sIf (dNot (dTru (dCall adF sp_is_integer [] 1 0 [0] [] (dCons (dVar 0) dNil) dNil))) (sCons (sRet (dC (.bl false)))
  sNil) sNil)
  (sCons (sRet (dAndV (dOrV (dBin isNB (dVar 1) (dC .non)) (dBin leB (dVar 1) (dVar 0))) (dOrV (dBin isNB (dVar 2) (dC .non)) (dBin leB (dVar 0) (dVar 2)))))
  sNil))
def t_need_number : DS := (sCons (sIf (dNot (dTru (dCall adF sp_is_within [] 3 0 [0, 1, 2] [] (dCons (dVar 0) (dCons (dVar 2) (dCons (dVar 3) dNil))) dNil))) (sCons (sRai1 "BadNumber" "part" (dCons (dVar 1) dNil))
  sNil) sNil)
  sNil)
def t_word_of : DS := (sCons (sIf (dTst (dBin gtB (dCB minB (dCons (dVar 0) dNil)) (dC (.int 0)))) (sCons (sRet (dC (.str "gains")))
  sNil) sNil)
  (sCons (sIf (dTst (dBin ltB (dCB maxB (dCons (dVar 0) dNil)) (dC (.int 0)))) (sCons (sRet (dC (.str "loses")))
  sNil) sNil)
  (sCons (sRet (dIf (dAnd (dTst (dBin eqB (dCB minB (dCons (dVar 0) dNil)) (dC (.int 0)))) (dTst (dBin eqB (dCB maxB (dCons (dVar 0) dNil)) (dC (.int 0))))) (dC (.str "flat")) (dC (.str "mixed"))))
  sNil)))
def t_height_in : DS := (sCons (sRet (dBin addB (dBin mulB (dBin fdivB (dVar 1) (dCB lenB (dCons (dVar 0) dNil))) (dCB sumXB (dCons (dVar 0) dNil))) (dCB sumXB (dCons (dSl (dVar 0) dNo (dPart (dBin modB (dVar 1) (dCB lenB (dCons (dVar 0) dNil))))) dNil))))
  sNil)
def t_sums_in_rounds : DS := (sCons (sRet (dLc false (iR1 (dCons (dCB lenB (dCons (dVar 0) dNil)) dNil)) (gSet 2) dYes (dBin subB (dCall adF sp_height_in [] 2 0 [0, 1] [] (dCons (dVar 0) (dCons (dBin addB (dVar 2) (dVar 1)) dNil)) dNil) (dCall adF sp_height_in [] 2 0 [0, 1] [] (dCons (dVar 0) (dCons (dVar 2) dNil)) dNil)) [2]))
  sNil)
def t_Round_sort_of : DS := (sCons (sDrop (dCall adF sp_need_number [] 4 0 [0, 1, 2, 3] [] (dCons (dVar 1) (dCons (dC (.str "length")) (dCons (dC (.int 1)) (dCons (dC .non) dNil)))) dNil))
  (sCons (sRet (dCall adF sp_word_of [] 1 0 [0] [] (dCons (dCall adF sp_sums_in_rounds [] 2 0 [0, 1] [] (dCons (dUn (fldB "gains") (dVar 0)) (dCons (dVar 1) dNil)) dNil) dNil) dNil))
  sNil))
def t__law_pick : DS := (sCons (sRet (dBin idxB (dVar 1) (dCall adF sp__law_grind [0] 2 0 [0, 1] [] (dCons (dVar 0) (dCons (dCB lenB (dCons (dVar 1) dNil)) dNil)) dNil)))
  sNil)
def t__law_sum : DS := (sCons (sPar 3 4 (dCons (dBin fdivB (dCB intB1 (dCons (dVar 2) dNil)) (dCB lenB (dCons (dVar 0) dNil))) (dCons (dBin modB (dCB intB1 (dCons (dVar 2) dNil)) (dCB lenB (dCons (dVar 0) dNil))) dNil)))
  (sCons (sSet 5 (dBin mulB (dVar 3) (dCB sumXB (dCons (dVar 0) dNil))))
  (sCons (sFor (iR1 (dCons (dVar 4) dNil)) (gSet 6) (sCons (sSet 5 (dBin addB (dVar 5) (dBin idxB (dVar 0) (dBin modB (dCB intB1 (dCons (dBin addB (dVar 1) (dVar 6)) dNil)) (dCB lenB (dCons (dVar 0) dNil))))))
  sNil))
  (sCons (sRet (dVar 5))
  sNil))))
def t_Round_sum_of : DS := (sCons (sDrop (dCall adF sp_need_number [] 4 0 [0, 1, 2, 3] [] (dCons (dVar 1) (dCons (dC (.str "begin")) (dCons (dC .non) (dCons (dC .non) dNil)))) dNil))
  (sCons (sDrop (dCall adF sp_need_number [] 4 0 [0, 1, 2, 3] [] (dCons (dVar 2) (dCons (dC (.str "length")) (dCons (dC (.int 1)) (dCons (dC .non) dNil)))) dNil))
  (sCons (sRet (dBin subB (dCall adF sp_height_in [] 2 0 [0, 1] [] (dCons (dUn (fldB "gains") (dVar 0)) (dCons (dBin addB (dVar 1) (dVar 2)) dNil)) dNil) (dCall adF sp_height_in [] 2 0 [0, 1] [] (dCons (dUn (fldB "gains") (dVar 0)) (dCons (dVar 1) dNil)) dNil)))
  sNil)))
def t__law_word : DS := (sCons (sIf (dTst (dBin eqB (dLc false (iSeq (dVar 0)) (gSet 1) (dTst (dBin leB (dVar 1) (dC (.int 0)))) (dVar 1) [1]) (dLst dNil))) (sCons (sRet (dC (.str "gains")))
  sNil) sNil)
  (sCons (sIf (dTst (dBin eqB (dLc false (iSeq (dVar 0)) (gSet 1) (dTst (dBin geB (dVar 1) (dC (.int 0)))) (dVar 1) [1]) (dLst dNil))) (sCons (sRet (dC (.str "loses")))
  sNil) sNil)
  (sCons (sRet (dIf (dTst (dBin eqB (dLc false (iSeq (dVar 0)) (gSet 1) (dTst (dBin neB (dVar 1) (dC (.int 0)))) (dVar 1) [1]) (dLst dNil))) (dC (.str "flat")) (dC (.str "mixed"))))
  sNil)))
def t__law_sums_right : DS := (sCons (sSet 3 (dCB lenB (dCons (dVar 2) dNil)))
  (sCons (sFor (iR1 (dCons (dC (.int 4)) dNil)) (gSet 4) (sCons (sSet 5 (dBin addB (dC (.int 1)) (dCall adF sp__law_grind [0] 2 0 [0, 1] [] (dCons (dVar 0) (dCons (dCall adF sp__law_pick [0] 2 0 [0, 1] [] (dCons (dVar 0) (dCons (dLst (dCons (dVar 3) (dCons (dBin addB (dBin mulB (dC (.int 2)) (dVar 3)) (dC (.int 3))) (dCons (dBin powB (dC (.int 10)) (dC (.int 6))) (dCons (dBin powB (dC (.int 10)) (dC (.int 20))) dNil))))) dNil)) dNil) dNil)) dNil)))
  (sCons (sSet 6 (dBin mulB (dBin subB (dCall adF sp__law_grind [0] 2 0 [0, 1] [] (dCons (dVar 0) (dCons (dC (.int 99)) dNil)) dNil) (dC (.int 49))) (dCall adF sp__law_pick [0] 2 0 [0, 1] [] (dCons (dVar 0) (dCons (dLst (dCons (dC (.int 1)) (dCons (dC (.int 1)) (dCons (dBin addB (dBin powB (dC (.int 10)) (dC (.int 15))) (dC (.int 1))) dNil)))) dNil)) dNil)))
  (sCons (sSet 7 (dLc false (iR1 (dCons (dVar 3) dNil)) (gSet 9) dYes (dCall adF sp__law_sum [] 3 0 [0, 1, 2] [] (dCons (dVar 2) (dCons (dVar 9) (dCons (dVar 5) dNil))) dNil) [9]))
  (sCons (sIf (dOr (dTst (dBin neB (dMeth "Round" "sum_of" adF sp_Round_sum_of [] 2 0 [0, 1, 2] [] (dVar 1) (dCons (dVar 6) (dCons (dVar 5) dNil)) dNil) (dCall adF sp__law_sum [] 3 0 [0, 1, 2] [] (dCons (dVar 2) (dCons (dVar 6) (dCons (dVar 5) dNil))) dNil))) (dTst (dBin neB (dMeth "Round" "sum_of" adF sp_Round_sum_of [] 0 2 [0, 2, 1] [] (dVar 1) dNil (dCons (dVar 5) (dCons (dBin addB (dVar 6) (dVar 3)) dNil))) (dCall adF sp__law_sum [] 3 0 [0, 1, 2] [] (dCons (dVar 2) (dCons (dVar 6) (dCons (dVar 5) dNil))) dNil)))) (sCons (sRet (dC (.bl false)))
  sNil) sNil)
  (sCons (sIf (dOr (dTst (dBin neB (dLc false (iR1 (dCons (dVar 3) dNil)) (gSet 9) dYes (dMeth "Round" "sum_of" adF sp_Round_sum_of [] 2 0 [0, 1, 2] [] (dVar 1) (dCons (dVar 9) (dCons (dVar 5) dNil)) dNil) [9]) (dVar 7))) (dTst (dBin neB (dCB sumXB (dCons (dVar 7) dNil)) (dBin mulB (dVar 5) (dUn (fldB "total") (dVar 1)))))) (sCons (sRet (dC (.bl false)))
  sNil) sNil)
  (sCons (sSet 8 (dMeth "Round" "sort_of" adF sp_Round_sort_of [] 0 1 [0, 1] [] (dVar 1) dNil (dCons (dVar 5) dNil)))
  (sCons (sIf (dOr (dTst (dBin neB (dVar 8) (dCall adF sp__law_word [] 1 0 [0] [] (dCons (dVar 7) dNil) dNil))) (dTst (dBin (inB true) (dMeth "Round" "sort_of" adF sp_Round_sort_of [] 1 0 [0, 1] [] (dVar 1) (dCons (dBin addB (dVar 5) (dVar 3)) dNil) dNil) (dTup (dCons (dC (.str "gains")) (dCons (dC (.str "loses")) (dCons (dC (.str "flat")) (dCons (dC (.str "mixed")) dNil)))))))) (sCons (sRet (dC (.bl false)))
  sNil) sNil)
  (sCons (sIf (dOr (dAnd (dTst (dBin eqB (dUn (fldB "total") (dVar 1)) (dC (.int 0)))) (dTst (dBin (inB false) (dVar 8) (dTup (dCons (dC (.str "gains")) (dCons (dC (.str "loses")) dNil)))))) (dAnd (dTst (dBin gtB (dUn (fldB "total") (dVar 1)) (dC (.int 0)))) (dTst (dBin (inB false) (dVar 8) (dTup (dCons (dC (.str "loses")) (dCons (dC (.str "flat")) dNil))))))) (sCons (sRet (dC (.bl false)))
  sNil) sNil)
  (sCons (sIf (dAnd (dTst (dBin ltB (dUn (fldB "total") (dVar 1)) (dC (.int 0)))) (dTst (dBin (inB false) (dVar 8) (dTup (dCons (dC (.str "gains")) (dCons (dC (.str "flat")) dNil)))))) (sCons (sRet (dC (.bl false)))
  sNil) sNil)
  sNil))))))))))
  (sCons (sRet (dC (.bl true)))
  sNil)))
def t_Round_turned : DS := (sCons (sDrop (dCall adF sp_need_number [] 4 0 [0, 1, 2, 3] [] (dCons (dVar 1) (dCons (dC (.str "by")) (dCons (dC .non) (dCons (dC .non) dNil)))) dNil))
  (sCons (sRet (dMake "Round" false sp_Round_X__init_X_ [0] 1 0 [0, 1] [] (dCons (dLc false (iR1 (dCons (dUn (fldB "days") (dVar 0)) dNil)) (gSet 2) dYes (dBin idxB (dUn (fldB "gains") (dVar 0)) (dBin modB (dBin addB (dVar 1) (dVar 2)) (dUn (fldB "days") (dVar 0)))) [2]) dNil) dNil))
  sNil))
def t_heights_of : DS := (sCons (sSet 1 (dLstC (dCons (dC (.int 0)) dNil)))
  (sCons (sFor (iSeq (dVar 0)) (gSet 2) (sCons (sDrop (dApp (dVar 1) (dBin addB (dBin idxB (dVar 1) (dUn negB (dC (.int 1)))) (dVar 2))))
  sNil))
  (sCons (sRet (dCB tupB (dCons (dVar 1) dNil)))
  sNil)))
def t_Row_X__init_X_ : DS := (sCons (sIf (dOr (dNot (dTru (dCall adF sp_are_integers [] 1 0 [0] [] (dCons (dVar 1) dNil) dNil))) (dTst (dBin eqB (dCB lenB (dCons (dVar 1) dNil)) (dC (.int 0))))) (sCons (sRai1 "BadRow" "part" (dCons (dC (.str "gains")) dNil))
  sNil) sNil)
  (sCons (sIf (dTst (dBin gtB (dCB lenB (dCons (dVar 1) dNil)) (dC (.int 48)))) (sCons (sRai2 "TooMany" "what" "most" (dCons (dC (.str "days")) (dCons (dC (.int 48)) dNil)))
  sNil) sNil)
  (sCons (sFldP "Row" "gains" (dVar 0) (dCB tupB (dCons (dVar 1) dNil)))
  (sCons (sFldP "Row" "heights" (dVar 0) (dCall adF sp_heights_of [] 1 0 [0] [] (dCons (dVar 1) dNil) dNil))
  (sCons (sFldP "Row" "days" (dVar 0) (dCB lenB (dCons (dVar 1) dNil)))
  (sCons (sFldP "Row" "total" (dVar 0) (dBin idxB (dUn (fldB "heights") (dVar 0)) (dUn negB (dC (.int 1)))))
  sNil))))))
def t_Round_row : DS := (sCons (sDrop (dCall adF sp_need_number [] 4 0 [0, 1, 2, 3] [] (dCons (dVar 1) (dCons (dC (.str "begin")) (dCons (dC .non) (dCons (dC .non) dNil)))) dNil))
  (sCons (sDrop (dCall adF sp_need_number [] 4 0 [0, 1, 2, 3] [] (dCons (dVar 2) (dCons (dC (.str "days")) (dCons (dC (.int 1)) (dCons (dC (.int 48)) dNil)))) dNil))
  (sCons (sRet (dMake "Row" false sp_Row_X__init_X_ [0] 1 0 [0, 1] [] (dCons (dLc false (iR1 (dCons (dVar 2) dNil)) (gSet 3) dYes (dBin idxB (dUn (fldB "gains") (dVar 0)) (dBin modB (dBin addB (dVar 1) (dVar 3)) (dUn (fldB "days") (dVar 0)))) [3]) dNil) dNil))
  sNil)))
def t_Round_twice : DS := (sCons (sRet (dMake "Round" false sp_Round_X__init_X_ [0] 1 0 [0, 1] [] (dCons (dLst (dStar (dUn (fldB "gains") (dVar 0)) (dStar (dUn (fldB "gains") (dVar 0)) dNil))) dNil) dNil))
  sNil)
def t__law_other_right : DS := (sCons (sAsg (dTup (dCons (dCB lenB (dCons (dVar 2) dNil)) (dCons (dBin mulB (dBin subB (dCall adF sp__law_grind [0] 2 0 [0, 1] [] (dCons (dVar 0) (dCons (dC (.int 49)) dNil)) dNil) (dC (.int 24))) (dCall adF sp__law_pick [0] 2 0 [0, 1] [] (dCons (dVar 0) (dCons (dLst (dCons (dC (.int 1)) (dCons (dBin addB (dBin powB (dC (.int 10)) (dC (.int 12))) (dC (.int 1))) dNil))) dNil)) dNil)) dNil))) (gUn 2 (gAnd (gSet 3) (gAnd (gSet 4) gNo))))
  (sCons (sSet 5 (dMeth "Round" "turned" adF sp_Round_turned [] 0 1 [0, 1] [] (dVar 1) dNil (dCons (dVar 4) dNil)))
  (sCons (sIf (dOr (dTst (dBin neB (dUn (fldB "gains") (dVar 5)) (dCB tupB (dCons (dLc false (iR1 (dCons (dVar 3) dNil)) (gSet 10) dYes (dBin idxB (dVar 2) (dBin modB (dCB intB1 (dCons (dBin addB (dVar 4) (dVar 10)) dNil)) (dVar 3))) [10]) dNil)))) (dTst (dBin neB (dUn (fldB "total") (dVar 5)) (dUn (fldB "total") (dVar 1))))) (sCons (sRet (dC (.bl false)))
  sNil) sNil)
  (sCons (sIf (dTst (dEqO owns excs "Round" true sp_Round_X__eq_X_ (dMeth "Round" "turned" adF sp_Round_turned [] 1 0 [0, 1] [] (dVar 5) (dCons (dUn negB (dVar 4)) dNil) dNil) (dVar 1))) (sCons (sRet (dC (.bl false)))
  sNil) sNil)
  (sCons (sSet 6 (dBin addB (dC (.int 1)) (dCall adF sp__law_grind [0] 2 0 [0, 1] [] (dCons (dVar 0) (dCons (dBin mulB (dC (.int 3)) (dVar 3)) dNil)) dNil)))
  (sCons (sIf (dOr (dTst (dBin neB (dMeth "Round" "sum_of" adF sp_Round_sum_of [] 2 0 [0, 1, 2] [] (dVar 5) (dCons (dC (.int 0)) (dCons (dVar 6) dNil)) dNil) (dMeth "Round" "sum_of" adF sp_Round_sum_of [] 2 0 [0, 1, 2] [] (dVar 1) (dCons (dVar 4) (dCons (dVar 6) dNil)) dNil))) (dTst (dBin neB (dMeth "Round" "sort_of" adF sp_Round_sort_of [] 1 0 [0, 1] [] (dVar 5) (dCons (dVar 6) dNil) dNil) (dMeth "Round" "sort_of" adF sp_Round_sort_of [] 1 0 [0, 1] [] (dVar 1) (dCons (dVar 6) dNil) dNil)))) (sCons (sRet (dC (.bl false)))
  sNil) sNil)
  (sCons (sIf (dTst (dBin leB (dBin mulB (dC (.int 2)) (dVar 3)) (dC (.int 48)))) (sCons (sSet 7 (dMeth "Round" "twice" adF sp_Round_twice [] 0 0 [0] [] (dVar 1) dNil dNil))
  (sCons (sIf (dOr (dTst (dBin neB (dUn (fldB "gains") (dVar 7)) (dCB tupB (dCons (dBin addB (dVar 2) (dVar 2)) dNil)))) (dOr (dTst (dBin neB (dLenO "Round" sp_Round_X__len_X_ (dVar 7)) (dBin mulB (dC (.int 2)) (dVar 3)))) (dTst (dEqO owns excs "Round" false sp_Round_X__eq_X_ (dVar 7) (dVar 1))))) (sCons (sRet (dC (.bl false)))
  sNil) sNil)
  (sCons (sIf (dTst (dBin neB (dMeth "Round" "sort_of" adF sp_Round_sort_of [] 1 0 [0, 1] [] (dVar 7) (dCons (dVar 6) dNil) dNil) (dMeth "Round" "sort_of" adF sp_Round_sort_of [] 1 0 [0, 1] [] (dVar 1) (dCons (dVar 6) dNil) dNil))) (sCons (sRet (dC (.bl false)))
  sNil) sNil)
  sNil))) sNil)
  (sCons (sSet 8 (dBin addB (dC (.int 1)) (dCall adF sp__law_grind [0] 2 0 [0, 1] [] (dCons (dVar 0) (dCons (dC (.int 48)) dNil)) dNil)))
  (sCons (sSet 9 (dMeth "Round" "row" adF sp_Round_row [] 0 2 [0, 2, 1] [] (dVar 1) dNil (dCons (dVar 8) (dCons (dVar 4) dNil))))
  (sCons (sIf (dOr (dNot (dTru (dIs owns excs [.c "Row"] (dVar 9)))) (dTst (dBin neB (dUn (fldB "gains") (dVar 9)) (dCB tupB (dCons (dLc false (iR1 (dCons (dVar 8) dNil)) (gSet 10) dYes (dBin idxB (dVar 2) (dBin modB (dCB intB1 (dCons (dBin addB (dVar 4) (dVar 10)) dNil)) (dVar 3))) [10]) dNil))))) (sCons (sRet (dC (.bl false)))
  sNil) sNil)
  (sCons (sRet (dBin eqB (dUn (fldB "total") (dMeth "Round" "row" adF sp_Round_row [] 2 0 [0, 1, 2] [] (dVar 1) (dCons (dC (.int 0)) (dCons (dVar 3) dNil)) dNil)) (dUn (fldB "total") (dVar 1))))
  sNil)))))))))))
def t_need_bound : DS := (sCons (sIf (dAnd (dTst (dBin notNB (dVar 0) (dC .non))) (dNot (dTru (dCall adF sp_is_integer [] 1 0 [0] [] (dCons (dVar 0) dNil) dNil)))) (sCons (sRai1 "BadNumber" "part" (dCons (dVar 1) dNil))
  sNil) sNil)
  sNil)
def t_are_bounds : DS := (sCons (sIf (dOr (dTst (dBin isNB (dVar 0) (dC .non))) (dTst (dBin isNB (dVar 1) (dC .non)))) (sCons (sRet (dOrV (dBin notNB (dVar 0) (dC .non)) (dBin notNB (dVar 1) (dC .non))))
  sNil) sNil)
  (sCons (sRet (dBin leB (dVar 0) (dVar 1)))
  sNil))
def t_Rule_X__init_X_ : DS := (sCons (sDrop (dCall adF sp_need_number [] 4 0 [0, 1, 2, 3] [] (dCons (dVar 1) (dCons (dC (.str "length")) (dCons (dC (.int 1)) (dCons (dC (.int 48)) dNil)))) dNil))
  (sCons (sDrop (dCall adF sp_need_bound [] 2 0 [0, 1] [] (dCons (dVar 2) (dCons (dC (.str "low")) dNil)) dNil))
  (sCons (sDrop (dCall adF sp_need_bound [] 2 0 [0, 1] [] (dCons (dVar 3) (dCons (dC (.str "high")) dNil)) dNil))
  (sCons (sIf (dNot (dTru (dCall adF sp_are_bounds [] 2 0 [0, 1] [] (dCons (dVar 2) (dCons (dVar 3) dNil)) dNil))) (sCons (sRai1 "BadRule" "part" (dCons (dC (.str "bounds")) dNil))
  sNil) sNil)
  (sCons (sFldP "Rule" "length" (dVar 0) (dVar 1))
  (sCons (sFldP "Rule" "low" (dVar 0) (dVar 2))
  (sCons (sFldP "Rule" "high" (dVar 0) (dVar 3))
  sNil)))))))
def t_need_row : DS := (sCons (sIf (dNot (dTru (dIs owns excs [.c "Row"] (dVar 0)))) (sCons (sRai1 "BadRow" "part" (dCons (dVar 1) dNil))
  sNil) sNil)
  sNil)
def t_Rule_first_broken : DS := (sCons (sDrop (dCall adF sp_need_row [] 2 0 [0, 1] [] (dCons (dVar 1) (dCons (dC (.str "row")) dNil)) dNil))
  (sCons (sFor (iR1 (dCons (dBin addB (dBin subB (dUn (fldB "days") (dVar 1)) (dUn (fldB "length") (dVar 0))) (dC (.int 1))) dNil)) (gSet 2) (sCons (sIf (dNot (dTru (dCall adF sp_is_within [] 3 0 [0, 1, 2] [] (dCons (dBin subB (dBin idxB (dUn (fldB "heights") (dVar 1)) (dBin addB (dVar 2) (dUn (fldB "length") (dVar 0)))) (dBin idxB (dUn (fldB "heights") (dVar 1)) (dVar 2))) (dCons (dUn (fldB "low") (dVar 0)) (dCons (dUn (fldB "high") (dVar 0)) dNil))) dNil))) (sCons (sRet (dVar 2))
  sNil) sNil)
  sNil))
  (sCons (sRet (dC .non))
  sNil)))
def t_Rule_keeps : DS := (sCons (sRet (dBin isNB (dMeth "Rule" "first_broken" adF sp_Rule_first_broken [] 1 0 [0, 1] [] (dVar 0) (dCons (dVar 1) dNil) dNil) (dC .non)))
  sNil)
def t_Round_keeps : DS := (sCons (sIf (dNot (dTru (dIs owns excs [.c "Rule"] (dVar 1)))) (sCons (sRai1 "BadRule" "part" (dCons (dC (.str "rule")) dNil))
  sNil) sNil)
  (sCons (sRet (dCB allB (dCons (dLc false (iSeq (dCall adF sp_sums_in_rounds [] 2 0 [0, 1] [] (dCons (dUn (fldB "gains") (dVar 0)) (dCons (dUn (fldB "length") (dVar 1)) dNil)) dNil)) (gSet 2) dYes (dCall adF sp_is_within [] 3 0 [0, 1, 2] [] (dCons (dVar 2) (dCons (dUn (fldB "low") (dVar 1)) (dCons (dUn (fldB "high") (dVar 1)) dNil))) dNil) [2]) dNil)))
  sNil))
def t__law_kept_right : DS := (sCons (sFor (iR1 (dCons (dC (.int 3)) dNil)) (gSet 3) (sCons (sSet 4 (dBin addB (dC (.int 1)) (dCall adF sp__law_grind [0] 2 0 [0, 1] [] (dCons (dVar 0) (dCons (dCall adF sp__law_pick [0] 2 0 [0, 1] [] (dCons (dVar 0) (dCons (dLst (dCons (dCB lenB (dCons (dVar 2) dNil)) (dCons (dC (.int 12)) (dCons (dC (.int 48)) dNil)))) dNil)) dNil) dNil)) dNil)))
  (sCons (sSet 5 (dLc false (iR1 (dCons (dCB lenB (dCons (dVar 2) dNil)) dNil)) (gSet 11) dYes (dCall adF sp__law_sum [] 3 0 [0, 1, 2] [] (dCons (dVar 2) (dCons (dVar 11) (dCons (dVar 4) dNil))) dNil) [11]))
  (sCons (sSet 6 (dBin addB (dCB minB (dCons (dVar 5) dNil)) (dCall adF sp__law_pick [0] 2 0 [0, 1] [] (dCons (dVar 0) (dCons (dLst (dCons (dC (.int 0)) (dCons (dC (.int 0)) (dCons (dUn negB (dC (.int 1))) (dCons (dC (.int 1)) dNil))))) dNil)) dNil)))
  (sCons (sSet 7 (dCB (two fun i j => if j > i then j else i) (dCons (dVar 6) (dCons (dBin addB (dCB maxB (dCons (dVar 5) dNil)) (dCall adF sp__law_pick [0] 2 0 [0, 1] [] (dCons (dVar 0) (dCons (dLst (dCons (dC (.int 0)) (dCons (dC (.int 0)) (dCons (dC (.int 1)) (dCons (dUn negB (dC (.int 1))) dNil))))) dNil)) dNil)) dNil))))
  (sCons (sAsg (dCall adF sp__law_pick [0] 2 0 [0, 1] [] (dCons (dVar 0) (dCons (dLst (dCons (dTup (dCons (dVar 6) (dCons (dVar 7) dNil))) (dCons (dTup (dCons (dVar 6) (dCons (dC .non) dNil))) (dCons (dTup (dCons (dC .non) (dCons (dVar 7) dNil))) dNil)))) dNil)) dNil) (gUn 2 (gAnd (gSet 6) (gAnd (gSet 7) gNo))))
  (sCons (sSet 8 (dAndV (dOrV (dBin isNB (dVar 6) (dC .non)) (dBin leB (dVar 6) (dCB minB (dCons (dVar 5) dNil)))) (dOrV (dBin isNB (dVar 7) (dC .non)) (dBin leB (dCB maxB (dCons (dVar 5) dNil)) (dVar 7)))))
  (sCons (sSet 9 (dMake "Rule" false sp_Rule_X__init_X_ [0] 3 0 [0, 1, 2, 3] [.non, .non] (dCons (dVar 4) (dCons (dVar 6) (dCons (dVar 7) dNil))) dNil))
  (sCons (sIf (dOr (dTst (dBin neB (dCB reprB (dCons (dMeth "Round" "keeps" adF sp_Round_keeps [] 0 1 [0, 1] [] (dVar 1) dNil (dCons (dVar 9) dNil)) dNil)) (dCB reprB (dCons (dVar 8) dNil)))) (dTst (dBin neB (dCB reprB (dCons (dMeth "Round" "keeps" adF sp_Round_keeps [] 1 0 [0, 1] [] (dMeth "Round" "turned" adF sp_Round_turned [] 1 0 [0, 1] [] (dVar 1) (dCons (dVar 3) dNil) dNil) (dCons (dVar 9) dNil) dNil) dNil)) (dCB reprB (dCons (dVar 8) dNil))))) (sCons (sRet (dC (.bl false)))
  sNil) sNil)
  (sCons (sSet 10 (dBin subB (dBin addB (dCB lenB (dCons (dVar 2) dNil)) (dVar 4)) (dC (.int 1))))
  (sCons (sIf (dAnd (dTst (dBin leB (dVar 10) (dC (.int 48)))) (dTst (dBin neB (dMeth "Rule" "keeps" adF sp_Rule_keeps [] 1 0 [0, 1] [] (dVar 9) (dCons (dMeth "Round" "row" adF sp_Round_row [] 2 0 [0, 1, 2] [] (dVar 1) (dCons (dCall adF sp__law_grind [0] 2 0 [0, 1] [] (dCons (dVar 0) (dCons (dC (.int 9)) dNil)) dNil) (dCons (dVar 10) dNil)) dNil) dNil) dNil) (dVar 8)))) (sCons (sRet (dC (.bl false)))
  sNil) sNil)
  sNil)))))))))))
  (sCons (sRet (dC (.bl true)))
  sNil))
def t__law_heard (f c : Addr) (q : Str) (ask : Ask) : DS := (sCons (sSet 1 (dC .non))
  (sCons (sHeard 3 hit 2 1 f c q ask)
  (sCons (sIf (dTru (dIs owns excs [.c "BadRound", .c "BadRule", .c "BadNumber"] (dVar 1))) (sCons (sRet (dTup (dCons (dIf (dTru (dIs owns excs [.c "BadRound"] (dVar 1))) (dC (.str "round")) (dIf (dTru (dIs owns excs [.c "BadRule"] (dVar 1))) (dC (.str "rule")) (dC (.str "number")))) (dCons (dXf excs "part" (dVar 1)) dNil))))
  sNil) sNil)
  (sCons (sIf (dTru (dIs owns excs [.c "TooMany"] (dVar 1))) (sCons (sRet (dTup (dCons (dXf excs "what" (dVar 1)) (dCons (dXf excs "most" (dVar 1)) dNil))))
  sNil) sNil)
  (sCons (sIf (dTru (dIs owns excs [.c "BadRow"] (dVar 1))) (sCons (sRet (dTup (dCons (dC (.str "row")) (dCons (dXf excs "part" (dVar 1)) dNil))))
  sNil) sNil)
  (sCons (sRet (dIf (dTst (dBin isNB (dVar 1) (dC .non))) (dC .non) (dTup (dCons (dC (.str "other")) (dCons (dC .non) dNil)))))
  sNil))))))
def t_need_bounds : DS := (sCons (sDrop (dCall adF sp_need_bound [] 2 0 [0, 1] [] (dCons (dVar 0) (dCons (dC (.str "low")) dNil)) dNil))
  (sCons (sDrop (dCall adF sp_need_bound [] 2 0 [0, 1] [] (dCons (dVar 1) (dCons (dC (.str "high")) dNil)) dNil))
  (sCons (sIf (dNot (dTru (dCall adF sp_are_bounds [] 2 0 [0, 1] [] (dCons (dVar 0) (dCons (dVar 1) dNil)) dNil))) (sCons (sRai1 "BadSaying" "part" (dCons (dC (.str "bounds")) dNil))
  sNil) sNil)
  sNil)))
def t_Some_X__init_X_ : DS := (sCons (sDrop (dCall adF sp_need_number [] 4 0 [0, 1, 2, 3] [] (dCons (dVar 1) (dCons (dC (.str "length")) (dCons (dC (.int 1)) (dCons (dC (.int 48)) dNil)))) dNil))
  (sCons (sDrop (dCall adF sp_need_bounds [] 2 0 [0, 1] [] (dCons (dVar 2) (dCons (dVar 3) dNil)) dNil))
  (sCons (sFldP "Some" "length" (dVar 0) (dVar 1))
  (sCons (sFldP "Some" "low" (dVar 0) (dVar 2))
  (sCons (sFldP "Some" "high" (dVar 0) (dVar 3))
  sNil)))))
def t__law_refused_right : DS := (sCons (sSet 3 (dCall adF sp__law_pick [0] 2 0 [0, 1] [] (dCons (dVar 0) (dCons (dLst (dCons (dC .non) (dCons (dC (.int 5)) (dCons (dLst dNil) (dCons (dTup dNil) (dCons (dC (.str "1 2")) (dCons (dLst (dCons (dC (.int 1)) (dCons (dC .non) dNil))) (dCons (dLst (dCons (dC (.bl true)) dNil)) (dCons (dLst (dCons (dLst (dCons (dC (.int 1)) dNil)) dNil)) (dCons (dC (.dct [] [])) (dCons (dC (.dct [.inl 1] [.int 2])) (dCons (dVar 1) (dCons (dBin addB (dBin mulB (dLst (dCons (dC (.int 1)) dNil)) (dC (.int 49))) (dLst (dCons (dC (.str "0")) dNil))) dNil))))))))))))) dNil)) dNil))
  (sCons (sAsg (dTup (dCons (dCall adF sp__law_pick [0] 2 0 [0, 1] [] (dCons (dVar 0) (dCons (dLst (dCons (dC .non) (dCons (dC (.bl true)) (dCons (dC (.str "0")) (dCons (dLst (dCons (dC (.int 1)) dNil)) (dCons (dTup dNil) dNil)))))) dNil)) dNil) (dCons (dCall adF sp__law_pick [0] 2 0 [0, 1] [] (dCons (dVar 0) (dCons (dLst (dCons (dC .non) (dCons (dC (.int 0)) (dCons (dUn negB (dC (.int 3))) (dCons (dC (.bl true)) (dCons (dC (.str "1")) (dCons (dLst (dCons (dC (.int 2)) dNil)) (dCons (dVar 2) dNil)))))))) dNil)) dNil) dNil))) (gUn 2 (gAnd (gSet 4) (gAnd (gSet 5) gNo))))
  (sCons (sSet 6 (dLstC (dCons (dHeard ["_law_ask", "_law_caught", "error"] "_law_refused_right.<locals>.<lambda>" (fun f c ask => t__law_heard f c "_law_refused_right.<locals>.<lambda>" ask) (dMake "Round" false sp_Round_X__init_X_ [0] 1 0 [0, 1] [] (dCons (dVar 3) dNil) dNil)) dNil)))
  (sCons (sDrop (dApp (dVar 6) (dHeard ["_law_ask", "_law_caught", "error"] "_law_refused_right.<locals>.<lambda>" (fun f c ask => t__law_heard f c "_law_refused_right.<locals>.<lambda>" ask) (dMake "Round" false sp_Round_X__init_X_ [0] 1 0 [0, 1] [] (dCons (dBin mulB (dLst (dCons (dC (.int 0)) dNil)) (dC (.int 49))) dNil) dNil))))
  (sCons (sDrop (dApp (dVar 6) (dHeard ["_law_ask", "_law_caught", "error"] "_law_refused_right.<locals>.<lambda>" (fun f c ask => t__law_heard f c "_law_refused_right.<locals>.<lambda>" ask) (dMeth "Round" "sum_of" adF sp_Round_sum_of [] 2 0 [0, 1, 2] [] (dVar 1) (dCons (dVar 4) (dCons (dVar 5) dNil)) dNil))))
  (sCons (sDrop (dApp (dVar 6) (dHeard ["_law_ask", "_law_caught", "error"] "_law_refused_right.<locals>.<lambda>" (fun f c ask => t__law_heard f c "_law_refused_right.<locals>.<lambda>" ask) (dMeth "Round" "sum_of" adF sp_Round_sum_of [] 2 0 [0, 1, 2] [] (dVar 1) (dCons (dC (.int 0)) (dCons (dVar 5) dNil)) dNil))))
  (sCons (sDrop (dApp (dVar 6) (dHeard ["_law_ask", "_law_caught", "error"] "_law_refused_right.<locals>.<lambda>" (fun f c ask => t__law_heard f c "_law_refused_right.<locals>.<lambda>" ask) (dMeth "Round" "sort_of" adF sp_Round_sort_of [] 1 0 [0, 1] [] (dVar 1) (dCons (dVar 5) dNil) dNil))))
  (sCons (sDrop (dApp (dVar 6) (dHeard ["_law_ask", "_law_caught", "error"] "_law_refused_right.<locals>.<lambda>" (fun f c ask => t__law_heard f c "_law_refused_right.<locals>.<lambda>" ask) (dMeth "Round" "keeps" adF sp_Round_keeps [] 1 0 [0, 1] [] (dVar 1) (dCons (dCall adF sp__law_pick [0] 2 0 [0, 1] [] (dCons (dVar 0) (dCons (dLst (dCons (dC .non) (dCons (dTup (dCons (dC (.int 3)) (dCons (dC (.int 0)) (dCons (dC (.int 1)) dNil)))) (dCons (dC (.str "3 0 1")) (dCons (dVar 1) (dCons (dC (.int 7)) (dCons (dMake "Some" false sp_Some_X__init_X_ [0] 3 0 [0, 1, 2, 3] [.non, .non] (dCons (dC (.int 3)) (dCons (dC (.int 0)) (dCons (dC (.int 1)) dNil))) dNil) (dCons (dMake "Row" false sp_Row_X__init_X_ [0] 1 0 [0, 1] [] (dCons (dLst (dCons (dC (.int 3)) dNil)) dNil) dNil) dNil)))))))) dNil)) dNil) dNil) dNil))))
  (sCons (sDrop (dApp (dVar 6) (dHeard ["_law_ask", "_law_caught", "error"] "_law_refused_right.<locals>.<lambda>" (fun f c ask => t__law_heard f c "_law_refused_right.<locals>.<lambda>" ask) (dMeth "Round" "turned" adF sp_Round_turned [] 1 0 [0, 1] [] (dVar 1) (dCons (dVar 4) dNil) dNil))))
  (sCons (sDrop (dApp (dVar 6) (dHeard ["_law_ask", "_law_caught", "error"] "_law_refused_right.<locals>.<lambda>" (fun f c ask => t__law_heard f c "_law_refused_right.<locals>.<lambda>" ask) (dMeth "Round" "row" adF sp_Round_row [] 2 0 [0, 1, 2] [] (dVar 1) (dCons (dVar 4) (dCons (dVar 5) dNil)) dNil))))
  (sCons (sDrop (dApp (dVar 6) (dHeard ["_law_ask", "_law_caught", "error"] "_law_refused_right.<locals>.<lambda>" (fun f c ask => t__law_heard f c "_law_refused_right.<locals>.<lambda>" ask) (dMeth "Round" "row" adF sp_Round_row [] 2 0 [0, 1, 2] [] (dVar 1) (dCons (dUn negB (dBin powB (dC (.int 10)) (dC (.int 9)))) (dCons (dCall adF sp__law_pick [0] 2 0 [0, 1] [] (dCons (dVar 0) (dCons (dLst (dCons (dC (.int 0)) (dCons (dC (.int 49)) (dCons (dC .non) (dCons (dC (.bl true)) (dCons (dC (.str "3")) dNil)))))) dNil)) dNil) dNil)) dNil))))
  (sCons (sDrop (dApp (dVar 6) (dHeard ["_law_ask", "_law_caught", "error"] "_law_refused_right.<locals>.<lambda>" (fun f c ask => t__law_heard f c "_law_refused_right.<locals>.<lambda>" ask) (dMeth "Round" "twice" adF sp_Round_twice [] 0 0 [0] [] (dMake "Round" false sp_Round_X__init_X_ [0] 1 0 [0, 1] [] (dCons (dBin mulB (dLst (dCons (dC (.int 1)) dNil)) (dC (.int 25))) dNil) dNil) dNil dNil))))
  (sCons (sDrop (dApp (dVar 6) (dHeard ["_law_ask", "_law_caught", "error"] "_law_refused_right.<locals>.<lambda>" (fun f c ask => t__law_heard f c "_law_refused_right.<locals>.<lambda>" ask) (dMeth "Rule" "keeps" adF sp_Rule_keeps [] 1 0 [0, 1] [] (dMake "Rule" false sp_Rule_X__init_X_ [0] 2 0 [0, 1, 2, 4] [.non, .non] (dCons (dC (.int 1)) (dCons (dC (.int 0)) dNil)) dNil) (dCons (dVar 1) dNil) dNil))))
  (sCons (sDrop (dApp (dVar 6) (dHeard ["_law_ask", "_law_caught", "error"] "_law_refused_right.<locals>.<lambda>" (fun f c ask => t__law_heard f c "_law_refused_right.<locals>.<lambda>" ask) (dMake "Round" false sp_Round_X__init_X_ [0] 1 0 [0, 1] [] (dCons (dMake "Row" false sp_Row_X__init_X_ [0] 1 0 [0, 1] [] (dCons (dLst (dCons (dC (.int 1)) (dCons (dC (.int 2)) dNil))) dNil) dNil) dNil) dNil))))
  (sCons (sSet 7 (dLst (dCons (dTup (dCons (dC (.str "round")) (dCons (dC (.str "gains")) dNil))) (dCons (dTup (dCons (dC (.str "days")) (dCons (dC (.int 48)) dNil))) (dCons (dTup (dCons (dC (.str "number")) (dCons (dC (.str "begin")) dNil))) (dCons (dTup (dCons (dC (.str "number")) (dCons (dC (.str "length")) dNil))) (dCons (dTup (dCons (dC (.str "number")) (dCons (dC (.str "length")) dNil))) (dCons (dTup (dCons (dC (.str "rule")) (dCons (dC (.str "rule")) dNil))) dNil))))))))
  (sCons (sRet (dAndV (dBin eqB (dVar 6) (dBin addB (dVar 7) (dLst (dCons (dTup (dCons (dC (.str "number")) (dCons (dC (.str "by")) dNil))) (dCons (dTup (dCons (dC (.str "number")) (dCons (dC (.str "begin")) dNil))) (dCons (dTup (dCons (dC (.str "number")) (dCons (dC (.str "days")) dNil))) (dCons (dTup (dCons (dC (.str "days")) (dCons (dC (.int 48)) dNil))) (dCons (dTup (dCons (dC (.str "row")) (dCons (dC (.str "row")) dNil))) (dCons (dTup (dCons (dC (.str "round")) (dCons (dC (.str "gains")) dNil))) dNil))))))))) (dBin eqB (dLenO "Round" sp_Round_X__len_X_ (dMeth "Round" "twice" adF sp_Round_twice [] 0 0 [0] [] (dMake "Round" false sp_Round_X__init_X_ [0] 1 0 [0, 1] [] (dCons (dBin mulB (dLst (dCons (dC (.int 1)) dNil)) (dC (.int 24))) dNil) dNil) dNil dNil)) (dC (.int 48)))))
  sNil))))))))))))))))
def t_law : DS := (sCons (sSet 1 (dCall adC sp__law_mill [] 1 0 [0] [] (dCons (dVar 0) dNil) dNil))
  (sCons (sFor (iR1 (dCons (dC (.int 2)) dNil)) (gSet 2) (sCons (sSet 3 (dCall adF sp__law_gains [0] 1 0 [0] [] (dCons (dVar 1) dNil) dNil))
  (sCons (sSet 4 (dListC (dVar 3)))
  (sCons (sSet 5 (dMake "Round" false sp_Round_X__init_X_ [0] 0 1 [0, 1] [] dNil (dCons (dVar 4) dNil)))
  (sCons (sDrop (dApp (dVar 4) (dC (.int 7))))
  (sCons (sAsg (dBin addB (dBin idxB (dVar 4) (dC (.int 0))) (dC (.int 1))) (gIx (dVar 4) (dC (.int 0))))
  (sCons (sIf (dOr (dTst (dBin neB (dUn (fldB "gains") (dVar 5)) (dCB tupB (dCons (dVar 3) dNil)))) (dOr (dTst (dBin neB (dUn (fldB "days") (dVar 5)) (dCB lenB (dCons (dVar 3) dNil)))) (dOr (dTst (dBin neB (dLenO "Round" sp_Round_X__len_X_ (dVar 5)) (dCB lenB (dCons (dVar 3) dNil)))) (dTst (dBin neB (dUn (fldB "total") (dVar 5)) (dCB sumXB (dCons (dVar 3) dNil))))))) (sCons (sRet (dC (.bl false)))
  sNil) sNil)
  (sCons (sIf (dOr (dNot (dTru (dCall adF sp__law_sums_right [0] 3 0 [0, 1, 2] [] (dCons (dVar 1) (dCons (dVar 5) (dCons (dVar 3) dNil))) dNil))) (dOr (dNot (dTru (dCall adF sp__law_other_right [0] 3 0 [0, 1, 2] [] (dCons (dVar 1) (dCons (dVar 5) (dCons (dVar 3) dNil))) dNil))) (dNot (dTru (dCall adF sp__law_kept_right [0] 3 0 [0, 1, 2] [] (dCons (dVar 1) (dCons (dVar 5) (dCons (dVar 3) dNil))) dNil))))) (sCons (sRet (dC (.bl false)))
  sNil) sNil)
  (sCons (sIf (dOr (dNot (dTru (dCall adF sp__law_refused_right [0] 3 0 [0, 1, 2] [] (dCons (dVar 1) (dCons (dVar 5) (dCons (dVar 3) dNil))) dNil))) (dOr (dTst (dEqO owns excs "Round" true sp_Round_X__eq_X_ (dMake "Round" false sp_Round_X__init_X_ [0] 1 0 [0, 1] [] (dCons (dCB tupB (dCons (dVar 3) dNil)) dNil) dNil) (dVar 5))) (dOr (dTst (dEqO owns excs "Round" false sp_Round_X__eq_X_ (dVar 5) (dCB tupB (dCons (dVar 3) dNil)))) (dTst (dEqO owns excs "Round" false sp_Round_X__eq_X_ (dVar 5) (dMake "Row" false sp_Row_X__init_X_ [0] 1 0 [0, 1] [] (dCons (dVar 3) dNil) dNil)))))) (sCons (sRet (dC (.bl false)))
  sNil) sNil)
  (sCons (sIf (dTst (dBin neB (dEqO owns excs "Round" false sp_Round_X__eq_X_ (dMake "Round" false sp_Round_X__init_X_ [0] 1 0 [0, 1] [] (dCons (dUn revB (dVar 3)) dNil) dNil) (dVar 5)) (dBin eqB (dUn revB (dVar 3)) (dVar 3)))) (sCons (sRet (dC (.bl false)))
  sNil) sNil)
  sNil))))))))))
  (sCons (sRet (dC (.bl true)))
  sNil)))
end K72
set_option Elab.async false
set_option linter.all false
set_option maxRecDepth 100000
set_option maxHeartbeats 4000000
set_option autoImplicit false
/-! K72d: the facts that are asked of the top, and the derivations (printed by gen.py). -/
namespace K72
open PySem PySem.Spec PyProof.Rows L2 Dl
variable [Tb]

def top (i : Nat) : Stmt := PySem.Challenge.pw_anyseven_k72_rounds_and_their_sums.main.body.getD i (.Pass ⟨0, 0, 0, 0⟩)
def inCls (s : Stmt) (j : Nat) : Stmt := match s with
  | .ClassDef (body := b) .. => b.getD j (.Pass ⟨0, 0, 0, 0⟩)
  | _ => .Pass ⟨0, 0, 0, 0⟩
abbrev st__law_mill : Stmt := top 67
abbrev st__law_grind : Stmt := top 68
abbrev st__law_gains : Stmt := top 70
abbrev st_BadRound_X__init_X_ : Stmt := inCls (top 5) 0
abbrev st_TooMany_X__init_X_ : Stmt := inCls (top 9) 0
abbrev st_is_integer : Stmt := top 13
abbrev st_are_integers : Stmt := top 15
abbrev st_Round_X__init_X_ : Stmt := inCls (top 45) 0
abbrev st_Round_X__eq_X_ : Stmt := inCls (top 45) 8
abbrev st_Round_X__len_X_ : Stmt := inCls (top 45) 7
abbrev st_is_within : Stmt := top 14
abbrev st_BadNumber_X__init_X_ : Stmt := inCls (top 7) 0
abbrev st_need_number : Stmt := top 16
abbrev st_word_of : Stmt := top 43
abbrev st_height_in : Stmt := top 46
abbrev st_sums_in_rounds : Stmt := top 47
abbrev st_Round_sort_of : Stmt := inCls (top 45) 2
abbrev st__law_pick : Stmt := top 69
abbrev st__law_sum : Stmt := top 71
abbrev st_Round_sum_of : Stmt := inCls (top 45) 1
abbrev st__law_word : Stmt := top 72
abbrev st__law_sums_right : Stmt := top 73
abbrev st_Round_turned : Stmt := inCls (top 45) 4
abbrev st_heights_of : Stmt := top 25
abbrev st_BadRow_X__init_X_ : Stmt := inCls (top 3) 0
abbrev st_Row_X__init_X_ : Stmt := inCls (top 26) 0
abbrev st_Round_row : Stmt := inCls (top 45) 6
abbrev st_Round_twice : Stmt := inCls (top 45) 5
abbrev st__law_other_right : Stmt := top 74
abbrev st_need_bound : Stmt := top 30
abbrev st_are_bounds : Stmt := top 31
abbrev st_BadRule_X__init_X_ : Stmt := inCls (top 4) 0
abbrev st_Rule_X__init_X_ : Stmt := inCls (top 36) 0
abbrev st_need_row : Stmt := top 23
abbrev st_Rule_first_broken : Stmt := inCls (top 36) 3
abbrev st_Rule_keeps : Stmt := inCls (top 36) 2
abbrev st_Round_keeps : Stmt := inCls (top 45) 3
abbrev st__law_kept_right : Stmt := top 75
abbrev st__law_heard : Stmt := top 76
abbrev st_BadSaying_X__init_X_ : Stmt := inCls (top 6) 0
abbrev st_need_bounds : Stmt := top 55
abbrev st_Some_X__init_X_ : Stmt := inCls (top 58) 0
abbrev st__law_refused_right : Stmt := top 77
abbrev st_law : Stmt := top 78
structure Fx (K : PySem.W.Frag) (mg : Str → Option Value) : Prop where
  f_int : mg ("int" : Str) = none
  d__law_mill : FunD K ("_law_mill" : Str) ("_law_mill" : Str) (defArgs st__law_mill) (defBody st__law_mill) (defScope st__law_mill) [] [] (clA mg ("_law_mill" : Str)) (fdA K (clA mg ("_law_mill" : Str)))
  f_len : mg ("len" : Str) = none
  f_abs : mg ("abs" : Str) = none
  d__law_grind : FunD K ("_law_grind" : Str) ("_law_grind" : Str) (defArgs st__law_grind) (defBody st__law_grind) (defScope st__law_grind) [] [] (clA mg ("_law_grind" : Str)) (fdA K (clA mg ("_law_grind" : Str)))
  f_sum : mg ("sum" : Str) = none
  g__law_grind : mg ("_law_grind" : Str) = some (.ref (clA mg ("_law_grind" : Str)))
  k__law_grind : PySem.W.keepIn K (.ref (clA mg ("_law_grind" : Str))) = true
  f_range : mg ("range" : Str) = none
  d__law_gains : FunD K ("_law_gains" : Str) ("_law_gains" : Str) (defArgs st__law_gains) (defBody st__law_gains) (defScope st__law_gains) [] [] (clA mg ("_law_gains" : Str)) (fdA K (clA mg ("_law_gains" : Str)))
  isa : Isa K mg owns excs
  f_isinstance : mg ("isinstance" : Str) = none
  ok_int : IsaOk K mg owns excs [.b "int"]
  f_bool : mg ("bool" : Str) = none
  ok_bool : IsaOk K mg owns excs [.b "bool"]
  d_is_integer : FunD K ("is_integer" : Str) ("is_integer" : Str) (defArgs st_is_integer) (defBody st_is_integer) (defScope st_is_integer) [] [] (clA mg ("is_integer" : Str)) (fdA K (clA mg ("is_integer" : Str)))
  f_list : mg ("list" : Str) = none
  f_tuple : mg ("tuple" : Str) = none
  ok_list_tuple : IsaOk K mg owns excs [.b "list", .b "tuple"]
  f_all : mg ("all" : Str) = none
  g_is_integer : mg ("is_integer" : Str) = some (.ref (clA mg ("is_integer" : Str)))
  k_is_integer : PySem.W.keepIn K (.ref (clA mg ("is_integer" : Str))) = true
  d_are_integers : FunD K ("are_integers" : Str) ("are_integers" : Str) (defArgs st_are_integers) (defBody st_are_integers) (defScope st_are_integers) [] [] (clA mg ("are_integers" : Str)) (fdA K (clA mg ("are_integers" : Str)))
  n_Round_total : NoAttr K (clA mg ("Round" : Str)) ("total" : Str)
  n_Round_days : NoAttr K (clA mg ("Round" : Str)) ("days" : Str)
  n_Round_gains : NoAttr K (clA mg ("Round" : Str)) ("gains" : Str)
  i_MOST_DAYS_books : ∃ t, mg ("MOST_DAYS_books" : Str) = some (.int 48 t)
  g_TooMany : mg ("TooMany" : Str) = some (.ref (clA mg ("TooMany" : Str)))
  oex_TooMany : OexC K (clA mg ("TooMany" : Str))
  g_are_integers : mg ("are_integers" : Str) = some (.ref (clA mg ("are_integers" : Str)))
  k_are_integers : PySem.W.keepIn K (.ref (clA mg ("are_integers" : Str))) = true
  g_BadRound : mg ("BadRound" : Str) = some (.ref (clA mg ("BadRound" : Str)))
  oex_BadRound : OexC K (clA mg ("BadRound" : Str))
  d_Round_X__init_X_ : FunD K ("__init__" : Str) ("Round.__init__" : Str) (defArgs st_Round_X__init_X_) (defBody st_Round_X__init_X_) (defScope st_Round_X__init_X_) [] [] (He.ma K (clA mg ("Round" : Str)) ("__init__" : Str)) (fdA K (He.ma K (clA mg ("Round" : Str)) ("__init__" : Str)))
  g_Round : mg ("Round" : Str) = some (.ref (clA mg ("Round" : Str)))
  ok_Round : IsaOk K mg owns excs [.c "Round"]
  d_Round_X__eq_X_ : FunD K ("__eq__" : Str) ("Round.__eq__" : Str) (defArgs st_Round_X__eq_X_) (defBody st_Round_X__eq_X_) (defScope st_Round_X__eq_X_) [] [] (He.ma K (clA mg ("Round" : Str)) ("__eq__" : Str)) (fdA K (He.ma K (clA mg ("Round" : Str)) ("__eq__" : Str)))
  d_Round_X__len_X_ : FunD K ("__len__" : Str) ("Round.__len__" : Str) (defArgs st_Round_X__len_X_) (defBody st_Round_X__len_X_) (defScope st_Round_X__len_X_) [] [] (He.ma K (clA mg ("Round" : Str)) ("__len__" : Str)) (fdA K (He.ma K (clA mg ("Round" : Str)) ("__len__" : Str)))
  d_is_within : FunD K ("is_within" : Str) ("is_within" : Str) (defArgs st_is_within) (defBody st_is_within) (defScope st_is_within) [] [] (clA mg ("is_within" : Str)) (fdA K (clA mg ("is_within" : Str)))
  g_is_within : mg ("is_within" : Str) = some (.ref (clA mg ("is_within" : Str)))
  k_is_within : PySem.W.keepIn K (.ref (clA mg ("is_within" : Str))) = true
  g_BadNumber : mg ("BadNumber" : Str) = some (.ref (clA mg ("BadNumber" : Str)))
  oex_BadNumber : OexC K (clA mg ("BadNumber" : Str))
  d_need_number : FunD K ("need_number" : Str) ("need_number" : Str) (defArgs st_need_number) (defBody st_need_number) (defScope st_need_number) [] [] (clA mg ("need_number" : Str)) (fdA K (clA mg ("need_number" : Str)))
  f_min : mg ("min" : Str) = none
  f_max : mg ("max" : Str) = none
  s_FLAT : ∃ t, mg ("FLAT" : Str) = some (.str ("flat" : Str) t)
  s_MIXED : ∃ t, mg ("MIXED" : Str) = some (.str ("mixed" : Str) t)
  s_LOSES : ∃ t, mg ("LOSES" : Str) = some (.str ("loses" : Str) t)
  s_GAINS : ∃ t, mg ("GAINS" : Str) = some (.str ("gains" : Str) t)
  d_word_of : FunD K ("word_of" : Str) ("word_of" : Str) (defArgs st_word_of) (defBody st_word_of) (defScope st_word_of) [] [] (clA mg ("word_of" : Str)) (fdA K (clA mg ("word_of" : Str)))
  d_height_in : FunD K ("height_in" : Str) ("height_in" : Str) (defArgs st_height_in) (defBody st_height_in) (defScope st_height_in) [] [] (clA mg ("height_in" : Str)) (fdA K (clA mg ("height_in" : Str)))
  g_height_in : mg ("height_in" : Str) = some (.ref (clA mg ("height_in" : Str)))
  k_height_in : PySem.W.keepIn K (.ref (clA mg ("height_in" : Str))) = true
  d_sums_in_rounds : FunD K ("sums_in" : Str) ("sums_in" : Str) (defArgs st_sums_in_rounds) (defBody st_sums_in_rounds) (defScope st_sums_in_rounds) [] [] (clA mg ("sums_in_rounds" : Str)) (fdA K (clA mg ("sums_in_rounds" : Str)))
  g_word_of : mg ("word_of" : Str) = some (.ref (clA mg ("word_of" : Str)))
  k_word_of : PySem.W.keepIn K (.ref (clA mg ("word_of" : Str))) = true
  g_sums_in_rounds : mg ("sums_in_rounds" : Str) = some (.ref (clA mg ("sums_in_rounds" : Str)))
  k_sums_in_rounds : PySem.W.keepIn K (.ref (clA mg ("sums_in_rounds" : Str))) = true
  g_need_number : mg ("need_number" : Str) = some (.ref (clA mg ("need_number" : Str)))
  k_need_number : PySem.W.keepIn K (.ref (clA mg ("need_number" : Str))) = true
  d_Round_sort_of : FunD K ("sort_of" : Str) ("Round.sort_of" : Str) (defArgs st_Round_sort_of) (defBody st_Round_sort_of) (defScope st_Round_sort_of) [] [] (He.ma K (clA mg ("Round" : Str)) ("sort_of" : Str)) (fdA K (He.ma K (clA mg ("Round" : Str)) ("sort_of" : Str)))
  d__law_pick : FunD K ("_law_pick" : Str) ("_law_pick" : Str) (defArgs st__law_pick) (defBody st__law_pick) (defScope st__law_pick) [] [] (clA mg ("_law_pick" : Str)) (fdA K (clA mg ("_law_pick" : Str)))
  d__law_sum : FunD K ("_law_sum" : Str) ("_law_sum" : Str) (defArgs st__law_sum) (defBody st__law_sum) (defScope st__law_sum) [] [] (clA mg ("_law_sum" : Str)) (fdA K (clA mg ("_law_sum" : Str)))
  d_Round_sum_of : FunD K ("sum_of" : Str) ("Round.sum_of" : Str) (defArgs st_Round_sum_of) (defBody st_Round_sum_of) (defScope st_Round_sum_of) [] [] (He.ma K (clA mg ("Round" : Str)) ("sum_of" : Str)) (fdA K (He.ma K (clA mg ("Round" : Str)) ("sum_of" : Str)))
  d__law_word : FunD K ("_law_word" : Str) ("_law_word" : Str) (defArgs st__law_word) (defBody st__law_word) (defScope st__law_word) [] [] (clA mg ("_law_word" : Str)) (fdA K (clA mg ("_law_word" : Str)))
  g__law_word : mg ("_law_word" : Str) = some (.ref (clA mg ("_law_word" : Str)))
  k__law_word : PySem.W.keepIn K (.ref (clA mg ("_law_word" : Str))) = true
  m_Round_sort_of : Meth K (clA mg ("Round" : Str)) ("sort_of" : Str) (He.ma K (clA mg ("Round" : Str)) ("sort_of" : Str))
  m_Round_sum_of : Meth K (clA mg ("Round" : Str)) ("sum_of" : Str) (He.ma K (clA mg ("Round" : Str)) ("sum_of" : Str))
  g__law_sum : mg ("_law_sum" : Str) = some (.ref (clA mg ("_law_sum" : Str)))
  k__law_sum : PySem.W.keepIn K (.ref (clA mg ("_law_sum" : Str))) = true
  g__law_pick : mg ("_law_pick" : Str) = some (.ref (clA mg ("_law_pick" : Str)))
  k__law_pick : PySem.W.keepIn K (.ref (clA mg ("_law_pick" : Str))) = true
  d__law_sums_right : FunD K ("_law_sums_right" : Str) ("_law_sums_right" : Str) (defArgs st__law_sums_right) (defBody st__law_sums_right) (defScope st__law_sums_right) [] [] (clA mg ("_law_sums_right" : Str)) (fdA K (clA mg ("_law_sums_right" : Str)))
  mk_Round : Mk K (clA mg ("Round" : Str)) (He.ma K (clA mg ("Round" : Str)) ("__init__" : Str))
  c_Round : Cls K (clA mg ("Round" : Str))
  d_Round_turned : FunD K ("turned" : Str) ("Round.turned" : Str) (defArgs st_Round_turned) (defBody st_Round_turned) (defScope st_Round_turned) [] [] (He.ma K (clA mg ("Round" : Str)) ("turned" : Str)) (fdA K (He.ma K (clA mg ("Round" : Str)) ("turned" : Str)))
  d_heights_of : FunD K ("heights_of" : Str) ("heights_of" : Str) (defArgs st_heights_of) (defBody st_heights_of) (defScope st_heights_of) [] [] (clA mg ("heights_of" : Str)) (fdA K (clA mg ("heights_of" : Str)))
  n_Row_total : NoAttr K (clA mg ("Row" : Str)) ("total" : Str)
  n_Row_days : NoAttr K (clA mg ("Row" : Str)) ("days" : Str)
  n_Row_heights : NoAttr K (clA mg ("Row" : Str)) ("heights" : Str)
  g_heights_of : mg ("heights_of" : Str) = some (.ref (clA mg ("heights_of" : Str)))
  k_heights_of : PySem.W.keepIn K (.ref (clA mg ("heights_of" : Str))) = true
  n_Row_gains : NoAttr K (clA mg ("Row" : Str)) ("gains" : Str)
  i_MOST_DAYS_rows : ∃ t, mg ("MOST_DAYS_rows" : Str) = some (.int 48 t)
  g_BadRow : mg ("BadRow" : Str) = some (.ref (clA mg ("BadRow" : Str)))
  oex_BadRow : OexC K (clA mg ("BadRow" : Str))
  d_Row_X__init_X_ : FunD K ("__init__" : Str) ("Row.__init__" : Str) (defArgs st_Row_X__init_X_) (defBody st_Row_X__init_X_) (defScope st_Row_X__init_X_) [] [] (He.ma K (clA mg ("Row" : Str)) ("__init__" : Str)) (fdA K (He.ma K (clA mg ("Row" : Str)) ("__init__" : Str)))
  g_Row : mg ("Row" : Str) = some (.ref (clA mg ("Row" : Str)))
  mk_Row : Mk K (clA mg ("Row" : Str)) (He.ma K (clA mg ("Row" : Str)) ("__init__" : Str))
  c_Row : Cls K (clA mg ("Row" : Str))
  d_Round_row : FunD K ("row" : Str) ("Round.row" : Str) (defArgs st_Round_row) (defBody st_Round_row) (defScope st_Round_row) [] [] (He.ma K (clA mg ("Round" : Str)) ("row" : Str)) (fdA K (He.ma K (clA mg ("Round" : Str)) ("row" : Str)))
  d_Round_twice : FunD K ("twice" : Str) ("Round.twice" : Str) (defArgs st_Round_twice) (defBody st_Round_twice) (defScope st_Round_twice) [] [] (He.ma K (clA mg ("Round" : Str)) ("twice" : Str)) (fdA K (He.ma K (clA mg ("Round" : Str)) ("twice" : Str)))
  m_Round_row : Meth K (clA mg ("Round" : Str)) ("row" : Str) (He.ma K (clA mg ("Round" : Str)) ("row" : Str))
  ok_Row : IsaOk K mg owns excs [.c "Row"]
  leno_Round : LenT K (clA mg ("Round" : Str)) (He.ma K (clA mg ("Round" : Str)) ("__len__" : Str))
  nf_Round : ∀ t ∈ tgs owns excs, PySem.W.notFirst K (clA mg ("Round" : Str)) (tgV mg t) = true
  eqo_Round : EqT K (clA mg ("Round" : Str)) (He.ma K (clA mg ("Round" : Str)) ("__eq__" : Str))
  m_Round_twice : Meth K (clA mg ("Round" : Str)) ("twice" : Str) (He.ma K (clA mg ("Round" : Str)) ("twice" : Str))
  m_Round_turned : Meth K (clA mg ("Round" : Str)) ("turned" : Str) (He.ma K (clA mg ("Round" : Str)) ("turned" : Str))
  d__law_other_right : FunD K ("_law_other_right" : Str) ("_law_other_right" : Str) (defArgs st__law_other_right) (defBody st__law_other_right) (defScope st__law_other_right) [] [] (clA mg ("_law_other_right" : Str)) (fdA K (clA mg ("_law_other_right" : Str)))
  d_need_bound : FunD K ("need_bound" : Str) ("need_bound" : Str) (defArgs st_need_bound) (defBody st_need_bound) (defScope st_need_bound) [] [] (clA mg ("need_bound" : Str)) (fdA K (clA mg ("need_bound" : Str)))
  d_are_bounds : FunD K ("are_bounds" : Str) ("are_bounds" : Str) (defArgs st_are_bounds) (defBody st_are_bounds) (defScope st_are_bounds) [] [] (clA mg ("are_bounds" : Str)) (fdA K (clA mg ("are_bounds" : Str)))
  n_Rule_high : NoAttr K (clA mg ("Rule" : Str)) ("high" : Str)
  n_Rule_low : NoAttr K (clA mg ("Rule" : Str)) ("low" : Str)
  n_Rule_length : NoAttr K (clA mg ("Rule" : Str)) ("length" : Str)
  g_are_bounds : mg ("are_bounds" : Str) = some (.ref (clA mg ("are_bounds" : Str)))
  k_are_bounds : PySem.W.keepIn K (.ref (clA mg ("are_bounds" : Str))) = true
  g_BadRule : mg ("BadRule" : Str) = some (.ref (clA mg ("BadRule" : Str)))
  oex_BadRule : OexC K (clA mg ("BadRule" : Str))
  g_need_bound : mg ("need_bound" : Str) = some (.ref (clA mg ("need_bound" : Str)))
  k_need_bound : PySem.W.keepIn K (.ref (clA mg ("need_bound" : Str))) = true
  i_MOST_LENGTH : ∃ t, mg ("MOST_LENGTH" : Str) = some (.int 48 t)
  d_Rule_X__init_X_ : FunD K ("__init__" : Str) ("Rule.__init__" : Str) (defArgs st_Rule_X__init_X_) (defBody st_Rule_X__init_X_) (defScope st_Rule_X__init_X_) [.non, .non] [] (He.ma K (clA mg ("Rule" : Str)) ("__init__" : Str)) (fdA K (He.ma K (clA mg ("Rule" : Str)) ("__init__" : Str)))
  d_need_row : FunD K ("need_row" : Str) ("need_row" : Str) (defArgs st_need_row) (defBody st_need_row) (defScope st_need_row) [] [] (clA mg ("need_row" : Str)) (fdA K (clA mg ("need_row" : Str)))
  g_need_row : mg ("need_row" : Str) = some (.ref (clA mg ("need_row" : Str)))
  k_need_row : PySem.W.keepIn K (.ref (clA mg ("need_row" : Str))) = true
  d_Rule_first_broken : FunD K ("first_broken" : Str) ("Rule.first_broken" : Str) (defArgs st_Rule_first_broken) (defBody st_Rule_first_broken) (defScope st_Rule_first_broken) [] [] (He.ma K (clA mg ("Rule" : Str)) ("first_broken" : Str)) (fdA K (He.ma K (clA mg ("Rule" : Str)) ("first_broken" : Str)))
  m_Rule_first_broken : Meth K (clA mg ("Rule" : Str)) ("first_broken" : Str) (He.ma K (clA mg ("Rule" : Str)) ("first_broken" : Str))
  d_Rule_keeps : FunD K ("keeps" : Str) ("Rule.keeps" : Str) (defArgs st_Rule_keeps) (defBody st_Rule_keeps) (defScope st_Rule_keeps) [] [] (He.ma K (clA mg ("Rule" : Str)) ("keeps" : Str)) (fdA K (He.ma K (clA mg ("Rule" : Str)) ("keeps" : Str)))
  g_Rule : mg ("Rule" : Str) = some (.ref (clA mg ("Rule" : Str)))
  ok_Rule : IsaOk K mg owns excs [.c "Rule"]
  d_Round_keeps : FunD K ("keeps" : Str) ("Round.keeps" : Str) (defArgs st_Round_keeps) (defBody st_Round_keeps) (defScope st_Round_keeps) [] [] (He.ma K (clA mg ("Round" : Str)) ("keeps" : Str)) (fdA K (He.ma K (clA mg ("Round" : Str)) ("keeps" : Str)))
  m_Rule_keeps : Meth K (clA mg ("Rule" : Str)) ("keeps" : Str) (He.ma K (clA mg ("Rule" : Str)) ("keeps" : Str))
  f_repr : mg ("repr" : Str) = none
  m_Round_keeps : Meth K (clA mg ("Round" : Str)) ("keeps" : Str) (He.ma K (clA mg ("Round" : Str)) ("keeps" : Str))
  mk_Rule : Mk K (clA mg ("Rule" : Str)) (He.ma K (clA mg ("Rule" : Str)) ("__init__" : Str))
  c_Rule : Cls K (clA mg ("Rule" : Str))
  d__law_kept_right : FunD K ("_law_kept_right" : Str) ("_law_kept_right" : Str) (defArgs st__law_kept_right) (defBody st__law_kept_right) (defScope st__law_kept_right) [] [] (clA mg ("_law_kept_right" : Str)) (fdA K (clA mg ("_law_kept_right" : Str)))
  g_DayError : mg ("DayError" : Str) = some (.ref (clA mg ("DayError" : Str)))
  exm : ∀ p ∈ hit, PySem.W.exmOne K (.ref (clA mg p.1)) (.ref (clA mg ("DayError" : Str))) = some p.2
  ok_BadRound_BadRule_BadNumber : IsaOk K mg owns excs [.c "BadRound", .c "BadRule", .c "BadNumber"]
  xa_part : ∀ C ∈ excs, PySem.W.findIn K (.ref (clA mg C)) ("part" : Str) = some none
  ok_BadRound : IsaOk K mg owns excs [.c "BadRound"]
  ok_BadRule : IsaOk K mg owns excs [.c "BadRule"]
  ok_TooMany : IsaOk K mg owns excs [.c "TooMany"]
  xa_most : ∀ C ∈ excs, PySem.W.findIn K (.ref (clA mg C)) ("most" : Str) = some none
  xa_what : ∀ C ∈ excs, PySem.W.findIn K (.ref (clA mg C)) ("what" : Str) = some none
  ok_BadRow : IsaOk K mg owns excs [.c "BadRow"]
  d__law_heard : FunD K ("_law_heard" : Str) ("_law_heard" : Str) (defArgs st__law_heard) (defBody st__law_heard) (defScope st__law_heard) [] [] (clA mg ("_law_heard" : Str)) (fdA K (clA mg ("_law_heard" : Str)))
  g_BadSaying : mg ("BadSaying" : Str) = some (.ref (clA mg ("BadSaying" : Str)))
  oex_BadSaying : OexC K (clA mg ("BadSaying" : Str))
  d_need_bounds : FunD K ("need_bounds" : Str) ("need_bounds" : Str) (defArgs st_need_bounds) (defBody st_need_bounds) (defScope st_need_bounds) [] [] (clA mg ("need_bounds" : Str)) (fdA K (clA mg ("need_bounds" : Str)))
  n_Some_high : NoAttr K (clA mg ("Some" : Str)) ("high" : Str)
  n_Some_low : NoAttr K (clA mg ("Some" : Str)) ("low" : Str)
  n_Some_length : NoAttr K (clA mg ("Some" : Str)) ("length" : Str)
  g_need_bounds : mg ("need_bounds" : Str) = some (.ref (clA mg ("need_bounds" : Str)))
  k_need_bounds : PySem.W.keepIn K (.ref (clA mg ("need_bounds" : Str))) = true
  d_Some_X__init_X_ : FunD K ("__init__" : Str) ("Some.__init__" : Str) (defArgs st_Some_X__init_X_) (defBody st_Some_X__init_X_) (defScope st_Some_X__init_X_) [.non, .non] [] (He.ma K (clA mg ("Some" : Str)) ("__init__" : Str)) (fdA K (He.ma K (clA mg ("Some" : Str)) ("__init__" : Str)))
  g__law_heard : mg ("_law_heard" : Str) = some (.ref (clA mg ("_law_heard" : Str)))
  k__law_heard : PySem.W.keepIn K (.ref (clA mg ("_law_heard" : Str))) = true
  tb__law_refused_right : ((He.cT K (("_law_refused_right" : Str), none)).2, ("_law_refused_right.<locals>.<lambda>" : Str)) ∈ Tb.T
  tu__law_refused_right : ∀ p ∈ Tb.T, p.1 = (He.cT K (("_law_refused_right" : Str), none)).2 → p.2 = ("_law_refused_right.<locals>.<lambda>" : Str)
  g_Some : mg ("Some" : Str) = some (.ref (clA mg ("Some" : Str)))
  mk_Some : Mk K (clA mg ("Some" : Str)) (He.ma K (clA mg ("Some" : Str)) ("__init__" : Str))
  c_Some : Cls K (clA mg ("Some" : Str))
  d__law_refused_right : FunD K ("_law_refused_right" : Str) ("_law_refused_right" : Str) (defArgs st__law_refused_right) (defBody st__law_refused_right) (defScope st__law_refused_right) [] [] (clA mg ("_law_refused_right" : Str)) (fdA K (clA mg ("_law_refused_right" : Str)))
  g__law_refused_right : mg ("_law_refused_right" : Str) = some (.ref (clA mg ("_law_refused_right" : Str)))
  k__law_refused_right : PySem.W.keepIn K (.ref (clA mg ("_law_refused_right" : Str))) = true
  g__law_sums_right : mg ("_law_sums_right" : Str) = some (.ref (clA mg ("_law_sums_right" : Str)))
  k__law_sums_right : PySem.W.keepIn K (.ref (clA mg ("_law_sums_right" : Str))) = true
  g__law_other_right : mg ("_law_other_right" : Str) = some (.ref (clA mg ("_law_other_right" : Str)))
  k__law_other_right : PySem.W.keepIn K (.ref (clA mg ("_law_other_right" : Str))) = true
  g__law_kept_right : mg ("_law_kept_right" : Str) = some (.ref (clA mg ("_law_kept_right" : Str)))
  k__law_kept_right : PySem.W.keepIn K (.ref (clA mg ("_law_kept_right" : Str))) = true
  g__law_gains : mg ("_law_gains" : Str) = some (.ref (clA mg ("_law_gains" : Str)))
  k__law_gains : PySem.W.keepIn K (.ref (clA mg ("_law_gains" : Str))) = true
  g__law_mill : mg ("_law_mill" : Str) = some (.ref (clA mg ("_law_mill" : Str)))
  k__law_mill : PySem.W.keepIn K (.ref (clA mg ("_law_mill" : Str))) = true
  d_law : FunD K ("law" : Str) ("law" : Str) (defArgs st_law) (defBody st_law) (defScope st_law) [] [] (clA mg ("law" : Str)) (fdA K (clA mg ("law" : Str)))
  d_BadRound_X__init_X_ : FunD K ("__init__" : Str) ("BadRound.__init__" : Str) (defArgs st_BadRound_X__init_X_) (defBody st_BadRound_X__init_X_) (defScope st_BadRound_X__init_X_) [] [] (He.ma K (clA mg ("BadRound" : Str)) ("__init__" : Str)) (fdA K (He.ma K (clA mg ("BadRound" : Str)) ("__init__" : Str)))
  d_TooMany_X__init_X_ : FunD K ("__init__" : Str) ("TooMany.__init__" : Str) (defArgs st_TooMany_X__init_X_) (defBody st_TooMany_X__init_X_) (defScope st_TooMany_X__init_X_) [] [] (He.ma K (clA mg ("TooMany" : Str)) ("__init__" : Str)) (fdA K (He.ma K (clA mg ("TooMany" : Str)) ("__init__" : Str)))
  d_BadNumber_X__init_X_ : FunD K ("__init__" : Str) ("BadNumber.__init__" : Str) (defArgs st_BadNumber_X__init_X_) (defBody st_BadNumber_X__init_X_) (defScope st_BadNumber_X__init_X_) [] [] (He.ma K (clA mg ("BadNumber" : Str)) ("__init__" : Str)) (fdA K (He.ma K (clA mg ("BadNumber" : Str)) ("__init__" : Str)))
  d_BadRow_X__init_X_ : FunD K ("__init__" : Str) ("BadRow.__init__" : Str) (defArgs st_BadRow_X__init_X_) (defBody st_BadRow_X__init_X_) (defScope st_BadRow_X__init_X_) [] [] (He.ma K (clA mg ("BadRow" : Str)) ("__init__" : Str)) (fdA K (He.ma K (clA mg ("BadRow" : Str)) ("__init__" : Str)))
  d_BadRule_X__init_X_ : FunD K ("__init__" : Str) ("BadRule.__init__" : Str) (defArgs st_BadRule_X__init_X_) (defBody st_BadRule_X__init_X_) (defScope st_BadRule_X__init_X_) [] [] (He.ma K (clA mg ("BadRule" : Str)) ("__init__" : Str)) (fdA K (He.ma K (clA mg ("BadRule" : Str)) ("__init__" : Str)))
  d_BadSaying_X__init_X_ : FunD K ("__init__" : Str) ("BadSaying.__init__" : Str) (defArgs st_BadSaying_X__init_X_) (defBody st_BadSaying_X__init_X_) (defScope st_BadSaying_X__init_X_) [] [] (He.ma K (clA mg ("BadSaying" : Str)) ("__init__" : Str)) (fdA K (He.ma K (clA mg ("BadSaying" : Str)) ("__init__" : Str)))
  n_BadRound_part : NoAttr K (clA mg ("BadRound" : Str)) ("part" : Str)
  in_BadRound : PySem.W.findIn K (.ref (clA mg ("BadRound" : Str))) ("__init__" : Str) = some (some (.ref (He.ma K (clA mg ("BadRound" : Str)) ("__init__" : Str)))) ∧ PySem.W.typeIn K (.ref (He.ma K (clA mg ("BadRound" : Str)) ("__init__" : Str))) = some (.type "function")
  n_TooMany_what : NoAttr K (clA mg ("TooMany" : Str)) ("what" : Str)
  n_TooMany_most : NoAttr K (clA mg ("TooMany" : Str)) ("most" : Str)
  in_TooMany : PySem.W.findIn K (.ref (clA mg ("TooMany" : Str))) ("__init__" : Str) = some (some (.ref (He.ma K (clA mg ("TooMany" : Str)) ("__init__" : Str)))) ∧ PySem.W.typeIn K (.ref (He.ma K (clA mg ("TooMany" : Str)) ("__init__" : Str))) = some (.type "function")
  n_BadNumber_part : NoAttr K (clA mg ("BadNumber" : Str)) ("part" : Str)
  in_BadNumber : PySem.W.findIn K (.ref (clA mg ("BadNumber" : Str))) ("__init__" : Str) = some (some (.ref (He.ma K (clA mg ("BadNumber" : Str)) ("__init__" : Str)))) ∧ PySem.W.typeIn K (.ref (He.ma K (clA mg ("BadNumber" : Str)) ("__init__" : Str))) = some (.type "function")
  n_BadRow_part : NoAttr K (clA mg ("BadRow" : Str)) ("part" : Str)
  in_BadRow : PySem.W.findIn K (.ref (clA mg ("BadRow" : Str))) ("__init__" : Str) = some (some (.ref (He.ma K (clA mg ("BadRow" : Str)) ("__init__" : Str)))) ∧ PySem.W.typeIn K (.ref (He.ma K (clA mg ("BadRow" : Str)) ("__init__" : Str))) = some (.type "function")
  n_BadRule_part : NoAttr K (clA mg ("BadRule" : Str)) ("part" : Str)
  in_BadRule : PySem.W.findIn K (.ref (clA mg ("BadRule" : Str))) ("__init__" : Str) = some (some (.ref (He.ma K (clA mg ("BadRule" : Str)) ("__init__" : Str)))) ∧ PySem.W.typeIn K (.ref (He.ma K (clA mg ("BadRule" : Str)) ("__init__" : Str))) = some (.type "function")
  n_BadSaying_part : NoAttr K (clA mg ("BadSaying" : Str)) ("part" : Str)
  in_BadSaying : PySem.W.findIn K (.ref (clA mg ("BadSaying" : Str))) ("__init__" : Str) = some (some (.ref (He.ma K (clA mg ("BadSaying" : Str)) ("__init__" : Str)))) ∧ PySem.W.typeIn K (.ref (He.ma K (clA mg ("BadSaying" : Str)) ("__init__" : Str))) = some (.type "function")
  a__law_refused_right : clA mg ("_law_refused_right" : Str) = He.fAd K (("_law_refused_right" : Str), none)
theorem bd__law_grind_2 {K : PySem.W.Frag} {mg : Str → Option Value} (T : Fx K mg) : Bd K (fdA K (clA mg ("_law_grind" : Str))) ["_law_mill_here", "_law_many"] 2 [] [0, 1] [] := Bd.none T.d__law_grind fun _ _ _ _ _ _ us ws h1 h2 => match us, ws, h1, h2 with | [_, _], [], _, _ => rfl
theorem bd_is_integer_1 {K : PySem.W.Frag} {mg : Str → Option Value} (T : Fx K mg) : Bd K (fdA K (clA mg ("is_integer" : Str))) ["value"] 1 [] [0] [] := Bd.none T.d_is_integer fun _ _ _ _ _ _ us ws h1 h2 => match us, ws, h1, h2 with | [_], [], _, _ => rfl
theorem bd_are_integers_1 {K : PySem.W.Frag} {mg : Str → Option Value} (T : Fx K mg) : Bd K (fdA K (clA mg ("are_integers" : Str))) ["value"] 1 [] [0] [] := Bd.none T.d_are_integers fun _ _ _ _ _ _ us ws h1 h2 => match us, ws, h1, h2 with | [_], [], _, _ => rfl
theorem bd_is_within_3 {K : PySem.W.Frag} {mg : Str → Option Value} (T : Fx K mg) : Bd K (fdA K (clA mg ("is_within" : Str))) ["value", "least", "most"] 3 [] [0, 1, 2] [] := Bd.none T.d_is_within fun _ _ _ _ _ _ us ws h1 h2 => match us, ws, h1, h2 with | [_, _, _], [], _, _ => rfl
theorem bd_height_in_2 {K : PySem.W.Frag} {mg : Str → Option Value} (T : Fx K mg) : Bd K (fdA K (clA mg ("height_in" : Str))) ["gains", "place"] 2 [] [0, 1] [] := Bd.none T.d_height_in fun _ _ _ _ _ _ us ws h1 h2 => match us, ws, h1, h2 with | [_, _], [], _, _ => rfl
theorem bd_word_of_1 {K : PySem.W.Frag} {mg : Str → Option Value} (T : Fx K mg) : Bd K (fdA K (clA mg ("word_of" : Str))) ["told"] 1 [] [0] [] := Bd.none T.d_word_of fun _ _ _ _ _ _ us ws h1 h2 => match us, ws, h1, h2 with | [_], [], _, _ => rfl
theorem bd_sums_in_rounds_2 {K : PySem.W.Frag} {mg : Str → Option Value} (T : Fx K mg) : Bd K (fdA K (clA mg ("sums_in_rounds" : Str))) ["gains", "length"] 2 [] [0, 1] [] := Bd.none T.d_sums_in_rounds fun _ _ _ _ _ _ us ws h1 h2 => match us, ws, h1, h2 with | [_, _], [], _, _ => rfl
theorem bd_need_number_4 {K : PySem.W.Frag} {mg : Str → Option Value} (T : Fx K mg) : Bd K (fdA K (clA mg ("need_number" : Str))) ["value", "part", "least", "most"] 4 [] [0, 1, 2, 3] [] := Bd.none T.d_need_number fun _ _ _ _ _ _ us ws h1 h2 => match us, ws, h1, h2 with | [_, _, _, _], [], _, _ => rfl
theorem bd__law_word_1 {K : PySem.W.Frag} {mg : Str → Option Value} (T : Fx K mg) : Bd K (fdA K (clA mg ("_law_word" : Str))) ["_law_told"] 1 [] [0] [] := Bd.none T.d__law_word fun _ _ _ _ _ _ us ws h1 h2 => match us, ws, h1, h2 with | [_], [], _, _ => rfl
theorem bd_Round_sort_of_2 {K : PySem.W.Frag} {mg : Str → Option Value} (T : Fx K mg) : Bd K (fdA K (He.ma K (clA mg ("Round" : Str)) ("sort_of" : Str))) ["self", "length"] 2 [] [0, 1] [] := Bd.none T.d_Round_sort_of fun _ _ _ _ _ _ us ws h1 h2 => match us, ws, h1, h2 with | [_, _], [], _, _ => rfl
theorem bd_Round_sort_of_1_length {K : PySem.W.Frag} {mg : Str → Option Value} (T : Fx K mg) : Bd K (fdA K (He.ma K (clA mg ("Round" : Str)) ("sort_of" : Str))) ["self", "length"] 1 ["length"] [0, 1] [] := Bd.none T.d_Round_sort_of fun _ _ _ _ _ _ us ws h1 h2 => match us, ws, h1, h2 with | [_], [_], _, _ => rfl
theorem bd_Round_sum_of_3 {K : PySem.W.Frag} {mg : Str → Option Value} (T : Fx K mg) : Bd K (fdA K (He.ma K (clA mg ("Round" : Str)) ("sum_of" : Str))) ["self", "begin", "length"] 3 [] [0, 1, 2] [] := Bd.none T.d_Round_sum_of fun _ _ _ _ _ _ us ws h1 h2 => match us, ws, h1, h2 with | [_, _, _], [], _, _ => rfl
theorem bd__law_sum_3 {K : PySem.W.Frag} {mg : Str → Option Value} (T : Fx K mg) : Bd K (fdA K (clA mg ("_law_sum" : Str))) ["_law_gains_here", "_law_begin", "_law_length"] 3 [] [0, 1, 2] [] := Bd.none T.d__law_sum fun _ _ _ _ _ _ us ws h1 h2 => match us, ws, h1, h2 with | [_, _, _], [], _, _ => rfl
theorem bd_Round_sum_of_1_length_begin {K : PySem.W.Frag} {mg : Str → Option Value} (T : Fx K mg) : Bd K (fdA K (He.ma K (clA mg ("Round" : Str)) ("sum_of" : Str))) ["self", "begin", "length"] 1 ["length", "begin"] [0, 2, 1] [] := Bd.none T.d_Round_sum_of fun _ _ _ _ _ _ us ws h1 h2 => match us, ws, h1, h2 with | [_], [_, _], _, _ => rfl
theorem bd__law_pick_2 {K : PySem.W.Frag} {mg : Str → Option Value} (T : Fx K mg) : Bd K (fdA K (clA mg ("_law_pick" : Str))) ["_law_mill_here", "_law_some"] 2 [] [0, 1] [] := Bd.none T.d__law_pick fun _ _ _ _ _ _ us ws h1 h2 => match us, ws, h1, h2 with | [_, _], [], _, _ => rfl
theorem bd_Round_X__init_X__2 {K : PySem.W.Frag} {mg : Str → Option Value} (T : Fx K mg) : Bd K (fdA K (He.ma K (clA mg ("Round" : Str)) ("__init__" : Str))) ["self", "gains"] 2 [] [0, 1] [] := Bd.none T.d_Round_X__init_X_ fun _ _ _ _ _ _ us ws h1 h2 => match us, ws, h1, h2 with | [_, _], [], _, _ => rfl
theorem bd_heights_of_1 {K : PySem.W.Frag} {mg : Str → Option Value} (T : Fx K mg) : Bd K (fdA K (clA mg ("heights_of" : Str))) ["gains"] 1 [] [0] [] := Bd.none T.d_heights_of fun _ _ _ _ _ _ us ws h1 h2 => match us, ws, h1, h2 with | [_], [], _, _ => rfl
theorem bd_Row_X__init_X__2 {K : PySem.W.Frag} {mg : Str → Option Value} (T : Fx K mg) : Bd K (fdA K (He.ma K (clA mg ("Row" : Str)) ("__init__" : Str))) ["self", "gains"] 2 [] [0, 1] [] := Bd.none T.d_Row_X__init_X_ fun _ _ _ _ _ _ us ws h1 h2 => match us, ws, h1, h2 with | [_, _], [], _, _ => rfl
theorem bd_Round_row_3 {K : PySem.W.Frag} {mg : Str → Option Value} (T : Fx K mg) : Bd K (fdA K (He.ma K (clA mg ("Round" : Str)) ("row" : Str))) ["self", "begin", "days"] 3 [] [0, 1, 2] [] := Bd.none T.d_Round_row fun _ _ _ _ _ _ us ws h1 h2 => match us, ws, h1, h2 with | [_, _, _], [], _, _ => rfl
theorem bd_Round_row_1_days_begin {K : PySem.W.Frag} {mg : Str → Option Value} (T : Fx K mg) : Bd K (fdA K (He.ma K (clA mg ("Round" : Str)) ("row" : Str))) ["self", "begin", "days"] 1 ["days", "begin"] [0, 2, 1] [] := Bd.none T.d_Round_row fun _ _ _ _ _ _ us ws h1 h2 => match us, ws, h1, h2 with | [_], [_, _], _, _ => rfl
theorem bd_Round_X__len_X__1 {K : PySem.W.Frag} {mg : Str → Option Value} (T : Fx K mg) : Bd K (fdA K (He.ma K (clA mg ("Round" : Str)) ("__len__" : Str))) ["self"] 1 [] [0] [] := Bd.none T.d_Round_X__len_X_ fun _ _ _ _ _ _ us ws h1 h2 => match us, ws, h1, h2 with | [_], [], _, _ => rfl
theorem bd_Round_X__eq_X__2 {K : PySem.W.Frag} {mg : Str → Option Value} (T : Fx K mg) : Bd K (fdA K (He.ma K (clA mg ("Round" : Str)) ("__eq__" : Str))) ["self", "other"] 2 [] [0, 1] [] := Bd.none T.d_Round_X__eq_X_ fun _ _ _ _ _ _ us ws h1 h2 => match us, ws, h1, h2 with | [_, _], [], _, _ => rfl
theorem bd_Round_twice_1 {K : PySem.W.Frag} {mg : Str → Option Value} (T : Fx K mg) : Bd K (fdA K (He.ma K (clA mg ("Round" : Str)) ("twice" : Str))) ["self"] 1 [] [0] [] := Bd.none T.d_Round_twice fun _ _ _ _ _ _ us ws h1 h2 => match us, ws, h1, h2 with | [_], [], _, _ => rfl
theorem bd_Round_turned_2 {K : PySem.W.Frag} {mg : Str → Option Value} (T : Fx K mg) : Bd K (fdA K (He.ma K (clA mg ("Round" : Str)) ("turned" : Str))) ["self", "by"] 2 [] [0, 1] [] := Bd.none T.d_Round_turned fun _ _ _ _ _ _ us ws h1 h2 => match us, ws, h1, h2 with | [_, _], [], _, _ => rfl
theorem bd_Round_turned_1_by {K : PySem.W.Frag} {mg : Str → Option Value} (T : Fx K mg) : Bd K (fdA K (He.ma K (clA mg ("Round" : Str)) ("turned" : Str))) ["self", "by"] 1 ["by"] [0, 1] [] := Bd.none T.d_Round_turned fun _ _ _ _ _ _ us ws h1 h2 => match us, ws, h1, h2 with | [_], [_], _, _ => rfl
theorem bd_are_bounds_2 {K : PySem.W.Frag} {mg : Str → Option Value} (T : Fx K mg) : Bd K (fdA K (clA mg ("are_bounds" : Str))) ["low", "high"] 2 [] [0, 1] [] := Bd.none T.d_are_bounds fun _ _ _ _ _ _ us ws h1 h2 => match us, ws, h1, h2 with | [_, _], [], _, _ => rfl
theorem bd_need_bound_2 {K : PySem.W.Frag} {mg : Str → Option Value} (T : Fx K mg) : Bd K (fdA K (clA mg ("need_bound" : Str))) ["value", "part"] 2 [] [0, 1] [] := Bd.none T.d_need_bound fun _ _ _ _ _ _ us ws h1 h2 => match us, ws, h1, h2 with | [_, _], [], _, _ => rfl
theorem bd_need_row_2 {K : PySem.W.Frag} {mg : Str → Option Value} (T : Fx K mg) : Bd K (fdA K (clA mg ("need_row" : Str))) ["value", "part"] 2 [] [0, 1] [] := Bd.none T.d_need_row fun _ _ _ _ _ _ us ws h1 h2 => match us, ws, h1, h2 with | [_, _], [], _, _ => rfl
theorem bd_Rule_first_broken_2 {K : PySem.W.Frag} {mg : Str → Option Value} (T : Fx K mg) : Bd K (fdA K (He.ma K (clA mg ("Rule" : Str)) ("first_broken" : Str))) ["self", "row"] 2 [] [0, 1] [] := Bd.none T.d_Rule_first_broken fun _ _ _ _ _ _ us ws h1 h2 => match us, ws, h1, h2 with | [_, _], [], _, _ => rfl
theorem bd_Rule_keeps_2 {K : PySem.W.Frag} {mg : Str → Option Value} (T : Fx K mg) : Bd K (fdA K (He.ma K (clA mg ("Rule" : Str)) ("keeps" : Str))) ["self", "row"] 2 [] [0, 1] [] := Bd.none T.d_Rule_keeps fun _ _ _ _ _ _ us ws h1 h2 => match us, ws, h1, h2 with | [_, _], [], _, _ => rfl
theorem bd_Round_keeps_1_rule {K : PySem.W.Frag} {mg : Str → Option Value} (T : Fx K mg) : Bd K (fdA K (He.ma K (clA mg ("Round" : Str)) ("keeps" : Str))) ["self", "rule"] 1 ["rule"] [0, 1] [] := Bd.none T.d_Round_keeps fun _ _ _ _ _ _ us ws h1 h2 => match us, ws, h1, h2 with | [_], [_], _, _ => rfl
theorem bd_Round_keeps_2 {K : PySem.W.Frag} {mg : Str → Option Value} (T : Fx K mg) : Bd K (fdA K (He.ma K (clA mg ("Round" : Str)) ("keeps" : Str))) ["self", "rule"] 2 [] [0, 1] [] := Bd.none T.d_Round_keeps fun _ _ _ _ _ _ us ws h1 h2 => match us, ws, h1, h2 with | [_, _], [], _, _ => rfl
theorem bd_Rule_X__init_X__4 {K : PySem.W.Frag} {mg : Str → Option Value} (T : Fx K mg) : Bd K (fdA K (He.ma K (clA mg ("Rule" : Str)) ("__init__" : Str))) ["self", "length", "low", "high"] 4 [] [0, 1, 2, 3] [.non, .non] := Bd.dfl T.d_Rule_X__init_X_ (by decide) fun _ _ _ _ _ _ _ us its ws h1 h2 h3 => match us, its, ws, h1, h2, h3 with | [_, _, _, _], [_, _], [], _, _, _ => ⟨_, rfl, rfl⟩
theorem bd_need_bounds_2 {K : PySem.W.Frag} {mg : Str → Option Value} (T : Fx K mg) : Bd K (fdA K (clA mg ("need_bounds" : Str))) ["low", "high"] 2 [] [0, 1] [] := Bd.none T.d_need_bounds fun _ _ _ _ _ _ us ws h1 h2 => match us, ws, h1, h2 with | [_, _], [], _, _ => rfl
theorem bd_Rule_X__init_X__3 {K : PySem.W.Frag} {mg : Str → Option Value} (T : Fx K mg) : Bd K (fdA K (He.ma K (clA mg ("Rule" : Str)) ("__init__" : Str))) ["self", "length", "low", "high"] 3 [] [0, 1, 2, 4] [.non, .non] := Bd.dfl T.d_Rule_X__init_X_ (by decide) fun _ _ _ _ _ _ _ us its ws h1 h2 h3 => match us, its, ws, h1, h2, h3 with | [_, _, _], [_, _], [], _, _, _ => ⟨_, rfl, rfl⟩
theorem bd_Some_X__init_X__4 {K : PySem.W.Frag} {mg : Str → Option Value} (T : Fx K mg) : Bd K (fdA K (He.ma K (clA mg ("Some" : Str)) ("__init__" : Str))) ["self", "length", "low", "high"] 4 [] [0, 1, 2, 3] [.non, .non] := Bd.dfl T.d_Some_X__init_X_ (by decide) fun _ _ _ _ _ _ _ us its ws h1 h2 h3 => match us, its, ws, h1, h2, h3 with | [_, _, _, _], [_, _], [], _, _, _ => ⟨_, rfl, rfl⟩
theorem bd__law_refused_right_3 {K : PySem.W.Frag} {mg : Str → Option Value} (T : Fx K mg) : Bd K (fdA K (clA mg ("_law_refused_right" : Str))) ["_law_mill_here", "_law_around", "_law_gains_here"] 3 [] [0, 1, 2] [] := Bd.none T.d__law_refused_right fun _ _ _ _ _ _ us ws h1 h2 => match us, ws, h1, h2 with | [_, _, _], [], _, _ => rfl
theorem bd__law_sums_right_3 {K : PySem.W.Frag} {mg : Str → Option Value} (T : Fx K mg) : Bd K (fdA K (clA mg ("_law_sums_right" : Str))) ["_law_mill_here", "_law_around", "_law_gains_here"] 3 [] [0, 1, 2] [] := Bd.none T.d__law_sums_right fun _ _ _ _ _ _ us ws h1 h2 => match us, ws, h1, h2 with | [_, _, _], [], _, _ => rfl
theorem bd__law_other_right_3 {K : PySem.W.Frag} {mg : Str → Option Value} (T : Fx K mg) : Bd K (fdA K (clA mg ("_law_other_right" : Str))) ["_law_mill_here", "_law_around", "_law_gains_here"] 3 [] [0, 1, 2] [] := Bd.none T.d__law_other_right fun _ _ _ _ _ _ us ws h1 h2 => match us, ws, h1, h2 with | [_, _, _], [], _, _ => rfl
theorem bd__law_kept_right_3 {K : PySem.W.Frag} {mg : Str → Option Value} (T : Fx K mg) : Bd K (fdA K (clA mg ("_law_kept_right" : Str))) ["_law_mill_here", "_law_around", "_law_gains_here"] 3 [] [0, 1, 2] [] := Bd.none T.d__law_kept_right fun _ _ _ _ _ _ us ws h1 h2 => match us, ws, h1, h2 with | [_, _, _], [], _, _ => rfl
theorem bd_Round_X__init_X__1_gains {K : PySem.W.Frag} {mg : Str → Option Value} (T : Fx K mg) : Bd K (fdA K (He.ma K (clA mg ("Round" : Str)) ("__init__" : Str))) ["self", "gains"] 1 ["gains"] [0, 1] [] := Bd.none T.d_Round_X__init_X_ fun _ _ _ _ _ _ us ws h1 h2 => match us, ws, h1, h2 with | [_], [_], _, _ => rfl
theorem bd__law_gains_1 {K : PySem.W.Frag} {mg : Str → Option Value} (T : Fx K mg) : Bd K (fdA K (clA mg ("_law_gains" : Str))) ["_law_mill_here"] 1 [] [0] [] := Bd.none T.d__law_gains fun _ _ _ _ _ _ us ws h1 h2 => match us, ws, h1, h2 with | [_], [], _, _ => rfl
theorem bd__law_mill_1 {K : PySem.W.Frag} {mg : Str → Option Value} (T : Fx K mg) : Bd K (fdA K (clA mg ("_law_mill" : Str))) ["_law_script"] 1 [] [0] [] := Bd.none T.d__law_mill fun _ _ _ _ _ _ us ws h1 h2 => match us, ws, h1, h2 with | [_], [], _, _ => rfl
theorem sc_BadRound_X__init_X_ : FnScope ["self", "part"] ["self", "part"] (defScope st_BadRound_X__init_X_) := ⟨rfl, rfl, rfl, by decide +kernel, rfl, by decide +kernel, by decide +kernel⟩
theorem ex_BadRound {X : Cx} (T : Fx X.K X.mg) : ExC1 X 1 "BadRound" "part" := ⟨T.oex_BadRound, ⟨_, _, ["self", "part"], T.in_BadRound.1, T.in_BadRound.2, init1 T.d_BadRound_X__init_X_ sc_BadRound_X__init_X_ rfl rfl rfl (by decide) (by decide) T.oex_BadRound T.n_BadRound_part (fun _ => rfl), (T.d_BadRound_X__init_X_.bindsN fun _ _ _ _ _ _ us hl => match us, hl with | [_, _], _ => rfl)⟩, T.g_BadRound⟩
theorem sc_TooMany_X__init_X_ : FnScope ["self", "what", "most"] ["self", "what", "most"] (defScope st_TooMany_X__init_X_) := ⟨rfl, rfl, rfl, by decide +kernel, rfl, by decide +kernel, by decide +kernel⟩
theorem ex_TooMany {X : Cx} (T : Fx X.K X.mg) : ExC2 X 1 "TooMany" "what" "most" := ⟨T.oex_TooMany, ⟨_, _, ["self", "what", "most"], T.in_TooMany.1, T.in_TooMany.2, init2 T.d_TooMany_X__init_X_ sc_TooMany_X__init_X_ rfl rfl rfl rfl (by decide) (by decide) (by decide) (by decide) T.oex_TooMany T.n_TooMany_what T.n_TooMany_most (fun _ => rfl) (fun _ => rfl), (T.d_TooMany_X__init_X_.bindsN fun _ _ _ _ _ _ us hl => match us, hl with | [_, _, _], _ => rfl)⟩, T.g_TooMany⟩
theorem sc_BadNumber_X__init_X_ : FnScope ["self", "part"] ["self", "part"] (defScope st_BadNumber_X__init_X_) := ⟨rfl, rfl, rfl, by decide +kernel, rfl, by decide +kernel, by decide +kernel⟩
theorem ex_BadNumber {X : Cx} (T : Fx X.K X.mg) : ExC1 X 1 "BadNumber" "part" := ⟨T.oex_BadNumber, ⟨_, _, ["self", "part"], T.in_BadNumber.1, T.in_BadNumber.2, init1 T.d_BadNumber_X__init_X_ sc_BadNumber_X__init_X_ rfl rfl rfl (by decide) (by decide) T.oex_BadNumber T.n_BadNumber_part (fun _ => rfl), (T.d_BadNumber_X__init_X_.bindsN fun _ _ _ _ _ _ us hl => match us, hl with | [_, _], _ => rfl)⟩, T.g_BadNumber⟩
theorem sc_BadRow_X__init_X_ : FnScope ["self", "part"] ["self", "part"] (defScope st_BadRow_X__init_X_) := ⟨rfl, rfl, rfl, by decide +kernel, rfl, by decide +kernel, by decide +kernel⟩
theorem ex_BadRow {X : Cx} (T : Fx X.K X.mg) : ExC1 X 1 "BadRow" "part" := ⟨T.oex_BadRow, ⟨_, _, ["self", "part"], T.in_BadRow.1, T.in_BadRow.2, init1 T.d_BadRow_X__init_X_ sc_BadRow_X__init_X_ rfl rfl rfl (by decide) (by decide) T.oex_BadRow T.n_BadRow_part (fun _ => rfl), (T.d_BadRow_X__init_X_.bindsN fun _ _ _ _ _ _ us hl => match us, hl with | [_, _], _ => rfl)⟩, T.g_BadRow⟩
theorem sc_BadRule_X__init_X_ : FnScope ["self", "part"] ["self", "part"] (defScope st_BadRule_X__init_X_) := ⟨rfl, rfl, rfl, by decide +kernel, rfl, by decide +kernel, by decide +kernel⟩
theorem ex_BadRule {X : Cx} (T : Fx X.K X.mg) : ExC1 X 1 "BadRule" "part" := ⟨T.oex_BadRule, ⟨_, _, ["self", "part"], T.in_BadRule.1, T.in_BadRule.2, init1 T.d_BadRule_X__init_X_ sc_BadRule_X__init_X_ rfl rfl rfl (by decide) (by decide) T.oex_BadRule T.n_BadRule_part (fun _ => rfl), (T.d_BadRule_X__init_X_.bindsN fun _ _ _ _ _ _ us hl => match us, hl with | [_, _], _ => rfl)⟩, T.g_BadRule⟩
theorem sc_BadSaying_X__init_X_ : FnScope ["self", "part"] ["self", "part"] (defScope st_BadSaying_X__init_X_) := ⟨rfl, rfl, rfl, by decide +kernel, rfl, by decide +kernel, by decide +kernel⟩
theorem ex_BadSaying {X : Cx} (T : Fx X.K X.mg) : ExC1 X 1 "BadSaying" "part" := ⟨T.oex_BadSaying, ⟨_, _, ["self", "part"], T.in_BadSaying.1, T.in_BadSaying.2, init1 T.d_BadSaying_X__init_X_ sc_BadSaying_X__init_X_ rfl rfl rfl (by decide) (by decide) T.oex_BadSaying T.n_BadSaying_part (fun _ => rfl), (T.d_BadSaying_X__init_X_.bindsN fun _ _ _ _ _ _ us hl => match us, hl with | [_, _], _ => rfl)⟩, T.g_BadSaying⟩
theorem sc__law_mill : FnScope ["_law_script", "_law_cell"] ["_law_script"] (defScope st__law_mill) := ⟨rfl, rfl, rfl, by decide +kernel, rfl, by decide +kernel, by decide +kernel⟩
theorem b__law_mill {P : Program} {W : World} {K : PySem.W.Frag} {mg : Str → Option Value} {base : Heap} (T : Fx K mg) {cdv : Value} {A : Around} {outer : List Env} {s : Shared} {H : Hp} {E : XK} (hr : Room 0 (A.deeper (envOfC ("_law_mill" : Str) (defScope st__law_mill) s.heap.objs.size (clA mg ("_law_mill" : Str)) cdv))) :
    EVSs (cxOf (L2.CX P W) P W K mg base ["_law_script", "_law_cell"] ("_law_mill" : Str) (defScope st__law_mill) (clA mg ("_law_mill" : Str)) cdv A outer s H E) (defBody st__law_mill) t__law_mill := by
  have hN := sc__law_mill.nd
  exact (evs_cons (evs_ret (ev_lstC (eva_cons (by exact (ev_lc (c := false) rfl hN (evi_seq (ev_sl (ev_var 0 rfl (.inl rfl)) evo_no (evo_part ev_int))) (own := [("_law_cell", 1)]) (blkOk_by (by rfl)) (by decide) (fun s0 H0 C0 cl0 fp0 => (evg_name (i := 1) hN rfl (by first | exact .inl rfl | exact .inr rfl))) (fun s0 H0 C0 cl0 fp0 => evts_nil) (fun s0 H0 C0 cl0 fp0 => (by exact (ev_cty call_int1 cd_int1 (by rfl) T.f_int boot_int (eva_cons (ev_var 1 rfl (by first | exact .inl rfl | exact .inr (.inl rfl) | exact .inr (.inr rfl))) eva_nil)))))) (eva_cons ev_int (eva_cons ev_int eva_nil)))))
      evs_nil)
theorem sc__law_grind : FnScope ["_law_mill_here", "_law_many", "_law_rest", "_law_cells", "_law_spot", "_law_cell", "_law_mixed"] ["_law_mill_here", "_law_many"] (defScope st__law_grind) := ⟨rfl, rfl, rfl, by decide +kernel, rfl, by decide +kernel, by decide +kernel⟩
theorem b__law_grind {P : Program} {W : World} {K : PySem.W.Frag} {mg : Str → Option Value} {base : Heap} (T : Fx K mg) {cdv : Value} {A : Around} {outer : List Env} {s : Shared} {H : Hp} {E : XK} (hr : Room 0 (A.deeper (envOfC ("_law_grind" : Str) (defScope st__law_grind) s.heap.objs.size (clA mg ("_law_grind" : Str)) cdv))) :
    EVSs (cxOf (L2.CX P W) P W K mg base ["_law_mill_here", "_law_many", "_law_rest", "_law_cells", "_law_spot", "_law_cell", "_law_mixed"] ("_law_grind" : Str) (defScope st__law_grind) (clA mg ("_law_grind" : Str)) cdv A outer s H E) (defBody st__law_grind) t__law_grind := by
  have hN := sc__law_grind.nd
  exact (evs_cons (evs_if (by exact (evt_cmp op_gt opd_gt (ev_idx (ev_var 0 rfl (.inl rfl)) ev_int) ev_int (nomark _))) (evs_cons (evs_set (i := 2) hN rfl (.inl rfl) (ev_idx (ev_var 0 rfl (.inl rfl)) ev_int))
      (evs_cons (evs_asg (ev_bin op_fdivW opd_fdiv (by exact (ev_cty call_int1 cd_int1 (by rfl) T.f_int boot_int (eva_cons (ev_var 2 rfl (.inl rfl)) eva_nil))) (ev_var 1 rfl (.inl rfl))) (evg_sub (ev_var 0 rfl (.inl rfl)) ev_int))
      (evs_cons (evs_ret (ev_bin op_mod opd_mod (by exact (ev_cty call_int1 cd_int1 (by rfl) T.f_int boot_int (eva_cons (ev_var 2 rfl (.inl rfl)) eva_nil))) (ev_var 1 rfl (.inl rfl))))
      evs_nil))) evs_nil)
      (evs_cons (evs_par (i := 3) (j := 4) rfl hN rfl rfl (by decide) rfl rfl (eva_cons (ev_idx (ev_var 0 rfl (.inl rfl)) ev_int) (eva_cons (ev_idx (ev_var 0 rfl (.inl rfl)) ev_int) eva_nil)) rfl)
      (evs_cons (evs_asg (ev_bin opr_add opd_add (ev_var 4 rfl (.inl rfl)) ev_int) (evg_sub (ev_var 0 rfl (.inl rfl)) ev_int))
      (evs_cons (evs_set (i := 5) hN rfl (.inl rfl) (ev_bin opr_add opd_add (ev_bin opr_mul opd_mul ev_int (ev_var 4 rfl (.inl rfl))) ev_int))
      (evs_cons (evs_if (by exact (evt_cmp (op_neD hr.units) opd_ne (ev_var 3 rfl (.inl rfl)) (ev_lst eva_nil) (nomark _))) (evs_cons (evs_set (i := 5) hN rfl (.inl rfl) (ev_idx (ev_var 3 rfl (.inl rfl)) (ev_bin op_mod opd_mod (by exact (ev_cty call_int1 cd_int1 (by rfl) T.f_int boot_int (eva_cons (ev_var 4 rfl (.inl rfl)) eva_nil))) (by exact (ev_cb call_len cd_len (by rfl) T.f_len boot_len (eva_cons (ev_var 3 rfl (.inl rfl)) eva_nil))))))
      evs_nil) evs_nil)
      (evs_cons (evs_if (evt_w (evw_and (by exact (evt_cmp op_lt opd_lt (ev_var 4 rfl (.inl rfl)) (by exact (ev_cb call_len cd_len (by rfl) T.f_len boot_len (eva_cons (ev_var 3 rfl (.inl rfl)) eva_nil))) (nomark _))) (evw_and1 (by exact (evt_cmp op_ge opd_ge (by exact (ev_cb call_abs cd_abs (by rfl) T.f_abs boot_abs (eva_cons (ev_var 5 rfl (.inl rfl)) eva_nil))) (ev_bin op_pow opd_pow ev_int ev_int) (nomark _)))))) (evs_cons (evs_set (i := 2) hN rfl (.inl rfl) (ev_bin opr_add opd_add (ev_bin opr_mul opd_mul ev_int (ev_bin op_sub opd_sub (by exact (ev_cb call_abs cd_abs (by rfl) T.f_abs boot_abs (eva_cons (ev_var 5 rfl (.inl rfl)) eva_nil))) (ev_bin op_pow opd_pow ev_int ev_int))) (by exact (ev_cty call_int1 cd_int1 (by rfl) T.f_int boot_int (eva_cons (by exact (ev_cmp op_lt opd_lt (ev_var 5 rfl (.inl rfl)) ev_int (nomark _))) eva_nil)))))
      (evs_cons (evs_asg (ev_bin op_fdivW opd_fdiv (by exact (ev_cty call_int1 cd_int1 (by rfl) T.f_int boot_int (eva_cons (ev_var 2 rfl (.inl rfl)) eva_nil))) (ev_var 1 rfl (.inl rfl))) (evg_sub (ev_var 0 rfl (.inl rfl)) ev_int))
      (evs_cons (evs_ret (ev_bin op_mod opd_mod (by exact (ev_cty call_int1 cd_int1 (by rfl) T.f_int boot_int (eva_cons (ev_var 2 rfl (.inl rfl)) eva_nil))) (ev_var 1 rfl (.inl rfl))))
      evs_nil))) evs_nil)
      (evs_cons (evs_set (i := 6) hN rfl (.inl rfl) (ev_bin op_mod opd_mod (by exact (ev_cty call_int1 cd_int1 (by rfl) T.f_int boot_int (eva_cons (ev_bin op_pow opd_pow (ev_bin opr_add opd_add (ev_bin opr_add opd_add (ev_bin op_mod opd_mod (by exact (ev_cty call_int1 cd_int1 (by rfl) T.f_int boot_int (eva_cons (ev_var 5 rfl (.inl rfl)) eva_nil))) ev_int) (ev_bin opr_mul opd_mul ev_int (ev_var 4 rfl (.inl rfl)))) ev_int) ev_int) eva_nil))) ev_int))
      (evs_cons (evs_set (i := 6) hN rfl (.inl rfl) (ev_bin op_mod opd_mod (by exact (ev_cty call_int1 cd_int1 (by rfl) T.f_int boot_int (eva_cons (ev_bin op_pow opd_pow (ev_bin opr_add opd_add (ev_bin opr_add opd_add (ev_bin opr_mul opd_mul (ev_var 6 rfl (.inl rfl)) (ev_bin opr_add opd_add (ev_bin opr_mul opd_mul ev_int (ev_var 4 rfl (.inl rfl))) ev_int)) (ev_bin opr_mul opd_mul (ev_bin opr_mul opd_mul ev_int (ev_var 4 rfl (.inl rfl))) (ev_var 4 rfl (.inl rfl)))) ev_int) ev_int) eva_nil))) ev_int))
      (evs_cons (evs_ret (ev_bin op_mod opd_mod (by exact (ev_cty call_int1 cd_int1 (by rfl) T.f_int boot_int (eva_cons (ev_bin op_fdivW opd_fdiv (ev_var 6 rfl (.inl rfl)) ev_int) eva_nil))) (ev_var 1 rfl (.inl rfl))))
      evs_nil)))))))))
theorem sc__law_gains : FnScope ["_law_mill_here", "_law_days", "_law_way", "_law_gains_here", "_law_at", "_law_day"] ["_law_mill_here"] (defScope st__law_gains) := ⟨rfl, rfl, rfl, by decide +kernel, rfl, by decide +kernel, by decide +kernel⟩
theorem b__law_gains {P : Program} {W : World} {K : PySem.W.Frag} {mg : Str → Option Value} {base : Heap} (T : Fx K mg) (G__law_grind : Fn P W K mg base 1 (clA mg ("_law_grind" : Str)) ["_law_mill_here", "_law_many"] sp__law_grind) {cdv : Value} {A : Around} {outer : List Env} {s : Shared} {H : Hp} {E : XK} (hr : Room 1 (A.deeper (envOfC ("_law_gains" : Str) (defScope st__law_gains) s.heap.objs.size (clA mg ("_law_gains" : Str)) cdv))) :
    EVSs (cxOf (L2.CX P W) P W K mg base ["_law_mill_here", "_law_days", "_law_way", "_law_gains_here", "_law_at", "_law_day"] ("_law_gains" : Str) (defScope st__law_gains) (clA mg ("_law_gains" : Str)) cdv A outer s H E) (defBody st__law_gains) t__law_gains := by
  have hN := sc__law_gains.nd
  exact (evs_cons (evs_asg (ev_tup (eva_cons (ev_bin opr_add opd_add ev_int (by exact (ev_call G__law_grind (hr.mono (by decide)) (by rfl) T.g__law_grind T.k__law_grind (bd__law_grind_2 T) (fun _ => .nil) adF_ok (eva_cons (ev_var 0 rfl (.inr (.inl rfl))) (eva_cons ev_int eva_nil)) evk_nil))) (eva_cons (by exact (ev_call G__law_grind (hr.mono (by decide)) (by rfl) T.g__law_grind T.k__law_grind (bd__law_grind_2 T) (fun _ => .nil) adF_ok (eva_cons (ev_var 0 rfl (.inr (.inl rfl))) (eva_cons ev_int eva_nil)) evk_nil)) eva_nil))) (evg_tup rfl (evgs_cons (evg_name (i := 1) hN rfl (.inl rfl)) (evgs_cons (evg_name (i := 2) hN rfl (.inr rfl)) evgs_nil))))
      (evs_cons (evs_if (by exact (evt_cmp (op_eqD hr.units) opd_eq (by exact (ev_call G__law_grind (hr.mono (by decide)) (by rfl) T.g__law_grind T.k__law_grind (bd__law_grind_2 T) (fun _ => .nil) adF_ok (eva_cons (ev_var 0 rfl (.inr (.inl rfl))) (eva_cons ev_int eva_nil)) evk_nil)) ev_int (nomark _))) (evs_cons (evs_set (i := 1) hN rfl (.inl rfl) ev_int)
      evs_nil) evs_nil)
      (evs_cons (evs_setLc (c := true) (i := 3) rfl hN rfl rfl (sw_true rfl rfl rfl rfl) (evi_r1 (by rfl) T.f_range (eva_cons (ev_var 1 rfl (.inl rfl)) eva_nil)) (own := [("_law_day", 5)]) (blkOk_by (by rfl)) (by decide) (fun s0 H0 C0 cl0 fp0 => (evg_name (i := 5) hN rfl (by first | exact .inl rfl | exact .inr rfl))) (fun s0 H0 C0 cl0 fp0 => evts_nil) (fun s0 H0 C0 cl0 fp0 => (ev_bin opr_mul opd_mul (ev_bin op_sub opd_sub (by exact (ev_call G__law_grind (hr.mono (by decide)) (by rfl) T.g__law_grind T.k__law_grind (bd__law_grind_2 T) (fun _ => .nil) adF_ok (eva_cons (ev_var 0 rfl (by first | exact .inl rfl | exact .inr (.inl rfl) | exact .inr (.inr rfl))) (eva_cons ev_int eva_nil)) evk_nil)) ev_int) (ev_if (by exact (evt_cmp (op_eqD hr.units) opd_eq (ev_var 2 rfl (by first | exact .inl rfl | exact .inr (.inl rfl) | exact .inr (.inr rfl))) ev_int (nomark _))) ev_int ev_int))))
      (evs_cons (evs_if (by exact (evt_cmp op_gt opd_gt (ev_var 2 rfl (.inr (.inl rfl))) ev_int (nomark _))) (evs_cons (evs_set (i := 4) hN rfl (.inl rfl) (by exact (ev_call G__law_grind (hr.mono (by decide)) (by rfl) T.g__law_grind T.k__law_grind (bd__law_grind_2 T) (fun _ => .nil) adF_ok (eva_cons (ev_var 0 rfl (.inr (.inl rfl))) (eva_cons (ev_var 1 rfl (.inl rfl)) eva_nil)) evk_nil)))
      (evs_cons (evs_asg (ev_bin op_sub opd_sub (ev_idx (ev_var 3 rfl (.inl rfl)) (ev_var 4 rfl (.inl rfl))) (by exact (ev_cb (call_sumX rfl) cd_sumX (by rfl) T.f_sum boot_sum (eva_cons (ev_var 3 rfl (.inl rfl)) eva_nil)))) (evg_sub (ev_var 3 rfl (.inl rfl)) (ev_var 4 rfl (.inl rfl))))
      evs_nil)) evs_nil)
      (evs_cons (evs_ret (ev_var 3 rfl (.inl rfl)))
      evs_nil)))))
theorem sc_is_integer : FnScope ["value"] ["value"] (defScope st_is_integer) := ⟨rfl, rfl, rfl, by decide +kernel, rfl, by decide +kernel, by decide +kernel⟩
theorem b_is_integer {P : Program} {W : World} {K : PySem.W.Frag} {mg : Str → Option Value} {base : Heap} (T : Fx K mg) {cdv : Value} {A : Around} {outer : List Env} {s : Shared} {H : Hp} {E : XK} (hr : Room 0 (A.deeper (envOfC ("is_integer" : Str) (defScope st_is_integer) s.heap.objs.size (clA mg ("is_integer" : Str)) cdv))) :
    EVSs (cxOf (L2.CX P W) P W K mg base ["value"] ("is_integer" : Str) (defScope st_is_integer) (clA mg ("is_integer" : Str)) cdv A outer s H E) (defBody st_is_integer) t_is_integer := by
  have hN := sc_is_integer.nd
  exact (evs_cons (evs_ret (ev_and (by exact (ev_is T.isa T.ok_int (by rfl) T.f_isinstance (ev_var 0 rfl (.inl rfl)) ⟨rfl, by decide, T.f_int, boot_int, by decide⟩)) (ev_one (ev_not (by exact (ev_is T.isa T.ok_bool (by rfl) T.f_isinstance (ev_var 0 rfl (.inl rfl)) ⟨rfl, by decide, T.f_bool, boot_bool, by decide⟩))))))
      evs_nil)
theorem sc_are_integers : FnScope ["value", "each"] ["value"] (defScope st_are_integers) := ⟨rfl, rfl, rfl, by decide +kernel, rfl, by decide +kernel, by decide +kernel⟩
theorem b_are_integers {P : Program} {W : World} {K : PySem.W.Frag} {mg : Str → Option Value} {base : Heap} (T : Fx K mg) (G_is_integer : Fn P W K mg base 1 (clA mg ("is_integer" : Str)) ["value"] sp_is_integer) {cdv : Value} {A : Around} {outer : List Env} {s : Shared} {H : Hp} {E : XK} (hr : Room 1 (A.deeper (envOfC ("are_integers" : Str) (defScope st_are_integers) s.heap.objs.size (clA mg ("are_integers" : Str)) cdv))) :
    EVSs (cxOf (L2.CX P W) P W K mg base ["value", "each"] ("are_integers" : Str) (defScope st_are_integers) (clA mg ("are_integers" : Str)) cdv A outer s H E) (defBody st_are_integers) t_are_integers := by
  have hN := sc_are_integers.nd
  exact (evs_cons (evs_ret (ev_and (by exact (ev_isT T.isa T.ok_list_tuple (by rfl) T.f_isinstance (ev_var 0 rfl (.inl rfl)) (.cons ⟨rfl, by decide, T.f_list, boot_list, by decide⟩ (.cons ⟨rfl, by decide, T.f_tuple, boot_tuple, by decide⟩ .nil)))) (ev_one (by exact (ev_cb (cr_all rfl) cd_all (by rfl) T.f_all boot_all (eva_cons (by exact (ev_lc (c := false) rfl hN (evi_seq (ev_var 0 rfl (.inl rfl))) (own := [("each", 1)]) (blkOk_by (by rfl)) (by decide) (fun s0 H0 C0 cl0 fp0 => (evg_name (i := 1) hN rfl (by first | exact .inl rfl | exact .inr rfl))) (fun s0 H0 C0 cl0 fp0 => evts_nil) (fun s0 H0 C0 cl0 fp0 => (by exact (ev_call G_is_integer (hr.mono (by decide)) (by rfl) T.g_is_integer T.k_is_integer (bd_is_integer_1 T) (fun _ => .nil) adF_ok (eva_cons (ev_var 1 rfl (by first | exact .inl rfl | exact .inr (.inl rfl) | exact .inr (.inr rfl))) eva_nil) evk_nil))))) eva_nil))))))
      evs_nil)
theorem sc_Round_X__init_X_ : FnScope ["self", "gains"] ["self", "gains"] (defScope st_Round_X__init_X_) := ⟨rfl, rfl, rfl, by decide +kernel, rfl, by decide +kernel, by decide +kernel⟩
theorem b_Round_X__init_X_ {P : Program} {W : World} {K : PySem.W.Frag} {mg : Str → Option Value} {base : Heap} (T : Fx K mg) (G_are_integers : Fn P W K mg base 2 (clA mg ("are_integers" : Str)) ["value"] sp_are_integers) {cdv : Value} {A : Around} {outer : List Env} {s : Shared} {H : Hp} {E : XK} (hr : Room 2 (A.deeper (envOfC ("Round.__init__" : Str) (defScope st_Round_X__init_X_) s.heap.objs.size (He.ma K (clA mg ("Round" : Str)) ("__init__" : Str)) cdv))) :
    EVSs (cxOf (L2.CX P W) P W K mg base ["self", "gains"] ("Round.__init__" : Str) (defScope st_Round_X__init_X_) (He.ma K (clA mg ("Round" : Str)) ("__init__" : Str)) cdv A outer s H E) (defBody st_Round_X__init_X_) t_Round_X__init_X_ := by
  have hN := sc_Round_X__init_X_.nd
  exact (evs_cons (evs_if (evt_w (evw_or (evt_not (evt_tru (by exact (ev_call G_are_integers (hr.mono (by decide)) (by rfl) T.g_are_integers T.k_are_integers (bd_are_integers_1 T) (fun _ => .nil) adF_ok (eva_cons (ev_var 1 rfl (.inl rfl)) eva_nil) evk_nil)))) (evw_or1 (by exact (evt_cmp (op_eqD hr.units) opd_eq (by exact (ev_cb call_len cd_len (by rfl) T.f_len boot_len (eva_cons (ev_var 1 rfl (.inl rfl)) eva_nil))) ev_int (nomark _)))))) (evs_cons (evs_raise1 rfl (ex_BadRound T) (hr.mono (by decide)) (eva_cons ev_str eva_nil) rfl)
      evs_nil) evs_nil)
      (evs_cons (evs_if (by exact (evt_cmp op_gt opd_gt (by exact (ev_cb call_len cd_len (by rfl) T.f_len boot_len (eva_cons (ev_var 1 rfl (.inl rfl)) eva_nil))) (by exact (glob_int (by rfl) T.i_MOST_DAYS_books)) (nomark _))) (evs_cons (evs_raise2 rfl (ex_TooMany T) (hr.mono (by decide)) (eva_cons ev_str (eva_cons (by exact (glob_int (by rfl) T.i_MOST_DAYS_books)) eva_nil)) rfl)
      evs_nil) evs_nil)
      (evs_cons (evs_fld (C := "Round") T.n_Round_gains (ev_var 0 rfl (.inl rfl)) (by exact (ev_cty call_tuple_of cd_tup (by rfl) T.f_tuple boot_tuple (eva_cons (ev_var 1 rfl (.inl rfl)) eva_nil))))
      (evs_cons (evs_fld (C := "Round") T.n_Round_days (ev_var 0 rfl (.inl rfl)) (by exact (ev_cb call_len cd_len (by rfl) T.f_len boot_len (eva_cons (ev_fld (ev_var 0 rfl (.inl rfl))) eva_nil))))
      (evs_cons (evs_fld (C := "Round") T.n_Round_total (ev_var 0 rfl (.inl rfl)) (by exact (ev_cb (call_sumX rfl) cd_sumX (by rfl) T.f_sum boot_sum (eva_cons (ev_fld (ev_var 0 rfl (.inl rfl))) eva_nil))))
      evs_nil)))))
theorem sc_Round_X__eq_X_ : FnScope ["self", "other"] ["self", "other"] (defScope st_Round_X__eq_X_) := ⟨rfl, rfl, rfl, by decide +kernel, rfl, by decide +kernel, by decide +kernel⟩
theorem b_Round_X__eq_X_ {P : Program} {W : World} {K : PySem.W.Frag} {mg : Str → Option Value} {base : Heap} (T : Fx K mg) {cdv : Value} {A : Around} {outer : List Env} {s : Shared} {H : Hp} {E : XK} (hr : Room 0 (A.deeper (envOfC ("Round.__eq__" : Str) (defScope st_Round_X__eq_X_) s.heap.objs.size (He.ma K (clA mg ("Round" : Str)) ("__eq__" : Str)) cdv))) :
    EVSs (cxOf (L2.CX P W) P W K mg base ["self", "other"] ("Round.__eq__" : Str) (defScope st_Round_X__eq_X_) (He.ma K (clA mg ("Round" : Str)) ("__eq__" : Str)) cdv A outer s H E) (defBody st_Round_X__eq_X_) t_Round_X__eq_X_ := by
  have hN := sc_Round_X__eq_X_.nd
  exact (evs_cons (evs_ret (ev_and (by exact (ev_is T.isa T.ok_Round (by rfl) T.f_isinstance (ev_var 1 rfl (.inl rfl)) ⟨rfl, by decide, rfl, T.g_Round⟩)) (ev_one (by exact (ev_cmp (op_eqD hr.units) opd_eq (ev_fld (ev_var 0 rfl (.inl rfl))) (ev_fld (ev_var 1 rfl (.inl rfl))) (nomark _))))))
      evs_nil)
theorem sc_Round_X__len_X_ : FnScope ["self"] ["self"] (defScope st_Round_X__len_X_) := ⟨rfl, rfl, rfl, by decide +kernel, rfl, by decide +kernel, by decide +kernel⟩
theorem b_Round_X__len_X_ {P : Program} {W : World} {K : PySem.W.Frag} {mg : Str → Option Value} {base : Heap} (T : Fx K mg) {cdv : Value} {A : Around} {outer : List Env} {s : Shared} {H : Hp} {E : XK} (hr : Room 0 (A.deeper (envOfC ("Round.__len__" : Str) (defScope st_Round_X__len_X_) s.heap.objs.size (He.ma K (clA mg ("Round" : Str)) ("__len__" : Str)) cdv))) :
    EVSs (cxOf (L2.CX P W) P W K mg base ["self"] ("Round.__len__" : Str) (defScope st_Round_X__len_X_) (He.ma K (clA mg ("Round" : Str)) ("__len__" : Str)) cdv A outer s H E) (defBody st_Round_X__len_X_) t_Round_X__len_X_ := by
  have hN := sc_Round_X__len_X_.nd
  exact (evs_cons (evs_ret (by exact (ev_cb call_len cd_len (by rfl) T.f_len boot_len (eva_cons (ev_fld (ev_var 0 rfl (.inl rfl))) eva_nil))))
      evs_nil)
theorem sc_is_within : FnScope ["value", "least", "most"] ["value", "least", "most"] (defScope st_is_within) := ⟨rfl, rfl, rfl, by decide +kernel, rfl, by decide +kernel, by decide +kernel⟩
theorem b_is_within {P : Program} {W : World} {K : PySem.W.Frag} {mg : Str → Option Value} {base : Heap} (T : Fx K mg) (G_is_integer : Fn P W K mg base 1 (clA mg ("is_integer" : Str)) ["value"] sp_is_integer) {cdv : Value} {A : Around} {outer : List Env} {s : Shared} {H : Hp} {E : XK} (hr : Room 1 (A.deeper (envOfC ("is_within" : Str) (defScope st_is_within) s.heap.objs.size (clA mg ("is_within" : Str)) cdv))) :
    EVSs (cxOf (L2.CX P W) P W K mg base ["value", "least", "most"] ("is_within" : Str) (defScope st_is_within) (clA mg ("is_within" : Str)) cdv A outer s H E) (defBody st_is_within) t_is_within := by
  have hN := sc_is_within.nd
  exact (evs_cons (evs_if (evt_not (evt_tru (by exact (ev_call G_is_integer (hr.mono (by decide)) (by rfl) T.g_is_integer T.k_is_integer (bd_is_integer_1 T) (fun _ => .nil) adF_ok (eva_cons (ev_var 0 rfl (.inl rfl)) eva_nil) evk_nil)))) (evs_cons (evs_ret ev_bl)
      evs_nil) evs_nil)
      (evs_cons (evs_ret (ev_and (ev_or (by exact (ev_cmp op_isN opd_isN (ev_var 1 rfl (.inl rfl)) ev_non (nomark _))) (ev_one (by exact (ev_cmp op_le opd_le (ev_var 1 rfl (.inl rfl)) (ev_var 0 rfl (.inl rfl)) (nomark _))))) (ev_one (ev_or (by exact (ev_cmp op_isN opd_isN (ev_var 2 rfl (.inl rfl)) ev_non (nomark _))) (ev_one (by exact (ev_cmp op_le opd_le (ev_var 0 rfl (.inl rfl)) (ev_var 2 rfl (.inl rfl)) (nomark _))))))))
      evs_nil))
theorem sc_need_number : FnScope ["value", "part", "least", "most"] ["value", "part", "least", "most"] (defScope st_need_number) := ⟨rfl, rfl, rfl, by decide +kernel, rfl, by decide +kernel, by decide +kernel⟩
theorem b_need_number {P : Program} {W : World} {K : PySem.W.Frag} {mg : Str → Option Value} {base : Heap} (T : Fx K mg) (G_is_within : Fn P W K mg base 2 (clA mg ("is_within" : Str)) ["value", "least", "most"] sp_is_within) {cdv : Value} {A : Around} {outer : List Env} {s : Shared} {H : Hp} {E : XK} (hr : Room 2 (A.deeper (envOfC ("need_number" : Str) (defScope st_need_number) s.heap.objs.size (clA mg ("need_number" : Str)) cdv))) :
    EVSs (cxOf (L2.CX P W) P W K mg base ["value", "part", "least", "most"] ("need_number" : Str) (defScope st_need_number) (clA mg ("need_number" : Str)) cdv A outer s H E) (defBody st_need_number) t_need_number := by
  have hN := sc_need_number.nd
  exact (evs_cons (evs_if (evt_not (evt_tru (by exact (ev_call G_is_within (hr.mono (by decide)) (by rfl) T.g_is_within T.k_is_within (bd_is_within_3 T) (fun _ => .nil) adF_ok (eva_cons (ev_var 0 rfl (.inl rfl)) (eva_cons (ev_var 2 rfl (.inl rfl)) (eva_cons (ev_var 3 rfl (.inl rfl)) eva_nil))) evk_nil)))) (evs_cons (evs_raise1 rfl (ex_BadNumber T) (hr.mono (by decide)) (eva_cons (ev_var 1 rfl (.inl rfl)) eva_nil) rfl)
      evs_nil) evs_nil)
      evs_nil)
theorem sc_word_of : FnScope ["told"] ["told"] (defScope st_word_of) := ⟨rfl, rfl, rfl, by decide +kernel, rfl, by decide +kernel, by decide +kernel⟩
theorem b_word_of {P : Program} {W : World} {K : PySem.W.Frag} {mg : Str → Option Value} {base : Heap} (T : Fx K mg) {cdv : Value} {A : Around} {outer : List Env} {s : Shared} {H : Hp} {E : XK} (hr : Room 0 (A.deeper (envOfC ("word_of" : Str) (defScope st_word_of) s.heap.objs.size (clA mg ("word_of" : Str)) cdv))) :
    EVSs (cxOf (L2.CX P W) P W K mg base ["told"] ("word_of" : Str) (defScope st_word_of) (clA mg ("word_of" : Str)) cdv A outer s H E) (defBody st_word_of) t_word_of := by
  have hN := sc_word_of.nd
  exact (evs_cons (evs_if (by exact (evt_cmp op_gt opd_gt (by exact (ev_cb (cr_min rfl) cd_min (by rfl) T.f_min boot_min (eva_cons (ev_var 0 rfl (.inl rfl)) eva_nil))) ev_int (nomark _))) (evs_cons (evs_ret (by exact (glob_str (by rfl) T.s_GAINS)))
      evs_nil) evs_nil)
      (evs_cons (evs_if (by exact (evt_cmp op_lt opd_lt (by exact (ev_cb (cr_max rfl) cd_max (by rfl) T.f_max boot_max (eva_cons (ev_var 0 rfl (.inl rfl)) eva_nil))) ev_int (nomark _))) (evs_cons (evs_ret (by exact (glob_str (by rfl) T.s_LOSES)))
      evs_nil) evs_nil)
      (evs_cons (evs_ret (ev_if (evt_w (evw_and (by exact (evt_cmp (op_eqD hr.units) opd_eq (by exact (ev_cb (cr_min rfl) cd_min (by rfl) T.f_min boot_min (eva_cons (ev_var 0 rfl (.inl rfl)) eva_nil))) ev_int (nomark _))) (evw_and1 (by exact (evt_cmp (op_eqD hr.units) opd_eq (by exact (ev_cb (cr_max rfl) cd_max (by rfl) T.f_max boot_max (eva_cons (ev_var 0 rfl (.inl rfl)) eva_nil))) ev_int (nomark _)))))) (by exact (glob_str (by rfl) T.s_FLAT)) (by exact (glob_str (by rfl) T.s_MIXED))))
      evs_nil)))
theorem sc_height_in : FnScope ["gains", "place"] ["gains", "place"] (defScope st_height_in) := ⟨rfl, rfl, rfl, by decide +kernel, rfl, by decide +kernel, by decide +kernel⟩
theorem b_height_in {P : Program} {W : World} {K : PySem.W.Frag} {mg : Str → Option Value} {base : Heap} (T : Fx K mg) {cdv : Value} {A : Around} {outer : List Env} {s : Shared} {H : Hp} {E : XK} (hr : Room 0 (A.deeper (envOfC ("height_in" : Str) (defScope st_height_in) s.heap.objs.size (clA mg ("height_in" : Str)) cdv))) :
    EVSs (cxOf (L2.CX P W) P W K mg base ["gains", "place"] ("height_in" : Str) (defScope st_height_in) (clA mg ("height_in" : Str)) cdv A outer s H E) (defBody st_height_in) t_height_in := by
  have hN := sc_height_in.nd
  exact (evs_cons (evs_ret (ev_bin opr_add opd_add (ev_bin opr_mul opd_mul (ev_bin op_fdivW opd_fdiv (ev_var 1 rfl (.inl rfl)) (by exact (ev_cb call_len cd_len (by rfl) T.f_len boot_len (eva_cons (ev_var 0 rfl (.inl rfl)) eva_nil)))) (by exact (ev_cb (call_sumX rfl) cd_sumX (by rfl) T.f_sum boot_sum (eva_cons (ev_var 0 rfl (.inl rfl)) eva_nil)))) (by exact (ev_cb (call_sumX rfl) cd_sumX (by rfl) T.f_sum boot_sum (eva_cons (ev_sl (ev_var 0 rfl (.inl rfl)) evo_no (evo_part (ev_bin op_mod opd_mod (ev_var 1 rfl (.inl rfl)) (by exact (ev_cb call_len cd_len (by rfl) T.f_len boot_len (eva_cons (ev_var 0 rfl (.inl rfl)) eva_nil)))))) eva_nil)))))
      evs_nil)
theorem sc_sums_in_rounds : FnScope ["gains", "length", "begin"] ["gains", "length"] (defScope st_sums_in_rounds) := ⟨rfl, rfl, rfl, by decide +kernel, rfl, by decide +kernel, by decide +kernel⟩
theorem b_sums_in_rounds {P : Program} {W : World} {K : PySem.W.Frag} {mg : Str → Option Value} {base : Heap} (T : Fx K mg) (G_height_in : Fn P W K mg base 1 (clA mg ("height_in" : Str)) ["gains", "place"] sp_height_in) {cdv : Value} {A : Around} {outer : List Env} {s : Shared} {H : Hp} {E : XK} (hr : Room 1 (A.deeper (envOfC ("sums_in" : Str) (defScope st_sums_in_rounds) s.heap.objs.size (clA mg ("sums_in_rounds" : Str)) cdv))) :
    EVSs (cxOf (L2.CX P W) P W K mg base ["gains", "length", "begin"] ("sums_in" : Str) (defScope st_sums_in_rounds) (clA mg ("sums_in_rounds" : Str)) cdv A outer s H E) (defBody st_sums_in_rounds) t_sums_in_rounds := by
  have hN := sc_sums_in_rounds.nd
  exact (evs_cons (evs_ret (by exact (ev_lc (c := false) rfl hN (evi_r1 (by rfl) T.f_range (eva_cons (by exact (ev_cb call_len cd_len (by rfl) T.f_len boot_len (eva_cons (ev_var 0 rfl (.inr (.inl rfl))) eva_nil))) eva_nil)) (own := [("begin", 2)]) (blkOk_by (by rfl)) (by decide) (fun s0 H0 C0 cl0 fp0 => (evg_name (i := 2) hN rfl (by first | exact .inl rfl | exact .inr rfl))) (fun s0 H0 C0 cl0 fp0 => evts_nil) (fun s0 H0 C0 cl0 fp0 => (ev_bin op_sub opd_sub (by exact (ev_call G_height_in (hr.mono (by decide)) (by rfl) T.g_height_in T.k_height_in (bd_height_in_2 T) (fun _ => .nil) adF_ok (eva_cons (ev_var 0 rfl (by first | exact .inl rfl | exact .inr (.inl rfl) | exact .inr (.inr rfl))) (eva_cons (ev_bin opr_add opd_add (ev_var 2 rfl (by first | exact .inl rfl | exact .inr (.inl rfl) | exact .inr (.inr rfl))) (ev_var 1 rfl (by first | exact .inl rfl | exact .inr (.inl rfl) | exact .inr (.inr rfl)))) eva_nil)) evk_nil)) (by exact (ev_call G_height_in (hr.mono (by decide)) (by rfl) T.g_height_in T.k_height_in (bd_height_in_2 T) (fun _ => .nil) adF_ok (eva_cons (ev_var 0 rfl (by first | exact .inl rfl | exact .inr (.inl rfl) | exact .inr (.inr rfl))) (eva_cons (ev_var 2 rfl (by first | exact .inl rfl | exact .inr (.inl rfl) | exact .inr (.inr rfl))) eva_nil)) evk_nil)))))))
      evs_nil)
theorem sc_Round_sort_of : FnScope ["self", "length"] ["self", "length"] (defScope st_Round_sort_of) := ⟨rfl, rfl, rfl, by decide +kernel, rfl, by decide +kernel, by decide +kernel⟩
theorem b_Round_sort_of {P : Program} {W : World} {K : PySem.W.Frag} {mg : Str → Option Value} {base : Heap} (T : Fx K mg) (G_word_of : Fn P W K mg base 1 (clA mg ("word_of" : Str)) ["told"] sp_word_of) (G_sums_in_rounds : Fn P W K mg base 2 (clA mg ("sums_in_rounds" : Str)) ["gains", "length"] sp_sums_in_rounds) (G_need_number : Fn P W K mg base 3 (clA mg ("need_number" : Str)) ["value", "part", "least", "most"] sp_need_number) {cdv : Value} {A : Around} {outer : List Env} {s : Shared} {H : Hp} {E : XK} (hr : Room 3 (A.deeper (envOfC ("Round.sort_of" : Str) (defScope st_Round_sort_of) s.heap.objs.size (He.ma K (clA mg ("Round" : Str)) ("sort_of" : Str)) cdv))) :
    EVSs (cxOf (L2.CX P W) P W K mg base ["self", "length"] ("Round.sort_of" : Str) (defScope st_Round_sort_of) (He.ma K (clA mg ("Round" : Str)) ("sort_of" : Str)) cdv A outer s H E) (defBody st_Round_sort_of) t_Round_sort_of := by
  have hN := sc_Round_sort_of.nd
  exact (evs_cons (evs_expr (by exact (ev_call G_need_number (hr.mono (by decide)) (by rfl) T.g_need_number T.k_need_number (bd_need_number_4 T) (fun _ => .nil) adF_ok (eva_cons (ev_var 1 rfl (.inl rfl)) (eva_cons ev_str (eva_cons ev_int (eva_cons ev_non eva_nil)))) evk_nil)))
      (evs_cons (evs_ret (by exact (ev_call G_word_of (hr.mono (by decide)) (by rfl) T.g_word_of T.k_word_of (bd_word_of_1 T) (fun _ => .nil) adF_ok (eva_cons (by exact (ev_call G_sums_in_rounds (hr.mono (by decide)) (by rfl) T.g_sums_in_rounds T.k_sums_in_rounds (bd_sums_in_rounds_2 T) (fun _ => .nil) adF_ok (eva_cons (ev_fld (ev_var 0 rfl (.inl rfl))) (eva_cons (ev_var 1 rfl (.inl rfl)) eva_nil)) evk_nil)) eva_nil) evk_nil)))
      evs_nil))
theorem sc__law_pick : FnScope ["_law_mill_here", "_law_some"] ["_law_mill_here", "_law_some"] (defScope st__law_pick) := ⟨rfl, rfl, rfl, by decide +kernel, rfl, by decide +kernel, by decide +kernel⟩
theorem b__law_pick {P : Program} {W : World} {K : PySem.W.Frag} {mg : Str → Option Value} {base : Heap} (T : Fx K mg) (G__law_grind : Fn P W K mg base 1 (clA mg ("_law_grind" : Str)) ["_law_mill_here", "_law_many"] sp__law_grind) {cdv : Value} {A : Around} {outer : List Env} {s : Shared} {H : Hp} {E : XK} (hr : Room 1 (A.deeper (envOfC ("_law_pick" : Str) (defScope st__law_pick) s.heap.objs.size (clA mg ("_law_pick" : Str)) cdv))) :
    EVSs (cxOf (L2.CX P W) P W K mg base ["_law_mill_here", "_law_some"] ("_law_pick" : Str) (defScope st__law_pick) (clA mg ("_law_pick" : Str)) cdv A outer s H E) (defBody st__law_pick) t__law_pick := by
  have hN := sc__law_pick.nd
  exact (evs_cons (evs_ret (ev_idx (ev_var 1 rfl (.inl rfl)) (by exact (ev_call G__law_grind (hr.mono (by decide)) (by rfl) T.g__law_grind T.k__law_grind (bd__law_grind_2 T) (fun _ => .nil) adF_ok (eva_cons (ev_var 0 rfl (.inl rfl)) (eva_cons (by exact (ev_cb call_len cd_len (by rfl) T.f_len boot_len (eva_cons (ev_var 1 rfl (.inl rfl)) eva_nil))) eva_nil)) evk_nil))))
      evs_nil)
theorem sc__law_sum : FnScope ["_law_gains_here", "_law_begin", "_law_length", "_law_laps", "_law_rest", "_law_found", "_law_step"] ["_law_gains_here", "_law_begin", "_law_length"] (defScope st__law_sum) := ⟨rfl, rfl, rfl, by decide +kernel, rfl, by decide +kernel, by decide +kernel⟩
theorem b__law_sum {P : Program} {W : World} {K : PySem.W.Frag} {mg : Str → Option Value} {base : Heap} (T : Fx K mg) {cdv : Value} {A : Around} {outer : List Env} {s : Shared} {H : Hp} {E : XK} (hr : Room 0 (A.deeper (envOfC ("_law_sum" : Str) (defScope st__law_sum) s.heap.objs.size (clA mg ("_law_sum" : Str)) cdv))) :
    EVSs (cxOf (L2.CX P W) P W K mg base ["_law_gains_here", "_law_begin", "_law_length", "_law_laps", "_law_rest", "_law_found", "_law_step"] ("_law_sum" : Str) (defScope st__law_sum) (clA mg ("_law_sum" : Str)) cdv A outer s H E) (defBody st__law_sum) t__law_sum := by
  have hN := sc__law_sum.nd
  exact (evs_cons (evs_par (i := 3) (j := 4) rfl hN rfl rfl (by decide) rfl rfl (eva_cons (ev_bin op_fdivW opd_fdiv (by exact (ev_cty call_int1 cd_int1 (by rfl) T.f_int boot_int (eva_cons (ev_var 2 rfl (.inl rfl)) eva_nil))) (by exact (ev_cb call_len cd_len (by rfl) T.f_len boot_len (eva_cons (ev_var 0 rfl (.inl rfl)) eva_nil)))) (eva_cons (ev_bin op_mod opd_mod (by exact (ev_cty call_int1 cd_int1 (by rfl) T.f_int boot_int (eva_cons (ev_var 2 rfl (.inl rfl)) eva_nil))) (by exact (ev_cb call_len cd_len (by rfl) T.f_len boot_len (eva_cons (ev_var 0 rfl (.inl rfl)) eva_nil)))) eva_nil)) rfl)
      (evs_cons (evs_set (i := 5) hN rfl (.inl rfl) (ev_bin opr_mul opd_mul (ev_var 3 rfl (.inl rfl)) (by exact (ev_cb (call_sumX rfl) cd_sumX (by rfl) T.f_sum boot_sum (eva_cons (ev_var 0 rfl (.inl rfl)) eva_nil)))))
      (evs_cons (evs_for (passes_of rfl) rfl (evi_r1 (by rfl) T.f_range (eva_cons (ev_var 4 rfl (.inl rfl)) eva_nil)) (evg_name (i := 6) hN rfl (.inl rfl)) (evs_cons (evs_set (i := 5) hN rfl (.inl rfl) (ev_bin opr_add opd_add (ev_var 5 rfl (.inl rfl)) (ev_idx (ev_var 0 rfl (.inl rfl)) (ev_bin op_mod opd_mod (by exact (ev_cty call_int1 cd_int1 (by rfl) T.f_int boot_int (eva_cons (ev_bin opr_add opd_add (ev_var 1 rfl (.inl rfl)) (ev_var 6 rfl (.inl rfl))) eva_nil))) (by exact (ev_cb call_len cd_len (by rfl) T.f_len boot_len (eva_cons (ev_var 0 rfl (.inl rfl)) eva_nil)))))))
      evs_nil))
      (evs_cons (evs_ret (ev_var 5 rfl (.inl rfl)))
      evs_nil))))
theorem sc_Round_sum_of : FnScope ["self", "begin", "length"] ["self", "begin", "length"] (defScope st_Round_sum_of) := ⟨rfl, rfl, rfl, by decide +kernel, rfl, by decide +kernel, by decide +kernel⟩
theorem b_Round_sum_of {P : Program} {W : World} {K : PySem.W.Frag} {mg : Str → Option Value} {base : Heap} (T : Fx K mg) (G_height_in : Fn P W K mg base 1 (clA mg ("height_in" : Str)) ["gains", "place"] sp_height_in) (G_need_number : Fn P W K mg base 3 (clA mg ("need_number" : Str)) ["value", "part", "least", "most"] sp_need_number) {cdv : Value} {A : Around} {outer : List Env} {s : Shared} {H : Hp} {E : XK} (hr : Room 3 (A.deeper (envOfC ("Round.sum_of" : Str) (defScope st_Round_sum_of) s.heap.objs.size (He.ma K (clA mg ("Round" : Str)) ("sum_of" : Str)) cdv))) :
    EVSs (cxOf (L2.CX P W) P W K mg base ["self", "begin", "length"] ("Round.sum_of" : Str) (defScope st_Round_sum_of) (He.ma K (clA mg ("Round" : Str)) ("sum_of" : Str)) cdv A outer s H E) (defBody st_Round_sum_of) t_Round_sum_of := by
  have hN := sc_Round_sum_of.nd
  exact (evs_cons (evs_expr (by exact (ev_call G_need_number (hr.mono (by decide)) (by rfl) T.g_need_number T.k_need_number (bd_need_number_4 T) (fun _ => .nil) adF_ok (eva_cons (ev_var 1 rfl (.inl rfl)) (eva_cons ev_str (eva_cons ev_non (eva_cons ev_non eva_nil)))) evk_nil)))
      (evs_cons (evs_expr (by exact (ev_call G_need_number (hr.mono (by decide)) (by rfl) T.g_need_number T.k_need_number (bd_need_number_4 T) (fun _ => .nil) adF_ok (eva_cons (ev_var 2 rfl (.inl rfl)) (eva_cons ev_str (eva_cons ev_int (eva_cons ev_non eva_nil)))) evk_nil)))
      (evs_cons (evs_ret (ev_bin op_sub opd_sub (by exact (ev_call G_height_in (hr.mono (by decide)) (by rfl) T.g_height_in T.k_height_in (bd_height_in_2 T) (fun _ => .nil) adF_ok (eva_cons (ev_fld (ev_var 0 rfl (.inl rfl))) (eva_cons (ev_bin opr_add opd_add (ev_var 1 rfl (.inl rfl)) (ev_var 2 rfl (.inl rfl))) eva_nil)) evk_nil)) (by exact (ev_call G_height_in (hr.mono (by decide)) (by rfl) T.g_height_in T.k_height_in (bd_height_in_2 T) (fun _ => .nil) adF_ok (eva_cons (ev_fld (ev_var 0 rfl (.inl rfl))) (eva_cons (ev_var 1 rfl (.inl rfl)) eva_nil)) evk_nil))))
      evs_nil)))
theorem sc__law_word : FnScope ["_law_told", "_law_one"] ["_law_told"] (defScope st__law_word) := ⟨rfl, rfl, rfl, by decide +kernel, rfl, by decide +kernel, by decide +kernel⟩
theorem b__law_word {P : Program} {W : World} {K : PySem.W.Frag} {mg : Str → Option Value} {base : Heap} (T : Fx K mg) {cdv : Value} {A : Around} {outer : List Env} {s : Shared} {H : Hp} {E : XK} (hr : Room 0 (A.deeper (envOfC ("_law_word" : Str) (defScope st__law_word) s.heap.objs.size (clA mg ("_law_word" : Str)) cdv))) :
    EVSs (cxOf (L2.CX P W) P W K mg base ["_law_told", "_law_one"] ("_law_word" : Str) (defScope st__law_word) (clA mg ("_law_word" : Str)) cdv A outer s H E) (defBody st__law_word) t__law_word := by
  have hN := sc__law_word.nd
  exact (evs_cons (evs_if (by exact (evt_cmp (op_eqD hr.units) opd_eq (by exact (ev_lc (c := false) rfl hN (evi_seq (ev_var 0 rfl (.inl rfl))) (own := [("_law_one", 1)]) (blkOk_by (by rfl)) (by decide) (fun s0 H0 C0 cl0 fp0 => (evg_name (i := 1) hN rfl (by first | exact .inl rfl | exact .inr rfl))) (fun s0 H0 C0 cl0 fp0 => (evts_one (by exact (evt_cmp op_le opd_le (ev_var 1 rfl (by first | exact .inl rfl | exact .inr (.inl rfl) | exact .inr (.inr rfl))) ev_int (nomark _))))) (fun s0 H0 C0 cl0 fp0 => (ev_var 1 rfl (by first | exact .inl rfl | exact .inr (.inl rfl) | exact .inr (.inr rfl)))))) (ev_lst eva_nil) (nomark _))) (evs_cons (evs_ret ev_str)
      evs_nil) evs_nil)
      (evs_cons (evs_if (by exact (evt_cmp (op_eqD hr.units) opd_eq (by exact (ev_lc (c := false) rfl hN (evi_seq (ev_var 0 rfl (.inl rfl))) (own := [("_law_one", 1)]) (blkOk_by (by rfl)) (by decide) (fun s0 H0 C0 cl0 fp0 => (evg_name (i := 1) hN rfl (by first | exact .inl rfl | exact .inr rfl))) (fun s0 H0 C0 cl0 fp0 => (evts_one (by exact (evt_cmp op_ge opd_ge (ev_var 1 rfl (by first | exact .inl rfl | exact .inr (.inl rfl) | exact .inr (.inr rfl))) ev_int (nomark _))))) (fun s0 H0 C0 cl0 fp0 => (ev_var 1 rfl (by first | exact .inl rfl | exact .inr (.inl rfl) | exact .inr (.inr rfl)))))) (ev_lst eva_nil) (nomark _))) (evs_cons (evs_ret ev_str)
      evs_nil) evs_nil)
      (evs_cons (evs_ret (ev_if (by exact (evt_cmp (op_eqD hr.units) opd_eq (by exact (ev_lc (c := false) rfl hN (evi_seq (ev_var 0 rfl (.inl rfl))) (own := [("_law_one", 1)]) (blkOk_by (by rfl)) (by decide) (fun s0 H0 C0 cl0 fp0 => (evg_name (i := 1) hN rfl (by first | exact .inl rfl | exact .inr rfl))) (fun s0 H0 C0 cl0 fp0 => (evts_one (by exact (evt_cmp (op_neD hr.units) opd_ne (ev_var 1 rfl (by first | exact .inl rfl | exact .inr (.inl rfl) | exact .inr (.inr rfl))) ev_int (nomark _))))) (fun s0 H0 C0 cl0 fp0 => (ev_var 1 rfl (by first | exact .inl rfl | exact .inr (.inl rfl) | exact .inr (.inr rfl)))))) (ev_lst eva_nil) (nomark _))) ev_str ev_str))
      evs_nil)))
theorem sc__law_sums_right : FnScope ["_law_mill_here", "_law_around", "_law_gains_here", "_law_days", "_law_turn", "_law_length", "_law_begin", "_law_told", "_law_word_here", "_law_at"] ["_law_mill_here", "_law_around", "_law_gains_here"] (defScope st__law_sums_right) := ⟨rfl, rfl, rfl, by decide +kernel, rfl, by decide +kernel, by decide +kernel⟩
theorem b__law_sums_right {P : Program} {W : World} {K : PySem.W.Frag} {mg : Str → Option Value} {base : Heap} (T : Fx K mg) (G__law_word : Fn P W K mg base 1 (clA mg ("_law_word" : Str)) ["_law_told"] sp__law_word) (G_Round_sort_of : Fn P W K mg base 4 (He.ma K (clA mg ("Round" : Str)) ("sort_of" : Str)) ["self", "length"] sp_Round_sort_of) (G_Round_sum_of : Fn P W K mg base 4 (He.ma K (clA mg ("Round" : Str)) ("sum_of" : Str)) ["self", "begin", "length"] sp_Round_sum_of) (G__law_sum : Fn P W K mg base 1 (clA mg ("_law_sum" : Str)) ["_law_gains_here", "_law_begin", "_law_length"] sp__law_sum) (G__law_grind : Fn P W K mg base 1 (clA mg ("_law_grind" : Str)) ["_law_mill_here", "_law_many"] sp__law_grind) (G__law_pick : Fn P W K mg base 2 (clA mg ("_law_pick" : Str)) ["_law_mill_here", "_law_some"] sp__law_pick) {cdv : Value} {A : Around} {outer : List Env} {s : Shared} {H : Hp} {E : XK} (hr : Room 4 (A.deeper (envOfC ("_law_sums_right" : Str) (defScope st__law_sums_right) s.heap.objs.size (clA mg ("_law_sums_right" : Str)) cdv))) :
    EVSs (cxOf (L2.CX P W) P W K mg base ["_law_mill_here", "_law_around", "_law_gains_here", "_law_days", "_law_turn", "_law_length", "_law_begin", "_law_told", "_law_word_here", "_law_at"] ("_law_sums_right" : Str) (defScope st__law_sums_right) (clA mg ("_law_sums_right" : Str)) cdv A outer s H E) (defBody st__law_sums_right) t__law_sums_right := by
  have hN := sc__law_sums_right.nd
  exact (evs_cons (evs_set (i := 3) hN rfl (.inl rfl) (by exact (ev_cb call_len cd_len (by rfl) T.f_len boot_len (eva_cons (ev_var 2 rfl (.inr (.inl rfl))) eva_nil))))
      (evs_cons (evs_for (passes_of rfl) rfl (evi_r1 (by rfl) T.f_range (eva_cons ev_int eva_nil)) (evg_name (i := 4) hN rfl (.inl rfl)) (evs_cons (evs_set (i := 5) hN rfl (.inr rfl) (ev_bin opr_add opd_add ev_int (by exact (ev_call G__law_grind (hr.mono (by decide)) (by rfl) T.g__law_grind T.k__law_grind (bd__law_grind_2 T) (fun _ => .nil) adF_ok (eva_cons (ev_var 0 rfl (.inl rfl)) (eva_cons (by exact (ev_call G__law_pick (hr.mono (by decide)) (by rfl) T.g__law_pick T.k__law_pick (bd__law_pick_2 T) (fun _ => .nil) adF_ok (eva_cons (ev_var 0 rfl (.inl rfl)) (eva_cons (ev_lst (eva_cons (ev_var 3 rfl (.inl rfl)) (eva_cons (ev_bin opr_add opd_add (ev_bin opr_mul opd_mul ev_int (ev_var 3 rfl (.inl rfl))) ev_int) (eva_cons (ev_bin op_pow opd_pow ev_int ev_int) (eva_cons (ev_bin op_pow opd_pow ev_int ev_int) eva_nil))))) eva_nil)) evk_nil)) eva_nil)) evk_nil))))
      (evs_cons (evs_set (i := 6) hN rfl (.inl rfl) (ev_bin opr_mul opd_mul (ev_bin op_sub opd_sub (by exact (ev_call G__law_grind (hr.mono (by decide)) (by rfl) T.g__law_grind T.k__law_grind (bd__law_grind_2 T) (fun _ => .nil) adF_ok (eva_cons (ev_var 0 rfl (.inl rfl)) (eva_cons ev_int eva_nil)) evk_nil)) ev_int) (by exact (ev_call G__law_pick (hr.mono (by decide)) (by rfl) T.g__law_pick T.k__law_pick (bd__law_pick_2 T) (fun _ => .nil) adF_ok (eva_cons (ev_var 0 rfl (.inl rfl)) (eva_cons (ev_lst (eva_cons ev_int (eva_cons ev_int (eva_cons (ev_bin opr_add opd_add (ev_bin op_pow opd_pow ev_int ev_int) ev_int) eva_nil)))) eva_nil)) evk_nil))))
      (evs_cons (evs_setLc (c := false) (i := 7) rfl hN rfl rfl (sw_true rfl rfl rfl rfl) (evi_r1 (by rfl) T.f_range (eva_cons (ev_var 3 rfl (.inl rfl)) eva_nil)) (own := [("_law_at", 9)]) (blkOk_by (by rfl)) (by decide) (fun s0 H0 C0 cl0 fp0 => (evg_name (i := 9) hN rfl (by first | exact .inl rfl | exact .inr rfl))) (fun s0 H0 C0 cl0 fp0 => evts_nil) (fun s0 H0 C0 cl0 fp0 => (by exact (ev_call G__law_sum (hr.mono (by decide)) (by rfl) T.g__law_sum T.k__law_sum (bd__law_sum_3 T) (fun _ => .nil) adF_ok (eva_cons (ev_var 2 rfl (by first | exact .inl rfl | exact .inr (.inl rfl) | exact .inr (.inr rfl))) (eva_cons (ev_var 9 rfl (by first | exact .inl rfl | exact .inr (.inl rfl) | exact .inr (.inr rfl))) (eva_cons (ev_var 5 rfl (by first | exact .inl rfl | exact .inr (.inl rfl) | exact .inr (.inr rfl))) eva_nil))) evk_nil))))
      (evs_cons (evs_if (evt_w (evw_or (by exact (evt_cmp (op_neD hr.units) opd_ne (by exact (ev_meth (ev_var 1 rfl (.inr (.inl rfl))) T.m_Round_sum_of G_Round_sum_of (hr.mono (by decide)) (bd_Round_sum_of_3 T) (fun _ => .nil) adF_ok (eva_cons (ev_var 6 rfl (.inl rfl)) (eva_cons (ev_var 5 rfl (.inr (.inl rfl))) eva_nil)) evk_nil)) (by exact (ev_call G__law_sum (hr.mono (by decide)) (by rfl) T.g__law_sum T.k__law_sum (bd__law_sum_3 T) (fun _ => .nil) adF_ok (eva_cons (ev_var 2 rfl (.inr (.inl rfl))) (eva_cons (ev_var 6 rfl (.inl rfl)) (eva_cons (ev_var 5 rfl (.inr (.inl rfl))) eva_nil))) evk_nil)) (nomark _))) (evw_or1 (by exact (evt_cmp (op_neD hr.units) opd_ne (by exact (ev_meth0 (ev_var 1 rfl (.inr (.inl rfl))) T.m_Round_sum_of G_Round_sum_of (hr.mono (by decide)) (bd_Round_sum_of_1_length_begin T) (fun _ => .nil) adF_ok (evk_cons (ev_var 5 rfl (.inr (.inl rfl))) (evk_cons (ev_bin opr_add opd_add (ev_var 6 rfl (.inl rfl)) (ev_var 3 rfl (.inl rfl))) evk_nil)))) (by exact (ev_call G__law_sum (hr.mono (by decide)) (by rfl) T.g__law_sum T.k__law_sum (bd__law_sum_3 T) (fun _ => .nil) adF_ok (eva_cons (ev_var 2 rfl (.inr (.inl rfl))) (eva_cons (ev_var 6 rfl (.inl rfl)) (eva_cons (ev_var 5 rfl (.inr (.inl rfl))) eva_nil))) evk_nil)) (nomark _)))))) (evs_cons (evs_ret ev_bl)
      evs_nil) evs_nil)
      (evs_cons (evs_if (evt_w (evw_or (by exact (evt_cmp (op_neD hr.units) opd_ne (by exact (ev_lc (c := false) rfl hN (evi_r1 (by rfl) T.f_range (eva_cons (ev_var 3 rfl (.inl rfl)) eva_nil)) (own := [("_law_at", 9)]) (blkOk_by (by rfl)) (by decide) (fun s0 H0 C0 cl0 fp0 => (evg_name (i := 9) hN rfl (by first | exact .inl rfl | exact .inr rfl))) (fun s0 H0 C0 cl0 fp0 => evts_nil) (fun s0 H0 C0 cl0 fp0 => (by exact (ev_meth (ev_var 1 rfl (by first | exact .inl rfl | exact .inr (.inl rfl) | exact .inr (.inr rfl))) T.m_Round_sum_of G_Round_sum_of (hr.mono (by decide)) (bd_Round_sum_of_3 T) (fun _ => .nil) adF_ok (eva_cons (ev_var 9 rfl (by first | exact .inl rfl | exact .inr (.inl rfl) | exact .inr (.inr rfl))) (eva_cons (ev_var 5 rfl (by first | exact .inl rfl | exact .inr (.inl rfl) | exact .inr (.inr rfl))) eva_nil)) evk_nil))))) (ev_var 7 rfl (.inl rfl)) (nomark _))) (evw_or1 (by exact (evt_cmp (op_neD hr.units) opd_ne (by exact (ev_cb (call_sumX rfl) cd_sumX (by rfl) T.f_sum boot_sum (eva_cons (ev_var 7 rfl (.inl rfl)) eva_nil))) (ev_bin opr_mul opd_mul (ev_var 5 rfl (.inr (.inl rfl))) (ev_fld (ev_var 1 rfl (.inr (.inl rfl))))) (nomark _)))))) (evs_cons (evs_ret ev_bl)
      evs_nil) evs_nil)
      (evs_cons (evs_set (i := 8) hN rfl (.inl rfl) (by exact (ev_meth0 (ev_var 1 rfl (.inr (.inl rfl))) T.m_Round_sort_of G_Round_sort_of (hr.mono (by decide)) (bd_Round_sort_of_1_length T) (fun _ => .nil) adF_ok (evk_cons (ev_var 5 rfl (.inr (.inl rfl))) evk_nil))))
      (evs_cons (evs_if (evt_w (evw_or (by exact (evt_cmp (op_neD hr.units) opd_ne (ev_var 8 rfl (.inl rfl)) (by exact (ev_call G__law_word (hr.mono (by decide)) (by rfl) T.g__law_word T.k__law_word (bd__law_word_1 T) (fun _ => .nil) adF_ok (eva_cons (ev_var 7 rfl (.inl rfl)) eva_nil) evk_nil)) (nomark _))) (evw_or1 (by exact (evt_cmp op_notIn_seq (opd_in true) (by exact (ev_meth (ev_var 1 rfl (.inr (.inl rfl))) T.m_Round_sort_of G_Round_sort_of (hr.mono (by decide)) (bd_Round_sort_of_2 T) (fun _ => .nil) adF_ok (eva_cons (ev_bin opr_add opd_add (ev_var 5 rfl (.inr (.inl rfl))) (ev_var 3 rfl (.inl rfl))) eva_nil) evk_nil)) (ev_tup (eva_cons ev_str (eva_cons ev_str (eva_cons ev_str (eva_cons ev_str eva_nil))))) (by rfl)))))) (evs_cons (evs_ret ev_bl)
      evs_nil) evs_nil)
      (evs_cons (evs_if (evt_w (evw_or (evt_w (evw_and (by exact (evt_cmp (op_eqD hr.units) opd_eq (ev_fld (ev_var 1 rfl (.inr (.inl rfl)))) ev_int (nomark _))) (evw_and1 (by exact (evt_cmp op_in_seq (opd_in false) (ev_var 8 rfl (.inl rfl)) (ev_tup (eva_cons ev_str (eva_cons ev_str eva_nil))) (by rfl)))))) (evw_or1 (evt_w (evw_and (by exact (evt_cmp op_gt opd_gt (ev_fld (ev_var 1 rfl (.inr (.inl rfl)))) ev_int (nomark _))) (evw_and1 (by exact (evt_cmp op_in_seq (opd_in false) (ev_var 8 rfl (.inl rfl)) (ev_tup (eva_cons ev_str (eva_cons ev_str eva_nil))) (by rfl))))))))) (evs_cons (evs_ret ev_bl)
      evs_nil) evs_nil)
      (evs_cons (evs_if (evt_w (evw_and (by exact (evt_cmp op_lt opd_lt (ev_fld (ev_var 1 rfl (.inr (.inl rfl)))) ev_int (nomark _))) (evw_and1 (by exact (evt_cmp op_in_seq (opd_in false) (ev_var 8 rfl (.inl rfl)) (ev_tup (eva_cons ev_str (eva_cons ev_str eva_nil))) (by rfl)))))) (evs_cons (evs_ret ev_bl)
      evs_nil) evs_nil)
      evs_nil))))))))))
      (evs_cons (evs_ret ev_bl)
      evs_nil)))
theorem sc_Round_turned : FnScope ["self", "by", "day"] ["self", "by"] (defScope st_Round_turned) := ⟨rfl, rfl, rfl, by decide +kernel, rfl, by decide +kernel, by decide +kernel⟩
theorem b_Round_turned {P : Program} {W : World} {K : PySem.W.Frag} {mg : Str → Option Value} {base : Heap} (T : Fx K mg) (G_Round_X__init_X_ : Fn P W K mg base 3 (He.ma K (clA mg ("Round" : Str)) ("__init__" : Str)) ["self", "gains"] sp_Round_X__init_X_) (G_need_number : Fn P W K mg base 3 (clA mg ("need_number" : Str)) ["value", "part", "least", "most"] sp_need_number) {cdv : Value} {A : Around} {outer : List Env} {s : Shared} {H : Hp} {E : XK} (hr : Room 4 (A.deeper (envOfC ("Round.turned" : Str) (defScope st_Round_turned) s.heap.objs.size (He.ma K (clA mg ("Round" : Str)) ("turned" : Str)) cdv))) :
    EVSs (cxOf (L2.CX P W) P W K mg base ["self", "by", "day"] ("Round.turned" : Str) (defScope st_Round_turned) (He.ma K (clA mg ("Round" : Str)) ("turned" : Str)) cdv A outer s H E) (defBody st_Round_turned) t_Round_turned := by
  have hN := sc_Round_turned.nd
  exact (evs_cons (evs_expr (by exact (ev_call G_need_number (hr.mono (by decide)) (by rfl) T.g_need_number T.k_need_number (bd_need_number_4 T) (fun _ => .nil) adF_ok (eva_cons (ev_var 1 rfl (.inr (.inl rfl))) (eva_cons ev_str (eva_cons ev_non (eva_cons ev_non eva_nil)))) evk_nil)))
      (evs_cons (evs_ret (by exact (ev_make (b := false) T.mk_Round G_Round_X__init_X_ T.c_Round (hr.mono (by decide)) (by rfl) T.g_Round (bd_Round_X__init_X__2 T) (fun _ => .nil) (eva_cons (by exact (ev_lc (c := false) rfl hN (evi_r1 (by rfl) T.f_range (eva_cons (ev_fld (ev_var 0 rfl (.inr (.inl rfl)))) eva_nil)) (own := [("day", 2)]) (blkOk_by (by rfl)) (by decide) (fun s0 H0 C0 cl0 fp0 => (evg_name (i := 2) hN rfl (by first | exact .inl rfl | exact .inr rfl))) (fun s0 H0 C0 cl0 fp0 => evts_nil) (fun s0 H0 C0 cl0 fp0 => (ev_idx (ev_fld (ev_var 0 rfl (by first | exact .inl rfl | exact .inr (.inl rfl) | exact .inr (.inr rfl)))) (ev_bin op_mod opd_mod (ev_bin opr_add opd_add (ev_var 1 rfl (by first | exact .inl rfl | exact .inr (.inl rfl) | exact .inr (.inr rfl))) (ev_var 2 rfl (by first | exact .inl rfl | exact .inr (.inl rfl) | exact .inr (.inr rfl)))) (ev_fld (ev_var 0 rfl (by first | exact .inl rfl | exact .inr (.inl rfl) | exact .inr (.inr rfl))))))))) eva_nil) evk_nil)))
      evs_nil))
theorem sc_heights_of : FnScope ["gains", "found", "gain"] ["gains"] (defScope st_heights_of) := ⟨rfl, rfl, rfl, by decide +kernel, rfl, by decide +kernel, by decide +kernel⟩
theorem b_heights_of {P : Program} {W : World} {K : PySem.W.Frag} {mg : Str → Option Value} {base : Heap} (T : Fx K mg) {cdv : Value} {A : Around} {outer : List Env} {s : Shared} {H : Hp} {E : XK} (hr : Room 0 (A.deeper (envOfC ("heights_of" : Str) (defScope st_heights_of) s.heap.objs.size (clA mg ("heights_of" : Str)) cdv))) :
    EVSs (cxOf (L2.CX P W) P W K mg base ["gains", "found", "gain"] ("heights_of" : Str) (defScope st_heights_of) (clA mg ("heights_of" : Str)) cdv A outer s H E) (defBody st_heights_of) t_heights_of := by
  have hN := sc_heights_of.nd
  exact (evs_cons (evs_set (i := 1) hN rfl (.inl rfl) (ev_lstC (eva_cons ev_int eva_nil)))
      (evs_cons (evs_for (passes_of rfl) rfl (evi_seq (ev_var 0 rfl (.inl rfl))) (evg_name (i := 2) hN rfl (.inl rfl)) (evs_cons (evs_expr (by exact (ev_app (ev_var 1 rfl (.inl rfl)) (ev_bin opr_add opd_add (ev_idx (ev_var 1 rfl (.inl rfl)) (ev_neg ev_int)) (ev_var 2 rfl (.inl rfl))))))
      evs_nil))
      (evs_cons (evs_ret (by exact (ev_cty call_tuple_of cd_tup (by rfl) T.f_tuple boot_tuple (eva_cons (ev_var 1 rfl (.inl rfl)) eva_nil))))
      evs_nil)))
theorem sc_Row_X__init_X_ : FnScope ["self", "gains"] ["self", "gains"] (defScope st_Row_X__init_X_) := ⟨rfl, rfl, rfl, by decide +kernel, rfl, by decide +kernel, by decide +kernel⟩
theorem b_Row_X__init_X_ {P : Program} {W : World} {K : PySem.W.Frag} {mg : Str → Option Value} {base : Heap} (T : Fx K mg) (G_heights_of : Fn P W K mg base 1 (clA mg ("heights_of" : Str)) ["gains"] sp_heights_of) (G_are_integers : Fn P W K mg base 2 (clA mg ("are_integers" : Str)) ["value"] sp_are_integers) {cdv : Value} {A : Around} {outer : List Env} {s : Shared} {H : Hp} {E : XK} (hr : Room 2 (A.deeper (envOfC ("Row.__init__" : Str) (defScope st_Row_X__init_X_) s.heap.objs.size (He.ma K (clA mg ("Row" : Str)) ("__init__" : Str)) cdv))) :
    EVSs (cxOf (L2.CX P W) P W K mg base ["self", "gains"] ("Row.__init__" : Str) (defScope st_Row_X__init_X_) (He.ma K (clA mg ("Row" : Str)) ("__init__" : Str)) cdv A outer s H E) (defBody st_Row_X__init_X_) t_Row_X__init_X_ := by
  have hN := sc_Row_X__init_X_.nd
  exact (evs_cons (evs_if (evt_w (evw_or (evt_not (evt_tru (by exact (ev_call G_are_integers (hr.mono (by decide)) (by rfl) T.g_are_integers T.k_are_integers (bd_are_integers_1 T) (fun _ => .nil) adF_ok (eva_cons (ev_var 1 rfl (.inl rfl)) eva_nil) evk_nil)))) (evw_or1 (by exact (evt_cmp (op_eqD hr.units) opd_eq (by exact (ev_cb call_len cd_len (by rfl) T.f_len boot_len (eva_cons (ev_var 1 rfl (.inl rfl)) eva_nil))) ev_int (nomark _)))))) (evs_cons (evs_raise1 rfl (ex_BadRow T) (hr.mono (by decide)) (eva_cons ev_str eva_nil) rfl)
      evs_nil) evs_nil)
      (evs_cons (evs_if (by exact (evt_cmp op_gt opd_gt (by exact (ev_cb call_len cd_len (by rfl) T.f_len boot_len (eva_cons (ev_var 1 rfl (.inl rfl)) eva_nil))) (by exact (glob_int (by rfl) T.i_MOST_DAYS_rows)) (nomark _))) (evs_cons (evs_raise2 rfl (ex_TooMany T) (hr.mono (by decide)) (eva_cons ev_str (eva_cons (by exact (glob_int (by rfl) T.i_MOST_DAYS_rows)) eva_nil)) rfl)
      evs_nil) evs_nil)
      (evs_cons (evs_fld (C := "Row") T.n_Row_gains (ev_var 0 rfl (.inl rfl)) (by exact (ev_cty call_tuple_of cd_tup (by rfl) T.f_tuple boot_tuple (eva_cons (ev_var 1 rfl (.inl rfl)) eva_nil))))
      (evs_cons (evs_fld (C := "Row") T.n_Row_heights (ev_var 0 rfl (.inl rfl)) (by exact (ev_call G_heights_of (hr.mono (by decide)) (by rfl) T.g_heights_of T.k_heights_of (bd_heights_of_1 T) (fun _ => .nil) adF_ok (eva_cons (ev_var 1 rfl (.inl rfl)) eva_nil) evk_nil)))
      (evs_cons (evs_fld (C := "Row") T.n_Row_days (ev_var 0 rfl (.inl rfl)) (by exact (ev_cb call_len cd_len (by rfl) T.f_len boot_len (eva_cons (ev_var 1 rfl (.inl rfl)) eva_nil))))
      (evs_cons (evs_fld (C := "Row") T.n_Row_total (ev_var 0 rfl (.inl rfl)) (ev_idx (ev_fld (ev_var 0 rfl (.inl rfl))) (ev_neg ev_int)))
      evs_nil))))))
theorem sc_Round_row : FnScope ["self", "begin", "days", "day"] ["self", "begin", "days"] (defScope st_Round_row) := ⟨rfl, rfl, rfl, by decide +kernel, rfl, by decide +kernel, by decide +kernel⟩
theorem b_Round_row {P : Program} {W : World} {K : PySem.W.Frag} {mg : Str → Option Value} {base : Heap} (T : Fx K mg) (G_Row_X__init_X_ : Fn P W K mg base 3 (He.ma K (clA mg ("Row" : Str)) ("__init__" : Str)) ["self", "gains"] sp_Row_X__init_X_) (G_need_number : Fn P W K mg base 3 (clA mg ("need_number" : Str)) ["value", "part", "least", "most"] sp_need_number) {cdv : Value} {A : Around} {outer : List Env} {s : Shared} {H : Hp} {E : XK} (hr : Room 4 (A.deeper (envOfC ("Round.row" : Str) (defScope st_Round_row) s.heap.objs.size (He.ma K (clA mg ("Round" : Str)) ("row" : Str)) cdv))) :
    EVSs (cxOf (L2.CX P W) P W K mg base ["self", "begin", "days", "day"] ("Round.row" : Str) (defScope st_Round_row) (He.ma K (clA mg ("Round" : Str)) ("row" : Str)) cdv A outer s H E) (defBody st_Round_row) t_Round_row := by
  have hN := sc_Round_row.nd
  exact (evs_cons (evs_expr (by exact (ev_call G_need_number (hr.mono (by decide)) (by rfl) T.g_need_number T.k_need_number (bd_need_number_4 T) (fun _ => .nil) adF_ok (eva_cons (ev_var 1 rfl (.inr (.inl rfl))) (eva_cons ev_str (eva_cons ev_non (eva_cons ev_non eva_nil)))) evk_nil)))
      (evs_cons (evs_expr (by exact (ev_call G_need_number (hr.mono (by decide)) (by rfl) T.g_need_number T.k_need_number (bd_need_number_4 T) (fun _ => .nil) adF_ok (eva_cons (ev_var 2 rfl (.inl rfl)) (eva_cons ev_str (eva_cons ev_int (eva_cons (by exact (glob_int (by rfl) T.i_MOST_DAYS_books)) eva_nil)))) evk_nil)))
      (evs_cons (evs_ret (by exact (ev_make (b := false) T.mk_Row G_Row_X__init_X_ T.c_Row (hr.mono (by decide)) (by rfl) T.g_Row (bd_Row_X__init_X__2 T) (fun _ => .nil) (eva_cons (by exact (ev_lc (c := false) rfl hN (evi_r1 (by rfl) T.f_range (eva_cons (ev_var 2 rfl (.inl rfl)) eva_nil)) (own := [("day", 3)]) (blkOk_by (by rfl)) (by decide) (fun s0 H0 C0 cl0 fp0 => (evg_name (i := 3) hN rfl (by first | exact .inl rfl | exact .inr rfl))) (fun s0 H0 C0 cl0 fp0 => evts_nil) (fun s0 H0 C0 cl0 fp0 => (ev_idx (ev_fld (ev_var 0 rfl (by first | exact .inl rfl | exact .inr (.inl rfl) | exact .inr (.inr rfl)))) (ev_bin op_mod opd_mod (ev_bin opr_add opd_add (ev_var 1 rfl (by first | exact .inl rfl | exact .inr (.inl rfl) | exact .inr (.inr rfl))) (ev_var 3 rfl (by first | exact .inl rfl | exact .inr (.inl rfl) | exact .inr (.inr rfl)))) (ev_fld (ev_var 0 rfl (by first | exact .inl rfl | exact .inr (.inl rfl) | exact .inr (.inr rfl))))))))) eva_nil) evk_nil)))
      evs_nil)))
theorem sc_Round_twice : FnScope ["self"] ["self"] (defScope st_Round_twice) := ⟨rfl, rfl, rfl, by decide +kernel, rfl, by decide +kernel, by decide +kernel⟩
theorem b_Round_twice {P : Program} {W : World} {K : PySem.W.Frag} {mg : Str → Option Value} {base : Heap} (T : Fx K mg) (G_Round_X__init_X_ : Fn P W K mg base 3 (He.ma K (clA mg ("Round" : Str)) ("__init__" : Str)) ["self", "gains"] sp_Round_X__init_X_) {cdv : Value} {A : Around} {outer : List Env} {s : Shared} {H : Hp} {E : XK} (hr : Room 4 (A.deeper (envOfC ("Round.twice" : Str) (defScope st_Round_twice) s.heap.objs.size (He.ma K (clA mg ("Round" : Str)) ("twice" : Str)) cdv))) :
    EVSs (cxOf (L2.CX P W) P W K mg base ["self"] ("Round.twice" : Str) (defScope st_Round_twice) (He.ma K (clA mg ("Round" : Str)) ("twice" : Str)) cdv A outer s H E) (defBody st_Round_twice) t_Round_twice := by
  have hN := sc_Round_twice.nd
  exact (evs_cons (evs_ret (by exact (ev_make (b := false) T.mk_Round G_Round_X__init_X_ T.c_Round (hr.mono (by decide)) (by rfl) T.g_Round (bd_Round_X__init_X__2 T) (fun _ => .nil) (eva_cons (ev_lst (eva_star (ev_fld (ev_var 0 rfl (.inl rfl))) (eva_star (ev_fld (ev_var 0 rfl (.inl rfl))) eva_nil))) eva_nil) evk_nil)))
      evs_nil)
theorem sc__law_other_right : FnScope ["_law_mill_here", "_law_around", "_law_gains_here", "_law_days", "_law_by", "_law_turned", "_law_length", "_law_twice", "_law_many", "_law_row", "_law_day"] ["_law_mill_here", "_law_around", "_law_gains_here"] (defScope st__law_other_right) := ⟨rfl, rfl, rfl, by decide +kernel, rfl, by decide +kernel, by decide +kernel⟩
theorem b__law_other_right {P : Program} {W : World} {K : PySem.W.Frag} {mg : Str → Option Value} {base : Heap} (T : Fx K mg) (G_Round_row : Fn P W K mg base 5 (He.ma K (clA mg ("Round" : Str)) ("row" : Str)) ["self", "begin", "days"] sp_Round_row) (G__law_grind : Fn P W K mg base 1 (clA mg ("_law_grind" : Str)) ["_law_mill_here", "_law_many"] sp__law_grind) (G_Round_sort_of : Fn P W K mg base 4 (He.ma K (clA mg ("Round" : Str)) ("sort_of" : Str)) ["self", "length"] sp_Round_sort_of) (G_Round_X__len_X_ : Fn P W K mg base 1 (He.ma K (clA mg ("Round" : Str)) ("__len__" : Str)) ["self"] sp_Round_X__len_X_) (G_Round_X__eq_X_ : Fn P W K mg base 1 (He.ma K (clA mg ("Round" : Str)) ("__eq__" : Str)) ["self", "other"] sp_Round_X__eq_X_) (G_Round_twice : Fn P W K mg base 5 (He.ma K (clA mg ("Round" : Str)) ("twice" : Str)) ["self"] sp_Round_twice) (G_Round_sum_of : Fn P W K mg base 4 (He.ma K (clA mg ("Round" : Str)) ("sum_of" : Str)) ["self", "begin", "length"] sp_Round_sum_of) (G_Round_turned : Fn P W K mg base 5 (He.ma K (clA mg ("Round" : Str)) ("turned" : Str)) ["self", "by"] sp_Round_turned) (G__law_pick : Fn P W K mg base 2 (clA mg ("_law_pick" : Str)) ["_law_mill_here", "_law_some"] sp__law_pick) {cdv : Value} {A : Around} {outer : List Env} {s : Shared} {H : Hp} {E : XK} (hr : Room 5 (A.deeper (envOfC ("_law_other_right" : Str) (defScope st__law_other_right) s.heap.objs.size (clA mg ("_law_other_right" : Str)) cdv))) :
    EVSs (cxOf (L2.CX P W) P W K mg base ["_law_mill_here", "_law_around", "_law_gains_here", "_law_days", "_law_by", "_law_turned", "_law_length", "_law_twice", "_law_many", "_law_row", "_law_day"] ("_law_other_right" : Str) (defScope st__law_other_right) (clA mg ("_law_other_right" : Str)) cdv A outer s H E) (defBody st__law_other_right) t__law_other_right := by
  have hN := sc__law_other_right.nd
  exact (evs_cons (evs_asg (ev_tup (eva_cons (by exact (ev_cb call_len cd_len (by rfl) T.f_len boot_len (eva_cons (ev_var 2 rfl (.inr (.inl rfl))) eva_nil))) (eva_cons (ev_bin opr_mul opd_mul (ev_bin op_sub opd_sub (by exact (ev_call G__law_grind (hr.mono (by decide)) (by rfl) T.g__law_grind T.k__law_grind (bd__law_grind_2 T) (fun _ => .nil) adF_ok (eva_cons (ev_var 0 rfl (.inl rfl)) (eva_cons ev_int eva_nil)) evk_nil)) ev_int) (by exact (ev_call G__law_pick (hr.mono (by decide)) (by rfl) T.g__law_pick T.k__law_pick (bd__law_pick_2 T) (fun _ => .nil) adF_ok (eva_cons (ev_var 0 rfl (.inl rfl)) (eva_cons (ev_lst (eva_cons ev_int (eva_cons (ev_bin opr_add opd_add (ev_bin op_pow opd_pow ev_int ev_int) ev_int) eva_nil))) eva_nil)) evk_nil))) eva_nil))) (evg_tup rfl (evgs_cons (evg_name (i := 3) hN rfl (.inr rfl)) (evgs_cons (evg_name (i := 4) hN rfl (.inr rfl)) evgs_nil))))
      (evs_cons (evs_set (i := 5) hN rfl (.inl rfl) (by exact (ev_meth0 (ev_var 1 rfl (.inl rfl)) T.m_Round_turned G_Round_turned (hr.mono (by decide)) (bd_Round_turned_1_by T) (fun _ => .nil) adF_ok (evk_cons (ev_var 4 rfl (.inr (.inl rfl))) evk_nil))))
      (evs_cons (evs_if (evt_w (evw_or (by exact (evt_cmp (op_neD hr.units) opd_ne (ev_fld (ev_var 5 rfl (.inl rfl))) (by exact (ev_cty call_tuple_of cd_tup (by rfl) T.f_tuple boot_tuple (eva_cons (by exact (ev_lc (c := false) rfl hN (evi_r1 (by rfl) T.f_range (eva_cons (ev_var 3 rfl (.inr (.inl rfl))) eva_nil)) (own := [("_law_day", 10)]) (blkOk_by (by rfl)) (by decide) (fun s0 H0 C0 cl0 fp0 => (evg_name (i := 10) hN rfl (by first | exact .inl rfl | exact .inr rfl))) (fun s0 H0 C0 cl0 fp0 => evts_nil) (fun s0 H0 C0 cl0 fp0 => (ev_idx (ev_var 2 rfl (by first | exact .inl rfl | exact .inr (.inl rfl) | exact .inr (.inr rfl))) (ev_bin op_mod opd_mod (by exact (ev_cty call_int1 cd_int1 (by rfl) T.f_int boot_int (eva_cons (ev_bin opr_add opd_add (ev_var 4 rfl (by first | exact .inl rfl | exact .inr (.inl rfl) | exact .inr (.inr rfl))) (ev_var 10 rfl (by first | exact .inl rfl | exact .inr (.inl rfl) | exact .inr (.inr rfl)))) eva_nil))) (ev_var 3 rfl (by first | exact .inl rfl | exact .inr (.inl rfl) | exact .inr (.inr rfl)))))))) eva_nil))) (nomark _))) (evw_or1 (by exact (evt_cmp (op_neD hr.units) opd_ne (ev_fld (ev_var 5 rfl (.inl rfl))) (ev_fld (ev_var 1 rfl (.inl rfl))) (nomark _)))))) (evs_cons (evs_ret ev_bl)
      evs_nil) evs_nil)
      (evs_cons (evs_if (by exact (evt_neO T.isa T.nf_Round ⟨T.eqo_Round.1, T.eqo_Round.2, T.eqo_Round.3, T.eqo_Round.4⟩ G_Round_X__eq_X_ (hr.mono (by decide)) (bd_Round_X__eq_X__2 T) (by exact (ev_meth (ev_var 5 rfl (.inl rfl)) T.m_Round_turned G_Round_turned (hr.mono (by decide)) (bd_Round_turned_2 T) (fun _ => .nil) adF_ok (eva_cons (ev_neg (ev_var 4 rfl (.inr (.inl rfl)))) eva_nil) evk_nil)) (ev_var 1 rfl (.inl rfl)))) (evs_cons (evs_ret ev_bl)
      evs_nil) evs_nil)
      (evs_cons (evs_set (i := 6) hN rfl (.inl rfl) (ev_bin opr_add opd_add ev_int (by exact (ev_call G__law_grind (hr.mono (by decide)) (by rfl) T.g__law_grind T.k__law_grind (bd__law_grind_2 T) (fun _ => .nil) adF_ok (eva_cons (ev_var 0 rfl (.inl rfl)) (eva_cons (ev_bin opr_mul opd_mul ev_int (ev_var 3 rfl (.inr (.inl rfl)))) eva_nil)) evk_nil))))
      (evs_cons (evs_if (evt_w (evw_or (by exact (evt_cmp (op_neD hr.units) opd_ne (by exact (ev_meth (ev_var 5 rfl (.inl rfl)) T.m_Round_sum_of G_Round_sum_of (hr.mono (by decide)) (bd_Round_sum_of_3 T) (fun _ => .nil) adF_ok (eva_cons ev_int (eva_cons (ev_var 6 rfl (.inl rfl)) eva_nil)) evk_nil)) (by exact (ev_meth (ev_var 1 rfl (.inl rfl)) T.m_Round_sum_of G_Round_sum_of (hr.mono (by decide)) (bd_Round_sum_of_3 T) (fun _ => .nil) adF_ok (eva_cons (ev_var 4 rfl (.inr (.inl rfl))) (eva_cons (ev_var 6 rfl (.inl rfl)) eva_nil)) evk_nil)) (nomark _))) (evw_or1 (by exact (evt_cmp (op_neD hr.units) opd_ne (by exact (ev_meth (ev_var 5 rfl (.inl rfl)) T.m_Round_sort_of G_Round_sort_of (hr.mono (by decide)) (bd_Round_sort_of_2 T) (fun _ => .nil) adF_ok (eva_cons (ev_var 6 rfl (.inl rfl)) eva_nil) evk_nil)) (by exact (ev_meth (ev_var 1 rfl (.inl rfl)) T.m_Round_sort_of G_Round_sort_of (hr.mono (by decide)) (bd_Round_sort_of_2 T) (fun _ => .nil) adF_ok (eva_cons (ev_var 6 rfl (.inl rfl)) eva_nil) evk_nil)) (nomark _)))))) (evs_cons (evs_ret ev_bl)
      evs_nil) evs_nil)
      (evs_cons (evs_if (by exact (evt_cmp op_le opd_le (ev_bin opr_mul opd_mul ev_int (ev_var 3 rfl (.inr (.inl rfl)))) ev_int (nomark _))) (evs_cons (evs_set (i := 7) hN rfl (.inl rfl) (by exact (ev_meth0 (ev_var 1 rfl (.inl rfl)) T.m_Round_twice G_Round_twice (hr.mono (by decide)) (bd_Round_twice_1 T) (fun _ => .nil) adF_ok evk_nil)))
      (evs_cons (evs_if (evt_w (evw_or (by exact (evt_cmp (op_neD hr.units) opd_ne (ev_fld (ev_var 7 rfl (.inl rfl))) (by exact (ev_cty call_tuple_of cd_tup (by rfl) T.f_tuple boot_tuple (eva_cons (ev_bin opr_add opd_add (ev_var 2 rfl (.inr (.inl rfl))) (ev_var 2 rfl (.inr (.inl rfl)))) eva_nil))) (nomark _))) (evw_or (by exact (evt_cmp (op_neD hr.units) opd_ne (by exact (ev_lenO ⟨T.leno_Round.1, T.leno_Round.2⟩ G_Round_X__len_X_ (hr.mono (by decide)) (bd_Round_X__len_X__1 T) (by rfl) T.f_len (ev_var 7 rfl (.inl rfl)))) (ev_bin opr_mul opd_mul ev_int (ev_var 3 rfl (.inr (.inl rfl)))) (nomark _))) (evw_or1 (by exact (evt_eqO T.isa T.nf_Round ⟨T.eqo_Round.1, T.eqo_Round.2, T.eqo_Round.3, T.eqo_Round.4⟩ G_Round_X__eq_X_ (hr.mono (by decide)) (bd_Round_X__eq_X__2 T) (ev_var 7 rfl (.inl rfl)) (ev_var 1 rfl (.inl rfl)))))))) (evs_cons (evs_ret ev_bl)
      evs_nil) evs_nil)
      (evs_cons (evs_if (by exact (evt_cmp (op_neD hr.units) opd_ne (by exact (ev_meth (ev_var 7 rfl (.inl rfl)) T.m_Round_sort_of G_Round_sort_of (hr.mono (by decide)) (bd_Round_sort_of_2 T) (fun _ => .nil) adF_ok (eva_cons (ev_var 6 rfl (.inl rfl)) eva_nil) evk_nil)) (by exact (ev_meth (ev_var 1 rfl (.inl rfl)) T.m_Round_sort_of G_Round_sort_of (hr.mono (by decide)) (bd_Round_sort_of_2 T) (fun _ => .nil) adF_ok (eva_cons (ev_var 6 rfl (.inl rfl)) eva_nil) evk_nil)) (nomark _))) (evs_cons (evs_ret ev_bl)
      evs_nil) evs_nil)
      evs_nil))) evs_nil)
      (evs_cons (evs_set (i := 8) hN rfl (.inl rfl) (ev_bin opr_add opd_add ev_int (by exact (ev_call G__law_grind (hr.mono (by decide)) (by rfl) T.g__law_grind T.k__law_grind (bd__law_grind_2 T) (fun _ => .nil) adF_ok (eva_cons (ev_var 0 rfl (.inl rfl)) (eva_cons ev_int eva_nil)) evk_nil))))
      (evs_cons (evs_set (i := 9) hN rfl (.inl rfl) (by exact (ev_meth0 (ev_var 1 rfl (.inl rfl)) T.m_Round_row G_Round_row (hr.mono (by decide)) (bd_Round_row_1_days_begin T) (fun _ => .nil) adF_ok (evk_cons (ev_var 8 rfl (.inl rfl)) (evk_cons (ev_var 4 rfl (.inr (.inl rfl))) evk_nil)))))
      (evs_cons (evs_if (evt_w (evw_or (evt_not (evt_tru (by exact (ev_is T.isa T.ok_Row (by rfl) T.f_isinstance (ev_var 9 rfl (.inl rfl)) ⟨rfl, by decide, rfl, T.g_Row⟩)))) (evw_or1 (by exact (evt_cmp (op_neD hr.units) opd_ne (ev_fld (ev_var 9 rfl (.inl rfl))) (by exact (ev_cty call_tuple_of cd_tup (by rfl) T.f_tuple boot_tuple (eva_cons (by exact (ev_lc (c := false) rfl hN (evi_r1 (by rfl) T.f_range (eva_cons (ev_var 8 rfl (.inl rfl)) eva_nil)) (own := [("_law_day", 10)]) (blkOk_by (by rfl)) (by decide) (fun s0 H0 C0 cl0 fp0 => (evg_name (i := 10) hN rfl (by first | exact .inl rfl | exact .inr rfl))) (fun s0 H0 C0 cl0 fp0 => evts_nil) (fun s0 H0 C0 cl0 fp0 => (ev_idx (ev_var 2 rfl (by first | exact .inl rfl | exact .inr (.inl rfl) | exact .inr (.inr rfl))) (ev_bin op_mod opd_mod (by exact (ev_cty call_int1 cd_int1 (by rfl) T.f_int boot_int (eva_cons (ev_bin opr_add opd_add (ev_var 4 rfl (by first | exact .inl rfl | exact .inr (.inl rfl) | exact .inr (.inr rfl))) (ev_var 10 rfl (by first | exact .inl rfl | exact .inr (.inl rfl) | exact .inr (.inr rfl)))) eva_nil))) (ev_var 3 rfl (by first | exact .inl rfl | exact .inr (.inl rfl) | exact .inr (.inr rfl)))))))) eva_nil))) (nomark _)))))) (evs_cons (evs_ret ev_bl)
      evs_nil) evs_nil)
      (evs_cons (evs_ret (by exact (ev_cmp (op_eqD hr.units) opd_eq (ev_fld (by exact (ev_meth (ev_var 1 rfl (.inl rfl)) T.m_Round_row G_Round_row (hr.mono (by decide)) (bd_Round_row_3 T) (fun _ => .nil) adF_ok (eva_cons ev_int (eva_cons (ev_var 3 rfl (.inr (.inl rfl))) eva_nil)) evk_nil))) (ev_fld (ev_var 1 rfl (.inl rfl))) (nomark _))))
      evs_nil)))))))))))
theorem sc_need_bound : FnScope ["value", "part"] ["value", "part"] (defScope st_need_bound) := ⟨rfl, rfl, rfl, by decide +kernel, rfl, by decide +kernel, by decide +kernel⟩
theorem b_need_bound {P : Program} {W : World} {K : PySem.W.Frag} {mg : Str → Option Value} {base : Heap} (T : Fx K mg) (G_is_integer : Fn P W K mg base 1 (clA mg ("is_integer" : Str)) ["value"] sp_is_integer) {cdv : Value} {A : Around} {outer : List Env} {s : Shared} {H : Hp} {E : XK} (hr : Room 2 (A.deeper (envOfC ("need_bound" : Str) (defScope st_need_bound) s.heap.objs.size (clA mg ("need_bound" : Str)) cdv))) :
    EVSs (cxOf (L2.CX P W) P W K mg base ["value", "part"] ("need_bound" : Str) (defScope st_need_bound) (clA mg ("need_bound" : Str)) cdv A outer s H E) (defBody st_need_bound) t_need_bound := by
  have hN := sc_need_bound.nd
  exact (evs_cons (evs_if (evt_w (evw_and (by exact (evt_cmp op_notN opd_notN (ev_var 0 rfl (.inl rfl)) ev_non (nomark _))) (evw_and1 (evt_not (evt_tru (by exact (ev_call G_is_integer (hr.mono (by decide)) (by rfl) T.g_is_integer T.k_is_integer (bd_is_integer_1 T) (fun _ => .nil) adF_ok (eva_cons (ev_var 0 rfl (.inl rfl)) eva_nil) evk_nil))))))) (evs_cons (evs_raise1 rfl (ex_BadNumber T) (hr.mono (by decide)) (eva_cons (ev_var 1 rfl (.inl rfl)) eva_nil) rfl)
      evs_nil) evs_nil)
      evs_nil)
theorem sc_are_bounds : FnScope ["low", "high"] ["low", "high"] (defScope st_are_bounds) := ⟨rfl, rfl, rfl, by decide +kernel, rfl, by decide +kernel, by decide +kernel⟩
theorem b_are_bounds {P : Program} {W : World} {K : PySem.W.Frag} {mg : Str → Option Value} {base : Heap} (T : Fx K mg) {cdv : Value} {A : Around} {outer : List Env} {s : Shared} {H : Hp} {E : XK} (hr : Room 0 (A.deeper (envOfC ("are_bounds" : Str) (defScope st_are_bounds) s.heap.objs.size (clA mg ("are_bounds" : Str)) cdv))) :
    EVSs (cxOf (L2.CX P W) P W K mg base ["low", "high"] ("are_bounds" : Str) (defScope st_are_bounds) (clA mg ("are_bounds" : Str)) cdv A outer s H E) (defBody st_are_bounds) t_are_bounds := by
  have hN := sc_are_bounds.nd
  exact (evs_cons (evs_if (evt_w (evw_or (by exact (evt_cmp op_isN opd_isN (ev_var 0 rfl (.inl rfl)) ev_non (nomark _))) (evw_or1 (by exact (evt_cmp op_isN opd_isN (ev_var 1 rfl (.inl rfl)) ev_non (nomark _)))))) (evs_cons (evs_ret (ev_or (by exact (ev_cmp op_notN opd_notN (ev_var 0 rfl (.inl rfl)) ev_non (nomark _))) (ev_one (by exact (ev_cmp op_notN opd_notN (ev_var 1 rfl (.inl rfl)) ev_non (nomark _))))))
      evs_nil) evs_nil)
      (evs_cons (evs_ret (by exact (ev_cmp op_le opd_le (ev_var 0 rfl (.inl rfl)) (ev_var 1 rfl (.inl rfl)) (nomark _))))
      evs_nil))
theorem sc_Rule_X__init_X_ : FnScope ["self", "length", "low", "high"] ["self", "length", "low", "high"] (defScope st_Rule_X__init_X_) := ⟨rfl, rfl, rfl, by decide +kernel, rfl, by decide +kernel, by decide +kernel⟩
theorem b_Rule_X__init_X_ {P : Program} {W : World} {K : PySem.W.Frag} {mg : Str → Option Value} {base : Heap} (T : Fx K mg) (G_are_bounds : Fn P W K mg base 1 (clA mg ("are_bounds" : Str)) ["low", "high"] sp_are_bounds) (G_need_bound : Fn P W K mg base 3 (clA mg ("need_bound" : Str)) ["value", "part"] sp_need_bound) (G_need_number : Fn P W K mg base 3 (clA mg ("need_number" : Str)) ["value", "part", "least", "most"] sp_need_number) {cdv : Value} {A : Around} {outer : List Env} {s : Shared} {H : Hp} {E : XK} (hr : Room 3 (A.deeper (envOfC ("Rule.__init__" : Str) (defScope st_Rule_X__init_X_) s.heap.objs.size (He.ma K (clA mg ("Rule" : Str)) ("__init__" : Str)) cdv))) :
    EVSs (cxOf (L2.CX P W) P W K mg base ["self", "length", "low", "high"] ("Rule.__init__" : Str) (defScope st_Rule_X__init_X_) (He.ma K (clA mg ("Rule" : Str)) ("__init__" : Str)) cdv A outer s H E) (defBody st_Rule_X__init_X_) t_Rule_X__init_X_ := by
  have hN := sc_Rule_X__init_X_.nd
  exact (evs_cons (evs_expr (by exact (ev_call G_need_number (hr.mono (by decide)) (by rfl) T.g_need_number T.k_need_number (bd_need_number_4 T) (fun _ => .nil) adF_ok (eva_cons (ev_var 1 rfl (.inl rfl)) (eva_cons ev_str (eva_cons ev_int (eva_cons (by exact (glob_int (by rfl) T.i_MOST_LENGTH)) eva_nil)))) evk_nil)))
      (evs_cons (evs_expr (by exact (ev_call G_need_bound (hr.mono (by decide)) (by rfl) T.g_need_bound T.k_need_bound (bd_need_bound_2 T) (fun _ => .nil) adF_ok (eva_cons (ev_var 2 rfl (.inl rfl)) (eva_cons ev_str eva_nil)) evk_nil)))
      (evs_cons (evs_expr (by exact (ev_call G_need_bound (hr.mono (by decide)) (by rfl) T.g_need_bound T.k_need_bound (bd_need_bound_2 T) (fun _ => .nil) adF_ok (eva_cons (ev_var 3 rfl (.inl rfl)) (eva_cons ev_str eva_nil)) evk_nil)))
      (evs_cons (evs_if (evt_not (evt_tru (by exact (ev_call G_are_bounds (hr.mono (by decide)) (by rfl) T.g_are_bounds T.k_are_bounds (bd_are_bounds_2 T) (fun _ => .nil) adF_ok (eva_cons (ev_var 2 rfl (.inl rfl)) (eva_cons (ev_var 3 rfl (.inl rfl)) eva_nil)) evk_nil)))) (evs_cons (evs_raise1 rfl (ex_BadRule T) (hr.mono (by decide)) (eva_cons ev_str eva_nil) rfl)
      evs_nil) evs_nil)
      (evs_cons (evs_fld (C := "Rule") T.n_Rule_length (ev_var 0 rfl (.inl rfl)) (ev_var 1 rfl (.inl rfl)))
      (evs_cons (evs_fld (C := "Rule") T.n_Rule_low (ev_var 0 rfl (.inl rfl)) (ev_var 2 rfl (.inl rfl)))
      (evs_cons (evs_fld (C := "Rule") T.n_Rule_high (ev_var 0 rfl (.inl rfl)) (ev_var 3 rfl (.inl rfl)))
      evs_nil)))))))
theorem sc_need_row : FnScope ["value", "part"] ["value", "part"] (defScope st_need_row) := ⟨rfl, rfl, rfl, by decide +kernel, rfl, by decide +kernel, by decide +kernel⟩
theorem b_need_row {P : Program} {W : World} {K : PySem.W.Frag} {mg : Str → Option Value} {base : Heap} (T : Fx K mg) {cdv : Value} {A : Around} {outer : List Env} {s : Shared} {H : Hp} {E : XK} (hr : Room 2 (A.deeper (envOfC ("need_row" : Str) (defScope st_need_row) s.heap.objs.size (clA mg ("need_row" : Str)) cdv))) :
    EVSs (cxOf (L2.CX P W) P W K mg base ["value", "part"] ("need_row" : Str) (defScope st_need_row) (clA mg ("need_row" : Str)) cdv A outer s H E) (defBody st_need_row) t_need_row := by
  have hN := sc_need_row.nd
  exact (evs_cons (evs_if (evt_not (evt_tru (by exact (ev_is T.isa T.ok_Row (by rfl) T.f_isinstance (ev_var 0 rfl (.inl rfl)) ⟨rfl, by decide, rfl, T.g_Row⟩)))) (evs_cons (evs_raise1 rfl (ex_BadRow T) (hr.mono (by decide)) (eva_cons (ev_var 1 rfl (.inl rfl)) eva_nil) rfl)
      evs_nil) evs_nil)
      evs_nil)
theorem sc_Rule_first_broken : FnScope ["self", "row", "begin"] ["self", "row"] (defScope st_Rule_first_broken) := ⟨rfl, rfl, rfl, by decide +kernel, rfl, by decide +kernel, by decide +kernel⟩
theorem b_Rule_first_broken {P : Program} {W : World} {K : PySem.W.Frag} {mg : Str → Option Value} {base : Heap} (T : Fx K mg) (G_is_within : Fn P W K mg base 2 (clA mg ("is_within" : Str)) ["value", "least", "most"] sp_is_within) (G_need_row : Fn P W K mg base 3 (clA mg ("need_row" : Str)) ["value", "part"] sp_need_row) {cdv : Value} {A : Around} {outer : List Env} {s : Shared} {H : Hp} {E : XK} (hr : Room 3 (A.deeper (envOfC ("Rule.first_broken" : Str) (defScope st_Rule_first_broken) s.heap.objs.size (He.ma K (clA mg ("Rule" : Str)) ("first_broken" : Str)) cdv))) :
    EVSs (cxOf (L2.CX P W) P W K mg base ["self", "row", "begin"] ("Rule.first_broken" : Str) (defScope st_Rule_first_broken) (He.ma K (clA mg ("Rule" : Str)) ("first_broken" : Str)) cdv A outer s H E) (defBody st_Rule_first_broken) t_Rule_first_broken := by
  have hN := sc_Rule_first_broken.nd
  exact (evs_cons (evs_expr (by exact (ev_call G_need_row (hr.mono (by decide)) (by rfl) T.g_need_row T.k_need_row (bd_need_row_2 T) (fun _ => .nil) adF_ok (eva_cons (ev_var 1 rfl (.inl rfl)) (eva_cons ev_str eva_nil)) evk_nil)))
      (evs_cons (evs_for (passes_of rfl) rfl (evi_r1 (by rfl) T.f_range (eva_cons (ev_bin opr_add opd_add (ev_bin op_sub opd_sub (ev_fld (ev_var 1 rfl (.inl rfl))) (ev_fld (ev_var 0 rfl (.inl rfl)))) ev_int) eva_nil)) (evg_name (i := 2) hN rfl (.inl rfl)) (evs_cons (evs_if (evt_not (evt_tru (by exact (ev_call G_is_within (hr.mono (by decide)) (by rfl) T.g_is_within T.k_is_within (bd_is_within_3 T) (fun _ => .nil) adF_ok (eva_cons (ev_bin op_sub opd_sub (ev_idx (ev_fld (ev_var 1 rfl (.inl rfl))) (ev_bin opr_add opd_add (ev_var 2 rfl (.inl rfl)) (ev_fld (ev_var 0 rfl (.inl rfl))))) (ev_idx (ev_fld (ev_var 1 rfl (.inl rfl))) (ev_var 2 rfl (.inl rfl)))) (eva_cons (ev_fld (ev_var 0 rfl (.inl rfl))) (eva_cons (ev_fld (ev_var 0 rfl (.inl rfl))) eva_nil))) evk_nil)))) (evs_cons (evs_ret (ev_var 2 rfl (.inl rfl)))
      evs_nil) evs_nil)
      evs_nil))
      (evs_cons (evs_ret ev_non)
      evs_nil)))
theorem sc_Rule_keeps : FnScope ["self", "row"] ["self", "row"] (defScope st_Rule_keeps) := ⟨rfl, rfl, rfl, by decide +kernel, rfl, by decide +kernel, by decide +kernel⟩
theorem b_Rule_keeps {P : Program} {W : World} {K : PySem.W.Frag} {mg : Str → Option Value} {base : Heap} (T : Fx K mg) (G_Rule_first_broken : Fn P W K mg base 4 (He.ma K (clA mg ("Rule" : Str)) ("first_broken" : Str)) ["self", "row"] sp_Rule_first_broken) {cdv : Value} {A : Around} {outer : List Env} {s : Shared} {H : Hp} {E : XK} (hr : Room 4 (A.deeper (envOfC ("Rule.keeps" : Str) (defScope st_Rule_keeps) s.heap.objs.size (He.ma K (clA mg ("Rule" : Str)) ("keeps" : Str)) cdv))) :
    EVSs (cxOf (L2.CX P W) P W K mg base ["self", "row"] ("Rule.keeps" : Str) (defScope st_Rule_keeps) (He.ma K (clA mg ("Rule" : Str)) ("keeps" : Str)) cdv A outer s H E) (defBody st_Rule_keeps) t_Rule_keeps := by
  have hN := sc_Rule_keeps.nd
  exact (evs_cons (evs_ret (by exact (ev_cmp op_isN opd_isN (by exact (ev_meth (ev_var 0 rfl (.inl rfl)) T.m_Rule_first_broken G_Rule_first_broken (hr.mono (by decide)) (bd_Rule_first_broken_2 T) (fun _ => .nil) adF_ok (eva_cons (ev_var 1 rfl (.inl rfl)) eva_nil) evk_nil)) ev_non (nomark _))))
      evs_nil)
theorem sc_Round_keeps : FnScope ["self", "rule", "one"] ["self", "rule"] (defScope st_Round_keeps) := ⟨rfl, rfl, rfl, by decide +kernel, rfl, by decide +kernel, by decide +kernel⟩
theorem b_Round_keeps {P : Program} {W : World} {K : PySem.W.Frag} {mg : Str → Option Value} {base : Heap} (T : Fx K mg) (G_sums_in_rounds : Fn P W K mg base 2 (clA mg ("sums_in_rounds" : Str)) ["gains", "length"] sp_sums_in_rounds) (G_is_within : Fn P W K mg base 2 (clA mg ("is_within" : Str)) ["value", "least", "most"] sp_is_within) {cdv : Value} {A : Around} {outer : List Env} {s : Shared} {H : Hp} {E : XK} (hr : Room 2 (A.deeper (envOfC ("Round.keeps" : Str) (defScope st_Round_keeps) s.heap.objs.size (He.ma K (clA mg ("Round" : Str)) ("keeps" : Str)) cdv))) :
    EVSs (cxOf (L2.CX P W) P W K mg base ["self", "rule", "one"] ("Round.keeps" : Str) (defScope st_Round_keeps) (He.ma K (clA mg ("Round" : Str)) ("keeps" : Str)) cdv A outer s H E) (defBody st_Round_keeps) t_Round_keeps := by
  have hN := sc_Round_keeps.nd
  exact (evs_cons (evs_if (evt_not (evt_tru (by exact (ev_is T.isa T.ok_Rule (by rfl) T.f_isinstance (ev_var 1 rfl (.inr (.inl rfl))) ⟨rfl, by decide, rfl, T.g_Rule⟩)))) (evs_cons (evs_raise1 rfl (ex_BadRule T) (hr.mono (by decide)) (eva_cons ev_str eva_nil) rfl)
      evs_nil) evs_nil)
      (evs_cons (evs_ret (by exact (ev_cb (cr_all rfl) cd_all (by rfl) T.f_all boot_all (eva_cons (by exact (ev_lc (c := false) rfl hN (evi_seq (by exact (ev_call G_sums_in_rounds (hr.mono (by decide)) (by rfl) T.g_sums_in_rounds T.k_sums_in_rounds (bd_sums_in_rounds_2 T) (fun _ => .nil) adF_ok (eva_cons (ev_fld (ev_var 0 rfl (.inl rfl))) (eva_cons (ev_fld (ev_var 1 rfl (.inr (.inl rfl)))) eva_nil)) evk_nil))) (own := [("one", 2)]) (blkOk_by (by rfl)) (by decide) (fun s0 H0 C0 cl0 fp0 => (evg_name (i := 2) hN rfl (by first | exact .inl rfl | exact .inr rfl))) (fun s0 H0 C0 cl0 fp0 => evts_nil) (fun s0 H0 C0 cl0 fp0 => (by exact (ev_call G_is_within (hr.mono (by decide)) (by rfl) T.g_is_within T.k_is_within (bd_is_within_3 T) (fun _ => .nil) adF_ok (eva_cons (ev_var 2 rfl (by first | exact .inl rfl | exact .inr (.inl rfl) | exact .inr (.inr rfl))) (eva_cons (ev_fld (ev_var 1 rfl (by first | exact .inl rfl | exact .inr (.inl rfl) | exact .inr (.inr rfl)))) (eva_cons (ev_fld (ev_var 1 rfl (by first | exact .inl rfl | exact .inr (.inl rfl) | exact .inr (.inr rfl)))) eva_nil))) evk_nil))))) eva_nil))))
      evs_nil))
theorem sc__law_kept_right : FnScope ["_law_mill_here", "_law_around", "_law_gains_here", "_law_turn", "_law_length", "_law_told", "_law_low", "_law_high", "_law_due", "_law_rule", "_law_days", "_law_at"] ["_law_mill_here", "_law_around", "_law_gains_here"] (defScope st__law_kept_right) := ⟨rfl, rfl, rfl, by decide +kernel, rfl, by decide +kernel, by decide +kernel⟩
theorem b__law_kept_right {P : Program} {W : World} {K : PySem.W.Frag} {mg : Str → Option Value} {base : Heap} (T : Fx K mg) (G_Rule_keeps : Fn P W K mg base 5 (He.ma K (clA mg ("Rule" : Str)) ("keeps" : Str)) ["self", "row"] sp_Rule_keeps) (G_Round_row : Fn P W K mg base 5 (He.ma K (clA mg ("Round" : Str)) ("row" : Str)) ["self", "begin", "days"] sp_Round_row) (G__law_grind : Fn P W K mg base 1 (clA mg ("_law_grind" : Str)) ["_law_mill_here", "_law_many"] sp__law_grind) (G_Round_keeps : Fn P W K mg base 3 (He.ma K (clA mg ("Round" : Str)) ("keeps" : Str)) ["self", "rule"] sp_Round_keeps) (G_Round_turned : Fn P W K mg base 5 (He.ma K (clA mg ("Round" : Str)) ("turned" : Str)) ["self", "by"] sp_Round_turned) (G_Rule_X__init_X_ : Fn P W K mg base 4 (He.ma K (clA mg ("Rule" : Str)) ("__init__" : Str)) ["self", "length", "low", "high"] sp_Rule_X__init_X_) (G__law_pick : Fn P W K mg base 2 (clA mg ("_law_pick" : Str)) ["_law_mill_here", "_law_some"] sp__law_pick) (G__law_sum : Fn P W K mg base 1 (clA mg ("_law_sum" : Str)) ["_law_gains_here", "_law_begin", "_law_length"] sp__law_sum) {cdv : Value} {A : Around} {outer : List Env} {s : Shared} {H : Hp} {E : XK} (hr : Room 5 (A.deeper (envOfC ("_law_kept_right" : Str) (defScope st__law_kept_right) s.heap.objs.size (clA mg ("_law_kept_right" : Str)) cdv))) :
    EVSs (cxOf (L2.CX P W) P W K mg base ["_law_mill_here", "_law_around", "_law_gains_here", "_law_turn", "_law_length", "_law_told", "_law_low", "_law_high", "_law_due", "_law_rule", "_law_days", "_law_at"] ("_law_kept_right" : Str) (defScope st__law_kept_right) (clA mg ("_law_kept_right" : Str)) cdv A outer s H E) (defBody st__law_kept_right) t__law_kept_right := by
  have hN := sc__law_kept_right.nd
  exact (evs_cons (evs_for (passes_of rfl) rfl (evi_r1 (by rfl) T.f_range (eva_cons ev_int eva_nil)) (evg_name (i := 3) hN rfl (.inl rfl)) (evs_cons (evs_set (i := 4) hN rfl (.inr rfl) (ev_bin opr_add opd_add ev_int (by exact (ev_call G__law_grind (hr.mono (by decide)) (by rfl) T.g__law_grind T.k__law_grind (bd__law_grind_2 T) (fun _ => .nil) adF_ok (eva_cons (ev_var 0 rfl (.inl rfl)) (eva_cons (by exact (ev_call G__law_pick (hr.mono (by decide)) (by rfl) T.g__law_pick T.k__law_pick (bd__law_pick_2 T) (fun _ => .nil) adF_ok (eva_cons (ev_var 0 rfl (.inl rfl)) (eva_cons (ev_lst (eva_cons (by exact (ev_cb call_len cd_len (by rfl) T.f_len boot_len (eva_cons (ev_var 2 rfl (.inr (.inl rfl))) eva_nil))) (eva_cons ev_int (eva_cons ev_int eva_nil)))) eva_nil)) evk_nil)) eva_nil)) evk_nil))))
      (evs_cons (evs_setLc (c := false) (i := 5) rfl hN rfl rfl (sw_true rfl rfl rfl rfl) (evi_r1 (by rfl) T.f_range (eva_cons (by exact (ev_cb call_len cd_len (by rfl) T.f_len boot_len (eva_cons (ev_var 2 rfl (.inr (.inl rfl))) eva_nil))) eva_nil)) (own := [("_law_at", 11)]) (blkOk_by (by rfl)) (by decide) (fun s0 H0 C0 cl0 fp0 => (evg_name (i := 11) hN rfl (by first | exact .inl rfl | exact .inr rfl))) (fun s0 H0 C0 cl0 fp0 => evts_nil) (fun s0 H0 C0 cl0 fp0 => (by exact (ev_call G__law_sum (hr.mono (by decide)) (by rfl) T.g__law_sum T.k__law_sum (bd__law_sum_3 T) (fun _ => .nil) adF_ok (eva_cons (ev_var 2 rfl (by first | exact .inl rfl | exact .inr (.inl rfl) | exact .inr (.inr rfl))) (eva_cons (ev_var 11 rfl (by first | exact .inl rfl | exact .inr (.inl rfl) | exact .inr (.inr rfl))) (eva_cons (ev_var 4 rfl (by first | exact .inl rfl | exact .inr (.inl rfl) | exact .inr (.inr rfl))) eva_nil))) evk_nil))))
      (evs_cons (evs_set (i := 6) hN rfl (.inl rfl) (ev_bin opr_add opd_add (by exact (ev_cb (cr_min rfl) cd_min (by rfl) T.f_min boot_min (eva_cons (ev_var 5 rfl (.inl rfl)) eva_nil))) (by exact (ev_call G__law_pick (hr.mono (by decide)) (by rfl) T.g__law_pick T.k__law_pick (bd__law_pick_2 T) (fun _ => .nil) adF_ok (eva_cons (ev_var 0 rfl (.inl rfl)) (eva_cons (ev_lst (eva_cons ev_int (eva_cons ev_int (eva_cons (ev_neg ev_int) (eva_cons ev_int eva_nil))))) eva_nil)) evk_nil))))
      (evs_cons (evs_set (i := 7) hN rfl (.inl rfl) (by exact (ev_cb (call_max2 rfl) cd_two (by rfl) T.f_max boot_max (eva_cons (ev_var 6 rfl (.inl rfl)) (eva_cons (ev_bin opr_add opd_add (by exact (ev_cb (cr_max rfl) cd_max (by rfl) T.f_max boot_max (eva_cons (ev_var 5 rfl (.inl rfl)) eva_nil))) (by exact (ev_call G__law_pick (hr.mono (by decide)) (by rfl) T.g__law_pick T.k__law_pick (bd__law_pick_2 T) (fun _ => .nil) adF_ok (eva_cons (ev_var 0 rfl (.inl rfl)) (eva_cons (ev_lst (eva_cons ev_int (eva_cons ev_int (eva_cons ev_int (eva_cons (ev_neg ev_int) eva_nil))))) eva_nil)) evk_nil))) eva_nil)))))
      (evs_cons (evs_asg (by exact (ev_call G__law_pick (hr.mono (by decide)) (by rfl) T.g__law_pick T.k__law_pick (bd__law_pick_2 T) (fun _ => .nil) adF_ok (eva_cons (ev_var 0 rfl (.inl rfl)) (eva_cons (ev_lst (eva_cons (ev_tup (eva_cons (ev_var 6 rfl (.inl rfl)) (eva_cons (ev_var 7 rfl (.inl rfl)) eva_nil))) (eva_cons (ev_tup (eva_cons (ev_var 6 rfl (.inl rfl)) (eva_cons ev_non eva_nil))) (eva_cons (ev_tup (eva_cons ev_non (eva_cons (ev_var 7 rfl (.inl rfl)) eva_nil))) eva_nil)))) eva_nil)) evk_nil)) (evg_tup rfl (evgs_cons (evg_name (i := 6) hN rfl (.inl rfl)) (evgs_cons (evg_name (i := 7) hN rfl (.inl rfl)) evgs_nil))))
      (evs_cons (evs_set (i := 8) hN rfl (.inl rfl) (ev_and (ev_or (by exact (ev_cmp op_isN opd_isN (ev_var 6 rfl (.inl rfl)) ev_non (nomark _))) (ev_one (by exact (ev_cmp op_le opd_le (ev_var 6 rfl (.inl rfl)) (by exact (ev_cb (cr_min rfl) cd_min (by rfl) T.f_min boot_min (eva_cons (ev_var 5 rfl (.inl rfl)) eva_nil))) (nomark _))))) (ev_one (ev_or (by exact (ev_cmp op_isN opd_isN (ev_var 7 rfl (.inl rfl)) ev_non (nomark _))) (ev_one (by exact (ev_cmp op_le opd_le (by exact (ev_cb (cr_max rfl) cd_max (by rfl) T.f_max boot_max (eva_cons (ev_var 5 rfl (.inl rfl)) eva_nil))) (ev_var 7 rfl (.inl rfl)) (nomark _))))))))
      (evs_cons (evs_set (i := 9) hN rfl (.inl rfl) (by exact (ev_make (b := false) T.mk_Rule G_Rule_X__init_X_ T.c_Rule (hr.mono (by decide)) (by rfl) T.g_Rule (bd_Rule_X__init_X__4 T) (fun _ => (.cons .non (.cons .non .nil))) (eva_cons (ev_var 4 rfl (.inr (.inl rfl))) (eva_cons (ev_var 6 rfl (.inl rfl)) (eva_cons (ev_var 7 rfl (.inl rfl)) eva_nil))) evk_nil)))
      (evs_cons (evs_if (evt_w (evw_or (by exact (evt_cmp (op_neD hr.units) opd_ne (by exact (ev_cb call_reprX cd_repr (by rfl) T.f_repr boot_repr (eva_cons (by exact (ev_meth0 (ev_var 1 rfl (.inl rfl)) T.m_Round_keeps G_Round_keeps (hr.mono (by decide)) (bd_Round_keeps_1_rule T) (fun _ => .nil) adF_ok (evk_cons (ev_var 9 rfl (.inl rfl)) evk_nil))) eva_nil))) (by exact (ev_cb call_reprX cd_repr (by rfl) T.f_repr boot_repr (eva_cons (ev_var 8 rfl (.inl rfl)) eva_nil))) (nomark _))) (evw_or1 (by exact (evt_cmp (op_neD hr.units) opd_ne (by exact (ev_cb call_reprX cd_repr (by rfl) T.f_repr boot_repr (eva_cons (by exact (ev_meth (by exact (ev_meth (ev_var 1 rfl (.inl rfl)) T.m_Round_turned G_Round_turned (hr.mono (by decide)) (bd_Round_turned_2 T) (fun _ => .nil) adF_ok (eva_cons (ev_var 3 rfl (.inl rfl)) eva_nil) evk_nil)) T.m_Round_keeps G_Round_keeps (hr.mono (by decide)) (bd_Round_keeps_2 T) (fun _ => .nil) adF_ok (eva_cons (ev_var 9 rfl (.inl rfl)) eva_nil) evk_nil)) eva_nil))) (by exact (ev_cb call_reprX cd_repr (by rfl) T.f_repr boot_repr (eva_cons (ev_var 8 rfl (.inl rfl)) eva_nil))) (nomark _)))))) (evs_cons (evs_ret ev_bl)
      evs_nil) evs_nil)
      (evs_cons (evs_set (i := 10) hN rfl (.inl rfl) (ev_bin op_sub opd_sub (ev_bin opr_add opd_add (by exact (ev_cb call_len cd_len (by rfl) T.f_len boot_len (eva_cons (ev_var 2 rfl (.inr (.inl rfl))) eva_nil))) (ev_var 4 rfl (.inr (.inl rfl)))) ev_int))
      (evs_cons (evs_if (evt_w (evw_and (by exact (evt_cmp op_le opd_le (ev_var 10 rfl (.inl rfl)) ev_int (nomark _))) (evw_and1 (by exact (evt_cmp (op_neD hr.units) opd_ne (by exact (ev_meth (ev_var 9 rfl (.inl rfl)) T.m_Rule_keeps G_Rule_keeps (hr.mono (by decide)) (bd_Rule_keeps_2 T) (fun _ => .nil) adF_ok (eva_cons (by exact (ev_meth (ev_var 1 rfl (.inl rfl)) T.m_Round_row G_Round_row (hr.mono (by decide)) (bd_Round_row_3 T) (fun _ => .nil) adF_ok (eva_cons (by exact (ev_call G__law_grind (hr.mono (by decide)) (by rfl) T.g__law_grind T.k__law_grind (bd__law_grind_2 T) (fun _ => .nil) adF_ok (eva_cons (ev_var 0 rfl (.inl rfl)) (eva_cons ev_int eva_nil)) evk_nil)) (eva_cons (ev_var 10 rfl (.inl rfl)) eva_nil)) evk_nil)) eva_nil) evk_nil)) (ev_var 8 rfl (.inl rfl)) (nomark _)))))) (evs_cons (evs_ret ev_bl)
      evs_nil) evs_nil)
      evs_nil)))))))))))
      (evs_cons (evs_ret ev_bl)
      evs_nil))
theorem sc__law_heard : FnScope ["_law_ask", "_law_caught", "error"] ["_law_ask"] (defScope st__law_heard) := ⟨rfl, rfl, rfl, by decide +kernel, rfl, by decide +kernel, by decide +kernel⟩
theorem gv__law_heard {X : Cx} (T : Fx X.K X.mg) {cdg : Value} {q : Str} : LamX.GivesTo X ["_law_ask", "_law_caught", "error"] ("_law_heard" : Str) (defScope st__law_heard) (clA X.mg ("_law_heard" : Str)) cdg (defBody st__law_heard) ("_law_ask" : Str) q (TTd X.K X.mg ["_law_ask", "_law_caught", "error"] q (fun f c ask => t__law_heard f c q ask)) := gives fun f c s H tl ask O act imp => by
  have hN := sc__law_heard.nd
  exact (evso_cons (EVS.o (evs_set (i := 1) hN rfl (.inl rfl) ev_non))
      (evso_cons (evs_heard (fun W pn xe E tk h => act W pn xe E _ _ tk h) imp rfl rfl rfl hN (i := 2) (j := 1) rfl rfl rfl rfl (by decide) (by decide) (by decide) rfl (fun _ _ => rfl) ⟨by rfl, by decide, .inl T.g_DayError⟩ (hit_of T.exm))
      (evso_cons (EVS.o (evs_if (evt_tru (by exact (ev_isT T.isa T.ok_BadRound_BadRule_BadNumber (by rfl) T.f_isinstance (ev_var 1 rfl (.inl rfl)) (.cons ⟨rfl, by decide, rfl, T.g_BadRound⟩ (.cons ⟨rfl, by decide, rfl, T.g_BadRule⟩ (.cons ⟨rfl, by decide, rfl, T.g_BadNumber⟩ .nil)))))) (evs_cons (evs_ret (ev_tup (eva_cons (ev_if (evt_tru (by exact (ev_is T.isa T.ok_BadRound (by rfl) T.f_isinstance (ev_var 1 rfl (.inl rfl)) ⟨rfl, by decide, rfl, T.g_BadRound⟩))) ev_str (ev_if (evt_tru (by exact (ev_is T.isa T.ok_BadRule (by rfl) T.f_isinstance (ev_var 1 rfl (.inl rfl)) ⟨rfl, by decide, rfl, T.g_BadRule⟩))) ev_str ev_str)) (eva_cons (ev_xf T.isa T.xa_part (ev_var 1 rfl (.inl rfl))) eva_nil))))
      evs_nil) evs_nil))
      (evso_cons (EVS.o (evs_if (evt_tru (by exact (ev_is T.isa T.ok_TooMany (by rfl) T.f_isinstance (ev_var 1 rfl (.inl rfl)) ⟨rfl, by decide, rfl, T.g_TooMany⟩))) (evs_cons (evs_ret (ev_tup (eva_cons (ev_xf T.isa T.xa_what (ev_var 1 rfl (.inl rfl))) (eva_cons (ev_xf T.isa T.xa_most (ev_var 1 rfl (.inl rfl))) eva_nil))))
      evs_nil) evs_nil))
      (evso_cons (EVS.o (evs_if (evt_tru (by exact (ev_is T.isa T.ok_BadRow (by rfl) T.f_isinstance (ev_var 1 rfl (.inl rfl)) ⟨rfl, by decide, rfl, T.g_BadRow⟩))) (evs_cons (evs_ret (ev_tup (eva_cons ev_str (eva_cons (ev_xf T.isa T.xa_part (ev_var 1 rfl (.inl rfl))) eva_nil))))
      evs_nil) evs_nil))
      (evso_cons (EVS.o (evs_ret (ev_if (by exact (evt_cmp op_isN opd_isN (ev_var 1 rfl (.inl rfl)) ev_non (nomark _))) ev_non (ev_tup (eva_cons ev_str (eva_cons ev_non eva_nil))))))
      (EVSs.o evs_nil)))))))
theorem sc_need_bounds : FnScope ["low", "high"] ["low", "high"] (defScope st_need_bounds) := ⟨rfl, rfl, rfl, by decide +kernel, rfl, by decide +kernel, by decide +kernel⟩
theorem b_need_bounds {P : Program} {W : World} {K : PySem.W.Frag} {mg : Str → Option Value} {base : Heap} (T : Fx K mg) (G_are_bounds : Fn P W K mg base 1 (clA mg ("are_bounds" : Str)) ["low", "high"] sp_are_bounds) (G_need_bound : Fn P W K mg base 3 (clA mg ("need_bound" : Str)) ["value", "part"] sp_need_bound) {cdv : Value} {A : Around} {outer : List Env} {s : Shared} {H : Hp} {E : XK} (hr : Room 3 (A.deeper (envOfC ("need_bounds" : Str) (defScope st_need_bounds) s.heap.objs.size (clA mg ("need_bounds" : Str)) cdv))) :
    EVSs (cxOf (L2.CX P W) P W K mg base ["low", "high"] ("need_bounds" : Str) (defScope st_need_bounds) (clA mg ("need_bounds" : Str)) cdv A outer s H E) (defBody st_need_bounds) t_need_bounds := by
  have hN := sc_need_bounds.nd
  exact (evs_cons (evs_expr (by exact (ev_call G_need_bound (hr.mono (by decide)) (by rfl) T.g_need_bound T.k_need_bound (bd_need_bound_2 T) (fun _ => .nil) adF_ok (eva_cons (ev_var 0 rfl (.inl rfl)) (eva_cons ev_str eva_nil)) evk_nil)))
      (evs_cons (evs_expr (by exact (ev_call G_need_bound (hr.mono (by decide)) (by rfl) T.g_need_bound T.k_need_bound (bd_need_bound_2 T) (fun _ => .nil) adF_ok (eva_cons (ev_var 1 rfl (.inl rfl)) (eva_cons ev_str eva_nil)) evk_nil)))
      (evs_cons (evs_if (evt_not (evt_tru (by exact (ev_call G_are_bounds (hr.mono (by decide)) (by rfl) T.g_are_bounds T.k_are_bounds (bd_are_bounds_2 T) (fun _ => .nil) adF_ok (eva_cons (ev_var 0 rfl (.inl rfl)) (eva_cons (ev_var 1 rfl (.inl rfl)) eva_nil)) evk_nil)))) (evs_cons (evs_raise1 rfl (ex_BadSaying T) (hr.mono (by decide)) (eva_cons ev_str eva_nil) rfl)
      evs_nil) evs_nil)
      evs_nil)))
theorem sc_Some_X__init_X_ : FnScope ["self", "length", "low", "high"] ["self", "length", "low", "high"] (defScope st_Some_X__init_X_) := ⟨rfl, rfl, rfl, by decide +kernel, rfl, by decide +kernel, by decide +kernel⟩
theorem b_Some_X__init_X_ {P : Program} {W : World} {K : PySem.W.Frag} {mg : Str → Option Value} {base : Heap} (T : Fx K mg) (G_need_bounds : Fn P W K mg base 4 (clA mg ("need_bounds" : Str)) ["low", "high"] sp_need_bounds) (G_need_number : Fn P W K mg base 3 (clA mg ("need_number" : Str)) ["value", "part", "least", "most"] sp_need_number) {cdv : Value} {A : Around} {outer : List Env} {s : Shared} {H : Hp} {E : XK} (hr : Room 4 (A.deeper (envOfC ("Some.__init__" : Str) (defScope st_Some_X__init_X_) s.heap.objs.size (He.ma K (clA mg ("Some" : Str)) ("__init__" : Str)) cdv))) :
    EVSs (cxOf (L2.CX P W) P W K mg base ["self", "length", "low", "high"] ("Some.__init__" : Str) (defScope st_Some_X__init_X_) (He.ma K (clA mg ("Some" : Str)) ("__init__" : Str)) cdv A outer s H E) (defBody st_Some_X__init_X_) t_Some_X__init_X_ := by
  have hN := sc_Some_X__init_X_.nd
  exact (evs_cons (evs_expr (by exact (ev_call G_need_number (hr.mono (by decide)) (by rfl) T.g_need_number T.k_need_number (bd_need_number_4 T) (fun _ => .nil) adF_ok (eva_cons (ev_var 1 rfl (.inl rfl)) (eva_cons ev_str (eva_cons ev_int (eva_cons (by exact (glob_int (by rfl) T.i_MOST_LENGTH)) eva_nil)))) evk_nil)))
      (evs_cons (evs_expr (by exact (ev_call G_need_bounds (hr.mono (by decide)) (by rfl) T.g_need_bounds T.k_need_bounds (bd_need_bounds_2 T) (fun _ => .nil) adF_ok (eva_cons (ev_var 2 rfl (.inl rfl)) (eva_cons (ev_var 3 rfl (.inl rfl)) eva_nil)) evk_nil)))
      (evs_cons (evs_fld (C := "Some") T.n_Some_length (ev_var 0 rfl (.inl rfl)) (ev_var 1 rfl (.inl rfl)))
      (evs_cons (evs_fld (C := "Some") T.n_Some_low (ev_var 0 rfl (.inl rfl)) (ev_var 2 rfl (.inl rfl)))
      (evs_cons (evs_fld (C := "Some") T.n_Some_high (ev_var 0 rfl (.inl rfl)) (ev_var 3 rfl (.inl rfl)))
      evs_nil)))))
theorem sc__law_refused_right : FnScope ["_law_mill_here", "_law_around", "_law_gains_here", "_law_odd", "_law_bad", "_law_none", "_law_heard_here", "_law_due"] ["_law_mill_here", "_law_around", "_law_gains_here"] (defScope st__law_refused_right) := ⟨rfl, rfl, rfl, by decide +kernel, rfl, by decide +kernel, by decide +kernel⟩
theorem b__law_refused_right {P : Program} {W : World} {K : PySem.W.Frag} {mg : Str → Option Value} {base : Heap} (T : Fx K mg) (G_Round_twice : Fn P W K mg base 5 (He.ma K (clA mg ("Round" : Str)) ("twice" : Str)) ["self"] sp_Round_twice) (G_Round_X__init_X_ : Fn P W K mg base 3 (He.ma K (clA mg ("Round" : Str)) ("__init__" : Str)) ["self", "gains"] sp_Round_X__init_X_) (G_Round_X__len_X_ : Fn P W K mg base 1 (He.ma K (clA mg ("Round" : Str)) ("__len__" : Str)) ["self"] sp_Round_X__len_X_) (G_Row_X__init_X_ : Fn P W K mg base 3 (He.ma K (clA mg ("Row" : Str)) ("__init__" : Str)) ["self", "gains"] sp_Row_X__init_X_) (G_Rule_keeps : Fn P W K mg base 5 (He.ma K (clA mg ("Rule" : Str)) ("keeps" : Str)) ["self", "row"] sp_Rule_keeps) (G_Rule_X__init_X_ : Fn P W K mg base 4 (He.ma K (clA mg ("Rule" : Str)) ("__init__" : Str)) ["self", "length", "low", "high"] sp_Rule_X__init_X_) (G_Round_row : Fn P W K mg base 5 (He.ma K (clA mg ("Round" : Str)) ("row" : Str)) ["self", "begin", "days"] sp_Round_row) (G__law_pick : Fn P W K mg base 2 (clA mg ("_law_pick" : Str)) ["_law_mill_here", "_law_some"] sp__law_pick) (G_Round_turned : Fn P W K mg base 5 (He.ma K (clA mg ("Round" : Str)) ("turned" : Str)) ["self", "by"] sp_Round_turned) (G_Round_keeps : Fn P W K mg base 3 (He.ma K (clA mg ("Round" : Str)) ("keeps" : Str)) ["self", "rule"] sp_Round_keeps) (G_Some_X__init_X_ : Fn P W K mg base 5 (He.ma K (clA mg ("Some" : Str)) ("__init__" : Str)) ["self", "length", "low", "high"] sp_Some_X__init_X_) (G_Round_sort_of : Fn P W K mg base 4 (He.ma K (clA mg ("Round" : Str)) ("sort_of" : Str)) ["self", "length"] sp_Round_sort_of) (G_Round_sum_of : Fn P W K mg base 4 (He.ma K (clA mg ("Round" : Str)) ("sum_of" : Str)) ["self", "begin", "length"] sp_Round_sum_of) (TB : LamX.TabB base mg (He.cT K (("_law_refused_right" : Str), none)).1 (He.cT K (("_law_refused_right" : Str), none)).2) {A : Around} {outer : List Env} {s : Shared} {H : Hp} {E : XK} (hr : Room 8 (A.deeper (envOfC ("_law_refused_right" : Str) (defScope st__law_refused_right) s.heap.objs.size (He.fAd K (("_law_refused_right" : Str), none)) (.ref (He.codeOf K (("_law_refused_right" : Str), none)))))) :
    EVSs (cxOf (L2.CX P W) P W K mg base ["_law_mill_here", "_law_around", "_law_gains_here", "_law_odd", "_law_bad", "_law_none", "_law_heard_here", "_law_due"] ("_law_refused_right" : Str) (defScope st__law_refused_right) (He.fAd K (("_law_refused_right" : Str), none)) (.ref (He.codeOf K (("_law_refused_right" : Str), none))) A outer s H E) (defBody st__law_refused_right) t__law_refused_right := by
  have hN := sc__law_refused_right.nd
  obtain ⟨oc, od, dV, kV, doc, pm, an, cdvg, ct, osl, eH, lkH, hcgH, _, _⟩ := T.d__law_heard.ex
  have hbH := T.d__law_heard.bindsN (ps := ["_law_ask"]) (fun _ _ _ _ _ _ us hl => match us, hl with | [_], _ => rfl)
  rw [eH] at lkH hbH
  exact (evs_cons (evs_set (i := 3) hN rfl (.inr rfl) (by exact (ev_call G__law_pick (hr.mono (by decide)) (by rfl) T.g__law_pick T.k__law_pick (bd__law_pick_2 T) (fun _ => .nil) adF_ok (eva_cons (ev_var 0 rfl (.inr (.inl rfl))) (eva_cons (ev_lst (eva_cons ev_non (eva_cons ev_int (eva_cons (ev_lst eva_nil) (eva_cons (ev_tup eva_nil) (eva_cons ev_str (eva_cons (ev_lst (eva_cons ev_int (eva_cons ev_non eva_nil))) (eva_cons (ev_lst (eva_cons ev_bl eva_nil)) (eva_cons (ev_lst (eva_cons (ev_lst (eva_cons ev_int eva_nil)) eva_nil)) (eva_cons ev_dnew (eva_cons ev_dII (eva_cons (ev_var 1 rfl (.inr (.inl rfl))) (eva_cons (ev_bin opr_add opd_add (ev_bin opr_mul opd_mul (ev_lst (eva_cons ev_int eva_nil)) ev_int) (ev_lst (eva_cons ev_str eva_nil))) eva_nil))))))))))))) eva_nil)) evk_nil)))
      (evs_cons (evs_asg (ev_tup (eva_cons (by exact (ev_call G__law_pick (hr.mono (by decide)) (by rfl) T.g__law_pick T.k__law_pick (bd__law_pick_2 T) (fun _ => .nil) adF_ok (eva_cons (ev_var 0 rfl (.inr (.inl rfl))) (eva_cons (ev_lst (eva_cons ev_non (eva_cons ev_bl (eva_cons ev_str (eva_cons (ev_lst (eva_cons ev_int eva_nil)) (eva_cons (ev_tup eva_nil) eva_nil)))))) eva_nil)) evk_nil)) (eva_cons (by exact (ev_call G__law_pick (hr.mono (by decide)) (by rfl) T.g__law_pick T.k__law_pick (bd__law_pick_2 T) (fun _ => .nil) adF_ok (eva_cons (ev_var 0 rfl (.inr (.inl rfl))) (eva_cons (ev_lst (eva_cons ev_non (eva_cons ev_int (eva_cons (ev_neg ev_int) (eva_cons ev_bl (eva_cons ev_str (eva_cons (ev_lst (eva_cons ev_int eva_nil)) (eva_cons (ev_var 2 rfl (.inl rfl)) eva_nil)))))))) eva_nil)) evk_nil)) eva_nil))) (evg_tup rfl (evgs_cons (evg_name (i := 4) hN rfl (.inr rfl)) (evgs_cons (evg_name (i := 5) hN rfl (.inr rfl)) evgs_nil))))
      (evs_cons (evs_set (i := 6) hN rfl (.inl rfl) (ev_lstC (eva_cons (by exact (ev_heard (kd := 4) (by rfl) T.g__law_heard T.k__law_heard lkH hcgH hbH sc__law_heard rfl (.inl rfl) (by rfl) (gv__law_heard T) TB rfl T.tb__law_refused_right T.tu__law_refused_right (hr.mono (by decide)) (LamX.lamS_by (by rfl)) rfl (fun _ _ _ _ _ => rfl) (fun A1 outer1 s1 H1 E1 f1 c1 hr => (by exact (ev_make (b := false) T.mk_Round G_Round_X__init_X_ T.c_Round (hr.mono (by decide)) (by rfl) T.g_Round (bd_Round_X__init_X__2 T) (fun _ => .nil) (eva_cons (ev_var 3 rfl (by first | exact .inl rfl | exact .inr (.inl rfl) | exact .inr (.inr rfl))) eva_nil) evk_nil))))) eva_nil)))
      (evs_cons (evs_expr (by exact (ev_app (ev_var 6 rfl (.inl rfl)) (by exact (ev_heard (kd := 4) (by rfl) T.g__law_heard T.k__law_heard lkH hcgH hbH sc__law_heard rfl (.inl rfl) (by rfl) (gv__law_heard T) TB rfl T.tb__law_refused_right T.tu__law_refused_right (hr.mono (by decide)) (LamX.lamS_by (by rfl)) rfl (fun _ _ _ _ _ => rfl) (fun A1 outer1 s1 H1 E1 f1 c1 hr => (by exact (ev_make (b := false) T.mk_Round G_Round_X__init_X_ T.c_Round (hr.mono (by decide)) (by rfl) T.g_Round (bd_Round_X__init_X__2 T) (fun _ => .nil) (eva_cons (ev_bin opr_mul opd_mul (ev_lst (eva_cons ev_int eva_nil)) ev_int) eva_nil) evk_nil))))))))
      (evs_cons (evs_expr (by exact (ev_app (ev_var 6 rfl (.inl rfl)) (by exact (ev_heard (kd := 4) (by rfl) T.g__law_heard T.k__law_heard lkH hcgH hbH sc__law_heard rfl (.inl rfl) (by rfl) (gv__law_heard T) TB rfl T.tb__law_refused_right T.tu__law_refused_right (hr.mono (by decide)) (LamX.lamS_by (by rfl)) rfl (fun _ _ _ _ _ => rfl) (fun A1 outer1 s1 H1 E1 f1 c1 hr => (by exact (ev_meth (ev_var 1 rfl (by first | exact .inl rfl | exact .inr (.inl rfl) | exact .inr (.inr rfl))) T.m_Round_sum_of G_Round_sum_of (hr.mono (by decide)) (bd_Round_sum_of_3 T) (fun _ => .nil) adF_ok (eva_cons (ev_var 4 rfl (by first | exact .inl rfl | exact .inr (.inl rfl) | exact .inr (.inr rfl))) (eva_cons (ev_var 5 rfl (by first | exact .inl rfl | exact .inr (.inl rfl) | exact .inr (.inr rfl))) eva_nil)) evk_nil))))))))
      (evs_cons (evs_expr (by exact (ev_app (ev_var 6 rfl (.inl rfl)) (by exact (ev_heard (kd := 4) (by rfl) T.g__law_heard T.k__law_heard lkH hcgH hbH sc__law_heard rfl (.inl rfl) (by rfl) (gv__law_heard T) TB rfl T.tb__law_refused_right T.tu__law_refused_right (hr.mono (by decide)) (LamX.lamS_by (by rfl)) rfl (fun _ _ _ _ _ => rfl) (fun A1 outer1 s1 H1 E1 f1 c1 hr => (by exact (ev_meth (ev_var 1 rfl (by first | exact .inl rfl | exact .inr (.inl rfl) | exact .inr (.inr rfl))) T.m_Round_sum_of G_Round_sum_of (hr.mono (by decide)) (bd_Round_sum_of_3 T) (fun _ => .nil) adF_ok (eva_cons ev_int (eva_cons (ev_var 5 rfl (by first | exact .inl rfl | exact .inr (.inl rfl) | exact .inr (.inr rfl))) eva_nil)) evk_nil))))))))
      (evs_cons (evs_expr (by exact (ev_app (ev_var 6 rfl (.inl rfl)) (by exact (ev_heard (kd := 4) (by rfl) T.g__law_heard T.k__law_heard lkH hcgH hbH sc__law_heard rfl (.inl rfl) (by rfl) (gv__law_heard T) TB rfl T.tb__law_refused_right T.tu__law_refused_right (hr.mono (by decide)) (LamX.lamS_by (by rfl)) rfl (fun _ _ _ _ _ => rfl) (fun A1 outer1 s1 H1 E1 f1 c1 hr => (by exact (ev_meth (ev_var 1 rfl (by first | exact .inl rfl | exact .inr (.inl rfl) | exact .inr (.inr rfl))) T.m_Round_sort_of G_Round_sort_of (hr.mono (by decide)) (bd_Round_sort_of_2 T) (fun _ => .nil) adF_ok (eva_cons (ev_var 5 rfl (by first | exact .inl rfl | exact .inr (.inl rfl) | exact .inr (.inr rfl))) eva_nil) evk_nil))))))))
      (evs_cons (evs_expr (by exact (ev_app (ev_var 6 rfl (.inl rfl)) (by exact (ev_heard (kd := 6) (by rfl) T.g__law_heard T.k__law_heard lkH hcgH hbH sc__law_heard rfl (.inl rfl) (by rfl) (gv__law_heard T) TB rfl T.tb__law_refused_right T.tu__law_refused_right (hr.mono (by decide)) (LamX.lamS_by (by rfl)) rfl (fun _ _ _ _ _ => rfl) (fun A1 outer1 s1 H1 E1 f1 c1 hr => (by exact (ev_meth (ev_var 1 rfl (by first | exact .inl rfl | exact .inr (.inl rfl) | exact .inr (.inr rfl))) T.m_Round_keeps G_Round_keeps (hr.mono (by decide)) (bd_Round_keeps_2 T) (fun _ => .nil) adF_ok (eva_cons (by exact (ev_call G__law_pick (hr.mono (by decide)) (by rfl) T.g__law_pick T.k__law_pick (bd__law_pick_2 T) (fun _ => .nil) adF_ok (eva_cons (ev_var 0 rfl (by first | exact .inl rfl | exact .inr (.inl rfl) | exact .inr (.inr rfl))) (eva_cons (ev_lst (eva_cons ev_non (eva_cons (ev_tup (eva_cons ev_int (eva_cons ev_int (eva_cons ev_int eva_nil)))) (eva_cons ev_str (eva_cons (ev_var 1 rfl (by first | exact .inl rfl | exact .inr (.inl rfl) | exact .inr (.inr rfl))) (eva_cons ev_int (eva_cons (by exact (ev_make (b := false) T.mk_Some G_Some_X__init_X_ T.c_Some (hr.mono (by decide)) (by rfl) T.g_Some (bd_Some_X__init_X__4 T) (fun _ => (.cons .non (.cons .non .nil))) (eva_cons ev_int (eva_cons ev_int (eva_cons ev_int eva_nil))) evk_nil)) (eva_cons (by exact (ev_make (b := false) T.mk_Row G_Row_X__init_X_ T.c_Row (hr.mono (by decide)) (by rfl) T.g_Row (bd_Row_X__init_X__2 T) (fun _ => .nil) (eva_cons (ev_lst (eva_cons ev_int eva_nil)) eva_nil) evk_nil)) eva_nil)))))))) eva_nil)) evk_nil)) eva_nil) evk_nil))))))))
      (evs_cons (evs_expr (by exact (ev_app (ev_var 6 rfl (.inl rfl)) (by exact (ev_heard (kd := 5) (by rfl) T.g__law_heard T.k__law_heard lkH hcgH hbH sc__law_heard rfl (.inl rfl) (by rfl) (gv__law_heard T) TB rfl T.tb__law_refused_right T.tu__law_refused_right (hr.mono (by decide)) (LamX.lamS_by (by rfl)) rfl (fun _ _ _ _ _ => rfl) (fun A1 outer1 s1 H1 E1 f1 c1 hr => (by exact (ev_meth (ev_var 1 rfl (by first | exact .inl rfl | exact .inr (.inl rfl) | exact .inr (.inr rfl))) T.m_Round_turned G_Round_turned (hr.mono (by decide)) (bd_Round_turned_2 T) (fun _ => .nil) adF_ok (eva_cons (ev_var 4 rfl (by first | exact .inl rfl | exact .inr (.inl rfl) | exact .inr (.inr rfl))) eva_nil) evk_nil))))))))
      (evs_cons (evs_expr (by exact (ev_app (ev_var 6 rfl (.inl rfl)) (by exact (ev_heard (kd := 5) (by rfl) T.g__law_heard T.k__law_heard lkH hcgH hbH sc__law_heard rfl (.inl rfl) (by rfl) (gv__law_heard T) TB rfl T.tb__law_refused_right T.tu__law_refused_right (hr.mono (by decide)) (LamX.lamS_by (by rfl)) rfl (fun _ _ _ _ _ => rfl) (fun A1 outer1 s1 H1 E1 f1 c1 hr => (by exact (ev_meth (ev_var 1 rfl (by first | exact .inl rfl | exact .inr (.inl rfl) | exact .inr (.inr rfl))) T.m_Round_row G_Round_row (hr.mono (by decide)) (bd_Round_row_3 T) (fun _ => .nil) adF_ok (eva_cons (ev_var 4 rfl (by first | exact .inl rfl | exact .inr (.inl rfl) | exact .inr (.inr rfl))) (eva_cons (ev_var 5 rfl (by first | exact .inl rfl | exact .inr (.inl rfl) | exact .inr (.inr rfl))) eva_nil)) evk_nil))))))))
      (evs_cons (evs_expr (by exact (ev_app (ev_var 6 rfl (.inl rfl)) (by exact (ev_heard (kd := 5) (by rfl) T.g__law_heard T.k__law_heard lkH hcgH hbH sc__law_heard rfl (.inl rfl) (by rfl) (gv__law_heard T) TB rfl T.tb__law_refused_right T.tu__law_refused_right (hr.mono (by decide)) (LamX.lamS_by (by rfl)) rfl (fun _ _ _ _ _ => rfl) (fun A1 outer1 s1 H1 E1 f1 c1 hr => (by exact (ev_meth (ev_var 1 rfl (by first | exact .inl rfl | exact .inr (.inl rfl) | exact .inr (.inr rfl))) T.m_Round_row G_Round_row (hr.mono (by decide)) (bd_Round_row_3 T) (fun _ => .nil) adF_ok (eva_cons (ev_neg (ev_bin op_pow opd_pow ev_int ev_int)) (eva_cons (by exact (ev_call G__law_pick (hr.mono (by decide)) (by rfl) T.g__law_pick T.k__law_pick (bd__law_pick_2 T) (fun _ => .nil) adF_ok (eva_cons (ev_var 0 rfl (by first | exact .inl rfl | exact .inr (.inl rfl) | exact .inr (.inr rfl))) (eva_cons (ev_lst (eva_cons ev_int (eva_cons ev_int (eva_cons ev_non (eva_cons ev_bl (eva_cons ev_str eva_nil)))))) eva_nil)) evk_nil)) eva_nil)) evk_nil))))))))
      (evs_cons (evs_expr (by exact (ev_app (ev_var 6 rfl (.inl rfl)) (by exact (ev_heard (kd := 5) (by rfl) T.g__law_heard T.k__law_heard lkH hcgH hbH sc__law_heard rfl (.inl rfl) (by rfl) (gv__law_heard T) TB rfl T.tb__law_refused_right T.tu__law_refused_right (hr.mono (by decide)) (LamX.lamS_by (by rfl)) rfl (fun _ _ _ _ _ => rfl) (fun A1 outer1 s1 H1 E1 f1 c1 hr => (by exact (ev_meth0 (by exact (ev_make (b := false) T.mk_Round G_Round_X__init_X_ T.c_Round (hr.mono (by decide)) (by rfl) T.g_Round (bd_Round_X__init_X__2 T) (fun _ => .nil) (eva_cons (ev_bin opr_mul opd_mul (ev_lst (eva_cons ev_int eva_nil)) ev_int) eva_nil) evk_nil)) T.m_Round_twice G_Round_twice (hr.mono (by decide)) (bd_Round_twice_1 T) (fun _ => .nil) adF_ok evk_nil))))))))
      (evs_cons (evs_expr (by exact (ev_app (ev_var 6 rfl (.inl rfl)) (by exact (ev_heard (kd := 5) (by rfl) T.g__law_heard T.k__law_heard lkH hcgH hbH sc__law_heard rfl (.inl rfl) (by rfl) (gv__law_heard T) TB rfl T.tb__law_refused_right T.tu__law_refused_right (hr.mono (by decide)) (LamX.lamS_by (by rfl)) rfl (fun _ _ _ _ _ => rfl) (fun A1 outer1 s1 H1 E1 f1 c1 hr => (by exact (ev_meth (by exact (ev_make (b := false) T.mk_Rule G_Rule_X__init_X_ T.c_Rule (hr.mono (by decide)) (by rfl) T.g_Rule (bd_Rule_X__init_X__3 T) (fun _ => (.cons .non (.cons .non .nil))) (eva_cons ev_int (eva_cons ev_int eva_nil)) evk_nil)) T.m_Rule_keeps G_Rule_keeps (hr.mono (by decide)) (bd_Rule_keeps_2 T) (fun _ => .nil) adF_ok (eva_cons (ev_var 1 rfl (by first | exact .inl rfl | exact .inr (.inl rfl) | exact .inr (.inr rfl))) eva_nil) evk_nil))))))))
      (evs_cons (evs_expr (by exact (ev_app (ev_var 6 rfl (.inl rfl)) (by exact (ev_heard (kd := 4) (by rfl) T.g__law_heard T.k__law_heard lkH hcgH hbH sc__law_heard rfl (.inl rfl) (by rfl) (gv__law_heard T) TB rfl T.tb__law_refused_right T.tu__law_refused_right (hr.mono (by decide)) (LamX.lamS_by (by rfl)) rfl (fun _ _ _ _ _ => rfl) (fun A1 outer1 s1 H1 E1 f1 c1 hr => (by exact (ev_make (b := false) T.mk_Round G_Round_X__init_X_ T.c_Round (hr.mono (by decide)) (by rfl) T.g_Round (bd_Round_X__init_X__2 T) (fun _ => .nil) (eva_cons (by exact (ev_make (b := false) T.mk_Row G_Row_X__init_X_ T.c_Row (hr.mono (by decide)) (by rfl) T.g_Row (bd_Row_X__init_X__2 T) (fun _ => .nil) (eva_cons (ev_lst (eva_cons ev_int (eva_cons ev_int eva_nil))) eva_nil) evk_nil)) eva_nil) evk_nil))))))))
      (evs_cons (evs_set (i := 7) hN rfl (.inl rfl) (ev_lst (eva_cons (ev_tup (eva_cons ev_str (eva_cons ev_str eva_nil))) (eva_cons (ev_tup (eva_cons ev_str (eva_cons ev_int eva_nil))) (eva_cons (ev_tup (eva_cons ev_str (eva_cons ev_str eva_nil))) (eva_cons (ev_tup (eva_cons ev_str (eva_cons ev_str eva_nil))) (eva_cons (ev_tup (eva_cons ev_str (eva_cons ev_str eva_nil))) (eva_cons (ev_tup (eva_cons ev_str (eva_cons ev_str eva_nil))) eva_nil))))))))
      (evs_cons (evs_ret (ev_and (by exact (ev_cmp (op_eqD hr.units) opd_eq (ev_var 6 rfl (.inl rfl)) (ev_bin opr_add opd_add (ev_var 7 rfl (.inl rfl)) (ev_lst (eva_cons (ev_tup (eva_cons ev_str (eva_cons ev_str eva_nil))) (eva_cons (ev_tup (eva_cons ev_str (eva_cons ev_str eva_nil))) (eva_cons (ev_tup (eva_cons ev_str (eva_cons ev_str eva_nil))) (eva_cons (ev_tup (eva_cons ev_str (eva_cons ev_int eva_nil))) (eva_cons (ev_tup (eva_cons ev_str (eva_cons ev_str eva_nil))) (eva_cons (ev_tup (eva_cons ev_str (eva_cons ev_str eva_nil))) eva_nil)))))))) (nomark _))) (ev_one (by exact (ev_cmp (op_eqD hr.units) opd_eq (by exact (ev_lenO ⟨T.leno_Round.1, T.leno_Round.2⟩ G_Round_X__len_X_ (hr.mono (by decide)) (bd_Round_X__len_X__1 T) (by rfl) T.f_len (by exact (ev_meth0 (by exact (ev_make (b := false) T.mk_Round G_Round_X__init_X_ T.c_Round (hr.mono (by decide)) (by rfl) T.g_Round (bd_Round_X__init_X__2 T) (fun _ => .nil) (eva_cons (ev_bin opr_mul opd_mul (ev_lst (eva_cons ev_int eva_nil)) ev_int) eva_nil) evk_nil)) T.m_Round_twice G_Round_twice (hr.mono (by decide)) (bd_Round_twice_1 T) (fun _ => .nil) adF_ok evk_nil)))) ev_int (nomark _))))))
      evs_nil))))))))))))))))
theorem sc_law : FnScope ["_law_script", "_law_mill_here", "_law_lap", "_law_gains_here", "_law_passed", "_law_around"] ["_law_script"] (defScope st_law) := ⟨rfl, rfl, rfl, by decide +kernel, rfl, by decide +kernel, by decide +kernel⟩
theorem b_law {P : Program} {W : World} {K : PySem.W.Frag} {mg : Str → Option Value} {base : Heap} (T : Fx K mg) (G_Round_X__init_X_ : Fn P W K mg base 3 (He.ma K (clA mg ("Round" : Str)) ("__init__" : Str)) ["self", "gains"] sp_Round_X__init_X_) (G_Round_X__eq_X_ : Fn P W K mg base 1 (He.ma K (clA mg ("Round" : Str)) ("__eq__" : Str)) ["self", "other"] sp_Round_X__eq_X_) (G__law_refused_right : Fn P W K mg base 9 (clA mg ("_law_refused_right" : Str)) ["_law_mill_here", "_law_around", "_law_gains_here"] sp__law_refused_right) (G_Row_X__init_X_ : Fn P W K mg base 3 (He.ma K (clA mg ("Row" : Str)) ("__init__" : Str)) ["self", "gains"] sp_Row_X__init_X_) (G__law_sums_right : Fn P W K mg base 5 (clA mg ("_law_sums_right" : Str)) ["_law_mill_here", "_law_around", "_law_gains_here"] sp__law_sums_right) (G__law_other_right : Fn P W K mg base 6 (clA mg ("_law_other_right" : Str)) ["_law_mill_here", "_law_around", "_law_gains_here"] sp__law_other_right) (G__law_kept_right : Fn P W K mg base 6 (clA mg ("_law_kept_right" : Str)) ["_law_mill_here", "_law_around", "_law_gains_here"] sp__law_kept_right) (G_Round_X__len_X_ : Fn P W K mg base 1 (He.ma K (clA mg ("Round" : Str)) ("__len__" : Str)) ["self"] sp_Round_X__len_X_) (G__law_gains : Fn P W K mg base 2 (clA mg ("_law_gains" : Str)) ["_law_mill_here"] sp__law_gains) (G__law_mill : Fn P W K mg base 1 (clA mg ("_law_mill" : Str)) ["_law_script"] sp__law_mill) {cdv : Value} {A : Around} {outer : List Env} {s : Shared} {H : Hp} {E : XK} (hr : Room 9 (A.deeper (envOfC ("law" : Str) (defScope st_law) s.heap.objs.size (clA mg ("law" : Str)) cdv))) :
    EVSs (cxOf (L2.CX P W) P W K mg base ["_law_script", "_law_mill_here", "_law_lap", "_law_gains_here", "_law_passed", "_law_around"] ("law" : Str) (defScope st_law) (clA mg ("law" : Str)) cdv A outer s H E) (defBody st_law) t_law := by
  have hN := sc_law.nd
  exact (evs_cons (evs_set (i := 1) hN rfl (.inl rfl) (by exact (ev_call G__law_mill (hr.mono (by decide)) (by rfl) T.g__law_mill T.k__law_mill (bd__law_mill_1 T) (fun _ => .nil) adC_ok (eva_cons (ev_var 0 rfl (.inl rfl)) eva_nil) evk_nil)))
      (evs_cons (evs_for (passes_of rfl) rfl (evi_r1 (by rfl) T.f_range (eva_cons ev_int eva_nil)) (evg_name (i := 2) hN rfl (.inl rfl)) (evs_cons (evs_set (i := 3) hN rfl (.inl rfl) (by exact (ev_call G__law_gains (hr.mono (by decide)) (by rfl) T.g__law_gains T.k__law_gains (bd__law_gains_1 T) (fun _ => .nil) adF_ok (eva_cons (ev_var 1 rfl (.inl rfl)) eva_nil) evk_nil)))
      (evs_cons (evs_set (i := 4) hN rfl (.inl rfl) (by exact (ev_listC (by rfl) T.f_list (ev_var 3 rfl (.inl rfl)))))
      (evs_cons (evs_set (i := 5) hN rfl (.inl rfl) (by exact (ev_make0 (b := false) T.mk_Round G_Round_X__init_X_ T.c_Round (hr.mono (by decide)) (by rfl) T.g_Round (bd_Round_X__init_X__1_gains T) (fun _ => .nil) (evk_cons (ev_var 4 rfl (.inl rfl)) evk_nil))))
      (evs_cons (evs_expr (by exact (ev_app (ev_var 4 rfl (.inl rfl)) ev_int)))
      (evs_cons (evs_asg (ev_bin opr_add opd_add (ev_idx (ev_var 4 rfl (.inl rfl)) ev_int) ev_int) (evg_sub (ev_var 4 rfl (.inl rfl)) ev_int))
      (evs_cons (evs_if (evt_w (evw_or (by exact (evt_cmp (op_neD hr.units) opd_ne (ev_fld (ev_var 5 rfl (.inl rfl))) (by exact (ev_cty call_tuple_of cd_tup (by rfl) T.f_tuple boot_tuple (eva_cons (ev_var 3 rfl (.inl rfl)) eva_nil))) (nomark _))) (evw_or (by exact (evt_cmp (op_neD hr.units) opd_ne (ev_fld (ev_var 5 rfl (.inl rfl))) (by exact (ev_cb call_len cd_len (by rfl) T.f_len boot_len (eva_cons (ev_var 3 rfl (.inl rfl)) eva_nil))) (nomark _))) (evw_or (by exact (evt_cmp (op_neD hr.units) opd_ne (by exact (ev_lenO ⟨T.leno_Round.1, T.leno_Round.2⟩ G_Round_X__len_X_ (hr.mono (by decide)) (bd_Round_X__len_X__1 T) (by rfl) T.f_len (ev_var 5 rfl (.inl rfl)))) (by exact (ev_cb call_len cd_len (by rfl) T.f_len boot_len (eva_cons (ev_var 3 rfl (.inl rfl)) eva_nil))) (nomark _))) (evw_or1 (by exact (evt_cmp (op_neD hr.units) opd_ne (ev_fld (ev_var 5 rfl (.inl rfl))) (by exact (ev_cb (call_sumX rfl) cd_sumX (by rfl) T.f_sum boot_sum (eva_cons (ev_var 3 rfl (.inl rfl)) eva_nil))) (nomark _)))))))) (evs_cons (evs_ret ev_bl)
      evs_nil) evs_nil)
      (evs_cons (evs_if (evt_w (evw_or (evt_not (evt_tru (by exact (ev_call G__law_sums_right (hr.mono (by decide)) (by rfl) T.g__law_sums_right T.k__law_sums_right (bd__law_sums_right_3 T) (fun _ => .nil) adF_ok (eva_cons (ev_var 1 rfl (.inl rfl)) (eva_cons (ev_var 5 rfl (.inl rfl)) (eva_cons (ev_var 3 rfl (.inl rfl)) eva_nil))) evk_nil)))) (evw_or (evt_not (evt_tru (by exact (ev_call G__law_other_right (hr.mono (by decide)) (by rfl) T.g__law_other_right T.k__law_other_right (bd__law_other_right_3 T) (fun _ => .nil) adF_ok (eva_cons (ev_var 1 rfl (.inl rfl)) (eva_cons (ev_var 5 rfl (.inl rfl)) (eva_cons (ev_var 3 rfl (.inl rfl)) eva_nil))) evk_nil)))) (evw_or1 (evt_not (evt_tru (by exact (ev_call G__law_kept_right (hr.mono (by decide)) (by rfl) T.g__law_kept_right T.k__law_kept_right (bd__law_kept_right_3 T) (fun _ => .nil) adF_ok (eva_cons (ev_var 1 rfl (.inl rfl)) (eva_cons (ev_var 5 rfl (.inl rfl)) (eva_cons (ev_var 3 rfl (.inl rfl)) eva_nil))) evk_nil)))))))) (evs_cons (evs_ret ev_bl)
      evs_nil) evs_nil)
      (evs_cons (evs_if (evt_w (evw_or (evt_not (evt_tru (by exact (ev_call G__law_refused_right (hr.mono (by decide)) (by rfl) T.g__law_refused_right T.k__law_refused_right (bd__law_refused_right_3 T) (fun _ => .nil) adF_ok (eva_cons (ev_var 1 rfl (.inl rfl)) (eva_cons (ev_var 5 rfl (.inl rfl)) (eva_cons (ev_var 3 rfl (.inl rfl)) eva_nil))) evk_nil)))) (evw_or (by exact (evt_neO T.isa T.nf_Round ⟨T.eqo_Round.1, T.eqo_Round.2, T.eqo_Round.3, T.eqo_Round.4⟩ G_Round_X__eq_X_ (hr.mono (by decide)) (bd_Round_X__eq_X__2 T) (by exact (ev_make (b := false) T.mk_Round G_Round_X__init_X_ T.c_Round (hr.mono (by decide)) (by rfl) T.g_Round (bd_Round_X__init_X__2 T) (fun _ => .nil) (eva_cons (by exact (ev_cty call_tuple_of cd_tup (by rfl) T.f_tuple boot_tuple (eva_cons (ev_var 3 rfl (.inl rfl)) eva_nil))) eva_nil) evk_nil)) (ev_var 5 rfl (.inl rfl)))) (evw_or (by exact (evt_eqO T.isa T.nf_Round ⟨T.eqo_Round.1, T.eqo_Round.2, T.eqo_Round.3, T.eqo_Round.4⟩ G_Round_X__eq_X_ (hr.mono (by decide)) (bd_Round_X__eq_X__2 T) (ev_var 5 rfl (.inl rfl)) (by exact (ev_cty call_tuple_of cd_tup (by rfl) T.f_tuple boot_tuple (eva_cons (ev_var 3 rfl (.inl rfl)) eva_nil))))) (evw_or1 (by exact (evt_eqO T.isa T.nf_Round ⟨T.eqo_Round.1, T.eqo_Round.2, T.eqo_Round.3, T.eqo_Round.4⟩ G_Round_X__eq_X_ (hr.mono (by decide)) (bd_Round_X__eq_X__2 T) (ev_var 5 rfl (.inl rfl)) (by exact (ev_make (b := false) T.mk_Row G_Row_X__init_X_ T.c_Row (hr.mono (by decide)) (by rfl) T.g_Row (bd_Row_X__init_X__2 T) (fun _ => .nil) (eva_cons (ev_var 3 rfl (.inl rfl)) eva_nil) evk_nil))))))))) (evs_cons (evs_ret ev_bl)
      evs_nil) evs_nil)
      (evs_cons (evs_if (by exact (evt_cmp (op_neD hr.units) opd_ne (by exact (ev_eqO T.isa T.nf_Round ⟨T.eqo_Round.1, T.eqo_Round.2, T.eqo_Round.3, T.eqo_Round.4⟩ G_Round_X__eq_X_ (hr.mono (by decide)) (bd_Round_X__eq_X__2 T) (by exact (ev_make (b := false) T.mk_Round G_Round_X__init_X_ T.c_Round (hr.mono (by decide)) (by rfl) T.g_Round (bd_Round_X__init_X__2 T) (fun _ => .nil) (eva_cons (ev_rev (ev_var 3 rfl (.inl rfl))) eva_nil) evk_nil)) (ev_var 5 rfl (.inl rfl)))) (by exact (ev_cmp (op_eqD hr.units) opd_eq (ev_rev (ev_var 3 rfl (.inl rfl))) (ev_var 3 rfl (.inl rfl)) (nomark _))) (nomark _))) (evs_cons (evs_ret ev_bl)
      evs_nil) evs_nil)
      evs_nil))))))))))
      (evs_cons (evs_ret ev_bl)
      evs_nil)))
end K72
set_option Elab.async false
set_option linter.all false
set_option maxRecDepth 100000
set_option maxHeartbeats 0
set_option autoImplicit false
/-! K72h: the head: the top's run, the facts (printed by gen.py). -/
namespace K72
open PySem PySem.Spec PyProof.Rows L2 Dl
def loose0 : List Str := [PySem.Str.ofString "_wall", PySem.Str.ofString "__name__", PySem.Str.ofString "DayError", PySem.Str.ofString "BadRow", PySem.Str.ofString "BadRule", PySem.Str.ofString "BadRound", PySem.Str.ofString "BadSaying", PySem.Str.ofString "BadNumber", PySem.Str.ofString "Misfit", PySem.Str.ofString "TooMany", PySem.Str.ofString "BadText", PySem.Str.ofString "DIGITS", PySem.Str.ofString "is_integer", PySem.Str.ofString "is_within", PySem.Str.ofString "are_integers", PySem.Str.ofString "need_number", PySem.Str.ofString "MOST_DIGITS", PySem.Str.ofString "integer_of", PySem.Str.ofString "Scan", PySem.Str.ofString "MOST_DAYS_rows", PySem.Str.ofString "need_row", PySem.Str.ofString "need_stretch", PySem.Str.ofString "heights_of", PySem.Str.ofString "Row", PySem.Str.ofString "MOST_LENGTH", PySem.Str.ofString "FREE", PySem.Str.ofString "need_bound", PySem.Str.ofString "are_bounds", PySem.Str.ofString "contrary", PySem.Str.ofString "bound_text", PySem.Str.ofString "take_bound", PySem.Str.ofString "take_rule", PySem.Str.ofString "Rule", PySem.Str.ofString "MOST_DAYS_books", PySem.Str.ofString "GAINS"]
def loose1 : List Str := [PySem.Str.ofString "LOSES", PySem.Str.ofString "FLAT", PySem.Str.ofString "MIXED", PySem.Str.ofString "word_of", PySem.Str.ofString "Round", PySem.Str.ofString "height_in", PySem.Str.ofString "sums_in", PySem.Str.ofString "sums_in_rounds", PySem.Str.ofString "LAST_BEGIN", PySem.Str.ofString "ANY", PySem.Str.ofString "SOME", PySem.Str.ofString "JUST", PySem.Str.ofString "TOLD", PySem.Str.ofString "need_bounds", PySem.Str.ofString "sums_in_sayings", PySem.Str.ofString "Some", PySem.Str.ofString "Just", PySem.Str.ofString "Told", PySem.Str.ofString "need_fit", PySem.Str.ofString "take_bounds", PySem.Str.ofString "take_told", PySem.Str.ofString "take_behind", PySem.Str.ofString "read_with", PySem.Str.ofString "_law_mill", PySem.Str.ofString "_law_grind", PySem.Str.ofString "_law_pick", PySem.Str.ofString "_law_gains", PySem.Str.ofString "_law_sum", PySem.Str.ofString "_law_word", PySem.Str.ofString "_law_sums_right", PySem.Str.ofString "_law_other_right", PySem.Str.ofString "_law_kept_right", PySem.Str.ofString "_law_heard", PySem.Str.ofString "_law_refused_right"]
def loose : List Str := loose0 ++ loose1
def D0 : He.DefD := ⟨("_law_mill", none), "_law_mill", "_law_mill", defArgs st__law_mill, defBody st__law_mill, defScope st__law_mill, [], []⟩
def D1 : He.DefD := ⟨("_law_grind", none), "_law_grind", "_law_grind", defArgs st__law_grind, defBody st__law_grind, defScope st__law_grind, [], []⟩
def D2 : He.DefD := ⟨("_law_gains", none), "_law_gains", "_law_gains", defArgs st__law_gains, defBody st__law_gains, defScope st__law_gains, [], []⟩
def D3 : He.DefD := ⟨("is_integer", none), "is_integer", "is_integer", defArgs st_is_integer, defBody st_is_integer, defScope st_is_integer, [], []⟩
def D4 : He.DefD := ⟨("are_integers", none), "are_integers", "are_integers", defArgs st_are_integers, defBody st_are_integers, defScope st_are_integers, [], []⟩
def D5 : He.DefD := ⟨("Round", some "__init__"), "__init__", "Round.__init__", defArgs st_Round_X__init_X_, defBody st_Round_X__init_X_, defScope st_Round_X__init_X_, [], []⟩
def D6 : He.DefD := ⟨("Round", some "__eq__"), "__eq__", "Round.__eq__", defArgs st_Round_X__eq_X_, defBody st_Round_X__eq_X_, defScope st_Round_X__eq_X_, [], []⟩
def D7 : He.DefD := ⟨("Round", some "__len__"), "__len__", "Round.__len__", defArgs st_Round_X__len_X_, defBody st_Round_X__len_X_, defScope st_Round_X__len_X_, [], []⟩
def D8 : He.DefD := ⟨("is_within", none), "is_within", "is_within", defArgs st_is_within, defBody st_is_within, defScope st_is_within, [], []⟩
def D9 : He.DefD := ⟨("need_number", none), "need_number", "need_number", defArgs st_need_number, defBody st_need_number, defScope st_need_number, [], []⟩
def D10 : He.DefD := ⟨("word_of", none), "word_of", "word_of", defArgs st_word_of, defBody st_word_of, defScope st_word_of, [], []⟩
def D11 : He.DefD := ⟨("height_in", none), "height_in", "height_in", defArgs st_height_in, defBody st_height_in, defScope st_height_in, [], []⟩
def D12 : He.DefD := ⟨("sums_in_rounds", none), "sums_in", "sums_in", defArgs st_sums_in_rounds, defBody st_sums_in_rounds, defScope st_sums_in_rounds, [], []⟩
def D13 : He.DefD := ⟨("Round", some "sort_of"), "sort_of", "Round.sort_of", defArgs st_Round_sort_of, defBody st_Round_sort_of, defScope st_Round_sort_of, [], []⟩
def D14 : He.DefD := ⟨("_law_pick", none), "_law_pick", "_law_pick", defArgs st__law_pick, defBody st__law_pick, defScope st__law_pick, [], []⟩
def D15 : He.DefD := ⟨("_law_sum", none), "_law_sum", "_law_sum", defArgs st__law_sum, defBody st__law_sum, defScope st__law_sum, [], []⟩
def D16 : He.DefD := ⟨("Round", some "sum_of"), "sum_of", "Round.sum_of", defArgs st_Round_sum_of, defBody st_Round_sum_of, defScope st_Round_sum_of, [], []⟩
def D17 : He.DefD := ⟨("_law_word", none), "_law_word", "_law_word", defArgs st__law_word, defBody st__law_word, defScope st__law_word, [], []⟩
def D18 : He.DefD := ⟨("_law_sums_right", none), "_law_sums_right", "_law_sums_right", defArgs st__law_sums_right, defBody st__law_sums_right, defScope st__law_sums_right, [], []⟩
def D19 : He.DefD := ⟨("Round", some "turned"), "turned", "Round.turned", defArgs st_Round_turned, defBody st_Round_turned, defScope st_Round_turned, [], []⟩
def D20 : He.DefD := ⟨("heights_of", none), "heights_of", "heights_of", defArgs st_heights_of, defBody st_heights_of, defScope st_heights_of, [], []⟩
def D21 : He.DefD := ⟨("Row", some "__init__"), "__init__", "Row.__init__", defArgs st_Row_X__init_X_, defBody st_Row_X__init_X_, defScope st_Row_X__init_X_, [], []⟩
def D22 : He.DefD := ⟨("Round", some "row"), "row", "Round.row", defArgs st_Round_row, defBody st_Round_row, defScope st_Round_row, [], []⟩
def D23 : He.DefD := ⟨("Round", some "twice"), "twice", "Round.twice", defArgs st_Round_twice, defBody st_Round_twice, defScope st_Round_twice, [], []⟩
def D24 : He.DefD := ⟨("_law_other_right", none), "_law_other_right", "_law_other_right", defArgs st__law_other_right, defBody st__law_other_right, defScope st__law_other_right, [], []⟩
def D25 : He.DefD := ⟨("need_bound", none), "need_bound", "need_bound", defArgs st_need_bound, defBody st_need_bound, defScope st_need_bound, [], []⟩
def D26 : He.DefD := ⟨("are_bounds", none), "are_bounds", "are_bounds", defArgs st_are_bounds, defBody st_are_bounds, defScope st_are_bounds, [], []⟩
def D27 : He.DefD := ⟨("Rule", some "__init__"), "__init__", "Rule.__init__", defArgs st_Rule_X__init_X_, defBody st_Rule_X__init_X_, defScope st_Rule_X__init_X_, [.non, .non], []⟩
def D28 : He.DefD := ⟨("need_row", none), "need_row", "need_row", defArgs st_need_row, defBody st_need_row, defScope st_need_row, [], []⟩
def D29 : He.DefD := ⟨("Rule", some "first_broken"), "first_broken", "Rule.first_broken", defArgs st_Rule_first_broken, defBody st_Rule_first_broken, defScope st_Rule_first_broken, [], []⟩
def D30 : He.DefD := ⟨("Rule", some "keeps"), "keeps", "Rule.keeps", defArgs st_Rule_keeps, defBody st_Rule_keeps, defScope st_Rule_keeps, [], []⟩
def D31 : He.DefD := ⟨("Round", some "keeps"), "keeps", "Round.keeps", defArgs st_Round_keeps, defBody st_Round_keeps, defScope st_Round_keeps, [], []⟩
def D32 : He.DefD := ⟨("_law_kept_right", none), "_law_kept_right", "_law_kept_right", defArgs st__law_kept_right, defBody st__law_kept_right, defScope st__law_kept_right, [], []⟩
def D33 : He.DefD := ⟨("_law_heard", none), "_law_heard", "_law_heard", defArgs st__law_heard, defBody st__law_heard, defScope st__law_heard, [], []⟩
def D34 : He.DefD := ⟨("need_bounds", none), "need_bounds", "need_bounds", defArgs st_need_bounds, defBody st_need_bounds, defScope st_need_bounds, [], []⟩
def D35 : He.DefD := ⟨("Some", some "__init__"), "__init__", "Some.__init__", defArgs st_Some_X__init_X_, defBody st_Some_X__init_X_, defScope st_Some_X__init_X_, [.non, .non], []⟩
def D36 : He.DefD := ⟨("_law_refused_right", none), "_law_refused_right", "_law_refused_right", defArgs st__law_refused_right, defBody st__law_refused_right, defScope st__law_refused_right, [], []⟩
def D37 : He.DefD := ⟨("law", none), "law", "law", defArgs st_law, defBody st_law, defScope st_law, [], []⟩
def D38 : He.DefD := ⟨("BadRound", some "__init__"), "__init__", "BadRound.__init__", defArgs st_BadRound_X__init_X_, defBody st_BadRound_X__init_X_, defScope st_BadRound_X__init_X_, [], []⟩
def D39 : He.DefD := ⟨("TooMany", some "__init__"), "__init__", "TooMany.__init__", defArgs st_TooMany_X__init_X_, defBody st_TooMany_X__init_X_, defScope st_TooMany_X__init_X_, [], []⟩
def D40 : He.DefD := ⟨("BadNumber", some "__init__"), "__init__", "BadNumber.__init__", defArgs st_BadNumber_X__init_X_, defBody st_BadNumber_X__init_X_, defScope st_BadNumber_X__init_X_, [], []⟩
def D41 : He.DefD := ⟨("BadRow", some "__init__"), "__init__", "BadRow.__init__", defArgs st_BadRow_X__init_X_, defBody st_BadRow_X__init_X_, defScope st_BadRow_X__init_X_, [], []⟩
def D42 : He.DefD := ⟨("BadRule", some "__init__"), "__init__", "BadRule.__init__", defArgs st_BadRule_X__init_X_, defBody st_BadRule_X__init_X_, defScope st_BadRule_X__init_X_, [], []⟩
def D43 : He.DefD := ⟨("BadSaying", some "__init__"), "__init__", "BadSaying.__init__", defArgs st_BadSaying_X__init_X_, defBody st_BadSaying_X__init_X_, defScope st_BadSaying_X__init_X_, [], []⟩
def fn : List He.DefD := [D0, D1, D2, D3, D4, D5, D6, D7, D8, D9, D10, D11, D12, D13, D14, D15, D16, D17, D18, D19, D20, D21, D22, D23, D24, D25, D26, D27, D28, D29, D30, D31, D32, D33, D34, D35, D36, D37, D38, D39, D40, D41, D42, D43]
def fa : List He.Fa := [.glo "Round", .glo "Row", .glo "Rule", .glo "Some", .glo "BadRound", .glo "TooMany", .glo "BadNumber", .glo "BadRow", .glo "BadRule", .glo "BadSaying", .free "int", .glo "_law_mill", .free "len", .free "abs", .glo "_law_grind", .free "sum", .keep "_law_grind", .free "range", .glo "_law_gains", .free "isinstance", .free "bool", .glo "is_integer", .free "list", .free "tuple", .free "all", .keep "is_integer", .glo "are_integers", .noat "Round" "total", .noat "Round" "days", .noat "Round" "gains", .int "MOST_DAYS_books" 48, .keep "are_integers", .glo "is_within", .keep "is_within", .glo "need_number", .free "min", .free "max", .str "FLAT" "flat", .str "MIXED" "mixed", .str "LOSES" "loses", .str "GAINS" "gains", .glo "word_of", .glo "height_in", .keep "height_in", .glo "sums_in_rounds", .keep "word_of", .keep "sums_in_rounds", .keep "need_number", .glo "_law_pick", .glo "_law_sum", .glo "_law_word", .keep "_law_word", .meth "Round" "sort_of", .meth "Round" "sum_of", .keep "_law_sum", .keep "_law_pick", .glo "_law_sums_right", .mkr "Round", .cls "Round", .glo "heights_of", .noat "Row" "total", .noat "Row" "days", .noat "Row" "heights", .keep "heights_of", .noat "Row" "gains", .int "MOST_DAYS_rows" 48, .mkr "Row", .cls "Row", .meth "Round" "row", .meth "Round" "twice", .meth "Round" "turned", .glo "_law_other_right", .glo "need_bound", .glo "are_bounds", .noat "Rule" "high", .noat "Rule" "low", .noat "Rule" "length", .keep "are_bounds", .keep "need_bound", .int "MOST_LENGTH" 48, .glo "need_row", .keep "need_row", .meth "Rule" "first_broken", .meth "Rule" "keeps", .free "repr", .meth "Round" "keeps", .mkr "Rule", .cls "Rule", .glo "_law_kept_right", .glo "DayError", .glo "_law_heard", .glo "need_bounds", .noat "Some" "high", .noat "Some" "low", .noat "Some" "length", .keep "need_bounds", .keep "_law_heard", .mkr "Some", .cls "Some", .glo "_law_refused_right", .keep "_law_refused_right", .keep "_law_sums_right", .keep "_law_other_right", .keep "_law_kept_right", .keep "_law_gains", .keep "_law_mill", .glo "law", .noat "BadRound" "part", .noat "TooMany" "what", .noat "TooMany" "most", .noat "BadNumber" "part", .noat "BadRow" "part", .noat "BadRule" "part", .noat "BadSaying" "part"]
def tf : List He.Defn := [("_law_refused_right", none)]
def exs (K : PySem.W.Frag) : List Bool := [owns.all (fun C => isCB K (He.ga K C)),
  excs.all (fun C => exKB K (He.ga K C)),
  isaB K isa (tgs owns excs) [.b "int"],
  isaB K isa (tgs owns excs) [.b "bool"],
  isaB K isa (tgs owns excs) [.b "list", .b "tuple"],
  oexB K (He.ga K ("TooMany" : Str)),
  oexB K (He.ga K ("BadRound" : Str)),
  isaB K isa (tgs owns excs) [.c "Round"],
  oexB K (He.ga K ("BadNumber" : Str)),
  oexB K (He.ga K ("BadRow" : Str)),
  isaB K isa (tgs owns excs) [.c "Row"],
  lenTB K (He.ga K ("Round" : Str)),
  nfB K (He.ga K ("Round" : Str)) (tgs owns excs),
  eqTB K (He.ga K ("Round" : Str)),
  oexB K (He.ga K ("BadRule" : Str)),
  isaB K isa (tgs owns excs) [.c "Rule"],
  hit.all (fun p => decide (PySem.W.exmOne K (.ref (He.ga K p.1)) (.ref (He.ga K ("DayError" : Str))) = some p.2)),
  isaB K isa (tgs owns excs) [.c "BadRound", .c "BadRule", .c "BadNumber"],
  excs.all (fun C => eqV (PySem.W.findIn K (.ref (He.ga K C)) ("part" : Str)) (some none)),
  isaB K isa (tgs owns excs) [.c "BadRound"],
  isaB K isa (tgs owns excs) [.c "BadRule"],
  isaB K isa (tgs owns excs) [.c "TooMany"],
  excs.all (fun C => eqV (PySem.W.findIn K (.ref (He.ga K C)) ("most" : Str)) (some none)),
  excs.all (fun C => eqV (PySem.W.findIn K (.ref (He.ga K C)) ("what" : Str)) (some none)),
  isaB K isa (tgs owns excs) [.c "BadRow"],
  oexB K (He.ga K ("BadSaying" : Str)),
  initB K (He.ga K ("BadRound" : Str)),
  initB K (He.ga K ("TooMany" : Str)),
  initB K (He.ga K ("BadNumber" : Str)),
  initB K (He.ga K ("BadRow" : Str)),
  initB K (He.ga K ("BadRule" : Str)),
  initB K (He.ga K ("BadSaying" : Str))]
def exx (K : PySem.W.Frag) : Bool := (exs K).all id
abbrev R : PySem.W.OpenRow := PySem.W.OpenLaw.row PySem.Challenge.rw_anyseven_k72_rounds_and_their_sums
abbrev hk : PySem.W.Hook := hookW fa fn tf exx
def ob (s : PySem.W.SharedT) : He.AlX := obsW fa fn tf exx (HandSHeadRun.getT s)
theorem ob_eq (s : PySem.W.SharedT) : ob s = hk.obs s.abs := obsW_eq (HandSHeadRun.getT_eq s)
theorem run (w : World) : HandSHeadRun.RunEq R (PySem.W.view R.prog [78]) hk ob 20000 loose w := by
  intro os
  kernel_rfl
end K72
set_option Elab.async false
set_option linter.all false
set_option maxRecDepth 100000
set_option maxHeartbeats 4000000
set_option autoImplicit false
/-! K72f: what the head tells gives the facts (printed by gen.py). -/
namespace K72
open PySem PySem.Spec PyProof.Rows L2 Dl
def tbs (K : PySem.W.Frag) : Tb := ⟨[((He.cT K (("_law_refused_right" : Str), none)).2, ("_law_refused_right.<locals>.<lambda>" : Str))], isa⟩
theorem fxOf {W : World} {h : Heap} {K : PySem.W.Frag} {mg : Str → Option Value} (X : K.In h) (G : h.Ns mainGlobals mg) (s : He.SaysX fa fn [] tf exx W h K) : @Fx (tbs K) K mg := by
  letI : Tb := tbs K
  have c : He.SaysD fa fn K := s.t.d
  have cl : ∀ {x : Str}, (He.Fa.glo x).ok K = true → clA mg x = He.ga K x := fun q => cl_ga X G q
  have xb : ∀ (i : Nat) {b : Bool}, (exs K)[i]? = some b → b = true := fun i b e => List.all_eq_true.mp s.more b (List.mem_of_getElem? e)
  have fa_0 : He.SaysD fa fn K → (He.Fa.glo "Round").ok K = true := fun c => c.fact 0 rfl
  have fa_1 : He.SaysD fa fn K → (He.Fa.glo "Row").ok K = true := fun c => c.fact 1 rfl
  have fa_2 : He.SaysD fa fn K → (He.Fa.glo "Rule").ok K = true := fun c => c.fact 2 rfl
  have fa_3 : He.SaysD fa fn K → (He.Fa.glo "Some").ok K = true := fun c => c.fact 3 rfl
  have fa_4 : He.SaysD fa fn K → (He.Fa.glo "BadRound").ok K = true := fun c => c.fact 4 rfl
  have fa_5 : He.SaysD fa fn K → (He.Fa.glo "TooMany").ok K = true := fun c => c.fact 5 rfl
  have fa_6 : He.SaysD fa fn K → (He.Fa.glo "BadNumber").ok K = true := fun c => c.fact 6 rfl
  have fa_7 : He.SaysD fa fn K → (He.Fa.glo "BadRow").ok K = true := fun c => c.fact 7 rfl
  have fa_8 : He.SaysD fa fn K → (He.Fa.glo "BadRule").ok K = true := fun c => c.fact 8 rfl
  have fa_9 : He.SaysD fa fn K → (He.Fa.glo "BadSaying").ok K = true := fun c => c.fact 9 rfl
  have fa_10 : He.SaysD fa fn K → (He.Fa.free "int").ok K = true := fun c => c.fact 10 rfl
  have fa_11 : He.SaysD fa fn K → (He.Fa.glo "_law_mill").ok K = true := fun c => c.fact 11 rfl
  have fa_12 : He.SaysD fa fn K → (He.Fa.free "len").ok K = true := fun c => c.fact 12 rfl
  have fa_13 : He.SaysD fa fn K → (He.Fa.free "abs").ok K = true := fun c => c.fact 13 rfl
  have fa_14 : He.SaysD fa fn K → (He.Fa.glo "_law_grind").ok K = true := fun c => c.fact 14 rfl
  have fa_15 : He.SaysD fa fn K → (He.Fa.free "sum").ok K = true := fun c => c.fact 15 rfl
  have fa_16 : He.SaysD fa fn K → (He.Fa.keep "_law_grind").ok K = true := fun c => c.fact 16 rfl
  have fa_17 : He.SaysD fa fn K → (He.Fa.free "range").ok K = true := fun c => c.fact 17 rfl
  have fa_18 : He.SaysD fa fn K → (He.Fa.glo "_law_gains").ok K = true := fun c => c.fact 18 rfl
  have fa_19 : He.SaysD fa fn K → (He.Fa.free "isinstance").ok K = true := fun c => c.fact 19 rfl
  have fa_20 : He.SaysD fa fn K → (He.Fa.free "bool").ok K = true := fun c => c.fact 20 rfl
  have fa_21 : He.SaysD fa fn K → (He.Fa.glo "is_integer").ok K = true := fun c => c.fact 21 rfl
  have fa_22 : He.SaysD fa fn K → (He.Fa.free "list").ok K = true := fun c => c.fact 22 rfl
  have fa_23 : He.SaysD fa fn K → (He.Fa.free "tuple").ok K = true := fun c => c.fact 23 rfl
  have fa_24 : He.SaysD fa fn K → (He.Fa.free "all").ok K = true := fun c => c.fact 24 rfl
  have fa_25 : He.SaysD fa fn K → (He.Fa.keep "is_integer").ok K = true := fun c => c.fact 25 rfl
  have fa_26 : He.SaysD fa fn K → (He.Fa.glo "are_integers").ok K = true := fun c => c.fact 26 rfl
  have fa_27 : He.SaysD fa fn K → (He.Fa.noat "Round" "total").ok K = true := fun c => c.fact 27 rfl
  have fa_28 : He.SaysD fa fn K → (He.Fa.noat "Round" "days").ok K = true := fun c => c.fact 28 rfl
  have fa_29 : He.SaysD fa fn K → (He.Fa.noat "Round" "gains").ok K = true := fun c => c.fact 29 rfl
  have fa_30 : He.SaysD fa fn K → (He.Fa.int "MOST_DAYS_books" 48).ok K = true := fun c => c.fact 30 rfl
  have fa_31 : He.SaysD fa fn K → (He.Fa.keep "are_integers").ok K = true := fun c => c.fact 31 rfl
  have fa_32 : He.SaysD fa fn K → (He.Fa.glo "is_within").ok K = true := fun c => c.fact 32 rfl
  have fa_33 : He.SaysD fa fn K → (He.Fa.keep "is_within").ok K = true := fun c => c.fact 33 rfl
  have fa_34 : He.SaysD fa fn K → (He.Fa.glo "need_number").ok K = true := fun c => c.fact 34 rfl
  have fa_35 : He.SaysD fa fn K → (He.Fa.free "min").ok K = true := fun c => c.fact 35 rfl
  have fa_36 : He.SaysD fa fn K → (He.Fa.free "max").ok K = true := fun c => c.fact 36 rfl
  have fa_37 : He.SaysD fa fn K → (He.Fa.str "FLAT" "flat").ok K = true := fun c => c.fact 37 rfl
  have fa_38 : He.SaysD fa fn K → (He.Fa.str "MIXED" "mixed").ok K = true := fun c => c.fact 38 rfl
  have fa_39 : He.SaysD fa fn K → (He.Fa.str "LOSES" "loses").ok K = true := fun c => c.fact 39 rfl
  have fa_40 : He.SaysD fa fn K → (He.Fa.str "GAINS" "gains").ok K = true := fun c => c.fact 40 rfl
  have fa_41 : He.SaysD fa fn K → (He.Fa.glo "word_of").ok K = true := fun c => c.fact 41 rfl
  have fa_42 : He.SaysD fa fn K → (He.Fa.glo "height_in").ok K = true := fun c => c.fact 42 rfl
  have fa_43 : He.SaysD fa fn K → (He.Fa.keep "height_in").ok K = true := fun c => c.fact 43 rfl
  have fa_44 : He.SaysD fa fn K → (He.Fa.glo "sums_in_rounds").ok K = true := fun c => c.fact 44 rfl
  have fa_45 : He.SaysD fa fn K → (He.Fa.keep "word_of").ok K = true := fun c => c.fact 45 rfl
  have fa_46 : He.SaysD fa fn K → (He.Fa.keep "sums_in_rounds").ok K = true := fun c => c.fact 46 rfl
  have fa_47 : He.SaysD fa fn K → (He.Fa.keep "need_number").ok K = true := fun c => c.fact 47 rfl
  have fa_48 : He.SaysD fa fn K → (He.Fa.glo "_law_pick").ok K = true := fun c => c.fact 48 rfl
  have fa_49 : He.SaysD fa fn K → (He.Fa.glo "_law_sum").ok K = true := fun c => c.fact 49 rfl
  have fa_50 : He.SaysD fa fn K → (He.Fa.glo "_law_word").ok K = true := fun c => c.fact 50 rfl
  have fa_51 : He.SaysD fa fn K → (He.Fa.keep "_law_word").ok K = true := fun c => c.fact 51 rfl
  have fa_52 : He.SaysD fa fn K → (He.Fa.meth "Round" "sort_of").ok K = true := fun c => c.fact 52 rfl
  have fa_53 : He.SaysD fa fn K → (He.Fa.meth "Round" "sum_of").ok K = true := fun c => c.fact 53 rfl
  have fa_54 : He.SaysD fa fn K → (He.Fa.keep "_law_sum").ok K = true := fun c => c.fact 54 rfl
  have fa_55 : He.SaysD fa fn K → (He.Fa.keep "_law_pick").ok K = true := fun c => c.fact 55 rfl
  have fa_56 : He.SaysD fa fn K → (He.Fa.glo "_law_sums_right").ok K = true := fun c => c.fact 56 rfl
  have fa_57 : He.SaysD fa fn K → (He.Fa.mkr "Round").ok K = true := fun c => c.fact 57 rfl
  have fa_58 : He.SaysD fa fn K → (He.Fa.cls "Round").ok K = true := fun c => c.fact 58 rfl
  have fa_59 : He.SaysD fa fn K → (He.Fa.glo "heights_of").ok K = true := fun c => c.fact 59 rfl
  have fa_60 : He.SaysD fa fn K → (He.Fa.noat "Row" "total").ok K = true := fun c => c.fact 60 rfl
  have fa_61 : He.SaysD fa fn K → (He.Fa.noat "Row" "days").ok K = true := fun c => c.fact 61 rfl
  have fa_62 : He.SaysD fa fn K → (He.Fa.noat "Row" "heights").ok K = true := fun c => c.fact 62 rfl
  have fa_63 : He.SaysD fa fn K → (He.Fa.keep "heights_of").ok K = true := fun c => c.fact 63 rfl
  have fa_64 : He.SaysD fa fn K → (He.Fa.noat "Row" "gains").ok K = true := fun c => c.fact 64 rfl
  have fa_65 : He.SaysD fa fn K → (He.Fa.int "MOST_DAYS_rows" 48).ok K = true := fun c => c.fact 65 rfl
  have fa_66 : He.SaysD fa fn K → (He.Fa.mkr "Row").ok K = true := fun c => c.fact 66 rfl
  have fa_67 : He.SaysD fa fn K → (He.Fa.cls "Row").ok K = true := fun c => c.fact 67 rfl
  have fa_68 : He.SaysD fa fn K → (He.Fa.meth "Round" "row").ok K = true := fun c => c.fact 68 rfl
  have fa_69 : He.SaysD fa fn K → (He.Fa.meth "Round" "twice").ok K = true := fun c => c.fact 69 rfl
  have fa_70 : He.SaysD fa fn K → (He.Fa.meth "Round" "turned").ok K = true := fun c => c.fact 70 rfl
  have fa_71 : He.SaysD fa fn K → (He.Fa.glo "_law_other_right").ok K = true := fun c => c.fact 71 rfl
  have fa_72 : He.SaysD fa fn K → (He.Fa.glo "need_bound").ok K = true := fun c => c.fact 72 rfl
  have fa_73 : He.SaysD fa fn K → (He.Fa.glo "are_bounds").ok K = true := fun c => c.fact 73 rfl
  have fa_74 : He.SaysD fa fn K → (He.Fa.noat "Rule" "high").ok K = true := fun c => c.fact 74 rfl
  have fa_75 : He.SaysD fa fn K → (He.Fa.noat "Rule" "low").ok K = true := fun c => c.fact 75 rfl
  have fa_76 : He.SaysD fa fn K → (He.Fa.noat "Rule" "length").ok K = true := fun c => c.fact 76 rfl
  have fa_77 : He.SaysD fa fn K → (He.Fa.keep "are_bounds").ok K = true := fun c => c.fact 77 rfl
  have fa_78 : He.SaysD fa fn K → (He.Fa.keep "need_bound").ok K = true := fun c => c.fact 78 rfl
  have fa_79 : He.SaysD fa fn K → (He.Fa.int "MOST_LENGTH" 48).ok K = true := fun c => c.fact 79 rfl
  have fa_80 : He.SaysD fa fn K → (He.Fa.glo "need_row").ok K = true := fun c => c.fact 80 rfl
  have fa_81 : He.SaysD fa fn K → (He.Fa.keep "need_row").ok K = true := fun c => c.fact 81 rfl
  have fa_82 : He.SaysD fa fn K → (He.Fa.meth "Rule" "first_broken").ok K = true := fun c => c.fact 82 rfl
  have fa_83 : He.SaysD fa fn K → (He.Fa.meth "Rule" "keeps").ok K = true := fun c => c.fact 83 rfl
  have fa_84 : He.SaysD fa fn K → (He.Fa.free "repr").ok K = true := fun c => c.fact 84 rfl
  have fa_85 : He.SaysD fa fn K → (He.Fa.meth "Round" "keeps").ok K = true := fun c => c.fact 85 rfl
  have fa_86 : He.SaysD fa fn K → (He.Fa.mkr "Rule").ok K = true := fun c => c.fact 86 rfl
  have fa_87 : He.SaysD fa fn K → (He.Fa.cls "Rule").ok K = true := fun c => c.fact 87 rfl
  have fa_88 : He.SaysD fa fn K → (He.Fa.glo "_law_kept_right").ok K = true := fun c => c.fact 88 rfl
  have fa_89 : He.SaysD fa fn K → (He.Fa.glo "DayError").ok K = true := fun c => c.fact 89 rfl
  have fa_90 : He.SaysD fa fn K → (He.Fa.glo "_law_heard").ok K = true := fun c => c.fact 90 rfl
  have fa_91 : He.SaysD fa fn K → (He.Fa.glo "need_bounds").ok K = true := fun c => c.fact 91 rfl
  have fa_92 : He.SaysD fa fn K → (He.Fa.noat "Some" "high").ok K = true := fun c => c.fact 92 rfl
  have fa_93 : He.SaysD fa fn K → (He.Fa.noat "Some" "low").ok K = true := fun c => c.fact 93 rfl
  have fa_94 : He.SaysD fa fn K → (He.Fa.noat "Some" "length").ok K = true := fun c => c.fact 94 rfl
  have fa_95 : He.SaysD fa fn K → (He.Fa.keep "need_bounds").ok K = true := fun c => c.fact 95 rfl
  have fa_96 : He.SaysD fa fn K → (He.Fa.keep "_law_heard").ok K = true := fun c => c.fact 96 rfl
  have fa_97 : He.SaysD fa fn K → (He.Fa.mkr "Some").ok K = true := fun c => c.fact 97 rfl
  have fa_98 : He.SaysD fa fn K → (He.Fa.cls "Some").ok K = true := fun c => c.fact 98 rfl
  have fa_99 : He.SaysD fa fn K → (He.Fa.glo "_law_refused_right").ok K = true := fun c => c.fact 99 rfl
  have fa_100 : He.SaysD fa fn K → (He.Fa.keep "_law_refused_right").ok K = true := fun c => c.fact 100 rfl
  have fa_101 : He.SaysD fa fn K → (He.Fa.keep "_law_sums_right").ok K = true := fun c => c.fact 101 rfl
  have fa_102 : He.SaysD fa fn K → (He.Fa.keep "_law_other_right").ok K = true := fun c => c.fact 102 rfl
  have fa_103 : He.SaysD fa fn K → (He.Fa.keep "_law_kept_right").ok K = true := fun c => c.fact 103 rfl
  have fa_104 : He.SaysD fa fn K → (He.Fa.keep "_law_gains").ok K = true := fun c => c.fact 104 rfl
  have fa_105 : He.SaysD fa fn K → (He.Fa.keep "_law_mill").ok K = true := fun c => c.fact 105 rfl
  have fa_106 : He.SaysD fa fn K → (He.Fa.glo "law").ok K = true := fun c => c.fact 106 rfl
  have fa_107 : He.SaysD fa fn K → (He.Fa.noat "BadRound" "part").ok K = true := fun c => c.fact 107 rfl
  have fa_108 : He.SaysD fa fn K → (He.Fa.noat "TooMany" "what").ok K = true := fun c => c.fact 108 rfl
  have fa_109 : He.SaysD fa fn K → (He.Fa.noat "TooMany" "most").ok K = true := fun c => c.fact 109 rfl
  have fa_110 : He.SaysD fa fn K → (He.Fa.noat "BadNumber" "part").ok K = true := fun c => c.fact 110 rfl
  have fa_111 : He.SaysD fa fn K → (He.Fa.noat "BadRow" "part").ok K = true := fun c => c.fact 111 rfl
  have fa_112 : He.SaysD fa fn K → (He.Fa.noat "BadRule" "part").ok K = true := fun c => c.fact 112 rfl
  have fa_113 : He.SaysD fa fn K → (He.Fa.noat "BadSaying" "part").ok K = true := fun c => c.fact 113 rfl
  have hcl : ClOk K mg (owns ++ excs) := by
    intro C hC
    simp only [owns, excs, List.cons_append, List.nil_append, List.mem_cons, List.not_mem_nil, or_false] at hC
    rcases hC with rfl | rfl | rfl | rfl | rfl | rfl | rfl | rfl | rfl | rfl
    · exact cl (fa_0 c)
    · exact cl (fa_1 c)
    · exact cl (fa_2 c)
    · exact cl (fa_3 c)
    · exact cl (fa_4 c)
    · exact cl (fa_5 c)
    · exact cl (fa_6 c)
    · exact cl (fa_7 c)
    · exact cl (fa_8 c)
    · exact cl (fa_9 c)
  have clH : ∀ p ∈ hit, clA mg p.1 = He.ga K p.1 := fun p hp => by
    obtain ⟨C, hC, rfl⟩ := List.mem_map.mp hp
    exact hcl C (List.mem_append_right _ hC)
  exact @Fx.mk (tbs K) K mg
    (He.free_ok X G (fa_10 c))
    (by
    rw [cl (fa_11 c)]
    exact fdA_ok (He.SaysD.def_ (c) 0 (d := D0) rfl))
    (He.free_ok X G (fa_12 c))
    (He.free_ok X G (fa_13 c))
    (by
    rw [cl (fa_14 c)]
    exact fdA_ok (He.SaysD.def_ (c) 1 (d := D1) rfl))
    (He.free_ok X G (fa_15 c))
    (glo_cl X G (fa_14 c))
    (by
    rw [cl (fa_14 c)]
    exact He.keep_ok (fa_16 c))
    (He.free_ok X G (fa_17 c))
    (by
    rw [cl (fa_18 c)]
    exact fdA_ok (He.SaysD.def_ (c) 2 (d := D2) rfl))
    (isa_of hcl (xb 0 rfl) (xb 1 rfl))
    (He.free_ok X G (fa_19 c))
    (isaOk_of hcl (tgIn_of (by decide)) (xb 2 rfl))
    (He.free_ok X G (fa_20 c))
    (isaOk_of hcl (tgIn_of (by decide)) (xb 3 rfl))
    (by
    rw [cl (fa_21 c)]
    exact fdA_ok (He.SaysD.def_ (c) 3 (d := D3) rfl))
    (He.free_ok X G (fa_22 c))
    (He.free_ok X G (fa_23 c))
    (isaOk_of hcl (tgIn_of (by decide)) (xb 4 rfl))
    (He.free_ok X G (fa_24 c))
    (glo_cl X G (fa_21 c))
    (by
    rw [cl (fa_21 c)]
    exact He.keep_ok (fa_25 c))
    (by
    rw [cl (fa_26 c)]
    exact fdA_ok (He.SaysD.def_ (c) 4 (d := D4) rfl))
    (by
    rw [cl (fa_0 c)]
    exact He.noat_ok (fa_27 c))
    (by
    rw [cl (fa_0 c)]
    exact He.noat_ok (fa_28 c))
    (by
    rw [cl (fa_0 c)]
    exact He.noat_ok (fa_29 c))
    (He.int_ok X G (fa_30 c))
    (glo_cl X G (fa_5 c))
    (by
    rw [cl (fa_5 c)]
    exact oexB_ok (xb 5 rfl))
    (glo_cl X G (fa_26 c))
    (by
    rw [cl (fa_26 c)]
    exact He.keep_ok (fa_31 c))
    (glo_cl X G (fa_4 c))
    (by
    rw [cl (fa_4 c)]
    exact oexB_ok (xb 6 rfl))
    (by
    rw [cl (fa_0 c)]
    exact fdA_ok (He.SaysD.def_ (c) 5 (d := D5) rfl))
    (glo_cl X G (fa_0 c))
    (isaOk_of hcl (tgIn_of (by decide)) (xb 7 rfl))
    (by
    rw [cl (fa_0 c)]
    exact fdA_ok (He.SaysD.def_ (c) 6 (d := D6) rfl))
    (by
    rw [cl (fa_0 c)]
    exact fdA_ok (He.SaysD.def_ (c) 7 (d := D7) rfl))
    (by
    rw [cl (fa_32 c)]
    exact fdA_ok (He.SaysD.def_ (c) 8 (d := D8) rfl))
    (glo_cl X G (fa_32 c))
    (by
    rw [cl (fa_32 c)]
    exact He.keep_ok (fa_33 c))
    (glo_cl X G (fa_6 c))
    (by
    rw [cl (fa_6 c)]
    exact oexB_ok (xb 8 rfl))
    (by
    rw [cl (fa_34 c)]
    exact fdA_ok (He.SaysD.def_ (c) 9 (d := D9) rfl))
    (He.free_ok X G (fa_35 c))
    (He.free_ok X G (fa_36 c))
    (He.str_ok X G (fa_37 c))
    (He.str_ok X G (fa_38 c))
    (He.str_ok X G (fa_39 c))
    (He.str_ok X G (fa_40 c))
    (by
    rw [cl (fa_41 c)]
    exact fdA_ok (He.SaysD.def_ (c) 10 (d := D10) rfl))
    (by
    rw [cl (fa_42 c)]
    exact fdA_ok (He.SaysD.def_ (c) 11 (d := D11) rfl))
    (glo_cl X G (fa_42 c))
    (by
    rw [cl (fa_42 c)]
    exact He.keep_ok (fa_43 c))
    (by
    rw [cl (fa_44 c)]
    exact fdA_ok (He.SaysD.def_ (c) 12 (d := D12) rfl))
    (glo_cl X G (fa_41 c))
    (by
    rw [cl (fa_41 c)]
    exact He.keep_ok (fa_45 c))
    (glo_cl X G (fa_44 c))
    (by
    rw [cl (fa_44 c)]
    exact He.keep_ok (fa_46 c))
    (glo_cl X G (fa_34 c))
    (by
    rw [cl (fa_34 c)]
    exact He.keep_ok (fa_47 c))
    (by
    rw [cl (fa_0 c)]
    exact fdA_ok (He.SaysD.def_ (c) 13 (d := D13) rfl))
    (by
    rw [cl (fa_48 c)]
    exact fdA_ok (He.SaysD.def_ (c) 14 (d := D14) rfl))
    (by
    rw [cl (fa_49 c)]
    exact fdA_ok (He.SaysD.def_ (c) 15 (d := D15) rfl))
    (by
    rw [cl (fa_0 c)]
    exact fdA_ok (He.SaysD.def_ (c) 16 (d := D16) rfl))
    (by
    rw [cl (fa_50 c)]
    exact fdA_ok (He.SaysD.def_ (c) 17 (d := D17) rfl))
    (glo_cl X G (fa_50 c))
    (by
    rw [cl (fa_50 c)]
    exact He.keep_ok (fa_51 c))
    (by
    rw [cl (fa_0 c)]
    exact He.meth_ok (fa_52 c))
    (by
    rw [cl (fa_0 c)]
    exact He.meth_ok (fa_53 c))
    (glo_cl X G (fa_49 c))
    (by
    rw [cl (fa_49 c)]
    exact He.keep_ok (fa_54 c))
    (glo_cl X G (fa_48 c))
    (by
    rw [cl (fa_48 c)]
    exact He.keep_ok (fa_55 c))
    (by
    rw [cl (fa_56 c)]
    exact fdA_ok (He.SaysD.def_ (c) 18 (d := D18) rfl))
    (by
    rw [cl (fa_0 c)]
    exact He.mkr_ok (fa_57 c))
    (by
    rw [cl (fa_0 c)]
    exact He.cls_ok (fa_58 c))
    (by
    rw [cl (fa_0 c)]
    exact fdA_ok (He.SaysD.def_ (c) 19 (d := D19) rfl))
    (by
    rw [cl (fa_59 c)]
    exact fdA_ok (He.SaysD.def_ (c) 20 (d := D20) rfl))
    (by
    rw [cl (fa_1 c)]
    exact He.noat_ok (fa_60 c))
    (by
    rw [cl (fa_1 c)]
    exact He.noat_ok (fa_61 c))
    (by
    rw [cl (fa_1 c)]
    exact He.noat_ok (fa_62 c))
    (glo_cl X G (fa_59 c))
    (by
    rw [cl (fa_59 c)]
    exact He.keep_ok (fa_63 c))
    (by
    rw [cl (fa_1 c)]
    exact He.noat_ok (fa_64 c))
    (He.int_ok X G (fa_65 c))
    (glo_cl X G (fa_7 c))
    (by
    rw [cl (fa_7 c)]
    exact oexB_ok (xb 9 rfl))
    (by
    rw [cl (fa_1 c)]
    exact fdA_ok (He.SaysD.def_ (c) 21 (d := D21) rfl))
    (glo_cl X G (fa_1 c))
    (by
    rw [cl (fa_1 c)]
    exact He.mkr_ok (fa_66 c))
    (by
    rw [cl (fa_1 c)]
    exact He.cls_ok (fa_67 c))
    (by
    rw [cl (fa_0 c)]
    exact fdA_ok (He.SaysD.def_ (c) 22 (d := D22) rfl))
    (by
    rw [cl (fa_0 c)]
    exact fdA_ok (He.SaysD.def_ (c) 23 (d := D23) rfl))
    (by
    rw [cl (fa_0 c)]
    exact He.meth_ok (fa_68 c))
    (isaOk_of hcl (tgIn_of (by decide)) (xb 10 rfl))
    (by
    rw [cl (fa_0 c)]
    exact lenTB_ok (xb 11 rfl))
    (by
    rw [cl (fa_0 c)]
    exact nf_of hcl (xb 12 rfl))
    (by
    rw [cl (fa_0 c)]
    exact eqTB_ok (xb 13 rfl))
    (by
    rw [cl (fa_0 c)]
    exact He.meth_ok (fa_69 c))
    (by
    rw [cl (fa_0 c)]
    exact He.meth_ok (fa_70 c))
    (by
    rw [cl (fa_71 c)]
    exact fdA_ok (He.SaysD.def_ (c) 24 (d := D24) rfl))
    (by
    rw [cl (fa_72 c)]
    exact fdA_ok (He.SaysD.def_ (c) 25 (d := D25) rfl))
    (by
    rw [cl (fa_73 c)]
    exact fdA_ok (He.SaysD.def_ (c) 26 (d := D26) rfl))
    (by
    rw [cl (fa_2 c)]
    exact He.noat_ok (fa_74 c))
    (by
    rw [cl (fa_2 c)]
    exact He.noat_ok (fa_75 c))
    (by
    rw [cl (fa_2 c)]
    exact He.noat_ok (fa_76 c))
    (glo_cl X G (fa_73 c))
    (by
    rw [cl (fa_73 c)]
    exact He.keep_ok (fa_77 c))
    (glo_cl X G (fa_8 c))
    (by
    rw [cl (fa_8 c)]
    exact oexB_ok (xb 14 rfl))
    (glo_cl X G (fa_72 c))
    (by
    rw [cl (fa_72 c)]
    exact He.keep_ok (fa_78 c))
    (He.int_ok X G (fa_79 c))
    (by
    rw [cl (fa_2 c)]
    exact fdA_ok (He.SaysD.def_ (c) 27 (d := D27) rfl))
    (by
    rw [cl (fa_80 c)]
    exact fdA_ok (He.SaysD.def_ (c) 28 (d := D28) rfl))
    (glo_cl X G (fa_80 c))
    (by
    rw [cl (fa_80 c)]
    exact He.keep_ok (fa_81 c))
    (by
    rw [cl (fa_2 c)]
    exact fdA_ok (He.SaysD.def_ (c) 29 (d := D29) rfl))
    (by
    rw [cl (fa_2 c)]
    exact He.meth_ok (fa_82 c))
    (by
    rw [cl (fa_2 c)]
    exact fdA_ok (He.SaysD.def_ (c) 30 (d := D30) rfl))
    (glo_cl X G (fa_2 c))
    (isaOk_of hcl (tgIn_of (by decide)) (xb 15 rfl))
    (by
    rw [cl (fa_0 c)]
    exact fdA_ok (He.SaysD.def_ (c) 31 (d := D31) rfl))
    (by
    rw [cl (fa_2 c)]
    exact He.meth_ok (fa_83 c))
    (He.free_ok X G (fa_84 c))
    (by
    rw [cl (fa_0 c)]
    exact He.meth_ok (fa_85 c))
    (by
    rw [cl (fa_2 c)]
    exact He.mkr_ok (fa_86 c))
    (by
    rw [cl (fa_2 c)]
    exact He.cls_ok (fa_87 c))
    (by
    rw [cl (fa_88 c)]
    exact fdA_ok (He.SaysD.def_ (c) 32 (d := D32) rfl))
    (glo_cl X G (fa_89 c))
    (fun p hp => by
    have z := of_decide_eq_true (List.all_eq_true.mp (xb 16 rfl) p hp)
    rw [clH p hp, cl (fa_89 c)]
    exact z)
    (isaOk_of hcl (tgIn_of (by decide)) (xb 17 rfl))
    (fun C hC => by
    have z := of_decide_eq_true (List.all_eq_true.mp (xb 18 rfl) C hC)
    rw [hcl C (List.mem_append_right _ hC)]
    exact z)
    (isaOk_of hcl (tgIn_of (by decide)) (xb 19 rfl))
    (isaOk_of hcl (tgIn_of (by decide)) (xb 20 rfl))
    (isaOk_of hcl (tgIn_of (by decide)) (xb 21 rfl))
    (fun C hC => by
    have z := of_decide_eq_true (List.all_eq_true.mp (xb 22 rfl) C hC)
    rw [hcl C (List.mem_append_right _ hC)]
    exact z)
    (fun C hC => by
    have z := of_decide_eq_true (List.all_eq_true.mp (xb 23 rfl) C hC)
    rw [hcl C (List.mem_append_right _ hC)]
    exact z)
    (isaOk_of hcl (tgIn_of (by decide)) (xb 24 rfl))
    (by
    rw [cl (fa_90 c)]
    exact fdA_ok (He.SaysD.def_ (c) 33 (d := D33) rfl))
    (glo_cl X G (fa_9 c))
    (by
    rw [cl (fa_9 c)]
    exact oexB_ok (xb 25 rfl))
    (by
    rw [cl (fa_91 c)]
    exact fdA_ok (He.SaysD.def_ (c) 34 (d := D34) rfl))
    (by
    rw [cl (fa_3 c)]
    exact He.noat_ok (fa_92 c))
    (by
    rw [cl (fa_3 c)]
    exact He.noat_ok (fa_93 c))
    (by
    rw [cl (fa_3 c)]
    exact He.noat_ok (fa_94 c))
    (glo_cl X G (fa_91 c))
    (by
    rw [cl (fa_91 c)]
    exact He.keep_ok (fa_95 c))
    (by
    rw [cl (fa_3 c)]
    exact fdA_ok (He.SaysD.def_ (c) 35 (d := D35) rfl))
    (glo_cl X G (fa_90 c))
    (by
    rw [cl (fa_90 c)]
    exact He.keep_ok (fa_96 c))
    (List.mem_cons_self)
    (fun p hp e => by
    rw [List.mem_singleton.mp hp])
    (glo_cl X G (fa_3 c))
    (by
    rw [cl (fa_3 c)]
    exact He.mkr_ok (fa_97 c))
    (by
    rw [cl (fa_3 c)]
    exact He.cls_ok (fa_98 c))
    (by
    rw [cl (fa_99 c)]
    exact fdA_ok (He.SaysD.def_ (c) 36 (d := D36) rfl))
    (glo_cl X G (fa_99 c))
    (by
    rw [cl (fa_99 c)]
    exact He.keep_ok (fa_100 c))
    (glo_cl X G (fa_56 c))
    (by
    rw [cl (fa_56 c)]
    exact He.keep_ok (fa_101 c))
    (glo_cl X G (fa_71 c))
    (by
    rw [cl (fa_71 c)]
    exact He.keep_ok (fa_102 c))
    (glo_cl X G (fa_88 c))
    (by
    rw [cl (fa_88 c)]
    exact He.keep_ok (fa_103 c))
    (glo_cl X G (fa_18 c))
    (by
    rw [cl (fa_18 c)]
    exact He.keep_ok (fa_104 c))
    (glo_cl X G (fa_11 c))
    (by
    rw [cl (fa_11 c)]
    exact He.keep_ok (fa_105 c))
    (by
    rw [cl (fa_106 c)]
    exact fdA_ok (He.SaysD.def_ (c) 37 (d := D37) rfl))
    (by
    rw [cl (fa_4 c)]
    exact fdA_ok (He.SaysD.def_ (c) 38 (d := D38) rfl))
    (by
    rw [cl (fa_5 c)]
    exact fdA_ok (He.SaysD.def_ (c) 39 (d := D39) rfl))
    (by
    rw [cl (fa_6 c)]
    exact fdA_ok (He.SaysD.def_ (c) 40 (d := D40) rfl))
    (by
    rw [cl (fa_7 c)]
    exact fdA_ok (He.SaysD.def_ (c) 41 (d := D41) rfl))
    (by
    rw [cl (fa_8 c)]
    exact fdA_ok (He.SaysD.def_ (c) 42 (d := D42) rfl))
    (by
    rw [cl (fa_9 c)]
    exact fdA_ok (He.SaysD.def_ (c) 43 (d := D43) rfl))
    (by
    rw [cl (fa_4 c)]
    exact He.noat_ok (fa_107 c))
    (by
    rw [cl (fa_4 c)]
    exact initB_ok (xb 26 rfl))
    (by
    rw [cl (fa_5 c)]
    exact He.noat_ok (fa_108 c))
    (by
    rw [cl (fa_5 c)]
    exact He.noat_ok (fa_109 c))
    (by
    rw [cl (fa_5 c)]
    exact initB_ok (xb 27 rfl))
    (by
    rw [cl (fa_6 c)]
    exact He.noat_ok (fa_110 c))
    (by
    rw [cl (fa_6 c)]
    exact initB_ok (xb 28 rfl))
    (by
    rw [cl (fa_7 c)]
    exact He.noat_ok (fa_111 c))
    (by
    rw [cl (fa_7 c)]
    exact initB_ok (xb 29 rfl))
    (by
    rw [cl (fa_8 c)]
    exact He.noat_ok (fa_112 c))
    (by
    rw [cl (fa_8 c)]
    exact initB_ok (xb 30 rfl))
    (by
    rw [cl (fa_9 c)]
    exact He.noat_ok (fa_113 c))
    (by
    rw [cl (fa_9 c)]
    exact initB_ok (xb 31 rfl))
    (cl (fa_99 c))
end K72
set_option Elab.async false
set_option linter.all false
set_option maxRecDepth 100000
set_option maxHeartbeats 1000000
set_option autoImplicit false
/-! K72m: heights, sums going round, words. -/
namespace K72
open PySem PySem.Spec PyProof.Rows L2 Dl
theorem sum_take_succ (ns : List Int) (i : Nat) (h : i < ns.length) : (ns.take (i + 1)).sum = (ns.take i).sum + ns.getD i 0 := by
  rw [List.take_succ, List.sum_append, List.getElem?_eq_getElem h]
  simp [List.getD, List.getElem?_eq_getElem h]
theorem height_succ (ns : List Int) (h : 0 < ns.length) (p : Int) : height ns (p + 1) = height ns p + ns.getD (p % ns.length).toNat 0 := by
  unfold height
  have hn : (0 : Int) < ns.length := by omega
  have e := Int.mul_ediv_add_emod p ns.length
  have h0 := Int.emod_nonneg p (show (ns.length : Int) ≠ 0 by omega)
  have h1 := Int.emod_lt_of_pos p hn
  generalize hr : p % (ns.length : Int) = r at *
  generalize hq : p / (ns.length : Int) = q at *
  by_cases hc : r + 1 < ns.length
  · have e1 : (p + 1) / (ns.length : Int) = q := by
      rw [← e, Int.add_assoc, Int.mul_add_ediv_left _ _ (by omega), Int.ediv_eq_zero_of_lt (by omega) hc]
      omega
    have e2 : (p + 1) % (ns.length : Int) = r + 1 := by
      rw [← e, Int.add_assoc, Int.mul_add_emod_self_left, Int.emod_eq_of_lt (by omega) hc]
    rw [e1, e2]
    have e3 : (r + 1).toNat = r.toNat + 1 := by omega
    rw [e3, sum_take_succ ns _ (by omega)]
    omega
  · have er : r + 1 = ns.length := by omega
    have e1 : (p + 1) / (ns.length : Int) = q + 1 := by
      rw [← e, Int.add_assoc, er, Int.mul_add_ediv_left _ _ (by omega), Int.ediv_self (by omega)]
    have e2 : (p + 1) % (ns.length : Int) = 0 := by
      rw [← e, Int.add_assoc, er, Int.mul_add_emod_self_left, Int.emod_self]
    rw [e1, e2]
    have e4 := sum_take_succ ns r.toNat (by omega)
    have e5 : ns.take (r.toNat + 1) = ns := List.take_of_length_le (by omega)
    rw [e5] at e4
    rw [Int.add_mul, Int.one_mul]
    have e6 : (ns.take (Int.toNat 0)).sum = 0 := by simp
    rw [e6]
    omega
theorem height_rounds (ns : List Int) (h : 0 < ns.length) (p : Int) (w : Int) : height ns (p + w * ns.length) = height ns p + w * ns.sum := by
  unfold height
  have hn : (ns.length : Int) ≠ 0 := by omega
  rw [Int.add_mul_ediv_right _ _ hn, Int.add_mul_emod_self_right, Int.add_mul]
  omega
theorem S_zero (ns : List Int) (b : Int) : S ns b 0 = 0 := by unfold S; simp
theorem S_succ (ns : List Int) (h : 0 < ns.length) (b l : Int) : S ns b (l + 1) = S ns b l + ns.getD ((b + l) % ns.length).toNat 0 := by
  unfold S
  rw [← Int.add_assoc, height_succ ns h]
  omega
theorem S_rounds (ns : List Int) (h : 0 < ns.length) (b l w : Int) : S ns b (l + w * ns.length) = S ns b l + w * ns.sum := by
  unfold S
  rw [← Int.add_assoc, height_rounds ns h]
  omega
theorem S_turn (ns : List Int) (h : 0 < ns.length) (b l w : Int) : S ns (b + w * ns.length) l = S ns b l := by
  unfold S
  rw [show b + w * ns.length + l = b + l + w * ns.length by omega, height_rounds ns h, height_rounds ns h]
  omega
theorem S_mod (ns : List Int) (h : 0 < ns.length) (b l : Int) : S ns (b % ns.length) l = S ns b l := by
  have e := Int.mul_ediv_add_emod b ns.length
  have := S_turn ns h (b % ns.length) l (b / ns.length)
  rw [← this]
  congr 1
  rw [Int.mul_comm]
  omega
/-- the days from b on, one after the other -/
theorem S_rowL (ns : List Int) (h : 0 < ns.length) (b : Int) : ∀ m : Nat, S ns b m = (rowL ns b m).sum
  | 0 => by simp [rowL, S_zero]
  | m + 1 => by
    have e : rowL ns b (m + 1) = rowL ns b m ++ [ns.getD ((b + m) % ns.length).toNat 0] := by
      simp [rowL, List.range_succ]
    rw [e, List.sum_append, ← S_rowL ns h b m]
    have := S_succ ns h b m
    push_cast
    rw [this]
    simp
theorem rowL_len (ns : List Int) (b : Int) (m : Nat) : (rowL ns b m).length = m := by simp [rowL]
theorem rowL_get (ns : List Int) (b : Int) (m : Nat) (i : Nat) (h : i < m) : (rowL ns b m).getD i 0 = ns.getD ((b + i) % ns.length).toNat 0 := by
  simp [rowL, List.getD, List.getElem?_map, List.getElem?_range h]
theorem sumsR_len (ns : List Int) (l : Int) : (sumsR ns l).length = ns.length := by simp [sumsR]
/-- the sums over all beginnings come to l times the total -/
theorem sum_map_add {α : Type} (f g : α → Int) : ∀ xs : List α, (xs.map fun x => f x + g x).sum = (xs.map f).sum + (xs.map g).sum
  | [] => rfl
  | x :: xs => by
    simp only [List.map_cons, List.sum_cons, sum_map_add f g xs]
    omega
theorem range_sum_const (n : Nat) (c : Int) : ((List.range n).map fun _ : Nat => c).sum = n * c := by
  induction n with
  | zero => simp
  | succ n ih =>
    rw [List.range_succ, List.map_append, List.sum_append, ih]
    push_cast
    rw [Int.add_mul]
    simp
/-- a turn of one day moves the first to the end -/
theorem turn_sum (ns : List Int) (h : 0 < ns.length) (l : Nat) : ((List.range ns.length).map fun b : Nat => ns.getD (((b : Int) + l) % ns.length).toNat 0).sum = ns.sum := by
  have key : ∀ b : Int, (rowL ns b ns.length).sum = ns.sum := fun b => by
    rw [← S_rowL ns h b ns.length]
    have := S_rounds ns h b 0 1
    rw [S_zero] at this
    simpa using this
  have e := key l
  unfold rowL at e
  rw [← e]
  congr 1
  refine List.map_congr_left fun b _ => ?_
  rw [Int.add_comm]
theorem sumsR_sum (ns : List Int) (h : 0 < ns.length) : ∀ l : Nat, (sumsR ns l).sum = l * ns.sum
  | 0 => by
    unfold sumsR
    have : ((List.range ns.length).map fun b : Nat => S ns b ((0 : Nat) : Int)) = (List.range ns.length).map fun _ : Nat => (0 : Int) := List.map_congr_left fun b _ => S_zero ns b
    rw [this, range_sum_const]
    simp
  | l + 1 => by
    unfold sumsR
    have e : ((List.range ns.length).map fun b : Nat => S ns b ((l + 1 : Nat) : Int)) = (List.range ns.length).map fun b : Nat => S ns b l + ns.getD (((b : Int) + l) % ns.length).toNat 0 := List.map_congr_left fun b _ => S_succ ns h b l
    rw [e, sum_map_add, turn_sum ns h l]
    have := sumsR_sum ns h l
    unfold sumsR at this
    rw [this]
    push_cast
    rw [Int.add_mul, Int.one_mul]
theorem S_wrap (ns : List Int) (h : 0 < ns.length) (b l : Int) : S ns (b + ns.length) l = S ns b l := by
  have := S_turn ns h b l 1
  rwa [Int.one_mul] at this
theorem S_round (ns : List Int) (h : 0 < ns.length) (b : Int) : S ns b ns.length = ns.sum := by
  have := S_rounds ns h b 0 1
  rw [S_zero] at this
  simpa using this
end K72
set_option Elab.async false
set_option linter.all false
set_option maxRecDepth 100000
set_option maxHeartbeats 1000000
set_option autoImplicit false
/-! Dl22: comprehensions over data that do not change a thing; subscripts and slices of integers. -/
namespace Dl
open PySem PySem.Spec PyProof.Rows L2
variable [Tb]
theorem at_nat {α : Type} (xs : List α) (i : Nat) : atI xs (i : Int) = xs[i]? := by
  unfold atI ixN
  by_cases h : i < xs.length
  · have h1 : (0 : Int) ≤ i := by omega
    have h2 : (i : Int) < xs.length := by omega
    rw [if_pos h1, if_pos h2]
    simp
  · have h1 : (0 : Int) ≤ i := by omega
    have h2 : ¬ (i : Int) < xs.length := by omega
    rw [if_pos h1, if_neg h2]
    simp at h ⊢
    exact h
theorem atI_dI (ns : List Int) {z : Int} (h0 : 0 ≤ z) (h1 : z < ns.length) : atI (dI ns) z = some (.int (ns.getD z.toNat 0)) := by
  have e : z = (z.toNat : Int) := by omega
  rw [e, at_nat, Int.toNat_natCast]
  exact dI_get ns _ (by omega)
theorem at_last {α : Type} (xs : List α) (h : 0 < xs.length) : atI xs (-1) = xs[xs.length - 1]? := by
  unfold atI ixN
  rw [if_neg (by omega), if_pos (by omega)]
  show xs[(-1 + (xs.length : Int)).toNat]? = _
  congr 1
  omega
theorem cut_take {α : Type} (xs : List α) {z : Int} (h0 : 0 ≤ z) : cutD xs none (some z) = xs.take z.toNat := by
  have h : ¬ z < 0 := by omega
  have e : HT.sIx xs.length xs.length (some z) = min z.toNat xs.length := by
    show (if z < 0 then _ else _) = _
    rw [if_neg h]
  unfold cutD
  rw [e]
  show (xs.drop 0).take (min z.toNat xs.length - 0) = _
  rw [List.drop_zero, Nat.sub_zero]
  by_cases hz : z.toNat ≤ xs.length
  · rw [Nat.min_eq_left hz]
  · rw [Nat.min_eq_right (by omega), List.take_length, List.take_of_length_le (by omega)]
theorem dI_take (ns : List Int) (i : Nat) : (dI ns).take i = dI (ns.take i) := by simp [dI, List.map_take]
theorem mod_lt {p : Int} {n : Nat} (h : 0 < n) : 0 ≤ p % n ∧ p % n < n := ⟨Int.emod_nonneg _ (by omega), Int.emod_lt_of_pos _ (by omega)⟩
theorem lcR {ρ : Ro} {M : MS} {k : KD} {x : XD} {te body : DE} {v : Nat} {j : Int} (ht : ∀ k' : KD, k' (.int j) M → te ρ M k' x) (hj : j ≤ 100000) (h0 : 0 ≤ j) (fs : Nat → D) (hf : ∀ i, isPure (fs i) = true)
    (hb : ∀ i, i < j.toNat → ∀ acc (k' : KD), k' (fs i) (M ++ [.lst acc]) → body ((ρ.set v none).set v (some (.int i))) (M ++ [.lst acc]) k' (fun _ _ => False)) (q : k (.lst ((List.range j.toNat).map fs)) M) :
    dLc false (iR1 (dCons te dNil)) (gSet v) dYes body [v] ρ M k x := by
  refine ht _ ⟨j, rfl, by omega, by omega, fun i acc M' => M' = M ∧ acc = (List.range i).map fs, ⟨rfl, rfl⟩, ?_⟩
  rintro i acc M' ⟨rfl, rfl⟩ hin
  refine ⟨rfl, trivial, fun hlt => ?_, ?_⟩
  · show body _ _ _ _
    have e : (D.int ((0 : Int) + i)) = .int i := by rw [Int.zero_add]
    simp only [e]
    refine hb i hlt _ _ ⟨hf i, ?_, M', rfl, rfl, ?_⟩
    · have : (100000 : Nat) < sizeLine := by decide
      simp only [List.length_map, List.length_range]
      omega
    · rw [List.range_succ, List.map_append]
      rfl
  · rintro rfl
    exact q
theorem lcS {ρ : Ro} {M : MS} {k : KD} {x : XD} {te body : DE} {v : Nat} {d : D} {xs : List D} (ht : ∀ k' : KD, k' d M → te ρ M k' x) (hi : itemsD (view M d) = some xs) (hd : isPure d = true) (hl : xs.length ≤ 100000) (fs : D → D) (hf : ∀ y ∈ xs, isPure (fs y) = true)
    (hb : ∀ y ∈ xs, ∀ acc (k' : KD), k' (fs y) (M ++ [.lst acc]) → body ((ρ.set v none).set v (some y)) (M ++ [.lst acc]) k' (fun _ _ => False)) (q : k (.lst (xs.map fs)) M) :
    dLc false (iSeq te) (gSet v) dYes body [v] ρ M k x := by
  refine ht _ ⟨xs, hi, fun i acc M' => M' = M ∧ acc = (xs.take i).map fs, ⟨rfl, rfl⟩, ?_⟩
  rintro i acc M' ⟨rfl, rfl⟩ hin
  refine ⟨rfl, by simp only [view_pure hd], fun hlt => ?_, ?_⟩
  · have e : xs.getD i .non = xs[i] := by simp [List.getD, List.getElem?_eq_getElem hlt]
    have hm : xs.getD i .non ∈ xs := by rw [e]; exact List.getElem_mem hlt
    refine hb _ hm _ _ ⟨hf _ hm, ?_, M', rfl, rfl, ?_⟩
    · have : (100000 : Nat) < sizeLine := by decide
      simp only [List.length_map, List.length_take]
      omega
    · rw [List.take_succ, List.map_append, List.getElem?_eq_getElem hlt, e]
      rfl
  · rintro rfl
    rw [List.take_length]
    exact q
/-- with a test: the tested elements -/
theorem lcF {ρ : Ro} {M : MS} {k : KD} {x : XD} {te body : DE} {tt : DT} {v : Nat} {d : D} {xs : List D} (ht : ∀ k' : KD, k' d M → te ρ M k' x) (hi : itemsD (view M d) = some xs) (hd : isPure d = true) (hl : xs.length ≤ 100000) (p : D → Bool) (fs : D → D) (hf : ∀ y ∈ xs, isPure (fs y) = true)
    (hp : ∀ y ∈ xs, ∀ acc (k' : Bool → MS → Prop), k' (p y) (M ++ [.lst acc]) → tt ((ρ.set v none).set v (some y)) (M ++ [.lst acc]) k' (fun _ _ => False))
    (hb : ∀ y ∈ xs, ∀ acc (k' : KD), k' (fs y) (M ++ [.lst acc]) → body ((ρ.set v none).set v (some y)) (M ++ [.lst acc]) k' (fun _ _ => False)) (q : k (.lst ((xs.filter p).map fs)) M) :
    dLc false (iSeq te) (gSet v) tt body [v] ρ M k x := by
  refine ht _ ⟨xs, hi, fun i acc M' => M' = M ∧ acc = ((xs.take i).filter p).map fs, ⟨rfl, rfl⟩, ?_⟩
  rintro i acc M' ⟨rfl, rfl⟩ hin
  refine ⟨rfl, by simp only [view_pure hd], fun hlt => ?_, ?_⟩
  · have e : xs.getD i .non = xs[i] := by simp [List.getD, List.getElem?_eq_getElem hlt]
    have hm : xs.getD i .non ∈ xs := by rw [e]; exact List.getElem_mem hlt
    have e2 : xs.take (i + 1) = xs.take i ++ [xs.getD i .non] := by rw [List.take_succ, List.getElem?_eq_getElem hlt, e]; rfl
    refine hp _ hm _ _ ?_
    by_cases hq : p (xs.getD i .non) = true
    · rw [if_pos hq]
      refine hb _ hm _ _ ⟨hf _ hm, ?_, M', rfl, rfl, ?_⟩
      · have : (100000 : Nat) < sizeLine := by decide
        have h2 := List.length_filter_le p (xs.take i)
        simp only [List.length_map, List.length_take] at h2 ⊢
        omega
      · rw [e2, List.filter_append, List.map_append, List.filter_cons_of_pos hq]
        rfl
    · rw [if_neg hq]
      refine ⟨M', rfl, rfl, ?_⟩
      rw [e2, List.filter_append, List.map_append, List.filter_cons_of_neg hq]
      simp
  · rintro rfl
    rw [List.take_length]
    exact q
end Dl
set_option Elab.async false
set_option linter.all false
set_option maxRecDepth 100000
set_option maxHeartbeats 1000000
set_option autoImplicit false
/-! K72a: the integers of lists; the small defs. -/
namespace K72
open PySem PySem.Spec PyProof.Rows L2 Dl
/-! plain -/
theorem okV_pure {d : D} (h : okV d = true) : isPure d = true := by
  simp [okV] at h; exact h.1.1
theorem okV_okT {d : D} (h : okV d = true) : okT owns excs d = true := by
  simp [okV] at h; exact h.1.2
theorem okV_tag {d : D} (h : okV d = true) : ∃ t, tag d = some t := by
  simp [okV] at h; exact Option.isSome_iff_exists.mp h.2
@[simp] theorem okV_int (i : Int) : okV (.int i) = true := rfl
@[simp] theorem okV_round (ns : List Int) : okV (roundD ns) = true := rfl
@[simp] theorem okV_row (ns : List Int) : okV (rowD ns) = true := rfl
@[simp] theorem okV_rule (n : Int) (lo hi : D) : okV (ruleD n lo hi) = true := rfl
@[simp] theorem bnd_pure {d : D} (h : bnd d = true) : isPure d = true := by cases d <;> first | rfl | cases h
variable [Tb]
abbrev R_ (t : DS) (N : List Str) (ds : List D) (M : MS) (k : KD) (x : XD) : Prop := t (enD M.length k) (fun e _ M' => x e (M'.take M.length)) (startD N ds) M
theorem v_is_integer (hisa : Tb.isa = isa) (ds : List D) (M : MS) (k : KD) (x : XD) (h : sp_is_integer ds M k x) : t_is_integer (enD M.length k) (fun e _ M' => x e (M'.take M.length)) (startD ["value"] ds) M := by
  obtain ⟨d, rfl, hd, q⟩ := h
  cases d <;> simp_all [t_is_integer, startD, okV, isa, tag, okT, isI]
theorem c_is_integer {d : D} {M : MS} {k : KD} {x : XD} (hd : okV d = true) (q : k (.bl (isI d)) M) : app' sp_is_integer [] [d] M k x :=
  app_pure (by simp [okV_pure hd]) ⟨d, rfl, hd, q⟩
theorem v_are_integers (hisa : Tb.isa = isa) (ds : List D) (M : MS) (k : KD) (x : XD) (h : sp_are_integers ds M k x) : t_are_integers (enD M.length k) (fun e _ M' => x e (M'.take M.length)) (startD ["value", "gain"] ds) M := by
  obtain ⟨d, rfl, ⟨hd, hs, hx⟩, q⟩ := h
  have hp := okV_pure hd
  have ho := okV_okT hd
  obtain ⟨t, ht⟩ := okV_tag hd
  have key : ∀ xs, itemsD d = some xs → (xs.length ≤ 1000 ∧ ∀ y ∈ xs, okV y = true) → k (.bl (toInts xs).isSome) M → dCB allB (dCons (dLc false (iSeq (dVar 0)) (gSet 1) dYes (dCall adF sp_is_integer [] 1 0 [0] [] (dCons (dVar 1) dNil) dNil) [1]) dNil) [some d, none] M (retK M.length k) (fun e M' => x e (M'.take M.length)) := by
    intro xs hi ⟨hl, hv⟩ q
    simp only [dCB_ap, dCons_ap, dNil_ap, dLc, iSeq, dVar_ap, view_pure hp]
    refine ⟨d, rfl, xs, (by rw [view_pure hp]; exact hi), fun i acc M' => M' = M ∧ acc = (xs.take i).map fun y => .bl (isI y), ⟨rfl, rfl⟩, ?_⟩
    rintro i acc M' ⟨rfl, rfl⟩ hin
    refine ⟨rfl, by rw [view_pure hp, view_pure hp], ?_, ?_⟩
    · intro hlt
      have hmem : xs.getD i .non ∈ xs := by
        simp [List.getD, List.getElem?_eq_getElem hlt]
      have hy := hv _ hmem
      simp only [gSet_ap, dYes, if_true, dCall_ap, dCons_ap, dNil_ap, dVar_ap]
      refine ⟨_, rfl, rfl, rfl, ?_⟩
      refine c_is_integer hy ?_
      refine ⟨rfl, ?_, M', rfl, rfl, ?_⟩
      · simp only [List.length_map, List.length_take]
        have : (1000 : Nat) < sizeLine := by decide
        omega
      · rw [List.take_succ, List.map_append]
        simp [List.getD, List.getElem?_eq_getElem hlt]
    · rintro rfl
      show allB _ _
      refine ⟨xs.map isI, by simp [List.take_length], ?_⟩
      rw [toInts_all]
      simpa using q
  have fin : ∀ b : Bool, [Tg.b "list", Tg.b "tuple"].any (Tb.isa t) = b → (b = false → k (.bl false) M) → (b = true → ∃ xs, itemsD d = some xs) → t_are_integers (enD M.length k) (fun e _ M' => x e (M'.take M.length)) (startD ["value", "gain"] [d]) M := by
    intro b e h1 h2
    simp only [t_are_integers, sCons_ap, sRet_ap, dAndV_ap, dIs_ap, dVar_ap, view_pure hp, enD_rt]
    refine ⟨d, rfl, by rw [view_pure hp]; exact ho, t, by rw [view_pure hp]; exact ht, b, by rw [view_bl, truD_bl, e], ?_⟩
    rw [e]
    cases b with
    | false =>
      have := h1 rfl
      simpa using this
    | true =>
      obtain ⟨xs, hi⟩ := h2 rfl
      refine key xs hi (hx xs hi) ?_
      rw [intsOf, hi] at q
      exact q
  clear key
  cases d <;> cases ht <;> first | exact (hs _ rfl).elim | exact fin false (by rw [hisa] <;> rfl) (fun _ => q) (fun e => by cases e) | exact fin true (by rw [hisa] <;> rfl) (fun e => by cases e) (fun _ => ⟨_, rfl⟩) | exact fin false (by rw [hisa] <;> simp [isa]) (fun _ => q) (fun e => by cases e)
end K72
set_option Elab.async false
set_option linter.all false
set_option maxRecDepth 100000
set_option maxHeartbeats 1000000
set_option autoImplicit false
/-! K72b: rounds made, numbers asked for. -/
namespace K72
open PySem PySem.Spec PyProof.Rows L2 Dl
variable [Tb]
theorem c_are_integers {d : D} {M : MS} {k : KD} {x : XD} (hd : okG d) (q : k (.bl (intsOf d).isSome) M) : app' sp_are_integers [] [d] M k x :=
  app_pure (by simp [okV_pure hd.1]) ⟨d, rfl, hd, q⟩
theorem v_is_within (ds : List D) (M : MS) (k : KD) (x : XD) (h : sp_is_within ds M k x) : t_is_within (enD M.length k) (fun e _ M' => x e (M'.take M.length)) (startD ["value", "low", "high"] ds) M := by
  obtain ⟨v, lo, hi, rfl, hv, h1, h2, q⟩ := h
  have hp := okV_pure hv
  simp [t_is_within, startD]
  refine c_is_integer hv ?_
  cases v <;> simp [isI] <;> first | exact q | skip
  cases lo <;> cases h1 <;> cases hi <;> cases h2 <;> simp [within] at q ⊢
  · exact q
  · exact q
  · rename_i a b
    by_cases h : b ≤ a <;> simp [h] at q ⊢ <;> first | exact q | exact ⟨by omega, q⟩ | exact .inl ⟨by omega, q⟩ | exact .inr q
  · rename_i a b c
    by_cases h : b ≤ a <;> simp [h] at q ⊢ <;> first | exact q | exact ⟨by omega, q⟩ | exact .inl ⟨by omega, q⟩ | exact .inr q
theorem c_is_within {v lo hi : D} {M : MS} {k : KD} {x : XD} (hv : okV v = true) (h1 : bnd lo = true) (h2 : bnd hi = true) (q : k (.bl (within v lo hi)) M) : app' sp_is_within [] [v, lo, hi] M k x :=
  app_pure (by simp [okV_pure hv, bnd_pure h1, bnd_pure h2]) ⟨v, lo, hi, rfl, hv, h1, h2, q⟩
theorem v_need_number (ds : List D) (M : MS) (k : KD) (x : XD) (h : sp_need_number ds M k x) : t_need_number (enD M.length k) (fun e _ M' => x e (M'.take M.length)) (startD ["value", "part", "low", "high"] ds) M := by
  obtain ⟨v, p, lo, hi, rfl, hv, h1, h2, q1, q2⟩ := h
  simp [t_need_number, startD]
  refine c_is_within hv h1 h2 ?_
  cases e : within v lo hi <;> simp_all
theorem c_need_number {v lo hi : D} {p : Str} {M : MS} {k : KD} {x : XD} (hv : okV v = true) (h1 : bnd lo = true) (h2 : bnd hi = true) (q1 : within v lo hi = true → k .non M) (q2 : within v lo hi = false → x ("BadNumber", ["part"], [.str p]) M) : app' sp_need_number [] [v, .str p, lo, hi] M k x :=
  app_pure (by simp [okV_pure hv, bnd_pure h1, bnd_pure h2]) ⟨v, p, lo, hi, rfl, hv, h1, h2, q1, q2⟩
theorem v_Round_X__len_X_ (ds : List D) (M : MS) (k : KD) (x : XD) (h : sp_Round_X__len_X_ ds M k x) : t_Round_X__len_X_ (enD M.length k) (fun e _ M' => x e (M'.take M.length)) (startD ["self"] ds) M := by
  obtain ⟨ns, rfl, q⟩ := h
  simpa [t_Round_X__len_X_, startD, roundD, rdK, rdX, lookD] using q
theorem v_Round_X__init_X_ (ds : List D) (M : MS) (k : KD) (x : XD) (h : sp_Round_X__init_X_ ds M k x) : t_Round_X__init_X_ (enD M.length k) (fun e _ M' => x e (M'.take M.length)) (startD ["self", "gains"] ds) M := by
  obtain ⟨d, rfl, rfl, hd, q1, q2, q3⟩ := h
  have hp := okV_pure hd.1
  simp [t_Round_X__init_X_, startD]
  refine c_are_integers hd ?_
  cases e : intsOf d with
  | none => simpa using q1 (.inl e)
  | some ns =>
    have hi := okG_ints e
    have hs : ∀ (M : MS), view M d = d := fun M => view_pure hp
    have hl : ∀ (B : D → Prop), lenB [d] B = B (.int ns.length) := fun B => by
      rcases items_two hi with rfl | rfl <;> simp
    have ht : ∀ (B : D → Prop), tupB [d] B = B (.tup (dI ns)) := fun B => by
      rcases items_two hi with rfl | rfl <;> simp
    have ht : ∀ (B : D → Prop), tupB [d] B = B (.tup (dI ns)) := fun B => by
      rcases items_two hi with rfl | rfl <;> simp
    by_cases h0 : ns = []
    · subst h0
      simpa [hs, hl, ht, and_assoc] using q1 (.inr e)
    · have hpos : 0 < ns.length := List.length_pos_iff.mpr h0
      by_cases h48 : 48 < ns.length
      · have h48' : ¬ ((ns.length : Int) ≤ 48) := by omega
        have h48'' : (48 : Int) < ns.length := by omega
        have := q2 ns e h48
        simp [hs, hl, ht, h0, h48', h48'', and_assoc]
        exact this
      · have h48' : ((ns.length : Int) ≤ 48) := by omega
        have h48'' : ¬ (48 : Int) < ns.length := by omega
        have := q3 ns e ⟨hpos, by omega⟩
        simp +decide [hs, hl, ht, h0, h48', h48'', and_assoc, Dl.putK, putX, lookD]
        refine sumX_tup ns ?_
        simpa +decide [Dl.putK, putX, lookD, rdK, rdX] using this
theorem c_Round_X__init_X_ {d : D} {M : MS} {k : KD} {x : XD} (hd : okG d) (q1 : (intsOf d = none ∨ intsOf d = some []) → x ("BadRound", ["part"], [.str "gains"]) (M ++ [.ins "Round" [] []])) (q2 : ∀ ns, intsOf d = some ns → 48 < ns.length → x ("TooMany", ["most", "what"], [.int 48, .str "days"]) (M ++ [.ins "Round" [] []]))
    (q3 : ∀ ns, intsOf d = some ns → Ln ns → k (roundD ns) M) : app' sp_Round_X__init_X_ [0] [.cell M.length, d] (M ++ [.ins "Round" [] []]) (mkEnd false "Round" M.length k) x := by
  refine app_one (mo := .ins "Round" [] []) (by simp) (by simp [okV_pure hd.1]) ⟨d, rfl, rfl, hd, fun h => ?_, fun ns h h' => ?_, fun ns h h' => ?_⟩
  · simpa [putb] using q1 h
  · simpa [putb] using q2 ns h h'
  · exact ⟨rfl, M, _, _, by simp [putb], rfl, q3 ns h h'⟩
theorem v_Round_X__eq_X_ (hisa : Tb.isa = isa) (ds : List D) (M : MS) (k : KD) (x : XD) (h : sp_Round_X__eq_X_ ds M k x) : t_Round_X__eq_X_ (enD M.length k) (fun e _ M' => x e (M'.take M.length)) (startD ["self", "other"] ds) M := by
  obtain ⟨ns, o, rfl, hn, ho, q⟩ := h
  have hs : ∀ (M : MS), view M o = o := fun M => view_pure (okV_pure ho)
  obtain ⟨t, ht⟩ := okV_tag ho
  have hr : ∀ (M : MS), view M (roundD ns) = roundD ns := fun M => rfl
  simp [t_Round_X__eq_X_, startD, hs, ht, okV_okT ho, hisa, -Bool.exists_bool]
  rcases q with ⟨ms, rfl, hm, q⟩ | ⟨hne, q⟩
  · cases ht
    simp +decide [isa, roundD, rdK, rdX, lookD]
    exact q
  · have : isa t (.c "Round") = false := by
      simp only [isa, Bool.or_eq_false_iff, Bool.and_eq_false_iff, decide_eq_false_iff_not]
      exact ⟨fun e => hne (by rw [ht, e]), .inr (by simp)⟩
    simp [this]
    exact q
end K72
set_option Elab.async false
set_option linter.all false
set_option maxRecDepth 100000
set_option maxHeartbeats 1000000
set_option autoImplicit false
/-! K72c: heights, sums, words. -/
namespace K72
open PySem PySem.Spec PyProof.Rows L2 Dl
variable [Tb]
theorem gt_min {ss : List Int} {m : Int} (h1 : m ∈ ss) (h2 : ∀ y, y ∈ ss → m ≤ y) : ss.all (fun s => decide (0 < s)) = decide (0 < m) := by
  by_cases h : 0 < m
  · rw [decide_eq_true h, List.all_eq_true]
    intro y hy
    have := h2 y hy
    exact decide_eq_true (by omega)
  · rw [decide_eq_false h]
    cases e : ss.all (fun s => decide (0 < s)) with
    | false => rfl
    | true => exact absurd (of_decide_eq_true (List.all_eq_true.mp e m h1)) h
theorem lt_max {ss : List Int} {m : Int} (h1 : m ∈ ss) (h2 : ∀ y, y ∈ ss → y ≤ m) : ss.all (fun s => decide (s < 0)) = decide (m < 0) := by
  by_cases h : m < 0
  · rw [decide_eq_true h, List.all_eq_true]
    intro y hy
    have := h2 y hy
    exact decide_eq_true (by omega)
  · rw [decide_eq_false h]
    cases e : ss.all (fun s => decide (s < 0)) with
    | false => rfl
    | true => exact absurd (of_decide_eq_true (List.all_eq_true.mp e m h1)) h
theorem eq_both {ss : List Int} {a m : Int} (h1 : a ∈ ss) (h2 : ∀ y, y ∈ ss → a ≤ y) (h3 : m ∈ ss) (h4 : ∀ y, y ∈ ss → y ≤ m) : ss.all (fun s => decide (s = 0)) = decide (a = 0 ∧ m = 0) := by
  by_cases h : a = 0 ∧ m = 0
  · rw [decide_eq_true h, List.all_eq_true]
    intro y hy
    have := h2 y hy
    have := h4 y hy
    exact decide_eq_true (by omega)
  · rw [decide_eq_false h]
    cases e : ss.all (fun s => decide (s = 0)) with
    | false => rfl
    | true => exact absurd ⟨of_decide_eq_true (List.all_eq_true.mp e a h1), of_decide_eq_true (List.all_eq_true.mp e m h3)⟩ h
theorem list_min : ∀ {ss : List Int}, 0 < ss.length → ∃ m ∈ ss, ∀ y, y ∈ ss → m ≤ y
  | [s], _ => ⟨s, by simp, by simp⟩
  | s :: t :: r, _ => by
    obtain ⟨m, h1, h2⟩ := list_min (ss := t :: r) (by simp)
    by_cases h : s ≤ m
    · refine ⟨s, by simp, fun y hy => ?_⟩
      rcases List.mem_cons.mp hy with rfl | hy
      · omega
      · have := h2 y hy; omega
    · refine ⟨m, List.mem_cons_of_mem _ h1, fun y hy => ?_⟩
      rcases List.mem_cons.mp hy with rfl | hy
      · omega
      · exact h2 y hy
theorem list_max : ∀ {ss : List Int}, 0 < ss.length → ∃ m ∈ ss, ∀ y, y ∈ ss → y ≤ m
  | [s], _ => ⟨s, by simp, by simp⟩
  | s :: t :: r, _ => by
    obtain ⟨m, h1, h2⟩ := list_max (ss := t :: r) (by simp)
    by_cases h : m ≤ s
    · refine ⟨s, by simp, fun y hy => ?_⟩
      rcases List.mem_cons.mp hy with rfl | hy
      · omega
      · have := h2 y hy; omega
    · refine ⟨m, List.mem_cons_of_mem _ h1, fun y hy => ?_⟩
      rcases List.mem_cons.mp hy with rfl | hy
      · omega
      · exact h2 y hy
theorem minB_of {ss : List Int} {k : D → Prop} {m : Int} (h1 : m ∈ ss) (h2 : ∀ y, y ∈ ss → m ≤ y) (q : k (.int m)) : minB [.lst (dI ss)] k :=
  ⟨ss, rfl, List.length_pos_of_mem h1, fun m' h3 h4 => by
    have a := h2 m' h3
    have b := h4 m h1
    have : m' = m := by omega
    rw [this]; exact q⟩
theorem maxB_of {ss : List Int} {k : D → Prop} {m : Int} (h1 : m ∈ ss) (h2 : ∀ y, y ∈ ss → y ≤ m) (q : k (.int m)) : maxB [.lst (dI ss)] k :=
  ⟨ss, rfl, List.length_pos_of_mem h1, fun m' h3 h4 => by
    have a := h2 m' h3
    have b := h4 m h1
    have : m' = m := by omega
    rw [this]; exact q⟩
theorem v_word_of (ds : List D) (M : MS) (k : KD) (x : XD) (h : sp_word_of ds M k x) : t_word_of (enD M.length k) (fun e _ M' => x e (M'.take M.length)) (startD ["sums"] ds) M := by
  obtain ⟨ss, rfl, hl, q⟩ := h
  obtain ⟨a, a1, a2⟩ := list_min hl
  obtain ⟨m, m1, m2⟩ := list_max hl
  unfold word at q
  rw [gt_min a1 a2, lt_max m1 m2, eq_both a1 a2 m1 m2] at q
  simp [t_word_of, startD, -Bool.exists_bool]
  refine minB_of a1 a2 ?_
  by_cases h1 : 0 < a
  · simpa [h1] using q
  · simp [h1] at q ⊢
    refine maxB_of m1 m2 ?_
    by_cases h2 : m < 0
    · simpa [h2] using q
    · simp [h2] at q ⊢
      refine minB_of a1 a2 ?_
      by_cases h3 : a = 0
      · simp [h3] at q ⊢
        refine maxB_of m1 m2 ?_
        by_cases h4 : m = 0 <;> simpa [h4] using q
      · simpa [h3] using q
theorem c_word_of {ss : List Int} {M : MS} {k : KD} {x : XD} (h : 0 < ss.length) (q : k (.str (word ss)) M) : app' sp_word_of [] [.lst (dI ss)] M k x :=
  app_pure (by simp) ⟨ss, rfl, h, q⟩
theorem cdiv_len {i : Int} {n : Nat} (h : 0 < n) (h' : n ≤ 1000) : CDivW i n := ⟨by omega, by
  have : (Int.natAbs (n : Int)) = n := by simp
  rw [this]
  have h2 : n.log2 < 10 := by
    rw [Nat.log2_lt (by omega)]
    omega
  omega⟩
theorem sum_small : ∀ {ns : List Int}, (∀ g ∈ ns, g.natAbs ≤ 2 ^ 30) → ns.sum.natAbs ≤ ns.length * 2 ^ 30
  | [], _ => by simp
  | n :: r, h => by
    have h1 := sum_small (ns := r) fun g hg => h g (List.mem_cons_of_mem _ hg)
    have h2 := h n (by simp)
    simp only [List.sum_cons, List.length_cons, Nat.add_mul]
    omega
theorem Sm.mul {ns : List Int} (h : Sm ns) (i : Int) : IntMulOk i ns.sum := by
  have h1 := sum_small h.2
  have h2 : ns.length ≤ 48 := h.1.2
  have h3 : ns.length * 2 ^ 30 ≤ 48 * 2 ^ 30 := Nat.mul_le_mul_right _ h2
  exact CMul.ok (.inr (by omega))
theorem v_height_in (ds : List D) (M : MS) (k : KD) (x : XD) (h : sp_height_in ds M k x) : t_height_in (enD M.length k) (fun e _ M' => x e (M'.take M.length)) (startD ["gains", "place"] ds) M := by
  obtain ⟨ns, p, rfl, hs, q⟩ := h
  have hn := hs.1.1
  have hn' : (0 : Int) < ns.length := by omega
  have hm := mod_lt (p := p) hn
  simp [t_height_in, startD]
  refine ⟨cdiv_len hn (by have := hs.1.2; omega), sumX_tup ns ?_⟩
  simp only [mulB_ap, view_int]
  refine ⟨hs.mul _, hn, ?_⟩
  show slB _ _ _ _
  simp only [slB, cut_take _ hm.1, dI_take]
  simp
  refine sumX_tup _ ?_
  simpa [height] using q
theorem c_height_in {ns : List Int} {p : Int} {M : MS} {k : KD} {x : XD} (h : Sm ns) (q : k (.int (height ns p)) M) : app' sp_height_in [] [.tup (dI ns), .int p] M k x :=
  app_pure (by simp) ⟨ns, p, rfl, h, q⟩
theorem v_sums_in_rounds (ds : List D) (M : MS) (k : KD) (x : XD) (h : sp_sums_in_rounds ds M k x) : t_sums_in_rounds (enD M.length k) (fun e _ M' => x e (M'.take M.length)) (startD ["gains", "length", "begin"] ds) M := by
  obtain ⟨ns, l, rfl, hs, q⟩ := h
  simp only [t_sums_in_rounds, sCons_ap, sRet_ap, enD_rt]
  refine lcR (j := ns.length) (fun k' h => by simpa [startD] using h) (by have := hs.1.2; omega) (by omega) (fun b : Nat => .int (S ns b l)) (fun _ => rfl) ?_ ?_
  · intro i hi acc k' h
    simp [startD]
    refine c_height_in hs ?_
    simp
    refine c_height_in hs ?_
    simpa [S] using h
  · have e : (List.range ((ns.length : Int)).toNat).map (fun b : Nat => D.int (S ns b l)) = dI (sumsR ns l) := by simp [dI, sumsR]
    rw [e]
    simpa using q
theorem c_sums_in_rounds {ns : List Int} {l : Int} {M : MS} {k : KD} {x : XD} (h : Sm ns) (q : k (.lst (dI (sumsR ns l))) M) : app' sp_sums_in_rounds [] [.tup (dI ns), .int l] M k x :=
  app_pure (by simp) ⟨ns, l, rfl, h, q⟩
theorem within_int {v : D} {lo hi : D} (h : within v lo hi = true) : ∃ i, v = .int i := by
  cases v <;> first | exact ⟨_, rfl⟩ | cases h
theorem within_lo {i a : Int} (h : within (.int i) (.int a) .non = true) : a ≤ i := by simpa [within] using h
theorem within_lh {i a b : Int} (h : within (.int i) (.int a) (.int b) = true) : a ≤ i ∧ i ≤ b := by simpa [within] using h
theorem within_non (v : D) : within v .non .non = isI v := by cases v <;> rfl
theorem v_Round_sort_of (ds : List D) (M : MS) (k : KD) (x : XD) (h : sp_Round_sort_of ds M k x) : t_Round_sort_of (enD M.length k) (fun e _ M' => x e (M'.take M.length)) (startD ["self", "length"] ds) M := by
  obtain ⟨ns, v, rfl, hs, hv, q1, q2⟩ := h
  simp [t_Round_sort_of, startD]
  refine c_need_number hv rfl rfl (fun h => ?_) (fun h => by simpa using q2 h)
  obtain ⟨l, rfl⟩ := within_int h
  have := q1 l rfl (within_lo h)
  simp +decide [roundD, rdK, rdX, lookD]
  refine c_sums_in_rounds hs ?_
  simp
  refine c_word_of (by rw [sumsR_len]; exact hs.1.1) ?_
  simpa using this
theorem c_Round_sort_of {ns : List Int} {v : D} {M : MS} {k : KD} {x : XD} (h : Sm ns) (hv : okV v = true) (q1 : ∀ l, v = .int l → 1 ≤ l → k (.str (word (sumsR ns l))) M) (q2 : within v (.int 1) .non = false → x ("BadNumber", ["part"], [.str "length"]) M) : app' sp_Round_sort_of [] [roundD ns, v] M k x :=
  app_pure (by simp [roundD, okV_pure hv]) ⟨ns, v, rfl, h, hv, q1, q2⟩
theorem v_Round_sum_of (ds : List D) (M : MS) (k : KD) (x : XD) (h : sp_Round_sum_of ds M k x) : t_Round_sum_of (enD M.length k) (fun e _ M' => x e (M'.take M.length)) (startD ["self", "begin", "length"] ds) M := by
  obtain ⟨ns, v, u, rfl, hs, hv, hu, q1, q2, q3⟩ := h
  simp [t_Round_sum_of, startD]
  refine c_need_number hv rfl rfl (fun h => ?_) (fun h => by simpa using q1 (by rwa [within_non] at h))
  rw [within_non] at h
  simp
  refine c_need_number hu rfl rfl (fun h2 => ?_) (fun h2 => by simpa using q2 h h2)
  obtain ⟨l, rfl⟩ := within_int h2
  cases v <;> try (cases h; done)
  rename_i b
  have := q3 b l rfl rfl (within_lo h2)
  simp +decide [roundD, rdK, rdX, lookD]
  refine c_height_in hs ?_
  simp
  refine c_height_in hs ?_
  simpa [S] using this
theorem c_Round_sum_of {ns : List Int} {v u : D} {M : MS} {k : KD} {x : XD} (h : Sm ns) (hv : okV v = true) (hu : okV u = true) (q1 : isI v = false → x ("BadNumber", ["part"], [.str "begin"]) M)
    (q2 : isI v = true → within u (.int 1) .non = false → x ("BadNumber", ["part"], [.str "length"]) M) (q3 : ∀ b l, v = .int b → u = .int l → 1 ≤ l → k (.int (S ns b l)) M) : app' sp_Round_sum_of [] [roundD ns, v, u] M k x :=
  app_pure (by simp [roundD, okV_pure hv, okV_pure hu]) ⟨ns, v, u, rfl, h, hv, hu, q1, q2, q3⟩
end K72
set_option Elab.async false
set_option linter.all false
set_option maxRecDepth 100000
set_option maxHeartbeats 1000000
set_option autoImplicit false
/-! K72e: the law's own sums and words, its mill. -/
namespace K72
open PySem PySem.Spec PyProof.Rows L2 Dl
variable [Tb]
theorem int_mod_add (b l : Int) (w : Int) (n : Nat) : (b + (l + w * n)) % (n : Int) = (b + l) % n := by
  rw [← Int.add_assoc, Int.add_mul_emod_self_right]
theorem v__law_sum (ds : List D) (M : MS) (k : KD) (x : XD) (h : sp__law_sum ds M k x) : t__law_sum (enD M.length k) (fun e _ M' => x e (M'.take M.length)) (startD ["gains", "begin", "length", "whole", "rest", "got", "i"] ds) M := by
  obtain ⟨ns, b, l, rfl, hs, q⟩ := h
  have hn := hs.1.1
  have hn' : (0 : Int) < ns.length := by omega
  have hm := mod_lt (p := l) hn
  have hl := hs.1.2
  simp [t__law_sum, startD, and_assoc]
  refine ⟨cdiv_len hn (by omega), hn, sumX_lst ns ?_⟩
  simp only [mulB_ap, view_int]
  refine ⟨hs.mul _, ?_⟩
  simp only [sFor, iR1, dCons_ap, dNil_ap, dVar_ap]
  refine ⟨_, rfl, _, rfl, by omega, by omega, fun i ρ M' => M' = M ∧ ∃ o, ρ = [some (.lst (dI ns)), some (.int b), some (.int l), some (.int (l / ns.length)), some (.int (l % ns.length)), some (.int (S ns b (i + l / ns.length * ns.length))), o], ⟨rfl, none, ?_⟩, ?_⟩
  · have := S_rounds ns hn b 0 (l / ns.length)
    rw [S_zero] at this
    simp only [Int.zero_add] at this
    simp [this]
  · rintro i ρ M' ⟨rfl, o, rfl⟩ hi
    refine ⟨trivial, fun hlt => ?_, ?_⟩
    · simp
      refine ⟨hn, ?_⟩
      have h2 := mod_lt (p := b + i) hn
      refine ⟨_, atI_dI ns h2.1 h2.2, ?_⟩
      simp
      have := S_succ ns hn b (i + l / ns.length * ns.length)
      rw [int_mod_add] at this
      rw [show ((i : Int) + 1 + l / ns.length * ns.length) = (i + l / ns.length * ns.length) + 1 by omega]
      exact this.symm
    · rintro rfl
      simp
      have e : max (l % ns.length) 0 + l / ns.length * ns.length = l := by
        have := Int.mul_ediv_add_emod l ns.length
        rw [Int.mul_comm] at this
        rw [Int.max_eq_left hm.1]
        omega
      rw [e]
      exact q
theorem c__law_sum {ns : List Int} {b l : Int} {M : MS} {k : KD} {x : XD} (h : Sm ns) (q : k (.int (S ns b l)) M) : app' sp__law_sum [] [.lst (dI ns), .int b, .int l] M k x :=
  app_pure (by simp) ⟨ns, b, l, rfl, h, q⟩
theorem filt (p : D → Bool) (p' : Int → Bool) (h : ∀ s, p (.int s) = p' s) (ss : List Int) : ((dI ss).filter p).map id = dI (ss.filter p') := by
  induction ss with
  | nil => rfl
  | cons s ss ih =>
    rw [List.map_id] at ih ⊢
    simp only [dI_cons, List.filter_cons, h, ih]
    split <;> simp
theorem filt_nil (p q : Int → Bool) (h : ∀ s, p s = !q s) (ss : List Int) : decide (ss.filter p = []) = ss.all q := by
  induction ss with
  | nil => rfl
  | cons s ss ih =>
    simp only [List.filter_cons, List.all_cons, h]
    cases e : q s <;> simp [e] at ih ⊢
    exact ih
theorem v__law_word (ds : List D) (M : MS) (k : KD) (x : XD) (h : sp__law_word ds M k x) : t__law_word (enD M.length k) (fun e _ M' => x e (M'.take M.length)) (startD ["told", "s"] ds) M := by
  obtain ⟨ss, rfl, hl, q⟩ := h
  unfold word at q
  simp only [t__law_word, sCons_ap, sIf_ap, dTst_ap, dBin_ap]
  refine lcF (d := .lst (dI ss)) (xs := dI ss) (fun k' h => by simpa [startD, -Bool.exists_bool] using h) rfl rfl (by simp; omega) (fun | .int s => decide (s ≤ 0) | _ => false) id (fun y hy => ?_) (fun y hy acc k' h => ?_) (fun y hy acc k' h => ?_) ?_
  · obtain ⟨s, _, rfl⟩ := List.mem_map.mp hy; rfl
  · obtain ⟨s, _, rfl⟩ := List.mem_map.mp hy
    simpa [startD, -Bool.exists_bool] using h
  · obtain ⟨s, _, rfl⟩ := List.mem_map.mp hy
    simpa [startD, -Bool.exists_bool] using h
  rw [filt _ (fun s => decide (s ≤ 0)) (fun s => rfl)]
  simp only [dLst_ap, dNil_ap, view_lst, eqB_nil, allPure_nil, List.length_nil]
  refine ⟨trivial, by decide, _, rfl, ?_⟩
  have e1 := filt_nil (fun s => decide (s ≤ 0)) (fun s => decide (0 < s)) (fun s => by by_cases h : 0 < s <;> simp [h] <;> omega) ss
  rw [e1]
  cases h1 : ss.all (fun s => decide (0 < s)) with
  | true =>
    rw [h1] at q
    simpa using q
  | false =>
    rw [h1] at q
    simp only [Bool.false_eq_true, if_false, sNil_ap] at q ⊢
    simp only [sIf_ap, sCons_ap, dTst_ap, dBin_ap]
    refine lcF (d := .lst (dI ss)) (xs := dI ss) (fun k' h => by simpa [startD, -Bool.exists_bool] using h) rfl rfl (by simp; omega) (fun | .int s => decide (0 ≤ s) | _ => false) id (fun y hy => ?_) (fun y hy acc k' h => ?_) (fun y hy acc k' h => ?_) ?_
    · obtain ⟨s, _, rfl⟩ := List.mem_map.mp hy; rfl
    · obtain ⟨s, _, rfl⟩ := List.mem_map.mp hy
      simpa [startD, -Bool.exists_bool] using h
    · obtain ⟨s, _, rfl⟩ := List.mem_map.mp hy
      simpa [startD, -Bool.exists_bool] using h
    rw [filt _ (fun s => decide (0 ≤ s)) (fun s => rfl)]
    simp only [dLst_ap, dNil_ap, view_lst, eqB_nil, allPure_nil, List.length_nil]
    refine ⟨trivial, by decide, _, rfl, ?_⟩
    have e1 := filt_nil (fun s => decide (0 ≤ s)) (fun s => decide (s < 0)) (fun s => by by_cases h : s < 0 <;> simp [h] <;> omega) ss
    rw [e1]
    cases h2 : ss.all (fun s => decide (s < 0)) with
    | true =>
      rw [h2] at q
      simpa using q
    | false =>
      rw [h2] at q
      simp only [Bool.false_eq_true, if_false, sNil_ap] at q ⊢
      simp only [sCons_ap, sRet_ap, dIf_ap, dTst_ap, dBin_ap]
      refine lcF (d := .lst (dI ss)) (xs := dI ss) (fun k' h => by simpa [startD, -Bool.exists_bool] using h) rfl rfl (by simp; omega) (fun | .int s => decide (s ≠ 0) | _ => false) id (fun y hy => ?_) (fun y hy acc k' h => ?_) (fun y hy acc k' h => ?_) ?_
      · obtain ⟨s, _, rfl⟩ := List.mem_map.mp hy; rfl
      · obtain ⟨s, _, rfl⟩ := List.mem_map.mp hy
        simp only [dTst_ap, dBin_ap, dVar_ap, dC_ap]
        refine ⟨.int s, by simp [startD], ?_⟩
        simp only [view_int, neB_int]
        exact ⟨_, rfl, h⟩
      · obtain ⟨s, _, rfl⟩ := List.mem_map.mp hy
        simpa [startD, -Bool.exists_bool] using h
      rw [filt _ (fun s => decide (s ≠ 0)) (fun s => rfl)]
      simp only [dLst_ap, dNil_ap, view_lst, eqB_nil, allPure_nil, List.length_nil]
      refine ⟨trivial, by decide, _, rfl, ?_⟩
      have e1 := filt_nil (fun s => decide (s ≠ 0)) (fun s => decide (s = 0)) (fun s => by by_cases h : s = 0 <;> simp [h]) ss
      rw [e1]
      cases h3 : ss.all (fun s => decide (s = 0)) with
      | true =>
        rw [h3] at q
        simpa using q
      | false =>
        rw [h3] at q
        simpa using q
theorem c__law_word {ss : List Int} {M : MS} {k : KD} {x : XD} (h : ss.length ≤ 48) (q : k (.str (word ss)) M) : app' sp__law_word [] [.lst (dI ss)] M k x :=
  app_pure (by simp) ⟨ss, rfl, h, q⟩
theorem cdiv_small {i n : Int} (h : 0 < n) (h' : n < 2 ^ 80) : CDivW i n := ⟨h, by
  have h2 : n.natAbs.log2 < 80 := by
    rw [Nat.log2_lt (by omega)]
    omega
  omega⟩
theorem v__law_grind (ds : List D) (M : MS) (k : KD) (x : XD) (h : sp__law_grind ds M k x) : t__law_grind (enD M.length k) (fun e _ M' => x e (M'.take M.length)) (startD ["mill", "many", "rest", "words", "spot", "word", "got"] ds) M := by
  obtain ⟨b, n, rfl, ⟨cs, p, r, rfl, hp⟩, hb, hn, hn2, q⟩ := h
  have hdiv : ∀ i, CDivW i n := fun i => cdiv_small hn hn2
  have a0 : ∀ (a b c : D), atI [a, b, c] 0 = some a := fun _ _ _ => rfl
  have a1 : ∀ (a b c : D), atI [a, b, c] 1 = some b := fun _ _ _ => rfl
  have a2 : ∀ (a b c : D), atI [a, b, c] 2 = some c := fun _ _ _ => rfl
  have i1 : ixN 3 1 = some 1 := rfl
  have i2 : ixN 3 2 = some 2 := rfl
  have hr : ∀ i : Int, 0 ≤ i % n ∧ i % n < n := fun i => ⟨Int.emod_nonneg _ (by omega), Int.emod_lt_of_pos _ hn⟩
  have fin : ∀ (i r' : Int) (p' : Nat), p' ≤ b + 1 → k (.int (i % n)) [.lst [.lst (dI cs), .int p', .int r']] := fun i r' p' hp' => q _ _ (hr i).1 (hr i).2 ⟨cs, p', r', rfl, hp'⟩
  have hp4 : (p : Int) ≤ 10000 := by omega
  have m1 : IntMulOk 72031 p := CMul.ok (.inl (by omega))
  have m2 : IntMulOk 47059 p := CMul.ok (.inl (by omega))
  have m3 : ∀ i, IntMulOk 2 i := fun i => CMul.ok (.inl (by omega))
  have m4 : IntMulOk 58061 p := CMul.ok (.inl (by omega))
  have m5 : IntMulOk (58061 * p) p := CMul.ok (.inr (by omega))
  have m6 : ∀ i, IntMulOk i (2 * p + 3079) := fun i => CMul.ok (.inr (by omega))
  have c0 : CPow 10 18 := ⟨by omega, by omega, by decide⟩
  have c1 : ∀ v : Int, CPow (v % 2147483549 + 47059 * p + 5051) 5 := fun v => ⟨by omega, by omega, by omega⟩
  have sq : (p : Int) * p ≤ 100000000 := by
    have := Int.mul_le_mul hp4 hp4 (by omega) (by omega)
    simpa using this
  have sq0 : 0 ≤ (p : Int) * p := Int.mul_nonneg (by omega) (by omega)
  have c2 : ∀ v : Int, CPow ((v % 2147483629) * (2 * p + 3079) + 58061 * p * p + 7069) 3 := fun v => ⟨by omega, by omega, by
    have e1 : 0 ≤ v % 2147483629 := by omega
    have e2 : v % 2147483629 ≤ 2147483629 := by omega
    have e3 : (v % 2147483629) * (2 * p + 3079) ≤ 2147483629 * 23079 := Int.mul_le_mul e2 (by omega) (by omega) (by omega)
    have e4 : 0 ≤ (v % 2147483629) * (2 * p + 3079) := Int.mul_nonneg e1 (by omega)
    have e5 : 58061 * (p : Int) * p = 58061 * (p * p) := Int.mul_assoc _ _ _
    rw [e5]
    omega⟩
  have dv : ∀ i, CDivW i 64 := fun i => cdiv_small (by omega) (by omega)
  simp [t__law_grind, startD, a0, a1, a2, i1, i2, and_assoc, hdiv, -Bool.exists_bool]
  by_cases h1 : 0 < r
  · simp [h1, hn]
    exact fin _ _ p (by omega)
  · simp [h1]
    refine ⟨m1, ?_⟩
    by_cases hc : cs = []
    · subst hc
      simp [m2, m3, m4, m5, m6, c0, c1, c2, dv, hn]
      exact fin _ _ (p + 1) (by omega)
    · have hl : 0 < cs.length := List.length_pos_iff.mpr hc
      have hmm := mod_lt (p := p) hl
      refine .inr ⟨hc, hl, _, atI_dI cs hmm.1 hmm.2, ?_⟩
      generalize cs.getD (p % (cs.length : Int)).toNat 0 = v
      simp [m2, m3, m4, m5, m6, c0, c1, c2, dv, hn, -Bool.exists_bool]
      by_cases hs : p < cs.length
      · simp [hs]
        generalize (if v < 0 then -v else v) = a
        by_cases ha : 1000000000000000000 ≤ a
        · simp [ha, m3, hn]
          exact .inr ⟨hdiv _, fin _ _ (p + 1) (by omega)⟩
        · simp [ha]
          exact ⟨by omega, fin _ _ (p + 1) (by omega)⟩
      · simp [hs]
        exact fin _ _ (p + 1) (by omega)
theorem c__law_grind {b : Nat} {n : Int} {M : MS} {k : KD} {x : XD} (hM : Ml b M) (hb : b ≤ 10000) (hn : 0 < n) (hn2 : n < 2 ^ 80) (q : ∀ r M', 0 ≤ r → r < n → Ml (b + 1) M' → k (.int r) M') : app' sp__law_grind [0] [.cell 0, .int n] M k x := by
  obtain ⟨cs, p, r, rfl, hp⟩ := hM
  refine app_one (mo := .lst [.lst (dI cs), .int p, .int r]) rfl rfl ⟨b, n, rfl, ⟨cs, p, r, rfl, hp⟩, hb, hn, hn2, fun r' M' h1 h2 ⟨cs', p', r'', e, hp'⟩ => ?_⟩
  subst e
  exact q _ _ h1 h2 ⟨cs', p', r'', rfl, hp'⟩
end K72
set_option Elab.async false
set_option linter.all false
set_option maxRecDepth 100000
set_option maxHeartbeats 1000000
set_option autoImplicit false
/-! K72g: picks, rows, rounds turned. -/
namespace K72
open PySem PySem.Spec PyProof.Rows L2 Dl
variable [Tb]
theorem allPure_mem : ∀ {xs : List D}, allPure xs = true → ∀ d ∈ xs, isPure d = true
  | x :: xs, h, d, hd => by
    rw [allPure_cons, Bool.and_eq_true] at h
    rcases List.mem_cons.mp hd with rfl | hd
    · exact h.1
    · exact allPure_mem h.2 d hd
theorem v__law_pick (ds : List D) (M : MS) (k : KD) (x : XD) (h : sp__law_pick ds M k x) : t__law_pick (enD M.length k) (fun e _ M' => x e (M'.take M.length)) (startD ["mill", "some"] ds) M := by
  obtain ⟨b, xs, rfl, hM, hb, hl, hl2, hp, q⟩ := h
  simp [t__law_pick, startD]
  refine c__law_grind hM hb (by omega) (by omega) fun r M' h0 h1 hM' => ?_
  obtain ⟨cs, p, rr, rfl, _⟩ := hM
  obtain ⟨i, rfl⟩ : ∃ i : Nat, r = i := ⟨r.toNat, by omega⟩
  have hi : i < xs.length := by omega
  simp [at_nat]
  have hd := List.getElem_mem hi
  refine ⟨xs[i], List.getElem?_eq_getElem hi, ?_⟩
  rw [retK_pure _ (allPure_mem hp _ hd)]
  have := q _ M' hd hM'
  obtain ⟨_, _, _, rfl, _⟩ := hM'
  exact this
theorem c__law_pick {b : Nat} {xs : List D} {M : MS} {k : KD} {x : XD} (hM : Ml b M) (hb : b ≤ 10000) (hl : 0 < xs.length) (hl2 : xs.length ≤ 1000) (hp : allPure xs = true) (q : ∀ d M', d ∈ xs → Ml (b + 1) M' → k d M') : app' sp__law_pick [0] [.cell 0, .lst xs] M k x := by
  obtain ⟨cs, p, r, rfl, hpp⟩ := hM
  refine app_one (mo := .lst [.lst (dI cs), .int p, .int r]) rfl rfl ⟨b, xs, rfl, ⟨cs, p, r, rfl, hpp⟩, hb, hl, hl2, hp, fun d M' h1 ⟨cs', p', r'', e, hp'⟩ => ?_⟩
  subst e
  exact q _ _ h1 ⟨cs', p', r'', rfl, hp'⟩
theorem v__law_mill (ds : List D) (M : MS) (k : KD) (x : XD) (h : sp__law_mill ds M k x) : t__law_mill (enD M.length k) (fun e _ M' => x e (M'.take M.length)) (startD ["script", "x"] ds) M := by
  obtain ⟨s, rfl, q⟩ := h
  simp only [t__law_mill, sCons_ap, sRet_ap, dLstC_ap, dCons_ap, enD_rt]
  have e : slB (.scr s) none (some 57) = fun k => k (.lst (dI (s.take 57))) := by
    funext k
    show k (.lst ((cutD s none (some 57)).map D.int)) = _
    rw [cut_take _ (by omega)]
    rfl
  refine lcS (d := .lst (dI (s.take 57))) (xs := dI (s.take 57)) (fun k' h => ?_) rfl rfl (by simp; omega) id (fun y hy => ?_) (fun y hy acc k' h => ?_) ?_
  · simp only [dSl_ap, dVar_ap]
    refine ⟨_, rfl, ?_⟩
    simp
    rw [e]
    exact h
  · obtain ⟨s, _, rfl⟩ := List.mem_map.mp hy; rfl
  · obtain ⟨s, _, rfl⟩ := List.mem_map.mp hy
    simpa [startD] using h
  · rw [List.map_id]
    have : (3 : Nat) ≤ sizeLine := by decide
    simp [this]
    exact q _
theorem scan_eq : ∀ (s : Int) (ns : List Int), scan s ns = (List.range ns.length).map fun j => s + (ns.take (j + 1)).sum
  | _, [] => rfl
  | s, n :: r => by
    rw [scan, scan_eq (s + n) r]
    rw [show (n :: r).length = r.length + 1 from rfl, List.range_succ_eq_map, List.map_cons, List.map_map]
    simp only [List.take_succ_cons, List.sum_cons, List.take_zero, List.sum_nil, Int.add_zero]
    congr 1
    refine List.map_congr_left fun j _ => ?_
    simp only [Function.comp, Nat.succ_eq_add_one, List.take_succ_cons, List.sum_cons]
    omega
theorem heights_eq (ns : List Int) : heights ns = (List.range (ns.length + 1)).map fun j => (ns.take j).sum := by
  unfold heights
  rw [scan_eq, List.range_succ_eq_map, List.map_cons, List.map_map]
  congr 1
  refine List.map_congr_left fun j _ => ?_
  simp
theorem heights_len (ns : List Int) : (heights ns).length = ns.length + 1 := by rw [heights_eq]; simp
theorem heights_get (ns : List Int) (i : Nat) (h : i ≤ ns.length) : (heights ns).getD i 0 = (ns.take i).sum := by
  rw [heights_eq]
  simp [List.getD, List.getElem?_map, List.getElem?_range (show i < ns.length + 1 by omega)]
theorem set_last (M : MS) (a b : MO) : (M ++ [a]).set M.length b = M ++ [b] := by simp
theorem get_last (M : MS) (a : MO) : (M ++ [a])[M.length]? = some a := by simp
def hts (ns : List Int) (i : Nat) : List Int := (List.range (i + 1)).map fun j => (ns.take j).sum
theorem hts_len (ns : List Int) (i : Nat) : (hts ns i).length = i + 1 := by simp [hts]
theorem hts_last (ns : List Int) (i : Nat) : (hts ns i).getD i 0 = (ns.take i).sum := by
  simp [hts, List.getD, List.getElem?_map, List.getElem?_range (show i < i + 1 by omega)]
theorem hts_succ (ns : List Int) (i : Nat) (h : i < ns.length) : hts ns (i + 1) = hts ns i ++ [(ns.take i).sum + ns.getD i 0] := by
  rw [← sum_take_succ ns i h]
  simp [hts, List.range_succ]
theorem v_heights_of (ds : List D) (M : MS) (k : KD) (x : XD) (h : sp_heights_of ds M k x) : t_heights_of (enD M.length k) (fun e _ M' => x e (M'.take M.length)) (startD ["gains", "heights", "gain"] ds) M := by
  obtain ⟨ns, rfl, hl, q⟩ := h
  have h1 : (1 : Nat) ≤ sizeLine := by decide
  simp [t_heights_of, startD, h1]
  simp only [sFor, iSeq, dVar_ap]
  refine ⟨_, rfl, _, rfl, fun i ρ M' => M' = M ++ [.lst (dI (hts ns i))] ∧ ∃ o, ρ = [some (.lst (dI ns)), some (.cell M.length), o], ⟨rfl, none, rfl⟩, ?_⟩
  rintro i ρ M' ⟨rfl, o, rfl⟩ hi
  rw [dI_len] at hi
  refine ⟨rfl, fun hlt => ?_, ?_⟩
  · rw [dI_len] at hlt
    have hv : view (M ++ [.lst (dI (hts ns i))]) (.cell M.length) = .lst (dI (hts ns i)) := view_cell_lst (get_last _ _)
    have ha : atI (dI (hts ns i)) (-1) = some (.int (ns.take i).sum) := by
      rw [at_last _ (by simp [hts_len])]
      rw [dI_len, hts_len, Nat.add_sub_cancel, dI_get _ _ (by rw [hts_len]; omega), hts_last]
    have hs : i + 1 < sizeLine := by
      have : (100 : Nat) < sizeLine := by decide
      omega
    simp [hv, ha, dI_get ns i hlt, hts_len, hs]
    rw [hts_succ ns i hlt, dI_app]
    simp
  · intro e
    rw [dI_len] at e
    subst e
    have hv : view (M ++ [.lst (dI (hts ns ns.length))]) (.cell M.length) = .lst (dI (hts ns ns.length)) := view_cell_lst (get_last _ _)
    simp [hv]
    have e : hts ns ns.length = heights ns := (heights_eq ns).symm
    rw [e]
    exact q
theorem c_heights_of {ns : List Int} {M : MS} {k : KD} {x : XD} (h : ns.length ≤ 48) (q : k (.tup (dI (heights ns))) M) : app' sp_heights_of [] [.lst (dI ns)] M k x :=
  app_pure (by simp) ⟨ns, rfl, h, q⟩
theorem okG_list {ns : List Int} (h : ns.length ≤ 1000) : okG (.lst (dI ns)) := ⟨rfl, (fun s e => by cases e), fun xs e => by
  cases e
  refine ⟨by simpa using h, fun y hy => ?_⟩
  obtain ⟨s, _, rfl⟩ := List.mem_map.mp hy
  rfl⟩
theorem okG_tup {ns : List Int} (h : ns.length ≤ 1000) : okG (.tup (dI ns)) := ⟨rfl, (fun s e => by cases e), fun xs e => by
  cases e
  refine ⟨by simpa using h, fun y hy => ?_⟩
  obtain ⟨s, _, rfl⟩ := List.mem_map.mp hy
  rfl⟩
theorem ints_lst (ns : List Int) : intsOf (.lst (dI ns)) = some ns := by simp [intsOf]
theorem ints_tup (ns : List Int) : intsOf (.tup (dI ns)) = some ns := by simp [intsOf]
theorem v_Row_X__init_X_ (ds : List D) (M : MS) (k : KD) (x : XD) (h : sp_Row_X__init_X_ ds M k x) : t_Row_X__init_X_ (enD M.length k) (fun e _ M' => x e (M'.take M.length)) (startD ["self", "gains"] ds) M := by
  obtain ⟨ns, rfl, rfl, ⟨h1, h2⟩, q⟩ := h
  have h0 : ns ≠ [] := fun e => by rw [e] at h1; simp at h1
  have h48 : ((ns.length : Int) ≤ 48) := by omega
  have h48' : ¬ (48 : Int) < ns.length := by omega
  simp [t_Row_X__init_X_, startD]
  refine c_are_integers (okG_list (by omega)) ?_
  rw [ints_lst]
  simp +decide [h0, h48, h48', and_assoc, Dl.putK, putX, lookD]
  refine c_heights_of h2 ?_
  have hl : atI (dI (heights ns)) (-1) = some (.int ns.sum) := by
    rw [at_last _ (by simp [heights_len]), dI_len, heights_len, Nat.add_sub_cancel, dI_get _ _ (by rw [heights_len]; omega), heights_get ns _ (by omega), List.take_length]
  simp +decide [and_assoc, Dl.putK, putX, lookD, hl]
  exact q
theorem c_Row_X__init_X_ {ns : List Int} {M : MS} {k : KD} {x : XD} (h : Ln ns) (q : k (rowD ns) M) : app' sp_Row_X__init_X_ [0] [.cell M.length, .lst (dI ns)] (M ++ [.ins "Row" [] []]) (mkEnd false "Row" M.length k) x := by
  refine app_one (mo := .ins "Row" [] []) (by simp) (by simp) ⟨ns, rfl, rfl, h, rfl, M, _, _, by simp [putb], rfl, q⟩
end K72
set_option Elab.async false
set_option linter.all false
set_option maxRecDepth 100000
set_option maxHeartbeats 1000000
set_option autoImplicit false
/-! K72i: rounds turned and doubled, rules. -/
namespace K72
open PySem PySem.Spec PyProof.Rows L2 Dl
variable [Tb]
theorem c_round_new {ns : List Int} {M : MS} {k : KD} {x : XD} (h : Ln ns) (q : k (roundD ns) M) : app' sp_Round_X__init_X_ [0] [.cell M.length, .lst (dI ns)] (M ++ [.ins "Round" [] []]) (mkEnd false "Round" M.length k) x := by
  refine c_Round_X__init_X_ (okG_list (by have := h.2; omega)) (fun e => ?_) (fun ms e e2 => ?_) (fun ms e e2 => ?_)
  · rw [ints_lst] at e
    rcases e with e | e
    · cases e
    · cases e
      exact absurd h.1 (by simp)
  · rw [ints_lst] at e
    cases e
    have := h.2
    omega
  · rw [ints_lst] at e
    cases e
    exact q
theorem c_round_many {ns : List Int} {M : MS} {k : KD} {x : XD} (h : 48 < ns.length) (h' : ns.length ≤ 1000) (q : x ("TooMany", ["most", "what"], [.int 48, .str "days"]) (M ++ [.ins "Round" [] []])) : app' sp_Round_X__init_X_ [0] [.cell M.length, .lst (dI ns)] (M ++ [.ins "Round" [] []]) (mkEnd false "Round" M.length k) x := by
  refine c_Round_X__init_X_ (okG_list h') (fun e => ?_) (fun ms e e2 => q) (fun ms e e2 => ?_)
  · rw [ints_lst] at e
    rcases e with e | e
    · cases e
    · cases e
      simp at h
  · rw [ints_lst] at e
    cases e
    have := e2.2
    omega
theorem dI_map_range (f : Nat → Int) (m : Nat) : ((List.range m).map fun i => D.int (f i)) = dI ((List.range m).map f) := by simp [dI]
theorem v_Round_turned (ds : List D) (M : MS) (k : KD) (x : XD) (h : sp_Round_turned ds M k x) : t_Round_turned (enD M.length k) (fun e _ M' => x e (M'.take M.length)) (startD ["self", "by", "i"] ds) M := by
  obtain ⟨ns, v, rfl, hn, hv, q1, q2⟩ := h
  simp [t_Round_turned, startD]
  refine c_need_number hv rfl rfl (fun h => ?_) (fun h => by simpa using q1 (by rwa [within_non] at h))
  rw [within_non] at h
  cases v <;> try (cases h; done)
  rename_i b
  have hn1 := hn.1
  have hn2 := hn.2
  simp only [adF_ap]
  refine lcR (j := ns.length) (fun k' h => by simp +decide [roundD, rdK, rdX, lookD]; exact h) (by omega) (by omega) (fun i : Nat => .int (ns.getD ((b + i) % ns.length).toNat 0)) (fun _ => rfl) ?_ ?_
  · intro i hi acc k' h
    have hm := mod_lt (p := b + i) hn1
    simp +decide [roundD, rdK, rdX, lookD, hn1, atI_dI ns hm.1 hm.2]
    simpa using h
  · rw [dI_map_range]
    simp
    refine c_round_new (ns := rowL ns b ns.length) ⟨by rw [rowL_len]; exact hn1, by rw [rowL_len]; exact hn2⟩ ?_
    have := q2 b rfl
    simpa [roundD] using this
theorem c_Round_turned {ns : List Int} {v : D} {M : MS} {k : KD} {x : XD} (h : Ln ns) (hv : okV v = true) (q1 : isI v = false → x ("BadNumber", ["part"], [.str "by"]) M) (q2 : ∀ b, v = .int b → k (roundD (rowL ns b ns.length)) M) : app' sp_Round_turned [] [roundD ns, v] M k x :=
  app_pure (by simp [roundD, okV_pure hv]) ⟨ns, v, rfl, h, hv, q1, q2⟩
theorem v_Round_row (ds : List D) (M : MS) (k : KD) (x : XD) (h : sp_Round_row ds M k x) : t_Round_row (enD M.length k) (fun e _ M' => x e (M'.take M.length)) (startD ["self", "begin", "days", "i"] ds) M := by
  obtain ⟨ns, v, u, rfl, hn, hv, hu, q1, q2, q3⟩ := h
  simp [t_Round_row, startD]
  refine c_need_number hv rfl rfl (fun h => ?_) (fun h => by simpa using q1 (by rwa [within_non] at h))
  rw [within_non] at h
  simp
  refine c_need_number hu rfl rfl (fun h2 => ?_) (fun h2 => by simpa using q2 h h2)
  obtain ⟨m, rfl⟩ := within_int h2
  obtain ⟨l1, l2⟩ := within_lh h2
  cases v <;> try (cases h; done)
  rename_i b
  have hn1 := hn.1
  have hn2 := hn.2
  simp only [adF_ap]
  refine lcR (j := m) (fun k' h => by simpa using h) (by omega) (by omega) (fun i : Nat => .int (ns.getD ((b + i) % ns.length).toNat 0)) (fun _ => rfl) ?_ ?_
  · intro i hi acc k' h
    have hm := mod_lt (p := b + i) hn1
    simp +decide [roundD, rdK, rdX, lookD, hn1, atI_dI ns hm.1 hm.2]
    simpa using h
  · rw [dI_map_range]
    simp
    refine c_Row_X__init_X_ (ns := rowL ns b m.toNat) ⟨by rw [rowL_len]; omega, by rw [rowL_len]; omega⟩ ?_
    have := q3 b m rfl rfl l1 l2
    simpa [rowD] using this
theorem c_Round_row {ns : List Int} {v u : D} {M : MS} {k : KD} {x : XD} (h : Ln ns) (hv : okV v = true) (hu : okV u = true) (q1 : isI v = false → x ("BadNumber", ["part"], [.str "begin"]) M)
    (q2 : isI v = true → within u (.int 1) (.int 48) = false → x ("BadNumber", ["part"], [.str "days"]) M) (q3 : ∀ b m, v = .int b → u = .int m → 1 ≤ m → m ≤ 48 → k (rowD (rowL ns b m.toNat)) M) : app' sp_Round_row [] [roundD ns, v, u] M k x :=
  app_pure (by simp [roundD, okV_pure hv, okV_pure hu]) ⟨ns, v, u, rfl, h, hv, hu, q1, q2, q3⟩
theorem v_Round_twice (ds : List D) (M : MS) (k : KD) (x : XD) (h : sp_Round_twice ds M k x) : t_Round_twice (enD M.length k) (fun e _ M' => x e (M'.take M.length)) (startD ["self"] ds) M := by
  obtain ⟨ns, rfl, hn, q1, q2⟩ := h
  have hn2 := hn.2
  have hs : ns.length + ns.length ≤ sizeLine := by
    have : (100 : Nat) < sizeLine := by decide
    omega
  have hp : allPure (dI ns ++ dI ns) = true := by rw [← dI_app]; simp
  simp +decide [t_Round_twice, startD, roundD, rdK, rdX, lookD, hs, hp]
  rw [← dI_app]
  by_cases h : 2 * ns.length ≤ 48
  · refine c_round_new ⟨by have := hn.1; simp; omega, by simp; omega⟩ ?_
    simpa [roundD] using q1 h
  · refine c_round_many (by simp; omega) (by simp; omega) ?_
    simpa using q2 (by omega)
theorem c_Round_twice {ns : List Int} {M : MS} {k : KD} {x : XD} (h : Ln ns) (q1 : 2 * ns.length ≤ 48 → k (roundD (ns ++ ns)) M) (q2 : 48 < 2 * ns.length → x ("TooMany", ["most", "what"], [.int 48, .str "days"]) M) : app' sp_Round_twice [] [roundD ns] M k x :=
  app_pure (by simp [roundD]) ⟨ns, rfl, h, q1, q2⟩
theorem bnd_okV {v : D} (h : bnd v = true) : okV v = true := by cases v <;> first | rfl | cases h
theorem v_need_bound (ds : List D) (M : MS) (k : KD) (x : XD) (h : sp_need_bound ds M k x) : t_need_bound (enD M.length k) (fun e _ M' => x e (M'.take M.length)) (startD ["value", "part"] ds) M := by
  obtain ⟨v, p, rfl, hv, q⟩ := h
  cases v <;> cases hv
  · simpa [t_need_bound, startD] using q
  · simp [t_need_bound, startD, Dl.isNon]
    refine c_is_integer rfl ?_
    simpa [isI] using q
theorem c_need_bound {v : D} {p : Str} {M : MS} {k : KD} {x : XD} (h : bnd v = true) (q : k .non M) : app' sp_need_bound [] [v, .str p] M k x :=
  app_pure (by simp [bnd_pure h]) ⟨v, p, rfl, h, q⟩
theorem v_are_bounds (ds : List D) (M : MS) (k : KD) (x : XD) (h : sp_are_bounds ds M k x) : t_are_bounds (enD M.length k) (fun e _ M' => x e (M'.take M.length)) (startD ["low", "high"] ds) M := by
  obtain ⟨lo, hi, rfl, h1, h2, q⟩ := h
  cases lo <;> cases h1 <;> cases hi <;> cases h2 <;> simp [t_are_bounds, startD, bnds] at q ⊢ <;> exact q
theorem c_are_bounds {lo hi : D} {M : MS} {k : KD} {x : XD} (h1 : bnd lo = true) (h2 : bnd hi = true) (q : k (.bl (bnds lo hi)) M) : app' sp_are_bounds [] [lo, hi] M k x :=
  app_pure (by simp [bnd_pure h1, bnd_pure h2]) ⟨lo, hi, rfl, h1, h2, q⟩
theorem v_need_bounds (ds : List D) (M : MS) (k : KD) (x : XD) (h : sp_need_bounds ds M k x) : t_need_bounds (enD M.length k) (fun e _ M' => x e (M'.take M.length)) (startD ["low", "high"] ds) M := by
  obtain ⟨lo, hi, rfl, h1, h2, h3, q⟩ := h
  simp [t_need_bounds, startD]
  refine c_need_bound h1 ?_
  simp
  refine c_need_bound h2 ?_
  simp
  refine c_are_bounds h1 h2 ?_
  simpa [h3] using q
theorem c_need_bounds {lo hi : D} {M : MS} {k : KD} {x : XD} (h1 : bnd lo = true) (h2 : bnd hi = true) (h3 : bnds lo hi = true) (q : k .non M) : app' sp_need_bounds [] [lo, hi] M k x :=
  app_pure (by simp [bnd_pure h1, bnd_pure h2]) ⟨lo, hi, rfl, h1, h2, h3, q⟩
theorem within_in {l a b : Int} (h1 : a ≤ l) (h2 : l ≤ b) : within (.int l) (.int a) (.int b) = true := by simp [within, h1, h2]
theorem v_Rule_X__init_X_ (ds : List D) (M : MS) (k : KD) (x : XD) (h : sp_Rule_X__init_X_ ds M k x) : t_Rule_X__init_X_ (enD M.length k) (fun e _ M' => x e (M'.take M.length)) (startD ["self", "length", "low", "high"] ds) M := by
  obtain ⟨l, lo, hi, rfl, rfl, l1, l2, h1, h2, h3, q⟩ := h
  simp [t_Rule_X__init_X_, startD]
  refine c_need_number rfl rfl rfl (fun h => ?_) (fun h => by rw [within_in l1 l2] at h; cases h)
  simp
  refine c_need_bound h1 ?_
  simp
  refine c_need_bound h2 ?_
  simp
  refine c_are_bounds h1 h2 ?_
  simp +decide [h3, Dl.putK, putX, bnd_pure h1, bnd_pure h2, and_assoc]
  exact q
theorem c_Rule_X__init_X_ {l : Int} {lo hi : D} {M : MS} {k : KD} {x : XD} (l1 : 1 ≤ l) (l2 : l ≤ 48) (h1 : bnd lo = true) (h2 : bnd hi = true) (h3 : bnds lo hi = true) (q : k (ruleD l lo hi) M) : app' sp_Rule_X__init_X_ [0] [.cell M.length, .int l, lo, hi] (M ++ [.ins "Rule" [] []]) (mkEnd false "Rule" M.length k) x := by
  refine app_one (mo := .ins "Rule" [] []) (by simp) (by simp [bnd_pure h1, bnd_pure h2]) ⟨l, lo, hi, rfl, rfl, l1, l2, h1, h2, h3, rfl, M, _, _, by simp [putb], rfl, q⟩
theorem v_Some_X__init_X_ (ds : List D) (M : MS) (k : KD) (x : XD) (h : sp_Some_X__init_X_ ds M k x) : t_Some_X__init_X_ (enD M.length k) (fun e _ M' => x e (M'.take M.length)) (startD ["self", "length", "low", "high"] ds) M := by
  obtain ⟨l, lo, hi, rfl, rfl, l1, l2, h1, h2, h3, q⟩ := h
  simp [t_Some_X__init_X_, startD]
  refine c_need_number rfl rfl rfl (fun h => ?_) (fun h => by rw [within_in l1 l2] at h; cases h)
  simp
  refine c_need_bounds h1 h2 h3 ?_
  simp +decide [Dl.putK, putX, bnd_pure h1, bnd_pure h2, and_assoc]
  exact q
theorem c_Some_X__init_X_ {l : Int} {lo hi : D} {M : MS} {k : KD} {x : XD} (l1 : 1 ≤ l) (l2 : l ≤ 48) (h1 : bnd lo = true) (h2 : bnd hi = true) (h3 : bnds lo hi = true) (q : k (someD l lo hi) M) : app' sp_Some_X__init_X_ [0] [.cell M.length, .int l, lo, hi] (M ++ [.ins "Some" [] []]) (mkEnd false "Some" M.length k) x := by
  refine app_one (mo := .ins "Some" [] []) (by simp) (by simp [bnd_pure h1, bnd_pure h2]) ⟨l, lo, hi, rfl, rfl, l1, l2, h1, h2, h3, rfl, M, _, _, by simp [putb], rfl, q⟩
end K72
set_option Elab.async false
set_option linter.all false
set_option maxRecDepth 100000
set_option maxHeartbeats 1000000
set_option autoImplicit false
/-! K72j: rules kept. -/
namespace K72
open PySem PySem.Spec PyProof.Rows L2 Dl
variable [Tb]
theorem isa_c {t : Tg} {C : Str} : isa t (.c C) = decide (t = .c C) := by simp [isa]
theorem v_need_row (hisa : Tb.isa = isa) (ds : List D) (M : MS) (k : KD) (x : XD) (h : sp_need_row ds M k x) : t_need_row (enD M.length k) (fun e _ M' => x e (M'.take M.length)) (startD ["value", "part"] ds) M := by
  obtain ⟨r, p, rfl, hr, q1, q2⟩ := h
  obtain ⟨t, ht⟩ := okV_tag hr
  have hs : ∀ (M : MS), view M r = r := fun M => view_pure (okV_pure hr)
  simp [t_need_row, startD, hs, ht, okV_okT hr, hisa, isa_c, -Bool.exists_bool]
  by_cases h : t = .c "Row"
  · subst h
    simpa using q1 ht
  · simpa [h] using q2 (by rw [ht]; simpa using h)
theorem c_need_row {r : D} {p : Str} {M : MS} {k : KD} {x : XD} (hr : okV r = true) (q1 : tag r = some (.c "Row") → k .non M) (q2 : tag r ≠ some (.c "Row") → x ("BadRow", ["part"], [.str p]) M) : app' sp_need_row [] [r, .str p] M k x :=
  app_pure (by simp [okV_pure hr]) ⟨r, p, rfl, hr, q1, q2⟩
theorem kept_all {ms : List Int} {n : Int} {lo hi : D} : kept ms n lo hi = true ↔ ∀ i : Nat, i < ((ms.length : Int) - n + 1).toNat → within (.int ((heights ms).getD (i + n.toNat) 0 - (heights ms).getD i 0)) lo hi = true := by
  unfold kept
  rw [List.all_eq_true]
  simp only [List.mem_range]
theorem v_Rule_first_broken (ds : List D) (M : MS) (k : KD) (x : XD) (h : sp_Rule_first_broken ds M k x) : t_Rule_first_broken (enD M.length k) (fun e _ M' => x e (M'.take M.length)) (startD ["self", "row", "begin"] ds) M := by
  obtain ⟨n, lo, hi, r, rfl, n1, n2, h1, h2, hr, q⟩ := h
  simp [t_Rule_first_broken, startD]
  refine c_need_row hr (fun ht => ?_) (fun ht => ?_)
  · rcases q with ⟨ms, rfl, ⟨m1, m2⟩, q1, q2⟩ | ⟨hne, _⟩
    · simp only [adF_ap]
      have hrow : ∀ (M : MS), view M (rowD ms) = rowD ms := fun _ => rfl
      have hru : ∀ (M : MS), view M (ruleD n lo hi) = ruleD n lo hi := fun _ => rfl
      have f1 : ∀ B : D → Prop, fldB "days" (rowD ms) B = B (.int ms.length) := fun B => by simp +decide [rowD, rwK, rwX, lookD]
      have f2 : ∀ B : D → Prop, fldB "heights" (rowD ms) B = B (.tup (dI (heights ms))) := fun B => by simp +decide [rowD, rwK, rwX, lookD]
      have f3 : ∀ B : D → Prop, fldB "length" (ruleD n lo hi) B = B (.int n) := fun B => by simp +decide [ruleD, ruK, lookD]
      have f4 : ∀ B : D → Prop, fldB "low" (ruleD n lo hi) B = B lo := fun B => by simp +decide [ruleD, ruK, lookD]
      have f5 : ∀ B : D → Prop, fldB "high" (ruleD n lo hi) B = B hi := fun B => by simp +decide [ruleD, ruK, lookD]
      simp only [sFor, iR1, dCons_ap, dNil_ap, dBin_ap, dUn_ap, dVar_ap, dC_ap]
      refine ⟨rowD ms, rfl, ?_⟩
      rw [hrow, f1]
      refine ⟨ruleD n lo hi, rfl, ?_⟩
      rw [hru, f3]
      simp only [view_int, subB_ap, addB_int]
      refine ⟨trivial, _, rfl, by omega, by omega, fun i ρ M' => M' = M ∧ (∃ o, ρ = [some (ruleD n lo hi), some (rowD ms), o]) ∧ ∀ j : Nat, j < i → within (.int ((heights ms).getD (j + n.toNat) 0 - (heights ms).getD j 0)) lo hi = true, ⟨rfl, ⟨none, rfl⟩, fun j hj => absurd hj (Nat.not_lt_zero _)⟩, ?_⟩
      rintro i ρ M' ⟨rfl, ⟨o, rfl⟩, hw⟩ hle
      refine ⟨trivial, fun hlt => ?_, fun e => ?_⟩
      · have g1 : atI (dI (heights ms)) ((i : Int) + n) = some (.int ((heights ms).getD (i + n.toNat) 0)) := by
          rw [atI_dI _ (by omega) (by rw [heights_len]; omega)]
          congr 3
          omega
        have g2 : atI (dI (heights ms)) (i : Int) = some (.int ((heights ms).getD i 0)) := by
          rw [atI_dI _ (by omega) (by rw [heights_len]; omega), Int.toNat_natCast]
        simp [hrow, hru, f2, f3, f4, f5, g1, g2, view_pure (bnd_pure h1)]
        refine c_is_within rfl h1 h2 ?_
        cases hwi : within (.int ((heights ms).getD (i + n.toNat) 0 - (heights ms).getD i 0)) lo hi with
        | true =>
          simp [List.getD] at hwi
          simp [List.getD, hwi]
          intro j hj
          by_cases e : j = i
          · subst e
            exact hwi
          · simpa [List.getD] using hw j (by omega)
        | false =>
          have hk : kept ms n lo hi = false := by
            cases e : kept ms n lo hi with
            | false => rfl
            | true =>
              rw [kept_all.mp e i hlt] at hwi
              cases hwi
          simp [List.getD] at hwi
          simp [List.getD, hwi]
          exact q2 hk i
      · subst e
        simpa using q1 (kept_all.mpr hw)
    · exact absurd ht hne
  · rcases q with ⟨ms, rfl, _⟩ | ⟨_, q⟩
    · exact absurd rfl ht
    · simpa using q
theorem c_Rule_first_broken {n : Int} {lo hi r : D} {M : MS} {k : KD} {x : XD} (n1 : 1 ≤ n) (n2 : n ≤ 48) (h1 : bnd lo = true) (h2 : bnd hi = true) (hr : okV r = true)
    (q : (∃ ms, r = rowD ms ∧ Ln ms ∧ (kept ms n lo hi = true → k .non M) ∧ (kept ms n lo hi = false → ∀ i, k (.int i) M)) ∨ (tag r ≠ some (.c "Row") ∧ x ("BadRow", ["part"], [.str "row"]) M)) : app' sp_Rule_first_broken [] [ruleD n lo hi, r] M k x :=
  app_pure (by simp [ruleD, okV_pure hr]) ⟨n, lo, hi, r, rfl, n1, n2, h1, h2, hr, q⟩
theorem v_Rule_keeps (ds : List D) (M : MS) (k : KD) (x : XD) (h : sp_Rule_keeps ds M k x) : t_Rule_keeps (enD M.length k) (fun e _ M' => x e (M'.take M.length)) (startD ["self", "row"] ds) M := by
  obtain ⟨n, lo, hi, r, rfl, n1, n2, h1, h2, hr, q⟩ := h
  have hru : ∀ (M : MS), view M (ruleD n lo hi) = ruleD n lo hi := fun _ => rfl
  simp [t_Rule_keeps, startD, hru]
  refine ⟨⟨ruK, ⟨_, rfl⟩, by decide⟩, ?_⟩
  refine c_Rule_first_broken n1 n2 h1 h2 hr ?_
  rcases q with ⟨ms, rfl, hm, q⟩ | ⟨hne, q⟩
  · refine .inl ⟨ms, rfl, hm, fun e => ?_, fun e i => ?_⟩
    · rw [e] at q
      simpa using q
    · rw [e] at q
      simpa using q
  · exact .inr ⟨hne, by simpa using q⟩
theorem c_Rule_keeps {n : Int} {lo hi r : D} {M : MS} {k : KD} {x : XD} (n1 : 1 ≤ n) (n2 : n ≤ 48) (h1 : bnd lo = true) (h2 : bnd hi = true) (hr : okV r = true)
    (q : (∃ ms, r = rowD ms ∧ Ln ms ∧ k (.bl (kept ms n lo hi)) M) ∨ (tag r ≠ some (.c "Row") ∧ x ("BadRow", ["part"], [.str "row"]) M)) : app' sp_Rule_keeps [] [ruleD n lo hi, r] M k x :=
  app_pure (by simp [ruleD, okV_pure hr]) ⟨n, lo, hi, r, rfl, n1, n2, h1, h2, hr, q⟩
theorem dI_all (f : Int → Bool) (ss : List Int) : (dI ss).map (fun | .int s => D.bl (f s) | d => d) = (ss.map f).map D.bl := by simp [dI]
theorem v_Round_keeps (hisa : Tb.isa = isa) (ds : List D) (M : MS) (k : KD) (x : XD) (h : sp_Round_keeps ds M k x) : t_Round_keeps (enD M.length k) (fun e _ M' => x e (M'.take M.length)) (startD ["self", "rule", "total"] ds) M := by
  obtain ⟨ns, r, rfl, hs, hr, q⟩ := h
  obtain ⟨t, ht⟩ := okV_tag hr
  have hv : ∀ (M : MS), view M r = r := fun M => view_pure (okV_pure hr)
  have hro : ∀ (M : MS), view M (roundD ns) = roundD ns := fun _ => rfl
  have f1 : ∀ B : D → Prop, fldB "gains" (roundD ns) B = B (.tup (dI ns)) := fun B => by simp +decide [roundD, rdK, rdX, lookD]
  simp [t_Round_keeps, startD, hv, ht, okV_okT hr, hisa, isa_c, -Bool.exists_bool]
  rcases q with ⟨n, lo, hi, rfl, h1, h2, q⟩ | ⟨hne, q⟩
  · cases ht
    have f3 : ∀ B : D → Prop, fldB "length" (ruleD n lo hi) B = B (.int n) := fun B => by simp +decide [ruleD, ruK, lookD]
    have f4 : ∀ B : D → Prop, fldB "low" (ruleD n lo hi) B = B lo := fun B => by simp +decide [ruleD, ruK, lookD]
    have f5 : ∀ B : D → Prop, fldB "high" (ruleD n lo hi) B = B hi := fun B => by simp +decide [ruleD, ruK, lookD]
    have hru : ∀ (M : MS), view M (ruleD n lo hi) = ruleD n lo hi := fun _ => rfl
    simp
    refine lcS (d := .lst (dI (sumsR ns n))) (xs := dI (sumsR ns n)) (fun k' h => ?_) rfl rfl (by have := hs.1.2; simp [sumsR_len]; omega) (fun | .int s => D.bl (within (.int s) lo hi) | d => d) (fun y hy => ?_) (fun y hy acc k' h => ?_) ?_
    · simp [hro, hru, f1, f3]
      exact c_sums_in_rounds hs (by simpa using h)
    · obtain ⟨s, _, rfl⟩ := List.mem_map.mp hy; rfl
    · obtain ⟨s, _, rfl⟩ := List.mem_map.mp hy
      simp [hru, f4, f5]
      exact c_is_within rfl h1 h2 (by simpa using h)
    · refine ⟨(sumsR ns n).map fun s => within (.int s) lo hi, ?_, ?_⟩
      · rw [← dI_all]
        rfl
      · simpa [List.all_map] using q
  · have : t ≠ .c "Rule" := fun e => hne (by rw [ht, e])
    simpa [this] using q
theorem c_Round_keeps {ns : List Int} {r : D} {M : MS} {k : KD} {x : XD} (h : Sm ns) (hr : okV r = true)
    (q : (∃ n lo hi, r = ruleD n lo hi ∧ bnd lo = true ∧ bnd hi = true ∧ k (.bl ((sumsR ns n).all fun s => within (.int s) lo hi)) M) ∨ (tag r ≠ some (.c "Rule") ∧ x ("BadRule", ["part"], [.str "rule"]) M)) : app' sp_Round_keeps [] [roundD ns, r] M k x :=
  app_pure (by simp [roundD, okV_pure hr]) ⟨ns, r, rfl, h, hr, q⟩
end K72
set_option Elab.async false
set_option linter.all false
set_option maxRecDepth 100000
set_option autoImplicit false
/-! the longer defs in parts (printed by parts.py) -/
namespace K72
open PySem PySem.Spec PyProof.Rows L2 Dl
variable [Tb]
def t__law_gains_4 : DS := sCons (sRet (dVar 3)) sNil
theorem t__law_gains_e4 : t__law_gains_4 = sCons (sRet (dVar 3)) sNil := rfl
def t__law_gains_3i3_1 : DS := sCons (sAsg (dBin subB (dBin idxB (dVar 3) (dVar 4)) (dCB sumXB (dCons (dVar 3) dNil))) (gIx (dVar 3) (dVar 4))) sNil
theorem t__law_gains_3i3_e1 : t__law_gains_3i3_1 = sCons (sAsg (dBin subB (dBin idxB (dVar 3) (dVar 4)) (dCB sumXB (dCons (dVar 3) dNil))) (gIx (dVar 3) (dVar 4))) sNil := rfl
def t__law_gains_3i3 : DS := sCons (sSet 4 (dCall adF sp__law_grind [0] 2 0 [0, 1] [] (dCons (dVar 0) (dCons (dVar 1) dNil)) dNil)) t__law_gains_3i3_1
theorem t__law_gains_3i3_e0 : t__law_gains_3i3 = sCons (sSet 4 (dCall adF sp__law_grind [0] 2 0 [0, 1] [] (dCons (dVar 0) (dCons (dVar 1) dNil)) dNil)) t__law_gains_3i3_1 := rfl
def t__law_gains_3 : DS := sCons (sIf (dTst (dBin gtB (dVar 2) (dC (.int 2)))) t__law_gains_3i3 sNil) t__law_gains_4
theorem t__law_gains_e3 : t__law_gains_3 = sCons (sIf (dTst (dBin gtB (dVar 2) (dC (.int 2)))) t__law_gains_3i3 sNil) t__law_gains_4 := rfl
def t__law_gains_2 : DS := sCons (sSet 3 (dLc true (iR1 (dCons (dVar 1) dNil)) (gSet 5) dYes (dBin mulB (dBin subB (dCall adF sp__law_grind [0] 2 0 [0, 1] [] (dCons (dVar 0) (dCons (dC (.int 9)) dNil)) dNil) (dC (.int 4))) (dIf (dTst (dBin eqB (dVar 2) (dC (.int 1)))) (dC (.int 99991)) (dC (.int 1)))) [5])) t__law_gains_3
theorem t__law_gains_e2 : t__law_gains_2 = sCons (sSet 3 (dLc true (iR1 (dCons (dVar 1) dNil)) (gSet 5) dYes (dBin mulB (dBin subB (dCall adF sp__law_grind [0] 2 0 [0, 1] [] (dCons (dVar 0) (dCons (dC (.int 9)) dNil)) dNil) (dC (.int 4))) (dIf (dTst (dBin eqB (dVar 2) (dC (.int 1)))) (dC (.int 99991)) (dC (.int 1)))) [5])) t__law_gains_3 := rfl
def t__law_gains_1 : DS := sCons (sIf (dTst (dBin eqB (dCall adF sp__law_grind [0] 2 0 [0, 1] [] (dCons (dVar 0) (dCons (dC (.int 12)) dNil)) dNil) (dC (.int 0)))) (sCons (sSet 1 (dC (.int 48))) sNil) sNil) t__law_gains_2
theorem t__law_gains_e1 : t__law_gains_1 = sCons (sIf (dTst (dBin eqB (dCall adF sp__law_grind [0] 2 0 [0, 1] [] (dCons (dVar 0) (dCons (dC (.int 12)) dNil)) dNil) (dC (.int 0)))) (sCons (sSet 1 (dC (.int 48))) sNil) sNil) t__law_gains_2 := rfl
theorem t__law_gains_e0 : t__law_gains = sCons (sAsg (dTup (dCons (dBin addB (dC (.int 1)) (dCall adF sp__law_grind [0] 2 0 [0, 1] [] (dCons (dVar 0) (dCons (dC (.int 9)) dNil)) dNil)) (dCons (dCall adF sp__law_grind [0] 2 0 [0, 1] [] (dCons (dVar 0) (dCons (dC (.int 5)) dNil)) dNil) dNil))) (gUn 2 (gAnd (gSet 1) (gAnd (gSet 2) gNo)))) t__law_gains_1 := rfl
def t__law_sums_right_2 : DS := sCons (sRet (dC (.bl true))) sNil
theorem t__law_sums_right_e2 : t__law_sums_right_2 = sCons (sRet (dC (.bl true))) sNil := rfl
def t__law_sums_right_1b_8 : DS := sCons (sIf (dAnd (dTst (dBin ltB (dUn (fldB "total") (dVar 1)) (dC (.int 0)))) (dTst (dBin (inB false) (dVar 8) (dTup (dCons (dC (.str "gains")) (dCons (dC (.str "flat")) dNil)))))) (sCons (sRet (dC (.bl false))) sNil) sNil) sNil
theorem t__law_sums_right_1b_e8 : t__law_sums_right_1b_8 = sCons (sIf (dAnd (dTst (dBin ltB (dUn (fldB "total") (dVar 1)) (dC (.int 0)))) (dTst (dBin (inB false) (dVar 8) (dTup (dCons (dC (.str "gains")) (dCons (dC (.str "flat")) dNil)))))) (sCons (sRet (dC (.bl false))) sNil) sNil) sNil := rfl
def t__law_sums_right_1b_7 : DS := sCons (sIf (dOr (dAnd (dTst (dBin eqB (dUn (fldB "total") (dVar 1)) (dC (.int 0)))) (dTst (dBin (inB false) (dVar 8) (dTup (dCons (dC (.str "gains")) (dCons (dC (.str "loses")) dNil)))))) (dAnd (dTst (dBin gtB (dUn (fldB "total") (dVar 1)) (dC (.int 0)))) (dTst (dBin (inB false) (dVar 8) (dTup (dCons (dC (.str "loses")) (dCons (dC (.str "flat")) dNil))))))) (sCons (sRet (dC (.bl false))) sNil) sNil) t__law_sums_right_1b_8
theorem t__law_sums_right_1b_e7 : t__law_sums_right_1b_7 = sCons (sIf (dOr (dAnd (dTst (dBin eqB (dUn (fldB "total") (dVar 1)) (dC (.int 0)))) (dTst (dBin (inB false) (dVar 8) (dTup (dCons (dC (.str "gains")) (dCons (dC (.str "loses")) dNil)))))) (dAnd (dTst (dBin gtB (dUn (fldB "total") (dVar 1)) (dC (.int 0)))) (dTst (dBin (inB false) (dVar 8) (dTup (dCons (dC (.str "loses")) (dCons (dC (.str "flat")) dNil))))))) (sCons (sRet (dC (.bl false))) sNil) sNil) t__law_sums_right_1b_8 := rfl
def t__law_sums_right_1b_6 : DS := sCons (sIf (dOr (dTst (dBin neB (dVar 8) (dCall adF sp__law_word [] 1 0 [0] [] (dCons (dVar 7) dNil) dNil))) (dTst (dBin (inB true) (dMeth "Round" "sort_of" adF sp_Round_sort_of [] 1 0 [0, 1] [] (dVar 1) (dCons (dBin addB (dVar 5) (dVar 3)) dNil) dNil) (dTup (dCons (dC (.str "gains")) (dCons (dC (.str "loses")) (dCons (dC (.str "flat")) (dCons (dC (.str "mixed")) dNil)))))))) (sCons (sRet (dC (.bl false))) sNil) sNil) t__law_sums_right_1b_7
theorem t__law_sums_right_1b_e6 : t__law_sums_right_1b_6 = sCons (sIf (dOr (dTst (dBin neB (dVar 8) (dCall adF sp__law_word [] 1 0 [0] [] (dCons (dVar 7) dNil) dNil))) (dTst (dBin (inB true) (dMeth "Round" "sort_of" adF sp_Round_sort_of [] 1 0 [0, 1] [] (dVar 1) (dCons (dBin addB (dVar 5) (dVar 3)) dNil) dNil) (dTup (dCons (dC (.str "gains")) (dCons (dC (.str "loses")) (dCons (dC (.str "flat")) (dCons (dC (.str "mixed")) dNil)))))))) (sCons (sRet (dC (.bl false))) sNil) sNil) t__law_sums_right_1b_7 := rfl
def t__law_sums_right_1b_5 : DS := sCons (sSet 8 (dMeth "Round" "sort_of" adF sp_Round_sort_of [] 0 1 [0, 1] [] (dVar 1) dNil (dCons (dVar 5) dNil))) t__law_sums_right_1b_6
theorem t__law_sums_right_1b_e5 : t__law_sums_right_1b_5 = sCons (sSet 8 (dMeth "Round" "sort_of" adF sp_Round_sort_of [] 0 1 [0, 1] [] (dVar 1) dNil (dCons (dVar 5) dNil))) t__law_sums_right_1b_6 := rfl
def t__law_sums_right_1b_4 : DS := sCons (sIf (dOr (dTst (dBin neB (dLc false (iR1 (dCons (dVar 3) dNil)) (gSet 9) dYes (dMeth "Round" "sum_of" adF sp_Round_sum_of [] 2 0 [0, 1, 2] [] (dVar 1) (dCons (dVar 9) (dCons (dVar 5) dNil)) dNil) [9]) (dVar 7))) (dTst (dBin neB (dCB sumXB (dCons (dVar 7) dNil)) (dBin mulB (dVar 5) (dUn (fldB "total") (dVar 1)))))) (sCons (sRet (dC (.bl false))) sNil) sNil) t__law_sums_right_1b_5
theorem t__law_sums_right_1b_e4 : t__law_sums_right_1b_4 = sCons (sIf (dOr (dTst (dBin neB (dLc false (iR1 (dCons (dVar 3) dNil)) (gSet 9) dYes (dMeth "Round" "sum_of" adF sp_Round_sum_of [] 2 0 [0, 1, 2] [] (dVar 1) (dCons (dVar 9) (dCons (dVar 5) dNil)) dNil) [9]) (dVar 7))) (dTst (dBin neB (dCB sumXB (dCons (dVar 7) dNil)) (dBin mulB (dVar 5) (dUn (fldB "total") (dVar 1)))))) (sCons (sRet (dC (.bl false))) sNil) sNil) t__law_sums_right_1b_5 := rfl
def t__law_sums_right_1b_3 : DS := sCons (sIf (dOr (dTst (dBin neB (dMeth "Round" "sum_of" adF sp_Round_sum_of [] 2 0 [0, 1, 2] [] (dVar 1) (dCons (dVar 6) (dCons (dVar 5) dNil)) dNil) (dCall adF sp__law_sum [] 3 0 [0, 1, 2] [] (dCons (dVar 2) (dCons (dVar 6) (dCons (dVar 5) dNil))) dNil))) (dTst (dBin neB (dMeth "Round" "sum_of" adF sp_Round_sum_of [] 0 2 [0, 2, 1] [] (dVar 1) dNil (dCons (dVar 5) (dCons (dBin addB (dVar 6) (dVar 3)) dNil))) (dCall adF sp__law_sum [] 3 0 [0, 1, 2] [] (dCons (dVar 2) (dCons (dVar 6) (dCons (dVar 5) dNil))) dNil)))) (sCons (sRet (dC (.bl false))) sNil) sNil) t__law_sums_right_1b_4
theorem t__law_sums_right_1b_e3 : t__law_sums_right_1b_3 = sCons (sIf (dOr (dTst (dBin neB (dMeth "Round" "sum_of" adF sp_Round_sum_of [] 2 0 [0, 1, 2] [] (dVar 1) (dCons (dVar 6) (dCons (dVar 5) dNil)) dNil) (dCall adF sp__law_sum [] 3 0 [0, 1, 2] [] (dCons (dVar 2) (dCons (dVar 6) (dCons (dVar 5) dNil))) dNil))) (dTst (dBin neB (dMeth "Round" "sum_of" adF sp_Round_sum_of [] 0 2 [0, 2, 1] [] (dVar 1) dNil (dCons (dVar 5) (dCons (dBin addB (dVar 6) (dVar 3)) dNil))) (dCall adF sp__law_sum [] 3 0 [0, 1, 2] [] (dCons (dVar 2) (dCons (dVar 6) (dCons (dVar 5) dNil))) dNil)))) (sCons (sRet (dC (.bl false))) sNil) sNil) t__law_sums_right_1b_4 := rfl
def t__law_sums_right_1b_2 : DS := sCons (sSet 7 (dLc false (iR1 (dCons (dVar 3) dNil)) (gSet 9) dYes (dCall adF sp__law_sum [] 3 0 [0, 1, 2] [] (dCons (dVar 2) (dCons (dVar 9) (dCons (dVar 5) dNil))) dNil) [9])) t__law_sums_right_1b_3
theorem t__law_sums_right_1b_e2 : t__law_sums_right_1b_2 = sCons (sSet 7 (dLc false (iR1 (dCons (dVar 3) dNil)) (gSet 9) dYes (dCall adF sp__law_sum [] 3 0 [0, 1, 2] [] (dCons (dVar 2) (dCons (dVar 9) (dCons (dVar 5) dNil))) dNil) [9])) t__law_sums_right_1b_3 := rfl
def t__law_sums_right_1b_1 : DS := sCons (sSet 6 (dBin mulB (dBin subB (dCall adF sp__law_grind [0] 2 0 [0, 1] [] (dCons (dVar 0) (dCons (dC (.int 99)) dNil)) dNil) (dC (.int 49))) (dCall adF sp__law_pick [0] 2 0 [0, 1] [] (dCons (dVar 0) (dCons (dLst (dCons (dC (.int 1)) (dCons (dC (.int 1)) (dCons (dBin addB (dBin powB (dC (.int 10)) (dC (.int 15))) (dC (.int 1))) dNil)))) dNil)) dNil))) t__law_sums_right_1b_2
theorem t__law_sums_right_1b_e1 : t__law_sums_right_1b_1 = sCons (sSet 6 (dBin mulB (dBin subB (dCall adF sp__law_grind [0] 2 0 [0, 1] [] (dCons (dVar 0) (dCons (dC (.int 99)) dNil)) dNil) (dC (.int 49))) (dCall adF sp__law_pick [0] 2 0 [0, 1] [] (dCons (dVar 0) (dCons (dLst (dCons (dC (.int 1)) (dCons (dC (.int 1)) (dCons (dBin addB (dBin powB (dC (.int 10)) (dC (.int 15))) (dC (.int 1))) dNil)))) dNil)) dNil))) t__law_sums_right_1b_2 := rfl
def t__law_sums_right_1b : DS := sCons (sSet 5 (dBin addB (dC (.int 1)) (dCall adF sp__law_grind [0] 2 0 [0, 1] [] (dCons (dVar 0) (dCons (dCall adF sp__law_pick [0] 2 0 [0, 1] [] (dCons (dVar 0) (dCons (dLst (dCons (dVar 3) (dCons (dBin addB (dBin mulB (dC (.int 2)) (dVar 3)) (dC (.int 3))) (dCons (dBin powB (dC (.int 10)) (dC (.int 6))) (dCons (dBin powB (dC (.int 10)) (dC (.int 20))) dNil))))) dNil)) dNil) dNil)) dNil))) t__law_sums_right_1b_1
theorem t__law_sums_right_1b_e0 : t__law_sums_right_1b = sCons (sSet 5 (dBin addB (dC (.int 1)) (dCall adF sp__law_grind [0] 2 0 [0, 1] [] (dCons (dVar 0) (dCons (dCall adF sp__law_pick [0] 2 0 [0, 1] [] (dCons (dVar 0) (dCons (dLst (dCons (dVar 3) (dCons (dBin addB (dBin mulB (dC (.int 2)) (dVar 3)) (dC (.int 3))) (dCons (dBin powB (dC (.int 10)) (dC (.int 6))) (dCons (dBin powB (dC (.int 10)) (dC (.int 20))) dNil))))) dNil)) dNil) dNil)) dNil))) t__law_sums_right_1b_1 := rfl
def t__law_sums_right_1 : DS := sCons (sFor (iR1 (dCons (dC (.int 4)) dNil)) (gSet 4) t__law_sums_right_1b) t__law_sums_right_2
theorem t__law_sums_right_e1 : t__law_sums_right_1 = sCons (sFor (iR1 (dCons (dC (.int 4)) dNil)) (gSet 4) t__law_sums_right_1b) t__law_sums_right_2 := rfl
theorem t__law_sums_right_e0 : t__law_sums_right = sCons (sSet 3 (dCB lenB (dCons (dVar 2) dNil))) t__law_sums_right_1 := rfl
def t__law_other_right_10 : DS := sCons (sRet (dBin eqB (dUn (fldB "total") (dMeth "Round" "row" adF sp_Round_row [] 2 0 [0, 1, 2] [] (dVar 1) (dCons (dC (.int 0)) (dCons (dVar 3) dNil)) dNil)) (dUn (fldB "total") (dVar 1)))) sNil
theorem t__law_other_right_e10 : t__law_other_right_10 = sCons (sRet (dBin eqB (dUn (fldB "total") (dMeth "Round" "row" adF sp_Round_row [] 2 0 [0, 1, 2] [] (dVar 1) (dCons (dC (.int 0)) (dCons (dVar 3) dNil)) dNil)) (dUn (fldB "total") (dVar 1)))) sNil := rfl
def t__law_other_right_9 : DS := sCons (sIf (dOr (dNot (dTru (dIs owns excs [.c "Row"] (dVar 9)))) (dTst (dBin neB (dUn (fldB "gains") (dVar 9)) (dCB tupB (dCons (dLc false (iR1 (dCons (dVar 8) dNil)) (gSet 10) dYes (dBin idxB (dVar 2) (dBin modB (dCB intB1 (dCons (dBin addB (dVar 4) (dVar 10)) dNil)) (dVar 3))) [10]) dNil))))) (sCons (sRet (dC (.bl false))) sNil) sNil) t__law_other_right_10
theorem t__law_other_right_e9 : t__law_other_right_9 = sCons (sIf (dOr (dNot (dTru (dIs owns excs [.c "Row"] (dVar 9)))) (dTst (dBin neB (dUn (fldB "gains") (dVar 9)) (dCB tupB (dCons (dLc false (iR1 (dCons (dVar 8) dNil)) (gSet 10) dYes (dBin idxB (dVar 2) (dBin modB (dCB intB1 (dCons (dBin addB (dVar 4) (dVar 10)) dNil)) (dVar 3))) [10]) dNil))))) (sCons (sRet (dC (.bl false))) sNil) sNil) t__law_other_right_10 := rfl
def t__law_other_right_8 : DS := sCons (sSet 9 (dMeth "Round" "row" adF sp_Round_row [] 0 2 [0, 2, 1] [] (dVar 1) dNil (dCons (dVar 8) (dCons (dVar 4) dNil)))) t__law_other_right_9
theorem t__law_other_right_e8 : t__law_other_right_8 = sCons (sSet 9 (dMeth "Round" "row" adF sp_Round_row [] 0 2 [0, 2, 1] [] (dVar 1) dNil (dCons (dVar 8) (dCons (dVar 4) dNil)))) t__law_other_right_9 := rfl
def t__law_other_right_7 : DS := sCons (sSet 8 (dBin addB (dC (.int 1)) (dCall adF sp__law_grind [0] 2 0 [0, 1] [] (dCons (dVar 0) (dCons (dC (.int 48)) dNil)) dNil))) t__law_other_right_8
theorem t__law_other_right_e7 : t__law_other_right_7 = sCons (sSet 8 (dBin addB (dC (.int 1)) (dCall adF sp__law_grind [0] 2 0 [0, 1] [] (dCons (dVar 0) (dCons (dC (.int 48)) dNil)) dNil))) t__law_other_right_8 := rfl
def t__law_other_right_6i3_2 : DS := sCons (sIf (dTst (dBin neB (dMeth "Round" "sort_of" adF sp_Round_sort_of [] 1 0 [0, 1] [] (dVar 7) (dCons (dVar 6) dNil) dNil) (dMeth "Round" "sort_of" adF sp_Round_sort_of [] 1 0 [0, 1] [] (dVar 1) (dCons (dVar 6) dNil) dNil))) (sCons (sRet (dC (.bl false))) sNil) sNil) sNil
theorem t__law_other_right_6i3_e2 : t__law_other_right_6i3_2 = sCons (sIf (dTst (dBin neB (dMeth "Round" "sort_of" adF sp_Round_sort_of [] 1 0 [0, 1] [] (dVar 7) (dCons (dVar 6) dNil) dNil) (dMeth "Round" "sort_of" adF sp_Round_sort_of [] 1 0 [0, 1] [] (dVar 1) (dCons (dVar 6) dNil) dNil))) (sCons (sRet (dC (.bl false))) sNil) sNil) sNil := rfl
def t__law_other_right_6i3_1 : DS := sCons (sIf (dOr (dTst (dBin neB (dUn (fldB "gains") (dVar 7)) (dCB tupB (dCons (dBin addB (dVar 2) (dVar 2)) dNil)))) (dOr (dTst (dBin neB (dLenO "Round" sp_Round_X__len_X_ (dVar 7)) (dBin mulB (dC (.int 2)) (dVar 3)))) (dTst (dEqO owns excs "Round" false sp_Round_X__eq_X_ (dVar 7) (dVar 1))))) (sCons (sRet (dC (.bl false))) sNil) sNil) t__law_other_right_6i3_2
theorem t__law_other_right_6i3_e1 : t__law_other_right_6i3_1 = sCons (sIf (dOr (dTst (dBin neB (dUn (fldB "gains") (dVar 7)) (dCB tupB (dCons (dBin addB (dVar 2) (dVar 2)) dNil)))) (dOr (dTst (dBin neB (dLenO "Round" sp_Round_X__len_X_ (dVar 7)) (dBin mulB (dC (.int 2)) (dVar 3)))) (dTst (dEqO owns excs "Round" false sp_Round_X__eq_X_ (dVar 7) (dVar 1))))) (sCons (sRet (dC (.bl false))) sNil) sNil) t__law_other_right_6i3_2 := rfl
def t__law_other_right_6i3 : DS := sCons (sSet 7 (dMeth "Round" "twice" adF sp_Round_twice [] 0 0 [0] [] (dVar 1) dNil dNil)) t__law_other_right_6i3_1
theorem t__law_other_right_6i3_e0 : t__law_other_right_6i3 = sCons (sSet 7 (dMeth "Round" "twice" adF sp_Round_twice [] 0 0 [0] [] (dVar 1) dNil dNil)) t__law_other_right_6i3_1 := rfl
def t__law_other_right_6 : DS := sCons (sIf (dTst (dBin leB (dBin mulB (dC (.int 2)) (dVar 3)) (dC (.int 48)))) t__law_other_right_6i3 sNil) t__law_other_right_7
theorem t__law_other_right_e6 : t__law_other_right_6 = sCons (sIf (dTst (dBin leB (dBin mulB (dC (.int 2)) (dVar 3)) (dC (.int 48)))) t__law_other_right_6i3 sNil) t__law_other_right_7 := rfl
def t__law_other_right_5 : DS := sCons (sIf (dOr (dTst (dBin neB (dMeth "Round" "sum_of" adF sp_Round_sum_of [] 2 0 [0, 1, 2] [] (dVar 5) (dCons (dC (.int 0)) (dCons (dVar 6) dNil)) dNil) (dMeth "Round" "sum_of" adF sp_Round_sum_of [] 2 0 [0, 1, 2] [] (dVar 1) (dCons (dVar 4) (dCons (dVar 6) dNil)) dNil))) (dTst (dBin neB (dMeth "Round" "sort_of" adF sp_Round_sort_of [] 1 0 [0, 1] [] (dVar 5) (dCons (dVar 6) dNil) dNil) (dMeth "Round" "sort_of" adF sp_Round_sort_of [] 1 0 [0, 1] [] (dVar 1) (dCons (dVar 6) dNil) dNil)))) (sCons (sRet (dC (.bl false))) sNil) sNil) t__law_other_right_6
theorem t__law_other_right_e5 : t__law_other_right_5 = sCons (sIf (dOr (dTst (dBin neB (dMeth "Round" "sum_of" adF sp_Round_sum_of [] 2 0 [0, 1, 2] [] (dVar 5) (dCons (dC (.int 0)) (dCons (dVar 6) dNil)) dNil) (dMeth "Round" "sum_of" adF sp_Round_sum_of [] 2 0 [0, 1, 2] [] (dVar 1) (dCons (dVar 4) (dCons (dVar 6) dNil)) dNil))) (dTst (dBin neB (dMeth "Round" "sort_of" adF sp_Round_sort_of [] 1 0 [0, 1] [] (dVar 5) (dCons (dVar 6) dNil) dNil) (dMeth "Round" "sort_of" adF sp_Round_sort_of [] 1 0 [0, 1] [] (dVar 1) (dCons (dVar 6) dNil) dNil)))) (sCons (sRet (dC (.bl false))) sNil) sNil) t__law_other_right_6 := rfl
def t__law_other_right_4 : DS := sCons (sSet 6 (dBin addB (dC (.int 1)) (dCall adF sp__law_grind [0] 2 0 [0, 1] [] (dCons (dVar 0) (dCons (dBin mulB (dC (.int 3)) (dVar 3)) dNil)) dNil))) t__law_other_right_5
theorem t__law_other_right_e4 : t__law_other_right_4 = sCons (sSet 6 (dBin addB (dC (.int 1)) (dCall adF sp__law_grind [0] 2 0 [0, 1] [] (dCons (dVar 0) (dCons (dBin mulB (dC (.int 3)) (dVar 3)) dNil)) dNil))) t__law_other_right_5 := rfl
def t__law_other_right_3 : DS := sCons (sIf (dTst (dEqO owns excs "Round" true sp_Round_X__eq_X_ (dMeth "Round" "turned" adF sp_Round_turned [] 1 0 [0, 1] [] (dVar 5) (dCons (dUn negB (dVar 4)) dNil) dNil) (dVar 1))) (sCons (sRet (dC (.bl false))) sNil) sNil) t__law_other_right_4
theorem t__law_other_right_e3 : t__law_other_right_3 = sCons (sIf (dTst (dEqO owns excs "Round" true sp_Round_X__eq_X_ (dMeth "Round" "turned" adF sp_Round_turned [] 1 0 [0, 1] [] (dVar 5) (dCons (dUn negB (dVar 4)) dNil) dNil) (dVar 1))) (sCons (sRet (dC (.bl false))) sNil) sNil) t__law_other_right_4 := rfl
def t__law_other_right_2 : DS := sCons (sIf (dOr (dTst (dBin neB (dUn (fldB "gains") (dVar 5)) (dCB tupB (dCons (dLc false (iR1 (dCons (dVar 3) dNil)) (gSet 10) dYes (dBin idxB (dVar 2) (dBin modB (dCB intB1 (dCons (dBin addB (dVar 4) (dVar 10)) dNil)) (dVar 3))) [10]) dNil)))) (dTst (dBin neB (dUn (fldB "total") (dVar 5)) (dUn (fldB "total") (dVar 1))))) (sCons (sRet (dC (.bl false))) sNil) sNil) t__law_other_right_3
theorem t__law_other_right_e2 : t__law_other_right_2 = sCons (sIf (dOr (dTst (dBin neB (dUn (fldB "gains") (dVar 5)) (dCB tupB (dCons (dLc false (iR1 (dCons (dVar 3) dNil)) (gSet 10) dYes (dBin idxB (dVar 2) (dBin modB (dCB intB1 (dCons (dBin addB (dVar 4) (dVar 10)) dNil)) (dVar 3))) [10]) dNil)))) (dTst (dBin neB (dUn (fldB "total") (dVar 5)) (dUn (fldB "total") (dVar 1))))) (sCons (sRet (dC (.bl false))) sNil) sNil) t__law_other_right_3 := rfl
def t__law_other_right_1 : DS := sCons (sSet 5 (dMeth "Round" "turned" adF sp_Round_turned [] 0 1 [0, 1] [] (dVar 1) dNil (dCons (dVar 4) dNil))) t__law_other_right_2
theorem t__law_other_right_e1 : t__law_other_right_1 = sCons (sSet 5 (dMeth "Round" "turned" adF sp_Round_turned [] 0 1 [0, 1] [] (dVar 1) dNil (dCons (dVar 4) dNil))) t__law_other_right_2 := rfl
theorem t__law_other_right_e0 : t__law_other_right = sCons (sAsg (dTup (dCons (dCB lenB (dCons (dVar 2) dNil)) (dCons (dBin mulB (dBin subB (dCall adF sp__law_grind [0] 2 0 [0, 1] [] (dCons (dVar 0) (dCons (dC (.int 49)) dNil)) dNil) (dC (.int 24))) (dCall adF sp__law_pick [0] 2 0 [0, 1] [] (dCons (dVar 0) (dCons (dLst (dCons (dC (.int 1)) (dCons (dBin addB (dBin powB (dC (.int 10)) (dC (.int 12))) (dC (.int 1))) dNil))) dNil)) dNil)) dNil))) (gUn 2 (gAnd (gSet 3) (gAnd (gSet 4) gNo)))) t__law_other_right_1 := rfl
def t__law_kept_right_1 : DS := sCons (sRet (dC (.bl true))) sNil
theorem t__law_kept_right_e1 : t__law_kept_right_1 = sCons (sRet (dC (.bl true))) sNil := rfl
def t__law_kept_right_0b_9 : DS := sCons (sIf (dAnd (dTst (dBin leB (dVar 10) (dC (.int 48)))) (dTst (dBin neB (dMeth "Rule" "keeps" adF sp_Rule_keeps [] 1 0 [0, 1] [] (dVar 9) (dCons (dMeth "Round" "row" adF sp_Round_row [] 2 0 [0, 1, 2] [] (dVar 1) (dCons (dCall adF sp__law_grind [0] 2 0 [0, 1] [] (dCons (dVar 0) (dCons (dC (.int 9)) dNil)) dNil) (dCons (dVar 10) dNil)) dNil) dNil) dNil) (dVar 8)))) (sCons (sRet (dC (.bl false))) sNil) sNil) sNil
theorem t__law_kept_right_0b_e9 : t__law_kept_right_0b_9 = sCons (sIf (dAnd (dTst (dBin leB (dVar 10) (dC (.int 48)))) (dTst (dBin neB (dMeth "Rule" "keeps" adF sp_Rule_keeps [] 1 0 [0, 1] [] (dVar 9) (dCons (dMeth "Round" "row" adF sp_Round_row [] 2 0 [0, 1, 2] [] (dVar 1) (dCons (dCall adF sp__law_grind [0] 2 0 [0, 1] [] (dCons (dVar 0) (dCons (dC (.int 9)) dNil)) dNil) (dCons (dVar 10) dNil)) dNil) dNil) dNil) (dVar 8)))) (sCons (sRet (dC (.bl false))) sNil) sNil) sNil := rfl
def t__law_kept_right_0b_8 : DS := sCons (sSet 10 (dBin subB (dBin addB (dCB lenB (dCons (dVar 2) dNil)) (dVar 4)) (dC (.int 1)))) t__law_kept_right_0b_9
theorem t__law_kept_right_0b_e8 : t__law_kept_right_0b_8 = sCons (sSet 10 (dBin subB (dBin addB (dCB lenB (dCons (dVar 2) dNil)) (dVar 4)) (dC (.int 1)))) t__law_kept_right_0b_9 := rfl
def t__law_kept_right_0b_7 : DS := sCons (sIf (dOr (dTst (dBin neB (dCB reprB (dCons (dMeth "Round" "keeps" adF sp_Round_keeps [] 0 1 [0, 1] [] (dVar 1) dNil (dCons (dVar 9) dNil)) dNil)) (dCB reprB (dCons (dVar 8) dNil)))) (dTst (dBin neB (dCB reprB (dCons (dMeth "Round" "keeps" adF sp_Round_keeps [] 1 0 [0, 1] [] (dMeth "Round" "turned" adF sp_Round_turned [] 1 0 [0, 1] [] (dVar 1) (dCons (dVar 3) dNil) dNil) (dCons (dVar 9) dNil) dNil) dNil)) (dCB reprB (dCons (dVar 8) dNil))))) (sCons (sRet (dC (.bl false))) sNil) sNil) t__law_kept_right_0b_8
theorem t__law_kept_right_0b_e7 : t__law_kept_right_0b_7 = sCons (sIf (dOr (dTst (dBin neB (dCB reprB (dCons (dMeth "Round" "keeps" adF sp_Round_keeps [] 0 1 [0, 1] [] (dVar 1) dNil (dCons (dVar 9) dNil)) dNil)) (dCB reprB (dCons (dVar 8) dNil)))) (dTst (dBin neB (dCB reprB (dCons (dMeth "Round" "keeps" adF sp_Round_keeps [] 1 0 [0, 1] [] (dMeth "Round" "turned" adF sp_Round_turned [] 1 0 [0, 1] [] (dVar 1) (dCons (dVar 3) dNil) dNil) (dCons (dVar 9) dNil) dNil) dNil)) (dCB reprB (dCons (dVar 8) dNil))))) (sCons (sRet (dC (.bl false))) sNil) sNil) t__law_kept_right_0b_8 := rfl
def t__law_kept_right_0b_6 : DS := sCons (sSet 9 (dMake "Rule" false sp_Rule_X__init_X_ [0] 3 0 [0, 1, 2, 3] [.non, .non] (dCons (dVar 4) (dCons (dVar 6) (dCons (dVar 7) dNil))) dNil)) t__law_kept_right_0b_7
theorem t__law_kept_right_0b_e6 : t__law_kept_right_0b_6 = sCons (sSet 9 (dMake "Rule" false sp_Rule_X__init_X_ [0] 3 0 [0, 1, 2, 3] [.non, .non] (dCons (dVar 4) (dCons (dVar 6) (dCons (dVar 7) dNil))) dNil)) t__law_kept_right_0b_7 := rfl
def t__law_kept_right_0b_5 : DS := sCons (sSet 8 (dAndV (dOrV (dBin isNB (dVar 6) (dC .non)) (dBin leB (dVar 6) (dCB minB (dCons (dVar 5) dNil)))) (dOrV (dBin isNB (dVar 7) (dC .non)) (dBin leB (dCB maxB (dCons (dVar 5) dNil)) (dVar 7))))) t__law_kept_right_0b_6
theorem t__law_kept_right_0b_e5 : t__law_kept_right_0b_5 = sCons (sSet 8 (dAndV (dOrV (dBin isNB (dVar 6) (dC .non)) (dBin leB (dVar 6) (dCB minB (dCons (dVar 5) dNil)))) (dOrV (dBin isNB (dVar 7) (dC .non)) (dBin leB (dCB maxB (dCons (dVar 5) dNil)) (dVar 7))))) t__law_kept_right_0b_6 := rfl
def t__law_kept_right_0b_4 : DS := sCons (sAsg (dCall adF sp__law_pick [0] 2 0 [0, 1] [] (dCons (dVar 0) (dCons (dLst (dCons (dTup (dCons (dVar 6) (dCons (dVar 7) dNil))) (dCons (dTup (dCons (dVar 6) (dCons (dC .non) dNil))) (dCons (dTup (dCons (dC .non) (dCons (dVar 7) dNil))) dNil)))) dNil)) dNil) (gUn 2 (gAnd (gSet 6) (gAnd (gSet 7) gNo)))) t__law_kept_right_0b_5
theorem t__law_kept_right_0b_e4 : t__law_kept_right_0b_4 = sCons (sAsg (dCall adF sp__law_pick [0] 2 0 [0, 1] [] (dCons (dVar 0) (dCons (dLst (dCons (dTup (dCons (dVar 6) (dCons (dVar 7) dNil))) (dCons (dTup (dCons (dVar 6) (dCons (dC .non) dNil))) (dCons (dTup (dCons (dC .non) (dCons (dVar 7) dNil))) dNil)))) dNil)) dNil) (gUn 2 (gAnd (gSet 6) (gAnd (gSet 7) gNo)))) t__law_kept_right_0b_5 := rfl
def t__law_kept_right_0b_3 : DS := sCons (sSet 7 (dCB (two fun i j => if j > i then j else i) (dCons (dVar 6) (dCons (dBin addB (dCB maxB (dCons (dVar 5) dNil)) (dCall adF sp__law_pick [0] 2 0 [0, 1] [] (dCons (dVar 0) (dCons (dLst (dCons (dC (.int 0)) (dCons (dC (.int 0)) (dCons (dC (.int 1)) (dCons (dUn negB (dC (.int 1))) dNil))))) dNil)) dNil)) dNil)))) t__law_kept_right_0b_4
theorem t__law_kept_right_0b_e3 : t__law_kept_right_0b_3 = sCons (sSet 7 (dCB (two fun i j => if j > i then j else i) (dCons (dVar 6) (dCons (dBin addB (dCB maxB (dCons (dVar 5) dNil)) (dCall adF sp__law_pick [0] 2 0 [0, 1] [] (dCons (dVar 0) (dCons (dLst (dCons (dC (.int 0)) (dCons (dC (.int 0)) (dCons (dC (.int 1)) (dCons (dUn negB (dC (.int 1))) dNil))))) dNil)) dNil)) dNil)))) t__law_kept_right_0b_4 := rfl
def t__law_kept_right_0b_2 : DS := sCons (sSet 6 (dBin addB (dCB minB (dCons (dVar 5) dNil)) (dCall adF sp__law_pick [0] 2 0 [0, 1] [] (dCons (dVar 0) (dCons (dLst (dCons (dC (.int 0)) (dCons (dC (.int 0)) (dCons (dUn negB (dC (.int 1))) (dCons (dC (.int 1)) dNil))))) dNil)) dNil))) t__law_kept_right_0b_3
theorem t__law_kept_right_0b_e2 : t__law_kept_right_0b_2 = sCons (sSet 6 (dBin addB (dCB minB (dCons (dVar 5) dNil)) (dCall adF sp__law_pick [0] 2 0 [0, 1] [] (dCons (dVar 0) (dCons (dLst (dCons (dC (.int 0)) (dCons (dC (.int 0)) (dCons (dUn negB (dC (.int 1))) (dCons (dC (.int 1)) dNil))))) dNil)) dNil))) t__law_kept_right_0b_3 := rfl
def t__law_kept_right_0b_1 : DS := sCons (sSet 5 (dLc false (iR1 (dCons (dCB lenB (dCons (dVar 2) dNil)) dNil)) (gSet 11) dYes (dCall adF sp__law_sum [] 3 0 [0, 1, 2] [] (dCons (dVar 2) (dCons (dVar 11) (dCons (dVar 4) dNil))) dNil) [11])) t__law_kept_right_0b_2
theorem t__law_kept_right_0b_e1 : t__law_kept_right_0b_1 = sCons (sSet 5 (dLc false (iR1 (dCons (dCB lenB (dCons (dVar 2) dNil)) dNil)) (gSet 11) dYes (dCall adF sp__law_sum [] 3 0 [0, 1, 2] [] (dCons (dVar 2) (dCons (dVar 11) (dCons (dVar 4) dNil))) dNil) [11])) t__law_kept_right_0b_2 := rfl
def t__law_kept_right_0b : DS := sCons (sSet 4 (dBin addB (dC (.int 1)) (dCall adF sp__law_grind [0] 2 0 [0, 1] [] (dCons (dVar 0) (dCons (dCall adF sp__law_pick [0] 2 0 [0, 1] [] (dCons (dVar 0) (dCons (dLst (dCons (dCB lenB (dCons (dVar 2) dNil)) (dCons (dC (.int 12)) (dCons (dC (.int 48)) dNil)))) dNil)) dNil) dNil)) dNil))) t__law_kept_right_0b_1
theorem t__law_kept_right_0b_e0 : t__law_kept_right_0b = sCons (sSet 4 (dBin addB (dC (.int 1)) (dCall adF sp__law_grind [0] 2 0 [0, 1] [] (dCons (dVar 0) (dCons (dCall adF sp__law_pick [0] 2 0 [0, 1] [] (dCons (dVar 0) (dCons (dLst (dCons (dCB lenB (dCons (dVar 2) dNil)) (dCons (dC (.int 12)) (dCons (dC (.int 48)) dNil)))) dNil)) dNil) dNil)) dNil))) t__law_kept_right_0b_1 := rfl
theorem t__law_kept_right_e0 : t__law_kept_right = sCons (sFor (iR1 (dCons (dC (.int 3)) dNil)) (gSet 3) t__law_kept_right_0b) t__law_kept_right_1 := rfl
def t_law_2 : DS := sCons (sRet (dC (.bl true))) sNil
theorem t_law_e2 : t_law_2 = sCons (sRet (dC (.bl true))) sNil := rfl
def t_law_1b_8 : DS := sCons (sIf (dTst (dBin neB (dEqO owns excs "Round" false sp_Round_X__eq_X_ (dMake "Round" false sp_Round_X__init_X_ [0] 1 0 [0, 1] [] (dCons (dUn revB (dVar 3)) dNil) dNil) (dVar 5)) (dBin eqB (dUn revB (dVar 3)) (dVar 3)))) (sCons (sRet (dC (.bl false))) sNil) sNil) sNil
theorem t_law_1b_e8 : t_law_1b_8 = sCons (sIf (dTst (dBin neB (dEqO owns excs "Round" false sp_Round_X__eq_X_ (dMake "Round" false sp_Round_X__init_X_ [0] 1 0 [0, 1] [] (dCons (dUn revB (dVar 3)) dNil) dNil) (dVar 5)) (dBin eqB (dUn revB (dVar 3)) (dVar 3)))) (sCons (sRet (dC (.bl false))) sNil) sNil) sNil := rfl
def t_law_1b_7 : DS := sCons (sIf (dOr (dNot (dTru (dCall adF sp__law_refused_right [0] 3 0 [0, 1, 2] [] (dCons (dVar 1) (dCons (dVar 5) (dCons (dVar 3) dNil))) dNil))) (dOr (dTst (dEqO owns excs "Round" true sp_Round_X__eq_X_ (dMake "Round" false sp_Round_X__init_X_ [0] 1 0 [0, 1] [] (dCons (dCB tupB (dCons (dVar 3) dNil)) dNil) dNil) (dVar 5))) (dOr (dTst (dEqO owns excs "Round" false sp_Round_X__eq_X_ (dVar 5) (dCB tupB (dCons (dVar 3) dNil)))) (dTst (dEqO owns excs "Round" false sp_Round_X__eq_X_ (dVar 5) (dMake "Row" false sp_Row_X__init_X_ [0] 1 0 [0, 1] [] (dCons (dVar 3) dNil) dNil)))))) (sCons (sRet (dC (.bl false))) sNil) sNil) t_law_1b_8
theorem t_law_1b_e7 : t_law_1b_7 = sCons (sIf (dOr (dNot (dTru (dCall adF sp__law_refused_right [0] 3 0 [0, 1, 2] [] (dCons (dVar 1) (dCons (dVar 5) (dCons (dVar 3) dNil))) dNil))) (dOr (dTst (dEqO owns excs "Round" true sp_Round_X__eq_X_ (dMake "Round" false sp_Round_X__init_X_ [0] 1 0 [0, 1] [] (dCons (dCB tupB (dCons (dVar 3) dNil)) dNil) dNil) (dVar 5))) (dOr (dTst (dEqO owns excs "Round" false sp_Round_X__eq_X_ (dVar 5) (dCB tupB (dCons (dVar 3) dNil)))) (dTst (dEqO owns excs "Round" false sp_Round_X__eq_X_ (dVar 5) (dMake "Row" false sp_Row_X__init_X_ [0] 1 0 [0, 1] [] (dCons (dVar 3) dNil) dNil)))))) (sCons (sRet (dC (.bl false))) sNil) sNil) t_law_1b_8 := rfl
def t_law_1b_6 : DS := sCons (sIf (dOr (dNot (dTru (dCall adF sp__law_sums_right [0] 3 0 [0, 1, 2] [] (dCons (dVar 1) (dCons (dVar 5) (dCons (dVar 3) dNil))) dNil))) (dOr (dNot (dTru (dCall adF sp__law_other_right [0] 3 0 [0, 1, 2] [] (dCons (dVar 1) (dCons (dVar 5) (dCons (dVar 3) dNil))) dNil))) (dNot (dTru (dCall adF sp__law_kept_right [0] 3 0 [0, 1, 2] [] (dCons (dVar 1) (dCons (dVar 5) (dCons (dVar 3) dNil))) dNil))))) (sCons (sRet (dC (.bl false))) sNil) sNil) t_law_1b_7
theorem t_law_1b_e6 : t_law_1b_6 = sCons (sIf (dOr (dNot (dTru (dCall adF sp__law_sums_right [0] 3 0 [0, 1, 2] [] (dCons (dVar 1) (dCons (dVar 5) (dCons (dVar 3) dNil))) dNil))) (dOr (dNot (dTru (dCall adF sp__law_other_right [0] 3 0 [0, 1, 2] [] (dCons (dVar 1) (dCons (dVar 5) (dCons (dVar 3) dNil))) dNil))) (dNot (dTru (dCall adF sp__law_kept_right [0] 3 0 [0, 1, 2] [] (dCons (dVar 1) (dCons (dVar 5) (dCons (dVar 3) dNil))) dNil))))) (sCons (sRet (dC (.bl false))) sNil) sNil) t_law_1b_7 := rfl
def t_law_1b_5 : DS := sCons (sIf (dOr (dTst (dBin neB (dUn (fldB "gains") (dVar 5)) (dCB tupB (dCons (dVar 3) dNil)))) (dOr (dTst (dBin neB (dUn (fldB "days") (dVar 5)) (dCB lenB (dCons (dVar 3) dNil)))) (dOr (dTst (dBin neB (dLenO "Round" sp_Round_X__len_X_ (dVar 5)) (dCB lenB (dCons (dVar 3) dNil)))) (dTst (dBin neB (dUn (fldB "total") (dVar 5)) (dCB sumXB (dCons (dVar 3) dNil))))))) (sCons (sRet (dC (.bl false))) sNil) sNil) t_law_1b_6
theorem t_law_1b_e5 : t_law_1b_5 = sCons (sIf (dOr (dTst (dBin neB (dUn (fldB "gains") (dVar 5)) (dCB tupB (dCons (dVar 3) dNil)))) (dOr (dTst (dBin neB (dUn (fldB "days") (dVar 5)) (dCB lenB (dCons (dVar 3) dNil)))) (dOr (dTst (dBin neB (dLenO "Round" sp_Round_X__len_X_ (dVar 5)) (dCB lenB (dCons (dVar 3) dNil)))) (dTst (dBin neB (dUn (fldB "total") (dVar 5)) (dCB sumXB (dCons (dVar 3) dNil))))))) (sCons (sRet (dC (.bl false))) sNil) sNil) t_law_1b_6 := rfl
def t_law_1b_4 : DS := sCons (sAsg (dBin addB (dBin idxB (dVar 4) (dC (.int 0))) (dC (.int 1))) (gIx (dVar 4) (dC (.int 0)))) t_law_1b_5
theorem t_law_1b_e4 : t_law_1b_4 = sCons (sAsg (dBin addB (dBin idxB (dVar 4) (dC (.int 0))) (dC (.int 1))) (gIx (dVar 4) (dC (.int 0)))) t_law_1b_5 := rfl
def t_law_1b_3 : DS := sCons (sDrop (dApp (dVar 4) (dC (.int 7)))) t_law_1b_4
theorem t_law_1b_e3 : t_law_1b_3 = sCons (sDrop (dApp (dVar 4) (dC (.int 7)))) t_law_1b_4 := rfl
def t_law_1b_2 : DS := sCons (sSet 5 (dMake "Round" false sp_Round_X__init_X_ [0] 0 1 [0, 1] [] dNil (dCons (dVar 4) dNil))) t_law_1b_3
theorem t_law_1b_e2 : t_law_1b_2 = sCons (sSet 5 (dMake "Round" false sp_Round_X__init_X_ [0] 0 1 [0, 1] [] dNil (dCons (dVar 4) dNil))) t_law_1b_3 := rfl
def t_law_1b_1 : DS := sCons (sSet 4 (dListC (dVar 3))) t_law_1b_2
theorem t_law_1b_e1 : t_law_1b_1 = sCons (sSet 4 (dListC (dVar 3))) t_law_1b_2 := rfl
def t_law_1b : DS := sCons (sSet 3 (dCall adF sp__law_gains [0] 1 0 [0] [] (dCons (dVar 1) dNil) dNil)) t_law_1b_1
theorem t_law_1b_e0 : t_law_1b = sCons (sSet 3 (dCall adF sp__law_gains [0] 1 0 [0] [] (dCons (dVar 1) dNil) dNil)) t_law_1b_1 := rfl
def t_law_1 : DS := sCons (sFor (iR1 (dCons (dC (.int 2)) dNil)) (gSet 2) t_law_1b) t_law_2
theorem t_law_e1 : t_law_1 = sCons (sFor (iR1 (dCons (dC (.int 2)) dNil)) (gSet 2) t_law_1b) t_law_2 := rfl
theorem t_law_e0 : t_law = sCons (sSet 1 (dCall adC sp__law_mill [] 1 0 [0] [] (dCons (dVar 0) dNil) dNil)) t_law_1 := rfl
end K72
set_option Elab.async false
set_option linter.all false
set_option maxRecDepth 100000
set_option maxHeartbeats 1000000
set_option autoImplicit false
/-! K72k: the law's gains. -/
namespace K72
open PySem PySem.Spec PyProof.Rows L2 Dl
variable [Tb]
theorem Ml.mono {a b : Nat} {M : MS} (h : Ml a M) (l : a ≤ b) : Ml b M := by
  obtain ⟨cs, p, r, e, hp⟩ := h
  exact ⟨cs, p, r, e, by omega⟩
theorem Ml.len {b : Nat} {M : MS} (h : Ml b M) : M.length = 1 := by
  obtain ⟨cs, p, r, rfl, hp⟩ := h
  rfl
theorem g_grind {b : Nat} {n : Int} {M R : MS} {k : KD} {x : XD} (hM : Ml b M) (hb : b ≤ 10000) (hn : 0 < n) (hn2 : n < 2 ^ 80) (q : ∀ r M', 0 ≤ r → r < n → Ml (b + 1) M' → k (.int r) (M' ++ R)) : app' sp__law_grind [0] [.cell 0, .int n] (M ++ R) k x := by
  obtain ⟨cs, p, r, rfl, hp⟩ := hM
  refine app_one (mo := .lst [.lst (dI cs), .int p, .int r]) rfl rfl ⟨b, n, rfl, ⟨cs, p, r, rfl, hp⟩, hb, hn, hn2, fun r' M' h1 h2 ⟨cs', p', r'', e, hp'⟩ => ?_⟩
  subst e
  exact q _ _ h1 h2 ⟨cs', p', r'', rfl, hp'⟩
theorem g_pick {b : Nat} {xs : List D} {M R : MS} {k : KD} {x : XD} (hM : Ml b M) (hb : b ≤ 10000) (hl : 0 < xs.length) (hl2 : xs.length ≤ 1000) (hp : allPure xs = true) (q : ∀ d M', d ∈ xs → Ml (b + 1) M' → k d (M' ++ R)) : app' sp__law_pick [0] [.cell 0, .lst xs] (M ++ R) k x := by
  obtain ⟨cs, p, r, rfl, hpp⟩ := hM
  refine app_one (mo := .lst [.lst (dI cs), .int p, .int r]) rfl rfl ⟨b, xs, rfl, ⟨cs, p, r, rfl, hpp⟩, hb, hl, hl2, hp, fun d M' h1 ⟨cs', p', r'', e, hp'⟩ => ?_⟩
  subst e
  exact q _ _ h1 ⟨cs', p', r'', rfl, hp'⟩
theorem Ml.set1 {b : Nat} {M : MS} (h : Ml b M) (a c : MO) : (M ++ [a]).set 1 c = M ++ [c] := by
  obtain ⟨cs, p, r, rfl, hp⟩ := h
  rfl
theorem Ml.get1 {b : Nat} {M : MS} (h : Ml b M) (a : MO) : (M ++ [a])[1]? = some a := by
  obtain ⟨cs, p, r, rfl, hp⟩ := h
  rfl
theorem sum_le {c : Nat} : ∀ {ns : List Int}, (∀ g ∈ ns, g.natAbs ≤ c) → ns.sum.natAbs ≤ ns.length * c
  | [], _ => by simp
  | n :: r, h => by
    have h1 := sum_le (ns := r) fun g hg => h g (List.mem_cons_of_mem _ hg)
    have h2 := h n (by simp)
    simp only [List.sum_cons, List.length_cons, Nat.add_mul]
    omega
theorem tk1 {b : Nat} {M R : MS} (h : Ml b M) : (M ++ R).take 1 = M := by
  have := h.len
  rw [← this]
  simp
theorem vw1 {b : Nat} {M : MS} {gs : List Int} (h : Ml b M) : view (M ++ [.lst (dI gs)]) (.cell 1) = .lst (dI gs) := view_cell_lst (h.get1 _)
theorem dI_set (gs : List Int) (i : Nat) (v : Int) : (dI gs).set i (.int v) = dI (gs.set i v) := by simp [dI, List.map_set]
theorem gains_4 {b : Nat} {gs : List Int} {M : MS} {k : KD} {x : XD} {o1 o2 o4 o5 : Option D} (hM : Ml b M) (q : k (.own (dI gs)) M) : t__law_gains_4 (enD 1 k) (fun e _ M' => x e (M'.take 1)) [some (.cell 0), o1, o2, some (.cell 1), o4, o5] (M ++ [.lst (dI gs)]) := by
  simp [t__law_gains_e4, hM.get1, tk1 hM]
  exact q
theorem gains_3 {b : Nat} {n r2 : Int} {gs : List Int} {M : MS} {k : KD} {x : XD} {o4 o5 : Option D} (hM : Ml b M) (hb : b ≤ 9990) (hl : (gs.length : Int) = n) (n1 : 1 ≤ n) (n2 : n ≤ 48) (hg : ∀ g ∈ gs, g.natAbs ≤ 400000) (q : ∀ ns M', Sm ns → Ml (b + 1) M' → k (.own (dI ns)) M') : t__law_gains_3 (enD 1 k) (fun e _ M' => x e (M'.take 1)) [some (.cell 0), some (.int n), some (.int r2), some (.cell 1), o4, o5] (M ++ [.lst (dI gs)]) := by
  simp only [t__law_gains_e3, sCons_ap, sIf_ap]
  simp [-Bool.exists_bool]
  by_cases e : 2 < r2
  · simp only [e, if_true, t__law_gains_3i3_e0, t__law_gains_3i3_e1]
    simp
    refine g_grind hM (by omega) (by omega) (by omega) fun r M4 d1 d2 hM4 => ?_
    have ha := atI_dI gs d1 (by omega)
    have hix : ixN gs.length r = some r.toNat := by
      unfold ixN
      rw [if_pos d1, if_pos (by omega)]
    simp [vw1 hM4, ha]
    refine sumX_lst _ ?_
    simp [hM4.get1, hix, hM4.set1, dI_set]
    refine gains_4 hM4 (q _ _ ⟨⟨by simp; omega, by simp; omega⟩, fun g hg' => ?_⟩ hM4)
    have hsum := sum_le hg
    have hgl : gs.length ≤ 48 := by omega
    have h2 : gs.length * 400000 ≤ 48 * 400000 := Nat.mul_le_mul_right _ hgl
    have ha2 : (gs[r.toNat]?.getD 0).natAbs ≤ 400000 := by
      rw [List.getElem?_eq_getElem (by omega)]
      exact hg _ (List.getElem_mem _)
    rcases List.mem_or_eq_of_mem_set hg' with h | h
    · have := hg g h
      omega
    · subst h
      omega
  · simp only [e, if_false, sNil_ap]
    exact gains_4 (hM.mono (Nat.le_succ _)) (q _ _ ⟨⟨by omega, by omega⟩, fun g h => by have := hg g h; omega⟩ (hM.mono (Nat.le_succ _)))
theorem gains_2 {b : Nat} {n r2 : Int} {M : MS} {k : KD} {x : XD} (hM : Ml b M) (hb : b ≤ 9900) (n1 : 1 ≤ n) (n2 : n ≤ 48) (q : ∀ ns M', Sm ns → Ml (b + 49) M' → k (.own (dI ns)) M') : t__law_gains_2 (enD 1 k) (fun e _ M' => x e (M'.take 1)) [some (.cell 0), some (.int n), some (.int r2), none, none, none] M := by
  simp only [t__law_gains_e2, sCons_ap, sSet_ap]
  refine ⟨_, rfl, _, rfl, by omega, by omega, fun i acc M' => ∃ gs, acc = dI gs ∧ gs.length = i ∧ (∀ g ∈ gs, g.natAbs ≤ 400000) ∧ Ml (b + i) M', ⟨[], rfl, rfl, by simp, hM⟩, ?_⟩
  rintro i acc M' ⟨gs, rfl, hgl, hg, hM'⟩ hi
  refine ⟨by rw [hM'.len, hM.len], trivial, fun hlt => ?_, fun e => ?_⟩
  · simp [dYes, wipeD, -Bool.exists_bool]
    refine g_grind hM' (by omega) (by omega) (by omega) fun r M4 d1 d2 hM4 => ?_
    have hs : gs.length < sizeLine := by
      have : (100 : Nat) < sizeLine := by decide
      omega
    simp [-Bool.exists_bool]
    have fin : ∀ u : Int, (u = 99991 ∨ u = 1) → IntMulOk (r - 4) u ∧ gs.length < sizeLine ∧ ∃ gs', dI gs ++ [.int ((r - 4) * u)] = dI gs' ∧ gs'.length = i + 1 ∧ (∀ g ∈ gs', g.natAbs ≤ 400000) ∧ Ml (b + (i + 1)) M4 := by
      intro u hu
      refine ⟨CMul.ok (.inl (by omega)), hs, gs ++ [(r - 4) * u], by rw [dI_app]; rfl, by simp [hgl], ?_, hM4⟩
      intro g hg'
      rcases List.mem_append.mp hg' with hg' | hg'
      · exact hg g hg'
      · simp at hg'
        subst hg'
        rcases hu with rfl | rfl <;> omega
    by_cases e : r2 = 1
    · simpa [e] using fin 99991 (.inl rfl)
    · simpa [e] using fin 1 (.inr rfl)
  · have hl' := hM'.len
    simp only [hl']
    exact gains_3 hM' (by omega) (by omega) n1 n2 hg fun ns M'' h1 h2 => q ns M'' h1 (h2.mono (by omega))
theorem v__law_gains (ds : List D) (M : MS) (k : KD) (x : XD) (h : sp__law_gains ds M k x) : t__law_gains (enD M.length k) (fun e _ M' => x e (M'.take M.length)) (startD ["mill", "days", "kind", "gains", "at", "i"] ds) M := by
  obtain ⟨b, rfl, hM, hb, q⟩ := h
  have hl := hM.len
  rw [hl]
  simp [t__law_gains_e0, startD]
  rw [show M = M ++ [] by simp]
  refine g_grind hM (by omega) (by omega) (by omega) fun r1 M1 a1 a2 hM1 => ?_
  simp
  rw [show M1 = M1 ++ [] by simp]
  refine g_grind hM1 (by omega) (by omega) (by omega) fun r2 M2 b1 b2 hM2 => ?_
  have two : (2 : Nat) ≤ sizeLine := by decide
  simp [two, and_assoc, t__law_gains_e1]
  rw [show M2 = M2 ++ [] by simp]
  refine g_grind hM2 (by omega) (by omega) (by omega) fun r3 M3 c1 c2 hM3 => ?_
  simp [-Bool.exists_bool]
  have tail : ∀ n : Int, 1 ≤ n → n ≤ 48 → _ := fun n n1 n2 => gains_2 (x := x) (r2 := r2) hM3 (by omega) n1 n2 fun ns M' h1 h2 => q ns M' h1 (h2.mono (by omega))
  by_cases e : r3 = 0
  · simpa [e] using tail 48 (by omega) (by omega)
  · simpa [e] using tail (1 + r1) (by omega) (by omega)
end K72
set_option Elab.async false
set_option linter.all false
set_option maxRecDepth 100000
set_option maxHeartbeats 1000000
set_option autoImplicit false
/-! K72l: the sums are right. -/
namespace K72
open PySem PySem.Spec PyProof.Rows L2 Dl
variable [Tb]
theorem sum_pos : ∀ {ss : List Int}, 0 < ss.length → (∀ s ∈ ss, 0 < s) → 0 < ss.sum
  | [s], _, h => by have := h s (by simp); simpa using this
  | s :: t :: r, _, h => by
    have h1 := sum_pos (ss := t :: r) (by simp) fun y hy => h y (List.mem_cons_of_mem _ hy)
    have h2 := h s (by simp)
    rw [List.sum_cons]
    omega
theorem sum_neg : ∀ {ss : List Int}, 0 < ss.length → (∀ s ∈ ss, s < 0) → ss.sum < 0
  | [s], _, h => by have := h s (by simp); simpa using this
  | s :: t :: r, _, h => by
    have h1 := sum_neg (ss := t :: r) (by simp) fun y hy => h y (List.mem_cons_of_mem _ hy)
    have h2 := h s (by simp)
    rw [List.sum_cons]
    omega
theorem sum_nil : ∀ {ss : List Int}, (∀ s ∈ ss, s = 0) → ss.sum = 0
  | [], _ => rfl
  | s :: r, h => by
    have h1 := sum_nil (ss := r) fun y hy => h y (List.mem_cons_of_mem _ hy)
    have h2 := h s (by simp)
    rw [List.sum_cons]
    omega
theorem word_cases {ss : List Int} (h : 0 < ss.length) : (word ss = "gains" ∧ 0 < ss.sum) ∨ (word ss = "loses" ∧ ss.sum < 0) ∨ (word ss = "flat" ∧ ss.sum = 0) ∨ word ss = "mixed" := by
  unfold word
  cases h1 : ss.all (fun s => decide (0 < s)) with
  | true => exact .inl ⟨rfl, sum_pos h fun s hs => of_decide_eq_true (List.all_eq_true.mp h1 s hs)⟩
  | false =>
    cases h2 : ss.all (fun s => decide (s < 0)) with
    | true => exact .inr (.inl ⟨rfl, sum_neg h fun s hs => of_decide_eq_true (List.all_eq_true.mp h2 s hs)⟩)
    | false =>
      cases h3 : ss.all (fun s => decide (s = 0)) with
      | true => exact .inr (.inr (.inl ⟨rfl, sum_nil fun s hs => of_decide_eq_true (List.all_eq_true.mp h3 s hs)⟩))
      | false => exact .inr (.inr (.inr rfl))
theorem word_round {ns : List Int} (h : Ln ns) {l : Int} (hl : 1 ≤ l) : (word (sumsR ns l) = "gains" ∧ 0 < ns.sum) ∨ (word (sumsR ns l) = "loses" ∧ ns.sum < 0) ∨ (word (sumsR ns l) = "flat" ∧ ns.sum = 0) ∨ word (sumsR ns l) = "mixed" := by
  have e := sumsR_sum ns h.1 l.toNat
  have el : ((l.toNat : Nat) : Int) = l := by omega
  rw [el] at e
  have := word_cases (ss := sumsR ns l) (by rw [sumsR_len]; exact h.1)
  rw [e] at this
  rcases this with ⟨w, s⟩ | ⟨w, s⟩ | ⟨w, s⟩ | w
  · exact .inl ⟨w, Int.pos_of_mul_pos_right (a := l) s (by omega) |> fun h => h⟩
  · refine .inr (.inl ⟨w, ?_⟩)
    rcases Int.lt_or_le ns.sum 0 with h0 | h0
    · exact h0
    · have := Int.mul_nonneg (show 0 ≤ l by omega) h0
      omega
  · refine .inr (.inr (.inl ⟨w, ?_⟩))
    rcases Int.mul_eq_zero.mp s with h0 | h0
    · omega
    · exact h0
  · exact .inr (.inr (.inr w))
theorem fld_tot (ns : List Int) (B : D → Prop) : fldB "total" (roundD ns) B = B (.int ns.sum) := by simp +decide [roundD, rdK, rdX, lookD]
theorem fld_gains (ns : List Int) (B : D → Prop) : fldB "gains" (roundD ns) B = B (.tup (dI ns)) := by simp +decide [roundD, rdK, rdX, lookD]
theorem fld_days (ns : List Int) (B : D → Prop) : fldB "days" (roundD ns) B = B (.int ns.length) := by simp +decide [roundD, rdK, rdX, lookD]
theorem view_rd (M : MS) (ns : List Int) : view M (roundD ns) = roundD ns := rfl
theorem sizeLine_big : (10000 : Nat) < sizeLine := by decide
theorem sums_8 {E : EnD} {R : XR} {M : MS} {ns : List Int} {l : Int} {o0 o2 o3 o4 o5 o6 o7 o9 : Option D} (h : Ln ns) (hl : 1 ≤ l) (q : E.nx [o0, some (roundD ns), o2, o3, o4, o5, o6, o7, some (.str (word (sumsR ns l))), o9] M) :
    t__law_sums_right_1b_8 E R [o0, some (roundD ns), o2, o3, o4, o5, o6, o7, some (.str (word (sumsR ns l))), o9] M := by
  have two : (2 : Nat) ≤ sizeLine := by have := sizeLine_big; omega
  simp [t__law_sums_right_1b_e8, view_rd, fld_tot, two, -Bool.exists_bool]
  by_cases h0 : ns.sum < 0
  · rcases word_round h hl with ⟨w, s⟩ | ⟨w, s⟩ | ⟨w, s⟩ | w
    · omega
    · rw [w] at q ⊢
      simpa +decide [h0, inB, flatD, eqF] using q
    · omega
    · rw [w] at q ⊢
      simpa +decide [h0, inB, flatD, eqF] using q
  · simpa [h0] using q
theorem sums_7 {E : EnD} {R : XR} {M : MS} {ns : List Int} {l : Int} {o0 o2 o3 o4 o5 o6 o7 o9 : Option D} (h : Ln ns) (hl : 1 ≤ l) (q : E.nx [o0, some (roundD ns), o2, o3, o4, o5, o6, o7, some (.str (word (sumsR ns l))), o9] M) :
    t__law_sums_right_1b_7 E R [o0, some (roundD ns), o2, o3, o4, o5, o6, o7, some (.str (word (sumsR ns l))), o9] M := by
  have two : (2 : Nat) ≤ sizeLine := by have := sizeLine_big; omega
  have q8 := sums_8 (R := R) h hl q
  rcases word_round h hl with ⟨w, s⟩ | ⟨w, s⟩ | ⟨w, s⟩ | w
  · rw [w] at q8 ⊢
    have h0 : ¬ ns.sum = 0 := by omega
    simpa +decide [t__law_sums_right_1b_e7, view_rd, fld_tot, two, h0, s, inB, flatD, eqF, -Bool.exists_bool] using q8
  · rw [w] at q8 ⊢
    have h0 : ¬ ns.sum = 0 := by omega
    have h1 : ¬ 0 < ns.sum := by omega
    simpa +decide [t__law_sums_right_1b_e7, view_rd, fld_tot, two, h0, h1, inB, flatD, eqF, -Bool.exists_bool] using q8
  · rw [w] at q8 ⊢
    have h1 : ¬ 0 < ns.sum := by omega
    simpa +decide [t__law_sums_right_1b_e7, view_rd, fld_tot, two, s, h1, inB, flatD, eqF, -Bool.exists_bool] using q8
  · rw [w] at q8 ⊢
    by_cases h0 : ns.sum = 0 <;> by_cases h1 : 0 < ns.sum <;> simpa +decide [t__law_sums_right_1b_e7, view_rd, fld_tot, two, h0, h1, inB, flatD, eqF, -Bool.exists_bool] using q8
theorem neB_str_same (z : Str) (hz : PyData.strOk z = true) (k : D → Prop) : neB (.str z) (.str z) k = k (.bl false) := by
  have e : PyData.eqv (.str z) (.str z) = true := by simp [PyData.eqv]
  have e2 : SeqAt.shaped (.str z) = true := by simp [SeqAt.shaped, PyData.canLay0, PyData.depth, hz]
  simp [neB, toPy, e, e2]
theorem word_four (ss : List Int) : word ss = "gains" ∨ word ss = "loses" ∨ word ss = "flat" ∨ word ss = "mixed" := by
  unfold word
  split
  · exact .inl rfl
  · split
    · exact .inr (.inl rfl)
    · split
      · exact .inr (.inr (.inl rfl))
      · exact .inr (.inr (.inr rfl))
theorem word_ok (ss : List Int) : PyData.strOk (word ss) = true := by
  rcases word_four ss with w | w | w | w <;> rw [w] <;> decide +kernel
theorem sums_6 {E : EnD} {R : XR} {M : MS} {ns : List Int} {l : Int} {o0 o2 o4 o6 o9 : Option D} (h : Sm ns) (hl : 1 ≤ l) (q : E.nx [o0, some (roundD ns), o2, some (.int ns.length), o4, some (.int l), o6, some (.lst (dI (sumsR ns l))), some (.str (word (sumsR ns l))), o9] M) :
    t__law_sums_right_1b_6 E R [o0, some (roundD ns), o2, some (.int ns.length), o4, some (.int l), o6, some (.lst (dI (sumsR ns l))), some (.str (word (sumsR ns l))), o9] M := by
  have four : (4 : Nat) ≤ sizeLine := by have := sizeLine_big; omega
  have q7 := sums_7 (R := R) h.1 hl q
  simp only [t__law_sums_right_1b_e6, sCons_ap, sIf_ap, dOr_ap, dTst_ap, dBin_ap, dVar_ap, dCall_ap, dCons_ap, dNil_ap]
  refine ⟨_, rfl, _, rfl, rfl, rfl, ?_⟩
  refine c__law_word (by rw [sumsR_len]; exact h.1.2) ?_
  simp only [adF_ap, adopt_str, view_str, neB_str_same _ (word_ok _)]
  refine ⟨false, rfl, ?_⟩
  simp [view_rd, four, -Bool.exists_bool]
  refine ⟨⟨rdK, ⟨_, rfl⟩, by decide⟩, ?_⟩
  refine c_Round_sort_of h rfl (fun l' e h1 => ?_) (fun e => ?_)
  · cases e
    simp [four, -Bool.exists_bool]
    rcases word_four (sumsR ns (l + ns.length)) with w | w | w | w <;> rw [w] <;> simpa +decide [inB, flatD, eqF] using q7
  · have : 1 ≤ l + ns.length := by have := h.1.1; omega
    simp [within] at e
    omega
theorem sums_5 {E : EnD} {R : XR} {M : MS} {ns : List Int} {l : Int} {o0 o2 o4 o6 o8 o9 : Option D} (h : Sm ns) (hl : 1 ≤ l) (q : ∀ o8, E.nx [o0, some (roundD ns), o2, some (.int ns.length), o4, some (.int l), o6, some (.lst (dI (sumsR ns l))), o8, o9] M) :
    t__law_sums_right_1b_5 E R [o0, some (roundD ns), o2, some (.int ns.length), o4, some (.int l), o6, some (.lst (dI (sumsR ns l))), o8, o9] M := by
  simp [t__law_sums_right_1b_e5, view_rd]
  refine ⟨⟨rdK, ⟨_, rfl⟩, by decide⟩, ?_⟩
  refine c_Round_sort_of h rfl (fun l' e h1 => ?_) (fun e => ?_)
  · cases e
    exact sums_6 h hl (q _)
  · simp [within] at e
    omega
theorem sums_4 {E : EnD} {R : XR} {M : MS} {ns : List Int} {l : Int} {o0 o2 o4 o6 o8 o9 : Option D} (h : Sm ns) (hl : 1 ≤ l) (q : ∀ o8, E.nx [o0, some (roundD ns), o2, some (.int ns.length), o4, some (.int l), o6, some (.lst (dI (sumsR ns l))), o8, o9] M) :
    t__law_sums_right_1b_4 E R [o0, some (roundD ns), o2, some (.int ns.length), o4, some (.int l), o6, some (.lst (dI (sumsR ns l))), o8, o9] M := by
  have q5 := sums_5 (R := R) (o8 := o8) h hl q
  simp only [t__law_sums_right_1b_e4, sCons_ap, sIf_ap, dOr_ap, dTst_ap, dBin_ap]
  refine lcR (j := ns.length) (fun k' h => by simpa using h) (by have := h.1.2; omega) (by omega) (fun b : Nat => .int (S ns b l)) (fun _ => rfl) ?_ ?_
  · intro i hi acc k' h'
    simp [view_rd]
    refine ⟨⟨rdK, ⟨_, rfl⟩, by decide⟩, ?_⟩
    refine c_Round_sum_of h rfl rfl (fun e => by cases e) (fun _ e => ?_) (fun b l' e1 e2 _ => ?_)
    · simp [within] at e
      omega
    · cases e1
      cases e2
      exact h'
  · have e : (List.range ((ns.length : Int)).toNat).map (fun b : Nat => D.int (S ns b l)) = dI (sumsR ns l) := by simp [dI, sumsR]
    rw [e]
    simp [view_rd, fld_tot, -Bool.exists_bool]
    refine sumX_lst _ ?_
    have e := sumsR_sum ns h.1.1 l.toNat
    have el : ((l.toNat : Nat) : Int) = l := by omega
    rw [el] at e
    simp only [view_int, mulB_ap]
    refine ⟨h.mul _, ?_⟩
    simpa [e] using q5
theorem sums_3 {E : EnD} {R : XR} {M : MS} {ns : List Int} {l b : Int} {o0 o4 o8 o9 : Option D} (h : Sm ns) (hl : 1 ≤ l) (q : ∀ o8, E.nx [o0, some (roundD ns), some (.lst (dI ns)), some (.int ns.length), o4, some (.int l), some (.int b), some (.lst (dI (sumsR ns l))), o8, o9] M) :
    t__law_sums_right_1b_3 E R [o0, some (roundD ns), some (.lst (dI ns)), some (.int ns.length), o4, some (.int l), some (.int b), some (.lst (dI (sumsR ns l))), o8, o9] M := by
  have q4 := sums_4 (R := R) (o8 := o8) h hl q
  simp [t__law_sums_right_1b_e3, view_rd, -Bool.exists_bool]
  refine ⟨⟨rdK, ⟨_, rfl⟩, by decide⟩, ?_⟩
  refine c_Round_sum_of h rfl rfl (fun e => by cases e) (fun _ e => ?_) (fun b' l' e1 e2 _ => ?_)
  · simp [within] at e
    omega
  · cases e1
    cases e2
    simp [view_rd, -Bool.exists_bool]
    refine c__law_sum h ?_
    simp [view_rd, -Bool.exists_bool]
    refine ⟨⟨rdK, ⟨_, rfl⟩, by decide⟩, ?_⟩
    refine c_Round_sum_of h rfl rfl (fun e => by cases e) (fun _ e => ?_) (fun b' l' e1 e2 _ => ?_)
    · simp [within] at e
      omega
    · cases e1
      cases e2
      simp [view_rd, -Bool.exists_bool]
      refine c__law_sum h ?_
      simpa [S_wrap ns h.1.1] using q4
theorem sums_2 {E : EnD} {R : XR} {M : MS} {ns : List Int} {l b : Int} {o0 o4 o7 o8 o9 : Option D} (h : Sm ns) (hl : 1 ≤ l) (q : ∀ o7 o8, E.nx [o0, some (roundD ns), some (.lst (dI ns)), some (.int ns.length), o4, some (.int l), some (.int b), o7, o8, o9] M) :
    t__law_sums_right_1b_2 E R [o0, some (roundD ns), some (.lst (dI ns)), some (.int ns.length), o4, some (.int l), some (.int b), o7, o8, o9] M := by
  simp only [t__law_sums_right_1b_e2, sCons_ap, sSet_ap]
  refine lcR (j := ns.length) (fun k' h => by simpa using h) (by have := h.1.2; omega) (by omega) (fun b : Nat => .int (S ns b l)) (fun _ => rfl) ?_ ?_
  · intro i hi acc k' h'
    simp
    exact c__law_sum h h'
  · have e : (List.range ((ns.length : Int)).toNat).map (fun b : Nat => D.int (S ns b l)) = dI (sumsR ns l) := by simp [dI, sumsR]
    rw [e]
    exact sums_3 h hl (q _)
end K72
set_option Elab.async false
set_option linter.all false
set_option maxRecDepth 100000
set_option maxHeartbeats 1000000
set_option autoImplicit false
/-! K72n: the sums are right, over all turns. -/
namespace K72
open PySem PySem.Spec PyProof.Rows L2 Dl
variable [Tb]
theorem sums_1 {b : Nat} {E : EnD} {R : XR} {M : MS} {ns : List Int} {l : Int} {o4 o6 o7 o8 o9 : Option D} (hM : Ml b M) (hb : b ≤ 9990) (h : Sm ns) (hl : 1 ≤ l) (q : ∀ M' o6 o7 o8, Ml (b + 2) M' → E.nx [some (.cell 0), some (roundD ns), some (.lst (dI ns)), some (.int ns.length), o4, some (.int l), o6, o7, o8, o9] M') :
    t__law_sums_right_1b_1 E R [some (.cell 0), some (roundD ns), some (.lst (dI ns)), some (.int ns.length), o4, some (.int l), o6, o7, o8, o9] M := by
  simp [t__law_sums_right_1b_e1]
  rw [show M = M ++ [] by simp]
  refine g_grind hM (by omega) (by omega) (by omega) fun r1 M1 a1 a2 hM1 => ?_
  have three : (3 : Nat) ≤ sizeLine := by have := sizeLine_big; omega
  have c0 : CPow 10 15 := ⟨by omega, by omega, by decide⟩
  simp [three, c0]
  rw [show M1 = M1 ++ [] by simp]
  refine g_pick hM1 (by omega) (by simp) (by simp) (by simp) fun d M2 hd hM2 => ?_
  have hu : ∃ u : Int, d = .int u := by
    simp at hd
    rcases hd with rfl | rfl <;> exact ⟨_, rfl⟩
  obtain ⟨u, rfl⟩ := hu
  simp
  refine ⟨CMul.ok (.inl (by omega)), ?_⟩
  exact sums_2 h hl fun o7 o8 => q _ _ _ _ hM2
theorem sums_0 {b : Nat} {E : EnD} {R : XR} {M : MS} {ns : List Int} {o4 o5 o6 o7 o8 o9 : Option D} (hM : Ml b M) (hb : b ≤ 9980) (h : Sm ns) (q : ∀ M' o5 o6 o7 o8, Ml (b + 4) M' → E.nx [some (.cell 0), some (roundD ns), some (.lst (dI ns)), some (.int ns.length), o4, o5, o6, o7, o8, o9] M') :
    t__law_sums_right_1b E R [some (.cell 0), some (roundD ns), some (.lst (dI ns)), some (.int ns.length), o4, o5, o6, o7, o8, o9] M := by
  have four : (4 : Nat) ≤ sizeLine := by have := sizeLine_big; omega
  have c0 : CPow 10 6 := ⟨by omega, by omega, by decide⟩
  have c1 : CPow 10 20 := ⟨by omega, by omega, by decide⟩
  have m : IntMulOk 2 ns.length := CMul.ok (.inl (by omega))
  have h1 := h.1.1
  have h2 := h.1.2
  simp [t__law_sums_right_1b_e0, four, c0, c1, m]
  rw [show M = M ++ [] by simp]
  refine g_pick hM (by omega) (by simp) (by simp) (by simp) fun d M1 hd hM1 => ?_
  have hu : ∃ u : Int, d = .int u ∧ 0 < u ∧ u < 2 ^ 80 := by
    simp at hd
    rcases hd with rfl | rfl | rfl | rfl
    · exact ⟨_, rfl, by omega, by omega⟩
    · exact ⟨_, rfl, by omega, by omega⟩
    · exact ⟨_, rfl, by omega, by omega⟩
    · exact ⟨_, rfl, by omega, by omega⟩
  obtain ⟨u, rfl, u0, u1⟩ := hu
  simp
  rw [show M1 = M1 ++ [] by simp]
  refine g_grind hM1 (by omega) u0 u1 fun r M2 a1 a2 hM2 => ?_
  simp
  exact sums_1 hM2 (by omega) h (by omega) fun M' o6 o7 o8 hM' => q M' _ _ _ _ hM'
theorem v__law_sums_right (ds : List D) (M : MS) (k : KD) (x : XD) (h : sp__law_sums_right ds M k x) : t__law_sums_right (enD M.length k) (fun e _ M' => x e (M'.take M.length)) (startD ["a", "b", "c", "d", "e", "f", "g", "h", "i", "j"] ds) M := by
  obtain ⟨b, ns, rfl, hs, hM, hb, q⟩ := h
  have hl := hM.len
  rw [hl]
  simp [t__law_sums_right_e0, startD]
  simp only [t__law_sums_right_e1, sCons_ap, sFor, iR1, dCons_ap, dNil_ap, dC_ap]
  refine ⟨_, rfl, by omega, by omega, fun i ρ M' => Ml (b + 4 * i) M' ∧ ∃ o4 o5 o6 o7 o8 o9, ρ = [some (.cell 0), some (roundD ns), some (.lst (dI ns)), some (.int ns.length), o4, o5, o6, o7, o8, o9], ⟨hM, _, _, _, _, _, _, rfl⟩, ?_⟩
  rintro i ρ M' ⟨hM', o4, o5, o6, o7, o8, o9, rfl⟩ hi
  refine ⟨trivial, fun hlt => ?_, fun e => ?_⟩
  · simp
    have : i < 4 := hlt
    exact sums_0 hM' (by omega) hs fun M'' o5 o6 o7 o8 h => ⟨h.mono (by omega), _, _, _, _, _, _, rfl⟩
  · have e4 : i = 4 := e
    subst e4
    simp [t__law_sums_right_e2]
    have := tk1 (R := []) hM'
    rw [List.append_nil] at this
    rw [this]
    exact q _ (hM'.mono (by omega))
end K72
set_option Elab.async false
set_option linter.all false
set_option maxRecDepth 100000
set_option maxHeartbeats 1000000
set_option autoImplicit false
/-! K72x: rounds turned and doubled go round the same sums. -/
namespace K72
open PySem PySem.Spec PyProof.Rows L2 Dl
variable [Tb]
theorem rowL_at (ns : List Int) (b : Int) (m : Nat) {z : Int} (h0 : 0 ≤ z) (h1 : z < m) : (rowL ns b m).getD z.toNat 0 = ns.getD ((b + z) % ns.length).toNat 0 := by
  rw [rowL_get ns b m z.toNat (by omega)]
  congr 3
  omega
theorem mod_in (b z : Int) (n : Nat) : (b + z % n) % (n : Int) = (b + z) % n := by
  rw [Int.add_emod, Int.emod_emod_of_dvd _ (Int.dvd_refl _), ← Int.add_emod]
theorem S_turned (ns : List Int) (h : 0 < ns.length) (b c : Int) : ∀ l : Nat, S (rowL ns b ns.length) c l = S ns (b + c) l
  | 0 => by rw [show ((0 : Nat) : Int) = 0 by rfl, S_zero, S_zero]
  | l + 1 => by
    have h' : 0 < (rowL ns b ns.length).length := by rw [rowL_len]; exact h
    have m := mod_lt (p := c + l) h
    push_cast
    rw [S_succ _ h', S_succ ns h, S_turned ns h b c l, rowL_len, rowL_at ns b _ m.1 m.2, mod_in, Int.add_assoc b c]
theorem S_twice (ns : List Int) (h : 0 < ns.length) (c : Int) : ∀ l : Nat, S (ns ++ ns) c l = S ns c l
  | 0 => by rw [show ((0 : Nat) : Int) = 0 by rfl, S_zero, S_zero]
  | l + 1 => by
    have hl : (ns ++ ns).length = ns.length + ns.length := by simp
    have h' : 0 < (ns ++ ns).length := by omega
    push_cast
    rw [S_succ _ h', S_succ ns h, S_twice ns h c l]
    congr 1
    have m := mod_lt (p := c + l) h'
    have e : (c + l) % (ns.length : Int) = ((c + l) % ((ns ++ ns).length : Int)) % ns.length := by
      rw [Int.emod_emod_of_dvd]
      rw [hl]
      exact ⟨2, by push_cast; omega⟩
    rw [e]
    generalize (c + (l : Int)) % ((ns ++ ns).length : Int) = r at m
    by_cases hr : r < ns.length
    · rw [Int.emod_eq_of_lt m.1 hr]
      simp only [List.getD]
      rw [List.getElem?_append_left (by omega)]
    · have e2 : r % (ns.length : Int) = r - ns.length := by
        rw [← Int.sub_emod_right, Int.emod_eq_of_lt (by omega) (by omega)]
      rw [e2]
      simp only [List.getD]
      rw [List.getElem?_append_right (by omega)]
      congr 2
      omega
theorem all_range {n m : Nat} {p q : Nat → Bool} (h1 : ∀ i, i < n → ∃ j, j < m ∧ q j = p i) (h2 : ∀ j, j < m → ∃ i, i < n ∧ p i = q j) : (List.range n).all p = (List.range m).all q := by
  cases e : (List.range m).all q with
  | true =>
    rw [List.all_eq_true] at e ⊢
    intro i hi
    obtain ⟨j, hj, ej⟩ := h1 i (List.mem_range.mp hi)
    rw [← ej]
    exact e j (List.mem_range.mpr hj)
  | false =>
    rw [List.all_eq_false] at e ⊢
    obtain ⟨j, hj, ej⟩ := e
    obtain ⟨i, hi, ei⟩ := h2 j (List.mem_range.mp hj)
    exact ⟨i, List.mem_range.mpr hi, by rw [ei]; exact ej⟩
theorem sumsR_all (ns : List Int) (l : Int) (p : Int → Bool) : (sumsR ns l).all p = (List.range ns.length).all fun b : Nat => p (S ns b l) := by
  unfold sumsR
  rw [List.all_map]
  rfl
theorem all_turned (ns : List Int) (h : 0 < ns.length) (b : Int) (l : Nat) (p : Int → Bool) : (sumsR (rowL ns b ns.length) l).all p = (sumsR ns l).all p := by
  rw [sumsR_all, sumsR_all, rowL_len]
  refine all_range (fun i hi => ?_) (fun j hj => ?_)
  · have m := mod_lt (p := b + i) h
    refine ⟨((b + i) % ns.length).toNat, by omega, ?_⟩
    rw [S_turned ns h, show ((((b + i) % (ns.length : Int)).toNat : Nat) : Int) = (b + i) % ns.length by omega, S_mod ns h]
  · have m := mod_lt (p := (j : Int) - b) h
    refine ⟨(((j : Int) - b) % ns.length).toNat, by omega, ?_⟩
    rw [S_turned ns h, show (((((j : Int) - b) % (ns.length : Int)).toNat : Nat) : Int) = ((j : Int) - b) % ns.length by omega]
    rw [← S_mod ns h (b + _), mod_in, S_mod ns h]
    congr 2
    omega
theorem all_twice (ns : List Int) (h : 0 < ns.length) (l : Nat) (p : Int → Bool) : (sumsR (ns ++ ns) l).all p = (sumsR ns l).all p := by
  rw [sumsR_all, sumsR_all]
  refine all_range (fun i hi => ?_) (fun j hj => ?_)
  · have m := mod_lt (p := i) h
    refine ⟨((i : Int) % ns.length).toNat, by omega, ?_⟩
    rw [S_twice ns h, show ((((i : Int) % (ns.length : Int)).toNat : Nat) : Int) = (i : Int) % ns.length by omega, S_mod ns h]
  · refine ⟨j, by simp; omega, ?_⟩
    rw [S_twice ns h]
theorem word_of_all {ss ts : List Int} (h : ∀ p : Int → Bool, ss.all p = ts.all p) : word ss = word ts := by
  unfold word
  rw [h, h, h]
theorem rowL_back (ns : List Int) (h : 0 < ns.length) (b : Int) : rowL (rowL ns b ns.length) (-b) ns.length = ns := by
  refine List.ext_getElem (by rw [rowL_len]) fun i h1 h2 => ?_
  have e : (rowL (rowL ns b ns.length) (-b) ns.length).getD i 0 = ns.getD i 0 := by
    have m := mod_lt (p := -b + i) h
    rw [rowL_get _ _ _ _ h2, rowL_len, rowL_at ns b _ m.1 m.2, mod_in]
    rw [show b + (-b + (i : Int)) = i by omega, Int.emod_eq_of_lt (by omega) (by omega)]
    simp
  simpa [List.getD, List.getElem?_eq_getElem h1, List.getElem?_eq_getElem h2] using e
theorem rowL_sum (ns : List Int) (h : 0 < ns.length) (b : Int) : (rowL ns b ns.length).sum = ns.sum := by
  rw [← S_rowL ns h, S_round ns h]
theorem rowL_sm {ns : List Int} (h : Sm ns) (b : Int) (m : Nat) (h1 : 0 < m) (h2 : m ≤ 48) : Sm (rowL ns b m) := by
  refine ⟨⟨by rw [rowL_len]; exact h1, by rw [rowL_len]; exact h2⟩, fun g hg => ?_⟩
  obtain ⟨i, _, rfl⟩ := List.mem_map.mp hg
  have mm := mod_lt (p := b + i) h.1.1
  have hi : ((b + i) % (ns.length : Int)).toNat < ns.length := by omega
  show (ns.getD _ 0).natAbs ≤ _
  rw [List.getD, List.getElem?_eq_getElem hi]
  exact h.2 _ (List.getElem_mem hi)
theorem twice_sm {ns : List Int} (h : Sm ns) (h2 : 2 * ns.length ≤ 48) : Sm (ns ++ ns) := by
  refine ⟨⟨by have := h.1.1; simp; omega, by simp; omega⟩, fun g hg => ?_⟩
  rcases List.mem_append.mp hg with hg | hg <;> exact h.2 g hg
end K72
set_option Elab.async false
set_option linter.all false
set_option maxRecDepth 100000
set_option maxHeartbeats 1000000
set_option autoImplicit false
/-! K72o: turned, doubled, cut to rows: right. -/
namespace K72
open PySem PySem.Spec PyProof.Rows L2 Dl
variable [Tb]
theorem sort_no {l : Int} (h : 1 ≤ l) : within (.int l) (.int 1) .non ≠ false := by simp [within, h]
theorem oth_10 {E : EnD} {R : XR} {M : MS} {ns : List Int} {o0 o2 o4 o5 o6 o7 o8 o9 o10 : Option D} (h : Sm ns) (q : E.rt (.bl true) M) : t__law_other_right_10 E R [o0, some (roundD ns), o2, some (.int ns.length), o4, o5, o6, o7, o8, o9, o10] M := by
  have h1 := h.1.1
  have h2 := h.1.2
  simp [t__law_other_right_e10, view_rd]
  refine ⟨⟨rdK, ⟨_, rfl⟩, by decide⟩, ?_⟩
  refine c_Round_row h.1 rfl rfl (fun e => by cases e) (fun _ e => ?_) (fun b m e1 e2 l1 l2 => ?_)
  · rw [within_in (by omega) (by omega)] at e
    cases e
  · cases e1
    cases e2
    have f : ∀ B : D → Prop, fldB "total" (rowD (rowL ns 0 ns.length)) B = B (.int (rowL ns 0 ns.length).sum) := fun B => by simp +decide [rowD, rwK, rwX, lookD]
    have hv : ∀ M : MS, view M (rowD (rowL ns 0 ns.length)) = rowD (rowL ns 0 ns.length) := fun _ => rfl
    have ha : adopt (rowD (rowL ns 0 ns.length)) = rowD (rowL ns 0 ns.length) := rfl
    simp [ha, hv, f, view_rd, fld_tot, rowL_sum ns h1]
    exact q
theorem oth_9 {E : EnD} {R : XR} {M : MS} {ns : List Int} {b m : Int} {o0 o5 o6 o7 o10 : Option D} (h : Sm ns) (m1 : 1 ≤ m) (m2 : m ≤ 48) (hisa : Tb.isa = isa) (q : E.rt (.bl true) M) : t__law_other_right_9 E R [o0, some (roundD ns), some (.lst (dI ns)), some (.int ns.length), some (.int b), o5, o6, o7, some (.int m), some (rowD (rowL ns b m.toNat)), o10] M := by
  have h1 := h.1.1
  have h2 := h.1.2
  have f : ∀ B : D → Prop, fldB "gains" (rowD (rowL ns b m.toNat)) B = B (.tup (dI (rowL ns b m.toNat))) := fun B => by simp +decide [rowD, rwK, rwX, lookD]
  have hv : ∀ M : MS, view M (rowD (rowL ns b m.toNat)) = rowD (rowL ns b m.toNat) := fun _ => rfl
  have ho : okT owns excs (rowD (rowL ns b m.toNat)) = true := rfl
  have ht : tag (rowD (rowL ns b m.toNat)) = some (.c "Row") := rfl
  simp only [t__law_other_right_e9, sCons_ap, sIf_ap, dOr_ap, dNot_ap, dTru_ap, dIs_ap, dVar_ap]
  refine ⟨_, rfl, by rw [hv]; exact ho, _, by rw [hv]; exact ht, true, by rw [hisa]; rfl, ?_⟩
  simp only [Bool.not_true, Bool.false_eq_true, if_false, dTst_ap, dBin_ap, dUn_ap, dVar_ap, dCB_ap, dCons_ap, dNil_ap]
  refine ⟨_, rfl, ?_⟩
  rw [hv, f]
  refine lcR (j := m) (fun k' h => by simpa using h) (by omega) (by omega) (fun i : Nat => .int (ns.getD ((b + i) % ns.length).toNat 0)) (fun _ => rfl) ?_ ?_
  · intro i hi acc k' h
    have hm := mod_lt (p := b + i) h1
    simp +decide [h1, atI_dI ns hm.1 hm.2]
    simpa using h
  · rw [dI_map_range]
    simp
    have e : rowL ns b m.toNat = (List.range m.toNat).map fun i : Nat => ns.getD ((b + i) % ns.length).toNat 0 := rfl
    simp [e]
    exact oth_10 h q
theorem oth_8 {E : EnD} {R : XR} {M : MS} {ns : List Int} {b m : Int} {o0 o5 o6 o7 o9 o10 : Option D} (h : Sm ns) (m1 : 1 ≤ m) (m2 : m ≤ 48) (hisa : Tb.isa = isa) (q : E.rt (.bl true) M) : t__law_other_right_8 E R [o0, some (roundD ns), some (.lst (dI ns)), some (.int ns.length), some (.int b), o5, o6, o7, some (.int m), o9, o10] M := by
  simp [t__law_other_right_e8, view_rd]
  refine ⟨⟨rdK, ⟨_, rfl⟩, by decide⟩, ?_⟩
  refine c_Round_row h.1 rfl rfl (fun e => by cases e) (fun _ e => ?_) (fun b' m' e1 e2 l1 l2 => ?_)
  · rw [within_in m1 m2] at e
    cases e
  · cases e1
    cases e2
    exact oth_9 h m1 m2 hisa q
theorem oth_7 {t : Nat} {E : EnD} {R : XR} {M : MS} {ns : List Int} {b : Int} {o5 o6 o7 o8 o9 o10 : Option D} (h : Sm ns) (hM : Ml t M) (ht : t ≤ 9990) (hisa : Tb.isa = isa) (q : ∀ M', Ml (t + 1) M' → E.rt (.bl true) M') : t__law_other_right_7 E R [some (.cell 0), some (roundD ns), some (.lst (dI ns)), some (.int ns.length), some (.int b), o5, o6, o7, o8, o9, o10] M := by
  simp [t__law_other_right_e7]
  rw [show M = M ++ [] by simp]
  refine g_grind hM (by omega) (by omega) (by omega) fun r M1 a1 a2 hM1 => ?_
  simp
  exact oth_8 h (by omega) (by omega) hisa (q _ hM1)
theorem word_turned {ns : List Int} (h : 0 < ns.length) (b : Int) {l : Int} (hl : 1 ≤ l) : word (sumsR (rowL ns b ns.length) l) = word (sumsR ns l) := word_of_all fun p => by
  have := all_turned ns h b l.toNat p
  rwa [show ((l.toNat : Nat) : Int) = l by omega] at this
theorem word_twice {ns : List Int} (h : 0 < ns.length) {l : Int} (hl : 1 ≤ l) : word (sumsR (ns ++ ns) l) = word (sumsR ns l) := word_of_all fun p => by
  have := all_twice ns h l.toNat p
  rwa [show ((l.toNat : Nat) : Int) = l by omega] at this
theorem adopt_rd (ns : List Int) : adopt (roundD ns) = roundD ns := rfl
theorem oth_6b2 {E : EnD} {R : XR} {M : MS} {ns : List Int} {l : Int} {o0 o2 o3 o4 o5 o8 o9 o10 : Option D} (h : Sm ns) (h2 : 2 * ns.length ≤ 48) (hl : 1 ≤ l) (q : E.nx [o0, some (roundD ns), o2, o3, o4, o5, some (.int l), some (roundD (ns ++ ns)), o8, o9, o10] M) : t__law_other_right_6i3_2 E R [o0, some (roundD ns), o2, o3, o4, o5, some (.int l), some (roundD (ns ++ ns)), o8, o9, o10] M := by
  simp [t__law_other_right_6i3_e2, view_rd, -Bool.exists_bool]
  refine ⟨⟨rdK, ⟨_, rfl⟩, by decide⟩, ?_⟩
  refine c_Round_sort_of (twice_sm h h2) rfl (fun l' e _ => ?_) (fun e => absurd e (sort_no hl))
  cases e
  simp [view_rd, -Bool.exists_bool]
  refine ⟨⟨rdK, ⟨_, rfl⟩, by decide⟩, ?_⟩
  refine c_Round_sort_of h rfl (fun l' e _ => ?_) (fun e => absurd e (sort_no hl))
  cases e
  simp only [adF_ap, adopt_str, view_str, word_twice h.1.1 hl, neB_str_same _ (word_ok _)]
  simpa using q
theorem oth_5 {t : Nat} {E : EnD} {R : XR} {M : MS} {ns : List Int} {b l : Int} {o2 o3 o7 o8 o9 o10 : Option D} (h : Sm ns) (hl : 1 ≤ l) (q : t__law_other_right_6 E R [some (.cell 0), some (roundD ns), o2, o3, some (.int b), some (roundD (rowL ns b ns.length)), some (.int l), o7, o8, o9, o10] M) : t__law_other_right_5 E R [some (.cell 0), some (roundD ns), o2, o3, some (.int b), some (roundD (rowL ns b ns.length)), some (.int l), o7, o8, o9, o10] M := by
  have h1 := h.1.1
  have h2 := h.1.2
  have hs := rowL_sm h b ns.length h1 h2
  have eS : S (rowL ns b ns.length) 0 l = S ns b l := by
    have := S_turned ns h1 b 0 l.toNat
    rw [show ((l.toNat : Nat) : Int) = l by omega, Int.add_zero] at this
    exact this
  simp [t__law_other_right_e5, view_rd, -Bool.exists_bool]
  refine ⟨⟨rdK, ⟨_, rfl⟩, by decide⟩, ?_⟩
  refine c_Round_sum_of hs rfl rfl (fun e => by cases e) (fun _ e => absurd e (sort_no hl)) (fun b' l' e1 e2 _ => ?_)
  cases e1
  cases e2
  simp [view_rd, -Bool.exists_bool]
  refine ⟨⟨rdK, ⟨_, rfl⟩, by decide⟩, ?_⟩
  refine c_Round_sum_of h rfl rfl (fun e => by cases e) (fun _ e => absurd e (sort_no hl)) (fun b' l' e1 e2 _ => ?_)
  cases e1
  cases e2
  simp [view_rd, eS, -Bool.exists_bool]
  refine ⟨⟨rdK, ⟨_, rfl⟩, by decide⟩, ?_⟩
  refine c_Round_sort_of hs rfl (fun l' e _ => ?_) (fun e => absurd e (sort_no hl))
  cases e
  simp [view_rd, -Bool.exists_bool]
  refine ⟨⟨rdK, ⟨_, rfl⟩, by decide⟩, ?_⟩
  refine c_Round_sort_of h rfl (fun l' e _ => ?_) (fun e => absurd e (sort_no hl))
  cases e
  simp only [adF_ap, adopt_str, view_str, word_turned h1 b hl, neB_str_same _ (word_ok _)]
  simpa using q
end K72
set_option Elab.async false
set_option linter.all false
set_option maxRecDepth 100000
set_option maxHeartbeats 1000000
set_option autoImplicit false
/-! K72r: turned, doubled, cut to rows: right, the whole. -/
namespace K72
open PySem PySem.Spec PyProof.Rows L2 Dl
variable [Tb]
theorem c_Round_X__len_X_ {ns : List Int} {M : MS} {k : KD} {x : XD} (q : k (.int ns.length) M) : app' sp_Round_X__len_X_ [] [roundD ns] M k x :=
  app_pure (by simp [roundD]) ⟨ns, rfl, q⟩
theorem c_Round_X__eq_X_ {ns : List Int} {o : D} {M : MS} {k : KD} {x : XD} (h : Ln ns) (ho : okV o = true) (q : (∃ ms, o = roundD ms ∧ Ln ms ∧ k (.bl (decide (ns = ms))) M) ∨ (tag o ≠ some (.c "Round") ∧ k (.bl false) M)) : app' sp_Round_X__eq_X_ [] [roundD ns, o] M k x :=
  app_pure (by simp [roundD, okV_pure ho]) ⟨ns, o, rfl, h, ho, q⟩
theorem oth_6b1 {E : EnD} {R : XR} {M : MS} {ns : List Int} {l : Int} {o0 o4 o5 o8 o9 o10 : Option D} (h : Sm ns) (h2 : 2 * ns.length ≤ 48) (hl : 1 ≤ l) (q : E.nx [o0, some (roundD ns), some (.lst (dI ns)), some (.int ns.length), o4, o5, some (.int l), some (roundD (ns ++ ns)), o8, o9, o10] M) : t__law_other_right_6i3_1 E R [o0, some (roundD ns), some (.lst (dI ns)), some (.int ns.length), o4, o5, some (.int l), some (roundD (ns ++ ns)), o8, o9, o10] M := by
  have hs : ns.length + ns.length ≤ sizeLine := by have := sizeLine_big; omega
  have m : IntMulOk 2 ns.length := CMul.ok (.inl (by omega))
  have h1 := h.1.1
  simp only [t__law_other_right_6i3_e1, sCons_ap, sIf_ap, dOr_ap, dTst_ap, dBin_ap, dUn_ap, dVar_ap, dCB_ap, dCons_ap, dNil_ap]
  refine ⟨_, rfl, ?_⟩
  rw [view_rd, fld_gains]
  refine ⟨_, rfl, _, rfl, ?_⟩
  have ea : ∀ k : D → Prop, addB (.lst (dI ns)) (.lst (dI ns)) k = k (.lst (dI (ns ++ ns))) := fun k => by
    rw [dI_app]
    show (_ ∧ _) = _
    simp [hs]
  simp only [view_lst, ea, List.map_cons, List.map_nil, tupB_lst, view_tup, neB_tup]
  refine ⟨_, rfl, ?_⟩
  simp only [ne_eq, not_true, decide_false, Bool.false_eq_true, if_false, dLenO_ap, dVar_ap]
  refine ⟨_, rfl, ⟨_, _, rfl⟩, c_Round_X__len_X_ ?_⟩
  refine ⟨_, rfl, by omega, by simp; omega, ?_⟩
  simp [m, -Bool.exists_bool]
  refine ⟨false, by simp; omega, ?_⟩
  simp only [Bool.false_eq_true, if_false]
  refine ⟨⟨_, _, rfl⟩, rfl, ⟨_, rfl⟩, ?_⟩
  refine c_Round_X__eq_X_ ⟨by simp; omega, by simp; omega⟩ rfl (.inl ⟨ns, rfl, h.1, ?_⟩)
  refine ⟨_, rfl, ?_⟩
  have e : ¬ (ns ++ ns = ns) := fun e => by
    have := congrArg List.length e
    simp at this
    subst this
    simp at h1
  simp [e, -Bool.exists_bool]
  exact oth_6b2 h h2 hl q
theorem oth_6b0 {E : EnD} {R : XR} {M : MS} {ns : List Int} {l : Int} {o0 o4 o5 o7 o8 o9 o10 : Option D} (h : Sm ns) (h2 : 2 * ns.length ≤ 48) (hl : 1 ≤ l) (q : ∀ o7, E.nx [o0, some (roundD ns), some (.lst (dI ns)), some (.int ns.length), o4, o5, some (.int l), o7, o8, o9, o10] M) : t__law_other_right_6i3 E R [o0, some (roundD ns), some (.lst (dI ns)), some (.int ns.length), o4, o5, some (.int l), o7, o8, o9, o10] M := by
  simp [t__law_other_right_6i3_e0, view_rd]
  refine ⟨⟨rdK, ⟨_, rfl⟩, by decide⟩, ?_⟩
  refine c_Round_twice h.1 (fun _ => ?_) (fun e => absurd h2 (by omega))
  exact oth_6b1 h h2 hl (q _)
theorem oth_6 {t : Nat} {E : EnD} {R : XR} {M : MS} {ns : List Int} {b l : Int} {o5 o7 o8 o9 o10 : Option D} (h : Sm ns) (hl : 1 ≤ l) (hM : Ml t M) (ht : t ≤ 9990) (hisa : Tb.isa = isa) (q : ∀ M', Ml (t + 1) M' → E.rt (.bl true) M') : t__law_other_right_6 E R [some (.cell 0), some (roundD ns), some (.lst (dI ns)), some (.int ns.length), some (.int b), o5, some (.int l), o7, o8, o9, o10] M := by
  have m : IntMulOk 2 ns.length := CMul.ok (.inl (by omega))
  simp [t__law_other_right_e6, m, -Bool.exists_bool]
  by_cases h2 : (2 * (ns.length : Int)) ≤ 48
  · simp only [h2, if_true]
    exact oth_6b0 h (by omega) hl fun o7 => oth_7 h hM ht hisa q
  · simp only [h2, if_false]
    exact oth_7 h hM ht hisa q
theorem oth_4 {t : Nat} {E : EnD} {R : XR} {M : MS} {ns : List Int} {b : Int} {o6 o7 o8 o9 o10 : Option D} (h : Sm ns) (hM : Ml t M) (ht : t ≤ 9980) (hisa : Tb.isa = isa) (q : ∀ M', Ml (t + 2) M' → E.rt (.bl true) M') : t__law_other_right_4 E R [some (.cell 0), some (roundD ns), some (.lst (dI ns)), some (.int ns.length), some (.int b), some (roundD (rowL ns b ns.length)), o6, o7, o8, o9, o10] M := by
  have m : IntMulOk 3 ns.length := CMul.ok (.inl (by omega))
  have h1 := h.1.1
  have h2 := h.1.2
  simp [t__law_other_right_e4, m]
  rw [show M = M ++ [] by simp]
  refine g_grind hM (by omega) (by omega) (by omega) fun r M1 a1 a2 hM1 => ?_
  simp
  exact oth_5 (t := t) h (by omega) (oth_6 h (by omega) hM1 (by omega) hisa fun M' hM' => q M' hM')
theorem oth_3 {t : Nat} {E : EnD} {R : XR} {M : MS} {ns : List Int} {b : Int} {o6 o7 o8 o9 o10 : Option D} (h : Sm ns) (hM : Ml t M) (ht : t ≤ 9980) (hisa : Tb.isa = isa) (q : ∀ M', Ml (t + 2) M' → E.rt (.bl true) M') : t__law_other_right_3 E R [some (.cell 0), some (roundD ns), some (.lst (dI ns)), some (.int ns.length), some (.int b), some (roundD (rowL ns b ns.length)), o6, o7, o8, o9, o10] M := by
  have h1 := h.1.1
  have h2 := h.1.2
  have hs := rowL_sm h b ns.length h1 h2
  have q4 := oth_4 (R := R) (o6 := o6) (o7 := o7) (o8 := o8) (o9 := o9) (o10 := o10) (b := b) h hM ht hisa q
  simp only [t__law_other_right_e3, sCons_ap, sIf_ap, dTst_ap, dEqO_ap, dMeth_ap, dVar_ap, dCons_ap, dNil_ap, dUn_ap]
  refine ⟨_, rfl, ⟨_, _, rfl, by decide⟩, _, rfl, rfl, rfl, ?_⟩
  refine c_Round_turned hs.1 rfl (fun e => by cases e) (fun b' e => ?_)
  cases e
  rw [rowL_len, rowL_back ns h1]
  refine ⟨_, rfl, ⟨_, _, rfl⟩, rfl, ⟨_, rfl⟩, ?_⟩
  refine c_Round_X__eq_X_ h.1 rfl (.inl ⟨ns, rfl, h.1, _, rfl, ?_⟩)
  simpa [-Bool.exists_bool] using q4
theorem oth_2 {t : Nat} {E : EnD} {R : XR} {M : MS} {ns : List Int} {b : Int} {o6 o7 o8 o9 o10 : Option D} (h : Sm ns) (hM : Ml t M) (ht : t ≤ 9980) (hisa : Tb.isa = isa) (q : ∀ M', Ml (t + 2) M' → E.rt (.bl true) M') : t__law_other_right_2 E R [some (.cell 0), some (roundD ns), some (.lst (dI ns)), some (.int ns.length), some (.int b), some (roundD (rowL ns b ns.length)), o6, o7, o8, o9, o10] M := by
  have h1 := h.1.1
  have h2 := h.1.2
  have q3 := oth_3 (R := R) (o6 := o6) (o7 := o7) (o8 := o8) (o9 := o9) (o10 := o10) (b := b) h hM ht hisa q
  simp only [t__law_other_right_e2, sCons_ap, sIf_ap, dOr_ap, dTst_ap, dBin_ap, dUn_ap, dVar_ap, dCB_ap, dCons_ap, dNil_ap]
  refine ⟨_, rfl, ?_⟩
  rw [view_rd, fld_gains]
  refine lcR (j := ns.length) (fun k' h => by simpa using h) (by omega) (by omega) (fun i : Nat => .int (ns.getD ((b + i) % ns.length).toNat 0)) (fun _ => rfl) ?_ ?_
  · intro i hi acc k' h
    have hm := mod_lt (p := b + i) h1
    simp +decide [h1, atI_dI ns hm.1 hm.2]
    simpa using h
  · rw [dI_map_range]
    have e : (List.range ((ns.length : Int)).toNat).map (fun i : Nat => ns.getD ((b + i) % ns.length).toNat 0) = rowL ns b ns.length := by simp [rowL]
    rw [e]
    simp [view_rd, fld_tot, rowL_sum ns h1, -Bool.exists_bool]
    exact q3
theorem oth_1 {t : Nat} {E : EnD} {R : XR} {M : MS} {ns : List Int} {b : Int} {o5 o6 o7 o8 o9 o10 : Option D} (h : Sm ns) (hM : Ml t M) (ht : t ≤ 9980) (hisa : Tb.isa = isa) (q : ∀ M', Ml (t + 2) M' → E.rt (.bl true) M') : t__law_other_right_1 E R [some (.cell 0), some (roundD ns), some (.lst (dI ns)), some (.int ns.length), some (.int b), o5, o6, o7, o8, o9, o10] M := by
  simp [t__law_other_right_e1, view_rd]
  refine ⟨⟨rdK, ⟨_, rfl⟩, by decide⟩, ?_⟩
  refine c_Round_turned h.1 rfl (fun e => by cases e) (fun b' e => ?_)
  cases e
  exact oth_2 h hM ht hisa q
theorem v__law_other_right (hisa : Tb.isa = isa) (ds : List D) (M : MS) (k : KD) (x : XD) (h : sp__law_other_right ds M k x) : t__law_other_right (enD M.length k) (fun e _ M' => x e (M'.take M.length)) (startD ["a", "b", "c", "d", "e", "f", "g", "h", "i", "j", "k"] ds) M := by
  obtain ⟨b, ns, rfl, hs, hM, hb, q⟩ := h
  have hl := hM.len
  rw [hl]
  have c0 : CPow 10 12 := ⟨by omega, by omega, by decide⟩
  have two : (2 : Nat) ≤ sizeLine := by have := sizeLine_big; omega
  simp [t__law_other_right_e0, startD]
  rw [show M = M ++ [] by simp]
  refine g_grind hM (by omega) (by omega) (by omega) fun r1 M1 a1 a2 hM1 => ?_
  simp [two, c0]
  rw [show M1 = M1 ++ [] by simp]
  refine g_pick hM1 (by omega) (by simp) (by simp) (by simp) fun d M2 hd hM2 => ?_
  have hu : ∃ u : Int, d = .int u := by
    simp at hd
    rcases hd with rfl | rfl <;> exact ⟨_, rfl⟩
  obtain ⟨u, rfl⟩ := hu
  simp [and_assoc, two]
  refine ⟨CMul.ok (.inl (by omega)), ?_⟩
  refine oth_1 hs hM2 (by omega) hisa fun M' hM' => ?_
  have := tk1 (R := []) hM'
  rw [List.append_nil] at this
  simp [this]
  exact q _ (hM'.mono (by omega))
end K72
set_option Elab.async false
set_option linter.all false
set_option maxRecDepth 100000
set_option maxHeartbeats 1000000
set_option autoImplicit false
/-! K72u: rules kept: right. -/
namespace K72
open PySem PySem.Spec PyProof.Rows L2 Dl
variable [Tb]
theorem rowL_take (ns : List Int) (b : Int) (m i : Nat) (h : i ≤ m) : (rowL ns b m).take i = rowL ns b i := by
  unfold rowL
  rw [← List.map_take, List.take_range, Nat.min_eq_left h]
theorem S_step (ns : List Int) (b : Int) (i l : Int) : S ns b (i + l) - S ns b i = S ns (b + i) l := by
  unfold S
  rw [← Int.add_assoc]
  omega
theorem kept_row {ns : List Int} (h : 0 < ns.length) (b : Int) {l : Int} (hl : 1 ≤ l) (lo hi : D) : kept (rowL ns b ((ns.length : Int) + l - 1).toNat) l lo hi = (sumsR ns l).all fun s => within (.int s) lo hi := by
  have a := all_turned ns h b l.toNat fun s => within (.int s) lo hi
  rw [show ((l.toNat : Nat) : Int) = l by omega] at a
  rw [← a, sumsR_all, rowL_len]
  unfold kept
  rw [rowL_len]
  have e : (((((ns.length : Int) + l - 1).toNat : Nat) : Int) - l + 1).toNat = ns.length := by omega
  rw [e]
  refine all_range (fun i hi' => ⟨i, hi', ?_⟩) (fun i hi' => ⟨i, hi', ?_⟩)
  all_goals
    rw [heights_get _ _ (by rw [rowL_len]; omega), heights_get _ _ (by rw [rowL_len]; omega), rowL_take _ _ _ _ (by omega), rowL_take _ _ _ _ (by omega), ← S_rowL ns h, ← S_rowL ns h]
    have e1 := S_turned ns h b i l.toNat
    rw [show ((l.toNat : Nat) : Int) = l by omega] at e1
    rw [e1]
    have e2 : ((i + l.toNat : Nat) : Int) = (i : Int) + l := by omega
    rw [e2, S_step]
def kp (ns : List Int) (l : Int) (lo hi : D) : Bool := (sumsR ns l).all fun s => within (.int s) lo hi
theorem kept_9 {t : Nat} {E : EnD} {R : XR} {M : MS} {ns : List Int} {l : Int} {lo hi : D} {o2 o3 o4 o5 o6 o7 o11 : Option D} (h : Sm ns) (l1 : 1 ≤ l) (l2 : l ≤ 48) (b1 : bnd lo = true) (b2 : bnd hi = true) (hM : Ml t M) (ht : t ≤ 9990) (q : ∀ M', Ml (t + 1) M' → E.nx [some (.cell 0), some (roundD ns), o2, o3, o4, o5, o6, o7, some (.bl (kp ns l lo hi)), some (ruleD l lo hi), some (.int ((ns.length : Int) + l - 1)), o11] M') :
    t__law_kept_right_0b_9 E R [some (.cell 0), some (roundD ns), o2, o3, o4, o5, o6, o7, some (.bl (kp ns l lo hi)), some (ruleD l lo hi), some (.int ((ns.length : Int) + l - 1)), o11] M := by
  have h1 := h.1.1
  simp only [t__law_kept_right_0b_e9, sCons_ap, sIf_ap, dAnd_ap, dTst_ap, dBin_ap, dVar_ap, dC_ap]
  refine ⟨_, rfl, ?_⟩
  simp only [view_int, leB_ap]
  refine ⟨trivial, _, rfl, ?_⟩
  by_cases e : (ns.length : Int) + l - 1 ≤ 48
  · rw [decide_eq_true e]
    simp only [if_true, dMeth_ap, dVar_ap, dCons_ap, dNil_ap, dCall_ap, dC_ap]
    refine ⟨_, rfl, ⟨_, _, rfl, by decide⟩, _, rfl, ⟨_, _, rfl, by decide⟩, _, rfl, rfl, rfl, ?_⟩
    rw [show M = M ++ [] by simp]
    refine g_grind hM (by omega) (by omega) (by omega) fun r M1 a1 a2 hM1 => ?_
    simp only [List.append_nil]
    refine ⟨_, rfl, rfl, rfl, ?_⟩
    refine c_Round_row h.1 rfl rfl (fun e => by cases e) (fun _ e' => ?_) (fun b' m' e1 e2 l1' l2' => ?_)
    · rw [within_in (by omega) e] at e'
      cases e'
    · cases e1
      cases e2
      refine ⟨rfl, rfl, ?_⟩
      refine c_Rule_keeps l1 l2 b1 b2 rfl (.inl ⟨_, rfl, ⟨by rw [rowL_len]; omega, by rw [rowL_len]; omega⟩, ?_⟩)
      rw [kept_row h1 _ l1]
      have := q M1 hM1
      simpa [kp, -Bool.exists_bool] using this
  · rw [decide_eq_false e]
    simpa using q M (hM.mono (by omega))
theorem kept_8 {t : Nat} {E : EnD} {R : XR} {M : MS} {ns : List Int} {l : Int} {lo hi : D} {o3 o5 o6 o7 o10 o11 : Option D} (h : Sm ns) (l1 : 1 ≤ l) (l2 : l ≤ 48) (b1 : bnd lo = true) (b2 : bnd hi = true) (hM : Ml t M) (ht : t ≤ 9990) (q : ∀ M' o10, Ml (t + 1) M' → E.nx [some (.cell 0), some (roundD ns), some (.lst (dI ns)), o3, some (.int l), o5, o6, o7, some (.bl (kp ns l lo hi)), some (ruleD l lo hi), o10, o11] M') :
    t__law_kept_right_0b_8 E R [some (.cell 0), some (roundD ns), some (.lst (dI ns)), o3, some (.int l), o5, o6, o7, some (.bl (kp ns l lo hi)), some (ruleD l lo hi), o10, o11] M := by
  simp [t__law_kept_right_0b_e8]
  exact kept_9 h l1 l2 b1 b2 hM ht fun M' hM' => q M' _ hM'
theorem boolStr_ok (b : Bool) : PyData.strOk (boolStr b) = true := by cases b <;> decide +kernel
theorem kept_7 {t : Nat} {E : EnD} {R : XR} {M : MS} {ns : List Int} {l i : Int} {lo hi : D} {o5 o6 o7 o10 o11 : Option D} (h : Sm ns) (l1 : 1 ≤ l) (l2 : l ≤ 48) (b1 : bnd lo = true) (b2 : bnd hi = true) (hM : Ml t M) (ht : t ≤ 9990) (q : ∀ M' o10, Ml (t + 1) M' → E.nx [some (.cell 0), some (roundD ns), some (.lst (dI ns)), some (.int i), some (.int l), o5, o6, o7, some (.bl (kp ns l lo hi)), some (ruleD l lo hi), o10, o11] M') :
    t__law_kept_right_0b_7 E R [some (.cell 0), some (roundD ns), some (.lst (dI ns)), some (.int i), some (.int l), o5, o6, o7, some (.bl (kp ns l lo hi)), some (ruleD l lo hi), o10, o11] M := by
  have h1 := h.1.1
  have h2 := h.1.2
  have q8 := kept_8 (R := R) (o10 := o10) h l1 l2 b1 b2 hM ht q
  have hs := rowL_sm h i ns.length h1 h2
  have ea : ((sumsR (rowL ns i ns.length) l).all fun s => within (.int s) lo hi) = kp ns l lo hi := by
    have a := all_turned ns h1 i l.toNat fun s => within (.int s) lo hi
    rwa [show ((l.toNat : Nat) : Int) = l by omega] at a
  simp only [t__law_kept_right_0b_e7, sCons_ap, sIf_ap, dOr_ap, dTst_ap, dBin_ap, dCB_ap, dCons_ap, dNil_ap, dMeth_ap, dVar_ap]
  refine ⟨_, rfl, ⟨_, _, rfl, by decide⟩, _, rfl, rfl, rfl, ?_⟩
  refine c_Round_keeps h rfl (.inl ⟨l, lo, hi, rfl, b1, b2, ?_⟩)
  simp only [adF_ap, adopt_bl, List.map_cons, List.map_nil, view_bl, reprB_bl]
  refine ⟨_, rfl, ?_⟩
  simp only [view_bl, reprB_bl, view_str]
  rw [show ((sumsR ns l).all fun s => within (.int s) lo hi) = kp ns l lo hi from rfl, neB_str_same _ (boolStr_ok _)]
  refine ⟨false, rfl, ?_⟩
  simp only [Bool.false_eq_true, if_false]
  refine ⟨_, rfl, ⟨_, _, rfl, by decide⟩, _, rfl, rfl, rfl, ?_⟩
  refine c_Round_turned h.1 rfl (fun e => by cases e) (fun b' e => ?_)
  cases e
  refine ⟨⟨_, _, rfl, by decide⟩, _, rfl, rfl, rfl, ?_⟩
  refine c_Round_keeps hs rfl (.inl ⟨l, lo, hi, rfl, b1, b2, ?_⟩)
  simp only [adF_ap, adopt_bl, List.map_cons, List.map_nil, view_bl, reprB_bl]
  refine ⟨_, rfl, ?_⟩
  simp only [view_bl, reprB_bl, view_str]
  rw [ea, neB_str_same _ (boolStr_ok _)]
  refine ⟨false, rfl, ?_⟩
  simpa using q8
theorem kept_6 {t : Nat} {E : EnD} {R : XR} {M : MS} {ns : List Int} {l i : Int} {lo hi : D} {o5 o9 o10 o11 : Option D} (h : Sm ns) (l1 : 1 ≤ l) (l2 : l ≤ 48) (b1 : bnd lo = true) (b2 : bnd hi = true) (b3 : bnds lo hi = true) (hM : Ml t M) (ht : t ≤ 9990) (q : ∀ M' o9 o10, Ml (t + 1) M' → E.nx [some (.cell 0), some (roundD ns), some (.lst (dI ns)), some (.int i), some (.int l), o5, some lo, some hi, some (.bl (kp ns l lo hi)), o9, o10, o11] M') :
    t__law_kept_right_0b_6 E R [some (.cell 0), some (roundD ns), some (.lst (dI ns)), some (.int i), some (.int l), o5, some lo, some hi, some (.bl (kp ns l lo hi)), o9, o10, o11] M := by
  simp [t__law_kept_right_0b_e6]
  exact c_Rule_X__init_X_ l1 l2 b1 b2 b3 (kept_7 h l1 l2 b1 b2 hM ht fun M' o10 hM' => q M' _ o10 hM')
theorem within_all {ss : List Int} {a m : Int} {lo hi : D} (h1 : a ∈ ss) (h2 : ∀ y, y ∈ ss → a ≤ y) (h3 : m ∈ ss) (h4 : ∀ y, y ∈ ss → y ≤ m) (b1 : bnd lo = true) (b2 : bnd hi = true) :
    (ss.all fun s => within (.int s) lo hi) = (within (.int a) lo .non && within (.int m) .non hi) := by
  cases e : (within (.int a) lo .non && within (.int m) .non hi) with
  | true =>
    rw [Bool.and_eq_true] at e
    rw [List.all_eq_true]
    intro y hy
    have y1 := h2 y hy
    have y2 := h4 y hy
    cases lo <;> cases b1 <;> cases hi <;> cases b2 <;> simp [within] at e ⊢ <;> omega
  | false =>
    rw [List.all_eq_false]
    rw [Bool.and_eq_false_iff] at e
    rcases e with e | e
    · refine ⟨a, h1, ?_⟩
      cases lo <;> cases b1 <;> cases hi <;> cases b2 <;> simp [within] at e ⊢ <;> omega
    · refine ⟨m, h3, ?_⟩
      cases lo <;> cases b1 <;> cases hi <;> cases b2 <;> simp [within] at e ⊢ <;> omega
theorem kept_5 {t : Nat} {E : EnD} {R : XR} {M : MS} {ns : List Int} {l i : Int} {lo hi : D} {o8 o9 o10 o11 : Option D} (h : Sm ns) (l1 : 1 ≤ l) (l2 : l ≤ 48) (b1 : bnd lo = true) (b2 : bnd hi = true) (b3 : bnds lo hi = true) (hM : Ml t M) (ht : t ≤ 9990) (q : ∀ M' o8 o9 o10, Ml (t + 1) M' → E.nx [some (.cell 0), some (roundD ns), some (.lst (dI ns)), some (.int i), some (.int l), some (.lst (dI (sumsR ns l))), some lo, some hi, o8, o9, o10, o11] M') :
    t__law_kept_right_0b_5 E R [some (.cell 0), some (roundD ns), some (.lst (dI ns)), some (.int i), some (.int l), some (.lst (dI (sumsR ns l))), some lo, some hi, o8, o9, o10, o11] M := by
  have hl : 0 < (sumsR ns l).length := by rw [sumsR_len]; exact h.1.1
  obtain ⟨a, a1, a2⟩ := list_min hl
  obtain ⟨m, m1, m2⟩ := list_max hl
  have e := within_all a1 a2 m1 m2 b1 b2
  have q6 := kept_6 (R := R) (o9 := o9) (o10 := o10) (o5 := some (.lst (dI (sumsR ns l)))) h l1 l2 b1 b2 b3 hM ht fun M' => q M' _
  rw [show kp ns l lo hi = _ from e] at q6
  cases lo <;> cases b1 <;> cases hi <;> cases b2
  · cases b3
  · simp [t__law_kept_right_0b_e5, -Bool.exists_bool]
    refine maxB_of m1 m2 ?_
    simpa [within] using q6
  · simp [t__law_kept_right_0b_e5, -Bool.exists_bool]
    refine minB_of a1 a2 ?_
    rename_i z
    by_cases hz : z ≤ a <;> simpa [within, hz] using q6
  · simp [t__law_kept_right_0b_e5, -Bool.exists_bool]
    refine minB_of a1 a2 ?_
    rename_i z u
    by_cases hz : z ≤ a
    · simp [hz, -Bool.exists_bool]
      refine maxB_of m1 m2 ?_
      simpa [within, hz] using q6
    · simpa [within, hz] using q6
end K72
set_option Elab.async false
set_option linter.all false
set_option maxRecDepth 100000
set_option maxHeartbeats 1000000
set_option autoImplicit false
/-! K72v: rules kept: right, the whole. -/
namespace K72
open PySem PySem.Spec PyProof.Rows L2 Dl
variable [Tb]
def Kq (t : Nat) (E : EnD) (ns : List Int) (i : Int) : Prop := ∀ M' o4 o5 o6 o7 o8 o9 o10 o11, Ml t M' → E.nx [some (.cell 0), some (roundD ns), some (.lst (dI ns)), some (.int i), o4, o5, o6, o7, o8, o9, o10, o11] M'
theorem kept_4 {t : Nat} {E : EnD} {R : XR} {M : MS} {ns : List Int} {l i a m : Int} {o8 o9 o10 o11 : Option D} (h : Sm ns) (l1 : 1 ≤ l) (l2 : l ≤ 48) (ham : a ≤ m) (hM : Ml t M) (ht : t ≤ 9980) (q : Kq (t + 2) E ns i) :
    t__law_kept_right_0b_4 E R [some (.cell 0), some (roundD ns), some (.lst (dI ns)), some (.int i), some (.int l), some (.lst (dI (sumsR ns l))), some (.int a), some (.int m), o8, o9, o10, o11] M := by
  have three : (3 : Nat) ≤ sizeLine := by have := sizeLine_big; omega
  have two : (2 : Nat) ≤ sizeLine := by have := sizeLine_big; omega
  simp [t__law_kept_right_0b_e4, three, two]
  rw [show M = M ++ [] by simp]
  refine g_pick hM (by omega) (by simp) (by simp) (by simp) fun d M2 hd hM2 => ?_
  simp at hd
  have fin : ∀ lo hi, bnd lo = true → bnd hi = true → bnds lo hi = true → t__law_kept_right_0b_5 E R [some (.cell 0), some (roundD ns), some (.lst (dI ns)), some (.int i), some (.int l), some (.lst (dI (sumsR ns l))), some lo, some hi, o8, o9, o10, o11] M2 :=
    fun lo hi b1 b2 b3 => kept_5 h l1 l2 b1 b2 b3 hM2 (by omega) fun M' o8 o9 o10 hM' => q M' _ _ _ _ _ _ _ _ hM'
  rcases hd with rfl | rfl | rfl
  · simpa [and_assoc] using fin (.int a) (.int m) rfl rfl (by simpa [bnds] using ham)
  · simpa [and_assoc] using fin (.int a) .non rfl rfl rfl
  · simpa [and_assoc] using fin .non (.int m) rfl rfl rfl
theorem kept_3 {t : Nat} {E : EnD} {R : XR} {M : MS} {ns : List Int} {l i a : Int} {o7 o8 o9 o10 o11 : Option D} (h : Sm ns) (l1 : 1 ≤ l) (l2 : l ≤ 48) (hM : Ml t M) (ht : t ≤ 9970) (q : Kq (t + 3) E ns i) :
    t__law_kept_right_0b_3 E R [some (.cell 0), some (roundD ns), some (.lst (dI ns)), some (.int i), some (.int l), some (.lst (dI (sumsR ns l))), some (.int a), o7, o8, o9, o10, o11] M := by
  have four : (4 : Nat) ≤ sizeLine := by have := sizeLine_big; omega
  have hl : 0 < (sumsR ns l).length := by rw [sumsR_len]; exact h.1.1
  obtain ⟨m, m1, m2⟩ := list_max hl
  simp [t__law_kept_right_0b_e3, four]
  refine maxB_of m1 m2 ?_
  simp [four]
  rw [show M = M ++ [] by simp]
  refine g_pick hM (by omega) (by simp) (by simp) (by simp) fun d M2 hd hM2 => ?_
  have hu : ∃ u : Int, d = .int u := by
    simp at hd
    rcases hd with rfl | rfl | rfl <;> exact ⟨_, rfl⟩
  obtain ⟨u, rfl⟩ := hu
  simp
  exact kept_4 h l1 l2 (by split <;> omega) hM2 (by omega) fun M' => q M'
theorem kept_2 {t : Nat} {E : EnD} {R : XR} {M : MS} {ns : List Int} {l i : Int} {o6 o7 o8 o9 o10 o11 : Option D} (h : Sm ns) (l1 : 1 ≤ l) (l2 : l ≤ 48) (hM : Ml t M) (ht : t ≤ 9960) (q : Kq (t + 4) E ns i) :
    t__law_kept_right_0b_2 E R [some (.cell 0), some (roundD ns), some (.lst (dI ns)), some (.int i), some (.int l), some (.lst (dI (sumsR ns l))), o6, o7, o8, o9, o10, o11] M := by
  have four : (4 : Nat) ≤ sizeLine := by have := sizeLine_big; omega
  have hl : 0 < (sumsR ns l).length := by rw [sumsR_len]; exact h.1.1
  obtain ⟨a, a1, a2⟩ := list_min hl
  simp [t__law_kept_right_0b_e2, four]
  refine minB_of a1 a2 ?_
  simp [four]
  rw [show M = M ++ [] by simp]
  refine g_pick hM (by omega) (by simp) (by simp) (by simp) fun d M2 hd hM2 => ?_
  have hu : ∃ u : Int, d = .int u := by
    simp at hd
    rcases hd with rfl | rfl | rfl <;> exact ⟨_, rfl⟩
  obtain ⟨u, rfl⟩ := hu
  simp
  exact kept_3 h l1 l2 hM2 (by omega) fun M' => q M'
theorem kept_1 {t : Nat} {E : EnD} {R : XR} {M : MS} {ns : List Int} {l i : Int} {o5 o6 o7 o8 o9 o10 o11 : Option D} (h : Sm ns) (l1 : 1 ≤ l) (l2 : l ≤ 48) (hM : Ml t M) (ht : t ≤ 9960) (q : Kq (t + 4) E ns i) :
    t__law_kept_right_0b_1 E R [some (.cell 0), some (roundD ns), some (.lst (dI ns)), some (.int i), some (.int l), o5, o6, o7, o8, o9, o10, o11] M := by
  simp only [t__law_kept_right_0b_e1, sCons_ap, sSet_ap]
  refine lcR (j := ns.length) (fun k' h => by simpa using h) (by have := h.1.2; omega) (by omega) (fun b : Nat => .int (S ns b l)) (fun _ => rfl) ?_ ?_
  · intro i hi acc k' h'
    simp
    exact c__law_sum h h'
  · have e : (List.range ((ns.length : Int)).toNat).map (fun b : Nat => D.int (S ns b l)) = dI (sumsR ns l) := by simp [dI, sumsR]
    rw [e]
    exact kept_2 h l1 l2 hM ht q
theorem kept_0 {t : Nat} {E : EnD} {R : XR} {M : MS} {ns : List Int} {i : Int} {o4 o5 o6 o7 o8 o9 o10 o11 : Option D} (h : Sm ns) (hM : Ml t M) (ht : t ≤ 9950) (q : Kq (t + 6) E ns i) :
    t__law_kept_right_0b E R [some (.cell 0), some (roundD ns), some (.lst (dI ns)), some (.int i), o4, o5, o6, o7, o8, o9, o10, o11] M := by
  have three : (3 : Nat) ≤ sizeLine := by have := sizeLine_big; omega
  have h1 := h.1.1
  have h2 := h.1.2
  simp [t__law_kept_right_0b_e0, three]
  rw [show M = M ++ [] by simp]
  refine g_pick hM (by omega) (by simp) (by simp) (by simp) fun d M1 hd hM1 => ?_
  have hu : ∃ u : Int, d = .int u ∧ 0 < u ∧ u ≤ 48 := by
    simp at hd
    rcases hd with rfl | rfl | rfl
    · exact ⟨_, rfl, by omega, by omega⟩
    · exact ⟨_, rfl, by omega, by omega⟩
    · exact ⟨_, rfl, by omega, by omega⟩
  obtain ⟨u, rfl, u0, u1⟩ := hu
  simp
  rw [show M1 = M1 ++ [] by simp]
  refine g_grind hM1 (by omega) u0 (by omega) fun r M2 a1 a2 hM2 => ?_
  simp
  exact kept_1 h (by omega) (by omega) hM2 (by omega) fun M' => q M'
theorem v__law_kept_right (ds : List D) (M : MS) (k : KD) (x : XD) (h : sp__law_kept_right ds M k x) : t__law_kept_right (enD M.length k) (fun e _ M' => x e (M'.take M.length)) (startD ["a", "b", "c", "d", "e", "f", "g", "h", "i", "j", "k", "l"] ds) M := by
  obtain ⟨b, ns, rfl, hs, hM, hb, q⟩ := h
  have hl := hM.len
  rw [hl]
  simp only [t__law_kept_right_e0, sCons_ap, sFor, iR1, dCons_ap, dNil_ap, dC_ap]
  refine ⟨_, rfl, by omega, by omega, fun i ρ M' => Ml (b + 6 * i) M' ∧ ∃ o3 o4 o5 o6 o7 o8 o9 o10 o11, ρ = [some (.cell 0), some (roundD ns), some (.lst (dI ns)), o3, o4, o5, o6, o7, o8, o9, o10, o11], ⟨hM, _, _, _, _, _, _, _, _, _, rfl⟩, ?_⟩
  rintro i ρ M' ⟨hM', o3, o4, o5, o6, o7, o8, o9, o10, o11, rfl⟩ hi
  refine ⟨trivial, fun hlt => ?_, fun e => ?_⟩
  · simp
    have : i < 3 := hlt
    exact kept_0 hs hM' (by omega) fun M'' o4 o5 o6 o7 o8 o9 o10 o11 h => ⟨h.mono (by omega), _, _, _, _, _, _, _, _, _, rfl⟩
  · have e4 : i = 3 := e
    subst e4
    simp [t__law_kept_right_e1]
    have := tk1 (R := []) hM'
    rw [List.append_nil] at this
    rw [this]
    exact q _ (hM'.mono (by omega))
end K72
set_option Elab.async false
set_option linter.all false
set_option maxRecDepth 100000
set_option maxHeartbeats 1000000
set_option autoImplicit false
/-! K72w: the law. -/
namespace K72
open PySem PySem.Spec PyProof.Rows L2 Dl
variable [Tb]
theorem rev_dI (ns : List Int) (k : D → Prop) : revB (.lst (dI ns)) k = k (.lst (dI ns.reverse)) := by
  have e : (dI ns).reverse = dI ns.reverse := by simp [dI]
  rw [← e]
  rfl
theorem law_8 {E : EnD} {R : XR} {M : MS} {ns : List Int} {o0 o1 o2 o4 : Option D} (h : Sm ns) (q : E.nx [o0, o1, o2, some (.lst (dI ns)), o4, some (roundD ns)] M) : t_law_1b_8 E R [o0, o1, o2, some (.lst (dI ns)), o4, some (roundD ns)] M := by
  have hr : Ln ns.reverse := ⟨by simpa using h.1.1, by simpa using h.1.2⟩
  simp only [t_law_1b_e8, sCons_ap, sIf_ap, dTst_ap, dBin_ap, dEqO_ap, dMake_ap, dCons_ap, dNil_ap, dUn_ap, dVar_ap]
  refine ⟨_, rfl, ?_⟩
  simp only [view_lst, rev_dI]
  refine ⟨rfl, rfl, ?_⟩
  refine c_round_new hr ?_
  refine ⟨_, rfl, ⟨_, _, rfl⟩, rfl, ⟨_, rfl⟩, ?_⟩
  refine c_Round_X__eq_X_ hr rfl (.inl ⟨ns, rfl, h.1, _, rfl, ?_⟩)
  simpa [rev_dI, -Bool.exists_bool] using q
theorem g_sums {b : Nat} {ns : List Int} {M R : MS} {k : KD} {x : XD} (h : Sm ns) (hM : Ml b M) (hb : b ≤ 9000) (q : ∀ M', Ml (b + 20) M' → k (.bl true) (M' ++ R)) : app' sp__law_sums_right [0] [.cell 0, roundD ns, .lst (dI ns)] (M ++ R) k x := by
  obtain ⟨cs, p, r, rfl, hp⟩ := hM
  refine app_one (mo := .lst [.lst (dI cs), .int p, .int r]) rfl (by simp [roundD]) ⟨b, ns, rfl, h, ⟨cs, p, r, rfl, hp⟩, hb, fun M' ⟨cs', p', r'', e, hp'⟩ => ?_⟩
  subst e
  exact q _ ⟨cs', p', r'', rfl, hp'⟩
theorem g_other {b : Nat} {ns : List Int} {M R : MS} {k : KD} {x : XD} (h : Sm ns) (hM : Ml b M) (hb : b ≤ 9000) (q : ∀ M', Ml (b + 20) M' → k (.bl true) (M' ++ R)) : app' sp__law_other_right [0] [.cell 0, roundD ns, .lst (dI ns)] (M ++ R) k x := by
  obtain ⟨cs, p, r, rfl, hp⟩ := hM
  refine app_one (mo := .lst [.lst (dI cs), .int p, .int r]) rfl (by simp [roundD]) ⟨b, ns, rfl, h, ⟨cs, p, r, rfl, hp⟩, hb, fun M' ⟨cs', p', r'', e, hp'⟩ => ?_⟩
  subst e
  exact q _ ⟨cs', p', r'', rfl, hp'⟩
theorem g_kept {b : Nat} {ns : List Int} {M R : MS} {k : KD} {x : XD} (h : Sm ns) (hM : Ml b M) (hb : b ≤ 9000) (q : ∀ M', Ml (b + 30) M' → k (.bl true) (M' ++ R)) : app' sp__law_kept_right [0] [.cell 0, roundD ns, .lst (dI ns)] (M ++ R) k x := by
  obtain ⟨cs, p, r, rfl, hp⟩ := hM
  refine app_one (mo := .lst [.lst (dI cs), .int p, .int r]) rfl (by simp [roundD]) ⟨b, ns, rfl, h, ⟨cs, p, r, rfl, hp⟩, hb, fun M' ⟨cs', p', r'', e, hp'⟩ => ?_⟩
  subst e
  exact q _ ⟨cs', p', r'', rfl, hp'⟩
theorem g_refused {b : Nat} {ns : List Int} {M R : MS} {k : KD} {x : XD} (h : Sm ns) (hM : Ml b M) (hb : b ≤ 9000) (q : ∀ M', Ml (b + 20) M' → k (.bl true) (M' ++ R)) : app' sp__law_refused_right [0] [.cell 0, roundD ns, .lst (dI ns)] (M ++ R) k x := by
  obtain ⟨cs, p, r, rfl, hp⟩ := hM
  refine app_one (mo := .lst [.lst (dI cs), .int p, .int r]) rfl (by simp [roundD]) ⟨b, ns, rfl, h, ⟨cs, p, r, rfl, hp⟩, hb, fun M' ⟨cs', p', r'', e, hp'⟩ => ?_⟩
  subst e
  exact q _ ⟨cs', p', r'', rfl, hp'⟩
theorem law_7 {b : Nat} {E : EnD} {R : XR} {M T : MS} {ns : List Int} {o0 o2 o4 : Option D} (h : Sm ns) (hM : Ml b M) (hb : b ≤ 9000) (q : ∀ M', Ml (b + 20) M' → E.nx [o0, some (.cell 0), o2, some (.lst (dI ns)), o4, some (roundD ns)] (M' ++ T)) : t_law_1b_7 E R [o0, some (.cell 0), o2, some (.lst (dI ns)), o4, some (roundD ns)] (M ++ T) := by
  simp only [t_law_1b_e7, sCons_ap, sIf_ap, dOr_ap, dNot_ap, dTru_ap, dCall_ap, dCons_ap, dNil_ap, dVar_ap]
  refine ⟨_, rfl, _, rfl, _, rfl, rfl, rfl, ?_⟩
  refine g_refused h hM hb fun M1 hM1 => ?_
  refine ⟨true, rfl, ?_⟩
  simp only [Bool.not_true, Bool.false_eq_true, if_false, dTst_ap, dEqO_ap, dMake_ap, dCons_ap, dNil_ap, dCB_ap, dVar_ap]
  refine ⟨_, rfl, ?_⟩
  simp only [List.map_cons, List.map_nil, view_lst, tupB_lst]
  refine ⟨rfl, rfl, ?_⟩
  have gt : ∀ {M : MS} {k : KD} {x : XD}, k (roundD ns) M → app' sp_Round_X__init_X_ [0] [.cell M.length, .tup (dI ns)] (M ++ [.ins "Round" [] []]) (mkEnd false "Round" M.length k) x := fun {M k x} q => by
    refine c_Round_X__init_X_ (okG_tup (by have := h.1.2; omega)) (fun e => ?_) (fun ms e e2 => ?_) (fun ms e e2 => ?_)
    · rw [ints_tup] at e
      rcases e with e | e
      · cases e
      · cases e
        exact absurd h.1.1 (by simp)
    · rw [ints_tup] at e
      cases e
      have := h.1.2
      omega
    · rw [ints_tup] at e
      cases e
      exact q
  refine gt ?_
  refine ⟨_, rfl, ⟨_, _, rfl⟩, rfl, ⟨_, rfl⟩, ?_⟩
  refine c_Round_X__eq_X_ h.1 rfl (.inl ⟨ns, rfl, h.1, _, rfl, _, rfl, ?_⟩)
  simp only [decide_true, bne_self_eq_false, Bool.false_eq_true, if_false]
  refine ⟨_, rfl, _, rfl, ⟨_, _, rfl⟩, rfl, ⟨_, rfl⟩, ?_⟩
  refine c_Round_X__eq_X_ h.1 rfl (.inr ⟨by simp [tag], _, rfl, _, rfl, ?_⟩)
  simp only [bne_self_eq_false, Bool.false_eq_true, if_false]
  refine ⟨_, rfl, _, rfl, rfl, rfl, ?_⟩
  refine c_Row_X__init_X_ h.1 ?_
  refine ⟨⟨_, _, rfl⟩, rfl, ⟨_, rfl⟩, ?_⟩
  refine c_Round_X__eq_X_ h.1 rfl (.inr ⟨by simp +decide [rowD, tag], _, rfl, _, rfl, ?_⟩)
  simp only [bne_self_eq_false, Bool.false_eq_true, if_false, sNil_ap]
  exact law_8 h (q _ hM1)
theorem law_6 {b : Nat} {E : EnD} {R : XR} {M T : MS} {ns : List Int} {o0 o2 o4 : Option D} (hisa : Tb.isa = isa) (h : Sm ns) (hM : Ml b M) (hb : b ≤ 8900) (q : ∀ M', Ml (b + 90) M' → E.nx [o0, some (.cell 0), o2, some (.lst (dI ns)), o4, some (roundD ns)] (M' ++ T)) : t_law_1b_6 E R [o0, some (.cell 0), o2, some (.lst (dI ns)), o4, some (roundD ns)] (M ++ T) := by
  simp only [t_law_1b_e6, sCons_ap, sIf_ap, dOr_ap, dNot_ap, dTru_ap, dCall_ap, dCons_ap, dNil_ap, dVar_ap]
  refine ⟨_, rfl, _, rfl, _, rfl, rfl, rfl, ?_⟩
  refine g_sums h hM (by omega) fun M1 hM1 => ?_
  refine ⟨true, rfl, ?_⟩
  simp only [Bool.not_true, Bool.false_eq_true, if_false]
  refine ⟨_, rfl, _, rfl, _, rfl, rfl, rfl, ?_⟩
  refine g_other h hM1 (by omega) fun M2 hM2 => ?_
  refine ⟨true, rfl, ?_⟩
  simp only [Bool.not_true, Bool.false_eq_true, if_false]
  refine ⟨_, rfl, _, rfl, _, rfl, rfl, rfl, ?_⟩
  refine g_kept h hM2 (by omega) fun M3 hM3 => ?_
  refine ⟨true, rfl, ?_⟩
  simp only [Bool.not_true, Bool.false_eq_true, if_false, sNil_ap]
  exact law_7 h hM3 (by omega) fun M' hM' => q M' (hM'.mono (by omega))
theorem law_5 {b : Nat} {E : EnD} {R : XR} {M T : MS} {ns : List Int} {o0 o2 o4 : Option D} (hisa : Tb.isa = isa) (h : Sm ns) (hM : Ml b M) (hb : b ≤ 8900) (q : ∀ M', Ml (b + 90) M' → E.nx [o0, some (.cell 0), o2, some (.lst (dI ns)), o4, some (roundD ns)] (M' ++ T)) : t_law_1b_5 E R [o0, some (.cell 0), o2, some (.lst (dI ns)), o4, some (roundD ns)] (M ++ T) := by
  have q6 := law_6 (R := R) (o0 := o0) (o2 := o2) (o4 := o4) hisa h hM hb q
  simp only [t_law_1b_e5, sCons_ap, sIf_ap, dOr_ap, dTst_ap, dBin_ap, dUn_ap, dVar_ap, dCB_ap, dCons_ap, dNil_ap, dLenO_ap]
  refine ⟨_, rfl, ?_⟩
  rw [view_rd, fld_gains]
  refine ⟨_, rfl, ?_⟩
  simp only [List.map_cons, List.map_nil, view_lst, tupB_lst, view_tup, neB_tup]
  refine ⟨_, rfl, ?_⟩
  simp only [ne_eq, not_true, decide_false, Bool.false_eq_true, if_false]
  refine ⟨_, rfl, ?_⟩
  rw [view_rd, fld_days]
  refine ⟨_, rfl, ?_⟩
  simp only [List.map_cons, List.map_nil, view_lst, lenB_lst, dI_len, view_int, neB_int]
  refine ⟨_, rfl, ?_⟩
  simp only [ne_eq, not_true, decide_false, Bool.false_eq_true, if_false]
  refine ⟨_, rfl, ⟨_, _, rfl⟩, c_Round_X__len_X_ ?_⟩
  have h2 := h.1.2
  refine ⟨_, rfl, by omega, by omega, _, rfl, ?_⟩
  simp only [List.map_cons, List.map_nil, view_lst, lenB_lst, dI_len, view_int, neB_int]
  refine ⟨_, rfl, ?_⟩
  simp only [ne_eq, not_true, decide_false, Bool.false_eq_true, if_false]
  refine ⟨_, rfl, ?_⟩
  rw [view_rd, fld_tot]
  refine ⟨_, rfl, ?_⟩
  simp only [List.map_cons, List.map_nil, view_lst]
  refine sumX_lst _ ?_
  simp only [view_int, neB_int]
  refine ⟨_, rfl, ?_⟩
  simp only [ne_eq, not_true, decide_false, Bool.false_eq_true, if_false, sNil_ap]
  exact q6
theorem law_4 {b : Nat} {E : EnD} {R : XR} {M T : MS} {ns : List Int} {g : Int} {r : List D} {o0 o2 : Option D} (hisa : Tb.isa = isa) (h : Sm ns) (hM : Ml b M) (hb : b ≤ 8900) (q : ∀ M' T', T'.length = T.length + 1 → Ml (b + 90) M' → E.nx [o0, some (.cell 0), o2, some (.lst (dI ns)), some (.cell (M ++ T).length), some (roundD ns)] (M' ++ T')) : t_law_1b_4 E R [o0, some (.cell 0), o2, some (.lst (dI ns)), some (.cell (M ++ T).length), some (roundD ns)] ((M ++ T) ++ [.lst (.int g :: r)]) := by
  have hv : view ((M ++ T) ++ [.lst (.int g :: r)]) (.cell (M ++ T).length) = .lst (.int g :: r) := view_cell_lst (get_last _ _)
  simp only [t_law_1b_e4, sCons_ap, sAsg_ap, dBin_ap, dVar_ap, dC_ap, gIx_ap]
  refine ⟨_, rfl, ?_⟩
  rw [hv]
  simp only [view_int, idxB_lst]
  refine ⟨.int g, at_nat (.int g :: r) 0, ?_⟩
  simp only [view_int, addB_int]
  have hix : ixN (D.int g :: r).length 0 = some 0 := by
    unfold ixN
    rw [if_pos (by omega), if_pos (by simp)]
    rfl
  refine ⟨_, rfl, rfl, _, _, _, _, rfl, get_last _ _, rfl, hix, ?_⟩
  rw [set_last, List.append_assoc]
  exact law_5 hisa h hM hb fun M' hM' => q M' _ (by simp) hM'
end K72
set_option Elab.async false
set_option linter.all false
set_option maxRecDepth 100000
set_option maxHeartbeats 1000000
set_option autoImplicit false
/-! K72y: the law, the whole. -/
namespace K72
open PySem PySem.Spec PyProof.Rows L2 Dl
variable [Tb]
theorem noLs_dI (ns : List Int) : noLs (dI ns) = true := by
  induction ns with
  | nil => rfl
  | cons n ns ih =>
    rw [dI_cons, noLs, ih]
    rfl
theorem noL_rd (ns : List Int) : noLMs [.ins "Round" rdK (rdX ns)] = true := by
  simp [noLMs, noLM, rdX, noLs, noL, noLs_dI]
/-- a new round of a list that may change -/
theorem round_lent {ns : List Int} {M : MS} {j : Nat} {k : KD} {x : XD} (h : Ln ns) (hj : M[j]? = some (.lst (dI ns))) (q : k (roundD ns) M) : app' sp_Round_X__init_X_ [0] [.cell M.length, .cell j] (M ++ [.ins "Round" [] []]) (mkEnd false "Round" M.length k) x := by
  have hlt : j < M.length := by
    rcases Nat.lt_or_ge j M.length with h | h
    · exact h
    · rw [List.getElem?_eq_none h] at hj
      cases hj
  have hj' : (M ++ [MO.ins "Round" [] []])[j]? = some (.lst (dI ns)) := by rw [List.getElem?_append_left hlt]; exact hj
  have a1 : handed (M ++ [.ins "Round" [] []]) [0] 0 [.cell M.length, .cell j] = [.cell M.length, .lst (dI ns)] := by
    show [D.cell M.length, (match (M ++ [MO.ins "Round" [] []])[j]? with
      | some (.lst xs) => D.lst xs
      | _ => .cell j)] = _
    rw [hj']
  have a2 : lentIx (M ++ [.ins "Round" [] []]) [0] 0 [.cell M.length, .cell j] = [j] := by
    show [] ++ ((match (M ++ [MO.ins "Round" [] []])[j]? with
      | some (.lst _) => [j]
      | _ => []) ++ []) = _
    rw [hj']
    rfl
  have a3 : passed [D.cell M.length, .lst (dI ns)] = [M.length] := rfl
  have a5 : sel (M ++ [.ins "Round" [] []]) [M.length] = [.ins "Round" [] []] := by
    simp [sel, List.getD]
  refine ⟨by rw [a1, a3]; simp, (by rw [a1, a2, a3]; intro i hi m; simp at hi m; omega), ?_⟩
  rw [a1, a2, a3, a5]
  refine ⟨.lst (dI ns), by simp [ren], rfl, okG_list (by have := h.2; omega), fun e => ?_, fun ms e e2 => ?_, fun ms e e2 => ?_⟩
  · rw [ints_lst] at e
    rcases e with e | e
    · cases e
    · cases e
      exact absurd h.1 (by simp)
  · rw [ints_lst] at e
    cases e
    have := h.2
    omega
  · rw [ints_lst] at e
    cases e
    exact ⟨.inr ⟨rfl, noL_rd ns⟩, rfl, M, _, _, by simp [putb], rfl, q⟩
theorem law_3 {b : Nat} {E : EnD} {R : XR} {M T : MS} {ns : List Int} {o0 o2 : Option D} (hisa : Tb.isa = isa) (h : Sm ns) (hM : Ml b M) (hb : b ≤ 8900) (q : ∀ M' T', T'.length = T.length + 1 → Ml (b + 90) M' → E.nx [o0, some (.cell 0), o2, some (.lst (dI ns)), some (.cell (M ++ T).length), some (roundD ns)] (M' ++ T')) : t_law_1b_3 E R [o0, some (.cell 0), o2, some (.lst (dI ns)), some (.cell (M ++ T).length), some (roundD ns)] ((M ++ T) ++ [.lst (dI ns)]) := by
  simp only [t_law_1b_e3, sCons_ap, sDrop_ap, dApp_ap, dVar_ap, dC_ap]
  have hs := sizeLine_big
  have h2 := h.1.2
  refine ⟨_, rfl, _, _, rfl, get_last _ _, rfl, _, get_last _ _, by rw [dI_len]; omega, ?_⟩
  rw [set_last]
  have h1 := h.1.1
  cases ns with
  | nil => simp at h1
  | cons g r => exact law_4 hisa h hM hb q
theorem law_2 {b : Nat} {E : EnD} {R : XR} {M T : MS} {ns : List Int} {o0 o2 o5 : Option D} (hisa : Tb.isa = isa) (h : Sm ns) (hM : Ml b M) (hb : b ≤ 8900) (q : ∀ M' T', T'.length = T.length + 1 → Ml (b + 90) M' → E.nx [o0, some (.cell 0), o2, some (.lst (dI ns)), some (.cell (M ++ T).length), some (roundD ns)] (M' ++ T')) : t_law_1b_2 E R [o0, some (.cell 0), o2, some (.lst (dI ns)), some (.cell (M ++ T).length), o5] ((M ++ T) ++ [.lst (dI ns)]) := by
  simp only [t_law_1b_e2, sCons_ap, sSet_ap, dMake_ap, dCons_ap, dNil_ap, dVar_ap]
  refine ⟨_, rfl, rfl, rfl, ?_⟩
  exact round_lent h.1 (get_last _ _) (law_3 hisa h hM hb q)
theorem law_0 {b : Nat} {E : EnD} {R : XR} {M T : MS} {o0 o2 o3 o4 o5 : Option D} (hisa : Tb.isa = isa) (hM : Ml b M) (hb : b ≤ 8800) (q : ∀ M' T' o3 o4 o5, Ml (b + 150) M' → E.nx [o0, some (.cell 0), o2, o3, o4, o5] (M' ++ T')) : t_law_1b E R [o0, some (.cell 0), o2, o3, o4, o5] (M ++ T) := by
  simp only [t_law_1b_e0, sCons_ap, sSet_ap, dCall_ap, dCons_ap, dNil_ap, dVar_ap]
  refine ⟨_, rfl, rfl, rfl, ?_⟩
  have g : ∀ k x, (∀ ns M', Sm ns → Ml (b + 60) M' → k (.own (dI ns)) (M' ++ T)) → app' sp__law_gains [0] [.cell 0] (M ++ T) k x := by
    intro k x q
    obtain ⟨cs, p, r, rfl, hp⟩ := hM
    refine app_one (mo := .lst [.lst (dI cs), .int p, .int r]) rfl rfl ⟨b, rfl, ⟨cs, p, r, rfl, hp⟩, by omega, fun ns M' hs ⟨cs', p', r'', e, hp'⟩ => ?_⟩
    subst e
    exact q _ _ hs ⟨cs', p', r'', rfl, hp'⟩
  refine g _ _ fun ns M1 hs hM1 => ?_
  simp only [adF_ap, adopt_own, t_law_1b_e1, sCons_ap, sSet_ap, dListC_ap, dVar_ap]
  refine ⟨_, rfl, _, rfl, ?_⟩
  exact law_2 hisa hs hM1 (by omega) fun M' T' _ hM' => q M' T' _ _ _ (hM'.mono (by omega))
theorem v_law (hisa : Tb.isa = isa) (ds : List D) (M : MS) (k : KD) (x : XD) (h : sp_law ds M k x) : t_law (enD M.length k) (fun e _ M' => x e (M'.take M.length)) (startD ["a", "b", "c", "d", "e", "f"] ds) M := by
  obtain ⟨s, rfl, rfl, q⟩ := h
  simp only [t_law_e0, sCons_ap, sSet_ap, dCall_ap, dCons_ap, dNil_ap, dVar_ap]
  refine ⟨_, rfl, rfl, rfl, ?_⟩
  refine app_pure rfl ⟨s, rfl, fun cs => ?_⟩
  refine ⟨_, rfl, ?_⟩
  simp only [t_law_e1, sCons_ap, sFor, iR1, dCons_ap, dNil_ap, dC_ap]
  refine ⟨_, rfl, by omega, by omega, fun i ρ M' => ∃ M0 T, M' = M0 ++ T ∧ Ml (150 * i) M0 ∧ ∃ o0 o2 o3 o4 o5, ρ = [o0, some (.cell 0), o2, o3, o4, o5], ⟨_, [], rfl, ⟨cs, 0, 0, rfl, Nat.zero_le _⟩, _, _, _, _, _, rfl⟩, ?_⟩
  rintro i ρ M' ⟨M0, T, rfl, hM, o0, o2, o3, o4, o5, rfl⟩ hi
  refine ⟨trivial, fun hlt => ?_, fun e => ?_⟩
  · have : i < 2 := hlt
    exact law_0 hisa hM (by omega) fun M' T' o3 o4 o5 h => ⟨M', T', rfl, h.mono (by omega), _, _, _, _, _, rfl⟩
  · simp [t_law_e2]
    exact q
end K72
set_option Elab.async false
set_option linter.all false
set_option maxRecDepth 100000
set_option autoImplicit false
/-! the longer defs in parts (printed by parts.py) -/
namespace K72
open PySem PySem.Spec PyProof.Rows L2 Dl
variable [Tb]
def t__law_refused_right_15 : DS := sCons (sRet (dAndV (dBin eqB (dVar 6) (dBin addB (dVar 7) (dLst (dCons (dTup (dCons (dC (.str "number")) (dCons (dC (.str "by")) dNil))) (dCons (dTup (dCons (dC (.str "number")) (dCons (dC (.str "begin")) dNil))) (dCons (dTup (dCons (dC (.str "number")) (dCons (dC (.str "days")) dNil))) (dCons (dTup (dCons (dC (.str "days")) (dCons (dC (.int 48)) dNil))) (dCons (dTup (dCons (dC (.str "row")) (dCons (dC (.str "row")) dNil))) (dCons (dTup (dCons (dC (.str "round")) (dCons (dC (.str "gains")) dNil))) dNil))))))))) (dBin eqB (dLenO "Round" sp_Round_X__len_X_ (dMeth "Round" "twice" adF sp_Round_twice [] 0 0 [0] [] (dMake "Round" false sp_Round_X__init_X_ [0] 1 0 [0, 1] [] (dCons (dBin mulB (dLst (dCons (dC (.int 1)) dNil)) (dC (.int 24))) dNil) dNil) dNil dNil)) (dC (.int 48))))) sNil
theorem t__law_refused_right_e15 : t__law_refused_right_15 = sCons (sRet (dAndV (dBin eqB (dVar 6) (dBin addB (dVar 7) (dLst (dCons (dTup (dCons (dC (.str "number")) (dCons (dC (.str "by")) dNil))) (dCons (dTup (dCons (dC (.str "number")) (dCons (dC (.str "begin")) dNil))) (dCons (dTup (dCons (dC (.str "number")) (dCons (dC (.str "days")) dNil))) (dCons (dTup (dCons (dC (.str "days")) (dCons (dC (.int 48)) dNil))) (dCons (dTup (dCons (dC (.str "row")) (dCons (dC (.str "row")) dNil))) (dCons (dTup (dCons (dC (.str "round")) (dCons (dC (.str "gains")) dNil))) dNil))))))))) (dBin eqB (dLenO "Round" sp_Round_X__len_X_ (dMeth "Round" "twice" adF sp_Round_twice [] 0 0 [0] [] (dMake "Round" false sp_Round_X__init_X_ [0] 1 0 [0, 1] [] (dCons (dBin mulB (dLst (dCons (dC (.int 1)) dNil)) (dC (.int 24))) dNil) dNil) dNil dNil)) (dC (.int 48))))) sNil := rfl
def t__law_refused_right_14 : DS := sCons (sSet 7 (dLst (dCons (dTup (dCons (dC (.str "round")) (dCons (dC (.str "gains")) dNil))) (dCons (dTup (dCons (dC (.str "days")) (dCons (dC (.int 48)) dNil))) (dCons (dTup (dCons (dC (.str "number")) (dCons (dC (.str "begin")) dNil))) (dCons (dTup (dCons (dC (.str "number")) (dCons (dC (.str "length")) dNil))) (dCons (dTup (dCons (dC (.str "number")) (dCons (dC (.str "length")) dNil))) (dCons (dTup (dCons (dC (.str "rule")) (dCons (dC (.str "rule")) dNil))) dNil)))))))) t__law_refused_right_15
theorem t__law_refused_right_e14 : t__law_refused_right_14 = sCons (sSet 7 (dLst (dCons (dTup (dCons (dC (.str "round")) (dCons (dC (.str "gains")) dNil))) (dCons (dTup (dCons (dC (.str "days")) (dCons (dC (.int 48)) dNil))) (dCons (dTup (dCons (dC (.str "number")) (dCons (dC (.str "begin")) dNil))) (dCons (dTup (dCons (dC (.str "number")) (dCons (dC (.str "length")) dNil))) (dCons (dTup (dCons (dC (.str "number")) (dCons (dC (.str "length")) dNil))) (dCons (dTup (dCons (dC (.str "rule")) (dCons (dC (.str "rule")) dNil))) dNil)))))))) t__law_refused_right_15 := rfl
def t__law_refused_right_13 : DS := sCons (sDrop (dApp (dVar 6) (dHeard ["_law_ask", "_law_caught", "error"] "_law_refused_right.<locals>.<lambda>" (fun f c ask => t__law_heard f c "_law_refused_right.<locals>.<lambda>" ask) (dMake "Round" false sp_Round_X__init_X_ [0] 1 0 [0, 1] [] (dCons (dMake "Row" false sp_Row_X__init_X_ [0] 1 0 [0, 1] [] (dCons (dLst (dCons (dC (.int 1)) (dCons (dC (.int 2)) dNil))) dNil) dNil) dNil) dNil)))) t__law_refused_right_14
theorem t__law_refused_right_e13 : t__law_refused_right_13 = sCons (sDrop (dApp (dVar 6) (dHeard ["_law_ask", "_law_caught", "error"] "_law_refused_right.<locals>.<lambda>" (fun f c ask => t__law_heard f c "_law_refused_right.<locals>.<lambda>" ask) (dMake "Round" false sp_Round_X__init_X_ [0] 1 0 [0, 1] [] (dCons (dMake "Row" false sp_Row_X__init_X_ [0] 1 0 [0, 1] [] (dCons (dLst (dCons (dC (.int 1)) (dCons (dC (.int 2)) dNil))) dNil) dNil) dNil) dNil)))) t__law_refused_right_14 := rfl
def t__law_refused_right_12 : DS := sCons (sDrop (dApp (dVar 6) (dHeard ["_law_ask", "_law_caught", "error"] "_law_refused_right.<locals>.<lambda>" (fun f c ask => t__law_heard f c "_law_refused_right.<locals>.<lambda>" ask) (dMeth "Rule" "keeps" adF sp_Rule_keeps [] 1 0 [0, 1] [] (dMake "Rule" false sp_Rule_X__init_X_ [0] 2 0 [0, 1, 2, 4] [.non, .non] (dCons (dC (.int 1)) (dCons (dC (.int 0)) dNil)) dNil) (dCons (dVar 1) dNil) dNil)))) t__law_refused_right_13
theorem t__law_refused_right_e12 : t__law_refused_right_12 = sCons (sDrop (dApp (dVar 6) (dHeard ["_law_ask", "_law_caught", "error"] "_law_refused_right.<locals>.<lambda>" (fun f c ask => t__law_heard f c "_law_refused_right.<locals>.<lambda>" ask) (dMeth "Rule" "keeps" adF sp_Rule_keeps [] 1 0 [0, 1] [] (dMake "Rule" false sp_Rule_X__init_X_ [0] 2 0 [0, 1, 2, 4] [.non, .non] (dCons (dC (.int 1)) (dCons (dC (.int 0)) dNil)) dNil) (dCons (dVar 1) dNil) dNil)))) t__law_refused_right_13 := rfl
def t__law_refused_right_11 : DS := sCons (sDrop (dApp (dVar 6) (dHeard ["_law_ask", "_law_caught", "error"] "_law_refused_right.<locals>.<lambda>" (fun f c ask => t__law_heard f c "_law_refused_right.<locals>.<lambda>" ask) (dMeth "Round" "twice" adF sp_Round_twice [] 0 0 [0] [] (dMake "Round" false sp_Round_X__init_X_ [0] 1 0 [0, 1] [] (dCons (dBin mulB (dLst (dCons (dC (.int 1)) dNil)) (dC (.int 25))) dNil) dNil) dNil dNil)))) t__law_refused_right_12
theorem t__law_refused_right_e11 : t__law_refused_right_11 = sCons (sDrop (dApp (dVar 6) (dHeard ["_law_ask", "_law_caught", "error"] "_law_refused_right.<locals>.<lambda>" (fun f c ask => t__law_heard f c "_law_refused_right.<locals>.<lambda>" ask) (dMeth "Round" "twice" adF sp_Round_twice [] 0 0 [0] [] (dMake "Round" false sp_Round_X__init_X_ [0] 1 0 [0, 1] [] (dCons (dBin mulB (dLst (dCons (dC (.int 1)) dNil)) (dC (.int 25))) dNil) dNil) dNil dNil)))) t__law_refused_right_12 := rfl
def t__law_refused_right_10 : DS := sCons (sDrop (dApp (dVar 6) (dHeard ["_law_ask", "_law_caught", "error"] "_law_refused_right.<locals>.<lambda>" (fun f c ask => t__law_heard f c "_law_refused_right.<locals>.<lambda>" ask) (dMeth "Round" "row" adF sp_Round_row [] 2 0 [0, 1, 2] [] (dVar 1) (dCons (dUn negB (dBin powB (dC (.int 10)) (dC (.int 9)))) (dCons (dCall adF sp__law_pick [0] 2 0 [0, 1] [] (dCons (dVar 0) (dCons (dLst (dCons (dC (.int 0)) (dCons (dC (.int 49)) (dCons (dC .non) (dCons (dC (.bl true)) (dCons (dC (.str "3")) dNil)))))) dNil)) dNil) dNil)) dNil)))) t__law_refused_right_11
theorem t__law_refused_right_e10 : t__law_refused_right_10 = sCons (sDrop (dApp (dVar 6) (dHeard ["_law_ask", "_law_caught", "error"] "_law_refused_right.<locals>.<lambda>" (fun f c ask => t__law_heard f c "_law_refused_right.<locals>.<lambda>" ask) (dMeth "Round" "row" adF sp_Round_row [] 2 0 [0, 1, 2] [] (dVar 1) (dCons (dUn negB (dBin powB (dC (.int 10)) (dC (.int 9)))) (dCons (dCall adF sp__law_pick [0] 2 0 [0, 1] [] (dCons (dVar 0) (dCons (dLst (dCons (dC (.int 0)) (dCons (dC (.int 49)) (dCons (dC .non) (dCons (dC (.bl true)) (dCons (dC (.str "3")) dNil)))))) dNil)) dNil) dNil)) dNil)))) t__law_refused_right_11 := rfl
def t__law_refused_right_9 : DS := sCons (sDrop (dApp (dVar 6) (dHeard ["_law_ask", "_law_caught", "error"] "_law_refused_right.<locals>.<lambda>" (fun f c ask => t__law_heard f c "_law_refused_right.<locals>.<lambda>" ask) (dMeth "Round" "row" adF sp_Round_row [] 2 0 [0, 1, 2] [] (dVar 1) (dCons (dVar 4) (dCons (dVar 5) dNil)) dNil)))) t__law_refused_right_10
theorem t__law_refused_right_e9 : t__law_refused_right_9 = sCons (sDrop (dApp (dVar 6) (dHeard ["_law_ask", "_law_caught", "error"] "_law_refused_right.<locals>.<lambda>" (fun f c ask => t__law_heard f c "_law_refused_right.<locals>.<lambda>" ask) (dMeth "Round" "row" adF sp_Round_row [] 2 0 [0, 1, 2] [] (dVar 1) (dCons (dVar 4) (dCons (dVar 5) dNil)) dNil)))) t__law_refused_right_10 := rfl
def t__law_refused_right_8 : DS := sCons (sDrop (dApp (dVar 6) (dHeard ["_law_ask", "_law_caught", "error"] "_law_refused_right.<locals>.<lambda>" (fun f c ask => t__law_heard f c "_law_refused_right.<locals>.<lambda>" ask) (dMeth "Round" "turned" adF sp_Round_turned [] 1 0 [0, 1] [] (dVar 1) (dCons (dVar 4) dNil) dNil)))) t__law_refused_right_9
theorem t__law_refused_right_e8 : t__law_refused_right_8 = sCons (sDrop (dApp (dVar 6) (dHeard ["_law_ask", "_law_caught", "error"] "_law_refused_right.<locals>.<lambda>" (fun f c ask => t__law_heard f c "_law_refused_right.<locals>.<lambda>" ask) (dMeth "Round" "turned" adF sp_Round_turned [] 1 0 [0, 1] [] (dVar 1) (dCons (dVar 4) dNil) dNil)))) t__law_refused_right_9 := rfl
def t__law_refused_right_7 : DS := sCons (sDrop (dApp (dVar 6) (dHeard ["_law_ask", "_law_caught", "error"] "_law_refused_right.<locals>.<lambda>" (fun f c ask => t__law_heard f c "_law_refused_right.<locals>.<lambda>" ask) (dMeth "Round" "keeps" adF sp_Round_keeps [] 1 0 [0, 1] [] (dVar 1) (dCons (dCall adF sp__law_pick [0] 2 0 [0, 1] [] (dCons (dVar 0) (dCons (dLst (dCons (dC .non) (dCons (dTup (dCons (dC (.int 3)) (dCons (dC (.int 0)) (dCons (dC (.int 1)) dNil)))) (dCons (dC (.str "3 0 1")) (dCons (dVar 1) (dCons (dC (.int 7)) (dCons (dMake "Some" false sp_Some_X__init_X_ [0] 3 0 [0, 1, 2, 3] [.non, .non] (dCons (dC (.int 3)) (dCons (dC (.int 0)) (dCons (dC (.int 1)) dNil))) dNil) (dCons (dMake "Row" false sp_Row_X__init_X_ [0] 1 0 [0, 1] [] (dCons (dLst (dCons (dC (.int 3)) dNil)) dNil) dNil) dNil)))))))) dNil)) dNil) dNil) dNil)))) t__law_refused_right_8
theorem t__law_refused_right_e7 : t__law_refused_right_7 = sCons (sDrop (dApp (dVar 6) (dHeard ["_law_ask", "_law_caught", "error"] "_law_refused_right.<locals>.<lambda>" (fun f c ask => t__law_heard f c "_law_refused_right.<locals>.<lambda>" ask) (dMeth "Round" "keeps" adF sp_Round_keeps [] 1 0 [0, 1] [] (dVar 1) (dCons (dCall adF sp__law_pick [0] 2 0 [0, 1] [] (dCons (dVar 0) (dCons (dLst (dCons (dC .non) (dCons (dTup (dCons (dC (.int 3)) (dCons (dC (.int 0)) (dCons (dC (.int 1)) dNil)))) (dCons (dC (.str "3 0 1")) (dCons (dVar 1) (dCons (dC (.int 7)) (dCons (dMake "Some" false sp_Some_X__init_X_ [0] 3 0 [0, 1, 2, 3] [.non, .non] (dCons (dC (.int 3)) (dCons (dC (.int 0)) (dCons (dC (.int 1)) dNil))) dNil) (dCons (dMake "Row" false sp_Row_X__init_X_ [0] 1 0 [0, 1] [] (dCons (dLst (dCons (dC (.int 3)) dNil)) dNil) dNil) dNil)))))))) dNil)) dNil) dNil) dNil)))) t__law_refused_right_8 := rfl
def t__law_refused_right_6 : DS := sCons (sDrop (dApp (dVar 6) (dHeard ["_law_ask", "_law_caught", "error"] "_law_refused_right.<locals>.<lambda>" (fun f c ask => t__law_heard f c "_law_refused_right.<locals>.<lambda>" ask) (dMeth "Round" "sort_of" adF sp_Round_sort_of [] 1 0 [0, 1] [] (dVar 1) (dCons (dVar 5) dNil) dNil)))) t__law_refused_right_7
theorem t__law_refused_right_e6 : t__law_refused_right_6 = sCons (sDrop (dApp (dVar 6) (dHeard ["_law_ask", "_law_caught", "error"] "_law_refused_right.<locals>.<lambda>" (fun f c ask => t__law_heard f c "_law_refused_right.<locals>.<lambda>" ask) (dMeth "Round" "sort_of" adF sp_Round_sort_of [] 1 0 [0, 1] [] (dVar 1) (dCons (dVar 5) dNil) dNil)))) t__law_refused_right_7 := rfl
def t__law_refused_right_5 : DS := sCons (sDrop (dApp (dVar 6) (dHeard ["_law_ask", "_law_caught", "error"] "_law_refused_right.<locals>.<lambda>" (fun f c ask => t__law_heard f c "_law_refused_right.<locals>.<lambda>" ask) (dMeth "Round" "sum_of" adF sp_Round_sum_of [] 2 0 [0, 1, 2] [] (dVar 1) (dCons (dC (.int 0)) (dCons (dVar 5) dNil)) dNil)))) t__law_refused_right_6
theorem t__law_refused_right_e5 : t__law_refused_right_5 = sCons (sDrop (dApp (dVar 6) (dHeard ["_law_ask", "_law_caught", "error"] "_law_refused_right.<locals>.<lambda>" (fun f c ask => t__law_heard f c "_law_refused_right.<locals>.<lambda>" ask) (dMeth "Round" "sum_of" adF sp_Round_sum_of [] 2 0 [0, 1, 2] [] (dVar 1) (dCons (dC (.int 0)) (dCons (dVar 5) dNil)) dNil)))) t__law_refused_right_6 := rfl
def t__law_refused_right_4 : DS := sCons (sDrop (dApp (dVar 6) (dHeard ["_law_ask", "_law_caught", "error"] "_law_refused_right.<locals>.<lambda>" (fun f c ask => t__law_heard f c "_law_refused_right.<locals>.<lambda>" ask) (dMeth "Round" "sum_of" adF sp_Round_sum_of [] 2 0 [0, 1, 2] [] (dVar 1) (dCons (dVar 4) (dCons (dVar 5) dNil)) dNil)))) t__law_refused_right_5
theorem t__law_refused_right_e4 : t__law_refused_right_4 = sCons (sDrop (dApp (dVar 6) (dHeard ["_law_ask", "_law_caught", "error"] "_law_refused_right.<locals>.<lambda>" (fun f c ask => t__law_heard f c "_law_refused_right.<locals>.<lambda>" ask) (dMeth "Round" "sum_of" adF sp_Round_sum_of [] 2 0 [0, 1, 2] [] (dVar 1) (dCons (dVar 4) (dCons (dVar 5) dNil)) dNil)))) t__law_refused_right_5 := rfl
def t__law_refused_right_3 : DS := sCons (sDrop (dApp (dVar 6) (dHeard ["_law_ask", "_law_caught", "error"] "_law_refused_right.<locals>.<lambda>" (fun f c ask => t__law_heard f c "_law_refused_right.<locals>.<lambda>" ask) (dMake "Round" false sp_Round_X__init_X_ [0] 1 0 [0, 1] [] (dCons (dBin mulB (dLst (dCons (dC (.int 0)) dNil)) (dC (.int 49))) dNil) dNil)))) t__law_refused_right_4
theorem t__law_refused_right_e3 : t__law_refused_right_3 = sCons (sDrop (dApp (dVar 6) (dHeard ["_law_ask", "_law_caught", "error"] "_law_refused_right.<locals>.<lambda>" (fun f c ask => t__law_heard f c "_law_refused_right.<locals>.<lambda>" ask) (dMake "Round" false sp_Round_X__init_X_ [0] 1 0 [0, 1] [] (dCons (dBin mulB (dLst (dCons (dC (.int 0)) dNil)) (dC (.int 49))) dNil) dNil)))) t__law_refused_right_4 := rfl
def t__law_refused_right_2 : DS := sCons (sSet 6 (dLstC (dCons (dHeard ["_law_ask", "_law_caught", "error"] "_law_refused_right.<locals>.<lambda>" (fun f c ask => t__law_heard f c "_law_refused_right.<locals>.<lambda>" ask) (dMake "Round" false sp_Round_X__init_X_ [0] 1 0 [0, 1] [] (dCons (dVar 3) dNil) dNil)) dNil))) t__law_refused_right_3
theorem t__law_refused_right_e2 : t__law_refused_right_2 = sCons (sSet 6 (dLstC (dCons (dHeard ["_law_ask", "_law_caught", "error"] "_law_refused_right.<locals>.<lambda>" (fun f c ask => t__law_heard f c "_law_refused_right.<locals>.<lambda>" ask) (dMake "Round" false sp_Round_X__init_X_ [0] 1 0 [0, 1] [] (dCons (dVar 3) dNil) dNil)) dNil))) t__law_refused_right_3 := rfl
def t__law_refused_right_1 : DS := sCons (sAsg (dTup (dCons (dCall adF sp__law_pick [0] 2 0 [0, 1] [] (dCons (dVar 0) (dCons (dLst (dCons (dC .non) (dCons (dC (.bl true)) (dCons (dC (.str "0")) (dCons (dLst (dCons (dC (.int 1)) dNil)) (dCons (dTup dNil) dNil)))))) dNil)) dNil) (dCons (dCall adF sp__law_pick [0] 2 0 [0, 1] [] (dCons (dVar 0) (dCons (dLst (dCons (dC .non) (dCons (dC (.int 0)) (dCons (dUn negB (dC (.int 3))) (dCons (dC (.bl true)) (dCons (dC (.str "1")) (dCons (dLst (dCons (dC (.int 2)) dNil)) (dCons (dVar 2) dNil)))))))) dNil)) dNil) dNil))) (gUn 2 (gAnd (gSet 4) (gAnd (gSet 5) gNo)))) t__law_refused_right_2
theorem t__law_refused_right_e1 : t__law_refused_right_1 = sCons (sAsg (dTup (dCons (dCall adF sp__law_pick [0] 2 0 [0, 1] [] (dCons (dVar 0) (dCons (dLst (dCons (dC .non) (dCons (dC (.bl true)) (dCons (dC (.str "0")) (dCons (dLst (dCons (dC (.int 1)) dNil)) (dCons (dTup dNil) dNil)))))) dNil)) dNil) (dCons (dCall adF sp__law_pick [0] 2 0 [0, 1] [] (dCons (dVar 0) (dCons (dLst (dCons (dC .non) (dCons (dC (.int 0)) (dCons (dUn negB (dC (.int 3))) (dCons (dC (.bl true)) (dCons (dC (.str "1")) (dCons (dLst (dCons (dC (.int 2)) dNil)) (dCons (dVar 2) dNil)))))))) dNil)) dNil) dNil))) (gUn 2 (gAnd (gSet 4) (gAnd (gSet 5) gNo)))) t__law_refused_right_2 := rfl
theorem t__law_refused_right_e0 : t__law_refused_right = sCons (sSet 3 (dCall adF sp__law_pick [0] 2 0 [0, 1] [] (dCons (dVar 0) (dCons (dLst (dCons (dC .non) (dCons (dC (.int 5)) (dCons (dLst dNil) (dCons (dTup dNil) (dCons (dC (.str "1 2")) (dCons (dLst (dCons (dC (.int 1)) (dCons (dC .non) dNil))) (dCons (dLst (dCons (dC (.bl true)) dNil)) (dCons (dLst (dCons (dLst (dCons (dC (.int 1)) dNil)) dNil)) (dCons (dC (.dct [] [])) (dCons (dC (.dct [.inl 1] [.int 2])) (dCons (dVar 1) (dCons (dBin addB (dBin mulB (dLst (dCons (dC (.int 1)) dNil)) (dC (.int 49))) (dLst (dCons (dC (.str "0")) dNil))) dNil))))))))))))) dNil)) dNil)) t__law_refused_right_1 := rfl
end K72
set_option Elab.async false
set_option linter.all false
set_option maxRecDepth 100000
set_option maxHeartbeats 1000000
set_option autoImplicit false
/-! K72z: what is heard of an asking. -/
namespace K72
open PySem PySem.Spec PyProof.Rows L2 Dl
variable [Tb]
def heardR : DS := (sCons (sIf (dTru (dIs owns excs [.c "BadRound", .c "BadRule", .c "BadNumber"] (dVar 1))) (sCons (sRet (dTup (dCons (dIf (dTru (dIs owns excs [.c "BadRound"] (dVar 1))) (dC (.str "round")) (dIf (dTru (dIs owns excs [.c "BadRule"] (dVar 1))) (dC (.str "rule")) (dC (.str "number")))) (dCons (dXf excs "part" (dVar 1)) dNil)))) sNil) sNil) (sCons (sIf (dTru (dIs owns excs [.c "TooMany"] (dVar 1))) (sCons (sRet (dTup (dCons (dXf excs "what" (dVar 1)) (dCons (dXf excs "most" (dVar 1)) dNil)))) sNil) sNil) (sCons (sIf (dTru (dIs owns excs [.c "BadRow"] (dVar 1))) (sCons (sRet (dTup (dCons (dC (.str "row")) (dCons (dXf excs "part" (dVar 1)) dNil)))) sNil) sNil) (sCons (sRet (dIf (dTst (dBin isNB (dVar 1) (dC .non))) (dC .non) (dTup (dCons (dC (.str "other")) (dCons (dC .non) dNil))))) sNil))))
theorem heard_e (f c : Addr) (q : Str) (ask : Ask) : t__law_heard f c q ask = sCons (sSet 1 (dC .non)) (sCons (sHeard 3 hit 2 1 f c q ask) heardR) := rfl
def hE (M : MS) (k : KD) : EnD := enD M.length fun d M' => k (adopt d) M'
/-- what is done with what is raised -/
def hX (M : MS) (k : KD) : XD := fun e M' => ∃ b, hit.lookup e.1 = some b ∧ (match b with
  | true => heardR (hE M k) (fun _ _ _ => False) [none, some (.exc e.1 e.2.1 e.2.2), none] M'
  | false => False)
abbrev qL : Str := "_law_refused_right.<locals>.<lambda>"
abbrev dH (tb : DE) : DE := dHeard ["_law_ask", "_law_caught", "error"] qL (fun f c ask => t__law_heard f c qL ask) tb
theorem heard_of {tb : DE} {ρ : Ro} {M : MS} {k : KD} {x : XD} (h : ∀ kk : KD, tb ρ M kk (hX M k)) : dH tb ρ M k x := by
  intro f c
  rw [heard_e]
  simp only [sCons_ap, sSet_ap, dC_ap]
  exact ⟨rfl, h _⟩
theorem exc_hit {C : Str} (h : excs.contains C = true) : hit.lookup C = some true := by
  have h' : C ∈ excs := by simpa using h
  simp only [excs, List.mem_cons, List.not_mem_nil, or_false] at h'
  rcases h' with rfl | rfl | rfl | rfl | rfl | rfl <;> decide
theorem hX_round (hisa : Tb.isa = isa) {M M' : MS} {k : KD} {p : Str} (q : k (.tup [.str "round", .str p]) (M'.take M.length)) : hX M k ("BadRound", ["part"], [.str p]) M' := by
  refine ⟨true, exc_hit (C := "BadRound") rfl, ?_⟩
  have two : (2 : Nat) ≤ sizeLine := by have := sizeLine_big; omega
  simp +decide [heardR, hE, okT, excs, owns, tag, hisa, isa, lookD, two, and_assoc, -Bool.exists_bool]
  exact q
theorem hX_rule (hisa : Tb.isa = isa) {M M' : MS} {k : KD} {p : Str} (q : k (.tup [.str "rule", .str p]) (M'.take M.length)) : hX M k ("BadRule", ["part"], [.str p]) M' := by
  refine ⟨true, exc_hit (C := "BadRule") rfl, ?_⟩
  have two : (2 : Nat) ≤ sizeLine := by have := sizeLine_big; omega
  simp +decide [heardR, hE, okT, excs, owns, tag, hisa, isa, lookD, two, and_assoc, -Bool.exists_bool]
  exact q
theorem hX_number (hisa : Tb.isa = isa) {M M' : MS} {k : KD} {p : Str} (q : k (.tup [.str "number", .str p]) (M'.take M.length)) : hX M k ("BadNumber", ["part"], [.str p]) M' := by
  refine ⟨true, exc_hit (C := "BadNumber") rfl, ?_⟩
  have two : (2 : Nat) ≤ sizeLine := by have := sizeLine_big; omega
  simp +decide [heardR, hE, okT, excs, owns, tag, hisa, isa, lookD, two, and_assoc, -Bool.exists_bool]
  exact q
theorem hX_row (hisa : Tb.isa = isa) {M M' : MS} {k : KD} {p : Str} (q : k (.tup [.str "row", .str p]) (M'.take M.length)) : hX M k ("BadRow", ["part"], [.str p]) M' := by
  refine ⟨true, exc_hit (C := "BadRow") rfl, ?_⟩
  have two : (2 : Nat) ≤ sizeLine := by have := sizeLine_big; omega
  simp +decide [heardR, hE, okT, excs, owns, tag, hisa, isa, lookD, two, and_assoc, -Bool.exists_bool]
  exact q
theorem hX_many (hisa : Tb.isa = isa) {M M' : MS} {k : KD} (q : k (.tup [.str "days", .int 48]) (M'.take M.length)) : hX M k ("TooMany", ["most", "what"], [.int 48, .str "days"]) M' := by
  refine ⟨true, exc_hit (C := "TooMany") rfl, ?_⟩
  have two : (2 : Nat) ≤ sizeLine := by have := sizeLine_big; omega
  simp +decide [heardR, hE, okT, excs, owns, tag, hisa, isa, lookD, two, and_assoc, -Bool.exists_bool]
  exact q
end K72
set_option Elab.async false
set_option linter.all false
set_option maxRecDepth 100000
set_option maxHeartbeats 1000000
set_option autoImplicit false
/-! K72q: what is refused: right. -/
namespace K72
open PySem PySem.Spec PyProof.Rows L2 Dl
variable [Tb]
/-- one asking more -/
theorem heard_step {tb : DE} {E : EnD} {R : XR} {ρ : Ro} {M : MS} {t : Nat} {xs : List D} (hM : Ml t M) (h6 : ρ[6]? = some (some (.cell 1))) (hl : xs.length < 1000) {d : D} (hd : isPure d = true)
    (q : ∀ M', Ml (t + 1) M' → E.nx ρ (M' ++ [.lst (xs ++ [d])]))
    (h : ∀ K : KD, (∀ M', Ml (t + 1) M' → K d (M' ++ [.lst xs])) → ∀ kk : KD, tb ρ (M ++ [.lst xs]) kk (hX (M ++ [.lst xs]) K)) :
    sDrop (dApp (dVar 6) (dH tb)) E R ρ (M ++ [.lst xs]) := by
  have l1 := hM.len
  have hs := sizeLine_big
  have g : ∀ M' : MS, M'.length = 1 → (M' ++ [MO.lst xs])[1]? = some (.lst xs) := fun M' e => by
    rw [List.getElem?_append_right (by omega), e]; rfl
  simp only [sDrop_ap, dApp_ap, dVar_ap]
  refine ⟨_, h6, 1, xs, rfl, g _ l1, ?_⟩
  refine heard_of ?_
  refine h _ ?_
  intro M' hM'
  refine ⟨hd, xs, ?_, by omega, ?_⟩
  · exact g _ hM'.len
  · rw [hM'.set1]
    exact q M' hM'
theorem take_ap {M N : MS} (x y : MO) (h : N.length = M.length) : (N ++ [x]).take (M ++ [y]).length = N ++ [x] := by
  rw [List.take_of_length_le]
  simp [h]
theorem take_ap1 {M N : MS} (x y z : MO) (h : N.length = M.length) : ((N ++ [x]) ++ [z]).take (M ++ [y]).length = N ++ [x] := by
  rw [List.take_append_of_le_length (by simp [h]), List.take_of_length_le (by simp [h])]
theorem take_ap0 {M N : MS} (x y : MO) : ((M ++ [x]) ++ [y]).take (M ++ [x]).length = M ++ [x] := by
  rw [List.take_append_of_le_length (by simp), List.take_of_length_le (by simp)]
abbrev tg (a b : Str) : D := .tup [.str a, .str b]
abbrev dueL : List D := [tg "round" "gains", .tup [.str "days", .int 48], tg "number" "begin", tg "number" "length", tg "number" "length", tg "rule" "rule"]
abbrev dueR : List D := [tg "number" "by", tg "number" "begin", tg "number" "days", .tup [.str "days", .int 48], tg "row" "row", tg "round" "gains"]
theorem due_py : ∃ p, toPy (.lst (dueL ++ dueR)) = some p ∧ SeqAt.shaped p = true ∧ PyData.eqv p p = true := ⟨_, rfl, by decide +kernel, by decide +kernel⟩
theorem rep_dI (n : Nat) (i : Int) : (List.replicate n [D.int i]).flatten = dI (List.replicate n i) := by
  induction n with
  | zero => rfl
  | succ n ih => rw [List.replicate_succ, List.flatten_cons, ih]; rfl
theorem ref_15 {E : EnD} {R : XR} {M : MS} {t : Nat} {o0 o1 o2 o3 o4 o5 : Option D} (hM : Ml t M) (q : E.rt (.bl true) (M ++ [.lst (dueL ++ dueR)])) :
    t__law_refused_right_15 E R [o0, o1, o2, o3, o4, o5, some (.cell 1), some (.lst dueL)] (M ++ [.lst (dueL ++ dueR)]) := by
  have hs := sizeLine_big
  have v1 : view (M ++ [MO.lst (dueL ++ dueR)]) (.cell 1) = .lst (dueL ++ dueR) := view_cell_lst (by rw [List.getElem?_append_right (by rw [hM.len]; omega), hM.len]; rfl)
  obtain ⟨p, p1, p2, p3⟩ := due_py
  simp only [t__law_refused_right_e15, sCons_ap, sRet_ap, dAndV_ap, dBin_ap, dVar_ap, dLst_ap, dCons_ap, dNil_ap, dTup_ap, dC_ap]
  refine ⟨_, rfl, _, rfl, ?_⟩
  have s2 : (2 : Nat) ≤ sizeLine := by omega
  have s6 : (6 : Nat) ≤ sizeLine := by omega
  have s12 : (6 + 6 : Nat) ≤ sizeLine := by omega
  refine ⟨rfl, s2, rfl, s2, rfl, s2, rfl, s2, rfl, s2, rfl, s2, rfl, s6, ?_⟩
  show addB (.lst dueL) (.lst dueR) _
  refine ⟨s12, ?_⟩
  rw [v1]
  refine ⟨p, p, p1, p1, p2, p2, ?_⟩
  rw [p3]
  refine ⟨true, rfl, ?_⟩
  rw [if_pos rfl]
  simp only [dLenO_ap, dMeth_ap, dMake_ap, dBin_ap, dLst_ap, dCons_ap, dNil_ap, dC_ap, view_lst, view_int]
  refine ⟨rfl, by show 1 ≤ sizeLine; omega, ?_⟩
  refine ⟨by decide, by decide, by show 1 * 24 ≤ sizeLine; omega, rfl, rfl, ?_⟩
  rw [show ((24 : Int).toNat) = 24 from rfl, rep_dI]
  refine c_round_new ⟨by decide, by decide⟩ ?_
  refine ⟨⟨_, _, rfl, by decide⟩, rfl, rfl, ?_⟩
  refine c_Round_twice ⟨by decide, by decide⟩ (fun _ => ?_) (fun e => absurd e (by decide))
  simp only [adF_ap]
  refine ⟨⟨_, _, rfl⟩, ?_⟩
  refine c_Round_X__len_X_ ?_
  refine ⟨_, rfl, by decide, by decide, ?_⟩
  simp only [view_int, eqB_int]
  exact q
theorem ref_14 {E : EnD} {R : XR} {M : MS} {t : Nat} {o0 o1 o2 o3 o4 o5 o7 : Option D} (hM : Ml t M) (q : E.rt (.bl true) (M ++ [.lst (dueL ++ dueR)])) :
    t__law_refused_right_14 E R [o0, o1, o2, o3, o4, o5, some (.cell 1), o7] (M ++ [.lst (dueL ++ dueR)]) := by
  have hs := sizeLine_big
  have s2 : (2 : Nat) ≤ sizeLine := by omega
  have s6 : (6 : Nat) ≤ sizeLine := by omega
  simp only [t__law_refused_right_e14, sCons_ap, sSet_ap, dLst_ap, dCons_ap, dNil_ap, dTup_ap, dC_ap]
  exact ⟨rfl, s2, rfl, s2, rfl, s2, rfl, s2, rfl, s2, rfl, s2, rfl, s6, ref_15 hM q⟩
theorem okG_ins {C : Str} {ks : List Str} {xs : List D} (h : okV (.ins C ks xs) = true) : okG (.ins C ks xs) := by
  refine ⟨h, ?_, ?_⟩
  · intro s e; cases e
  · intro ys e; cases e
theorem ref_13 (hisa : Tb.isa = isa) {E : EnD} {R : XR} {M : MS} {t : Nat} {o0 o1 o2 o3 o4 o5 o7 : Option D} (hM : Ml t M) (q : ∀ M', Ml (t + 1) M' → E.rt (.bl true) (M' ++ [.lst (dueL ++ dueR)])) :
    t__law_refused_right_13 E R [o0, o1, o2, o3, o4, o5, some (.cell 1), o7] (M ++ [.lst (dueL ++ dueR.take 5)]) := by
  have hs := sizeLine_big
  rw [t__law_refused_right_e13, sCons_ap]
  refine heard_step hM rfl (by decide) (d := tg "round" "gains") rfl (fun M' hM' => ref_14 hM' (q M' hM')) fun K hK kk => ?_
  simp only [dMake_ap, dLst_ap, dCons_ap, dNil_ap, dC_ap]
  refine ⟨rfl, by show 2 ≤ sizeLine; omega, rfl, rfl, ?_⟩
  refine c_Row_X__init_X_ (ns := [1, 2]) ⟨by decide, by decide⟩ ?_
  refine ⟨rfl, rfl, ?_⟩
  refine c_Round_X__init_X_ (d := rowD [1, 2]) (okG_ins rfl) (fun e => ?_) (fun ms e => by cases e) (fun ms e => by cases e)
  refine hX_round hisa ?_
  rw [take_ap0 (N := M)]
  exact hK M (hM.mono (by omega))
theorem ref_12 (hisa : Tb.isa = isa) {E : EnD} {R : XR} {M : MS} {t : Nat} {ns : List Int} {o0 o2 o3 o4 o5 o7 : Option D} (h : Ln ns) (hM : Ml t M) (q : ∀ M', Ml (t + 2) M' → E.rt (.bl true) (M' ++ [.lst (dueL ++ dueR)])) :
    t__law_refused_right_12 E R [o0, some (roundD ns), o2, o3, o4, o5, some (.cell 1), o7] (M ++ [.lst (dueL ++ dueR.take 4)]) := by
  rw [t__law_refused_right_e12, sCons_ap]
  refine heard_step hM rfl (by decide) (d := tg "row" "row") rfl (fun M' hM' => ref_13 hisa hM' (fun M2 h2 => q M2 (by simpa using h2))) fun K hK kk => ?_
  simp only [dMeth_ap, dMake_ap, dCons_ap, dNil_ap, dC_ap, dVar_ap]
  refine ⟨rfl, rfl, ?_⟩
  refine c_Rule_X__init_X_ (l := 1) (lo := .int 0) (hi := .non) (by decide) (by decide) rfl rfl rfl ?_
  refine ⟨⟨_, _, rfl, by decide⟩, _, rfl, rfl, rfl, ?_⟩
  refine c_Rule_keeps (by decide) (by decide) rfl rfl rfl (.inr ⟨by simp +decide [tag, roundD], ?_⟩)
  refine hX_row hisa ?_
  rw [take_ap _ _ rfl]
  exact hK M (hM.mono (by omega))
theorem ref_11 (hisa : Tb.isa = isa) {E : EnD} {R : XR} {M : MS} {t : Nat} {ns : List Int} {o0 o2 o3 o4 o5 o7 : Option D} (h : Ln ns) (hM : Ml t M) (q : ∀ M', Ml (t + 3) M' → E.rt (.bl true) (M' ++ [.lst (dueL ++ dueR)])) :
    t__law_refused_right_11 E R [o0, some (roundD ns), o2, o3, o4, o5, some (.cell 1), o7] (M ++ [.lst (dueL ++ dueR.take 3)]) := by
  have hs := sizeLine_big
  rw [t__law_refused_right_e11, sCons_ap]
  refine heard_step hM rfl (by decide) (d := .tup [.str "days", .int 48]) rfl (fun M' hM' => ref_12 hisa h hM' (fun M2 h2 => q M2 (by simpa using h2))) fun K hK kk => ?_
  simp only [dMeth_ap, dMake_ap, dBin_ap, dLst_ap, dCons_ap, dNil_ap, dC_ap, view_lst, view_int]
  refine ⟨rfl, by show 1 ≤ sizeLine; omega, ?_⟩
  refine ⟨by decide, by decide, by show 1 * 25 ≤ sizeLine; omega, rfl, rfl, ?_⟩
  rw [show ((25 : Int).toNat) = 25 from rfl, rep_dI]
  refine c_round_new ⟨by decide, by decide⟩ ?_
  refine ⟨⟨_, _, rfl, by decide⟩, rfl, rfl, ?_⟩
  refine c_Round_twice ⟨by decide, by decide⟩ (fun e => absurd e (by decide)) (fun _ => ?_)
  refine hX_many hisa ?_
  rw [take_ap _ _ rfl]
  exact hK M (hM.mono (by omega))
theorem ref_10 (hisa : Tb.isa = isa) {E : EnD} {R : XR} {M : MS} {t : Nat} {ns : List Int} {o2 o3 o4 o5 o7 : Option D} (h : Ln ns) (hM : Ml t M) (ht : t ≤ 9990) (q : ∀ M', Ml (t + 4) M' → E.rt (.bl true) (M' ++ [.lst (dueL ++ dueR)])) :
    t__law_refused_right_10 E R [some (.cell 0), some (roundD ns), o2, o3, o4, o5, some (.cell 1), o7] (M ++ [.lst (dueL ++ dueR.take 2)]) := by
  have hs := sizeLine_big
  rw [t__law_refused_right_e10, sCons_ap]
  refine heard_step hM rfl (by decide) (d := tg "number" "days") rfl (fun M' hM' => ref_11 hisa h hM' (fun M2 h2 => q M2 (by simpa using h2))) fun K hK kk => ?_
  simp only [dMeth_ap, dCall_ap, dUn_ap, dBin_ap, dLst_ap, dCons_ap, dNil_ap, dC_ap, dVar_ap, view_lst, view_int, powB_ap, negB_ap]
  refine ⟨_, rfl, ⟨_, _, rfl, by decide⟩, ⟨by decide, by decide, by decide⟩, _, rfl, rfl, by show 5 ≤ sizeLine; omega, rfl, rfl, ?_⟩
  refine g_pick hM (by omega) (by decide) (by decide) rfl fun d M1 hd hM1 => ?_
  have hd' : okV d = true ∧ within d (.int 1) (.int 48) = false ∧ adopt d = d := by
    simp only [List.mem_cons, List.not_mem_nil, or_false] at hd
    rcases hd with rfl | rfl | rfl | rfl | rfl <;> exact ⟨rfl, by decide, rfl⟩
  simp only [adF_ap, hd'.2.2]
  refine ⟨rfl, rfl, ?_⟩
  refine c_Round_row h rfl hd'.1 (fun e => by cases e) (fun _ _ => ?_) (fun b' m' e1 e2 l1' l2' => ?_)
  · refine hX_number hisa ?_
    rw [take_ap _ _ (by rw [hM.len, hM1.len])]
    exact hK M1 hM1
  · rw [e2] at hd'
    have := hd'.2.1
    simp [within] at this
    omega
theorem ref_9 (hisa : Tb.isa = isa) {E : EnD} {R : XR} {M : MS} {t : Nat} {ns : List Int} {o2 o3 o7 : Option D} {b n : D} (h : Ln ns) (hb : okV b = true ∧ isI b = false) (hn : okV n = true ∧ within n (.int 1) .non = false) (hM : Ml t M) (ht : t ≤ 9980) (q : ∀ M', Ml (t + 5) M' → E.rt (.bl true) (M' ++ [.lst (dueL ++ dueR)])) :
    t__law_refused_right_9 E R [some (.cell 0), some (roundD ns), o2, o3, some b, some n, some (.cell 1), o7] (M ++ [.lst (dueL ++ dueR.take 1)]) := by
  rw [t__law_refused_right_e9, sCons_ap]
  refine heard_step hM rfl (by decide) (d := tg "number" "begin") rfl (fun M' hM' => ref_10 hisa h hM' (by omega) (fun M2 h2 => q M2 (by simpa using h2))) fun K hK kk => ?_
  simp only [dMeth_ap, dCons_ap, dNil_ap, dVar_ap]
  refine ⟨_, rfl, ⟨_, _, rfl, by decide⟩, _, rfl, _, rfl, rfl, rfl, ?_⟩
  refine c_Round_row h hb.1 hn.1 (fun _ => ?_) (fun e => by rw [hb.2] at e; cases e) (fun b' m' e1 => by rw [e1] at hb; cases hb.2)
  refine hX_number hisa ?_
  rw [take_ap _ _ rfl]
  exact hK M (hM.mono (by omega))
theorem ref_8 (hisa : Tb.isa = isa) {E : EnD} {R : XR} {M : MS} {t : Nat} {ns : List Int} {o2 o3 o7 : Option D} {b n : D} (h : Ln ns) (hb : okV b = true ∧ isI b = false) (hn : okV n = true ∧ within n (.int 1) .non = false) (hM : Ml t M) (ht : t ≤ 9970) (q : ∀ M', Ml (t + 6) M' → E.rt (.bl true) (M' ++ [.lst (dueL ++ dueR)])) :
    t__law_refused_right_8 E R [some (.cell 0), some (roundD ns), o2, o3, some b, some n, some (.cell 1), o7] (M ++ [.lst dueL]) := by
  rw [t__law_refused_right_e8, sCons_ap]
  refine heard_step hM rfl (by decide) (d := tg "number" "by") rfl (fun M' hM' => ref_9 hisa h hb hn hM' (by omega) (fun M2 h2 => q M2 (by simpa using h2))) fun K hK kk => ?_
  simp only [dMeth_ap, dCons_ap, dNil_ap, dVar_ap]
  refine ⟨_, rfl, ⟨_, _, rfl, by decide⟩, _, rfl, rfl, rfl, ?_⟩
  refine c_Round_turned h hb.1 (fun _ => ?_) (fun b' e1 => by rw [e1] at hb; cases hb.2)
  refine hX_number hisa ?_
  rw [take_ap _ _ rfl]
  exact hK M (hM.mono (by omega))
theorem ref_7 (hisa : Tb.isa = isa) {E : EnD} {R : XR} {M : MS} {t : Nat} {ns : List Int} {o2 o3 o7 : Option D} {b n : D} (h : Sm ns) (hb : okV b = true ∧ isI b = false) (hn : okV n = true ∧ within n (.int 1) .non = false) (hM : Ml t M) (ht : t ≤ 9960) (q : ∀ M', Ml (t + 7) M' → E.rt (.bl true) (M' ++ [.lst (dueL ++ dueR)])) :
    t__law_refused_right_7 E R [some (.cell 0), some (roundD ns), o2, o3, some b, some n, some (.cell 1), o7] (M ++ [.lst (dueL.take 5)]) := by
  have hs := sizeLine_big
  rw [t__law_refused_right_e7, sCons_ap]
  refine heard_step hM rfl (by decide) (d := tg "rule" "rule") rfl (fun M' hM' => ref_8 hisa h.1 hb hn hM' (by omega) (fun M2 h2 => q M2 (by simpa using h2))) fun K hK kk => ?_
  simp only [dMeth_ap, dCall_ap, dMake_ap, dTup_ap, dLst_ap, dCons_ap, dNil_ap, dC_ap, dVar_ap]
  refine ⟨_, rfl, ⟨_, _, rfl, by decide⟩, _, rfl, rfl, by show 3 ≤ sizeLine; omega, _, rfl, rfl, rfl, ?_⟩
  refine c_Some_X__init_X_ (l := 3) (lo := .int 0) (hi := .int 1) (by decide) (by decide) rfl rfl rfl ?_
  refine ⟨rfl, by show 1 ≤ sizeLine; omega, rfl, rfl, ?_⟩
  refine c_Row_X__init_X_ (ns := [3]) ⟨by decide, by decide⟩ ?_
  refine ⟨rfl, by show 7 ≤ sizeLine; omega, rfl, rfl, ?_⟩
  refine g_pick hM (by omega) (by simp) (by simp) rfl fun d M1 hd hM1 => ?_
  have hd' : okV d = true ∧ tag d ≠ some (.c "Rule") ∧ adopt d = d := by
    simp only [List.mem_cons, List.not_mem_nil, or_false] at hd
    rcases hd with rfl | rfl | rfl | rfl | rfl | rfl | rfl <;> exact ⟨rfl, by simp +decide [tag, roundD, someD], rfl⟩
  simp only [adF_ap, hd'.2.2]
  refine ⟨rfl, rfl, ?_⟩
  refine c_Round_keeps h hd'.1 (.inr ⟨hd'.2.1, ?_⟩)
  refine hX_rule hisa ?_
  rw [take_ap _ _ (by rw [hM.len, hM1.len])]
  exact hK M1 hM1
theorem ref_6 (hisa : Tb.isa = isa) {E : EnD} {R : XR} {M : MS} {t : Nat} {ns : List Int} {o2 o3 o7 : Option D} {b n : D} (h : Sm ns) (hb : okV b = true ∧ isI b = false) (hn : okV n = true ∧ within n (.int 1) .non = false) (hM : Ml t M) (ht : t ≤ 9950) (q : ∀ M', Ml (t + 8) M' → E.rt (.bl true) (M' ++ [.lst (dueL ++ dueR)])) :
    t__law_refused_right_6 E R [some (.cell 0), some (roundD ns), o2, o3, some b, some n, some (.cell 1), o7] (M ++ [.lst (dueL.take 4)]) := by
  rw [t__law_refused_right_e6, sCons_ap]
  refine heard_step hM rfl (by decide) (d := tg "number" "length") rfl (fun M' hM' => ref_7 hisa h hb hn hM' (by omega) (fun M2 h2 => q M2 (by simpa using h2))) fun K hK kk => ?_
  simp only [dMeth_ap, dCons_ap, dNil_ap, dVar_ap]
  refine ⟨_, rfl, ⟨_, _, rfl, by decide⟩, _, rfl, rfl, rfl, ?_⟩
  refine c_Round_sort_of h hn.1 (fun l e1 l1 => ?_) (fun _ => ?_)
  · have := hn.2
    rw [e1] at this
    simp [within] at this
    omega
  · refine hX_number hisa ?_
    rw [take_ap _ _ rfl]
    exact hK M (hM.mono (by omega))
theorem ref_5 (hisa : Tb.isa = isa) {E : EnD} {R : XR} {M : MS} {t : Nat} {ns : List Int} {o2 o3 o7 : Option D} {b n : D} (h : Sm ns) (hb : okV b = true ∧ isI b = false) (hn : okV n = true ∧ within n (.int 1) .non = false) (hM : Ml t M) (ht : t ≤ 9940) (q : ∀ M', Ml (t + 9) M' → E.rt (.bl true) (M' ++ [.lst (dueL ++ dueR)])) :
    t__law_refused_right_5 E R [some (.cell 0), some (roundD ns), o2, o3, some b, some n, some (.cell 1), o7] (M ++ [.lst (dueL.take 3)]) := by
  rw [t__law_refused_right_e5, sCons_ap]
  refine heard_step hM rfl (by decide) (d := tg "number" "length") rfl (fun M' hM' => ref_6 hisa h hb hn hM' (by omega) (fun M2 h2 => q M2 (by simpa using h2))) fun K hK kk => ?_
  simp only [dMeth_ap, dCons_ap, dNil_ap, dVar_ap, dC_ap]
  refine ⟨_, rfl, ⟨_, _, rfl, by decide⟩, _, rfl, rfl, rfl, ?_⟩
  refine c_Round_sum_of h rfl hn.1 (fun e => by cases e) (fun _ _ => ?_) (fun b' l e1 e2 l1 => ?_)
  · refine hX_number hisa ?_
    rw [take_ap _ _ rfl]
    exact hK M (hM.mono (by omega))
  · have := hn.2
    rw [e2] at this
    simp [within] at this
    omega
theorem ref_4 (hisa : Tb.isa = isa) {E : EnD} {R : XR} {M : MS} {t : Nat} {ns : List Int} {o2 o3 o7 : Option D} {b n : D} (h : Sm ns) (hb : okV b = true ∧ isI b = false) (hn : okV n = true ∧ within n (.int 1) .non = false) (hM : Ml t M) (ht : t ≤ 9930) (q : ∀ M', Ml (t + 10) M' → E.rt (.bl true) (M' ++ [.lst (dueL ++ dueR)])) :
    t__law_refused_right_4 E R [some (.cell 0), some (roundD ns), o2, o3, some b, some n, some (.cell 1), o7] (M ++ [.lst (dueL.take 2)]) := by
  rw [t__law_refused_right_e4, sCons_ap]
  refine heard_step hM rfl (by decide) (d := tg "number" "begin") rfl (fun M' hM' => ref_5 hisa h hb hn hM' (by omega) (fun M2 h2 => q M2 (by simpa using h2))) fun K hK kk => ?_
  simp only [dMeth_ap, dCons_ap, dNil_ap, dVar_ap, dC_ap]
  refine ⟨_, rfl, ⟨_, _, rfl, by decide⟩, _, rfl, _, rfl, rfl, rfl, ?_⟩
  refine c_Round_sum_of h hb.1 hn.1 (fun _ => ?_) (fun e => by rw [hb.2] at e; cases e) (fun b' l e1 => by rw [e1] at hb; cases hb.2)
  refine hX_number hisa ?_
  rw [take_ap _ _ rfl]
  exact hK M (hM.mono (by omega))
theorem ref_3 (hisa : Tb.isa = isa) {E : EnD} {R : XR} {M : MS} {t : Nat} {ns : List Int} {o2 o3 o7 : Option D} {b n : D} (h : Sm ns) (hb : okV b = true ∧ isI b = false) (hn : okV n = true ∧ within n (.int 1) .non = false) (hM : Ml t M) (ht : t ≤ 9920) (q : ∀ M', Ml (t + 11) M' → E.rt (.bl true) (M' ++ [.lst (dueL ++ dueR)])) :
    t__law_refused_right_3 E R [some (.cell 0), some (roundD ns), o2, o3, some b, some n, some (.cell 1), o7] (M ++ [.lst (dueL.take 1)]) := by
  have hs := sizeLine_big
  rw [t__law_refused_right_e3, sCons_ap]
  refine heard_step hM rfl (by decide) (d := .tup [.str "days", .int 48]) rfl (fun M' hM' => ref_4 hisa h hb hn hM' (by omega) (fun M2 h2 => q M2 (by simpa using h2))) fun K hK kk => ?_
  simp only [dMake_ap, dBin_ap, dLst_ap, dCons_ap, dNil_ap, dC_ap, view_lst, view_int]
  refine ⟨rfl, by show 1 ≤ sizeLine; omega, ?_⟩
  refine ⟨by decide, by decide, by show 1 * 49 ≤ sizeLine; omega, rfl, rfl, ?_⟩
  rw [show ((49 : Int).toNat) = 49 from rfl, rep_dI]
  refine c_round_many (by decide) (by decide) ?_
  refine hX_many hisa ?_
  rw [take_ap0 (N := M)]
  exact hK M (hM.mono (by omega))
/-- what makes no round -/
def Odd (d : D) : Prop := okG d ∧ (intsOf d = none ∨ intsOf d = some []) ∧ adopt d = d
theorem ref_2 (hisa : Tb.isa = isa) {E : EnD} {R : XR} {M : MS} {t : Nat} {ns : List Int} {o2 o6 o7 : Option D} {od b n : D} (h : Sm ns) (ho : Odd od) (hb : okV b = true ∧ isI b = false) (hn : okV n = true ∧ within n (.int 1) .non = false) (hM : Ml t M) (ht : t ≤ 9910) (q : ∀ M', Ml (t + 12) M' → E.rt (.bl true) (M' ++ [.lst (dueL ++ dueR)])) :
    t__law_refused_right_2 E R [some (.cell 0), some (roundD ns), o2, some od, some b, some n, o6, o7] M := by
  have hs := sizeLine_big
  have hl := hM.len
  simp only [t__law_refused_right_e2, sCons_ap, sSet_ap, dLstC_ap, dCons_ap, dNil_ap]
  refine heard_of fun kk => ?_
  simp only [dMake_ap, dCons_ap, dNil_ap, dVar_ap]
  refine ⟨_, rfl, rfl, rfl, ?_⟩
  refine c_Round_X__init_X_ ho.1 (fun _ => ?_) (fun ms e l => ?_) (fun ms e l => ?_)
  · refine hX_round hisa ?_
    rw [List.take_append_of_le_length (by omega), List.take_of_length_le (by omega)]
    refine ⟨rfl, by show 1 ≤ sizeLine; omega, ?_⟩
    rw [hl]
    exact ref_3 hisa h hb hn (hM.mono (by omega : t ≤ t + 1)) (by omega) (fun M2 h2 => q M2 (by simpa [Nat.add_assoc] using h2))
  · rcases ho.2.1 with e' | e'
    · rw [e'] at e; cases e
    · rw [e'] at e; cases e; simp at l
  · rcases ho.2.1 with e' | e'
    · rw [e'] at e; cases e
    · rw [e'] at e; cases e; exact absurd l.1 (by simp)
theorem odd_of {d : D} {ns : List Int} (h : d ∈ [D.non, .int 5, .lst [], .tup [], .str "1 2", .lst [.int 1, .non], .lst [.bl true], .lst [.lst [.int 1]], .dct [] [], .dct [.inl 1] [.int 2], roundD ns, .lst (dI (List.replicate 49 1) ++ [.str "0"])]) : Odd d := by
  simp only [List.mem_cons, List.not_mem_nil, or_false] at h
  have g : ∀ xs : List D, okV (.lst xs) = true → xs.length ≤ 1000 → (∀ y ∈ xs, okV y = true) → (toInts xs = none ∨ toInts xs = some []) → Odd (.lst xs) := fun xs h1 h2 h3 h4 => by
    refine ⟨⟨h1, ?_, ?_⟩, h4, rfl⟩
    · intro s e; cases e
    · intro ys e; cases e; exact ⟨h2, h3⟩
  have g0 : ∀ d : D, okV d = true → itemsD d = none → (∀ s, d ≠ .scr s) → adopt d = d → Odd d := fun d h1 h2 h3 h4 => by
    refine ⟨⟨h1, h3, ?_⟩, .inl (by simp [intsOf, h2]), h4⟩
    intro ys e; rw [h2] at e; cases e
  rcases h with rfl | rfl | rfl | rfl | rfl | rfl | rfl | rfl | rfl | rfl | rfl | rfl
  · exact g0 _ rfl rfl (fun s e => by cases e) rfl
  · exact g0 _ rfl rfl (fun s e => by cases e) rfl
  · exact g _ rfl (by simp) (by simp) (.inr rfl)
  · refine ⟨⟨rfl, ?_, ?_⟩, .inr rfl, rfl⟩
    · intro s e; cases e
    · intro ys e; cases e; simp
  · exact g0 _ rfl rfl (fun s e => by cases e) rfl
  · exact g _ rfl (by simp) (by intro y hy; simp at hy; rcases hy with rfl | rfl <;> rfl) (.inl rfl)
  · exact g _ rfl (by simp) (by simp; rfl) (.inl rfl)
  · exact g _ rfl (by simp) (by simp; rfl) (.inl rfl)
  · exact g0 _ rfl rfl (fun s e => by cases e) rfl
  · exact g0 _ rfl rfl (fun s e => by cases e) rfl
  · exact g0 _ rfl rfl (fun s e => by cases e) rfl
  · refine g _ rfl (by simp) (fun y hy => ?_) (.inl (by decide +kernel))
    rcases List.mem_append.mp hy with hy | hy
    · obtain ⟨i, _, rfl⟩ := List.mem_map.mp hy
      rfl
    · rw [List.mem_singleton.mp hy]; rfl
theorem v__law_refused_right (hisa : Tb.isa = isa) (ds : List D) (M : MS) (k : KD) (x : XD) (h : sp__law_refused_right ds M k x) : t__law_refused_right (enD M.length k) (fun e _ M' => x e (M'.take M.length)) (startD ["_law_mill_here", "_law_around", "_law_gains_here", "_law_odd", "_law_bad", "_law_none", "_law_heard_here", "_law_due"] ds) M := by
  obtain ⟨b, ns, rfl, hs, hM, hb, q⟩ := h
  have hl := hM.len
  have hz := sizeLine_big
  rw [t__law_refused_right_e0]
  simp only [sCons_ap, sSet_ap, dCall_ap, dCons_ap, dNil_ap, dVar_ap, dLst_ap, dTup_ap, dC_ap, dBin_ap, view_lst, view_int]
  refine ⟨_, rfl, rfl, by show 0 ≤ sizeLine; omega, rfl, by show 0 ≤ sizeLine; omega, rfl, by show 2 ≤ sizeLine; omega, rfl, by show 1 ≤ sizeLine; omega, rfl, by show 1 ≤ sizeLine; omega, rfl, by show 1 ≤ sizeLine; omega, _, rfl, rfl, by show 1 ≤ sizeLine; omega, ?_⟩
  refine ⟨by decide, by decide, by show 1 * 49 ≤ sizeLine; omega, rfl, by show 1 ≤ sizeLine; omega, ?_⟩
  rw [show ((49 : Int).toNat) = 49 from rfl, rep_dI]
  refine ⟨by show (dI (List.replicate 49 1)).length + 1 ≤ sizeLine; simp; omega, rfl, by show 12 ≤ sizeLine; omega, rfl, rfl, ?_⟩
  rw [show M = M ++ [] by simp]
  refine g_pick hM (by omega) (by simp) (by simp) rfl fun od M1 hod hM1 => ?_
  have ho := odd_of hod
  rw [adF_ap, ho.2.2]
  rw [t__law_refused_right_e1]
  simp only [sCons_ap, sAsg_ap, dCall_ap, dCons_ap, dNil_ap, dVar_ap, dLst_ap, dTup_ap, dC_ap, dUn_ap, view_int, negB_ap]
  refine ⟨_, rfl, rfl, by show 1 ≤ sizeLine; omega, rfl, by show 0 ≤ sizeLine; omega, rfl, by show 5 ≤ sizeLine; omega, rfl, rfl, ?_⟩
  refine g_pick hM1 (by omega) (by simp) (by simp) rfl fun bd M2 hbd hM2 => ?_
  have hb' : (okV bd = true ∧ isI bd = false) ∧ adopt bd = bd := by
    simp only [List.mem_cons, List.not_mem_nil, or_false] at hbd
    rcases hbd with rfl | rfl | rfl | rfl | rfl <;> exact ⟨⟨rfl, rfl⟩, rfl⟩
  rw [adF_ap, hb'.2]
  refine ⟨_, rfl, rfl, by show 1 ≤ sizeLine; omega, _, rfl, rfl, by show 7 ≤ sizeLine; omega, rfl, rfl, ?_⟩
  refine g_pick hM2 (by omega) (by simp) (by simp) rfl fun nn M3 hnn hM3 => ?_
  have hn' : (okV nn = true ∧ within nn (.int 1) .non = false) ∧ adopt nn = nn := by
    simp only [List.mem_cons, List.not_mem_nil, or_false] at hnn
    rcases hnn with rfl | rfl | rfl | rfl | rfl | rfl | rfl <;> exact ⟨⟨rfl, by first | rfl | decide⟩, rfl⟩
  rw [adF_ap, hn'.2]
  simp only [List.append_nil]
  refine ⟨by
    have h1 := okV_pure hb'.1.1
    have h2 := okV_pure hn'.1.1
    simp [h1, h2], by show 2 ≤ sizeLine; omega, _, rfl, rfl, _, _, rfl, _, _, rfl, rfl, ?_⟩
  refine ref_2 hisa hs ho hb'.1 hn'.1 hM3 (by omega) fun M' hM' => ?_
  have e1 : (M' ++ [MO.lst (dueL ++ dueR)]).take M.length = M' := by
    rw [hl, ← hM'.len, List.take_left]
  show k (.bl true) ((M' ++ [MO.lst (dueL ++ dueR)]).take _)
  have e2 : (M' ++ [MO.lst (dueL ++ dueR)]).take (M ++ []).length = M' := by rw [List.append_nil]; exact e1
  first
    | rw [e1]
    | rw [e2]
  exact q M' (hM'.mono (by omega))
end K72
set_option Elab.async false
set_option linter.all false
set_option maxRecDepth 100000
set_option maxHeartbeats 4000000
set_option autoImplicit false
/-! K72o: each def keeps its promise; the end (printed by endgen.py). -/
namespace K72
open PySem PySem.Spec PyProof.Rows L2 Dl
section
variable [Tb]

theorem ok__law_mill {P : Program} {W : World} {K : PySem.W.Frag} {mg : Str → Option Value} {base : Heap} (hisa : Tb.isa = isa) (T : Fx K mg)  : Fn P W K mg base 1 (clA mg ("_law_mill" : Str)) ["_law_script"] sp__law_mill :=
  fnD T.d__law_mill sc__law_mill (fun ds M k x h => by
    unfold sp__law_mill at h
    first
      | (obtain ⟨rfl, _⟩ := h; rfl)
      | (obtain ⟨_, rfl, _⟩ := h; rfl)
      | (obtain ⟨_, _, rfl, _⟩ := h; rfl)
      | (obtain ⟨_, _, _, rfl, _⟩ := h; rfl)
      | (obtain ⟨_, _, _, _, rfl, _⟩ := h; rfl)
      | (obtain ⟨_, _, _, _, _, rfl, _⟩ := h; rfl)) (fun cdv A outer s H E hr => b__law_mill T  hr) (v__law_mill)
theorem ok__law_grind {P : Program} {W : World} {K : PySem.W.Frag} {mg : Str → Option Value} {base : Heap} (hisa : Tb.isa = isa) (T : Fx K mg)  : Fn P W K mg base 1 (clA mg ("_law_grind" : Str)) ["_law_mill_here", "_law_many"] sp__law_grind :=
  fnD T.d__law_grind sc__law_grind (fun ds M k x h => by
    unfold sp__law_grind at h
    first
      | (obtain ⟨rfl, _⟩ := h; rfl)
      | (obtain ⟨_, rfl, _⟩ := h; rfl)
      | (obtain ⟨_, _, rfl, _⟩ := h; rfl)
      | (obtain ⟨_, _, _, rfl, _⟩ := h; rfl)
      | (obtain ⟨_, _, _, _, rfl, _⟩ := h; rfl)
      | (obtain ⟨_, _, _, _, _, rfl, _⟩ := h; rfl)) (fun cdv A outer s H E hr => b__law_grind T  hr) (v__law_grind)
theorem ok__law_gains {P : Program} {W : World} {K : PySem.W.Frag} {mg : Str → Option Value} {base : Heap} (hisa : Tb.isa = isa) (T : Fx K mg) (G__law_grind : Fn P W K mg base 1 (clA mg ("_law_grind" : Str)) ["_law_mill_here", "_law_many"] sp__law_grind) : Fn P W K mg base 2 (clA mg ("_law_gains" : Str)) ["_law_mill_here"] sp__law_gains :=
  fnD T.d__law_gains sc__law_gains (fun ds M k x h => by
    unfold sp__law_gains at h
    first
      | (obtain ⟨rfl, _⟩ := h; rfl)
      | (obtain ⟨_, rfl, _⟩ := h; rfl)
      | (obtain ⟨_, _, rfl, _⟩ := h; rfl)
      | (obtain ⟨_, _, _, rfl, _⟩ := h; rfl)
      | (obtain ⟨_, _, _, _, rfl, _⟩ := h; rfl)
      | (obtain ⟨_, _, _, _, _, rfl, _⟩ := h; rfl)) (fun cdv A outer s H E hr => b__law_gains T G__law_grind hr) (v__law_gains)
theorem ok_is_integer {P : Program} {W : World} {K : PySem.W.Frag} {mg : Str → Option Value} {base : Heap} (hisa : Tb.isa = isa) (T : Fx K mg)  : Fn P W K mg base 1 (clA mg ("is_integer" : Str)) ["value"] sp_is_integer :=
  fnD T.d_is_integer sc_is_integer (fun ds M k x h => by
    unfold sp_is_integer at h
    first
      | (obtain ⟨rfl, _⟩ := h; rfl)
      | (obtain ⟨_, rfl, _⟩ := h; rfl)
      | (obtain ⟨_, _, rfl, _⟩ := h; rfl)
      | (obtain ⟨_, _, _, rfl, _⟩ := h; rfl)
      | (obtain ⟨_, _, _, _, rfl, _⟩ := h; rfl)
      | (obtain ⟨_, _, _, _, _, rfl, _⟩ := h; rfl)) (fun cdv A outer s H E hr => b_is_integer T  hr) (v_is_integer hisa)
theorem ok_are_integers {P : Program} {W : World} {K : PySem.W.Frag} {mg : Str → Option Value} {base : Heap} (hisa : Tb.isa = isa) (T : Fx K mg) (G_is_integer : Fn P W K mg base 1 (clA mg ("is_integer" : Str)) ["value"] sp_is_integer) : Fn P W K mg base 2 (clA mg ("are_integers" : Str)) ["value"] sp_are_integers :=
  fnD T.d_are_integers sc_are_integers (fun ds M k x h => by
    unfold sp_are_integers at h
    first
      | (obtain ⟨rfl, _⟩ := h; rfl)
      | (obtain ⟨_, rfl, _⟩ := h; rfl)
      | (obtain ⟨_, _, rfl, _⟩ := h; rfl)
      | (obtain ⟨_, _, _, rfl, _⟩ := h; rfl)
      | (obtain ⟨_, _, _, _, rfl, _⟩ := h; rfl)
      | (obtain ⟨_, _, _, _, _, rfl, _⟩ := h; rfl)) (fun cdv A outer s H E hr => b_are_integers T G_is_integer hr) (v_are_integers hisa)
theorem ok_Round_X__init_X_ {P : Program} {W : World} {K : PySem.W.Frag} {mg : Str → Option Value} {base : Heap} (hisa : Tb.isa = isa) (T : Fx K mg) (G_are_integers : Fn P W K mg base 2 (clA mg ("are_integers" : Str)) ["value"] sp_are_integers) : Fn P W K mg base 3 (He.ma K (clA mg ("Round" : Str)) ("__init__" : Str)) ["self", "gains"] sp_Round_X__init_X_ :=
  fnD T.d_Round_X__init_X_ sc_Round_X__init_X_ (fun ds M k x h => by
    unfold sp_Round_X__init_X_ at h
    first
      | (obtain ⟨rfl, _⟩ := h; rfl)
      | (obtain ⟨_, rfl, _⟩ := h; rfl)
      | (obtain ⟨_, _, rfl, _⟩ := h; rfl)
      | (obtain ⟨_, _, _, rfl, _⟩ := h; rfl)
      | (obtain ⟨_, _, _, _, rfl, _⟩ := h; rfl)
      | (obtain ⟨_, _, _, _, _, rfl, _⟩ := h; rfl)) (fun cdv A outer s H E hr => b_Round_X__init_X_ T G_are_integers hr) (v_Round_X__init_X_)
theorem ok_Round_X__eq_X_ {P : Program} {W : World} {K : PySem.W.Frag} {mg : Str → Option Value} {base : Heap} (hisa : Tb.isa = isa) (T : Fx K mg)  : Fn P W K mg base 1 (He.ma K (clA mg ("Round" : Str)) ("__eq__" : Str)) ["self", "other"] sp_Round_X__eq_X_ :=
  fnD T.d_Round_X__eq_X_ sc_Round_X__eq_X_ (fun ds M k x h => by
    unfold sp_Round_X__eq_X_ at h
    first
      | (obtain ⟨rfl, _⟩ := h; rfl)
      | (obtain ⟨_, rfl, _⟩ := h; rfl)
      | (obtain ⟨_, _, rfl, _⟩ := h; rfl)
      | (obtain ⟨_, _, _, rfl, _⟩ := h; rfl)
      | (obtain ⟨_, _, _, _, rfl, _⟩ := h; rfl)
      | (obtain ⟨_, _, _, _, _, rfl, _⟩ := h; rfl)) (fun cdv A outer s H E hr => b_Round_X__eq_X_ T  hr) (v_Round_X__eq_X_ hisa)
theorem ok_Round_X__len_X_ {P : Program} {W : World} {K : PySem.W.Frag} {mg : Str → Option Value} {base : Heap} (hisa : Tb.isa = isa) (T : Fx K mg)  : Fn P W K mg base 1 (He.ma K (clA mg ("Round" : Str)) ("__len__" : Str)) ["self"] sp_Round_X__len_X_ :=
  fnD T.d_Round_X__len_X_ sc_Round_X__len_X_ (fun ds M k x h => by
    unfold sp_Round_X__len_X_ at h
    first
      | (obtain ⟨rfl, _⟩ := h; rfl)
      | (obtain ⟨_, rfl, _⟩ := h; rfl)
      | (obtain ⟨_, _, rfl, _⟩ := h; rfl)
      | (obtain ⟨_, _, _, rfl, _⟩ := h; rfl)
      | (obtain ⟨_, _, _, _, rfl, _⟩ := h; rfl)
      | (obtain ⟨_, _, _, _, _, rfl, _⟩ := h; rfl)) (fun cdv A outer s H E hr => b_Round_X__len_X_ T  hr) (v_Round_X__len_X_)
theorem ok_is_within {P : Program} {W : World} {K : PySem.W.Frag} {mg : Str → Option Value} {base : Heap} (hisa : Tb.isa = isa) (T : Fx K mg) (G_is_integer : Fn P W K mg base 1 (clA mg ("is_integer" : Str)) ["value"] sp_is_integer) : Fn P W K mg base 2 (clA mg ("is_within" : Str)) ["value", "least", "most"] sp_is_within :=
  fnD T.d_is_within sc_is_within (fun ds M k x h => by
    unfold sp_is_within at h
    first
      | (obtain ⟨rfl, _⟩ := h; rfl)
      | (obtain ⟨_, rfl, _⟩ := h; rfl)
      | (obtain ⟨_, _, rfl, _⟩ := h; rfl)
      | (obtain ⟨_, _, _, rfl, _⟩ := h; rfl)
      | (obtain ⟨_, _, _, _, rfl, _⟩ := h; rfl)
      | (obtain ⟨_, _, _, _, _, rfl, _⟩ := h; rfl)) (fun cdv A outer s H E hr => b_is_within T G_is_integer hr) (v_is_within)
theorem ok_need_number {P : Program} {W : World} {K : PySem.W.Frag} {mg : Str → Option Value} {base : Heap} (hisa : Tb.isa = isa) (T : Fx K mg) (G_is_within : Fn P W K mg base 2 (clA mg ("is_within" : Str)) ["value", "least", "most"] sp_is_within) : Fn P W K mg base 3 (clA mg ("need_number" : Str)) ["value", "part", "least", "most"] sp_need_number :=
  fnD T.d_need_number sc_need_number (fun ds M k x h => by
    unfold sp_need_number at h
    first
      | (obtain ⟨rfl, _⟩ := h; rfl)
      | (obtain ⟨_, rfl, _⟩ := h; rfl)
      | (obtain ⟨_, _, rfl, _⟩ := h; rfl)
      | (obtain ⟨_, _, _, rfl, _⟩ := h; rfl)
      | (obtain ⟨_, _, _, _, rfl, _⟩ := h; rfl)
      | (obtain ⟨_, _, _, _, _, rfl, _⟩ := h; rfl)) (fun cdv A outer s H E hr => b_need_number T G_is_within hr) (v_need_number)
theorem ok_word_of {P : Program} {W : World} {K : PySem.W.Frag} {mg : Str → Option Value} {base : Heap} (hisa : Tb.isa = isa) (T : Fx K mg)  : Fn P W K mg base 1 (clA mg ("word_of" : Str)) ["told"] sp_word_of :=
  fnD T.d_word_of sc_word_of (fun ds M k x h => by
    unfold sp_word_of at h
    first
      | (obtain ⟨rfl, _⟩ := h; rfl)
      | (obtain ⟨_, rfl, _⟩ := h; rfl)
      | (obtain ⟨_, _, rfl, _⟩ := h; rfl)
      | (obtain ⟨_, _, _, rfl, _⟩ := h; rfl)
      | (obtain ⟨_, _, _, _, rfl, _⟩ := h; rfl)
      | (obtain ⟨_, _, _, _, _, rfl, _⟩ := h; rfl)) (fun cdv A outer s H E hr => b_word_of T  hr) (v_word_of)
theorem ok_height_in {P : Program} {W : World} {K : PySem.W.Frag} {mg : Str → Option Value} {base : Heap} (hisa : Tb.isa = isa) (T : Fx K mg)  : Fn P W K mg base 1 (clA mg ("height_in" : Str)) ["gains", "place"] sp_height_in :=
  fnD T.d_height_in sc_height_in (fun ds M k x h => by
    unfold sp_height_in at h
    first
      | (obtain ⟨rfl, _⟩ := h; rfl)
      | (obtain ⟨_, rfl, _⟩ := h; rfl)
      | (obtain ⟨_, _, rfl, _⟩ := h; rfl)
      | (obtain ⟨_, _, _, rfl, _⟩ := h; rfl)
      | (obtain ⟨_, _, _, _, rfl, _⟩ := h; rfl)
      | (obtain ⟨_, _, _, _, _, rfl, _⟩ := h; rfl)) (fun cdv A outer s H E hr => b_height_in T  hr) (v_height_in)
theorem ok_sums_in_rounds {P : Program} {W : World} {K : PySem.W.Frag} {mg : Str → Option Value} {base : Heap} (hisa : Tb.isa = isa) (T : Fx K mg) (G_height_in : Fn P W K mg base 1 (clA mg ("height_in" : Str)) ["gains", "place"] sp_height_in) : Fn P W K mg base 2 (clA mg ("sums_in_rounds" : Str)) ["gains", "length"] sp_sums_in_rounds :=
  fnD T.d_sums_in_rounds sc_sums_in_rounds (fun ds M k x h => by
    unfold sp_sums_in_rounds at h
    first
      | (obtain ⟨rfl, _⟩ := h; rfl)
      | (obtain ⟨_, rfl, _⟩ := h; rfl)
      | (obtain ⟨_, _, rfl, _⟩ := h; rfl)
      | (obtain ⟨_, _, _, rfl, _⟩ := h; rfl)
      | (obtain ⟨_, _, _, _, rfl, _⟩ := h; rfl)
      | (obtain ⟨_, _, _, _, _, rfl, _⟩ := h; rfl)) (fun cdv A outer s H E hr => b_sums_in_rounds T G_height_in hr) (v_sums_in_rounds)
theorem ok_Round_sort_of {P : Program} {W : World} {K : PySem.W.Frag} {mg : Str → Option Value} {base : Heap} (hisa : Tb.isa = isa) (T : Fx K mg) (G_word_of : Fn P W K mg base 1 (clA mg ("word_of" : Str)) ["told"] sp_word_of) (G_sums_in_rounds : Fn P W K mg base 2 (clA mg ("sums_in_rounds" : Str)) ["gains", "length"] sp_sums_in_rounds) (G_need_number : Fn P W K mg base 3 (clA mg ("need_number" : Str)) ["value", "part", "least", "most"] sp_need_number) : Fn P W K mg base 4 (He.ma K (clA mg ("Round" : Str)) ("sort_of" : Str)) ["self", "length"] sp_Round_sort_of :=
  fnD T.d_Round_sort_of sc_Round_sort_of (fun ds M k x h => by
    unfold sp_Round_sort_of at h
    first
      | (obtain ⟨rfl, _⟩ := h; rfl)
      | (obtain ⟨_, rfl, _⟩ := h; rfl)
      | (obtain ⟨_, _, rfl, _⟩ := h; rfl)
      | (obtain ⟨_, _, _, rfl, _⟩ := h; rfl)
      | (obtain ⟨_, _, _, _, rfl, _⟩ := h; rfl)
      | (obtain ⟨_, _, _, _, _, rfl, _⟩ := h; rfl)) (fun cdv A outer s H E hr => b_Round_sort_of T G_word_of G_sums_in_rounds G_need_number hr) (v_Round_sort_of)
theorem ok__law_pick {P : Program} {W : World} {K : PySem.W.Frag} {mg : Str → Option Value} {base : Heap} (hisa : Tb.isa = isa) (T : Fx K mg) (G__law_grind : Fn P W K mg base 1 (clA mg ("_law_grind" : Str)) ["_law_mill_here", "_law_many"] sp__law_grind) : Fn P W K mg base 2 (clA mg ("_law_pick" : Str)) ["_law_mill_here", "_law_some"] sp__law_pick :=
  fnD T.d__law_pick sc__law_pick (fun ds M k x h => by
    unfold sp__law_pick at h
    first
      | (obtain ⟨rfl, _⟩ := h; rfl)
      | (obtain ⟨_, rfl, _⟩ := h; rfl)
      | (obtain ⟨_, _, rfl, _⟩ := h; rfl)
      | (obtain ⟨_, _, _, rfl, _⟩ := h; rfl)
      | (obtain ⟨_, _, _, _, rfl, _⟩ := h; rfl)
      | (obtain ⟨_, _, _, _, _, rfl, _⟩ := h; rfl)) (fun cdv A outer s H E hr => b__law_pick T G__law_grind hr) (v__law_pick)
theorem ok__law_sum {P : Program} {W : World} {K : PySem.W.Frag} {mg : Str → Option Value} {base : Heap} (hisa : Tb.isa = isa) (T : Fx K mg)  : Fn P W K mg base 1 (clA mg ("_law_sum" : Str)) ["_law_gains_here", "_law_begin", "_law_length"] sp__law_sum :=
  fnD T.d__law_sum sc__law_sum (fun ds M k x h => by
    unfold sp__law_sum at h
    first
      | (obtain ⟨rfl, _⟩ := h; rfl)
      | (obtain ⟨_, rfl, _⟩ := h; rfl)
      | (obtain ⟨_, _, rfl, _⟩ := h; rfl)
      | (obtain ⟨_, _, _, rfl, _⟩ := h; rfl)
      | (obtain ⟨_, _, _, _, rfl, _⟩ := h; rfl)
      | (obtain ⟨_, _, _, _, _, rfl, _⟩ := h; rfl)) (fun cdv A outer s H E hr => b__law_sum T  hr) (v__law_sum)
theorem ok_Round_sum_of {P : Program} {W : World} {K : PySem.W.Frag} {mg : Str → Option Value} {base : Heap} (hisa : Tb.isa = isa) (T : Fx K mg) (G_height_in : Fn P W K mg base 1 (clA mg ("height_in" : Str)) ["gains", "place"] sp_height_in) (G_need_number : Fn P W K mg base 3 (clA mg ("need_number" : Str)) ["value", "part", "least", "most"] sp_need_number) : Fn P W K mg base 4 (He.ma K (clA mg ("Round" : Str)) ("sum_of" : Str)) ["self", "begin", "length"] sp_Round_sum_of :=
  fnD T.d_Round_sum_of sc_Round_sum_of (fun ds M k x h => by
    unfold sp_Round_sum_of at h
    first
      | (obtain ⟨rfl, _⟩ := h; rfl)
      | (obtain ⟨_, rfl, _⟩ := h; rfl)
      | (obtain ⟨_, _, rfl, _⟩ := h; rfl)
      | (obtain ⟨_, _, _, rfl, _⟩ := h; rfl)
      | (obtain ⟨_, _, _, _, rfl, _⟩ := h; rfl)
      | (obtain ⟨_, _, _, _, _, rfl, _⟩ := h; rfl)) (fun cdv A outer s H E hr => b_Round_sum_of T G_height_in G_need_number hr) (v_Round_sum_of)
theorem ok__law_word {P : Program} {W : World} {K : PySem.W.Frag} {mg : Str → Option Value} {base : Heap} (hisa : Tb.isa = isa) (T : Fx K mg)  : Fn P W K mg base 1 (clA mg ("_law_word" : Str)) ["_law_told"] sp__law_word :=
  fnD T.d__law_word sc__law_word (fun ds M k x h => by
    unfold sp__law_word at h
    first
      | (obtain ⟨rfl, _⟩ := h; rfl)
      | (obtain ⟨_, rfl, _⟩ := h; rfl)
      | (obtain ⟨_, _, rfl, _⟩ := h; rfl)
      | (obtain ⟨_, _, _, rfl, _⟩ := h; rfl)
      | (obtain ⟨_, _, _, _, rfl, _⟩ := h; rfl)
      | (obtain ⟨_, _, _, _, _, rfl, _⟩ := h; rfl)) (fun cdv A outer s H E hr => b__law_word T  hr) (v__law_word)
theorem ok__law_sums_right {P : Program} {W : World} {K : PySem.W.Frag} {mg : Str → Option Value} {base : Heap} (hisa : Tb.isa = isa) (T : Fx K mg) (G__law_word : Fn P W K mg base 1 (clA mg ("_law_word" : Str)) ["_law_told"] sp__law_word) (G_Round_sort_of : Fn P W K mg base 4 (He.ma K (clA mg ("Round" : Str)) ("sort_of" : Str)) ["self", "length"] sp_Round_sort_of) (G_Round_sum_of : Fn P W K mg base 4 (He.ma K (clA mg ("Round" : Str)) ("sum_of" : Str)) ["self", "begin", "length"] sp_Round_sum_of) (G__law_sum : Fn P W K mg base 1 (clA mg ("_law_sum" : Str)) ["_law_gains_here", "_law_begin", "_law_length"] sp__law_sum) (G__law_grind : Fn P W K mg base 1 (clA mg ("_law_grind" : Str)) ["_law_mill_here", "_law_many"] sp__law_grind) (G__law_pick : Fn P W K mg base 2 (clA mg ("_law_pick" : Str)) ["_law_mill_here", "_law_some"] sp__law_pick) : Fn P W K mg base 5 (clA mg ("_law_sums_right" : Str)) ["_law_mill_here", "_law_around", "_law_gains_here"] sp__law_sums_right :=
  fnD T.d__law_sums_right sc__law_sums_right (fun ds M k x h => by
    unfold sp__law_sums_right at h
    first
      | (obtain ⟨rfl, _⟩ := h; rfl)
      | (obtain ⟨_, rfl, _⟩ := h; rfl)
      | (obtain ⟨_, _, rfl, _⟩ := h; rfl)
      | (obtain ⟨_, _, _, rfl, _⟩ := h; rfl)
      | (obtain ⟨_, _, _, _, rfl, _⟩ := h; rfl)
      | (obtain ⟨_, _, _, _, _, rfl, _⟩ := h; rfl)) (fun cdv A outer s H E hr => b__law_sums_right T G__law_word G_Round_sort_of G_Round_sum_of G__law_sum G__law_grind G__law_pick hr) (v__law_sums_right)
theorem ok_Round_turned {P : Program} {W : World} {K : PySem.W.Frag} {mg : Str → Option Value} {base : Heap} (hisa : Tb.isa = isa) (T : Fx K mg) (G_Round_X__init_X_ : Fn P W K mg base 3 (He.ma K (clA mg ("Round" : Str)) ("__init__" : Str)) ["self", "gains"] sp_Round_X__init_X_) (G_need_number : Fn P W K mg base 3 (clA mg ("need_number" : Str)) ["value", "part", "least", "most"] sp_need_number) : Fn P W K mg base 5 (He.ma K (clA mg ("Round" : Str)) ("turned" : Str)) ["self", "by"] sp_Round_turned :=
  fnD T.d_Round_turned sc_Round_turned (fun ds M k x h => by
    unfold sp_Round_turned at h
    first
      | (obtain ⟨rfl, _⟩ := h; rfl)
      | (obtain ⟨_, rfl, _⟩ := h; rfl)
      | (obtain ⟨_, _, rfl, _⟩ := h; rfl)
      | (obtain ⟨_, _, _, rfl, _⟩ := h; rfl)
      | (obtain ⟨_, _, _, _, rfl, _⟩ := h; rfl)
      | (obtain ⟨_, _, _, _, _, rfl, _⟩ := h; rfl)) (fun cdv A outer s H E hr => b_Round_turned T G_Round_X__init_X_ G_need_number hr) (v_Round_turned)
theorem ok_heights_of {P : Program} {W : World} {K : PySem.W.Frag} {mg : Str → Option Value} {base : Heap} (hisa : Tb.isa = isa) (T : Fx K mg)  : Fn P W K mg base 1 (clA mg ("heights_of" : Str)) ["gains"] sp_heights_of :=
  fnD T.d_heights_of sc_heights_of (fun ds M k x h => by
    unfold sp_heights_of at h
    first
      | (obtain ⟨rfl, _⟩ := h; rfl)
      | (obtain ⟨_, rfl, _⟩ := h; rfl)
      | (obtain ⟨_, _, rfl, _⟩ := h; rfl)
      | (obtain ⟨_, _, _, rfl, _⟩ := h; rfl)
      | (obtain ⟨_, _, _, _, rfl, _⟩ := h; rfl)
      | (obtain ⟨_, _, _, _, _, rfl, _⟩ := h; rfl)) (fun cdv A outer s H E hr => b_heights_of T  hr) (v_heights_of)
theorem ok_Row_X__init_X_ {P : Program} {W : World} {K : PySem.W.Frag} {mg : Str → Option Value} {base : Heap} (hisa : Tb.isa = isa) (T : Fx K mg) (G_heights_of : Fn P W K mg base 1 (clA mg ("heights_of" : Str)) ["gains"] sp_heights_of) (G_are_integers : Fn P W K mg base 2 (clA mg ("are_integers" : Str)) ["value"] sp_are_integers) : Fn P W K mg base 3 (He.ma K (clA mg ("Row" : Str)) ("__init__" : Str)) ["self", "gains"] sp_Row_X__init_X_ :=
  fnD T.d_Row_X__init_X_ sc_Row_X__init_X_ (fun ds M k x h => by
    unfold sp_Row_X__init_X_ at h
    first
      | (obtain ⟨rfl, _⟩ := h; rfl)
      | (obtain ⟨_, rfl, _⟩ := h; rfl)
      | (obtain ⟨_, _, rfl, _⟩ := h; rfl)
      | (obtain ⟨_, _, _, rfl, _⟩ := h; rfl)
      | (obtain ⟨_, _, _, _, rfl, _⟩ := h; rfl)
      | (obtain ⟨_, _, _, _, _, rfl, _⟩ := h; rfl)) (fun cdv A outer s H E hr => b_Row_X__init_X_ T G_heights_of G_are_integers hr) (v_Row_X__init_X_)
theorem ok_Round_row {P : Program} {W : World} {K : PySem.W.Frag} {mg : Str → Option Value} {base : Heap} (hisa : Tb.isa = isa) (T : Fx K mg) (G_Row_X__init_X_ : Fn P W K mg base 3 (He.ma K (clA mg ("Row" : Str)) ("__init__" : Str)) ["self", "gains"] sp_Row_X__init_X_) (G_need_number : Fn P W K mg base 3 (clA mg ("need_number" : Str)) ["value", "part", "least", "most"] sp_need_number) : Fn P W K mg base 5 (He.ma K (clA mg ("Round" : Str)) ("row" : Str)) ["self", "begin", "days"] sp_Round_row :=
  fnD T.d_Round_row sc_Round_row (fun ds M k x h => by
    unfold sp_Round_row at h
    first
      | (obtain ⟨rfl, _⟩ := h; rfl)
      | (obtain ⟨_, rfl, _⟩ := h; rfl)
      | (obtain ⟨_, _, rfl, _⟩ := h; rfl)
      | (obtain ⟨_, _, _, rfl, _⟩ := h; rfl)
      | (obtain ⟨_, _, _, _, rfl, _⟩ := h; rfl)
      | (obtain ⟨_, _, _, _, _, rfl, _⟩ := h; rfl)) (fun cdv A outer s H E hr => b_Round_row T G_Row_X__init_X_ G_need_number hr) (v_Round_row)
theorem ok_Round_twice {P : Program} {W : World} {K : PySem.W.Frag} {mg : Str → Option Value} {base : Heap} (hisa : Tb.isa = isa) (T : Fx K mg) (G_Round_X__init_X_ : Fn P W K mg base 3 (He.ma K (clA mg ("Round" : Str)) ("__init__" : Str)) ["self", "gains"] sp_Round_X__init_X_) : Fn P W K mg base 5 (He.ma K (clA mg ("Round" : Str)) ("twice" : Str)) ["self"] sp_Round_twice :=
  fnD T.d_Round_twice sc_Round_twice (fun ds M k x h => by
    unfold sp_Round_twice at h
    first
      | (obtain ⟨rfl, _⟩ := h; rfl)
      | (obtain ⟨_, rfl, _⟩ := h; rfl)
      | (obtain ⟨_, _, rfl, _⟩ := h; rfl)
      | (obtain ⟨_, _, _, rfl, _⟩ := h; rfl)
      | (obtain ⟨_, _, _, _, rfl, _⟩ := h; rfl)
      | (obtain ⟨_, _, _, _, _, rfl, _⟩ := h; rfl)) (fun cdv A outer s H E hr => b_Round_twice T G_Round_X__init_X_ hr) (v_Round_twice)
theorem ok__law_other_right {P : Program} {W : World} {K : PySem.W.Frag} {mg : Str → Option Value} {base : Heap} (hisa : Tb.isa = isa) (T : Fx K mg) (G_Round_row : Fn P W K mg base 5 (He.ma K (clA mg ("Round" : Str)) ("row" : Str)) ["self", "begin", "days"] sp_Round_row) (G__law_grind : Fn P W K mg base 1 (clA mg ("_law_grind" : Str)) ["_law_mill_here", "_law_many"] sp__law_grind) (G_Round_sort_of : Fn P W K mg base 4 (He.ma K (clA mg ("Round" : Str)) ("sort_of" : Str)) ["self", "length"] sp_Round_sort_of) (G_Round_X__len_X_ : Fn P W K mg base 1 (He.ma K (clA mg ("Round" : Str)) ("__len__" : Str)) ["self"] sp_Round_X__len_X_) (G_Round_X__eq_X_ : Fn P W K mg base 1 (He.ma K (clA mg ("Round" : Str)) ("__eq__" : Str)) ["self", "other"] sp_Round_X__eq_X_) (G_Round_twice : Fn P W K mg base 5 (He.ma K (clA mg ("Round" : Str)) ("twice" : Str)) ["self"] sp_Round_twice) (G_Round_sum_of : Fn P W K mg base 4 (He.ma K (clA mg ("Round" : Str)) ("sum_of" : Str)) ["self", "begin", "length"] sp_Round_sum_of) (G_Round_turned : Fn P W K mg base 5 (He.ma K (clA mg ("Round" : Str)) ("turned" : Str)) ["self", "by"] sp_Round_turned) (G__law_pick : Fn P W K mg base 2 (clA mg ("_law_pick" : Str)) ["_law_mill_here", "_law_some"] sp__law_pick) : Fn P W K mg base 6 (clA mg ("_law_other_right" : Str)) ["_law_mill_here", "_law_around", "_law_gains_here"] sp__law_other_right :=
  fnD T.d__law_other_right sc__law_other_right (fun ds M k x h => by
    unfold sp__law_other_right at h
    first
      | (obtain ⟨rfl, _⟩ := h; rfl)
      | (obtain ⟨_, rfl, _⟩ := h; rfl)
      | (obtain ⟨_, _, rfl, _⟩ := h; rfl)
      | (obtain ⟨_, _, _, rfl, _⟩ := h; rfl)
      | (obtain ⟨_, _, _, _, rfl, _⟩ := h; rfl)
      | (obtain ⟨_, _, _, _, _, rfl, _⟩ := h; rfl)) (fun cdv A outer s H E hr => b__law_other_right T G_Round_row G__law_grind G_Round_sort_of G_Round_X__len_X_ G_Round_X__eq_X_ G_Round_twice G_Round_sum_of G_Round_turned G__law_pick hr) (v__law_other_right hisa)
theorem ok_need_bound {P : Program} {W : World} {K : PySem.W.Frag} {mg : Str → Option Value} {base : Heap} (hisa : Tb.isa = isa) (T : Fx K mg) (G_is_integer : Fn P W K mg base 1 (clA mg ("is_integer" : Str)) ["value"] sp_is_integer) : Fn P W K mg base 3 (clA mg ("need_bound" : Str)) ["value", "part"] sp_need_bound :=
  fnD T.d_need_bound sc_need_bound (fun ds M k x h => by
    unfold sp_need_bound at h
    first
      | (obtain ⟨rfl, _⟩ := h; rfl)
      | (obtain ⟨_, rfl, _⟩ := h; rfl)
      | (obtain ⟨_, _, rfl, _⟩ := h; rfl)
      | (obtain ⟨_, _, _, rfl, _⟩ := h; rfl)
      | (obtain ⟨_, _, _, _, rfl, _⟩ := h; rfl)
      | (obtain ⟨_, _, _, _, _, rfl, _⟩ := h; rfl)) (fun cdv A outer s H E hr => b_need_bound T G_is_integer hr) (v_need_bound)
theorem ok_are_bounds {P : Program} {W : World} {K : PySem.W.Frag} {mg : Str → Option Value} {base : Heap} (hisa : Tb.isa = isa) (T : Fx K mg)  : Fn P W K mg base 1 (clA mg ("are_bounds" : Str)) ["low", "high"] sp_are_bounds :=
  fnD T.d_are_bounds sc_are_bounds (fun ds M k x h => by
    unfold sp_are_bounds at h
    first
      | (obtain ⟨rfl, _⟩ := h; rfl)
      | (obtain ⟨_, rfl, _⟩ := h; rfl)
      | (obtain ⟨_, _, rfl, _⟩ := h; rfl)
      | (obtain ⟨_, _, _, rfl, _⟩ := h; rfl)
      | (obtain ⟨_, _, _, _, rfl, _⟩ := h; rfl)
      | (obtain ⟨_, _, _, _, _, rfl, _⟩ := h; rfl)) (fun cdv A outer s H E hr => b_are_bounds T  hr) (v_are_bounds)
theorem ok_Rule_X__init_X_ {P : Program} {W : World} {K : PySem.W.Frag} {mg : Str → Option Value} {base : Heap} (hisa : Tb.isa = isa) (T : Fx K mg) (G_are_bounds : Fn P W K mg base 1 (clA mg ("are_bounds" : Str)) ["low", "high"] sp_are_bounds) (G_need_bound : Fn P W K mg base 3 (clA mg ("need_bound" : Str)) ["value", "part"] sp_need_bound) (G_need_number : Fn P W K mg base 3 (clA mg ("need_number" : Str)) ["value", "part", "least", "most"] sp_need_number) : Fn P W K mg base 4 (He.ma K (clA mg ("Rule" : Str)) ("__init__" : Str)) ["self", "length", "low", "high"] sp_Rule_X__init_X_ :=
  fnD T.d_Rule_X__init_X_ sc_Rule_X__init_X_ (fun ds M k x h => by
    unfold sp_Rule_X__init_X_ at h
    first
      | (obtain ⟨rfl, _⟩ := h; rfl)
      | (obtain ⟨_, rfl, _⟩ := h; rfl)
      | (obtain ⟨_, _, rfl, _⟩ := h; rfl)
      | (obtain ⟨_, _, _, rfl, _⟩ := h; rfl)
      | (obtain ⟨_, _, _, _, rfl, _⟩ := h; rfl)
      | (obtain ⟨_, _, _, _, _, rfl, _⟩ := h; rfl)) (fun cdv A outer s H E hr => b_Rule_X__init_X_ T G_are_bounds G_need_bound G_need_number hr) (v_Rule_X__init_X_)
theorem ok_need_row {P : Program} {W : World} {K : PySem.W.Frag} {mg : Str → Option Value} {base : Heap} (hisa : Tb.isa = isa) (T : Fx K mg)  : Fn P W K mg base 3 (clA mg ("need_row" : Str)) ["value", "part"] sp_need_row :=
  fnD T.d_need_row sc_need_row (fun ds M k x h => by
    unfold sp_need_row at h
    first
      | (obtain ⟨rfl, _⟩ := h; rfl)
      | (obtain ⟨_, rfl, _⟩ := h; rfl)
      | (obtain ⟨_, _, rfl, _⟩ := h; rfl)
      | (obtain ⟨_, _, _, rfl, _⟩ := h; rfl)
      | (obtain ⟨_, _, _, _, rfl, _⟩ := h; rfl)
      | (obtain ⟨_, _, _, _, _, rfl, _⟩ := h; rfl)) (fun cdv A outer s H E hr => b_need_row T  hr) (v_need_row hisa)
theorem ok_Rule_first_broken {P : Program} {W : World} {K : PySem.W.Frag} {mg : Str → Option Value} {base : Heap} (hisa : Tb.isa = isa) (T : Fx K mg) (G_is_within : Fn P W K mg base 2 (clA mg ("is_within" : Str)) ["value", "least", "most"] sp_is_within) (G_need_row : Fn P W K mg base 3 (clA mg ("need_row" : Str)) ["value", "part"] sp_need_row) : Fn P W K mg base 4 (He.ma K (clA mg ("Rule" : Str)) ("first_broken" : Str)) ["self", "row"] sp_Rule_first_broken :=
  fnD T.d_Rule_first_broken sc_Rule_first_broken (fun ds M k x h => by
    unfold sp_Rule_first_broken at h
    first
      | (obtain ⟨rfl, _⟩ := h; rfl)
      | (obtain ⟨_, rfl, _⟩ := h; rfl)
      | (obtain ⟨_, _, rfl, _⟩ := h; rfl)
      | (obtain ⟨_, _, _, rfl, _⟩ := h; rfl)
      | (obtain ⟨_, _, _, _, rfl, _⟩ := h; rfl)
      | (obtain ⟨_, _, _, _, _, rfl, _⟩ := h; rfl)) (fun cdv A outer s H E hr => b_Rule_first_broken T G_is_within G_need_row hr) (v_Rule_first_broken)
theorem ok_Rule_keeps {P : Program} {W : World} {K : PySem.W.Frag} {mg : Str → Option Value} {base : Heap} (hisa : Tb.isa = isa) (T : Fx K mg) (G_Rule_first_broken : Fn P W K mg base 4 (He.ma K (clA mg ("Rule" : Str)) ("first_broken" : Str)) ["self", "row"] sp_Rule_first_broken) : Fn P W K mg base 5 (He.ma K (clA mg ("Rule" : Str)) ("keeps" : Str)) ["self", "row"] sp_Rule_keeps :=
  fnD T.d_Rule_keeps sc_Rule_keeps (fun ds M k x h => by
    unfold sp_Rule_keeps at h
    first
      | (obtain ⟨rfl, _⟩ := h; rfl)
      | (obtain ⟨_, rfl, _⟩ := h; rfl)
      | (obtain ⟨_, _, rfl, _⟩ := h; rfl)
      | (obtain ⟨_, _, _, rfl, _⟩ := h; rfl)
      | (obtain ⟨_, _, _, _, rfl, _⟩ := h; rfl)
      | (obtain ⟨_, _, _, _, _, rfl, _⟩ := h; rfl)) (fun cdv A outer s H E hr => b_Rule_keeps T G_Rule_first_broken hr) (v_Rule_keeps)
theorem ok_Round_keeps {P : Program} {W : World} {K : PySem.W.Frag} {mg : Str → Option Value} {base : Heap} (hisa : Tb.isa = isa) (T : Fx K mg) (G_sums_in_rounds : Fn P W K mg base 2 (clA mg ("sums_in_rounds" : Str)) ["gains", "length"] sp_sums_in_rounds) (G_is_within : Fn P W K mg base 2 (clA mg ("is_within" : Str)) ["value", "least", "most"] sp_is_within) : Fn P W K mg base 3 (He.ma K (clA mg ("Round" : Str)) ("keeps" : Str)) ["self", "rule"] sp_Round_keeps :=
  fnD T.d_Round_keeps sc_Round_keeps (fun ds M k x h => by
    unfold sp_Round_keeps at h
    first
      | (obtain ⟨rfl, _⟩ := h; rfl)
      | (obtain ⟨_, rfl, _⟩ := h; rfl)
      | (obtain ⟨_, _, rfl, _⟩ := h; rfl)
      | (obtain ⟨_, _, _, rfl, _⟩ := h; rfl)
      | (obtain ⟨_, _, _, _, rfl, _⟩ := h; rfl)
      | (obtain ⟨_, _, _, _, _, rfl, _⟩ := h; rfl)) (fun cdv A outer s H E hr => b_Round_keeps T G_sums_in_rounds G_is_within hr) (v_Round_keeps hisa)
theorem ok__law_kept_right {P : Program} {W : World} {K : PySem.W.Frag} {mg : Str → Option Value} {base : Heap} (hisa : Tb.isa = isa) (T : Fx K mg) (G_Rule_keeps : Fn P W K mg base 5 (He.ma K (clA mg ("Rule" : Str)) ("keeps" : Str)) ["self", "row"] sp_Rule_keeps) (G_Round_row : Fn P W K mg base 5 (He.ma K (clA mg ("Round" : Str)) ("row" : Str)) ["self", "begin", "days"] sp_Round_row) (G__law_grind : Fn P W K mg base 1 (clA mg ("_law_grind" : Str)) ["_law_mill_here", "_law_many"] sp__law_grind) (G_Round_keeps : Fn P W K mg base 3 (He.ma K (clA mg ("Round" : Str)) ("keeps" : Str)) ["self", "rule"] sp_Round_keeps) (G_Round_turned : Fn P W K mg base 5 (He.ma K (clA mg ("Round" : Str)) ("turned" : Str)) ["self", "by"] sp_Round_turned) (G_Rule_X__init_X_ : Fn P W K mg base 4 (He.ma K (clA mg ("Rule" : Str)) ("__init__" : Str)) ["self", "length", "low", "high"] sp_Rule_X__init_X_) (G__law_pick : Fn P W K mg base 2 (clA mg ("_law_pick" : Str)) ["_law_mill_here", "_law_some"] sp__law_pick) (G__law_sum : Fn P W K mg base 1 (clA mg ("_law_sum" : Str)) ["_law_gains_here", "_law_begin", "_law_length"] sp__law_sum) : Fn P W K mg base 6 (clA mg ("_law_kept_right" : Str)) ["_law_mill_here", "_law_around", "_law_gains_here"] sp__law_kept_right :=
  fnD T.d__law_kept_right sc__law_kept_right (fun ds M k x h => by
    unfold sp__law_kept_right at h
    first
      | (obtain ⟨rfl, _⟩ := h; rfl)
      | (obtain ⟨_, rfl, _⟩ := h; rfl)
      | (obtain ⟨_, _, rfl, _⟩ := h; rfl)
      | (obtain ⟨_, _, _, rfl, _⟩ := h; rfl)
      | (obtain ⟨_, _, _, _, rfl, _⟩ := h; rfl)
      | (obtain ⟨_, _, _, _, _, rfl, _⟩ := h; rfl)) (fun cdv A outer s H E hr => b__law_kept_right T G_Rule_keeps G_Round_row G__law_grind G_Round_keeps G_Round_turned G_Rule_X__init_X_ G__law_pick G__law_sum hr) (v__law_kept_right)
theorem ok_need_bounds {P : Program} {W : World} {K : PySem.W.Frag} {mg : Str → Option Value} {base : Heap} (hisa : Tb.isa = isa) (T : Fx K mg) (G_are_bounds : Fn P W K mg base 1 (clA mg ("are_bounds" : Str)) ["low", "high"] sp_are_bounds) (G_need_bound : Fn P W K mg base 3 (clA mg ("need_bound" : Str)) ["value", "part"] sp_need_bound) : Fn P W K mg base 4 (clA mg ("need_bounds" : Str)) ["low", "high"] sp_need_bounds :=
  fnD T.d_need_bounds sc_need_bounds (fun ds M k x h => by
    unfold sp_need_bounds at h
    first
      | (obtain ⟨rfl, _⟩ := h; rfl)
      | (obtain ⟨_, rfl, _⟩ := h; rfl)
      | (obtain ⟨_, _, rfl, _⟩ := h; rfl)
      | (obtain ⟨_, _, _, rfl, _⟩ := h; rfl)
      | (obtain ⟨_, _, _, _, rfl, _⟩ := h; rfl)
      | (obtain ⟨_, _, _, _, _, rfl, _⟩ := h; rfl)) (fun cdv A outer s H E hr => b_need_bounds T G_are_bounds G_need_bound hr) (v_need_bounds)
theorem ok_Some_X__init_X_ {P : Program} {W : World} {K : PySem.W.Frag} {mg : Str → Option Value} {base : Heap} (hisa : Tb.isa = isa) (T : Fx K mg) (G_need_bounds : Fn P W K mg base 4 (clA mg ("need_bounds" : Str)) ["low", "high"] sp_need_bounds) (G_need_number : Fn P W K mg base 3 (clA mg ("need_number" : Str)) ["value", "part", "least", "most"] sp_need_number) : Fn P W K mg base 5 (He.ma K (clA mg ("Some" : Str)) ("__init__" : Str)) ["self", "length", "low", "high"] sp_Some_X__init_X_ :=
  fnD T.d_Some_X__init_X_ sc_Some_X__init_X_ (fun ds M k x h => by
    unfold sp_Some_X__init_X_ at h
    first
      | (obtain ⟨rfl, _⟩ := h; rfl)
      | (obtain ⟨_, rfl, _⟩ := h; rfl)
      | (obtain ⟨_, _, rfl, _⟩ := h; rfl)
      | (obtain ⟨_, _, _, rfl, _⟩ := h; rfl)
      | (obtain ⟨_, _, _, _, rfl, _⟩ := h; rfl)
      | (obtain ⟨_, _, _, _, _, rfl, _⟩ := h; rfl)) (fun cdv A outer s H E hr => b_Some_X__init_X_ T G_need_bounds G_need_number hr) (v_Some_X__init_X_)
theorem ok__law_refused_right {P : Program} {W : World} {K : PySem.W.Frag} {mg : Str → Option Value} {base : Heap} (hisa : Tb.isa = isa) (T : Fx K mg) (G_Round_twice : Fn P W K mg base 5 (He.ma K (clA mg ("Round" : Str)) ("twice" : Str)) ["self"] sp_Round_twice) (G_Round_X__init_X_ : Fn P W K mg base 3 (He.ma K (clA mg ("Round" : Str)) ("__init__" : Str)) ["self", "gains"] sp_Round_X__init_X_) (G_Round_X__len_X_ : Fn P W K mg base 1 (He.ma K (clA mg ("Round" : Str)) ("__len__" : Str)) ["self"] sp_Round_X__len_X_) (G_Row_X__init_X_ : Fn P W K mg base 3 (He.ma K (clA mg ("Row" : Str)) ("__init__" : Str)) ["self", "gains"] sp_Row_X__init_X_) (G_Rule_keeps : Fn P W K mg base 5 (He.ma K (clA mg ("Rule" : Str)) ("keeps" : Str)) ["self", "row"] sp_Rule_keeps) (G_Rule_X__init_X_ : Fn P W K mg base 4 (He.ma K (clA mg ("Rule" : Str)) ("__init__" : Str)) ["self", "length", "low", "high"] sp_Rule_X__init_X_) (G_Round_row : Fn P W K mg base 5 (He.ma K (clA mg ("Round" : Str)) ("row" : Str)) ["self", "begin", "days"] sp_Round_row) (G__law_pick : Fn P W K mg base 2 (clA mg ("_law_pick" : Str)) ["_law_mill_here", "_law_some"] sp__law_pick) (G_Round_turned : Fn P W K mg base 5 (He.ma K (clA mg ("Round" : Str)) ("turned" : Str)) ["self", "by"] sp_Round_turned) (G_Round_keeps : Fn P W K mg base 3 (He.ma K (clA mg ("Round" : Str)) ("keeps" : Str)) ["self", "rule"] sp_Round_keeps) (G_Some_X__init_X_ : Fn P W K mg base 5 (He.ma K (clA mg ("Some" : Str)) ("__init__" : Str)) ["self", "length", "low", "high"] sp_Some_X__init_X_) (G_Round_sort_of : Fn P W K mg base 4 (He.ma K (clA mg ("Round" : Str)) ("sort_of" : Str)) ["self", "length"] sp_Round_sort_of) (G_Round_sum_of : Fn P W K mg base 4 (He.ma K (clA mg ("Round" : Str)) ("sum_of" : Str)) ["self", "begin", "length"] sp_Round_sum_of) (TB : LamX.TabB base mg (He.cT K (("_law_refused_right" : Str), none)).1 (He.cT K (("_law_refused_right" : Str), none)).2) : Fn P W K mg base 9 (clA mg ("_law_refused_right" : Str)) ["_law_mill_here", "_law_around", "_law_gains_here"] sp__law_refused_right := by
  have D := T.d__law_refused_right
  rw [T.a__law_refused_right] at D ⊢
  exact fnDL _ D sc__law_refused_right (fun ds M k x h => by
    unfold sp__law_refused_right at h
    first
      | (obtain ⟨rfl, _⟩ := h; rfl)
      | (obtain ⟨_, rfl, _⟩ := h; rfl)
      | (obtain ⟨_, _, rfl, _⟩ := h; rfl)
      | (obtain ⟨_, _, _, rfl, _⟩ := h; rfl)
      | (obtain ⟨_, _, _, _, rfl, _⟩ := h; rfl)
      | (obtain ⟨_, _, _, _, _, rfl, _⟩ := h; rfl)) (fun A outer s H E hr => b__law_refused_right T G_Round_twice G_Round_X__init_X_ G_Round_X__len_X_ G_Row_X__init_X_ G_Rule_keeps G_Rule_X__init_X_ G_Round_row G__law_pick G_Round_turned G_Round_keeps G_Some_X__init_X_ G_Round_sort_of G_Round_sum_of TB hr) (v__law_refused_right hisa)
theorem ok_law {P : Program} {W : World} {K : PySem.W.Frag} {mg : Str → Option Value} {base : Heap} (hisa : Tb.isa = isa) (T : Fx K mg) (G_Round_X__init_X_ : Fn P W K mg base 3 (He.ma K (clA mg ("Round" : Str)) ("__init__" : Str)) ["self", "gains"] sp_Round_X__init_X_) (G_Round_X__eq_X_ : Fn P W K mg base 1 (He.ma K (clA mg ("Round" : Str)) ("__eq__" : Str)) ["self", "other"] sp_Round_X__eq_X_) (G__law_refused_right : Fn P W K mg base 9 (clA mg ("_law_refused_right" : Str)) ["_law_mill_here", "_law_around", "_law_gains_here"] sp__law_refused_right) (G_Row_X__init_X_ : Fn P W K mg base 3 (He.ma K (clA mg ("Row" : Str)) ("__init__" : Str)) ["self", "gains"] sp_Row_X__init_X_) (G__law_sums_right : Fn P W K mg base 5 (clA mg ("_law_sums_right" : Str)) ["_law_mill_here", "_law_around", "_law_gains_here"] sp__law_sums_right) (G__law_other_right : Fn P W K mg base 6 (clA mg ("_law_other_right" : Str)) ["_law_mill_here", "_law_around", "_law_gains_here"] sp__law_other_right) (G__law_kept_right : Fn P W K mg base 6 (clA mg ("_law_kept_right" : Str)) ["_law_mill_here", "_law_around", "_law_gains_here"] sp__law_kept_right) (G_Round_X__len_X_ : Fn P W K mg base 1 (He.ma K (clA mg ("Round" : Str)) ("__len__" : Str)) ["self"] sp_Round_X__len_X_) (G__law_gains : Fn P W K mg base 2 (clA mg ("_law_gains" : Str)) ["_law_mill_here"] sp__law_gains) (G__law_mill : Fn P W K mg base 1 (clA mg ("_law_mill" : Str)) ["_law_script"] sp__law_mill) : Fn P W K mg base 10 (clA mg ("law" : Str)) ["_law_script"] sp_law :=
  fnD T.d_law sc_law (fun ds M k x h => by
    unfold sp_law at h
    first
      | (obtain ⟨rfl, _⟩ := h; rfl)
      | (obtain ⟨_, rfl, _⟩ := h; rfl)
      | (obtain ⟨_, _, rfl, _⟩ := h; rfl)
      | (obtain ⟨_, _, _, rfl, _⟩ := h; rfl)
      | (obtain ⟨_, _, _, _, rfl, _⟩ := h; rfl)
      | (obtain ⟨_, _, _, _, _, rfl, _⟩ := h; rfl)) (fun cdv A outer s H E hr => b_law T G_Round_X__init_X_ G_Round_X__eq_X_ G__law_refused_right G_Row_X__init_X_ G__law_sums_right G__law_other_right G__law_kept_right G_Round_X__len_X_ G__law_gains G__law_mill hr) (v_law hisa)
end
theorem lawOk {P : Program} {W : World} {K : PySem.W.Frag} {mg : Str → Option Value} {base : Heap} (T : @Fx (tbs K) K mg) (TBs : ∀ p ∈ ([He.cT K (("_law_refused_right" : Str), none)] : List (Addr × Addr)), LamX.TabB base mg p.1 p.2) : @FnOk P W K mg base (L2.CX P W) 10 (clA mg ("law" : Str)) (fdA K (clA mg ("law" : Str))) ["_law_script"] (@lift (tbs K) K mg sp_law) := by
  letI : Tb := tbs K
  have hisa : Tb.isa = isa := rfl
  have G__law_mill := ok__law_mill (P := P) (W := W) (base := base) hisa T 
  have G__law_grind := ok__law_grind (P := P) (W := W) (base := base) hisa T 
  have G__law_gains := ok__law_gains (P := P) (W := W) (base := base) hisa T G__law_grind
  have G_is_integer := ok_is_integer (P := P) (W := W) (base := base) hisa T 
  have G_are_integers := ok_are_integers (P := P) (W := W) (base := base) hisa T G_is_integer
  have G_Round_X__init_X_ := ok_Round_X__init_X_ (P := P) (W := W) (base := base) hisa T G_are_integers
  have G_Round_X__eq_X_ := ok_Round_X__eq_X_ (P := P) (W := W) (base := base) hisa T 
  have G_Round_X__len_X_ := ok_Round_X__len_X_ (P := P) (W := W) (base := base) hisa T 
  have G_is_within := ok_is_within (P := P) (W := W) (base := base) hisa T G_is_integer
  have G_need_number := ok_need_number (P := P) (W := W) (base := base) hisa T G_is_within
  have G_word_of := ok_word_of (P := P) (W := W) (base := base) hisa T 
  have G_height_in := ok_height_in (P := P) (W := W) (base := base) hisa T 
  have G_sums_in_rounds := ok_sums_in_rounds (P := P) (W := W) (base := base) hisa T G_height_in
  have G_Round_sort_of := ok_Round_sort_of (P := P) (W := W) (base := base) hisa T G_word_of G_sums_in_rounds G_need_number
  have G__law_pick := ok__law_pick (P := P) (W := W) (base := base) hisa T G__law_grind
  have G__law_sum := ok__law_sum (P := P) (W := W) (base := base) hisa T 
  have G_Round_sum_of := ok_Round_sum_of (P := P) (W := W) (base := base) hisa T G_height_in G_need_number
  have G__law_word := ok__law_word (P := P) (W := W) (base := base) hisa T 
  have G__law_sums_right := ok__law_sums_right (P := P) (W := W) (base := base) hisa T G__law_word G_Round_sort_of G_Round_sum_of G__law_sum G__law_grind G__law_pick
  have G_Round_turned := ok_Round_turned (P := P) (W := W) (base := base) hisa T G_Round_X__init_X_ G_need_number
  have G_heights_of := ok_heights_of (P := P) (W := W) (base := base) hisa T 
  have G_Row_X__init_X_ := ok_Row_X__init_X_ (P := P) (W := W) (base := base) hisa T G_heights_of G_are_integers
  have G_Round_row := ok_Round_row (P := P) (W := W) (base := base) hisa T G_Row_X__init_X_ G_need_number
  have G_Round_twice := ok_Round_twice (P := P) (W := W) (base := base) hisa T G_Round_X__init_X_
  have G__law_other_right := ok__law_other_right (P := P) (W := W) (base := base) hisa T G_Round_row G__law_grind G_Round_sort_of G_Round_X__len_X_ G_Round_X__eq_X_ G_Round_twice G_Round_sum_of G_Round_turned G__law_pick
  have G_need_bound := ok_need_bound (P := P) (W := W) (base := base) hisa T G_is_integer
  have G_are_bounds := ok_are_bounds (P := P) (W := W) (base := base) hisa T 
  have G_Rule_X__init_X_ := ok_Rule_X__init_X_ (P := P) (W := W) (base := base) hisa T G_are_bounds G_need_bound G_need_number
  have G_need_row := ok_need_row (P := P) (W := W) (base := base) hisa T 
  have G_Rule_first_broken := ok_Rule_first_broken (P := P) (W := W) (base := base) hisa T G_is_within G_need_row
  have G_Rule_keeps := ok_Rule_keeps (P := P) (W := W) (base := base) hisa T G_Rule_first_broken
  have G_Round_keeps := ok_Round_keeps (P := P) (W := W) (base := base) hisa T G_sums_in_rounds G_is_within
  have G__law_kept_right := ok__law_kept_right (P := P) (W := W) (base := base) hisa T G_Rule_keeps G_Round_row G__law_grind G_Round_keeps G_Round_turned G_Rule_X__init_X_ G__law_pick G__law_sum
  have G_need_bounds := ok_need_bounds (P := P) (W := W) (base := base) hisa T G_are_bounds G_need_bound
  have G_Some_X__init_X_ := ok_Some_X__init_X_ (P := P) (W := W) (base := base) hisa T G_need_bounds G_need_number
  have G__law_refused_right := ok__law_refused_right (P := P) (W := W) (base := base) hisa T G_Round_twice G_Round_X__init_X_ G_Round_X__len_X_ G_Row_X__init_X_ G_Rule_keeps G_Rule_X__init_X_ G_Round_row G__law_pick G_Round_turned G_Round_keeps G_Some_X__init_X_ G_Round_sort_of G_Round_sum_of (TBs _ (by simp))
  have G_law := ok_law (P := P) (W := W) (base := base) hisa T G_Round_X__init_X_ G_Round_X__eq_X_ G__law_refused_right G_Row_X__init_X_ G__law_sums_right G__law_other_right G__law_kept_right G_Round_X__len_X_ G__law_gains G__law_mill
  exact G_law

theorem lawHolds (ns : List Int) (_ : ns.length ≤ 63) (_ : ∀ z ∈ ns, Builtin.Int.intBits z ≤ 1048576) : sp_law [.scr ns] [] (fun d _ => d = .bl true) (fun _ _ => False) := ⟨ns, rfl, rfl, rfl⟩
theorem at_law (w : World) (mg : Str → Option Value) (fl : Addr) (h : Heap) (Y : (hookW fa fn tf exx).says w h) (G : h.Ns mainGlobals mg) (hmg : mg ("law" : Str) = some (.ref fl)) : ∃ K : PySem.W.Frag, K.In h ∧ LamX.LawAtS PySem.Challenge.rw_anyseven_k72_rounds_and_their_sums w K (L2.CX (PySem.Challenge.rw_anyseven_k72_rounds_and_their_sums).prog w) 10 63 "_law_script" mg fl h := by
  obtain ⟨K, X, s⟩ := Y
  have T := fxOf X G s
  have ea : clA mg ("law" : Str) = fl := by
    unfold clA
    rw [hmg]
  refine ⟨K, X, ?_⟩
  letI : Tb := tbs K
  refine ⟨fdA K fl, [He.cT K (("_law_refused_right" : Str), none)], lift K mg sp_law, ?_, ?_, ?_, ?_, ?_, ?_⟩
  · intro p hp
    simp only [List.mem_cons, List.not_mem_nil, or_false] at hp
    rcases hp with rfl
    · exact s.empty _ (by simp [tf])
  · intro p hp
    simp only [List.mem_cons, List.not_mem_nil, or_false] at hp
    rcases hp with rfl
    · exact s.out _ (by simp [tf])
  · intro p hp
    simp only [List.mem_cons, List.not_mem_nil, or_false] at hp
    rcases hp with rfl
    · exact PySem.W.codeHd_of_K X (s.hd _ (by simp [tf]))
  · have b := FunD.bindsA (ps := ["_law_script"]) T.d_law fun _ _ _ _ _ _ us hl => match us, hl with | [_], _ => rfl
    rw [ea] at b
    exact fun s v => b s [v] rfl
  · intro H a ns hl hbits hT hS
    refine law_sp hS ?_ (lawHolds ns hl hbits)
    intro p hp
    have hp : p ∈ ([((He.cT K (("_law_refused_right" : Str), none)).2, ("_law_refused_right.<locals>.<lambda>" : Str))] : List (Addr × Str)) := hp
    simp only [List.mem_cons, List.not_mem_nil, or_false] at hp
    rcases hp with rfl
    · exact LamX.TabS.nil (hT (He.cT K (("_law_refused_right" : Str), none)) (by simp))
  · intro base KX GB TBs
    have r := lawOk (P := (PySem.Challenge.rw_anyseven_k72_rounds_and_their_sums).prog) (W := w) (base := base) T TBs
    rw [ea] at r
    exact r

end K72
open PySem PySem.W PySem.Calls PyProof.Rows
theorem PySem.Challenge.cw_anyseven_k72_rounds_and_their_sums_holds : PySem.Challenge.rw_anyseven_k72_rounds_and_their_sums.Holds :=
  by
  w_on; o_law
  refine HandSHeadRun.head_any (r := OpenLaw.row PySem.Challenge.rw_anyseven_k72_rounds_and_their_sums) (q := view (OpenLaw.row PySem.Challenge.rw_anyseven_k72_rounds_and_their_sums).prog [78]) (H := K72.hk) (ob := K72.ob) (M := 20000) (loose := K72.loose) (d := HandSHeadRun.topDef (OpenLaw.row PySem.Challenge.rw_anyseven_k72_rounds_and_their_sums).prog 78) (kwd := []) K72.ob_eq
    (by kernel_rfl) (fun s => by kernel_rfl) K72.run (by kernel_rfl) (by kernel_rfl) (by kernel_rfl) (by rfl) (by first | assumption | decide +kernel) (by decide +kernel) ⟨rfl, rfl, rfl, rfl, rfl, by decide +kernel⟩ ?hw ?hc
  case hw => w_witness2
  case hc =>
    refine LamX.walk_ofTsE (l := PySem.Challenge.rw_anyseven_k72_rounds_and_their_sums) (n := 63) (k := 10) (x := "_law_script") (CX := fun w => L2.CX (PySem.Challenge.rw_anyseven_k72_rounds_and_their_sums).prog w) rfl (by decide +kernel) (by kernel_rfl) ⟨rfl, by decide, by decide⟩ ?F (fun w H s e s' h => by
      obtain ⟨a, B, H', cls, d, _, _, _, _, _, _, _, z⟩ := h
      exact z)
    intro w mg fa h Y G hmg0
    have hmg : mg ("law" : PySem.Str) = some (.ref fa) := by
      have e : (HandSHeadRun.topDef (OpenLaw.row PySem.Challenge.rw_anyseven_k72_rounds_and_their_sums).prog 78).name = ("law" : PySem.Str) := by kernel_rfl
      rw [← e]
      exact hmg0
    exact K72.at_law w mg fa h Y G hmg
