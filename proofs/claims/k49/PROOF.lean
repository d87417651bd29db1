import PyProof.Rows.All
import Wide.All
import OpenK.AllK
import Wide.FinOn
import PyProof.ReprReads
import HandS.ForMost
import HandS.Wide
import HandS.WideBits
import HandS.RevRange
import HandS.Conv
import HandS.TryMany
import HandS.Exc
import KE.Datum
import KE.DataCmp
import KE.SortData
import KE.DataMinMax
import KE.DataAny
import PyProof.ReprRoads
import KE.DataFind
import HandS.Defaults
import HandS.Words
import HandS.Ends
import HandS.HeadEnd
import HandS.Style
import KE.DatumOrd
import KE.DatumMore
import KE.DatumMoreOrd
import HandS.Gcd
import HandS.HeadHook2
import HandS.Base
import HandS.Call
import HandS.More
import HandS.WordsExc
import HandS.Head0
import HandS.Head1
import HandS.Head2
import HandS.Head3
import HandS.HeadHook1
import Lean
import KE.KStateDown
import PySem.Challenge.RW_printstack_k49_whole_lines_and_straight
set_option Elab.async false
set_option linter.all false
set_option maxRecDepth 100000
/-! The value layer: a def is walked once by rules that speak of plain data (PyData) alone; what stands in the heap is kept here. -/
namespace VL
open PySem PySem.Spec PyProof.Rows L2

abbrev D := PyData
abbrev St := L2.St
def kD : Key → D
  | .inl i => .int i
  | .inr s => .str s

mutual
def Rp (K : PySem.W.Frag) (F : Hp) : D → V → Prop
  | .none, v => v = .non
  | .bool b, v => v = .bl b
  | .int i, v => v = .int i
  | .str x, v => v = .str x
  | .list ds, v => ∃ a xs, v = .ref a ∧ F a = some (.lst xs) ∧ RpA K F ds xs
  | .tuple ds, v => ∃ a xs, v = .ref a ∧ SqT K F a xs ∧ RpA K F ds xs
  | .dict es, v => ∃ a kvs, v = .ref a ∧ Rd F a (.dK kvs) ∧ RpK K F es kvs
def RpA (K : PySem.W.Frag) (F : Hp) : List D → List V → Prop
  | [], xs => xs = []
  | d :: ds, xs => ∃ x r, xs = x :: r ∧ Rp K F d x ∧ RpA K F ds r
def RpK (K : PySem.W.Frag) (F : Hp) : List (D × D) → List (Key × V) → Prop
  | [], kvs => kvs = []
  | (k, d) :: es, kvs => ∃ k' v r, kvs = (k', v) :: r ∧ k = kD k' ∧ Rp K F d v ∧ RpK K F es r
end

def Sub (F G : Hp) : Prop := ∀ a o, F a = some o → G a = some o
theorem Sub.refl (F : Hp) : Sub F F := fun _ _ h => h
theorem Sub.trans {F G H : Hp} (a : Sub F G) (b : Sub G H) : Sub F H := fun c o h => b c o (a c o h)
theorem Sub.none {F G : Hp} (s : Sub F G) {a : Addr} (h : G a = Option.none) : F a = Option.none := by
  cases q : F a with
  | none => rfl
  | some o => rw [s a o q] at h; cases h
theorem Sub.rd {F G : Hp} (s : Sub F G) {a : Addr} {u : HO} (h : Rd F a u) : Rd G a u := by
  rcases h with h | ⟨o, h⟩
  · exact .inl (s _ _ h)
  · exact .inr ⟨o, s _ _ h⟩
theorem Sub.sqT {K : PySem.W.Frag} {F G : Hp} (s : Sub F G) {a : Addr} {xs : List V} (h : SqT K F a xs) : SqT K G a xs := by
  rcases h with h | h
  · exact .inl (s.rd h)
  · exact .inr h
theorem Sub.upd {F : Hp} {a : Addr} {o : HO} (h : F a = Option.none) : Sub F (L2.upd F a o) := fun b u e => by
  rw [upd_ne (ne_of_none e h)]; exact e
theorem Sub.upd2 {F G : Hp} {a : Addr} {o : HO} (s : Sub F G) : Sub (L2.upd F a o) (L2.upd G a o) := fun b u e => by
  by_cases hb : b = a
  · subst hb; rw [upd_same] at e ⊢; exact e
  · rw [upd_ne hb] at e ⊢; exact s _ _ e
theorem Sub.updR {F G : Hp} {a : Addr} {o : HO} (s : Sub F G) (h : F a = Option.none) : Sub F (L2.upd G a o) := fun b u e => by
  rw [upd_ne (ne_of_none e h)]; exact s _ _ e

section
variable {K : PySem.W.Frag} {F G : Hp}
mutual
theorem Rp.mono (s : Sub F G) : ∀ {d : D} {v : V}, Rp K F d v → Rp K G d v
  | .none, _, h => h
  | .bool _, _, h => h
  | .int _, _, h => h
  | .str _, _, h => h
  | .list ds, _, ⟨a, xs, e, h, r⟩ => ⟨a, xs, e, s _ _ h, RpA.mono s r⟩
  | .tuple ds, _, ⟨a, xs, e, h, r⟩ => ⟨a, xs, e, s.sqT h, RpA.mono s r⟩
  | .dict es, _, ⟨a, xs, e, h, r⟩ => ⟨a, xs, e, s.rd h, RpK.mono s r⟩
theorem RpA.mono (s : Sub F G) : ∀ {ds : List D} {xs : List V}, RpA K F ds xs → RpA K G ds xs
  | [], _, h => h
  | _ :: _, _, ⟨x, r, e, h, q⟩ => ⟨x, r, e, Rp.mono s h, RpA.mono s q⟩
theorem RpK.mono (s : Sub F G) : ∀ {ds : List (D × D)} {xs : List (Key × V)}, RpK K F ds xs → RpK K G ds xs
  | [], _, h => h
  | (_, _) :: _, _, ⟨k, x, r, e, hk, h, q⟩ => ⟨k, x, r, e, hk, Rp.mono s h, RpK.mono s q⟩
end
theorem RpA.len : ∀ {ds : List D} {xs : List V}, RpA K F ds xs → xs.length = ds.length
  | [], _, h => by cases h; rfl
  | _ :: _, _, ⟨x, r, e, _, q⟩ => by subst e; simp [RpA.len q]
theorem RpA.get : ∀ {ds : List D} {xs : List V} {i : Nat} {d : D}, RpA K F ds xs → ds[i]? = some d → ∃ x, xs[i]? = some x ∧ Rp K F d x
  | [], _, _, _, _, e => by simp at e
  | _ :: _, _, 0, _, ⟨x, r, e, h, q⟩, e2 => by subst e; simp at e2; subst e2; exact ⟨x, by simp, h⟩
  | _ :: _, _, i + 1, d, ⟨x, r, e, h, q⟩, e2 => by
    subst e
    obtain ⟨y, h1, h2⟩ := RpA.get (i := i) q (by simpa using e2)
    exact ⟨y, by simpa using h1, h2⟩
theorem RpA.append : ∀ {ds es : List D} {xs ys : List V}, RpA K F ds xs → RpA K F es ys → RpA K F (ds ++ es) (xs ++ ys)
  | [], _, _, _, h, q => by cases h; exact q
  | _ :: _, _, _, _, ⟨x, r, e, h, q⟩, h2 => by subst e; exact ⟨x, _, rfl, h, RpA.append q h2⟩
theorem RpA.snoc {ds : List D} {xs : List V} {d : D} {x : V} (h : RpA K F ds xs) (h2 : Rp K F d x) : RpA K F (ds ++ [d]) (xs ++ [x]) := h.append ⟨x, [], rfl, h2, rfl⟩
theorem RpA.set : ∀ {ds : List D} {xs : List V} (i : Nat) {d : D} {x : V}, RpA K F ds xs → Rp K F d x → RpA K F (ds.set i d) (xs.set i x)
  | [], _, _, _, _, h, _ => by cases h; exact rfl
  | _ :: _, _, 0, _, _, ⟨x, r, e, h, q⟩, h2 => by subst e; exact ⟨_, r, rfl, h2, q⟩
  | _ :: _, _, i + 1, _, _, ⟨x, r, e, h, q⟩, h2 => by subst e; exact ⟨x, _, rfl, h, RpA.set i q h2⟩
theorem RpA.drop : ∀ {ds : List D} {xs : List V} (n : Nat), RpA K F ds xs → RpA K F (ds.drop n) (xs.drop n)
  | _, _, 0, h => h
  | [], _, _ + 1, h => by cases h; exact rfl
  | _ :: _, _, n + 1, ⟨x, r, e, h, q⟩ => by subst e; exact RpA.drop n q
theorem RpA.take : ∀ {ds : List D} {xs : List V} (n : Nat), RpA K F ds xs → RpA K F (ds.take n) (xs.take n)
  | _, _, 0, _ => rfl
  | [], _, _ + 1, h => by cases h; exact rfl
  | _ :: _, _, n + 1, ⟨x, r, e, h, q⟩ => by subst e; exact ⟨x, _, rfl, h, RpA.take n q⟩
theorem RpA.erase : ∀ {ds : List D} {xs : List V} (n : Nat), RpA K F ds xs → RpA K F (ds.eraseIdx n) (xs.eraseIdx n)
  | [], _, _, h => by cases h; exact rfl
  | _ :: _, _, 0, ⟨x, r, e, h, q⟩ => by subst e; exact q
  | _ :: _, _, n + 1, ⟨x, r, e, h, q⟩ => by subst e; exact ⟨x, _, rfl, h, RpA.erase n q⟩
theorem RpA.ints : ∀ {ns : List Int} {xs : List V}, RpA K F (ns.map .int) xs → xs = ns.map V.int
  | [], _, h => h
  | n :: ns, _, ⟨x, r, e, h, q⟩ => by subst e; cases h; rw [RpA.ints q]; rfl
theorem RpA.ofInts : ∀ {ns : List Int}, RpA K F (ns.map .int) (ns.map V.int)
  | [] => rfl
  | n :: ns => ⟨_, _, rfl, rfl, RpA.ofInts⟩
theorem RpA.bools : ∀ {ns : List Bool} {xs : List V}, RpA K F (ns.map .bool) xs → xs = ns.map V.bl
  | [], _, h => h
  | n :: ns, _, ⟨x, r, e, h, q⟩ => by subst e; cases h; rw [RpA.bools q]; rfl
theorem RpA.strs : ∀ {ns : List Str} {xs : List V}, RpA K F (ns.map .str) xs → xs = ns.map V.str
  | [], _, h => h
  | n :: ns, _, ⟨x, r, e, h, q⟩ => by subst e; cases h; rw [RpA.strs q]; rfl
theorem RpA.ofStrs : ∀ {ns : List Str}, RpA K F (ns.map .str) (ns.map V.str)
  | [] => rfl
  | n :: ns => ⟨_, _, rfl, rfl, RpA.ofStrs⟩
/-- the same objects, some in another place -/
theorem RpA.mem : ∀ {ds : List D} {xs : List V} {x : V}, RpA K F ds xs → x ∈ xs → ∃ d ∈ ds, Rp K F d x
  | [], _, _, h, m => by cases h; cases m
  | d :: _, _, x, ⟨y, r, e, h, q⟩, m => by
    subst e
    rcases List.mem_cons.mp m with rfl | m
    · exact ⟨d, List.mem_cons_self, h⟩
    · obtain ⟨d', h1, h2⟩ := RpA.mem q m
      exact ⟨d', List.mem_cons_of_mem _ h1, h2⟩

/-! data without dicts, as the layer reads it -/
mutual
theorem Rp.dp {H : Hp} (s : Sub F H) : ∀ {d : D} {v : V}, d.canLay0 = true → Rp K F d v → Dp K H v d
  | .none, _, _, h => by cases h; exact .non
  | .bool _, _, _, h => by cases h; exact .bl _
  | .int _, _, _, h => by cases h; exact .int _
  | .str _, _, _, h => by cases h; exact .str _
  | .list ds, _, c, ⟨a, xs, e, h, r⟩ => by
    subst e
    exact .lst (.inl (.inl (s _ _ h))) (RpA.dp s (by simpa [PyData.canLay0] using c) r)
  | .tuple ds, _, c, ⟨a, xs, e, h, r⟩ => by
    subst e
    exact .tup (s.sqT h) (RpA.dp s (by simpa [PyData.canLay0] using c) r)
  | .dict es, _, c, _ => by simp [PyData.canLay0] at c
theorem RpA.dp {H : Hp} (s : Sub F H) : ∀ {ds : List D} {xs : List V}, PyData.canLayAll0 ds = true → RpA K F ds xs → DpAll K H xs ds
  | [], _, _, h => by cases h; exact .nil
  | d :: ds, _, c, ⟨x, r, e, h, q⟩ => by
    subst e
    have c' : d.canLay0 = true ∧ PyData.canLayAll0 ds = true := by simpa [PyData.canLayAll0] using c
    exact .cons (Rp.dp s c'.1 h) (RpA.dp s c'.2 q)
end
end

/-- the frozen part and the heap grow: what is new in the frozen part is a new object -/
structure Grow (F H F' H' : Hp) : Prop where
  f : Sub F F'
  h : Sub H H'
  n : ∀ a, F' a ≠ none → F a ≠ none ∨ H a = none
theorem Grow.refl (F H : Hp) : Grow F H F H := ⟨Sub.refl _, Sub.refl _, fun _ h => .inl h⟩
theorem Grow.trans {F H F1 H1 F2 H2 : Hp} (a : Grow F H F1 H1) (b : Grow F1 H1 F2 H2) : Grow F H F2 H2 :=
  ⟨a.f.trans b.f, a.h.trans b.h, fun x h => by
    rcases b.n x h with q | q
    · exact a.n x q
    · exact .inr (a.h.none q)⟩
/-- a new object, frozen at once -/
theorem Grow.new {F H : Hp} {p : Addr} {o : HO} (hs : Sub F H) (h : H p = none) : Grow F H (upd F p o) (upd H p o) :=
  ⟨Sub.upd (hs.none h), Sub.upd h, fun a q => by
    by_cases e : a = p
    · subst e; exact .inr h
    · rw [upd_ne e] at q; exact .inl q⟩
/-- a new object, not frozen -/
theorem Grow.newO {F H : Hp} {p : Addr} {o : HO} (h : H p = none) : Grow F H F (upd H p o) := ⟨Sub.refl _, Sub.upd h, fun a q => .inl q⟩

/-- an object of one's own: its items are frozen -/
def OwnAt (K : PySem.W.Frag) (F H : Hp) (a : Addr) : D → Prop
  | .list ds => ∃ xs, H a = some (.lst xs) ∧ RpA K F ds xs
  | .dict es => ∃ kvs, H a = some (.dK kvs) ∧ RpK K F es kvs
  | _ => False
theorem OwnAt.mono {K : PySem.W.Frag} {F H F' H' : Hp} {a : Addr} (s : Sub F F') (e : ∀ o, H a = some o → H' a = some o) : ∀ {d : D}, OwnAt K F H a d → OwnAt K F' H' a d
  | .list _, ⟨xs, h, r⟩ => ⟨xs, e _ h, r.mono s⟩
  | .dict _, ⟨xs, h, r⟩ => ⟨xs, e _ h, r.mono s⟩
  | .none, h => h
  | .bool _, h => h
  | .int _, h => h
  | .str _, h => h
  | .tuple _, h => h
theorem OwnAt.there {K : PySem.W.Frag} {F H : Hp} {a : Addr} : ∀ {d : D}, OwnAt K F H a d → ∃ o, H a = some o
  | .list _, ⟨xs, h, r⟩ => ⟨_, h⟩
  | .dict _, ⟨xs, h, r⟩ => ⟨_, h⟩
/-- frozen from now on -/
theorem OwnAt.frz {K : PySem.W.Frag} {F H F' : Hp} {a : Addr} (s : Sub F F') (e : ∀ o, H a = some o → F' a = some o) : ∀ {d : D}, OwnAt K F H a d → Rp K F' d (.ref a)
  | .list _, ⟨xs, h, r⟩ => ⟨a, xs, rfl, e _ h, r.mono s⟩
  | .dict _, ⟨xs, h, r⟩ => ⟨a, xs, rfl, .inl (e _ h), r.mono s⟩

inductive Sl where
  | no | val (d : D) | old (d : D) | own (d : D) | bor (d : D) | scr (ns : List Int)
abbrev Env := List Sl

def SlotOk (K : PySem.W.Frag) (H0 B F H : Hp) : Sl → Option V → Prop
  | .no, _ => True
  | .val d, x => ∃ v, x = some v ∧ Rp K F d v
  | .old d, x => ∃ v, x = some v ∧ Rp K B d v
  | .own d, x => ∃ a, x = some (.ref a) ∧ F a = none ∧ H0 a = none ∧ OwnAt K F H a d
  | .bor d, x => ∃ a, x = some (.ref a) ∧ B a = none ∧ H0 a = none ∧ F a = H a ∧ OwnAt K B H a d
  | .scr ns, x => ∃ a, x = some (.ref a) ∧ SqL K H0 a (ns.map V.int)

structure SlotsB (K : PySem.W.Frag) (H0 B F H : Hp) (ρ : Env) (σ : St) : Prop where
  h0 : Sub H0 H
  bf : Sub B F
  fh : Sub F H
  len : ρ.length = σ.length
  ok : ∀ (i : Nat) (s : Sl) (x : Option V), ρ[i]? = some s → σ[i]? = some x → SlotOk K H0 B F H s x
  sep : ∀ (i j : Nat) (d e : D) (a : Addr), ρ[i]? = some (.own d) → ρ[j]? = some (.own e) → σ[i]? = some (some (.ref a)) → σ[j]? = some (some (.ref a)) → i = j
def Slots (K : PySem.W.Frag) (H0 F H : Hp) (ρ : Env) (σ : St) : Prop := ∃ B, SlotsB K H0 B F H ρ σ
theorem Slots.fh {K : PySem.W.Frag} {H0 F H : Hp} {ρ : Env} {σ : St} : Slots K H0 F H ρ σ → Sub F H := fun ⟨_, h⟩ => h.fh
theorem Slots.len {K : PySem.W.Frag} {H0 F H : Hp} {ρ : Env} {σ : St} : Slots K H0 F H ρ σ → ρ.length = σ.length := fun ⟨_, h⟩ => h.len

section
variable {K : PySem.W.Frag} {H0 B F H F' H' : Hp} {ρ : Env} {σ : St}
theorem SlotsB.grow (S : SlotsB K H0 B F H ρ σ) (g : Grow F H F' H') (hs : Sub F' H') : SlotsB K H0 B F' H' ρ σ := by
  refine ⟨S.h0.trans g.h, S.bf.trans g.f, hs, S.len, fun i s x h1 h2 => ?_, S.sep⟩
  have q := S.ok i s x h1 h2
  cases s with
  | no => trivial
  | scr ns => exact q
  | val d => obtain ⟨v, e, r⟩ := q; exact ⟨v, e, r.mono g.f⟩
  | old d => exact q
  | own d =>
    obtain ⟨a, e, f, h0, o⟩ := q
    refine ⟨a, e, ?_, h0, o.mono g.f (g.h a)⟩
    cases z : F' a with
    | none => rfl
    | some u =>
      rcases g.n a (by rw [z]; simp) with y | y
      · exact absurd f y
      · obtain ⟨u, hu⟩ := o.there; rw [y] at hu; cases hu
  | bor d =>
    obtain ⟨a, e, f, h0, fe, o⟩ := q
    refine ⟨a, e, f, h0, ?_, o.mono (Sub.refl _) (g.h a)⟩
    obtain ⟨u, hu⟩ := o.there
    rw [g.h a u hu, g.f a u (fe.trans hu)]
theorem nth_set {α : Type} {l : List α} {i j : Nat} {x y : α} (h : (l.set i x)[j]? = some y) : (i = j ∧ y = x ∧ i < l.length) ∨ (i ≠ j ∧ l[j]? = some y) := by
  by_cases e : i = j
  · subst e
    have hl : i < l.length := by
      have := (List.getElem?_eq_some_iff.mp h).1
      simpa using this
    rw [List.getElem?_set_self hl] at h
    exact .inl ⟨rfl, (Option.some.inj h).symm, hl⟩
  · rw [List.getElem?_set_ne e] at h
    exact .inr ⟨e, h⟩
theorem SlotsB.set (S : SlotsB K H0 B F H ρ σ) {i : Nat} {d : D} {v : V} (r : Rp K F d v) : SlotsB K H0 B F H (ρ.set i (.val d)) (σ.set i (some v)) := by
  refine ⟨S.h0, S.bf, S.fh, by simp [S.len], fun j s x h1 h2 => ?_, fun j k d' e' a h1 h2 h3 h4 => ?_⟩
  · rcases nth_set h1 with ⟨rfl, rfl, _⟩ | ⟨n1, h1⟩
    · rcases nth_set h2 with ⟨_, rfl, _⟩ | ⟨n2, h2⟩
      · exact ⟨v, rfl, r⟩
      · exact absurd rfl n2
    · rcases nth_set h2 with ⟨e, _, _⟩ | ⟨n2, h2⟩
      · exact absurd e n1
      · exact S.ok j s x h1 h2
  · rcases nth_set h1 with ⟨_, e, _⟩ | ⟨n1, h1⟩
    · cases e
    · rcases nth_set h2 with ⟨_, e, _⟩ | ⟨n2, h2⟩
      · cases e
      · rcases nth_set h3 with ⟨e, _, _⟩ | ⟨_, h3⟩
        · exact absurd e n1
        · rcases nth_set h4 with ⟨e, _, _⟩ | ⟨_, h4⟩
          · exact absurd e n2
          · exact S.sep j k d' e' a h1 h2 h3 h4
theorem SlotsB.setNo (S : SlotsB K H0 B F H ρ σ) {i : Nat} {x : Option V} : SlotsB K H0 B F H (ρ.set i .no) (σ.set i x) := by
  refine ⟨S.h0, S.bf, S.fh, by simp [S.len], fun j s x h1 h2 => ?_, fun j k d' e' a h1 h2 h3 h4 => ?_⟩
  · rcases nth_set h1 with ⟨rfl, rfl, _⟩ | ⟨n1, h1⟩
    · trivial
    · rcases nth_set h2 with ⟨e, _, _⟩ | ⟨n2, h2⟩
      · exact absurd e n1
      · exact S.ok j s x h1 h2
  · rcases nth_set h1 with ⟨_, e, _⟩ | ⟨n1, h1⟩
    · cases e
    · rcases nth_set h2 with ⟨_, e, _⟩ | ⟨n2, h2⟩
      · cases e
      · rcases nth_set h3 with ⟨e, _, _⟩ | ⟨_, h3⟩
        · exact absurd e n1
        · rcases nth_set h4 with ⟨e, _, _⟩ | ⟨_, h4⟩
          · exact absurd e n2
          · exact S.sep j k d' e' a h1 h2 h3 h4
/-- a name holds a new object -/
theorem SlotsB.setOwn (S : SlotsB K H0 B F H ρ σ) {i : Nat} {d : D} {a : Addr} (f : F a = none) (h0 : H0 a = none) (o : OwnAt K F H a d) (nw : ∀ (j : Nat) (e : D), j ≠ i → ρ[j]? = some (.own e) → σ[j]? ≠ some (some (.ref a))) :
    SlotsB K H0 B F H (ρ.set i (.own d)) (σ.set i (some (.ref a))) := by
  refine ⟨S.h0, S.bf, S.fh, by simp [S.len], fun j s x h1 h2 => ?_, fun j k d' e' a' h1 h2 h3 h4 => ?_⟩
  · rcases nth_set h1 with ⟨rfl, rfl, _⟩ | ⟨n1, h1⟩
    · rcases nth_set h2 with ⟨_, rfl, _⟩ | ⟨n2, h2⟩
      · exact ⟨a, rfl, f, h0, o⟩
      · exact absurd rfl n2
    · rcases nth_set h2 with ⟨e, _, _⟩ | ⟨n2, h2⟩
      · exact absurd e n1
      · exact S.ok j s x h1 h2
  · rcases nth_set h1 with ⟨e1, _, _⟩ | ⟨n1, h1⟩
    · subst e1
      rcases nth_set h2 with ⟨e2, _, _⟩ | ⟨n2, h2⟩
      · exact e2
      · rcases nth_set h3 with ⟨_, e3, _⟩ | ⟨n3, _⟩
        · rcases nth_set h4 with ⟨e4, _, _⟩ | ⟨_, h4⟩
          · exact absurd e4 n2
          · cases e3; exact absurd h4 (nw k e' (Ne.symm n2) h2)
        · exact absurd rfl n3
    · rcases nth_set h3 with ⟨e, _, _⟩ | ⟨_, h3⟩
      · exact absurd e n1
      · rcases nth_set h2 with ⟨e2, _, _⟩ | ⟨n2, h2⟩
        · subst e2
          rcases nth_set h4 with ⟨_, e4, _⟩ | ⟨n4, _⟩
          · cases e4; exact absurd h3 (nw j d' (Ne.symm n1) h1)
          · exact absurd rfl n4
        · rcases nth_set h4 with ⟨e, _, _⟩ | ⟨_, h4⟩
          · exact absurd e n2
          · exact S.sep j k d' e' a' h1 h2 h3 h4
theorem Slots.grow (S : Slots K H0 F H ρ σ) (g : Grow F H F' H') (hs : Sub F' H') : Slots K H0 F' H' ρ σ := let ⟨B, S⟩ := S; ⟨B, S.grow g hs⟩
theorem SlotsB.ex (S : SlotsB K H0 B F H ρ σ) : Slots K H0 F H ρ σ := ⟨B, S⟩
/-- what one's own holds is changed -/
theorem SlotsB.mut (S : SlotsB K H0 B F H ρ σ) {i : Nat} {d d' : D} {a : Addr} {o : HO} (h1 : ρ[i]? = some (.own d)) (h2 : σ[i]? = some (some (.ref a))) (n : OwnAt K F (upd H a o) a d') : SlotsB K H0 B F (upd H a o) (ρ.set i (.own d')) σ := by
  obtain ⟨a', e', fa, h0a, oa⟩ := S.ok i _ _ h1 h2
  cases e'
  have hi : i < ρ.length := (List.getElem?_eq_some_iff.mp h1).1
  refine ⟨S.h0.updR h0a, S.bf, S.fh.updR fa, by simp [S.len], fun j s x q1 q2 => ?_, fun j k d1 e1 a1 q1 q2 q3 q4 => ?_⟩
  · rcases nth_set q1 with ⟨rfl, rfl, _⟩ | ⟨n1, q1⟩
    · rw [h2] at q2; cases q2
      exact ⟨a, rfl, fa, h0a, n⟩
    · have q := S.ok j s x q1 q2
      cases s with
      | no => trivial
      | scr ns => exact q
      | val d => exact q
      | old d => exact q
      | own d1 =>
        obtain ⟨b, e, f, h0, o1⟩ := q
        subst e
        have ne : b ≠ a := fun z => by
          subst z
          exact n1 (S.sep i j d d1 b h1 q1 h2 q2)
        exact ⟨b, rfl, f, h0, o1.mono (Sub.refl _) fun u hu => by rw [upd_ne ne]; exact hu⟩
      | bor d1 =>
        obtain ⟨b, e, f, h0, fe, o1⟩ := q
        have ne : b ≠ a := fun z => by
          subst z
          obtain ⟨u, hu⟩ := o1.there
          rw [fa, hu] at fe
          cases fe
        exact ⟨b, e, f, h0, by rw [upd_ne ne]; exact fe, o1.mono (Sub.refl _) fun u hu => by rw [upd_ne ne]; exact hu⟩
  · rcases nth_set q1 with ⟨z1, e2, _⟩ | ⟨n1, q1⟩
    · rcases nth_set q2 with ⟨z2, e3, _⟩ | ⟨n2, q2⟩
      · rw [← z1, ← z2]
      · subst z1
        exact S.sep i k d e1 a1 h1 q2 q3 q4
    · rcases nth_set q2 with ⟨z2, e3, _⟩ | ⟨n2, q2⟩
      · subst z2
        exact S.sep j i d1 d a1 q1 h1 q3 q4
      · exact S.sep j k d1 e1 a1 q1 q2 q3 q4
end
end VL
namespace VL
open PySem PySem.Spec PyProof.Rows L2

inductive Md where
  | val | look | own
def isSc : D → Bool
  | .none => true
  | .bool _ => true
  | .int _ => true
  | .str _ => true
  | _ => false
/-- what is come by: a frozen thing; a thing to be looked at; a new one of one's own -/
def Res (K : PySem.W.Frag) (H0 F H : Hp) (d : D) (v : V) : Md → Prop
  | .val => Rp K F d v
  | .look => Rp K F d v ∨ ∃ a, v = .ref a ∧ OwnAt K F H a d
  | .own => (isSc d = true ∧ Rp K F d v) ∨ ∃ a, v = .ref a ∧ H0 a = none ∧ F a = none ∧ OwnAt K F H a d
abbrev Lk (K : PySem.W.Frag) (F H : Hp) (d : D) (v : V) : Prop := Rp K F d v ∨ ∃ a, v = .ref a ∧ OwnAt K F H a d

abbrev QE := Env → (D → Prop) → Prop
abbrev QT := Env → (Bool → Prop) → Prop
abbrev QA := Env → (List D → Prop) → Prop

section
variable {K : PySem.W.Frag} {F H F' H' H0 : Hp} {d : D} {v : V} {x : V}
theorem isSc.any {G : Hp} : ∀ {d : D}, isSc d = true → Rp K F d v → Rp K G d v
  | .none, _, h => h
  | .bool _, _, h => h
  | .int _, _, h => h
  | .str _, _, h => h
theorem Lk.grow (h : Lk K F H d v) (g : Grow F H F' H') : Lk K F' H' d v := by
  rcases h with h | ⟨a, e, o⟩
  · exact .inl (h.mono g.f)
  · exact .inr ⟨a, e, o.mono g.f (g.h a)⟩
/-- an own thing is frozen -/
theorem Res.frz (h : Res K H0 F H d v .own) (g : Grow F0 H0 F H) (hs : Sub F H) : ∃ F', Grow F0 H0 F' H ∧ Sub F' H ∧ Sub F F' ∧ Rp K F' d v := by
  rcases h with ⟨_, r⟩ | ⟨a, e, h0, f, o⟩
  · exact ⟨F, g, hs, Sub.refl _, r⟩
  · obtain ⟨u, hu⟩ := o.there
    refine ⟨upd F a u, ⟨g.f.trans (Sub.upd f), g.h, fun b q => ?_⟩, fun b w q => ?_, Sub.upd f, ?_⟩
    · by_cases hb : b = a
      · subst hb; exact .inr h0
      · rw [upd_ne hb] at q; exact g.n b q
    · by_cases hb : b = a
      · subst hb; rw [upd_same] at q; cases q; exact hu
      · rw [upd_ne hb] at q; exact hs _ _ q
    · subst e
      refine o.frz (Sub.upd f) fun w q => ?_
      rw [hu] at q; cases q; exact upd_same
end

def Snd (K : PySem.W.Frag) (md : Md) (t : TE) (q : QE) : Prop :=
  ∀ (H0 F H : Hp) (ρ : Env) (σ : St) (P : D → Prop) (Q : VK), Slots K H0 F H ρ σ → q ρ P →
    (∀ v d F' H', Grow F H F' H' → Sub F' H' → Res K H F' H' d v md → P d → Q v H') → t σ H Q
structure VE (md : Md) (X : Cx) (e : Expr) (t : TE) (q : QE) : Prop where
  pe : PE X e t
  sd : Snd X.K md t q
def SndT (K : PySem.W.Frag) (t : TT) (q : QT) : Prop :=
  ∀ (H0 F H : Hp) (ρ : Env) (σ : St) (P : Bool → Prop) (Q : Bool → Hp → Prop), Slots K H0 F H ρ σ → q ρ P →
    (∀ b F' H', Grow F H F' H' → Sub F' H' → P b → Q b H') → t σ H Q
structure VT (X : Cx) (e : Expr) (t : TT) (q : QT) : Prop where
  pt : PT X e t
  sd : SndT X.K t q
structure VW (X : Cx) (e : Expr) (t : TT) (q : QT) : Prop where
  pw : PW X e t
  sd : SndT X.K t q
def ResA (K : PySem.W.Frag) (F H : Hp) : List D → List V → Md → Prop
  | [], vs, _ => vs = []
  | d :: ds, vs, md => ∃ x r, vs = x :: r ∧ Res K H F H d x md ∧ ResA K F H ds r md
def SndA (K : PySem.W.Frag) (md : Md) (n : Nat) (t : TA) (q : QA) : Prop :=
  ∀ (H0 F H : Hp) (ρ : Env) (σ : St) (P : List D → Prop) (Q : List V → Hp → Prop), Slots K H0 F H ρ σ → q ρ P →
    (∀ vs ds F' H', Grow F H F' H' → Sub F' H' → ds.length = n → ResA K F' H' ds vs md → P ds → Q vs H') → t σ H Q
structure VA (md : Md) (X : Cx) (es : List Expr) (t : TA) (q : QA) : Prop where
  pa : PA X es t
  sd : SndA X.K md es.length t q

section
variable {X : Cx} {md : Md} {e a b : Expr} {es : List Expr} {t ta tb : TE} {tA : TA} {q qa qb : QE} {qA : QA} {pos : Pos}

theorem VE.look (h : VE .val X e t q) : VE .look X e t q := ⟨h.pe, fun H0 F H ρ σ P Q S hq k => h.sd H0 F H ρ σ P Q S hq fun v d F' H' g s r p => k v d F' H' g s (.inl r) p⟩
theorem VE.frz (h : VE .own X e t q) : VE .val X e t q := ⟨h.pe, fun H0 F H ρ σ P Q S hq k => h.sd H0 F H ρ σ P Q S hq fun v d F' H' g s r p => by
  obtain ⟨F2, g2, s2, _, r2⟩ := r.frz g s
  exact k v d F2 H' g2 s2 r2 p⟩

/-! names, constants -/
def getV : Sl → Option D
  | .val d => some d
  | .old d => some d
  | .bor d => some d
  | _ => none
def getL : Sl → Option D
  | .val d => some d
  | .old d => some d
  | .bor d => some d
  | .own d => some d
  | _ => none
def qVar (i : Nat) : QE := fun ρ P => ∃ d, (ρ[i]?).bind getV = some d ∧ P d
def qVarL (i : Nat) : QE := fun ρ P => ∃ d, (ρ[i]?).bind getL = some d ∧ P d
def qC (d : D) : QE := fun _ P => P d
theorem slot_at {ρ : Env} {σ : St} (hl : ρ.length = σ.length) {i : Nat} {s : Sl} (h : ρ[i]? = some s) : ∃ x, σ[i]? = some x := by
  have := (List.getElem?_eq_some_iff.mp h).1
  exact ⟨σ[i]'(by omega), List.getElem?_eq_getElem _⟩
theorem slot_val {K : PySem.W.Frag} {H0 F H : Hp} {ρ : Env} {σ : St} {i : Nat} {d : D} (S : Slots K H0 F H ρ σ) (h : (ρ[i]?).bind getV = some d) : ∃ v, σ[i]? = some (some v) ∧ Rp K F d v := by
  obtain ⟨B, S⟩ := S
  cases hs : ρ[i]? with
  | none => rw [hs] at h; simp at h
  | some s =>
    rw [hs] at h
    obtain ⟨x, hx⟩ := slot_at S.len hs
    have ok := S.ok i s x hs hx
    cases s with
    | no => simp [getV] at h
    | scr ns => simp [getV] at h
    | own e => simp [getV] at h
    | val e => simp [getV] at h; subst h; obtain ⟨v, e1, r⟩ := ok; subst e1; exact ⟨v, hx, r⟩
    | old e => simp [getV] at h; subst h; obtain ⟨v, e1, r⟩ := ok; subst e1; exact ⟨v, hx, r.mono S.bf⟩
    | bor e =>
      simp [getV] at h; subst h
      obtain ⟨a, e1, ba, h0, fe, o⟩ := ok
      subst e1
      exact ⟨_, hx, o.frz S.bf fun u hu => fe.trans hu⟩
theorem slot_look {K : PySem.W.Frag} {H0 F H : Hp} {ρ : Env} {σ : St} {i : Nat} {d : D} (S : Slots K H0 F H ρ σ) (h : (ρ[i]?).bind getL = some d) : ∃ v, σ[i]? = some (some v) ∧ Lk K F H d v := by
  cases hs : ρ[i]? with
  | none => rw [hs] at h; simp at h
  | some s =>
    cases s with
    | own e =>
      rw [hs] at h
      simp [getL] at h; subst h
      obtain ⟨B, S⟩ := S
      obtain ⟨x, hx⟩ := slot_at S.len hs
      obtain ⟨a, e1, f, h0, o⟩ := S.ok i _ x hs hx
      subst e1
      exact ⟨_, hx, .inr ⟨a, rfl, o⟩⟩
    | no => rw [hs] at h; simp [getL] at h
    | scr ns => rw [hs] at h; simp [getL] at h
    | val e => obtain ⟨v, h1, h2⟩ := slot_val (i := i) (d := d) S (by rw [hs] at h ⊢; exact h); exact ⟨v, h1, .inl h2⟩
    | old e => obtain ⟨v, h1, h2⟩ := slot_val (i := i) (d := d) S (by rw [hs] at h ⊢; exact h); exact ⟨v, h1, .inl h2⟩
    | bor e => obtain ⟨v, h1, h2⟩ := slot_val (i := i) (d := d) S (by rw [hs] at h ⊢; exact h); exact ⟨v, h1, .inl h2⟩
theorem ve_var (i : Nat) {x : Str} (hN : X.N[i]? = some x := by rfl) (hv : Vis X.env.scope x := by first | exact Or.inl rfl | exact Or.inr (Or.inl rfl) | exact Or.inr (Or.inr rfl)) (hd : (x == ("__debug__" : Str)) = false := by decide)
    (hcd : (x == ("__classdict__" : Str)) = false := by decide) : VE .val X (.Name x pos) (tVar i) (qVar i) :=
  ⟨pe_var hN hv hd hcd, fun H0 F H ρ σ P Q S ⟨d, h, p⟩ k => by
    obtain ⟨v, h1, h2⟩ := slot_val S h
    exact ⟨v, h1, k v d F H (Grow.refl _ _) S.fh h2 p⟩⟩
theorem ve_varL (i : Nat) {x : Str} (hN : X.N[i]? = some x := by rfl) (hv : Vis X.env.scope x := by first | exact Or.inl rfl | exact Or.inr (Or.inl rfl) | exact Or.inr (Or.inr rfl)) (hd : (x == ("__debug__" : Str)) = false := by decide)
    (hcd : (x == ("__classdict__" : Str)) = false := by decide) : VE .look X (.Name x pos) (tVar i) (qVarL i) :=
  ⟨pe_var hN hv hd hcd, fun H0 F H ρ σ P Q S ⟨d, h, p⟩ k => by
    obtain ⟨v, h1, h2⟩ := slot_look S h
    exact ⟨v, h1, k v d F H (Grow.refl _ _) S.fh h2 p⟩⟩
theorem sndC {K : PySem.W.Frag} {d : D} {v : V} (h : ∀ F : Hp, Rp K F d v) : Snd K .val (tC v) (qC d) := fun H0 F H ρ σ P Q S p k => k v d F H (Grow.refl _ _) S.fh (h F) p
theorem ve_int {i j} : VE .val X (.Constant (.int i) j pos) (tC (.int i)) (qC (.int i)) := ⟨pe_int, sndC fun _ => rfl⟩
theorem ve_bl {i j} : VE .val X (.Constant (.bool i) j pos) (tC (.bl i)) (qC (.bool i)) := ⟨pe_bl, sndC fun _ => rfl⟩
theorem ve_non {j} : VE .val X (.Constant .none j pos) (tC .non) (qC .none) := ⟨pe_non, sndC fun _ => rfl⟩
theorem ve_str {i j} : VE .val X (.Constant (.str i) j pos) (tC (.str i)) (qC (.str i)) := ⟨pe_str, sndC fun _ => rfl⟩
theorem ve_globI {x : Str} {i : Int} {u : Tok} (hg : Gl X x) (hm : X.mg x = some (.int i u)) (hd : (x == ("__debug__" : Str)) = false := by decide) : VE .val X (.Name x pos) (tC (.int i)) (qC (.int i)) := ⟨pe_glob hg hm ⟨_, rfl⟩ hd, sndC fun _ => rfl⟩
theorem ve_globS {x : Str} {i : Str} {u : Tok} (hg : Gl X x) (hm : X.mg x = some (.str i u)) (hd : (x == ("__debug__" : Str)) = false := by decide) : VE .val X (.Name x pos) (tC (.str i)) (qC (.str i)) := ⟨pe_glob hg hm ⟨_, rfl⟩ hd, sndC fun _ => rfl⟩

/-! operators -/
def Op2 (K : PySem.W.Frag) (md : Md) (f : D → D → Option D) (r : R2) : Prop :=
  ∀ (F H : Hp) (dx dy z : D) (x y : V) (Q : VK), Sub F H → Lk K F H dx x → Lk K F H dy y → f dx dy = some z →
    (∀ v F' H', Grow F H F' H' → Sub F' H' → Res K H F' H' z v md → Q v H') → r x y H Q
def q2 (f : D → D → Option D) (qa qb : QE) : QE := fun ρ P => qa ρ fun x => qb ρ fun y => ∃ z, f x y = some z ∧ P z
theorem snd2 {K : PySem.W.Frag} {f : D → D → Option D} {r : R2} (ho : Op2 K md f r) (ha : Snd K .look ta qa) (hb : Snd K .look tb qb) : Snd K md (tOp r ta tb) (q2 f qa qb) := by
  intro H0 F H ρ σ P Q S hq k
  refine ha H0 F H ρ σ _ _ S hq fun x dx F1 H1 g1 s1 r1 h1 => ?_
  refine hb H0 F1 H1 ρ σ _ _ (S.grow g1 s1) h1 fun y dy F2 H2 g2 s2 r2 ⟨z, e, p⟩ => ?_
  refine ho F2 H2 dx dy z x y _ s2 (Lk.grow r1 g2) r2 e fun v F3 H3 g3 s3 r3 => ?_
  refine k v z F3 H3 ((g1.trans g2).trans g3) s3 ?_ p
  cases md with
  | val => exact r3
  | look => exact r3
  | own =>
    rcases r3 with r3 | ⟨a, e1, h0, f0, o⟩
    · exact .inl r3
    · exact .inr ⟨a, e1, g1.h.none (g2.h.none h0), f0, o⟩
theorem ve_op2 {op : Operator} {f : D → D → Option D} {r : R2} (hr : OpR X (binaryOp op) r) (ho : Op2 X.K md f r) (ha : VE .look X a ta qa) (hb : VE .look X b tb qb) : VE md X (.BinOp a op b pos) (tOp r ta tb) (q2 f qa qb) :=
  ⟨pe_op hr ha.pe hb.pe, snd2 ho ha.sd hb.sd⟩
theorem ve_cmp {op : CmpOp} {f : D → D → Option D} {r : R2} (hr : OpR X (compareOp op) r) (ho : Op2 X.K .val f r) (hm : behindInMarks op b = false) (ha : VE .look X a ta qa) (hb : VE .look X b tb qb) : VE .val X (.Compare a [op] [b] pos) (tOp r ta tb) (q2 f qa qb) :=
  ⟨pe_cmpR hr ha.pe hb.pe hm, snd2 ho ha.sd hb.sd⟩
def qTst (q : QE) : QT := fun ρ P => q ρ fun d => ∃ b, d = .bool b ∧ P b
theorem sndTst {K : PySem.W.Frag} (h : Snd K .val t q) : SndT K (tTest t) (qTst q) := by
  intro H0 F H ρ σ P Q S hq k
  refine h H0 F H ρ σ _ _ S hq fun v d F1 H1 g1 s1 r1 ⟨b, e, p⟩ => ?_
  subst e
  exact ⟨b, r1, k b F1 H1 g1 s1 p⟩
theorem vt_cmp {op : CmpOp} {f : D → D → Option D} {r : R2} (hr : OpR X (compareOp op) r) (ho : Op2 X.K .val f r) (hm : behindInMarks op b = false) (ha : VE .look X a ta qa) (hb : VE .look X b tb qb) : VT X (.Compare a [op] [b] pos) (tTest (tOp r ta tb)) (qTst (q2 f qa qb)) :=
  ⟨pt_cmpR hr ha.pe hb.pe hm, sndTst (snd2 ho ha.sd hb.sd)⟩
theorem vt_val (h : VE .val X e t q) (he : ∀ whole, isTrue e X.env whole = (do let v ← whole; standAt e.pos; holding [v] (truthy v)) := by intro _; rfl) : VT X e (tB t) (qTst q) :=
  ⟨pt_val h.pe he, sndTst h.sd⟩
/-- a < b < c -/
def qChain (f g : D → D → Option D) (qa qb qc : QE) : QE := fun ρ P => qa ρ fun x => qb ρ fun y => ∃ k, f x y = some (.bool k) ∧ (if k = true then qc ρ fun z => ∃ w, g y z = some w ∧ P w else P (.bool false))
variable {c : Expr} {tc : TE} {qc : QE}
theorem sndChain {K : PySem.W.Frag} {f g : D → D → Option D} {r r' : R2} (ho : Op2 K .val f r) (ho' : Op2 K .val g r') (ha : Snd K .look ta qa) (hb : Snd K .look tb qb) (hc : Snd K .look tc qc) : Snd K .val (tChain r r' ta tb tc) (qChain f g qa qb qc) := by
  intro H0 F H ρ σ P Q S hq k
  refine ha H0 F H ρ σ _ _ S hq fun x dx F1 H1 g1 s1 r1 h1 => ?_
  refine hb H0 F1 H1 ρ σ _ _ (S.grow g1 s1) h1 fun y dy F2 H2 g2 s2 r2 ⟨b, e, p⟩ => ?_
  refine ho F2 H2 dx dy _ x y _ s2 (Lk.grow r1 g2) r2 e fun v F3 H3 g3 s3 r3 => ?_
  refine ⟨b, r3, ?_⟩
  cases b with
  | false => exact k _ (.bool false) F3 H3 ((g1.trans g2).trans g3) s3 rfl p
  | true =>
    have S3 := ((S.grow g1 s1).grow g2 s2).grow g3 s3
    refine hc H0 F3 H3 ρ σ _ _ S3 p fun z dz F4 H4 g4 s4 r4 ⟨w, e', p'⟩ => ?_
    refine ho' F4 H4 dy dz w y z _ s4 (Lk.grow (Lk.grow r2 g3) g4) r4 e' fun v' F5 H5 g5 s5 r5 => ?_
    exact k _ _ F5 H5 ((((g1.trans g2).trans g3).trans g4).trans g5) s5 r5 p'
theorem ve_chain {op op' : CmpOp} {f g : D → D → Option D} {r r' : R2} (hr : OpR X (compareOp op) r) (hr' : OpR X (compareOp op') r') (ho : Op2 X.K .val f r) (ho' : Op2 X.K .val g r') (ha : VE .look X a ta qa) (hb : VE .look X b tb qb) (hc : VE .look X c tc qc) (hm : lastMarks [op, op'] [b, c] = false := by with_unfolding_all rfl) :
    VE .val X (.Compare a [op, op'] [b, c] pos) (tChain r r' ta tb tc) (qChain f g qa qb qc) := ⟨pe_chain hr hr' ha.pe hb.pe hc.pe hm, sndChain ho ho' ha.sd hb.sd hc.sd⟩
theorem vt_chain {op op' : CmpOp} {f g : D → D → Option D} {r r' : R2} (hr : OpR X (compareOp op) r) (hr' : OpR X (compareOp op') r') (ho : Op2 X.K .val f r) (ho' : Op2 X.K .val g r') (ha : VE .look X a ta qa) (hb : VE .look X b tb qb) (hc : VE .look X c tc qc) (hm : lastMarks [op, op'] [b, c] = false := by with_unfolding_all rfl) :
    VT X (.Compare a [op, op'] [b, c] pos) (tTest (tChain r r' ta tb tc)) (qTst (qChain f g qa qb qc)) := ⟨pt_chain hr hr' ha.pe hb.pe hc.pe hm, sndTst (sndChain ho ho' ha.sd hb.sd hc.sd)⟩
/-! unary -/
def Op1 (K : PySem.W.Frag) (f : D → Option D) (r : V → Hp → VK → Prop) : Prop :=
  ∀ (F H : Hp) (dx z : D) (x : V) (Q : VK), Sub F H → Lk K F H dx x → f dx = some z → (∀ v F' H', Grow F H F' H' → Sub F' H' → Rp K F' z v → Q v H') → r x H Q
def q1 (f : D → Option D) (qa : QE) : QE := fun ρ P => qa ρ fun x => ∃ z, f x = some z ∧ P z
theorem ve_un {op : UnaryOp} {f : D → Option D} {r : V → Hp → VK → Prop} (hr : UnR X (unaryOp op) r) (ho : Op1 X.K f r) (ha : VE .look X a ta qa) : VE .val X (.UnaryOp op a pos) (tUn r ta) (q1 f qa) := by
  refine ⟨pe_un hr ha.pe, fun H0 F H ρ σ P Q S hq k => ?_⟩
  refine ha.sd H0 F H ρ σ _ _ S hq fun x dx F1 H1 g1 s1 r1 ⟨z, e, p⟩ => ?_
  exact ho F1 H1 dx z x _ s1 r1 e fun v F2 H2 g2 s2 r2 => k v z F2 H2 (g1.trans g2) s2 r2 p
/-! and, or, not -/
variable {tA' tB' : TT} {qA' qB' : QT} {rest : List Expr}
def qAnd (qa qb : QT) : QT := fun ρ P => qa ρ fun b => if b = true then qb ρ P else P false
def qOr (qa qb : QT) : QT := fun ρ P => qa ρ fun b => if b = true then P true else qb ρ P
def qNot (qa : QT) : QT := fun ρ P => qa ρ fun b => P (!b)
theorem vw_and1 (h : VT X a tA' qA') : VW X (.BoolOp .And [a] pos) tA' qA' := ⟨pw_and1 h.pt, h.sd⟩
theorem vw_or1 (h : VT X a tA' qA') : VW X (.BoolOp .Or [a] pos) tA' qA' := ⟨pw_or1 h.pt, h.sd⟩
theorem vw_and (ha : VT X a tA' qA') (hb : VW X (.BoolOp .And (b :: rest) pos) tB' qB') : VW X (.BoolOp .And (a :: b :: rest) pos) (tAnd tA' tB') (qAnd qA' qB') := by
  refine ⟨pw_and ha.pt hb.pw, fun H0 F H ρ σ P Q S hq k => ?_⟩
  refine ha.sd H0 F H ρ σ _ _ S hq fun x F1 H1 g1 s1 p => ?_
  cases x with
  | true => exact hb.sd H0 F1 H1 ρ σ _ _ (S.grow g1 s1) p fun y F2 H2 g2 s2 p2 => k y F2 H2 (g1.trans g2) s2 p2
  | false => exact k false F1 H1 g1 s1 p
theorem vw_or (ha : VT X a tA' qA') (hb : VW X (.BoolOp .Or (b :: rest) pos) tB' qB') : VW X (.BoolOp .Or (a :: b :: rest) pos) (tOr tA' tB') (qOr qA' qB') := by
  refine ⟨pw_or ha.pt hb.pw, fun H0 F H ρ σ P Q S hq k => ?_⟩
  refine ha.sd H0 F H ρ σ _ _ S hq fun x F1 H1 g1 s1 p => ?_
  cases x with
  | false => exact hb.sd H0 F1 H1 ρ σ _ _ (S.grow g1 s1) p fun y F2 H2 g2 s2 p2 => k y F2 H2 (g1.trans g2) s2 p2
  | true => exact k true F1 H1 g1 s1 p
theorem VW.vt (h : VW X e tA' qA') : VT X e tA' qA' := ⟨h.pw.pt, h.sd⟩
theorem vt_not (ha : VT X a tA' qA') : VT X (.UnaryOp .Not a pos) (tNot tA') (qNot qA') :=
  ⟨pt_not ha.pt, fun H0 F H ρ σ P Q S hq k => ha.sd H0 F H ρ σ _ _ S hq fun x F1 H1 g1 s1 p => k (!x) F1 H1 g1 s1 p⟩
/-- .. as values -/
def qAndV (qa qb : QE) : QE := fun ρ P => qa ρ fun d => ∃ b, d = .bool b ∧ if b = true then qb ρ P else P (.bool false)
def qOrV (qa qb : QE) : QE := fun ρ P => qa ρ fun d => ∃ b, d = .bool b ∧ if b = true then P (.bool true) else qb ρ P
def qNotV (qa : QE) : QE := fun ρ P => qa ρ fun d => ∃ b, d = .bool b ∧ P (.bool !b)
theorem ve_one {op} (h : VE .val X a t q) : VE .val X (.BoolOp op [a] pos) t q := ⟨pe_one h.pe, h.sd⟩
theorem ve_and (ha : VE .val X a ta qa) (hb : VE .val X (.BoolOp .And (b :: rest) pos) tb qb) : VE .val X (.BoolOp .And (a :: b :: rest) pos) (tAndV ta tb) (qAndV qa qb) := by
  refine ⟨pe_and ha.pe hb.pe, fun H0 F H ρ σ P Q S hq k => ?_⟩
  refine ha.sd H0 F H ρ σ _ _ S hq fun x dx F1 H1 g1 s1 r1 ⟨b, e, p⟩ => ?_
  subst e
  refine ⟨b, r1, ?_⟩
  cases b with
  | true => exact hb.sd H0 F1 H1 ρ σ _ _ (S.grow g1 s1) p fun y dy F2 H2 g2 s2 r2 p2 => k y dy F2 H2 (g1.trans g2) s2 r2 p2
  | false => exact k _ (.bool false) F1 H1 g1 s1 rfl p
theorem ve_or (ha : VE .val X a ta qa) (hb : VE .val X (.BoolOp .Or (b :: rest) pos) tb qb) : VE .val X (.BoolOp .Or (a :: b :: rest) pos) (tOrV ta tb) (qOrV qa qb) := by
  refine ⟨pe_or ha.pe hb.pe, fun H0 F H ρ σ P Q S hq k => ?_⟩
  refine ha.sd H0 F H ρ σ _ _ S hq fun x dx F1 H1 g1 s1 r1 ⟨b, e, p⟩ => ?_
  subst e
  refine ⟨b, r1, ?_⟩
  cases b with
  | false => exact hb.sd H0 F1 H1 ρ σ _ _ (S.grow g1 s1) p fun y dy F2 H2 g2 s2 r2 p2 => k y dy F2 H2 (g1.trans g2) s2 r2 p2
  | true => exact k _ (.bool true) F1 H1 g1 s1 rfl p
theorem ve_not (ha : VE .val X a ta qa) : VE .val X (.UnaryOp .Not a pos) (tNotV ta) (qNotV qa) :=
  ⟨pe_not ha.pe, fun H0 F H ρ σ P Q S hq k => ha.sd H0 F H ρ σ _ _ S hq fun x dx F1 H1 g1 s1 r1 ⟨b, e, p⟩ => by
    subst e
    exact ⟨b, r1, k _ (.bool !b) F1 H1 g1 s1 rfl p⟩⟩
def qIf (qt : QT) (qa qb : QE) : QE := fun ρ P => qt ρ fun b => if b = true then qa ρ P else qb ρ P
theorem ve_if (hc : VT X c tA' qA') (ha : VE md X a ta qa) (hb : VE md X b tb qb) : VE md X (.IfExp c a b pos) (tIf tA' ta tb) (qIf qA' qa qb) := by
  refine ⟨pe_ifExp hc.pt ha.pe hb.pe, fun H0 F H ρ σ P Q S hq k => ?_⟩
  refine hc.sd H0 F H ρ σ _ _ S hq fun x F1 H1 g1 s1 p => ?_
  have fix : ∀ v d F' H', Res X.K H1 F' H' d v md → Res X.K H F' H' d v md := fun v d F' H' r => by
    cases md with
    | val => exact r
    | look => exact r
    | own =>
      rcases r with r | ⟨a, e1, h0, f0, o⟩
      · exact .inl r
      · exact .inr ⟨a, e1, g1.h.none h0, f0, o⟩
  cases x with
  | true => exact ha.sd H0 F1 H1 ρ σ _ _ (S.grow g1 s1) p fun y dy F2 H2 g2 s2 r2 p2 => k y dy F2 H2 (g1.trans g2) s2 (fix _ _ _ _ r2) p2
  | false => exact hb.sd H0 F1 H1 ρ σ _ _ (S.grow g1 s1) p fun y dy F2 H2 g2 s2 r2 p2 => k y dy F2 H2 (g1.trans g2) s2 (fix _ _ _ _ r2) p2

/-! arguments -/
def qNil : QA := fun _ P => P []
def qCons (qa : QE) (qr : QA) : QA := fun ρ P => qa ρ fun x => qr ρ fun xs => P (x :: xs)
theorem va_nil : VA md X [] tNil qNil := ⟨pa_nil, fun H0 F H ρ σ P Q S p k => k [] [] F H (Grow.refl _ _) S.fh rfl rfl p⟩
def MdA : Md → Prop
  | .own => False
  | _ => True
theorem va_cons (ha : VE md X e ta qa) (hr : VA md X es tA qA) (hs : starEach (e :: es) X.env = (false, eval e X.env) :: starEach es X.env := by rfl) (hm : MdA md := by exact True.intro) : VA md X (e :: es) (tCons ta tA) (qCons qa qA) := by
  refine ⟨pa_cons ha.pe hr.pa hs, fun H0 F H ρ σ P Q S hq k => ?_⟩
  refine ha.sd H0 F H ρ σ _ _ S hq fun x dx F1 H1 g1 s1 r1 h1 => ?_
  refine hr.sd H0 F1 H1 ρ σ _ _ (S.grow g1 s1) h1 fun vs ds F2 H2 g2 s2 ln r2 p => ?_
  refine k (x :: vs) (dx :: ds) F2 H2 (g1.trans g2) s2 (by simp [ln]) ⟨x, vs, rfl, ?_, r2⟩ p
  cases md with
  | own => exact hm.elim
  | val => exact r1.mono g2.f
  | look => exact Lk.grow r1 g2
theorem ResA.vals {K : PySem.W.Frag} {F H : Hp} : ∀ {ds : List D} {vs : List V}, ResA K F H ds vs .val → RpA K F ds vs
  | [], _, h => h
  | _ :: _, _, ⟨x, r, e, h, q⟩ => ⟨x, r, e, h, ResA.vals q⟩
/-! displays -/
def qLst (qA : QA) : QE := fun ρ P => qA ρ fun ds => P (.list ds)
def qTup (qA : QA) : QE := fun ρ P => qA ρ fun ds => P (.tuple ds)
theorem ve_lst (h : VA .val X es tA qA) (hl : es.length ≤ sizeLine := by decide) : VE .own X (.List es pos) (tLst tA) (qLst qA) := by
  refine ⟨pe_lst h.pa, fun H0 F H ρ σ P Q S hq k => ?_⟩
  refine h.sd H0 F H ρ σ _ _ S hq fun vs ds F1 H1 g1 s1 ln r1 p => ?_
  have r := r1.vals
  refine ⟨by rw [r.len, ln]; exact hl, fun p' hp => ?_⟩
  refine k _ _ F1 _ (g1.trans (Grow.newO hp)) (s1.trans (Sub.upd hp)) (.inr ⟨p', rfl, g1.h.none hp, s1.none hp, (show OwnAt X.K F1 _ p' (.list ds) from ⟨vs, upd_same, r⟩)⟩) p
theorem ve_tup {x1} (h : VA .val X es tA qA) (hl : es.length ≤ sizeLine := by decide) : VE .val X (.Tuple es x1 pos) (tTup tA) (qTup qA) := by
  refine ⟨pe_tup h.pa, fun H0 F H ρ σ P Q S hq k => ?_⟩
  refine h.sd H0 F H ρ σ _ _ S hq fun vs ds F1 H1 g1 s1 ln r1 p => ?_
  have r := r1.vals
  refine ⟨by rw [r.len, ln]; exact hl, fun p' hp => ?_⟩
  have g := Grow.new (o := .tup vs) s1 hp
  exact k _ (.tuple ds) _ _ (g1.trans g) s1.upd2 (show Rp X.K _ (.tuple ds) _ from ⟨p', vs, rfl, .inl (.inl upd_same), r.mono g.f⟩) p
/-! built-ins by values -/
def OpN (K : PySem.W.Frag) (md : Md) (f : List D → Option D) (r : List V → Hp → VK → Prop) : Prop :=
  ∀ (F H : Hp) (ds : List D) (z : D) (vs : List V) (Q : VK), Sub F H → ResA K F H ds vs .look → f ds = some z →
    (∀ v F' H', Grow F H F' H' → Sub F' H' → Res K H F' H' z v md → Q v H') → r vs H Q
def qN (f : List D → Option D) (qA : QA) : QE := fun ρ P => qA ρ fun ds => ∃ z, f ds = some z ∧ P z
theorem sndN {K : PySem.W.Frag} {n : Nat} {f : List D → Option D} {r : List V → Hp → VK → Prop} (ho : OpN K md f r) (ha : SndA K .look n tA qA) : Snd K md (tCB r tA) (qN f qA) := by
  intro H0 F H ρ σ P Q S hq k
  refine ha H0 F H ρ σ _ _ S hq fun vs ds F1 H1 g1 s1 ln r1 ⟨z, e, p⟩ => ?_
  refine ho F1 H1 ds z vs _ s1 r1 e fun v F2 H2 g2 s2 r2 => k v z F2 H2 (g1.trans g2) s2 ?_ p
  cases md with
  | val => exact r2
  | look => exact r2
  | own =>
    rcases r2 with r2 | ⟨a, e1, h0, f0, o⟩
    · exact .inl r2
    · exact .inr ⟨a, e1, g1.h.none h0, f0, o⟩
theorem ve_callB {x : Str} {p : Pos} {id : String} {f : List D → Option D} {r : List V → Hp → VK → Prop} (hc : CallR X (.builtin id) r) (ho : OpN X.K md f r) (hg : Gl X x) (hm : X.mg x = none) (hv : bootBuiltins x = some (.builtin id)) (ha : VA .look X (e :: es) tA qA) (hn : x ≠ "__name__" := by decide) (hdb : (x == ("__debug__" : Str)) = false := by decide) (he : starEach (e :: es) X.env = (false, eval e X.env) :: starEach es X.env := by rfl) (hpl : (backTo pos (starEach es X.env)).any (·.1) = false := by rfl) :
    VE md X (.Call (.Name x p) (e :: es) [] pos) (tCB r tA) (qN f qA) := ⟨pe_callB hc hg hm hv ha.pa hn hdb he hpl, sndN ho ha.sd⟩
theorem ve_callTy {x : Str} {p : Pos} {T : String} {f : List D → Option D} {r : List V → Hp → VK → Prop} (hc : CallR X (.type T) r) (ho : OpN X.K md f r) (hg : Gl X x) (hm : X.mg x = none) (hv : bootBuiltins x = some (.type T)) (ha : VA .look X (e :: es) tA qA) (hn : x ≠ "__name__" := by decide) (hdb : (x == ("__debug__" : Str)) = false := by decide) (he : starEach (e :: es) X.env = (false, eval e X.env) :: starEach es X.env := by rfl) (hpl : (backTo pos (starEach es X.env)).any (·.1) = false := by rfl) :
    VE md X (.Call (.Name x p) (e :: es) [] pos) (tCB r tA) (qN f qA) := ⟨pe_callTy hc hg hm hv ha.pa hn hdb he hpl, sndN ho ha.sd⟩
/-! subscripts -/
theorem ve_ix {f : D → D → Option D} {r : R2} (hr : IxR X r) (ho : Op2 X.K md f r) (ha : VE .look X a ta qa) (hb : VE .look X b tb qb) (hs : PlainIx b := by exact fun _ _ => rfl) : VE md X (.Subscript a b pos) (tOp r ta tb) (q2 f qa qb) :=
  ⟨pe_ix hr ha.pe hb.pe hs, snd2 ho ha.sd hb.sd⟩
def QO := Env → (Option Int → Prop) → Prop
def SndO (K : PySem.W.Frag) (t : TO) (q : QO) : Prop :=
  ∀ (H0 F H : Hp) (ρ : Env) (σ : St) (P : Option Int → Prop) (Q : Option Int → Hp → Prop), Slots K H0 F H ρ σ → q ρ P → (∀ i F' H', Grow F H F' H' → Sub F' H' → P i → Q i H') → t σ H Q
structure VO (X : Cx) (e : Option Expr) (t : TO) (q : QO) : Prop where
  po : PO X e t
  sd : SndO X.K t q
def qNone : QO := fun _ P => P none
def qSome (q : QE) : QO := fun ρ P => q ρ fun d => ∃ i, d = .int i ∧ P (some i)
theorem vo_none : VO X none tNoPart qNone := ⟨po_none, fun H0 F H ρ σ P Q S p k => k none F H (Grow.refl _ _) S.fh p⟩
theorem vo_some (h : VE .val X e t q) : VO X (some e) (tPart t) (qSome q) := ⟨po_some h.pe, fun H0 F H ρ σ P Q S hq k => h.sd H0 F H ρ σ _ _ S hq fun v d F1 H1 g1 s1 r1 ⟨i, e1, p⟩ => by
  subst e1
  exact ⟨i, r1, k (some i) F1 H1 g1 s1 p⟩⟩
def OpS (K : PySem.W.Frag) (md : Md) (f : D → Option Int → Option Int → Option D) (r : V → Option Int → Option Int → Hp → VK → Prop) : Prop :=
  ∀ (F H : Hp) (d z : D) (lo hi : Option Int) (v : V) (Q : VK), Sub F H → Lk K F H d v → f d lo hi = some z → (∀ v F' H', Grow F H F' H' → Sub F' H' → Res K H F' H' z v md → Q v H') → r v lo hi H Q
def qSl (f : D → Option Int → Option Int → Option D) (q : QE) (ql qh : QO) : QE := fun ρ P => q ρ fun d => ql ρ fun lo => qh ρ fun hi => ∃ z, f d lo hi = some z ∧ P z
theorem ve_slice {lo hi : Option Expr} {tl th : TO} {ql qh : QO} {p2 : Pos} {f : D → Option Int → Option Int → Option D} {r : V → Option Int → Option Int → Hp → VK → Prop} (hr : SlR X r) (ho : OpS X.K md f r) (he : VE .look X e t q) (hl : VO X lo tl ql) (hu : VO X hi th qh) :
    VE md X (.Subscript e (.Slice lo hi none p2) pos) (tSl r t tl th) (qSl f q ql qh) := by
  refine ⟨pe_slice hr he.pe hl.po hu.po, fun H0 F H ρ σ P Q S hq k => ?_⟩
  refine he.sd H0 F H ρ σ _ _ S hq fun v d F1 H1 g1 s1 r1 h1 => ?_
  refine hl.sd H0 F1 H1 ρ σ _ _ (S.grow g1 s1) h1 fun lo F2 H2 g2 s2 h2 => ?_
  refine hu.sd H0 F2 H2 ρ σ _ _ ((S.grow g1 s1).grow g2 s2) h2 fun hi F3 H3 g3 s3 ⟨z, e1, p⟩ => ?_
  refine ho F3 H3 d z lo hi v _ s3 (Lk.grow (Lk.grow r1 g2) g3) e1 fun v F4 H4 g4 s4 r4 => ?_
  refine k v z F4 H4 (((g1.trans g2).trans g3).trans g4) s4 ?_ p
  cases md with
  | val => exact r4
  | look => exact r4
  | own =>
    rcases r4 with r4 | ⟨a, e1, h0, f0, o⟩
    · exact .inl r4
    · exact .inr ⟨a, e1, g1.h.none (g2.h.none (g3.h.none h0)), f0, o⟩
end
end VL
namespace VL
open PySem PySem.Spec PyProof.Rows L2

/-! what the values read as -/
section
variable {X : Cx} {pins : List (Addr × Obj)} {σ : St} {F H : Hp} {s : Shared}
mutual
theorem Rp.reads (I : Inv X pins σ H s) (sb : Sub F H) : ∀ {d : D} {v : V} {u : Value}, d.plain = true → Rp X.K F d v → RelV v u → ∃ as, Reads s.heap u d as
  | .none, _, _, _, h, r => by cases h; cases r; exact ⟨_, .none⟩
  | .bool b, _, _, _, h, r => by cases h; cases r; exact ⟨_, .bool b⟩
  | .int i, _, _, _, h, r => by cases h; obtain ⟨t, rfl⟩ := r; exact ⟨_, .int i t⟩
  | .str x, _, _, _, h, r => by cases h; obtain ⟨t, rfl⟩ := r; exact ⟨_, .str x t⟩
  | .list ds, _, _, p, ⟨a, xs, e, h, q⟩, r => by
    subst e
    cases r
    obtain ⟨its, rv, ⟨o, n, ho, hc, _, hd⟩, _⟩ := I.list (SqL.of (sb _ _ h))
    obtain ⟨as, hr⟩ := RpA.reads I sb (by simpa [PyData.plain] using p) q rv
    exact ⟨_, .list ho hc hd hr⟩
  | .tuple ds, _, _, p, ⟨a, xs, e, h, q⟩, r => by
    subst e
    cases r
    obtain ⟨its, rv, ⟨o, ho, hc, n, hd⟩, _⟩ := I.tuple (sb.sqT h)
    obtain ⟨as, hr⟩ := RpA.reads I sb (by simpa [PyData.plain] using p) q rv
    exact ⟨_, .tuple ho hc hd hr⟩
  | .dict es, _, _, p, _, _ => by simp [PyData.plain] at p
theorem RpA.reads (I : Inv X pins σ H s) (sb : Sub F H) : ∀ {ds : List D} {xs : List V} {us : List Value}, PyData.plainAll ds = true → RpA X.K F ds xs → Vals xs us → ∃ as, ReadsAll s.heap us ds as
  | [], _, _, _, h, r => by cases h; cases r; exact ⟨_, .nil⟩
  | d :: ds, _, _, p, ⟨x, r0, e, h, q⟩, r => by
    subst e
    have p' : d.plain = true ∧ PyData.plainAll ds = true := by simpa [PyData.plainAll] using p
    cases r with
    | cons r1 r2 =>
      obtain ⟨as, q1⟩ := Rp.reads I sb p'.1 h r1
      obtain ⟨bs, q2⟩ := RpA.reads I sb p'.2 q r2
      exact ⟨_, .cons q1 q2⟩
end
theorem Lk.reads (I : Inv X pins σ H s) (sb : Sub F H) {d : D} {v : V} {u : Value} (p : d.plain = true) (h : Lk X.K F H d v) (r : RelV v u) : ∃ as, Reads s.heap u d as := by
  rcases h with h | ⟨a, e, o⟩
  · exact h.reads I sb p r
  · subst e
    cases r
    cases d with
    | list ds =>
      obtain ⟨xs, h, q⟩ := o
      obtain ⟨its, rv, ⟨o, n, ho, hc, _, hd⟩, _⟩ := I.list (SqL.of h)
      obtain ⟨as, hr⟩ := RpA.reads I sb (by simpa [PyData.plain] using p) q rv
      exact ⟨_, .list ho hc hd hr⟩
    | dict es => simp [PyData.plain] at p
    | _ => exact o.elim
end
section
variable {K : PySem.W.Frag} {F H : Hp}
/-- a list that is looked at -/
theorem Lk.lst {ds : List D} {v : V} (sb : Sub F H) (h : Lk K F H (.list ds) v) : ∃ a xs, v = .ref a ∧ H a = some (.lst xs) ∧ RpA K F ds xs := by
  rcases h with ⟨a, xs, e, h, r⟩ | ⟨a, e, xs, h, r⟩
  · exact ⟨a, xs, e, sb _ _ h, r⟩
  · exact ⟨a, xs, e, h, r⟩
theorem Lk.tup {ds : List D} {v : V} (sb : Sub F H) (h : Lk K F H (.tuple ds) v) : ∃ a xs, v = .ref a ∧ SqT K F a xs ∧ RpA K F ds xs := by
  rcases h with ⟨a, xs, e, h, r⟩ | ⟨a, e, z⟩
  · exact ⟨a, xs, e, h, r⟩
  · exact z.elim
theorem Lk.int {i : Int} {v : V} (h : Lk K F H (.int i) v) : v = .int i := by
  rcases h with h | ⟨_, _, z⟩
  · exact h
  · exact z.elim
theorem Lk.str {i : Str} {v : V} (h : Lk K F H (.str i) v) : v = .str i := by
  rcases h with h | ⟨_, _, z⟩
  · exact h
  · exact z.elim
theorem Lk.bool {i : Bool} {v : V} (h : Lk K F H (.bool i) v) : v = .bl i := by
  rcases h with h | ⟨_, _, z⟩
  · exact h
  · exact z.elim
theorem Lk.none {v : V} (h : Lk K F H .none v) : v = .non := by
  rcases h with h | ⟨_, _, z⟩
  · exact h
  · exact z.elim
/-- a new list of frozen items -/
theorem newL {xs : List V} {ds : List D} {p : Addr} (sb : Sub F H) (hp : H p = none) (r : RpA K F ds xs) (md : Md) : ∃ F', Grow F H F' (upd H p (.lst xs)) ∧ Sub F' (upd H p (.lst xs)) ∧ Res K H F' (upd H p (.lst xs)) (.list ds) (.ref p) md := by
  cases md with
  | val => exact ⟨_, Grow.new sb hp, sb.upd2, (show Rp K _ (.list ds) _ from ⟨p, xs, rfl, upd_same, r.mono (Sub.upd (sb.none hp))⟩)⟩
  | look => exact ⟨_, Grow.new sb hp, sb.upd2, .inl (show Rp K _ (.list ds) _ from ⟨p, xs, rfl, upd_same, r.mono (Sub.upd (sb.none hp))⟩)⟩
  | own => exact ⟨F, Grow.newO hp, sb.trans (Sub.upd hp), .inr ⟨p, rfl, hp, sb.none hp, (show OwnAt K F _ p (.list ds) from ⟨xs, upd_same, r⟩)⟩⟩
theorem resSc {F' H' H0 : Hp} {d : D} {v : V} {md : Md} (hs : isSc d = true) (r : Rp K F' d v) : Res K H0 F' H' d v md := by
  cases md with
  | val => exact r
  | look => exact .inl r
  | own => exact .inl ⟨hs, r⟩
end

/-! ### operators -/
def oArith (f : Int → Int → Option Int) : D → D → Option D
  | .int i, .int j => (f i j).map .int
  | _, _ => none
theorem op2_int {K : PySem.W.Frag} {f : Int → Int → Option Int} {C : Int → Int → Prop} {g : Int → Int → Int} (h : ∀ i j z, f i j = some z → C i j ∧ z = g i j) : Op2 K .val (oArith f) (rI C fun i j => .int (g i j)) := by
  intro F H dx dy z x y Q sb hx hy e k
  cases dx with
  | int i =>
    cases dy with
    | int j =>
      cases e1 : f i j with
      | none => simp [oArith, e1] at e
      | some w =>
        simp [oArith, e1] at e
        subst e
        obtain ⟨c, ez⟩ := h i j w e1
        subst ez
        exact ⟨i, j, hx.int, hy.int, c, k _ F H (Grow.refl _ _) sb rfl⟩
    | _ => simp [oArith] at e
  | _ => simp [oArith] at e
def fMul (i j : Int) : Option Int := if (-18446744073709551616 < i ∧ i < 18446744073709551616) ∨ (-18446744073709551616 < j ∧ j < 18446744073709551616) then some (i * j) else none
def fDiv (i j : Int) : Option Int := if 0 < j ∧ j < 1073741824 then some (i / j) else none
def fMod (i j : Int) : Option Int := if 0 < j then some (i % j) else none
def fPow (i j : Int) : Option Int := if 0 ≤ j ∧ j ≤ 1000000 ∧ i.natAbs < 2 ^ 64 then some (i ^ j.toNat) else none
def fShl (i j : Int) : Option Int := if 0 ≤ j ∧ j ≤ 1000000 ∧ i.natAbs < 2 ^ 64 then some (i * 2 ^ j.toNat) else none
def fShr (i j : Int) : Option Int := if 0 ≤ j then some (i / 2 ^ j.toNat) else none
abbrev oSub := oArith fun i j => some (i - j)
abbrev oDiv := oArith fDiv
abbrev oMod := oArith fMod
abbrev oPow := oArith fPow
abbrev oShl := oArith fShl
abbrev oShr := oArith fShr
abbrev oAnd := oArith fun i j => some (Builtin.bitAnd i j)
theorem op2_div {K : PySem.W.Frag} : Op2 K .val oDiv (rI CDiv fun i j => .int (i / j)) := op2_int fun i j z h => by
  unfold fDiv at h; split at h
  · rename_i q; cases h; exact ⟨q, rfl⟩
  · cases h
theorem op2_mod {K : PySem.W.Frag} : Op2 K .val oMod (rI (fun _ j => 0 < j) fun i j => .int (i % j)) := op2_int fun i j z h => by
  unfold fMod at h; split at h
  · rename_i q; cases h; exact ⟨q, rfl⟩
  · cases h
theorem op2_pow {K : PySem.W.Frag} : Op2 K .val oPow (rI CPow fun i j => .int (i ^ j.toNat)) := op2_int fun i j z h => by
  unfold fPow at h; split at h
  · rename_i q; cases h; exact ⟨q, rfl⟩
  · cases h
theorem op2_shl {K : PySem.W.Frag} : Op2 K .val oShl (rI CPow fun i j => .int (i * 2 ^ j.toNat)) := op2_int fun i j z h => by
  unfold fShl at h; split at h
  · rename_i q; cases h; exact ⟨q, rfl⟩
  · cases h
theorem op2_shr {K : PySem.W.Frag} : Op2 K .val oShr (rI (fun _ j => 0 ≤ j) fun i j => .int (i / 2 ^ j.toNat)) := op2_int fun i j z h => by
  unfold fShr at h; split at h
  · rename_i q; cases h; exact ⟨q, rfl⟩
  · cases h
theorem op2_int0 {K : PySem.W.Frag} {g : Int → Int → Int} : Op2 K .val (oArith fun i j => some (g i j)) (rI0 fun i j => .int (g i j)) := by
  intro F H dx dy z x y Q sb hx hy e k
  cases dx with
  | int i =>
    cases dy with
    | int j =>
      simp [oArith] at e
      subst e
      exact ⟨i, j, hx.int, hy.int, k _ F H (Grow.refl _ _) sb rfl⟩
    | _ => simp [oArith] at e
  | _ => simp [oArith] at e
/-- + : ints, texts, lists -/
def oAdd : D → D → Option D
  | .int i, .int j => some (.int (i + j))
  | .str i, .str j => if i.length + j.length ≤ sizeLine then some (.str (i ++ j)) else none
  | .list i, .list j => if i.length + j.length ≤ sizeLine then some (.list (i ++ j)) else none
  | _, _ => none
def rAddA : R2 := fun x y H Q => rI0 (fun i j => .int (i + j)) x y H Q ∨ ((∃ i j, x = .str i ∧ y = .str j ∧ i.length + j.length ≤ sizeLine ∧ Q (.str (i ++ j)) H) ∨ rCat x y H Q)
theorem or_addA {X : Cx} : OpR X (binaryOp .Add) rAddA := op_add.or (op_add_str.or op_cat)
theorem op2_add {K : PySem.W.Frag} {md : Md} : Op2 K md oAdd rAddA := by
  intro F H dx dy z x y Q sb hx hy e k
  cases dx with
  | int i =>
    cases dy with
    | int j =>
      simp [oAdd] at e; subst e
      exact .inl ⟨i, j, hx.int, hy.int, k _ F H (Grow.refl _ _) sb (resSc rfl rfl)⟩
    | _ => simp [oAdd] at e
  | str i =>
    cases dy with
    | str j =>
      simp [oAdd] at e
      obtain ⟨h1, e⟩ := e
      subst e
      exact .inr (.inl ⟨i, j, hx.str, hy.str, h1, k _ F H (Grow.refl _ _) sb (resSc rfl rfl)⟩)
    | _ => simp [oAdd] at e
  | list i =>
    cases dy with
    | list j =>
      simp [oAdd] at e
      obtain ⟨h1, e⟩ := e
      subst e
      obtain ⟨a, xs, ea, ha, ra⟩ := hx.lst sb
      obtain ⟨b, ys, eb, hb, rb⟩ := hy.lst sb
      refine .inr (.inr ⟨a, b, xs, ys, ea, eb, ha, hb, by rw [ra.len, rb.len]; exact h1, fun p hp => ?_⟩)
      obtain ⟨F', g, s', r⟩ := newL sb hp (ra.append rb) md
      exact k _ F' _ g s' r
    | _ => simp [oAdd] at e
  | _ => simp [oAdd] at e
/-- * : ints, a list and an int -/
def oMul : D → D → Option D
  | .int i, .int j => (fMul i j).map .int
  | .list i, .int j => if -9223372036854775808 ≤ j ∧ j < 9223372036854775808 ∧ i.length * j.toNat ≤ sizeLine then some (.list (List.replicate j.toNat i).flatten) else none
  | _, _ => none
def rMulA : R2 := fun x y H Q => rI CMul (fun i j => .int (i * j)) x y H Q ∨ rRep x y H Q
theorem or_mulA {X : Cx} : OpR X (binaryOp .Mult) rMulA := op_mul.or op_rep
theorem RpA.rep {K : PySem.W.Frag} {F : Hp} {ds : List D} {xs : List V} (r : RpA K F ds xs) : ∀ n : Nat, RpA K F (List.replicate n ds).flatten (List.replicate n xs).flatten
  | 0 => rfl
  | n + 1 => by rw [List.replicate_succ, List.replicate_succ, List.flatten_cons, List.flatten_cons]; exact r.append (RpA.rep r n)
theorem op2_mul {K : PySem.W.Frag} {md : Md} : Op2 K md oMul rMulA := by
  intro F H dx dy z x y Q sb hx hy e k
  cases dx with
  | int i =>
    cases dy with
    | int j =>
      simp only [oMul, fMul] at e
      split at e
      · rename_i hc
        simp at e; subst e
        exact .inl ⟨i, j, hx.int, hy.int, hc, k _ F H (Grow.refl _ _) sb (resSc rfl rfl)⟩
      · simp at e
    | _ => simp [oMul] at e
  | list i =>
    cases dy with
    | int j =>
      simp only [oMul] at e
      split at e
      · rename_i hc
        simp at e; subst e
        obtain ⟨a, xs, ea, ha, ra⟩ := hx.lst sb
        refine .inr ⟨a, j, xs, ea, hy.int, ha, hc.1, hc.2.1, by rw [ra.len]; exact hc.2.2, fun p hp => ?_⟩
        obtain ⟨F', g, s', r⟩ := newL sb hp (ra.rep j.toNat) md
        exact k _ F' _ g s' r
      · simp at e
    | _ => simp [oMul] at e
  | _ => simp [oMul] at e
/-! comparisons -/
def rD (f : D → D → Option D) (K : PySem.W.Frag) : R2 := fun x y H Q => ∃ F d e b, Sub F H ∧ Lk K F H d x ∧ Lk K F H e y ∧ f d e = some (.bool b) ∧ Q (.bl b) H
theorem op2_rD {K : PySem.W.Frag} {f : D → D → Option D} (hf : ∀ d e z, f d e = some z → ∃ b, z = .bool b) : Op2 K .val f (rD f K) := by
  intro F H dx dy z x y Q sb hx hy e k
  obtain ⟨b, rfl⟩ := hf _ _ _ e
  exact ⟨F, dx, dy, b, sb, hx, hy, e, k _ F H (Grow.refl _ _) sb rfl⟩
def flatD (d : D) : Bool := d.plain && decide (d.depth ≤ 60)
def oEq (d e : D) : Option D := if flatD d = true ∧ flatD e = true then some (.bool (PyData.eqv d e)) else none
def oNe (d e : D) : Option D := if flatD d = true ∧ flatD e = true then some (.bool (!PyData.eqv d e)) else none
theorem flatD_iff {d : D} : flatD d = true ↔ d.plain = true ∧ d.depth ≤ 60 := by simp [flatD]
variable {X : Cx}
theorem or_eq (hu : X.A.units + 64 < cLine) : OpR X (compareOp .Eq) (rD oEq X.K) := by
  intro pins s σ H x y v u Q I rx ry ⟨F, d, e, b, sb, hd, he, ef, q⟩
  unfold oEq at ef
  split at ef
  · rename_i hp
    obtain ⟨⟨p1, d1⟩, p2, d2⟩ := And.imp flatD_iff.mp flatD_iff.mp hp
    cases ef
    obtain ⟨as, r1⟩ := hd.reads I sb p1 rx
    obtain ⟨bs, r2⟩ := he.reads I sb p2 ry
    exact SeqAt.eq_plain r1 r2 p1 p2 (by have := Nat.min_le_left d.depth e.depth; omega) ⟨.bl _, H, I, rfl, q⟩
  · simp at ef
theorem or_ne (hu : X.A.units + 64 < cLine) : OpR X (compareOp .NotEq) (rD oNe X.K) := by
  intro pins s σ H x y v u Q I rx ry ⟨F, d, e, b, sb, hd, he, ef, q⟩
  unfold oNe at ef
  split at ef
  · rename_i hp
    obtain ⟨⟨p1, d1⟩, p2, d2⟩ := And.imp flatD_iff.mp flatD_iff.mp hp
    cases ef
    obtain ⟨as, r1⟩ := hd.reads I sb p1 rx
    obtain ⟨bs, r2⟩ := he.reads I sb p2 ry
    exact SeqAt.ne_plain r1 r2 p1 p2 (by have := Nat.min_le_left d.depth e.depth; omega) ⟨.bl _, H, I, rfl, q⟩
  · simp at ef
theorem oEq_b : ∀ d e z, oEq d e = some z → ∃ b, z = .bool b := fun d e z h => by
  unfold oEq at h; split at h
  · cases h; exact ⟨_, rfl⟩
  · cases h
theorem oNe_b : ∀ d e z, oNe d e = some z → ∃ b, z = .bool b := fun d e z h => by
  unfold oNe at h; split at h
  · cases h; exact ⟨_, rfl⟩
  · cases h
/-- data that can be ordered -/
def ordD (d e : D) : Bool := PySem.W.alike d e && !(match d with | .none => true | _ => false) && decide (d.depth ≤ 60)
def oLt (d e : D) : Option D := if ordD d e = true ∧ flatD d = true ∧ flatD e = true then some (.bool (PySem.W.dataLt d e)) else none
def oGt (d e : D) : Option D := if ordD d e = true ∧ flatD d = true ∧ flatD e = true then some (.bool (PySem.W.dataLt e d)) else none
def oLe (d e : D) : Option D := if ordD d e = true ∧ flatD d = true ∧ flatD e = true then some (.bool (!PySem.W.dataLt e d)) else none
def oGe (d e : D) : Option D := if ordD d e = true ∧ flatD d = true ∧ flatD e = true then some (.bool (!PySem.W.dataLt d e)) else none
theorem ordD_iff {d e : D} : ordD d e = true → PySem.W.alike d e = true ∧ d ≠ .none ∧ d.depth ≤ 60 := by
  unfold ordD
  intro h
  simp only [Bool.and_eq_true, decide_eq_true_eq] at h
  refine ⟨h.1.1, fun z => ?_, h.2⟩
  subst z
  exact absurd h.1.2 (by decide)
theorem or_ord {op : CmpOp} {f : D → D → Option D} {g : D → D → Bool} (hf : ∀ d e, f d e = if ordD d e = true ∧ flatD d = true ∧ flatD e = true then some (.bool (g d e)) else none)
    (hr : ∀ {A : Around} {s : Shared} {a b : Value} {d e : D} {as bs : List Addr} {Q E : Value → Shared → Prop}, Reads s.heap a d as → Reads s.heap b e bs → PySem.W.alike d e = true → d ≠ .none → A.units + min d.depth e.depth < cLine → Q (.bool (g d e)) s → wpAny (model X.prog X.w) A (compareOp op a b) Q E s)
    (hu : X.A.units + 64 < cLine) : OpR X (compareOp op) (rD f X.K) := by
  intro pins s σ H x y v u Q I rx ry ⟨F, d, e, b, sb, hd, he, ef, q⟩
  rw [hf] at ef
  split at ef
  · rename_i hp
    obtain ⟨h1, h2, h3⟩ := ordD_iff hp.1
    cases ef
    obtain ⟨as, r1⟩ := hd.reads I sb (flatD_iff.mp hp.2.1).1 rx
    obtain ⟨bs, r2⟩ := he.reads I sb (flatD_iff.mp hp.2.2).1 ry
    exact hr r1 r2 h1 h2 (by have := Nat.min_le_left d.depth e.depth; omega) ⟨.bl _, H, I, rfl, q⟩
  · simp at ef
theorem or_lt (hu : X.A.units + 64 < cLine) : OpR X (compareOp .Lt) (rD oLt X.K) := or_ord (fun _ _ => rfl) (fun r1 r2 h1 h2 h3 q => PySem.W.lt_data r1 r2 h1 h2 h3 q) hu
theorem or_gt (hu : X.A.units + 64 < cLine) : OpR X (compareOp .Gt) (rD oGt X.K) := or_ord (fun _ _ => rfl) (fun r1 r2 h1 h2 h3 q => PySem.W.gt_data r1 r2 h1 h2 h3 q) hu
theorem or_le (hu : X.A.units + 64 < cLine) : OpR X (compareOp .LtE) (rD oLe X.K) := or_ord (fun _ _ => rfl) (fun r1 r2 h1 h2 h3 q => PySem.W.le_data r1 r2 h1 h2 h3 q) hu
theorem or_ge (hu : X.A.units + 64 < cLine) : OpR X (compareOp .GtE) (rD oGe X.K) := or_ord (fun _ _ => rfl) (fun r1 r2 h1 h2 h3 q => PySem.W.ge_data r1 r2 h1 h2 h3 q) hu
theorem ord_b {f : D → D → Option D} {g : D → D → Bool} (hf : ∀ d e, f d e = if ordD d e = true ∧ flatD d = true ∧ flatD e = true then some (.bool (g d e)) else none) : ∀ d e z, f d e = some z → ∃ b, z = .bool b := fun d e z h => by
  rw [hf] at h; split at h
  · cases h; exact ⟨_, rfl⟩
  · cases h
theorem oLt_b : ∀ d e z, oLt d e = some z → ∃ b, z = .bool b := ord_b (f := oLt) fun _ _ => rfl
theorem oGt_b : ∀ d e z, oGt d e = some z → ∃ b, z = .bool b := ord_b (f := oGt) fun _ _ => rfl
theorem oLe_b : ∀ d e z, oLe d e = some z → ∃ b, z = .bool b := ord_b (f := oLe) fun _ _ => rfl
theorem oGe_b : ∀ d e z, oGe d e = some z → ∃ b, z = .bool b := ord_b (f := oGe) fun _ _ => rfl
/-- in a list -/
def oIn : D → D → Option D
  | d, .list ds => if flatD d = true ∧ flatD (.list ds) = true then some (.bool (ds.any fun z => PyData.eqv z d)) else none
  | d, .tuple ds => if flatD d = true ∧ flatD (.list ds) = true then some (.bool (ds.any fun z => PyData.eqv z d)) else none
  | _, _ => none
def oNotIn : D → D → Option D
  | d, .list ds => if flatD d = true ∧ flatD (.list ds) = true then some (.bool (!ds.any fun z => PyData.eqv z d)) else none
  | d, .tuple ds => if flatD d = true ∧ flatD (.list ds) = true then some (.bool (!ds.any fun z => PyData.eqv z d)) else none
  | _, _ => none
theorem oIn_b : ∀ d e z, oIn d e = some z → ∃ b, z = .bool b := fun d e z h => by
  unfold oIn at h
  split at h <;> (try split at h) <;> cases h <;> exact ⟨_, rfl⟩
theorem oNotIn_b : ∀ d e z, oNotIn d e = some z → ∃ b, z = .bool b := fun d e z h => by
  unfold oNotIn at h
  split at h <;> (try split at h) <;> cases h <;> exact ⟨_, rfl⟩
theorem or_in (hu : X.A.units + 64 < cLine) : OpR X (compareOp .In) (rD oIn X.K) := by
  intro pins s σ H x y v u Q I rx ry ⟨F, d, e, b, sb, hd, he, ef, q⟩
  cases e with
  | list ds =>
    simp only [oIn] at ef
    split at ef
    · rename_i hp
      obtain ⟨⟨p1, d1⟩, p2, d2⟩ := And.imp flatD_iff.mp flatD_iff.mp hp
      cases ef
      obtain ⟨as, r1⟩ := hd.reads I sb p1 rx
      obtain ⟨bs, r2⟩ := he.reads I sb p2 ry
      exact SeqAt.in_list_data r2 r1 (by simpa [PyData.plain] using p2) p1 (by have := Nat.min_le_right (PyData.depthAll ds) d.depth; omega) ⟨.bl _, H, I, rfl, q⟩
    · simp at ef
  | tuple ds =>
    simp only [oIn] at ef
    split at ef
    · rename_i hp
      obtain ⟨⟨p1, d1⟩, p2, d2⟩ := And.imp flatD_iff.mp flatD_iff.mp hp
      cases ef
      obtain ⟨as, r1⟩ := hd.reads I sb p1 rx
      have p3 : (PyData.tuple ds).plain = true := by simpa [PyData.plain] using p2
      obtain ⟨bs, r2⟩ := he.reads I sb p3 ry
      exact SeqAt.in_tuple_data r2 r1 (by simpa [PyData.plain] using p2) p1 (by have := Nat.min_le_right (PyData.depthAll ds) d.depth; omega) ⟨.bl _, H, I, rfl, q⟩
    · simp at ef
  | _ => simp [oIn] at ef
theorem or_notIn (hu : X.A.units + 64 < cLine) : OpR X (compareOp .NotIn) (rD oNotIn X.K) := by
  intro pins s σ H x y v u Q I rx ry ⟨F, d, e, b, sb, hd, he, ef, q⟩
  cases e with
  | list ds =>
    simp only [oNotIn] at ef
    split at ef
    · rename_i hp
      obtain ⟨⟨p1, d1⟩, p2, d2⟩ := And.imp flatD_iff.mp flatD_iff.mp hp
      cases ef
      obtain ⟨as, r1⟩ := hd.reads I sb p1 rx
      obtain ⟨bs, r2⟩ := he.reads I sb p2 ry
      exact SeqAt.notIn_list_data r2 r1 (by simpa [PyData.plain] using p2) p1 (by have := Nat.min_le_right (PyData.depthAll ds) d.depth; omega) ⟨.bl _, H, I, rfl, q⟩
    · simp at ef
  | tuple ds =>
    simp only [oNotIn] at ef
    split at ef
    · rename_i hp
      obtain ⟨⟨p1, d1⟩, p2, d2⟩ := And.imp flatD_iff.mp flatD_iff.mp hp
      cases ef
      obtain ⟨as, r1⟩ := hd.reads I sb p1 rx
      have p3 : (PyData.tuple ds).plain = true := by simpa [PyData.plain] using p2
      obtain ⟨bs, r2⟩ := he.reads I sb p3 ry
      exact SeqAt.notIn_tuple_data r2 r1 (by simpa [PyData.plain] using p2) p1 (by have := Nat.min_le_right (PyData.depthAll ds) d.depth; omega) ⟨.bl _, H, I, rfl, q⟩
    · simp at ef
  | _ => simp [oNotIn] at ef
/-- is None -/
def isN : D → Bool
  | .none => true
  | _ => false
def oIs : D → D → Option D
  | d, .none => some (.bool (isN d))
  | _, _ => none
def oIsNot : D → D → Option D
  | d, .none => some (.bool (!isN d))
  | _, _ => none
theorem Lk.isNone {K : PySem.W.Frag} {F H : Hp} {d : D} {v : V} (h : Lk K F H d v) : decide (v = .non) = isN d := by
  rcases h with h | ⟨a, e, o⟩
  · cases d with
    | none => cases h; rfl
    | bool b => cases h; rfl
    | int b => cases h; rfl
    | str b => cases h; rfl
    | list b => obtain ⟨a, xs, e, _⟩ := h; subst e; rfl
    | tuple b => obtain ⟨a, xs, e, _⟩ := h; subst e; rfl
    | dict b => obtain ⟨a, xs, e, _⟩ := h; subst e; rfl
  · subst e
    cases d with
    | none => exact o.elim
    | _ => rfl
theorem op2_is {K : PySem.W.Frag} : Op2 K .val oIs (fun x y H Q => y = .non ∧ Q (.bl (decide (x = .non))) H) := by
  intro F H dx dy z x y Q sb hx hy e k
  cases dy with
  | none =>
    simp [oIs] at e; subst e
    refine ⟨hy.none, ?_⟩
    rw [hx.isNone]
    exact k _ F H (Grow.refl _ _) sb rfl
  | _ => simp [oIs] at e
theorem op2_isNot {K : PySem.W.Frag} : Op2 K .val oIsNot (fun x y H Q => y = .non ∧ Q (.bl (!decide (x = .non))) H) := by
  intro F H dx dy z x y Q sb hx hy e k
  cases dy with
  | none =>
    simp [oIsNot] at e; subst e
    refine ⟨hy.none, ?_⟩
    rw [hx.isNone]
    exact k _ F H (Grow.refl _ _) sb rfl
  | _ => simp [oIsNot] at e
/-- unary minus -/
def oNeg : D → Option D
  | .int i => some (.int (-i))
  | _ => none
theorem op1_neg {K : PySem.W.Frag} : Op1 K oNeg (rU fun i => .int (-i)) := by
  intro F H dx z x Q sb hx e k
  cases dx with
  | int i => simp [oNeg] at e; subst e; exact ⟨i, hx.int, k _ F H (Grow.refl _ _) sb rfl⟩
  | _ => simp [oNeg] at e
end VL
namespace VL
open PySem PySem.Spec PyProof.Rows L2

section
variable {K : PySem.W.Frag} {F H : Hp}
/-! ### subscripts -/
def oIx : D → D → Option D
  | .list ds, .int i => atI ds i
  | .tuple ds, .int i => atI ds i
  | .str z, .int i => if z.length ≤ sizeLine then (atI z.cps.toList i).map fun c => .str ⟨#[c]⟩ else none
  | _, _ => none
theorem atI_rp {ds : List D} {xs : List V} {i : Int} {d : D} (r : RpA K F ds xs) (h : atI ds i = some d) : ∃ x, atI xs i = some x ∧ Rp K F d x := by
  unfold atI at h ⊢
  rw [r.len]
  cases e : ixN ds.length i with
  | none => rw [e] at h; simp at h
  | some j =>
    rw [e] at h
    simpa using r.get (by simpa using h)
theorem op2_ix : Op2 K .val oIx (rIx K) := by
  intro F H dx dy z x y Q sb hx hy e k
  cases dy with
  | int i =>
    have ey := hy.int
    cases dx with
    | list ds =>
      obtain ⟨a, xs, ea, ha, ra⟩ := hx.lst sb
      obtain ⟨v, h1, h2⟩ := atI_rp ra e
      exact .inl ⟨a, xs, i, v, ea, ey, SqL.of ha, h1, k _ F H (Grow.refl _ _) sb h2⟩
    | tuple ds =>
      obtain ⟨a, xs, ea, ha, ra⟩ := hx.tup sb
      obtain ⟨v, h1, h2⟩ := atI_rp ra e
      exact .inr (.inl ⟨a, xs, i, v, ea, ey, sb.sqT ha, h1, k _ F H (Grow.refl _ _) sb h2⟩)
    | str s =>
      simp only [oIx] at e
      split at e
      · rename_i hz
        cases e1 : atI s.cps.toList i with
        | none => rw [e1] at e; simp at e
        | some c =>
          rw [e1] at e
          simp at e; subst e
          exact .inr (.inr ⟨s, i, c, hx.str, ey, hz, e1, k _ F H (Grow.refl _ _) sb rfl⟩)
      · simp at e
    | _ => simp [oIx] at e
  | _ => cases dx <;> simp [oIx] at e
def cutL {α : Type} (xs : List α) (lo hi : Option Int) : List α := (xs.drop (HT.sIx xs.length 0 lo)).take (HT.sIx xs.length xs.length hi - HT.sIx xs.length 0 lo)
theorem RpA.cut {ds : List D} {xs : List V} (r : RpA K F ds xs) (lo hi : Option Int) : RpA K F (cutL ds lo hi) (cutV xs lo hi) := by
  unfold cutL cutV
  rw [r.len]
  exact (r.drop _).take _
/-- a list's slice -/
def oSlice : D → Option Int → Option Int → Option D
  | .list ds, lo, hi => some (.list (cutL ds lo hi))
  | _, _, _ => none
theorem opS_list {md : Md} : OpS K md oSlice (rSlL K) := by
  intro F H d z lo hi v Q sb hv e k
  cases d with
  | list ds =>
    simp [oSlice] at e; subst e
    obtain ⟨a, xs, ea, ha, ra⟩ := hv.lst sb
    refine ⟨a, xs, ea, SqL.of ha, fun p hp => ?_⟩
    obtain ⟨F', g, s', r⟩ := newL sb hp (ra.cut lo hi) md
    exact k _ F' _ g s' r
  | _ => simp [oSlice] at e
/-! ### built-ins -/
theorem ResA.one {d : D} {vs : List V} {md : Md} (h : ResA K F H [d] vs md) : ∃ v, vs = [v] ∧ Res K H F H d v md := by
  obtain ⟨x, r, e, h, q⟩ := h
  cases q
  exact ⟨x, e, h⟩
theorem ResA.two {d d2 : D} {vs : List V} {md : Md} (h : ResA K F H [d, d2] vs md) : ∃ v w, vs = [v, w] ∧ Res K H F H d v md ∧ Res K H F H d2 w md := by
  obtain ⟨x, r, e, h, q⟩ := h
  obtain ⟨w, e2, h2⟩ := ResA.one q
  subst e2
  exact ⟨x, w, e, h, h2⟩
def oLen : List D → Option D
  | [.list ds] => some (.int ds.length)
  | [.tuple ds] => some (.int ds.length)
  | [.str s] => if s.length ≤ sizeLine then some (.int s.length) else none
  | _ => none
theorem opN_len : OpN K .val oLen (fun xs H Q => ∃ x n, xs = [x] ∧ LenV K x H n ∧ Q (.int n) H) := by
  intro F H ds z vs Q sb hv e k
  match ds, hv, e with
  | [.list ds], hv, e =>
    obtain ⟨v, ev, h⟩ := hv.one
    simp [oLen] at e; subst e
    obtain ⟨a, xs, ea, ha, ra⟩ := Lk.lst sb h
    subst ea
    exact ⟨_, ds.length, ev, .inl ⟨xs, SqL.of ha, ra.len.symm⟩, k _ F H (Grow.refl _ _) sb rfl⟩
  | [.tuple ds], hv, e =>
    obtain ⟨v, ev, h⟩ := hv.one
    simp [oLen] at e; subst e
    obtain ⟨a, xs, ea, ha, ra⟩ := Lk.tup sb h
    subst ea
    exact ⟨_, ds.length, ev, .inr ⟨xs, sb.sqT ha, ra.len.symm⟩, k _ F H (Grow.refl _ _) sb rfl⟩
  | [.str s], hv, e =>
    obtain ⟨v, ev, h⟩ := hv.one
    simp [oLen] at e
    obtain ⟨e1, e⟩ := e
    subst e
    have := Lk.str h
    subst this
    exact ⟨_, s.length, ev, ⟨e1, rfl⟩, k _ F H (Grow.refl _ _) sb rfl⟩
  | [], _, e => simp [oLen] at e
  | [.none], _, e => simp [oLen] at e
  | [.bool _], _, e => simp [oLen] at e
  | [.int _], _, e => simp [oLen] at e
  | [.dict _], _, e => simp [oLen] at e
  | _ :: _ :: _, _, e => simp [oLen] at e
def oAbs : List D → Option D
  | [.int i] => some (.int (if i < 0 then -i else i))
  | _ => none
theorem opN_abs : OpN K .val oAbs (fun xs H Q => ∃ i, xs = [.int i] ∧ Q (.int (if i < 0 then -i else i)) H) := by
  intro F H ds z vs Q sb hv e k
  unfold oAbs at e
  split at e
  · obtain ⟨v, ev, h⟩ := hv.one
    cases e
    have := Lk.int h
    subst this
    exact ⟨_, ev, k _ F H (Grow.refl _ _) sb rfl⟩
  · cases e
def oInt : List D → Option D
  | [.int i] => some (.int i)
  | [.bool b] => some (.int (if b then 1 else 0))
  | _ => none
theorem opN_int : OpN K .val oInt (fun xs H Q => (∃ i, xs = [.int i] ∧ Q (.int i) H) ∨ ∃ k, xs = [.bl k] ∧ Q (.int (if k then 1 else 0)) H) := by
  intro F H ds z vs Q sb hv e k
  unfold oInt at e
  split at e
  · obtain ⟨v, ev, h⟩ := hv.one
    cases e
    have := Lk.int h
    subst this
    exact .inl ⟨_, ev, k _ F H (Grow.refl _ _) sb rfl⟩
  · obtain ⟨v, ev, h⟩ := hv.one
    cases e
    have := Lk.bool h
    subst this
    exact .inr ⟨_, ev, k _ F H (Grow.refl _ _) sb rfl⟩
  · cases e
def oMax2 : List D → Option D
  | [.int i, .int j] => some (.int (if j > i then j else i))
  | _ => none
def oMin2 : List D → Option D
  | [.int i, .int j] => some (.int (if j < i then j else i))
  | _ => none
theorem opN_max2 : OpN K .val oMax2 (fun xs H Q => ∃ i j, xs = [.int i, .int j] ∧ Q (.int (if j > i then j else i)) H) := by
  intro F H ds z vs Q sb hv e k
  unfold oMax2 at e
  split at e
  · obtain ⟨v, w, ev, h, h2⟩ := hv.two
    cases e
    have := Lk.int h
    subst this
    have := Lk.int h2
    subst this
    exact ⟨_, _, ev, k _ F H (Grow.refl _ _) sb rfl⟩
  · cases e
theorem opN_min2 : OpN K .val oMin2 (fun xs H Q => ∃ i j, xs = [.int i, .int j] ∧ Q (.int (if j < i then j else i)) H) := by
  intro F H ds z vs Q sb hv e k
  unfold oMin2 at e
  split at e
  · obtain ⟨v, w, ev, h, h2⟩ := hv.two
    cases e
    have := Lk.int h
    subst this
    have := Lk.int h2
    subst this
    exact ⟨_, _, ev, k _ F H (Grow.refl _ _) sb rfl⟩
  · cases e
/-- all ints, all truths -/
def intsD : List D → Option (List Int)
  | [] => some []
  | .int i :: r => (intsD r).map (i :: ·)
  | _ :: _ => none
def boolsD : List D → Option (List Bool)
  | [] => some []
  | .bool i :: r => (boolsD r).map (i :: ·)
  | _ :: _ => none
theorem intsD_of : ∀ {ds : List D} {ns : List Int}, intsD ds = some ns → ds = ns.map .int
  | [], ns, h => by simp [intsD] at h; subst h; rfl
  | .int i :: r, ns, h => by
    simp only [intsD] at h
    cases e : intsD r with
    | none => rw [e] at h; cases h
    | some ms =>
      rw [e] at h
      simp only [Option.map_some, Option.some.injEq] at h
      subst h
      rw [intsD_of e]
      rfl
  | .none :: _, _, h => by simp [intsD] at h
  | .bool _ :: _, _, h => by simp [intsD] at h
  | .str _ :: _, _, h => by simp [intsD] at h
  | .list _ :: _, _, h => by simp [intsD] at h
  | .tuple _ :: _, _, h => by simp [intsD] at h
  | .dict _ :: _, _, h => by simp [intsD] at h
@[simp] theorem intsD_map : ∀ ns : List Int, intsD (ns.map .int) = some ns
  | [] => rfl
  | n :: ns => by simp [intsD, intsD_map ns]
theorem boolsD_of : ∀ {ds : List D} {ns : List Bool}, boolsD ds = some ns → ds = ns.map .bool
  | [], ns, h => by simp [boolsD] at h; subst h; rfl
  | .bool i :: r, ns, h => by
    simp only [boolsD] at h
    cases e : boolsD r with
    | none => rw [e] at h; cases h
    | some ms =>
      rw [e] at h
      simp only [Option.map_some, Option.some.injEq] at h
      subst h
      rw [boolsD_of e]
      rfl
  | .none :: _, _, h => by simp [boolsD] at h
  | .int _ :: _, _, h => by simp [boolsD] at h
  | .str _ :: _, _, h => by simp [boolsD] at h
  | .list _ :: _, _, h => by simp [boolsD] at h
  | .tuple _ :: _, _, h => by simp [boolsD] at h
  | .dict _ :: _, _, h => by simp [boolsD] at h
@[simp] theorem boolsD_map : ∀ ns : List Bool, boolsD (ns.map .bool) = some ns
  | [] => rfl
  | n :: ns => by simp [boolsD, boolsD_map ns]
def oSum : List D → Option D
  | [.list ds] => (intsD ds).map fun ns => .int ns.sum
  | _ => none
theorem opN_sum : OpN K .val oSum (rSum K) := by
  intro F H ds z vs Q sb hv e k
  unfold oSum at e
  split at e
  · rename_i ds
    obtain ⟨v, ev, h⟩ := hv.one
    cases e1 : intsD ds with
    | none => rw [e1] at e; cases e
    | some ns =>
      rw [e1] at e
      cases e
      obtain ⟨a, xs, ea, ha, ra⟩ := Lk.lst sb h
      subst ea
      rw [intsD_of e1] at ra
      rw [ra.ints] at ha
      exact ⟨a, ns, ev, SqL.of ha, k _ F H (Grow.refl _ _) sb rfl⟩
  · cases e
def oAny : List D → Option D
  | [.list ds] => (boolsD ds).map fun ns => .bool (ns.any id)
  | _ => none
def oAll : List D → Option D
  | [.list ds] => (boolsD ds).map fun ns => .bool (ns.all id)
  | _ => none
theorem opN_any : OpN K .val oAny (rAny K) := by
  intro F H ds z vs Q sb hv e k
  unfold oAny at e
  split at e
  · rename_i ds
    obtain ⟨v, ev, h⟩ := hv.one
    cases e1 : boolsD ds with
    | none => rw [e1] at e; cases e
    | some ns =>
      rw [e1] at e
      cases e
      obtain ⟨a, xs, ea, ha, ra⟩ := Lk.lst sb h
      subst ea
      rw [boolsD_of e1] at ra
      rw [ra.bools] at ha
      exact ⟨a, ns, ev, SqL.of ha, k _ F H (Grow.refl _ _) sb rfl⟩
  · cases e
theorem opN_all : OpN K .val oAll (rAll K) := by
  intro F H ds z vs Q sb hv e k
  unfold oAll at e
  split at e
  · rename_i ds
    obtain ⟨v, ev, h⟩ := hv.one
    cases e1 : boolsD ds with
    | none => rw [e1] at e; cases e
    | some ns =>
      rw [e1] at e
      cases e
      obtain ⟨a, xs, ea, ha, ra⟩ := Lk.lst sb h
      subst ea
      rw [boolsD_of e1] at ra
      rw [ra.bools] at ha
      exact ⟨a, ns, ev, SqL.of ha, k _ F H (Grow.refl _ _) sb rfl⟩
  · cases e
/-- list(xs) of a list or a tuple -/
def oList : List D → Option D
  | [.list ds] => some (.list ds)
  | [.tuple ds] => some (.list ds)
  | _ => none
theorem opN_list {md : Md} : OpN K md oList (fun xs H Q => ∃ p ys, xs = [.ref p] ∧ (SqL K H p ys ∨ SqT K H p ys) ∧ ∀ l, H l = none → Q (.ref l) (upd H l (.lst ys))) := by
  intro F H ds z vs Q sb hv e k
  unfold oList at e
  split at e
  · obtain ⟨v, ev, h⟩ := hv.one
    cases e
    obtain ⟨a, xs, ea, ha, ra⟩ := Lk.lst sb h
    subst ea
    refine ⟨a, xs, ev, .inl (SqL.of ha), fun p hp => ?_⟩
    obtain ⟨F', g, s', r⟩ := newL sb hp ra md
    exact k _ F' _ g s' r
  · obtain ⟨v, ev, h⟩ := hv.one
    cases e
    obtain ⟨a, xs, ea, ha, ra⟩ := Lk.tup sb h
    subst ea
    refine ⟨a, xs, ev, .inr (sb.sqT ha), fun p hp => ?_⟩
    obtain ⟨F', g, s', r⟩ := newL sb hp ra md
    exact k _ F' _ g s' r
  · cases e
/-- tuple(xs) -/
def oTuple : List D → Option D
  | [.list ds] => some (.tuple ds)
  | [.tuple ds] => some (.tuple ds)
  | _ => none
theorem opN_tuple : OpN K .val oTuple (fun xs H Q => ∃ p ys, xs = [.ref p] ∧ ((SqL K H p ys ∧ ∀ l, H l = none → Q (.ref l) (upd H l (.tup ys))) ∨ (SqT K H p ys ∧ Q (.ref p) H))) := by
  intro F H ds z vs Q sb hv e k
  unfold oTuple at e
  split at e
  · rename_i ds
    obtain ⟨v, ev, h⟩ := hv.one
    cases e
    obtain ⟨a, xs, ea, ha, ra⟩ := Lk.lst sb h
    subst ea
    refine ⟨a, xs, ev, .inl ⟨SqL.of ha, fun p hp => ?_⟩⟩
    have g := Grow.new (o := .tup xs) sb hp
    exact k _ _ _ g sb.upd2 (show Rp K _ (.tuple ds) _ from ⟨p, xs, rfl, .inl (.inl upd_same), ra.mono g.f⟩)
  · rename_i ds
    obtain ⟨v, ev, h⟩ := hv.one
    cases e
    obtain ⟨a, xs, ea, ha, ra⟩ := Lk.tup sb h
    subst ea
    exact ⟨a, xs, ev, .inr ⟨sb.sqT ha, k _ F H (Grow.refl _ _) sb (show Rp K _ (.tuple ds) _ from ⟨a, xs, rfl, ha, ra⟩)⟩⟩
  · cases e
end

/-! ### sorted, min, max, repr of data -/
section
variable {X : Cx}
open PySem.W (alike dataLt AllAlike Sortable dataLe EachIs)
open PySem.W (minD maxD AlikeAll min_list_data max_list_data)
def alikesB (ds : List D) : Bool := ds.all fun d => ds.all fun e => alike d e
def sortableB (ds : List D) : Bool := (ds.all fun d => match d with | .tuple (_ :: _) => true | _ => false) || (ds.all fun d => match d with | .none => false | .tuple _ => false | _ => true)
theorem alikesB_iff {ds : List D} (h : alikesB ds = true) : AllAlike ds := fun d hd e he => by
  unfold alikesB at h
  rw [List.all_eq_true] at h
  have := h d hd
  rw [List.all_eq_true] at this
  exact this e he
theorem sortableB_iff {ds : List D} (h : sortableB ds = true) : Sortable ds := by
  unfold sortableB at h
  rw [Bool.or_eq_true, List.all_eq_true, List.all_eq_true] at h
  rcases h with h | h
  · refine .inl fun d hd => ?_
    have := h d hd
    revert this
    cases d with
    | tuple xs =>
      cases xs with
      | nil => intro z; cases z
      | cons x r => intro _; exact ⟨x, r, rfl⟩
    | _ => intro z; cases z
  · refine .inr fun d hd => ?_
    have := h d hd
    revert this
    cases d with
    | tuple xs => intro z; cases z
    | none => intro z; cases z
    | _ => intro _; exact ⟨(fun z => nomatch z), fun xs z => nomatch z⟩
def sortD (ds : List D) : List D := ds.mergeSort (dataLe false id)
def oSorted : List D → Option D
  | [.list ds] => if flatD (.list ds) = true ∧ alikesB ds = true ∧ sortableB ds = true ∧ ds.length ≤ sizeLine then some (.list (sortD ds)) else none
  | _ => none
def rData (f : List D → Option D) (md : Md) (K : PySem.W.Frag) : List V → Hp → VK → Prop := fun vs H Q => ∃ F ds z, Sub F H ∧ ResA K F H ds vs .look ∧ f ds = some z ∧ ∀ v F' H', Grow F H F' H' → Sub F' H' → Res K H F' H' z v md → Q v H'
theorem opN_data {f : List D → Option D} {md : Md} {K : PySem.W.Frag} : OpN K md f (rData f md K) := fun F H ds z vs Q sb hv e k => ⟨F, ds, z, sb, hv, e, k⟩
theorem each_rel {K : PySem.W.Frag} {F : Hp} : ∀ {ds : List D} {xs : List V} {us : List Value}, RpA K F ds xs → Vals xs us → EachIs (fun u d => ∃ x, RelV x u ∧ Rp K F d x) us ds
  | [], _, _, h, r => by cases h; cases r; exact .nil
  | d :: ds, _, _, ⟨x, r0, e, h, q⟩, r => by
    subst e
    cases r with
    | cons r1 r2 => exact .cons ⟨x, r1, h⟩ (each_rel q r2)
theorem rel_each {K : PySem.W.Frag} {F : Hp} : ∀ {ds : List D} {us : List Value}, EachIs (fun u d => ∃ x, RelV x u ∧ Rp K F d x) us ds → ∃ xs, RpA K F ds xs ∧ Vals xs us
  | _, _, .nil => ⟨[], rfl, .nil⟩
  | _, _, .cons ⟨x, r1, h⟩ t => by
    obtain ⟨xs, q, r⟩ := rel_each t
    exact ⟨x :: xs, ⟨x, xs, rfl, h, q⟩, .cons r1 r⟩
theorem depth_mem : ∀ {ds : List D} {d : D}, d ∈ ds → d.depth ≤ PyData.depthAll ds
  | [], _, h => nomatch h
  | x :: ds, d, h => by
    rcases List.mem_cons.mp h with rfl | h
    · rw [PyData.depthAll]; exact Nat.le_max_left _ _
    · rw [PyData.depthAll]; exact Nat.le_trans (depth_mem h) (Nat.le_max_right _ _)
theorem cr_sortedD {md : Md} (hu : X.A.units + 100 < cLine) : CallR X (.builtin "sorted") (rData oSorted md X.K) := by
  intro pins s σ H vs us Q I r ⟨F, ds0, z, sb, hv, e, k⟩
  unfold oSorted at e
  split at e
  · rename_i ds
    split at e
    · rename_i hc
      cases e
      obtain ⟨v, ev, h⟩ := hv.one
      subst ev
      obtain ⟨a, xs, ea, ha, ra⟩ := Lk.lst sb h
      subst ea
      rw [Vals.ref1 r]
      obtain ⟨hp, hdp⟩ := flatD_iff.mp hc.1
      obtain ⟨its, rv, hl, hz⟩ := I.list (SqL.of ha)
      obtain ⟨as, hr⟩ := RpA.reads I sb (by simpa [PyData.plain] using hp) ra rv
      have er := each_rel ra rv
      have eR : EachIs (fun v d => ∃ as, Reads s.heap v (id d) as) its ds := PySem.W.readsAll_each id (by rw [List.map_id]; exact hr)
      refine PySem.W.sorted_data hl.isList er eR (by rw [List.map_id]; exact alikesB_iff hc.2.1) (by rw [List.map_id]; exact sortableB_iff hc.2.2.1) hc.2.2.2 (fun b hb => ?_) fun out ho eo => ?_
      · have h1 := depth_mem hb
        have h2 : (PyData.list ds).depth = PyData.depthAll ds + 1 := by simp [PyData.depth]
        show X.A.units + 2 + b.depth < cLine
        omega
      · obtain ⟨ys, rq, rw'⟩ := rel_each eo
        obtain ⟨ep, he'⟩ := PyProof.Rows.sortedAll_at s.heap its (List.toArray out)
        have hlen : ys.length ≤ sizeLine := by
          rw [rw'.length, ho]; exact hc.2.2.2
        have hn := I.hok.fresh (Nat.le_succ s.heap.objs.size)
        obtain ⟨F', g, s', rr⟩ := newL sb hn rq md
        exact ⟨.ref _, upd H (s.heap.objs.size + 1) (.lst ys), I.laid (t' := s.toks) (fun _ _ => PyProof.Rows.sortedAll_old) (Nat.le_succ _) ⟨hlen, out, ep, rw', he'⟩, rfl, k _ F' _ g s' rr⟩
    · cases e
  · cases e
/-- min(xs), max(xs) of a list -/
def oMinL : List D → Option D
  | [.list (x :: xs)] => if flatD (.list (x :: xs)) = true ∧ alikesB (x :: xs) = true ∧ ((x :: xs).all fun d => !isN d) = true then some (minD x xs) else none
  | _ => none
def oMaxL : List D → Option D
  | [.list (x :: xs)] => if flatD (.list (x :: xs)) = true ∧ alikesB (x :: xs) = true ∧ ((x :: xs).all fun d => !isN d) = true then some (maxD x xs) else none
  | _ => none
theorem alikeAll_of {ds : List D} (h : alikesB ds = true) (h2 : (ds.all fun d => !isN d) = true) : AlikeAll ds := ⟨fun x hx y hy => alikesB_iff h x hx y hy, fun x hx z => by
  rw [List.all_eq_true] at h2
  have := h2 x hx
  subst z
  exact absurd this (by decide)⟩
theorem alike_self {ds : List D} (h : alikesB ds = true) {d e : D} (hd : d ∈ ds) (he : e ∈ ds) : alike d e = true := alikesB_iff h d hd e he
theorem minD_mem (x : D) : ∀ (xs : List D) , minD x xs ∈ x :: xs := by
  intro xs
  unfold minD
  induction xs generalizing x with
  | nil => exact List.mem_cons_self
  | cons y ys ih =>
    rw [List.foldl_cons]
    rcases List.mem_cons.mp (ih (if dataLt y x then y else x)) with h | h
    · rw [h]; split
      · exact List.mem_cons_of_mem _ List.mem_cons_self
      · exact List.mem_cons_self
    · exact List.mem_cons_of_mem _ (List.mem_cons_of_mem _ h)
theorem maxD_mem (x : D) : ∀ (xs : List D) , maxD x xs ∈ x :: xs := by
  intro xs
  unfold maxD
  induction xs generalizing x with
  | nil => exact List.mem_cons_self
  | cons y ys ih =>
    rw [List.foldl_cons]
    rcases List.mem_cons.mp (ih (if dataLt x y then y else x)) with h | h
    · rw [h]; split
      · exact List.mem_cons_of_mem _ List.mem_cons_self
      · exact List.mem_cons_self
    · exact List.mem_cons_of_mem _ (List.mem_cons_of_mem _ h)
theorem readsAll_get {h : Heap} : ∀ {vs : List Value} {ds : List D} {as : List Addr} {i : Nat} {v : Value} {d : D}, ReadsAll h vs ds as → vs[i]? = some v → ds[i]? = some d → ∃ bs, Reads h v d bs
  | _, _, _, _, _, _, .nil, hv, _ => by simp at hv
  | _, _, _, 0, _, _, .cons r _, hv, hd => by simp at hv hd; subst hv; subst hd; exact ⟨_, r⟩
  | _, _, _, i + 1, _, _, .cons _ rs, hv, hd => readsAll_get (i := i) rs (by simpa using hv) (by simpa using hd)
theorem minmax_res {K : PySem.W.Frag} {F : Hp} {x w : D} {xs : List D} {ys : List V} {its : List Value} {as bs : List Addr} {h h' : Heap} {i : Nat} {v : Value} (ra : RpA K F (x :: xs) ys) (rv : Vals ys its) (hr : ReadsAll h its (x :: xs) as) (hal : alikesB (x :: xs) = true) (hm : w ∈ x :: xs)
    (hi : its[i]? = some v) (hw : Reads h' v w bs) (hk : ∀ b o, h.get? b = some o → h'.get? b = some o) : ∃ y, RelV y v ∧ Rp K F w y := by
  have hl := rv.length
  have hlt : i < its.length := (List.getElem?_eq_some_iff.mp hi).1
  have hd : (x :: xs)[i]? = some ((x :: xs)[i]'(by rw [← ra.len, hl]; exact hlt)) := List.getElem?_eq_getElem _
  obtain ⟨y, hy, rp⟩ := ra.get hd
  obtain ⟨u, hu, ru⟩ := rv.get hy
  rw [hi] at hu
  cases hu
  obtain ⟨cs, r1⟩ := readsAll_get hr hi hd
  have e := PySem.W.alike_unique _ _ _ _ _ (alike_self hal (List.getElem_mem _) hm) (PyProof.Rows.Reads.keeps hk r1) hw
  rw [e] at rp
  exact ⟨y, ru, rp⟩
theorem cr_minD (hu : X.A.units + 100 < cLine) (hc : X.calm = true) : CallR X (.builtin "min") (rData oMinL .val X.K) := by
  intro pins s σ H vs us Q I r ⟨F, ds0, z, sb, hv, e, k⟩
  unfold oMinL at e
  split at e
  · rename_i x xs
    split at e
    · rename_i hcn
      cases e
      obtain ⟨v, ev, h⟩ := hv.one
      subst ev
      obtain ⟨a, ys, ea, ha, ra⟩ := Lk.lst sb h
      subst ea
      rw [Vals.ref1 r]
      obtain ⟨hp, hdp⟩ := flatD_iff.mp hcn.1
      obtain ⟨its, rv, hl, hz⟩ := I.list (SqL.of ha)
      obtain ⟨as, hr⟩ := RpA.reads I sb (by simpa [PyData.plain] using hp) ra rv
      have h2 : (PyData.list (x :: xs)).depth = PyData.depthAll (x :: xs) + 1 := by simp [PyData.depth]
      refine min_list_data (I.ok.hd hc) hl.isList hr (alikeAll_of hcn.2.1 hcn.2.2) (by omega) fun i v h' tk bs hi hw hk => ?_
      obtain ⟨y, ry, rp⟩ := minmax_res ra rv hr hcn.2.1 (minD_mem x xs) (by simpa using hi) hw hk
      exact ⟨y, H, I.kept hk, ry, k _ F H (Grow.refl _ _) sb rp⟩
    · cases e
  · cases e
theorem cr_maxD (hu : X.A.units + 100 < cLine) (hc : X.calm = true) : CallR X (.builtin "max") (rData oMaxL .val X.K) := by
  intro pins s σ H vs us Q I r ⟨F, ds0, z, sb, hv, e, k⟩
  unfold oMaxL at e
  split at e
  · rename_i x xs
    split at e
    · rename_i hcn
      cases e
      obtain ⟨v, ev, h⟩ := hv.one
      subst ev
      obtain ⟨a, ys, ea, ha, ra⟩ := Lk.lst sb h
      subst ea
      rw [Vals.ref1 r]
      obtain ⟨hp, hdp⟩ := flatD_iff.mp hcn.1
      obtain ⟨its, rv, hl, hz⟩ := I.list (SqL.of ha)
      obtain ⟨as, hr⟩ := RpA.reads I sb (by simpa [PyData.plain] using hp) ra rv
      have h2 : (PyData.list (x :: xs)).depth = PyData.depthAll (x :: xs) + 1 := by simp [PyData.depth]
      refine max_list_data (I.ok.hd hc) hl.isList hr (alikeAll_of hcn.2.1 hcn.2.2) (by omega) fun i v h' tk bs hi hw hk => ?_
      obtain ⟨y, ry, rp⟩ := minmax_res ra rv hr hcn.2.1 (maxD_mem x xs) (by simpa using hi) hw hk
      exact ⟨y, H, I.kept hk, ry, k _ F H (Grow.refl _ _) sb rp⟩
    · cases e
  · cases e
/-- repr -/
def oRepr : List D → Option D
  | [d] => if flatD d = true ∧ d.showable = true ∧ d.shown.length ≤ sizeLine then some (.str d.shown) else none
  | _ => none
mutual
theorem plain_noDict : ∀ {d : D}, d.plain = true → d.hasDict = false
  | .none, _ => by simp [PyData.hasDict]
  | .bool _, _ => by simp [PyData.hasDict]
  | .int _, _ => by simp [PyData.hasDict]
  | .str _, _ => by simp [PyData.hasDict]
  | .list ds, p => by rw [PyData.hasDict]; exact plain_noDictAll (by simpa [PyData.plain] using p)
  | .tuple ds, p => by rw [PyData.hasDict]; exact plain_noDictAll (by simpa [PyData.plain] using p)
  | .dict _, p => by simp [PyData.plain] at p
theorem plain_noDictAll : ∀ {ds : List D}, PyData.plainAll ds = true → PyData.hasDictAll ds = false
  | [], _ => by simp [PyData.hasDictAll]
  | d :: ds, p => by
    have p' : d.plain = true ∧ PyData.plainAll ds = true := by simpa [PyData.plainAll] using p
    rw [PyData.hasDictAll, plain_noDict p'.1, plain_noDictAll p'.2]; rfl
end
theorem cr_repr (hu : X.A.units + 100 < cLine) (hg : X.A.guards = some []) : CallR X (.builtin "repr") (rData oRepr .val X.K) := by
  intro pins s σ H vs us Q I r ⟨F, ds0, z, sb, hv, e, k⟩
  unfold oRepr at e
  split at e
  · rename_i d
    split at e
    · rename_i hc
      cases e
      obtain ⟨v, ev, h⟩ := hv.one
      subst ev
      obtain ⟨u, eu, ru⟩ := vals1 r
      subst eu
      obtain ⟨hp, hdp⟩ := flatD_iff.mp hc.1
      obtain ⟨as, hr⟩ := Lk.reads I sb hp h ru
      have fin : ∀ h' (u' : Tok) (tk : Nat), (∀ b o, s.heap.get? b = some o → h'.get? b = some o) → EP X pins σ Q (.str d.shown u') { s with heap := h', toks := tk } := fun h' u' tk hk =>
        ⟨.str d.shown, H, I.kept hk, ⟨u', rfl⟩, k _ F H (Grow.refl _ _) sb rfl⟩
      cases hr with
      | none => exact PySem.P.repr_of_none (fin _ _ _ fun _ _ q => q)
      | bool b => exact PySem.P.repr_of_bool (fin _ _ _ fun _ _ q => q)
      | int i t => exact PySem.P.repr_of_int (by simpa [PyData.showable] using hc.2.1) (fin _ _ _ fun _ _ q => q)
      | str x t => exact PySem.P.repr_of_str (fin _ _ _ fun _ _ q => q) (by simpa [PyData.shown] using hc.2.2)
      | list h1 h2 h3 h4 => exact repr_of_reads' (Reads.list h1 h2 h3 h4) hc.2.1 (fun z => by rw [plain_noDict hp] at z; cases z) hg (by omega) (fun _ _ q => q) (fun h' u' tk hk => fin h' u' tk hk) hc.2.2
      | tuple h1 h2 h3 h4 => exact repr_of_reads' (Reads.tuple h1 h2 h3 h4) hc.2.1 (fun z => by rw [plain_noDict hp] at z; cases z) hg (by omega) (fun _ _ q => q) (fun h' u' tk hk => fin h' u' tk hk) hc.2.2
      | dict h1 h2 h3 h4 h5 => simp [PyData.plain] at hp
    · cases e
  · cases e
end
end VL
namespace VL
open PySem PySem.Spec PyProof.Rows L2

/-! ### what is walked -/
abbrev QI := Env → (List D → Prop) → Prop
def ItOk (K : PySem.W.Frag) (J : It) (G F1 : Hp) (ds : List D) : Prop :=
  ∀ (i : Nat) (F2 H2 : Hp), Sub F1 F2 → Sub F2 H2 → Sub G H2 →
    (i = ds.length → J.stop i H2) ∧ ∀ d, ds[i]? = some d → J.go i H2 ∧ ∀ x H3, J.yld i H2 x H3 → ∃ F3, Grow F2 H2 F3 H3 ∧ Sub F3 H3 ∧ Rp K F3 d x
def gOf : Md → Hp → Hp → Hp
  | .val, F1, _ => F1
  | _, _, H1 => H1
def SndI (K : PySem.W.Frag) (md : Md) (w : TI) (q : QI) : Prop :=
  ∀ (H0 F H : Hp) (ρ : Env) (σ : St) (P : List D → Prop) (R : It → Hp → Prop), Slots K H0 F H ρ σ → q ρ P →
    (∀ J ds F1 H1, Grow F H F1 H1 → Sub F1 H1 → ItOk K J (gOf md F1 H1) F1 ds → P ds → R J H1) → w σ H R
structure VI (md : Md) (X : Cx) (tg e : Expr) (w : TI) (q : QI) : Prop where
  pi : PI X tg e w
  sd : SndI X.K md w q
section
variable {X : Cx} {md : Md} {tg e e2 a b : Expr} {t ta tb : TE} {q qa qb : QE} {tA : TA} {qA : QA} {pos p : Pos}
/-- a list as it is read: where it stands, and that it stands as long as G does -/
theorem look_list {K : PySem.W.Frag} {F1 H1 : Hp} {ds : List D} {v : V} (sb : Sub F1 H1) (r : Res K H1 F1 H1 (.list ds) v md) (hm : MdA md) : ∃ a xs, v = .ref a ∧ H1 a = some (.lst xs) ∧ RpA K F1 ds xs ∧ ∀ F2 H2, Sub F1 F2 → Sub F2 H2 → Sub (gOf md F1 H1) H2 → H2 a = some (.lst xs) := by
  cases md with
  | own => exact hm.elim
  | val =>
    obtain ⟨a, xs, e, h, q⟩ := r
    exact ⟨a, xs, e, sb _ _ h, q, fun F2 H2 s1 s2 _ => s2 _ _ (s1 _ _ h)⟩
  | look =>
    obtain ⟨a, xs, e, h, q⟩ := Lk.lst sb r
    exact ⟨a, xs, e, h, q, fun F2 H2 _ _ s3 => s3 _ _ h⟩
def qIList (q : QE) : QI := fun ρ P => q ρ fun d => ∃ ds, d = .list ds ∧ P ds
theorem vi_list (h : VE md X e t q) (hm : MdA md := by exact True.intro) : VI md X tg e (iList X.K t) (qIList q) := by
  refine ⟨pi_list h.pe, fun H0 F H ρ σ P R S hq k => ?_⟩
  refine h.sd H0 F H ρ σ _ _ S hq fun v d F1 H1 g1 s1 r1 ⟨ds, ed, p⟩ => ?_
  subst ed
  have r1' : Res X.K H1 F1 H1 (.list ds) v md := by
    cases md with
    | own => exact hm.elim
    | val => exact r1
    | look => exact r1
  obtain ⟨a, xs, ev, ha, ra, st⟩ := look_list s1 r1' hm
  refine ⟨a, ev, ⟨xs, SqL.of ha⟩, k _ ds F1 H1 g1 s1 (fun i F2 H2 h1 h2 h3 => ?_) p⟩
  have hx := SqL.of (K := X.K) (st F2 H2 h1 h2 h3)
  refine ⟨fun hi => ⟨xs, hx, by rw [ra.len]; omega⟩, fun d hd => ?_⟩
  obtain ⟨x, hx1, hr⟩ := ra.get hd
  refine ⟨⟨xs, x, hx, hx1⟩, fun y H3 ⟨e3, hy⟩ => ?_⟩
  subst e3
  have := hy xs hx
  rw [hx1] at this
  cases this
  exact ⟨F2, Grow.refl _ _, h2, hr.mono h1⟩
def rangeD (lo : Int) (n : Nat) : List D := (List.range n).map fun i => .int (lo + (i : Nat))
theorem itr_ok {K : PySem.W.Frag} {G F1 : Hp} {lo : Int} {n : Nat} : ItOk K (Itr lo n) G F1 (rangeD lo n) := fun i F2 H2 h1 h2 h3 => by
  refine ⟨fun hi => ?_, fun d hd => ?_⟩
  · show n ≤ i
    unfold rangeD at hi
    rw [List.length_map, List.length_range] at hi
    omega
  · unfold rangeD at hd
    rw [List.getElem?_map] at hd
    have hi : i < n := by
      rcases Nat.lt_or_ge i n with h | h
      · exact h
      · rw [List.getElem?_eq_none (by simpa using h)] at hd; cases hd
    rw [List.getElem?_range hi] at hd
    cases hd
    refine ⟨hi, fun x H3 ⟨e3, ex⟩ => ?_⟩
    subst e3 ex
    exact ⟨F2, Grow.refl _ _, h2, rfl⟩
def qIRng1 (qA : QA) : QI := fun ρ P => qA ρ fun ds => ∃ j, ds = [.int j] ∧ (-4611686018427387904 ≤ j ∧ j < 4611686018427387904) ∧ P (rangeD 0 j.toNat)
def qIRng2 (qA : QA) : QI := fun ρ P => qA ρ fun ds => ∃ i j, ds = [.int i, .int j] ∧ (-4611686018427387904 ≤ i ∧ i < 4611686018427387904 ∧ -4611686018427387904 ≤ j ∧ j < 4611686018427387904) ∧ P (rangeD i (j - i).toNat)
theorem vi_range1 (hg : Gl X "range") (hm : X.mg "range" = none) (ha : VA .look X [a] tA qA) (hs : starEach [a] X.env = [(false, eval a X.env)] := by rfl) : VI .val X tg (.Call (.Name "range" p) [a] [] pos) (iRng1 tA) (qIRng1 qA) := by
  refine ⟨pi_range1 hg hm ha.pa hs, fun H0 F H ρ σ P R S hq k => ?_⟩
  refine ha.sd H0 F H ρ σ _ _ S hq fun vs ds F1 H1 g1 s1 ln r1 ⟨j, ed, hj, pp⟩ => ?_
  subst ed
  obtain ⟨v, ev, h⟩ := r1.one
  have := Lk.int h
  subst this
  exact ⟨j, ev, hj.1, hj.2, k _ _ F1 H1 g1 s1 itr_ok pp⟩
theorem vi_range2 (hg : Gl X "range") (hm : X.mg "range" = none) (ha : VA .look X [a, b] tA qA) (hs : starEach [a, b] X.env = [(false, eval a X.env), (false, eval b X.env)] := by rfl) (hs2 : starEach [b] X.env = [(false, eval b X.env)] := by rfl) :
    VI .val X tg (.Call (.Name "range" p) [a, b] [] pos) (iRng2 tA) (qIRng2 qA) := by
  refine ⟨pi_range2 hg hm ha.pa hs hs2, fun H0 F H ρ σ P R S hq k => ?_⟩
  refine ha.sd H0 F H ρ σ _ _ S hq fun vs ds F1 H1 g1 s1 ln r1 ⟨i, j, ed, hj, pp⟩ => ?_
  subst ed
  obtain ⟨v, w, ev, h, h2⟩ := r1.two
  have := Lk.int h
  subst this
  have := Lk.int h2
  subst this
  exact ⟨i, j, ev, hj, k _ _ F1 H1 g1 s1 itr_ok pp⟩
def enumD (n : Nat) : List D → List D
  | [] => []
  | d :: r => .tuple [.int (n : Nat), d] :: enumD (n + 1) r
theorem enumD_get : ∀ (ds : List D) (n i : Nat), (enumD n ds)[i]? = (ds[i]?).map fun d => .tuple [.int ((n + i : Nat) : Int), d]
  | [], n, i => by simp [enumD]
  | d :: r, n, 0 => by simp [enumD]
  | d :: r, n, i + 1 => by
    have h := enumD_get r (n + 1) i
    simp only [enumD, List.getElem?_cons_succ]
    rw [h, show n + 1 + i = n + (i + 1) by omega]
theorem enumD_len : ∀ (ds : List D) (n : Nat), (enumD n ds).length = ds.length
  | [], _ => rfl
  | d :: r, n => by simp [enumD, enumD_len r]
theorem newT {K : PySem.W.Frag} {F H : Hp} {T : Addr} {xs : List V} {ds : List D} (sb : Sub F H) (hT : H T = none) (r : RpA K F ds xs) : ∃ F', Grow F H F' (upd H T (.tup xs)) ∧ Sub F' (upd H T (.tup xs)) ∧ Rp K F' (.tuple ds) (.ref T) := by
  have g := Grow.new (o := .tup xs) sb hT
  exact ⟨_, g, sb.upd2, (show Rp K _ (.tuple ds) _ from ⟨T, xs, rfl, .inl (.inl upd_same), r.mono g.f⟩)⟩
def qIEnum (qA : QA) : QI := fun ρ P => qA ρ fun ds => ∃ xs, ds = [.list xs] ∧ P (enumD 0 xs)
theorem vi_enum {elts : List Expr} {kk : Nat} {tpos : Pos} (hg : Gl X "enumerate") (hm : X.mg "enumerate" = none) (ha : VA md X [e] tA qA) (hmd : MdA md := by exact True.intro) (hs : starEach [e] X.env = [(false, eval e X.env)] := by rfl) :
    VI md X (.Tuple elts kk tpos) (.Call (.Name "enumerate" p) [e] [] pos) (iEnum X.K tA) (qIEnum qA) := by
  refine ⟨pi_enum hg hm ha.pa hs, fun H0 F H ρ σ P R S hq k => ?_⟩
  refine ha.sd H0 F H ρ σ _ _ S hq fun vs ds F1 H1 g1 s1 ln r1 ⟨ls, ed, pp⟩ => ?_
  subst ed
  obtain ⟨v, ev, h⟩ := r1.one
  obtain ⟨a, xs, ea, hA, ra, st⟩ := look_list s1 h hmd
  subst ea
  refine ⟨a, xs, ev, SqL.of hA, k _ _ F1 H1 g1 s1 (fun i F2 H2 h1 h2 h3 => ?_) pp⟩
  have hx := SqL.of (K := X.K) (st F2 H2 h1 h2 h3)
  refine ⟨fun hi => ⟨xs, hx, by rw [ra.len]; rw [enumD_len] at hi; omega⟩, fun d hd => ?_⟩
  rw [enumD_get] at hd
  cases hl : ls[i]? with
  | none => rw [hl] at hd; cases hd
  | some d0 =>
    rw [hl] at hd
    cases hd
    obtain ⟨x, hx1, hr⟩ := ra.get hl
    refine ⟨⟨xs, x, hx, hx1⟩, fun y H3 ⟨T, x2, ey, nT, e3, hy⟩ => ?_⟩
    subst e3 ey
    have := hy xs hx
    rw [hx1] at this
    cases this
    exact newT h2 nT ⟨_, _, rfl, (show V.int (i : Nat) = V.int ((0 + i : Nat) : Int) by rw [Nat.zero_add]), _, _, rfl, hr.mono h1, rfl⟩
def zipD (xs ys : List D) : List D := List.zipWith (fun x y => .tuple [x, y]) xs ys
def qIZip (qA : QA) : QI := fun ρ P => qA ρ fun ds => ∃ xs ys, ds = [.list xs, .list ys] ∧ P (zipD xs ys)
theorem vi_zip {elts : List Expr} {kk : Nat} {tpos : Pos} (hg : Gl X "zip") (hm : X.mg "zip" = none) (ha : VA md X [e, e2] tA qA) (hmd : MdA md := by exact True.intro)
    (hs : starEach [e, e2] X.env = (false, eval e X.env) :: starEach [e2] X.env := by rfl) (hpl : (backTo pos (starEach [e2] X.env)).any (·.1) = false := by rfl) :
    VI md X (.Tuple elts kk tpos) (.Call (.Name "zip" p) [e, e2] [] pos) (iZip X.K tA) (qIZip qA) := by
  refine ⟨pi_zip hg hm ha.pa hs hpl, fun H0 F H ρ σ P R S hq k => ?_⟩
  refine ha.sd H0 F H ρ σ _ _ S hq fun vs ds F1 H1 g1 s1 ln r1 ⟨ls, ms, ed, pp⟩ => ?_
  subst ed
  obtain ⟨v, w, ev, h, h2⟩ := r1.two
  obtain ⟨a, xs, ea, hA, ra, st⟩ := look_list s1 h hmd
  obtain ⟨b, ys, eb, hB, rb, st2⟩ := look_list s1 h2 hmd
  subst ea eb
  refine ⟨a, b, xs, ys, ev, SqL.of hA, SqL.of hB, k _ _ F1 H1 g1 s1 (fun i F2 H2 h1 h2 h3 => ?_) pp⟩
  have hx := SqL.of (K := X.K) (st F2 H2 h1 h2 h3)
  have hy := SqL.of (K := X.K) (st2 F2 H2 h1 h2 h3)
  refine ⟨fun hi => ⟨xs, ys, hx, hy, ?_⟩, fun d hd => ?_⟩
  · rw [ra.len, rb.len]
    unfold zipD at hi
    rw [List.length_zipWith] at hi
    omega
  · unfold zipD at hd
    rw [List.getElem?_zipWith] at hd
    cases hl : ls[i]? with
    | none => rw [hl] at hd; cases hd
    | some d0 =>
      cases hm2 : ms[i]? with
      | none => rw [hl, hm2] at hd; cases hd
      | some d1 =>
        rw [hl, hm2] at hd
        cases hd
        obtain ⟨x, hx1, hr⟩ := ra.get hl
        obtain ⟨y, hy1, hr2⟩ := rb.get hm2
        refine ⟨⟨xs, ys, x, y, hx, hy, hx1, hy1⟩, fun z H3 ⟨T, x2, y2, ez, nT, e3, hz, hz2⟩ => ?_⟩
        subst e3 ez
        have e1 := hz xs hx
        rw [hx1] at e1
        cases e1
        have e2 := hz2 ys hy
        rw [hy1] at e2
        cases e2
        exact newT h2 nT ⟨_, _, rfl, hr.mono h1, _, _, rfl, hr2.mono h1, rfl⟩
end

/-! ### targets -/
abbrev QG := D → Env → (Env → Prop) → Prop
abbrev QGs := List D → Env → (Env → Prop) → Prop
def SndG (K : PySem.W.Frag) (ts : List Nat) (g : TG) (q : QG) : Prop :=
  ∀ (H0 B F H : Hp) (ρ : Env) (σ : St) (d : D) (v : V) (P : Env → Prop) (Q : St → Hp → Prop), SlotsB K H0 B F H ρ σ → Rp K F d v → q d ρ P →
    (∀ ρ' σ', SlotsB K H0 B F H ρ' σ' → (∀ vs, (∀ i ∈ ts, i ∈ vs) → wipe σ' vs = wipe σ vs) → P ρ' → Q σ' H) → g v σ H Q
def SndGs (K : PySem.W.Frag) (ts : List Nat) (g : TGs) (q : QGs) : Prop :=
  ∀ (H0 B F H : Hp) (ρ : Env) (σ : St) (ds : List D) (xs : List V) (P : Env → Prop) (Q : St → Hp → Prop), SlotsB K H0 B F H ρ σ → RpA K F ds xs → q ds ρ P →
    (∀ ρ' σ', SlotsB K H0 B F H ρ' σ' → (∀ vs, (∀ i ∈ ts, i ∈ vs) → wipe σ' vs = wipe σ vs) → P ρ' → Q σ' H) → g xs σ H Q
structure VG (X : Cx) (tg : Expr) (ts : List Nat) (g : TG) (q : QG) : Prop where
  pg : PG X tg g
  sd : SndG X.K ts g q
structure VGs (X : Cx) (tg : List Expr) (ts : List Nat) (g : TGs) (q : QGs) : Prop where
  pgs : PGs X tg g
  sd : SndGs X.K ts g q
theorem wipe_get {σ : St} {i : Nat} : ∀ {vs : List Nat}, i ∈ vs → i < σ.length → (wipe σ vs)[i]? = some none
  | v :: vs, h, hl => by
    unfold wipe
    by_cases e : v = i
    · subst e
      rw [List.getElem?_set_self (by rw [wipe_length]; exact hl)]
    · rw [List.getElem?_set_ne e]
      rcases List.mem_cons.mp h with z | z
      · exact absurd z.symm e
      · exact wipe_get z hl
theorem wipe_set {σ : St} {i : Nat} {x : Option V} {vs : List Nat} (h : i ∈ vs) : wipe (σ.set i x) vs = wipe σ vs := by
  refine List.ext_getElem? fun j => ?_
  by_cases hj : j ∈ vs
  · by_cases hl : j < σ.length
    · rw [wipe_get hj (by rw [List.length_set]; exact hl), wipe_get hj hl]
    · rw [List.getElem?_eq_none (by rw [wipe_length, List.length_set]; omega), List.getElem?_eq_none (by rw [wipe_length]; omega)]
  · rw [wipe_out hj, wipe_out hj, List.getElem?_set_ne (fun (e : i = j) => hj (e ▸ h))]
theorem wipe_wipe {σ : St} {vs : List Nat} : wipe (wipe σ vs) vs = wipe σ vs := by
  refine List.ext_getElem? fun j => ?_
  by_cases hj : j ∈ vs
  · by_cases hl : j < σ.length
    · rw [wipe_get hj (by rw [wipe_length]; exact hl), wipe_get hj hl]
    · rw [List.getElem?_eq_none (by rw [wipe_length, wipe_length]; omega), List.getElem?_eq_none (by rw [wipe_length]; omega)]
  · rw [wipe_out hj]
section
variable {X : Cx} {tg : Expr} {es : List Expr} {ts us : List Nat} {g : TG} {gs : TGs} {q : QG} {qs : QGs} {pos : Pos}
def qName (i : Nat) : QG := fun d ρ P => P (ρ.set i (.val d))
theorem vg_name (i : Nat) {x : Str} (hN : X.N.Nodup) (hi : X.N[i]? = some x) (hx : Loc X.env.scope x) (hf : X.fn x = true ∨ X.env.scope.names.lookup x = some .local := by first | exact .inl rfl | exact .inr rfl | assumption) : VG X (.Name x pos) [i] (gName i) (qName i) :=
  ⟨pg_name hN hi hx hf, fun H0 B F H ρ σ d v P Q S r hq k => k _ _ (S.set r) (fun vs h => wipe_set (h i List.mem_cons_self)) hq⟩
def qGNil : QGs := fun ds ρ P => ds = [] ∧ P ρ
def qGCons (q : QG) (qs : QGs) : QGs := fun ds ρ P => ∃ d r, ds = d :: r ∧ q d ρ fun ρ' => qs r ρ' P
theorem vgs_nil : VGs X [] [] gNil qGNil := ⟨pgs_nil, fun H0 B F H ρ σ ds xs P Q S r ⟨e, hq⟩ k => by
  subst e
  exact ⟨r, k ρ σ S (fun _ _ => rfl) hq⟩⟩
theorem vgs_cons (h1 : VG X tg ts g q) (h2 : VGs X es us gs qs) (hs : (assignEach (tg :: es) X.env).map (·.2) = assign tg X.env :: (assignEach es X.env).map (·.2) := by rfl) : VGs X (tg :: es) (ts ++ us) (gCons g gs) (qGCons q qs) := by
  refine ⟨pgs_cons h1.pg h2.pgs hs, fun H0 B F H ρ σ ds xs P Q S r ⟨d, ds', e, hq⟩ k => ?_⟩
  subst e
  obtain ⟨x, r', ex, rx, rr⟩ := r
  refine ⟨x, r', ex, h1.sd H0 B F H ρ σ d x _ _ S rx hq fun ρ1 σ1 S1 w1 q1 => ?_⟩
  refine h2.sd H0 B F H ρ1 σ1 ds' r' _ _ S1 rr q1 fun ρ2 σ2 S2 w2 q2 => ?_
  exact k ρ2 σ2 S2 (fun vs h => (w2 vs fun i hi => h i (List.mem_append_right _ hi)).trans (w1 vs fun i hi => h i (List.mem_append_left _ hi))) q2
def qGTup (n : Nat) (qs : QGs) : QG := fun d ρ P => ∃ ds, d = .tuple ds ∧ ds.length = n ∧ qs ds ρ P
theorem vg_tup {k n : Nat} (hc : X.calm = true) (h : VGs X es ts gs qs) (hn : (assignEach es X.env).length = n := by rfl) (hst : (assignEach es X.env).findIdx? (·.1) = none := by rfl) : VG X (.Tuple es k pos) ts (gTup X.K n gs) (qGTup n qs) := by
  refine ⟨pg_tup hc h.pgs hn hst, fun H0 B F H ρ σ d v P Q S r ⟨ds, e, hl, hq⟩ kk => ?_⟩
  subst e
  obtain ⟨a, xs, ev, hT, ra⟩ := r
  refine ⟨a, xs, ev, S.fh.sqT hT, by rw [ra.len]; exact hl, h.sd H0 B F H ρ σ ds xs _ _ S ra hq kk⟩
end

/-! ### comprehensions -/
def wipeR (ρ : Env) : List Nat → Env
  | [] => ρ
  | v :: vs => (wipeR ρ vs).set v .no
theorem SlotsB.wipe {K : PySem.W.Frag} {H0 B F H : Hp} {ρ : Env} {σ : St} (S : SlotsB K H0 B F H ρ σ) : ∀ vs : List Nat, SlotsB K H0 B F H (wipeR ρ vs) (L2.wipe σ vs)
  | [] => S
  | v :: vs => (SlotsB.wipe S vs).setNo
def lcRun (step : D → (Option D → Prop) → Prop) : List D → List D → (List D → Prop) → Prop
  | [], acc, P => P acc
  | d :: ds, acc, P => step d fun o => lcRun step ds (acc ++ o.toList) P
structure VTs (X : Cx) (ifs : List Expr) (t : TT) (q : QT) : Prop where
  pts : PTs X ifs t
  sd : SndT X.K t q
def qYes : QT := fun _ P => P true
theorem vts_nil {X : Cx} : VTs X [] tYes qYes := ⟨pts_nil, fun H0 F H ρ σ P Q S p k => k true F H (Grow.refl _ _) S.fh p⟩
theorem vts_one {X : Cx} {c : Expr} {t : TT} {q : QT} (h : VT X c t q) : VTs X [c] t q := ⟨pts_one h.pt, h.sd⟩
def qLc (qi : QI) (qg : QG) (qt : QT) (qe : QE) (vs : List Nat) : QE := fun ρ P => qi ρ fun ds => ds.length ≤ sizeLine ∧ lcRun (fun d k => qg d (wipeR ρ vs) fun ρ2 => qt ρ2 fun b => if b = true then qe ρ2 fun y => k (some y) else k none) ds [] fun out => P (.list out)
theorem sndLc {K : PySem.W.Frag} {md : Md} {wi : TI} {g : TG} {tt : TT} {te : TE} {qi : QI} {qg : QG} {qt : QT} {qe : QE} {ts vs : List Nat} (hi : SndI K md wi qi) (hg : SndG K ts g qg) (ht : SndT K tt qt) (he : Snd K .val te qe) (hts : ∀ i ∈ ts, i ∈ vs) :
    Snd K .own (tLc wi g tt te vs) (qLc qi qg qt qe vs) := by
  intro H0 F H ρ σ P Q S hq k
  refine hi H0 F H ρ σ _ _ S hq fun J ds F1 H1 g1 s1 ok ⟨hl, hrun⟩ => ?_
  intro D nD
  have S1 := S.grow g1 s1
  refine ⟨fun i m H' => ∃ F' acc accD, m = ds.length - i ∧ i ≤ ds.length ∧ H' D = some (.lst acc) ∧ Grow F1 H1 F' H' ∧ F' D = none ∧ Sub F' H' ∧ RpA K F' accD acc ∧ acc.length ≤ i ∧
      lcRun (fun d k => qg d (wipeR ρ vs) fun ρ2 => qt ρ2 fun b => if b = true then qe ρ2 fun y => k (some y) else k none) (ds.drop i) accD fun out => P (.list out),
    ⟨ds.length, F1, [], [], by simp, Nat.zero_le _, upd_same, Grow.newO nD, s1.none nD, s1.trans (Sub.upd nD), rfl, Nat.le_refl _, hrun⟩, ?_⟩
  rintro i m H' ⟨F', acc, accD, rfl, hi', hD, gF, fD, sF, ra, hacc, run⟩
  have hG : Sub (gOf md F1 H1) H' := by
    cases md with
    | val => exact gF.f.trans sF
    | look => exact gF.h
    | own => exact gF.h
  obtain ⟨stop, go⟩ := ok i F' H' gF.f sF hG
  rcases Nat.lt_or_ge i ds.length with hlt | hge
  · have hd : ds[i]? = some ds[i] := List.getElem?_eq_getElem hlt
    obtain ⟨go1, yl⟩ := go _ hd
    rw [List.drop_eq_getElem_cons hlt] at run
    refine .inr ⟨go1, fun H2 => ∃ F2 acc2 accD2, H2 D = some (.lst acc2) ∧ Grow F1 H1 F2 H2 ∧ F2 D = none ∧ Sub F2 H2 ∧ RpA K F2 accD2 acc2 ∧ acc2.length ≤ i + 1 ∧
      lcRun (fun d k => qg d (wipeR ρ vs) fun ρ2 => qt ρ2 fun b => if b = true then qe ρ2 fun y => k (some y) else k none) (ds.drop (i + 1)) accD2 (fun out => P (.list out)),
      fun H2 ⟨F2, acc2, accD2, a1, a2, a3, a4, a5, a6, a7⟩ => ⟨ds.length - (i + 1), by omega, F2, acc2, accD2, rfl, hlt, a1, a2, a3, a4, a5, a6, a7⟩, fun x H3 hy => ?_⟩
    obtain ⟨F3, g3, s3, rx⟩ := yl x H3 hy
    have keepD : ∀ {Fa Ha Fb Hb : Hp}, Grow Fa Ha Fb Hb → Fa D = none → Ha D = some (.lst acc) → Fb D = none ∧ Hb D = some (.lst acc) := fun {Fa Ha Fb Hb} gg f h => by
      refine ⟨?_, gg.h _ _ h⟩
      cases z : Fb D with
      | none => rfl
      | some u =>
        rcases gg.n D (by rw [z]; simp) with y | y
        · exact absurd f y
        · rw [h] at y; cases y
    obtain ⟨f3, h3⟩ := keepD g3 fD hD
    obtain ⟨B, SB⟩ := (S1.grow gF sF).grow g3 s3
    refine hg H0 B F3 H3 (wipeR ρ vs) (L2.wipe σ vs) _ x _ _ (SB.wipe vs) rx run fun ρ2 σ2 S2 w2 q2 => ?_
    refine ⟨(w2 vs hts).trans wipe_wipe, ?_⟩
    refine ht H0 F3 H3 ρ2 σ2 _ _ S2.ex q2 fun b F4 H4 g4 s4 q4 => ?_
    obtain ⟨f4, h4⟩ := keepD g4 f3 h3
    have gall := (gF.trans g3).trans g4
    cases b with
    | false =>
      simp only [Bool.false_eq_true, if_false] at q4 ⊢
      exact ⟨F4, acc, accD, h4, gall, f4, s4, ra.mono (g3.f.trans g4.f), Nat.le_succ_of_le hacc, by simpa using q4⟩
    | true =>
      simp only [if_true] at q4 ⊢
      refine he H0 F4 H4 ρ2 σ2 _ _ (S2.ex.grow g4 s4) q4 fun y d F5 H5 g5 s5 r5 q5 => ?_
      obtain ⟨f5, h5⟩ := keepD g5 f4 h4
      have g15 := gall.trans g5
      refine ⟨acc, h5, by omega, F5, acc ++ [y], accD ++ [d], upd_same, ⟨g15.f, g15.h.updR nD, fun a ha => g15.n a ha⟩, f5, s5.updR f5, ?_, by simp; omega, by simpa using q5⟩
      exact (ra.mono ((g3.f.trans g4.f).trans g5.f)).snoc r5
  · have e : i = ds.length := by omega
    refine .inl ⟨stop e, ?_⟩
    rw [e, List.drop_length] at run
    have gg := g1.trans gF
    exact k (.ref D) (.list accD) F' H' gg sF (.inr ⟨D, rfl, g1.h.none nD, fD, (show OwnAt K F' H' D (.list accD) from ⟨acc, hD, ra⟩)⟩) run
section
variable {X : Cx} {md : Md} {elt tg iter : Expr} {ifs : List Expr} {scope : Scope} {own : List (Str × Nat)} {pos spos : Pos} {wi : TI} {g : TG} {tt : TT} {te : TE} {qi : QI} {qg : QG} {qt : QT} {qe : QE} {ts : List Nat}
theorem ve_lc (hc : X.calm = true) (hN : X.N.Nodup) (hi : VI md X tg iter wi qi) (ok : BlkOk X.N X.env.scope scope own)
    (hg : ∀ (s : Shared) (H : Hp) (C : Addr) (cl : List (Str × Addr)) (fp : List Addr), VG (X.blk s H scope (compEnvC scope cl C X.env) fp) tg ts g qg)
    (ht : ∀ (s : Shared) (H : Hp) (C : Addr) (cl : List (Str × Addr)) (fp : List Addr), VTs (X.blk s H scope (compEnvC scope cl C X.env) fp) ifs tt qt)
    (he : ∀ (s : Shared) (H : Hp) (C : Addr) (cl : List (Str × Addr)) (fp : List Addr), VE .val (X.blk s H scope (compEnvC scope cl C X.env) fp) elt te qe) (hts : ∀ i ∈ ts, i ∈ own.map (·.2) := by decide) (hs : ∀ x, foldedSetIterable iter X.env x = pure x := by intro _; rfl) :
    VE .own X (.ListComp elt [⟨tg, iter, ifs, 0⟩] scope pos) (tLc wi g tt te (own.map (·.2))) (qLc qi qg qt qe (own.map (·.2))) :=
  ⟨pe_lc hc hN hi.pi ok (fun s H C cl fp => (hg s H C cl fp).pg) (fun s H C cl fp => (ht s H C cl fp).pts) (fun s H C cl fp => (he s H C cl fp).pe) hs, sndLc hi.sd (hg X.s_0 X.H_0 0 [] []).sd (ht X.s_0 X.H_0 0 [] []).sd (he X.s_0 X.H_0 0 [] []).sd hts⟩
end
end VL
namespace VL
open PySem PySem.Spec PyProof.Rows L2

/-! ### statements -/
structure VEnds where
  nx : Env → Prop
  rt : D → Prop
  bk : Env → Prop := fun _ => False
  ct : Env → Prop := fun _ => False
abbrev QS := VEnds → Env → Prop
def rMd : Bool → Md
  | true => .own
  | false => .val
/-- what is behind a statement that began at F -/
structure Post (K : PySem.W.Frag) (fr : Bool) (F0 H0 B F : Hp) (Dv : VEnds) (Dh : Ends) : Prop where
  nx : ∀ F' H' ρ' σ', SlotsB K H0 B F' H' ρ' σ' → Grow F0 H0 F' H' → Sub F F' → Dv.nx ρ' → Dh.nx σ' H'
  bk : ∀ F' H' ρ' σ', SlotsB K H0 B F' H' ρ' σ' → Grow F0 H0 F' H' → Sub F F' → Dv.bk ρ' → Dh.bk σ' H'
  ct : ∀ F' H' ρ' σ', SlotsB K H0 B F' H' ρ' σ' → Grow F0 H0 F' H' → Sub F F' → Dv.ct ρ' → Dh.ct σ' H'
  rt : ∀ d v F' H', Sub F' H' → Grow F0 H0 F' H' → Res K H0 F' H' d v (rMd fr) → Dv.rt d → Dh.rt v H'
theorem Post.weak {K : PySem.W.Frag} {fr : Bool} {F0 H0 B F F1 : Hp} {Dv : VEnds} {Dh : Ends} (p : Post K fr F0 H0 B F Dv Dh) (s : Sub F F1) : Post K fr F0 H0 B F1 Dv Dh :=
  ⟨fun F' H' ρ' σ' S g s' => p.nx F' H' ρ' σ' S g (s.trans s'), fun F' H' ρ' σ' S g s' => p.bk F' H' ρ' σ' S g (s.trans s'), fun F' H' ρ' σ' S g s' => p.ct F' H' ρ' σ' S g (s.trans s'), p.rt⟩
def SndS (K : PySem.W.Frag) (fr : Bool) (t : TS) (q : QS) : Prop :=
  ∀ (F0 H0 B F H : Hp) (ρ : Env) (σ : St) (Dv : VEnds) (Dh : Ends), SlotsB K H0 B F H ρ σ → Grow F0 H0 F H → q Dv ρ → Post K fr F0 H0 B F Dv Dh → t Dh σ H
structure VS (fr : Bool) (X : Cx) (st : Stmt) (t : TS) (q : QS) : Prop where
  ps : PS X st t
  sd : SndS X.K fr t q
structure VSs (fr : Bool) (X : Cx) (st : List Stmt) (t : TS) (q : QS) : Prop where
  ps : PSs X st t
  sd : SndS X.K fr t q
section
variable {X : Cx} {fr : Bool} {md : Md} {st : Stmt} {rest a b : List Stmt} {t u : TS} {qs qr : QS} {e : Expr} {te : TE} {q : QE} {pos : Pos}
def qNext : QS := fun Dv ρ => Dv.nx ρ
def qSeq (q r : QS) : QS := fun Dv ρ => q { Dv with nx := r Dv } ρ
theorem sndNext {K : PySem.W.Frag} : SndS K fr tNext qNext := fun F0 H0 B F H ρ σ Dv Dh S g q p => p.nx F H ρ σ S g (Sub.refl _) q
theorem vss_nil : VSs fr X [] tNext qNext := ⟨pss_nil, sndNext⟩
theorem sndSeq {K : PySem.W.Frag} (h1 : SndS K fr t qs) (h2 : SndS K fr u qr) : SndS K fr (tSeq t u) (qSeq qs qr) := by
  intro F0 H0 B F H ρ σ Dv Dh S g q p
  refine h1 F0 H0 B F H ρ σ _ _ S g q ⟨fun F' H' ρ' σ' S' g' s' q' => ?_, p.bk, p.ct, p.rt⟩
  exact h2 F0 H0 B F' H' ρ' σ' Dv Dh S' g' q' (p.weak s')
theorem vss_cons (h1 : VS fr X st t qs) (h2 : VSs fr X rest u qr) : VSs fr X (st :: rest) (tSeq t u) (qSeq qs qr) := ⟨pss_cons h1.ps h2.ps, sndSeq h1.sd h2.sd⟩
theorem vss_one (h1 : VS fr X st t qs) : VSs fr X [st] t qs := ⟨pss_one h1.ps, h1.sd⟩
theorem vs_pass : VS fr X (.Pass pos) tNext qNext := ⟨ps_pass, sndNext⟩
def qBreak : QS := fun Dv ρ => Dv.bk ρ
def qCont : QS := fun Dv ρ => Dv.ct ρ
theorem vs_break : VS fr X (.Break pos) tBreak qBreak := ⟨ps_break, fun F0 H0 B F H ρ σ Dv Dh S g q p => p.bk F H ρ σ S g (Sub.refl _) q⟩
theorem vs_continue : VS fr X (.Continue pos) tCont qCont := ⟨ps_continue, fun F0 H0 B F H ρ σ Dv Dh S g q p => p.ct F H ρ σ S g (Sub.refl _) q⟩
/-- an expression as a statement -/
def qDrop (q : QE) : QS := fun Dv ρ => q ρ fun _ => Dv.nx ρ
theorem vs_expr (he : VE md X e te q) (hs : swapsWith e none pos.line X.env = pure false := by rfl) : VS fr X (.Expr e pos) (tDrop te) (qDrop q) :=
  ⟨ps_expr he.pe hs, fun F0 H0 B F H ρ σ Dv Dh S g hq p => he.sd H0 F H ρ σ _ _ S.ex hq fun v d F1 H1 g1 s1 r1 q1 => p.nx F1 H1 ρ σ (S.grow g1 s1) (g.trans g1) g1.f q1⟩
/-- name = e -/
def qSet (i : Nat) (q : QE) : QS := fun Dv ρ => q ρ fun d => Dv.nx (ρ.set i (.val d))
theorem sndSet {K : PySem.W.Frag} {i : Nat} (he : Snd K .val te q) : SndS K fr (tAsg te (gName i)) (qSet i q) := fun F0 H0 B F H ρ σ Dv Dh S g hq p =>
  he H0 F H ρ σ _ _ S.ex hq fun v d F1 H1 g1 s1 r1 q1 => p.nx F1 H1 _ _ ((S.grow g1 s1).set r1) (g.trans g1) g1.f q1
theorem vs_set (i : Nat) {x : Str} {pos' : Pos} (hN : X.N.Nodup) (hi : X.N[i]? = some x) (hx : Loc X.env.scope x) (he : VE .val X e te q) (hs : swapsWith e (some (.Name x pos')) pos.line X.env = pure false := by rfl) (hf : X.fn x = true ∨ X.env.scope.names.lookup x = some .local := by first | exact .inl rfl | exact .inr rfl | assumption) :
    VS fr X (.Assign [.Name x pos'] e pos) (tAsg te (gName i)) (qSet i q) := ⟨ps_set hN hi hx he.pe hs hf, sndSet he.sd⟩
/-- name = a new thing of one's own -/
def ownSl (d : D) : Sl := if isSc d = true then .val d else .own d
def qSetO (i : Nat) (q : QE) : QS := fun Dv ρ => q ρ fun d => Dv.nx (ρ.set i (ownSl d))
theorem SlotsB.setNew {K : PySem.W.Frag} {H0 B F0 F H F1 H1 : Hp} {ρ : Env} {σ : St} {i : Nat} {d : D} {v : V} (S : SlotsB K H0 B F H ρ σ) (g : Grow F0 H0 F H) (g1 : Grow F H F1 H1) (s1 : Sub F1 H1) (r : Res K H F1 H1 d v .own) : SlotsB K H0 B F1 H1 (ρ.set i (ownSl d)) (σ.set i (some v)) := by
  have S1 := S.grow g1 s1
  have key : ∀ a, H a = none → ∀ (j : Nat) (e : D), j ≠ i → ρ[j]? = some (.own e) → σ[j]? ≠ some (some (.ref a)) := fun a ha j e _ h1 h2 => by
    obtain ⟨b, e1, _, _, o⟩ := S.ok j _ _ h1 h2
    cases e1
    obtain ⟨u, hu⟩ := o.there
    rw [ha] at hu; cases hu
  rcases r with ⟨sc, r⟩ | ⟨a, ev, h0, f, o⟩
  · unfold ownSl
    rw [if_pos sc]
    exact S1.set r
  · subst ev
    have ns : ¬ isSc d = true := fun z => by
      cases d with
      | list => cases z
      | dict => cases z
      | tuple => cases z
      | none => exact o.elim
      | bool => exact o.elim
      | int => exact o.elim
      | str => exact o.elim
    unfold ownSl
    rw [if_neg ns]
    exact S1.setOwn f (g.h.none h0) o (key a h0)
theorem sndSetO {K : PySem.W.Frag} {i : Nat} (he : Snd K .own te q) : SndS K fr (tAsg te (gName i)) (qSetO i q) := fun F0 H0 B F H ρ σ Dv Dh S g hq p =>
  he H0 F H ρ σ _ _ S.ex hq fun v d F1 H1 g1 s1 r1 q1 => p.nx F1 H1 _ _ (S.setNew g g1 s1 r1) (g.trans g1) g1.f q1
theorem vs_setO (i : Nat) {x : Str} {pos' : Pos} (hN : X.N.Nodup) (hi : X.N[i]? = some x) (hx : Loc X.env.scope x) (he : VE .own X e te q) (hs : swapsWith e (some (.Name x pos')) pos.line X.env = pure false := by rfl) (hf : X.fn x = true ∨ X.env.scope.names.lookup x = some .local := by first | exact .inl rfl | exact .inr rfl | assumption) :
    VS fr X (.Assign [.Name x pos'] e pos) (tAsg te (gName i)) (qSetO i q) := ⟨ps_set hN hi hx he.pe hs hf, sndSetO he.sd⟩
section
variable {elt tg iter : Expr} {ifs : List Expr} {scope : Scope} {own : List (Str × Nat)} {spos : Pos} {wi : TI} {g : TG} {tt : TT} {qi : QI} {qg : QG} {qt : QT} {ts : List Nat}
theorem Res.own_val {K : PySem.W.Frag} (h : Snd K .own te q) : Snd K .val te q := fun H0 F H ρ σ P Q S hq k => h H0 F H ρ σ P Q S hq fun v d F' H' g s r p => by
  obtain ⟨F2, g2, s2, _, r2⟩ := r.frz g s
  exact k v d F2 H' g2 s2 r2 p
theorem ps_lc (i : Nat) {y : Str} {py : Pos} (hc : X.calm = true) (hN : X.N.Nodup) (hy : X.N[i]? = some y) (hyl : X.env.scope.names.lookup y = some .local)
    (hsw : swapsWith (.ListComp elt [⟨tg, iter, ifs, 0⟩] scope pos) (some (.Name y py)) spos.line X.env = pure true) (hi : VI md X tg iter wi qi) (ok : BlkOk X.N X.env.scope scope own)
    (hg : ∀ (s : Shared) (H : Hp) (C : Addr) (cl : List (Str × Addr)) (fp : List Addr), VG (X.blk s H scope (compEnvC scope cl C X.env) fp) tg ts g qg)
    (ht : ∀ (s : Shared) (H : Hp) (C : Addr) (cl : List (Str × Addr)) (fp : List Addr), VTs (X.blk s H scope (compEnvC scope cl C X.env) fp) ifs tt qt)
    (he : ∀ (s : Shared) (H : Hp) (C : Addr) (cl : List (Str × Addr)) (fp : List Addr), VE .val (X.blk s H scope (compEnvC scope cl C X.env) fp) elt te q) (hts : ∀ i ∈ ts, i ∈ own.map (·.2) := by decide) (hs : ∀ x, foldedSetIterable iter X.env x = pure x := by intro _; rfl) :
    PS X (.Assign [.Name y py] (.ListComp elt [⟨tg, iter, ifs, 0⟩] scope pos) spos) (tAsg (tLc wi g tt te (own.map (·.2))) (gName i)) ∧ Snd X.K .own (tLc wi g tt te (own.map (·.2))) (qLc qi qg qt q (own.map (·.2))) :=
  ⟨ps_setLc hc hN hy hyl hsw hi.pi ok (fun s H C cl fp => (hg s H C cl fp).pg) (fun s H C cl fp => (ht s H C cl fp).pts) (fun s H C cl fp => (he s H C cl fp).pe) hs, sndLc hi.sd (hg X.s_0 X.H_0 0 [] []).sd (ht X.s_0 X.H_0 0 [] []).sd (he X.s_0 X.H_0 0 [] []).sd hts⟩
end
theorem vs_setLc {i : Nat} (h : PS X st (tAsg te (gName i)) ∧ Snd X.K .own te q) : VS fr X st (tAsg te (gName i)) (qSet i q) := ⟨h.1, sndSet (Res.own_val h.2)⟩
theorem vs_setLcO {i : Nat} (h : PS X st (tAsg te (gName i)) ∧ Snd X.K .own te q) : VS fr X st (tAsg te (gName i)) (qSetO i q) := ⟨h.1, sndSetO h.2⟩
/-- a target that is no name -/
def qAsg (q : QE) (qg : QG) : QS := fun Dv ρ => q ρ fun d => qg d ρ Dv.nx
theorem vs_asg {tg : Expr} {g : TG} {qg : QG} {ts : List Nat} (he : VE .val X e te q) (hg : VG X tg ts g qg) (hs : swapsWithSole [tg] e pos.line X.env = pure false := by rfl) (hw : swappedStores [tg] e X.env = pure none := by rfl)
    (h1 : (assignEach [tg] X.env).map (·.2) = [assign tg X.env] := by rfl) : VS fr X (.Assign [tg] e pos) (tAsg te g) (qAsg q qg) :=
  ⟨ps_asg he.pe hg.pg hs hw h1, fun F0 H0 B F H ρ σ Dv Dh S g hq p => he.sd H0 F H ρ σ _ _ S.ex hq fun v d F1 H1 g1 s1 r1 q1 =>
    hg.sd H0 B F1 H1 ρ σ d v _ _ (S.grow g1 s1) r1 q1 fun ρ2 σ2 S2 _ q2 => p.nx F1 H1 ρ2 σ2 S2 (g.trans g1) g1.f q2⟩
/-- a, b = x, y -/
def qPar (i j : Nat) (qA : QA) : QS := fun Dv ρ => qA ρ fun ds => ∃ d e, ds = [d, e] ∧ Dv.nx ((ρ.set i (.val d)).set j (.val e))
theorem vs_par {i j : Nat} {x y : Str} {e1 e2 : Expr} {tA : TA} {qA : QA} {px py pt : Pos} {kt k2 pt2} (hc : X.calm = true) (hN : X.N.Nodup) (hi : X.N[i]? = some x) (hj : X.N[j]? = some y) (hij : i ≠ j)
    (hx : X.env.scope.names.lookup x = some .local) (hy : X.env.scope.names.lookup y = some .local) (ha : VA .val X [e1, e2] tA qA)
    (hw : swappedStores [.Tuple [.Name x px, .Name y py] kt pt] (.Tuple [e1, e2] k2 pt2) X.env = pure (some [x, y]))
    (hs : swapsWithSole [.Tuple [.Name x px, .Name y py] kt pt] (.Tuple [e1, e2] k2 pt2) pos.line X.env = pure false := by rfl) :
    VS fr X (.Assign [.Tuple [.Name x px, .Name y py] kt pt] (.Tuple [e1, e2] k2 pt2) pos) (tPar i j tA) (qPar i j qA) := by
  refine ⟨ps_par hc hN hi hj hij hx hy ha.pa hw hs, fun F0 H0 B F H ρ σ Dv Dh S g hq p => ?_⟩
  refine ha.sd H0 F H ρ σ _ _ S.ex hq fun vs ds F1 H1 g1 s1 ln r1 ⟨d, e, ed, q1⟩ => ?_
  subst ed
  obtain ⟨v, w, ev, r, r2⟩ := r1.two
  exact ⟨v, w, ev, p.nx F1 H1 _ _ (((S.grow g1 s1).set r).set r2) (g.trans g1) g1.f q1⟩
/-- if -/
def qIfS (qc : QT) (qa qb : QS) : QS := fun Dv ρ => qc ρ fun b => if b = true then qa Dv ρ else qb Dv ρ
theorem vs_if {c : Expr} {tc : TT} {qc : QT} (hc : VT X c tc qc) (ha : VSs fr X a t qs) (hb : VSs fr X b u qr) : VS fr X (.If c a b pos) (tIfS tc t u) (qIfS qc qs qr) := by
  refine ⟨ps_if hc.pt ha.ps hb.ps, fun F0 H0 B F H ρ σ Dv Dh S g hq p => ?_⟩
  refine hc.sd H0 F H ρ σ _ _ S.ex hq fun x F1 H1 g1 s1 q1 => ?_
  cases x with
  | true => exact ha.sd F0 H0 B F1 H1 ρ σ Dv Dh (S.grow g1 s1) (g.trans g1) q1 (p.weak g1.f)
  | false => exact hb.sd F0 H0 B F1 H1 ρ σ Dv Dh (S.grow g1 s1) (g.trans g1) q1 (p.weak g1.f)
/-- return -/
def qRet (q : QE) : QS := fun Dv ρ => q ρ Dv.rt
def qRetN : QS := fun Dv _ => Dv.rt .none
theorem vs_ret (he : VE .val X e te q) : VS false X (.Return (some e) pos) (tRet te) (qRet q) :=
  ⟨ps_ret he.pe, fun F0 H0 B F H ρ σ Dv Dh S g hq p => he.sd H0 F H ρ σ _ _ S.ex hq fun v d F1 H1 g1 s1 r1 q1 => p.rt d v F1 H1 s1 (g.trans g1) r1 q1⟩
theorem vs_retO (he : VE .own X e te q) : VS true X (.Return (some e) pos) (tRet te) (qRet q) :=
  ⟨ps_ret he.pe, fun F0 H0 B F H ρ σ Dv Dh S g hq p => he.sd H0 F H ρ σ _ _ S.ex hq fun v d F1 H1 g1 s1 r1 q1 => p.rt d v F1 H1 s1 (g.trans g1) (by
    rcases r1 with r1 | ⟨a, ev, h0, f, o⟩
    · exact .inl r1
    · exact .inr ⟨a, ev, g.h.none h0, f, o⟩) q1⟩
/-- return name, the name one's own -/
def qRetV (i : Nat) : QS := fun Dv ρ => ∃ d, ρ[i]? = some (.own d) ∧ Dv.rt d
theorem slot_own {K : PySem.W.Frag} {H0 B F H : Hp} {ρ : Env} {σ : St} {i : Nat} {d : D} (S : SlotsB K H0 B F H ρ σ) (h : ρ[i]? = some (.own d)) : ∃ a, σ[i]? = some (some (.ref a)) ∧ F a = none ∧ H0 a = none ∧ OwnAt K F H a d := by
  obtain ⟨x, hx⟩ := slot_at S.len h
  obtain ⟨a, e, f, h0, o⟩ := S.ok i _ x h hx
  subst e
  exact ⟨a, hx, f, h0, o⟩
theorem vs_retV (i : Nat) {x : Str} {pos' : Pos} (hN : X.N[i]? = some x := by rfl) (hv : Vis X.env.scope x := by first | exact Or.inl rfl | exact Or.inr (Or.inl rfl) | exact Or.inr (Or.inr rfl)) (hd : (x == ("__debug__" : Str)) = false := by decide)
    (hcd : (x == ("__classdict__" : Str)) = false := by decide) : VS true X (.Return (some (.Name x pos')) pos) (tRet (tVar i)) (qRetV i) :=
  ⟨ps_ret (pe_var hN hv hd hcd), fun F0 H0 B F H ρ σ Dv Dh S g ⟨d, h, q1⟩ p => by
    obtain ⟨a, hx, f, h0, o⟩ := slot_own S h
    exact ⟨_, hx, p.rt d _ F H S.fh g (.inr ⟨a, rfl, h0, f, o⟩) q1⟩⟩
theorem vs_retN : VS fr X (.Return none pos) tRetN qRetN := ⟨ps_retN, fun F0 H0 B F H ρ σ Dv Dh S g hq p => p.rt .none .non F H S.fh g (by cases fr; exact rfl; exact .inl ⟨rfl, rfl⟩) hq⟩
theorem vs_retNone {j} {pos' : Pos} : VS fr X (.Return (some (.Constant .none j pos')) pos) (tRet (tC .non)) qRetN := ⟨ps_ret pe_non, fun F0 H0 B F H ρ σ Dv Dh S g hq p => p.rt .none .non F H S.fh g (by cases fr; exact rfl; exact .inl ⟨rfl, rfl⟩) hq⟩
/-- never reached -/
def qNever : QS := fun _ _ => False
theorem vs_never : VS fr X st tNever qNever := ⟨ps_never, fun F0 H0 B F H ρ σ Dv Dh S g hq p => hq.elim⟩
theorem vss_never : VSs fr X a tNever qNever := ⟨pss_never, fun F0 H0 B F H ρ σ Dv Dh S g hq p => hq.elim⟩
/-- for -/
def forRun (qg : QG) (qb : QS) : List D → VEnds → Env → Prop
  | [], Dv, ρ => Dv.nx ρ
  | d :: ds, Dv, ρ => qg d ρ fun ρ' => qb { Dv with nx := forRun qg qb ds Dv, ct := forRun qg qb ds Dv, bk := Dv.nx } ρ'
def qFor (qi : QI) (qg : QG) (qb : QS) : QS := fun Dv ρ => qi ρ fun ds => forRun qg qb ds Dv ρ
theorem vs_for {tg iter : Expr} {body : List Stmt} {wi : TI} {g : TG} {tb : TS} {qi : QI} {qg : QG} {qb : QS} {ts : List Nat} (hp : PassesOwn (model X.prog X.w) X.A X.env X.xe) (hc : X.calm = true) (hi : VI .val X tg iter wi qi) (hg : VG X tg ts g qg) (hb : VSs fr X body tb qb)
    (hs : ∀ x, foldedSetIterable iter X.env x = pure x := by intro _; rfl) : VS fr X (.For tg iter body [] pos) (tFor wi g tb) (qFor qi qg qb) := by
  refine ⟨ps_for hp hc hi.pi hg.pg hb.ps hs, fun F0 H0 B F H ρ σ Dv Dh S g hq p => ?_⟩
  refine hi.sd H0 F H ρ σ _ _ S.ex hq fun J ds F1 H1 g1 s1 ok run => ?_
  refine ⟨fun i m σ' H' => ∃ F' ρ', m = ds.length - i ∧ i ≤ ds.length ∧ SlotsB X.K H0 B F' H' ρ' σ' ∧ Grow F0 H0 F' H' ∧ Sub F1 F' ∧ forRun qg qb (ds.drop i) Dv ρ',
    ⟨ds.length, F1, ρ, by simp, Nat.zero_le _, S.grow g1 s1, g.trans g1, Sub.refl _, run⟩, ?_⟩
  rintro i m σ' H' ⟨F', ρ', rfl, hi', S', g', f', run'⟩
  obtain ⟨stop, go⟩ := ok i F' H' f' S'.fh (f'.trans S'.fh)
  rcases Nat.lt_or_ge i ds.length with hlt | hge
  · have hd : ds[i]? = some ds[i] := List.getElem?_eq_getElem hlt
    obtain ⟨go1, yl⟩ := go _ hd
    rw [List.drop_eq_getElem_cons hlt] at run'
    refine .inr ⟨go1, fun σ2 H2 => ∃ F2 ρ2, SlotsB X.K H0 B F2 H2 ρ2 σ2 ∧ Grow F0 H0 F2 H2 ∧ Sub F1 F2 ∧ forRun qg qb (ds.drop (i + 1)) Dv ρ2,
      fun σ2 H2 ⟨F2, ρ2, a1, a2, a3, a4⟩ => ⟨ds.length - (i + 1), by omega, F2, ρ2, rfl, hlt, a1, a2, a3, a4⟩, fun x H3 hy => ?_⟩
    obtain ⟨F3, g3, s3, rx⟩ := yl x H3 hy
    refine hg.sd H0 B F3 H3 ρ' σ' _ x _ _ (S'.grow g3 s3) rx run' fun ρ4 σ4 S4 _ q4 => ?_
    refine hb.sd F0 H0 B F3 H3 ρ4 σ4 _ _ S4 (g'.trans g3) q4 ⟨fun F5 H5 ρ5 σ5 S5 g5 s5 q5 => ?_, fun F5 H5 ρ5 σ5 S5 g5 s5 q5 => ?_, fun F5 H5 ρ5 σ5 S5 g5 s5 q5 => ?_, p.rt⟩
    · exact ⟨F5, ρ5, S5, g5, (f'.trans g3.f).trans s5, q5⟩
    · exact p.nx F5 H5 ρ5 σ5 S5 g5 (((g1.f.trans f').trans g3.f).trans s5) q5
    · exact ⟨F5, ρ5, S5, g5, (f'.trans g3.f).trans s5, q5⟩
  · have e : i = ds.length := by omega
    refine .inl ⟨stop e, ?_⟩
    rw [e, List.drop_length] at run'
    exact p.nx F' H' ρ' σ' S' g' (g1.f.trans f') run'
/-- while -/
def whRun (qc : QT) (qb : QS) (Dv : VEnds) : Nat → Env → Prop
  | 0, _ => False
  | n + 1, ρ => qc ρ fun b => if b = true then qb { Dv with nx := whRun qc qb Dv n, ct := whRun qc qb Dv n, bk := Dv.nx } ρ else Dv.nx ρ
def qWhile (qc : QT) (qb : QS) : QS := fun Dv ρ => ∃ n, whRun qc qb Dv n ρ
theorem vs_while {c : Expr} {body : List Stmt} {tc : TT} {tb : TS} {qc : QT} {qb : QS} (hp : PassesOwn (model X.prog X.w) X.A X.env X.xe) (hc : VT X c tc qc) (hb : VSs fr X body tb qb) : VS fr X (.While c body [] pos) (tWhile tc tb) (qWhile qc qb) := by
  refine ⟨ps_while hp hc.pt hb.ps, fun F0 H0 B F H ρ σ Dv Dh S g ⟨n, run⟩ p => ?_⟩
  refine ⟨fun m σ' H' => ∃ F' ρ', SlotsB X.K H0 B F' H' ρ' σ' ∧ Grow F0 H0 F' H' ∧ Sub F F' ∧ whRun qc qb Dv m ρ', ⟨n, F, ρ, S, g, Sub.refl _, run⟩, ?_⟩
  rintro m σ' H' ⟨F', ρ', S', g', f', run'⟩
  cases m with
  | zero => exact run'.elim
  | succ m =>
    refine hc.sd H0 F' H' ρ' σ' _ _ S'.ex run' fun x F1 H1 g1 s1 q1 => ?_
    cases x with
    | false => exact p.nx F1 H1 ρ' σ' (S'.grow g1 s1) (g'.trans g1) (f'.trans g1.f) q1
    | true =>
      refine ⟨fun σ2 H2 => ∃ F2 ρ2, SlotsB X.K H0 B F2 H2 ρ2 σ2 ∧ Grow F0 H0 F2 H2 ∧ Sub F F2 ∧ whRun qc qb Dv m ρ2, fun σ2 H2 ⟨F2, ρ2, a1, a2, a3, a4⟩ => ⟨m, Nat.lt_succ_self _, F2, ρ2, a1, a2, a3, a4⟩, ?_⟩
      refine hb.sd F0 H0 B F1 H1 ρ' σ' _ _ (S'.grow g1 s1) (g'.trans g1) q1 ⟨fun F5 H5 ρ5 σ5 S5 g5 s5 q5 => ?_, fun F5 H5 ρ5 σ5 S5 g5 s5 q5 => ?_, fun F5 H5 ρ5 σ5 S5 g5 s5 q5 => ?_, p.rt⟩
      · exact ⟨F5, ρ5, S5, g5, (f'.trans g1.f).trans s5, q5⟩
      · exact p.nx F5 H5 ρ5 σ5 S5 g5 ((f'.trans g1.f).trans s5) q5
      · exact ⟨F5, ρ5, S5, g5, (f'.trans g1.f).trans s5, q5⟩

/-! ### what one's own list is done to -/
/-- xs[i] = e -/
def qSetIx (x : Nat) (qi qe : QE) : QS := fun Dv ρ => qe ρ fun d => ∃ ds, ρ[x]? = some (.own (.list ds)) ∧ qi ρ fun di => ∃ k j, di = .int k ∧ ixN ds.length k = some j ∧ Dv.nx (ρ.set x (.own (.list (ds.set j d))))
theorem vs_setIx (x : Nat) {n : Str} {ei : Expr} {ti : TE} {qi : QE} {tp p2 : Pos} (hN : X.N[x]? = some n) (hv : Vis X.env.scope n) (hi : VE .val X ei ti qi) (he : VE .val X e te q) (hd : (n == ("__debug__" : Str)) = false := by decide) (hcd : (n == ("__classdict__" : Str)) = false := by decide)
    (ha : ∀ v, assign (.Subscript (.Name n tp) ei p2) X.env v = (do
      let ov ← holding [v] (eval (.Name n tp) X.env)
      let iv ← holding [v, ov] (eval ei X.env)
      standAt p2
      holding [v, ov, iv] (setItem ov iv v)
      release [v, ov, iv] []) := by intro _; rfl)
    (hs : swapsWithSole [.Subscript (.Name n tp) ei p2] e pos.line X.env = pure false := by rfl) (hw : swappedStores [.Subscript (.Name n tp) ei p2] e X.env = pure none := by rfl)
    (h1 : (assignEach [.Subscript (.Name n tp) ei p2] X.env).map (·.2) = [assign (.Subscript (.Name n tp) ei p2) X.env] := by rfl) :
    VS fr X (.Assign [.Subscript (.Name n tp) ei p2] e pos) (tAsg te (gSub (tVar x) ti rSetL)) (qSetIx x qi q) := by
  refine ⟨ps_asg he.pe (pg_sub (pe_var hN hv hd hcd) hi.pe set_list ha) hs hw h1, fun F0 H0 B F H ρ σ Dv Dh S g hq p => ?_⟩
  refine he.sd H0 F H ρ σ _ _ S.ex hq fun v d F1 H1 g1 s1 r1 ⟨ds, h1, q1⟩ => ?_
  have S1 := S.grow g1 s1
  obtain ⟨a, hx, _⟩ := slot_own S1 h1
  refine ⟨.ref a, hx, hi.sd H0 F1 H1 ρ σ _ _ S1.ex q1 fun v2 di F2 H2 g2 s2 r2 ⟨k, j, e2, hj, q2⟩ => ?_⟩
  subst e2
  have S2 := S1.grow g2 s2
  obtain ⟨a', hx', f, h0, xs, hA, ra⟩ := slot_own S2 h1
  rw [hx] at hx'
  cases hx'
  refine ⟨a, xs, k, j, rfl, r2, hA, by rw [ra.len]; exact hj, ?_⟩
  have gg := (g.trans g1).trans g2
  exact p.nx F2 _ _ _ (S2.mut (o := .lst (xs.set j v)) h1 hx (show OwnAt X.K F2 _ a (.list (ds.set j d)) from ⟨_, upd_same, ra.set j (r1.mono g2.f)⟩)) ⟨gg.f, gg.h.updR h0, gg.n⟩ (g1.f.trans g2.f) q2
/-- a method of one's own list, as a statement: f tells the new items -/
def OpM (X : Cx) (id : String) (f : List D → List D → Option (List D)) (r : V → List V → Hp → VK → Prop) : Prop :=
  ∀ (F H : Hp) (a : Addr) (ds as ds' : List D) (xs vs : List V) (Q : VK), Sub F H → H a = some (.lst xs) → RpA X.K F ds xs → RpA X.K F as vs → f ds as = some ds' →
    (∀ xs' v, RpA X.K F ds' xs' → Q v (upd H a (.lst xs'))) → r (.ref a) vs H Q
def qMeth (x : Nat) (f : List D → List D → Option (List D)) (qA : QA) : QS := fun Dv ρ => ∃ ds, ρ[x]? = some (.own (.list ds)) ∧ qA ρ fun as => ∃ ds', f ds as = some ds' ∧ Dv.nx (ρ.set x (.own (.list ds')))
theorem vs_meth (x : Nat) {n name : Str} {id : String} {es : List Expr} {tA : TA} {qA : QA} {r : V → List V → Hp → VK → Prop} {f : List D → List D → Option (List D)} {tp apos cpos : Pos} (hN : X.N[x]? = some n) (hv : Vis X.env.scope n) (slot : Slot "list" name id) (hty : typeOf (.builtin id) = pure (.type "method_descriptor"))
    (hm : MtR X id r) (ho : OpM X id f r) (ha : VA .val X (e :: es) tA qA) (hd : (n == ("__debug__" : Str)) = false := by decide) (hcd : (n == ("__classdict__" : Str)) = false := by decide)
    (hbase : attributeBase (.Name n tp) name X.env (eval (.Name n tp) X.env) = eval (.Name n tp) X.env := by rfl)
    (hfew : ((backTo cpos (starEach (e :: es) X.env)).all (fun x => !x.1) && (backToKw cpos (keywordEach [] X.env)).all (fun x => x.1.isSome)
      && decide ((e :: es).length + ([] : List Keyword).length + (if ([] : List Keyword).isEmpty then 0 else 1) < 30)) = true := by rfl)
    (hline : (apos.endLine == cpos.line) = true := by rfl) (hs : starEach (e :: es) X.env = (false, eval e X.env) :: starEach es X.env := by rfl) (hplain : (backTo cpos (starEach es X.env)).any (·.1) = false := by rfl)
    (hsw : swapsWith (.Call (.Attribute (.Name n tp) name apos) (e :: es) [] cpos) none pos.line X.env = pure false := by rfl) :
    VS fr X (.Expr (.Call (.Attribute (.Name n tp) name apos) (e :: es) [] cpos) pos) (tDrop (tBM X.K "list" r (tVar x) tA)) (qMeth x f qA) := by
  refine ⟨ps_expr (pe_bm PySem.F.plainAttrs_list slot hty hm (pe_var hN hv hd hcd) ha.pa hbase hfew hline hs hplain) hsw, fun F0 H0 B F H ρ σ Dv Dh S g ⟨ds, h1, hq⟩ p => ?_⟩
  obtain ⟨a, hx, f0, h0, xs0, hA0, ra0⟩ := slot_own S h1
  refine ⟨.ref a, hx, .inl ⟨rfl, xs0, SqL.of hA0⟩, ?_⟩
  refine ha.sd H0 F H ρ σ _ _ S.ex hq fun vs as F1 H1 g1 s1 ln r1 ⟨ds', e1, q1⟩ => ?_
  have S1 := S.grow g1 s1
  obtain ⟨a', hx', f, hh0, xs, hA, ra⟩ := slot_own S1 h1
  rw [hx] at hx'
  cases hx'
  refine ho F1 H1 a ds as ds' xs vs _ s1 hA ra r1.vals e1 fun xs' v r' => ?_
  have gg := g.trans g1
  exact p.nx F1 _ _ _ (S1.mut (o := .lst xs') h1 hx (show OwnAt X.K F1 _ a (.list ds') from ⟨_, upd_same, r'⟩)) ⟨gg.f, gg.h.updR hh0, gg.n⟩ g1.f q1
def fAppend (ds as : List D) : Option (List D) := match as with
  | [d] => if ds.length < sizeLine then some (ds ++ [d]) else none
  | _ => none
theorem opM_append : OpM X "list.append" fAppend rAppend := by
  intro F H a ds as ds' xs vs Q sb hA ra rb e k
  unfold fAppend at e
  split at e
  · rename_i d
    split at e
    · rename_i hl
      cases e
      obtain ⟨x, r, ev, rx, rr⟩ := rb
      cases rr
      exact ⟨a, xs, x, rfl, ev, hA, by rw [ra.len]; exact hl, k _ _ (ra.snoc rx)⟩
    · cases e
  · cases e
/-- remove(d) of data without dicts -/
def fRemove (ds as : List D) : Option (List D) := match as with
  | [d] => if flatD d = true ∧ flatD (.list ds) = true ∧ ds.length ≤ sizeLine then (PySem.SeqAt.dataPlace ds d).map ds.eraseIdx else none
  | _ => none
def rRemD (K : PySem.W.Frag) : V → List V → Hp → VK → Prop := fun x vs H Q => ∃ F a ds as ds' xs, x = .ref a ∧ Sub F H ∧ H a = some (.lst xs) ∧ RpA K F ds xs ∧ RpA K F as vs ∧ fRemove ds as = some ds' ∧ ∀ xs' v, RpA K F ds' xs' → Q v (upd H a (.lst xs'))
theorem opM_remove : OpM X "list.remove" fRemove (rRemD X.K) := fun F H a ds as ds' xs vs Q sb hA ra rb e k => ⟨F, a, ds, as, ds', xs, rfl, sb, hA, ra, rb, e, k⟩
theorem mt_remD (hu : X.A.units + 100 < cLine) : MtR X "list.remove" (rRemD X.K) := by
  intro pins s σ H x vs v us Q I rx rvs ⟨F, a, ds, as, ds', xs, ex, sb, hA, ra, rb, e, k⟩
  subst ex
  unfold fRemove at e
  split at e
  · rename_i d
    split at e
    · rename_i hc
      obtain ⟨p1, d1⟩ := flatD_iff.mp hc.1
      obtain ⟨p2, d2⟩ := flatD_iff.mp hc.2.1
      cases ej : PySem.SeqAt.dataPlace ds d with
      | none => rw [ej] at e; cases e
      | some j =>
        rw [ej] at e
        cases e
        obtain ⟨y, r, ev, ry, rr⟩ := rb
        cases rr
        subst ev
        cases rx
        obtain ⟨u, eu, ru⟩ := vals1 rvs
        subst eu
        obtain ⟨z, its, n, rv, hl, ho⟩ := I.lstM hA
        obtain ⟨as1, hr⟩ := RpA.reads I sb (by simpa [PyData.plain] using p2) ra rv
        obtain ⟨as2, hr2⟩ := Rp.reads I sb p1 ry ru
        have hdp : PyData.depth (.list ds) = PyData.depthAll ds + 1 := by simp [PyData.depth]
        refine PySem.SeqAt.remove_list_data (vs := its.toArray) ⟨_, ho, rfl, n, rfl⟩ (by simpa using hr) hr2 (by simpa [PyData.plain] using p2) p1 (by have := Nat.min_le_right (PyData.depthAll ds) d.depth; omega) ej (by rw [List.size_toArray]; omega) ?_
        refine ⟨.non, _, I.lset (t' := s.toks) (its' := its.eraseIdx j) (ys := xs.eraseIdx j) (f := fun ys => ys.eraseIdxIfInBounds j) hA ho ?_ (rv.eraseIdx j) ?_, rfl, k _ _ (ra.erase j)⟩
        · simp
        · exact Nat.le_trans (List.length_eraseIdx_le _ _) z
    · cases e
  · cases e
/-! ### what one's own is frozen, lent -/
def qFrz (i : Nat) (q : QS) : QS := fun Dv ρ => ∃ d, ρ[i]? = some (.own d) ∧ q Dv (ρ.set i (.val d))
theorem sndFrz {K : PySem.W.Frag} {i : Nat} (h : SndS K fr t qs) : SndS K fr t (qFrz i qs) := by
  intro F0 H0 B F H ρ σ Dv Dh S g ⟨d, h1, hq⟩ p
  obtain ⟨a, hx, f, h0, o⟩ := slot_own S h1
  obtain ⟨u, hu⟩ := o.there
  have sF : Sub F (upd F a u) := Sub.upd f
  have sH : Sub (upd F a u) H := fun b w q => by
    by_cases hb : b = a
    · subst hb; rw [upd_same] at q; cases q; exact hu
    · rw [upd_ne hb] at q; exact S.fh _ _ q
  have gg : Grow F0 H0 (upd F a u) H := ⟨g.f.trans sF, g.h, fun b q => by
    by_cases hb : b = a
    · subst hb; exact .inr h0
    · rw [upd_ne hb] at q; exact g.n b q⟩
  refine h F0 H0 B (upd F a u) H (ρ.set i (.val d)) σ Dv Dh ⟨S.h0, S.bf.trans sF, sH, by simp [S.len], fun j s x q1 q2 => ?_, fun j k d1 e1 a1 q1 q2 q3 q4 => ?_⟩ gg hq (p.weak sF)
  · rcases nth_set q1 with ⟨rfl, rfl, _⟩ | ⟨n1, q1⟩
    · rw [hx] at q2; cases q2
      exact ⟨_, rfl, o.frz sF fun w hw => by rw [hu] at hw; cases hw; exact upd_same⟩
    · have q := S.ok j s x q1 q2
      cases s with
      | no => trivial
      | scr ns => exact q
      | val d => obtain ⟨v, e, r⟩ := q; exact ⟨v, e, r.mono sF⟩
      | old d => exact q
      | own d1 =>
        obtain ⟨b, e, f', h0', o1⟩ := q
        subst e
        have ne : b ≠ a := fun z => by
          subst z
          exact n1 (S.sep i j d d1 b h1 q1 hx q2)
        exact ⟨b, rfl, by rw [upd_ne ne]; exact f', h0', o1.mono sF fun _ q => q⟩
      | bor d1 =>
        obtain ⟨b, e, f', h0', fe, o1⟩ := q
        have ne : b ≠ a := fun z => by
          subst z
          obtain ⟨w, hw⟩ := o1.there
          rw [f, hw] at fe
          cases fe
        exact ⟨b, e, f', h0', by rw [upd_ne ne]; exact fe, o1⟩
  · rcases nth_set q1 with ⟨_, e2, _⟩ | ⟨n1, q1⟩
    · cases e2
    · rcases nth_set q2 with ⟨_, e3, _⟩ | ⟨n2, q2⟩
      · cases e3
      · exact S.sep j k d1 e1 a1 q1 q2 q3 q4
/-- from here on name i is frozen -/
theorem vss_frz (i : Nat) (h : VSs fr X a t qs) : VSs fr X a t (qFrz i qs) := ⟨h.ps, sndFrz h.sd⟩
theorem vs_frz (i : Nat) (h : VS fr X st t qs) : VS fr X st t (qFrz i qs) := ⟨h.ps, sndFrz h.sd⟩
/-- name i is lent for a statement: it is frozen within, and one's own again behind; what came meanwhile is forgotten, unless it is no object -/
def lend (i : Nat) (d : D) (ρ : Env) : Env := (ρ.map fun s => match s with | .val d => .old d | s => s).set i (.bor d)
def unlend (ρ : Env) : Env := ρ.map fun s => match s with | .old d => .val d | .bor d => .own d | .val d => if isSc d = true then .val d else .no | .scr ns => .scr ns | _ => .no
/-- no other thing of one's own, nothing lent -/
def lendOk (i : Nat) (ρ : Env) : Bool := (List.range ρ.length).all fun j => j == i || (match ρ[j]? with | some (.own _) => false | some (.bor _) => false | some (.old _) => false | _ => true)
def borOk (i : Nat) (ρ : Env) : Bool := (List.range ρ.length).all fun j => j == i || (match ρ[j]? with | some (.bor _) => false | _ => true)
def qLend (i : Nat) (q : QS) : QS := fun Dv ρ => ∃ d, ρ[i]? = some (.own d) ∧ lendOk i ρ = true ∧ q { nx := fun ρ' => borOk i ρ' = true ∧ Dv.nx (unlend ρ'), rt := Dv.rt } (lend i d ρ)
theorem sndLend {K : PySem.W.Frag} {i : Nat} (h : SndS K fr t qs) : SndS K fr t (qLend i qs) := by
  intro F0 H0 B F H ρ σ Dv Dh S g ⟨d, h1, hok, hq⟩ p
  obtain ⟨a, hx, f, h0, o⟩ := slot_own S h1
  obtain ⟨u, hu⟩ := o.there
  have others : ∀ (j : Nat) s, j ≠ i → ρ[j]? = some s → (∀ e, s ≠ .own e) ∧ (∀ e, s ≠ .bor e) ∧ ∀ e, s ≠ .old e := fun j s hj hs => by
    unfold lendOk at hok
    rw [List.all_eq_true] at hok
    have hl : j < ρ.length := (List.getElem?_eq_some_iff.mp hs).1
    have := hok j (List.mem_range.mpr hl)
    rw [hs] at this
    have nj : (j == i) = false := beq_eq_false_iff_ne.mpr hj
    rw [nj, Bool.false_or] at this
    refine ⟨fun e z => ?_, fun e z => ?_, fun e z => ?_⟩ <;> (subst z; cases this)
  have sF : Sub F (upd F a u) := Sub.upd f
  have sH : Sub (upd F a u) H := fun b w q => by
    by_cases hb : b = a
    · subst hb; rw [upd_same] at q; cases q; exact hu
    · rw [upd_ne hb] at q; exact S.fh _ _ q
  have gg : Grow F0 H0 (upd F a u) H := ⟨g.f.trans sF, g.h, fun b q => by
    by_cases hb : b = a
    · subst hb; exact .inr h0
    · rw [upd_ne hb] at q; exact g.n b q⟩
  have hgetL : ∀ (j : Nat) s, (lend i d ρ)[j]? = some s → (j = i ∧ s = .bor d) ∨ (j ≠ i ∧ ∃ s0, ρ[j]? = some s0 ∧ s = (match s0 with | .val d => Sl.old d | s => s)) := fun j s hs => by
    unfold lend at hs
    rcases nth_set hs with ⟨e, e2, _⟩ | ⟨n1, hs⟩
    · exact .inl ⟨e.symm, e2⟩
    · rw [List.getElem?_map] at hs
      cases z : ρ[j]? with
      | none => rw [z] at hs; cases hs
      | some s0 => rw [z] at hs; cases hs; exact .inr ⟨Ne.symm n1, s0, rfl, rfl⟩
  refine h F0 H0 F (upd F a u) H (lend i d ρ) σ _ Dh ⟨S.h0, sF, sH, by unfold lend; simp [S.len], fun j s x q1 q2 => ?_, fun j k d1 e1 a1 q1 q2 q3 q4 => ?_⟩ gg hq ⟨fun F' H' ρ' σ' S' g' s' q' => ?_, fun _ _ _ _ _ _ _ z => z.elim, fun _ _ _ _ _ _ _ z => z.elim, fun d2 v F' H' s' g' r' q' => p.rt d2 v F' H' s' g' r' q'⟩
  · rcases hgetL j s q1 with ⟨rfl, rfl⟩ | ⟨nj, s0, e0, rfl⟩
    · rw [hx] at q2; cases q2
      exact ⟨a, rfl, f, h0, by rw [upd_same, hu], o⟩
    · have q := S.ok j s0 x e0 q2
      obtain ⟨n1, n2, n3⟩ := others j s0 nj e0
      cases s0 with
      | no => trivial
      | scr ns => exact q
      | val d => exact q
      | old d => exact absurd rfl (n3 d)
      | own d => exact absurd rfl (n1 d)
      | bor d => exact absurd rfl (n2 d)
  · rcases hgetL j _ q1 with ⟨_, z⟩ | ⟨nj, s0, e0, z⟩
    · cases z
    · obtain ⟨n1, n2, n3⟩ := others j s0 nj e0
      cases s0 with
      | own d => exact absurd rfl (n1 d)
      | _ => cases z
  · -- the way back
    have hgetU : ∀ (j : Nat) s, (unlend ρ')[j]? = some s → ∃ s0, ρ'[j]? = some s0 ∧ s = (match s0 with | .old d => Sl.val d | .bor d => .own d | .val d => if isSc d = true then .val d else .no | .scr ns => .scr ns | _ => .no) := fun j s hs => by
      unfold unlend at hs
      rw [List.getElem?_map] at hs
      cases z : ρ'[j]? with
      | none => rw [z] at hs; cases hs
      | some s0 => rw [z] at hs; cases hs; exact ⟨s0, rfl, rfl⟩
    obtain ⟨bk, q'⟩ := q'
    have one : ∀ (j : Nat) e, ρ'[j]? = some (.bor e) → j = i := fun j e hs => by
      unfold borOk at bk
      rw [List.all_eq_true] at bk
      have hl : j < ρ'.length := (List.getElem?_eq_some_iff.mp hs).1
      have := bk j (List.mem_range.mpr hl)
      rw [hs, Bool.or_false] at this
      exact beq_iff_eq.mp this
    refine p.nx F H' (unlend ρ') σ' ⟨S'.h0, S.bf, S'.bf.trans S'.fh, by unfold unlend; simp [S'.len], fun j s x q1 q2 => ?_, fun j k d1 e1 a1 q1 q2 q3 q4 => ?_⟩ ⟨g.f, g'.h, g.n⟩ (Sub.refl _) q'
    · obtain ⟨s0, e0, rfl⟩ := hgetU j s q1
      have q := S'.ok j s0 x e0 q2
      cases s0 with
      | no => trivial
      | scr ns => exact q
      | val d =>
        dsimp only
        by_cases sc : isSc d = true
        · rw [if_pos sc]
          obtain ⟨v, e, r⟩ := q
          exact ⟨v, e, isSc.any sc r⟩
        · rw [if_neg sc]; trivial
      | old d => exact q
      | own d => trivial
      | bor d =>
        obtain ⟨b, e, f', h0', fe, o1⟩ := q
        exact ⟨b, e, f', h0', o1⟩
    · have bor : ∀ (j : Nat) d, (unlend ρ')[j]? = some (.own d) → j = i := fun j d hs => by
        obtain ⟨s0, e0, z⟩ := hgetU j _ hs
        cases s0 with
        | bor d => exact one j d e0
        | no => cases z
        | scr ns => cases z
        | val d => dsimp only at z; split at z <;> cases z
        | old d => cases z
        | own d => cases z
      rw [bor j d1 q1, bor k e1 q2]
theorem vs_lend (i : Nat) (h : VS fr X st t qs) : VS fr X st t (qLend i qs) := ⟨h.ps, sndLend h.sd⟩
end
end VL
namespace VL
open PySem PySem.Spec PyProof.Rows L2

/-! ### a def's promise over data: S tells which answer which data have -/
abbrev Spec := List D → D → Prop
def SpV (K : PySem.W.Frag) (fr : Bool) (S : Spec) : Sp := fun vs H Q _ => ∃ F ds d, Sub F H ∧ RpA K F ds vs ∧ S ds d ∧ ∀ v F' H', Grow F H F' H' → Sub F' H' → Res K H F' H' d v (rMd fr) → Q v H'
section
variable {X : Cx} {fr : Bool} {CX : CXT} {E : XK} {e : Expr} {es : List Expr} {tA : TA} {qA : QA} {pos p : Pos} {x : Str} {k : Nat} {f : Addr} {fd : FuncData} {ps : List Str} {S : Spec}
def qCall (S : Spec) (qA : QA) : QE := fun ρ P => qA ρ fun ds => ∃ d, S ds d ∧ P d
theorem ve_call (F : FnOk X.prog X.w X.K X.mg X.base CX k f fd ps (SpV X.K fr S)) (hr : Room k X.A) (hg : Gl X x) (hm : X.mg x = some (.ref f)) (hk : PySem.W.keepIn X.K (.ref f) = true) (hb : Binds X.K fd ps []) (hx : Passes CX X E)
    (ha : VA .val X (e :: es) tA qA) (hdb : (x == ("__debug__" : Str)) = false := by decide) (he : starEach (e :: es) X.env = (false, eval e X.env) :: starEach es X.env := by rfl) (hpl : (backTo pos (starEach es X.env)).any (·.1) = false := by rfl) :
    VE (rMd fr) X (.Call (.Name x p) (e :: es) [] pos) (tCall (SpV X.K fr S) [] E tA) (qCall S qA) := by
  refine ⟨pe_call F hr hg hm hk hb .nil hx ha.pa hdb he hpl, fun H0 F H ρ σ P Q S' hq kk => ?_⟩
  refine ha.sd H0 F H ρ σ _ _ S' hq fun vs ds F1 H1 g1 s1 ln r1 ⟨d, hs, pd⟩ => ?_
  refine ⟨F1, ds, d, s1, by rw [List.append_nil]; exact r1.vals, hs, fun v F2 H2 g2 s2 r2 => kk v d F2 H2 (g1.trans g2) s2 ?_ pd⟩
  cases fr with
  | false => exact r2
  | true =>
    rcases r2 with r2 | ⟨a, ev, h0, f, o⟩
    · exact .inl r2
    · exact .inr ⟨a, ev, g1.h.none h0, f, o⟩
/-- arguments that are only looked at: what comes back holds no objects but itself -/
def scD : Bool → D → Bool
  | true, .list ds => ds.all isSc
  | _, d => isSc d
def qCallL (fr : Bool) (S : Spec) (qA : QA) : QE := fun ρ P => qA ρ fun ds => ∃ d, S ds d ∧ scD fr d = true ∧ P d
theorem ResA.full {K : PySem.W.Frag} {F H : Hp} (sb : Sub F H) : ∀ {ds : List D} {vs : List V}, ResA K F H ds vs .look → RpA K H ds vs
  | [], _, h => h
  | _ :: _, _, ⟨x, r, e, h, q⟩ => ⟨x, r, e, by
      rcases h with h | ⟨a, ev, o⟩
      · exact h.mono sb
      · subst ev; exact o.frz sb fun _ q => q, ResA.full sb q⟩
theorem RpA.sc {K : PySem.W.Frag} {F G : Hp} : ∀ {ds : List D} {xs : List V}, ds.all isSc = true → RpA K F ds xs → RpA K G ds xs
  | [], _, _, h => h
  | d :: ds, _, c, ⟨x, r, e, h, q⟩ => by
    rw [List.all_cons, Bool.and_eq_true] at c
    exact ⟨x, r, e, isSc.any c.1 h, RpA.sc c.2 q⟩
theorem ve_callL (F : FnOk X.prog X.w X.K X.mg X.base CX k f fd ps (SpV X.K fr S)) (hr : Room k X.A) (hg : Gl X x) (hm : X.mg x = some (.ref f)) (hk : PySem.W.keepIn X.K (.ref f) = true) (hb : Binds X.K fd ps []) (hx : Passes CX X E)
    (ha : VA .look X (e :: es) tA qA) (hdb : (x == ("__debug__" : Str)) = false := by decide) (he : starEach (e :: es) X.env = (false, eval e X.env) :: starEach es X.env := by rfl) (hpl : (backTo pos (starEach es X.env)).any (·.1) = false := by rfl) :
    VE (rMd fr) X (.Call (.Name x p) (e :: es) [] pos) (tCall (SpV X.K fr S) [] E tA) (qCallL fr S qA) := by
  refine ⟨pe_call F hr hg hm hk hb .nil hx ha.pa hdb he hpl, fun H0 F H ρ σ P Q S' hq kk => ?_⟩
  refine ha.sd H0 F H ρ σ _ _ S' hq fun vs ds F1 H1 g1 s1 ln r1 ⟨d, hs, sc, pd⟩ => ?_
  refine ⟨H1, ds, d, Sub.refl _, by rw [List.append_nil]; exact r1.full s1, hs, fun v F2 H2 g2 s2 r2 => kk v d F1 H2 (g1.trans ⟨Sub.refl _, g2.h, fun _ z => .inl z⟩) (s1.trans g2.h) ?_ pd⟩
  cases fr with
  | false =>
    have sc' : isSc d = true := by cases d <;> exact sc
    exact isSc.any sc' r2
  | true =>
    rcases r2 with ⟨sc', r2⟩ | ⟨a, ev, h0, f, o⟩
    · exact .inl ⟨sc', isSc.any sc' r2⟩
    · refine .inr ⟨a, ev, g1.h.none h0, s1.none h0, ?_⟩
      cases d with
      | list ds =>
        obtain ⟨xs, h, q⟩ := o
        exact ⟨xs, h, RpA.sc sc q⟩
      | dict es => cases sc
      | none => exact o.elim
      | bool => exact o.elim
      | int => exact o.elim
      | str => exact o.elim
      | tuple => exact o.elim
end

/-! ### a def keeps its promise -/
def startV (N : List Str) (ds : List D) : Env := ds.map .val ++ List.replicate (N.length - ds.length) .no
theorem RpA.at_ {K : PySem.W.Frag} {F : Hp} : ∀ {ds : List D} {xs : List V} {i : Nat} {x : V}, RpA K F ds xs → xs[i]? = some x → ∃ d, ds[i]? = some d ∧ Rp K F d x
  | [], _, _, _, h, e => by cases h; simp at e
  | d :: _, _, 0, _, ⟨x, r, e, h, q⟩, e2 => by subst e; simp at e2; subst e2; exact ⟨d, by simp, h⟩
  | _ :: _, _, i + 1, _, ⟨x, r, e, h, q⟩, e2 => by
    subst e
    obtain ⟨d, h1, h2⟩ := RpA.at_ (i := i) q (by simpa using e2)
    exact ⟨d, by simpa using h1, h2⟩
theorem slots_start {K : PySem.W.Frag} {F H : Hp} {N : List Str} {ds : List D} {vs : List V} (sb : Sub F H) (r : RpA K F ds vs) : SlotsB K H F F H (startV N ds) (L2.start N vs) := by
  have hl := r.len
  have noOwn : ∀ (i : Nat) d, (startV N ds)[i]? ≠ some (.own d) := fun i d h => by
    unfold startV at h
    rcases Nat.lt_or_ge i ds.length with q | q
    · rw [List.getElem?_append_left (by simpa using q), List.getElem?_map] at h
      cases z : ds[i]? with
      | none => rw [z] at h; cases h
      | some w => rw [z] at h; cases h
    · rw [List.getElem?_append_right (by simpa using q)] at h
      have := List.mem_of_getElem? h
      have := List.eq_of_mem_replicate this
      cases this
  refine ⟨Sub.refl _, Sub.refl _, sb, by unfold startV L2.start; simp [hl], fun i s x h1 h2 => ?_, fun i j d e a h1 => absurd h1 (noOwn i d)⟩
  unfold startV at h1
  rcases Nat.lt_or_ge i ds.length with q | q
  · rw [List.getElem?_append_left (by simpa using q), List.getElem?_map] at h1
    cases z : ds[i]? with
    | none => rw [z] at h1; cases h1
    | some w =>
      rw [z] at h1
      cases h1
      obtain ⟨v, hv, rv⟩ := r.get z
      unfold L2.start at h2
      rw [List.getElem?_append_left (by simpa [hl] using q), List.getElem?_map, hv] at h2
      cases h2
      exact ⟨v, rfl, rv⟩
  · rw [List.getElem?_append_right (by simpa using q)] at h1
    have := List.mem_of_getElem? h1
    have := List.eq_of_mem_replicate this
    subst this
    trivial
/-- what the reading of a body has to give for the promise -/
def Keeps (q : QS) (N : List Str) (n : Nat) (S : Spec) : Prop := ∀ ds d, S ds d → ds.length = n ∧ q { nx := fun _ => d = .none, rt := fun r => r = d } (startV N ds)
theorem sp_start {K : PySem.W.Frag} {fr : Bool} {S : Spec} {N : List Str} {n : Nat} {q : QS} {t : TS} (hk : Keeps q N n S) (sd : SndS K fr t q) {vs : List V} {H : Hp} {Q : VK} {E : XK} (h : SpV K fr S vs H Q E) : t { nx := fun _ H' => Q .non H', rt := Q } (L2.start N vs) H := by
  obtain ⟨F, ds, d, sb, r, hs, k⟩ := h
  obtain ⟨_, hq⟩ := hk ds d hs
  refine sd F H F F H (startV N ds) (L2.start N vs) _ _ (slots_start sb r) (Grow.refl _ _) hq ⟨fun F' H' ρ' σ' S' g' s' e => ?_, fun _ _ _ _ _ _ _ z => z.elim, fun _ _ _ _ _ _ _ z => z.elim, fun d2 v F' H' s' g' r' e => ?_⟩
  · subst e
    exact k .non F' H' g' S'.fh (resSc rfl rfl)
  · subst e
    exact k v F' H' g' s' r'
section
variable {P : Program} {w : World} {K : PySem.W.Frag} {mg : Str → Option Value} {base : Heap} {x qual : Str} {params : Arguments} {body : List Stmt} {scope : Scope} {dvs : List V} {kws : List (Str × V)} {f : Addr} {fd : FuncData}
theorem fnV {fr : Bool} {S : Spec} {N ps : List Str} {k : Nat} {q : QS} (F : FunD K x qual params body scope dvs kws f fd) (Sc : FnScope N ps scope) (hk : Keeps q N ps.length S)
    (hb : ∀ (cdv : Value) (A : Around) (outer : List PySem.Env) (s : Shared) (H : Hp) (E : XK), Room k (A.deeper (envOfC qual scope s.heap.objs.size f cdv)) → ∃ t, VSs fr (cxOf CX0 P w K mg base N qual scope f cdv A outer s H E).nox body t q) :
    FnOk P w K mg base CX0 (k + 1) f fd ps (SpV K fr S) := by
  refine F.ok Sc (fun vs H Q E ⟨F, ds, d, sb, r, hs, _⟩ => by rw [r.len]; exact (hk ds d hs).1) fun cdv A outer s H vs Q E hr h => ?_
  obtain ⟨t, b⟩ := hb cdv A outer s H E hr
  exact ⟨t, b.ps.nox, sp_start hk b.sd h⟩
end

/-! ### the script: read by its length and its items -/
section
variable {X : Cx} {md : Md} {fr : Bool} {CX : CXT} {E : XK} {e b : Expr} {tb : TE} {qb : QE} {pos p pp : Pos} {x n : Str} {k : Nat} {f : Addr} {fd : FuncData} {ps : List Str}
theorem slot_scr {K : PySem.W.Frag} {H0 F H : Hp} {ρ : Env} {σ : St} {i : Nat} {ns : List Int} (S : Slots K H0 F H ρ σ) (h : ρ[i]? = some (.scr ns)) : ∃ a, σ[i]? = some (some (.ref a)) ∧ SqL K H a (ns.map V.int) := by
  obtain ⟨B, S⟩ := S
  obtain ⟨x, hx⟩ := slot_at S.len h
  obtain ⟨a, e, q⟩ := S.ok i _ x h hx
  subst e
  refine ⟨a, hx, ?_⟩
  rcases q with q | q
  · exact .inl (S.h0.rd q)
  · exact .inr q
def qLenS (i : Nat) : QE := fun ρ P => ∃ ns : List Int, ρ[i]? = some (.scr ns) ∧ P (.int ns.length)
theorem ve_lenS (i : Nat) (hN : X.N[i]? = some n) (hv : Vis X.env.scope n) (hg : Gl X x) (hm : X.mg x = none) (hb : bootBuiltins x = some (.builtin "len")) (hd : (n == ("__debug__" : Str)) = false := by decide) (hcd : (n == ("__classdict__" : Str)) = false := by decide) (hn : x ≠ "__name__" := by decide) (hdb : (x == ("__debug__" : Str)) = false := by decide)
    (he : starEach [.Name n pp] X.env = (false, eval (.Name n pp) X.env) :: starEach [] X.env := by rfl) (hpl : (backTo pos (starEach [] X.env)).any (·.1) = false := by rfl) :
    VE .val X (.Call (.Name x p) [.Name n pp] [] pos) (tCB (fun xs H Q => ∃ x n, xs = [x] ∧ LenV X.K x H n ∧ Q (.int n) H) (tCons (tVar i) tNil)) (qLenS i) :=
  ⟨pe_callB call_len hg hm hb (pa_cons (pe_var hN hv hd hcd) pa_nil he) hn hdb he hpl, fun H0 F H ρ σ P Q S ⟨ns, h, q⟩ kk => by
    obtain ⟨a, hx, hs⟩ := slot_scr S h
    exact ⟨.ref a, hx, .ref a, ns.length, rfl, .inl ⟨_, hs, by simp⟩, kk _ (.int ns.length) F H (Grow.refl _ _) S.fh rfl q⟩⟩
def qIxS (i : Nat) (qb : QE) : QE := fun ρ P => ∃ ns : List Int, ρ[i]? = some (.scr ns) ∧ qb ρ fun d => ∃ j z, d = .int j ∧ atI ns j = some z ∧ P (.int z)
theorem atI_map {α β : Type} {f : α → β} {xs : List α} {i : Int} {v : α} (h : atI xs i = some v) : atI (xs.map f) i = some (f v) := by
  unfold atI at h ⊢
  rw [List.length_map]
  cases e : ixN xs.length i with
  | none => rw [e] at h; cases h
  | some j =>
    rw [e] at h
    simp only [Option.bind_some] at h ⊢
    rw [List.getElem?_map, h]; rfl
theorem ve_ixS (i : Nat) (hN : X.N[i]? = some n) (hv : Vis X.env.scope n) (hb : VE .val X b tb qb) (hs : PlainIx b := by exact fun _ _ => rfl) (hd : (n == ("__debug__" : Str)) = false := by decide) (hcd : (n == ("__classdict__" : Str)) = false := by decide) :
    VE .val X (.Subscript (.Name n pp) b pos) (tOp (rIxL X.K) (tVar i) tb) (qIxS i qb) :=
  ⟨pe_ix ix_list (pe_var hN hv hd hcd) hb.pe hs, fun H0 F H ρ σ P Q S ⟨ns, h, q⟩ kk => by
    obtain ⟨a, hx, hsq⟩ := slot_scr S h
    refine ⟨.ref a, hx, hb.sd H0 F H ρ σ _ _ S q fun v d F1 H1 g1 s1 r1 ⟨j, z, ed, hz, pz⟩ => ?_⟩
    subst ed
    have hs1 : SqL X.K H1 a (ns.map V.int) := by
      rcases hsq with q | q
      · exact .inl (g1.h.rd q)
      · exact .inr q
    exact ⟨a, _, j, .int z, rfl, r1, hs1, atI_map hz, kk _ (.int z) F1 H1 g1 s1 rfl pz⟩⟩
/-- a def of the script alone -/
def SpScr (K : PySem.W.Frag) (fr : Bool) (S : List Int → D → Prop) : Sp := fun vs H Q _ => ∃ F a ns d, Sub F H ∧ vs = [.ref a] ∧ SqL K H a (ns.map V.int) ∧ S ns d ∧ ∀ v F' H', Grow F H F' H' → Sub F' H' → Res K H F' H' d v (rMd fr) → Q v H'
def qCallS (i : Nat) (S : List Int → D → Prop) : QE := fun ρ P => ∃ ns : List Int, ρ[i]? = some (.scr ns) ∧ ∃ d, S ns d ∧ P d
theorem ve_callS (i : Nat) {S : List Int → D → Prop} (F : FnOk X.prog X.w X.K X.mg X.base CX k f fd ps (SpScr X.K fr S)) (hN : X.N[i]? = some n) (hv : Vis X.env.scope n) (hr : Room k X.A) (hg : Gl X x) (hm : X.mg x = some (.ref f)) (hk : PySem.W.keepIn X.K (.ref f) = true) (hb : Binds X.K fd ps []) (hx : Passes CX X E)
    (hd : (n == ("__debug__" : Str)) = false := by decide) (hcd : (n == ("__classdict__" : Str)) = false := by decide) (hdb : (x == ("__debug__" : Str)) = false := by decide)
    (he : starEach [.Name n pp] X.env = (false, eval (.Name n pp) X.env) :: starEach [] X.env := by rfl) (hpl : (backTo pos (starEach [] X.env)).any (·.1) = false := by rfl) :
    VE (rMd fr) X (.Call (.Name x p) [.Name n pp] [] pos) (tCall (SpScr X.K fr S) [] E (tCons (tVar i) tNil)) (qCallS i S) :=
  ⟨pe_call F hr hg hm hk hb .nil hx (pa_cons (pe_var hN hv hd hcd) pa_nil he) hdb he hpl, fun H0 F H ρ σ P Q S' ⟨ns, h, d, hs, pd⟩ kk => by
    obtain ⟨a, hx, hsq⟩ := slot_scr S' h
    exact ⟨.ref a, hx, F, a, ns, d, S'.fh, rfl, hsq, hs, fun v F2 H2 g2 s2 r2 => kk v d F2 H2 g2 s2 r2 pd⟩⟩
end
def startS (N : List Str) (ns : List Int) : Env := .scr ns :: List.replicate (N.length - 1) .no
theorem slots_startS {K : PySem.W.Frag} {F H : Hp} {N : List Str} {a : Addr} {ns : List Int} (sb : Sub F H) (r : SqL K H a (ns.map V.int)) (hN : 1 ≤ N.length) : SlotsB K H F F H (startS N ns) (L2.start N [.ref a]) := by
  have cases' : ∀ (i : Nat) s, (startS N ns)[i]? = some s → (i = 0 ∧ s = .scr ns) ∨ s = .no := fun i s h => by
    unfold startS at h
    cases i with
    | zero => simp at h; exact .inl ⟨rfl, h.symm⟩
    | succ i =>
      rw [List.getElem?_cons_succ] at h
      have := List.mem_of_getElem? h
      exact .inr (List.eq_of_mem_replicate this)
  refine ⟨Sub.refl _, Sub.refl _, sb, by unfold startS L2.start; simp, fun i s x h1 h2 => ?_, fun i j d e b h1 => ?_⟩
  · rcases cases' i s h1 with ⟨rfl, rfl⟩ | rfl
    · unfold L2.start at h2
      simp at h2
      subst h2
      exact ⟨a, rfl, r⟩
    · trivial
  · rcases cases' i _ h1 with ⟨_, z⟩ | z <;> cases z
def KeepsS (q : QS) (N : List Str) (S : List Int → D → Prop) : Prop := ∀ ns d, S ns d → q { nx := fun _ => d = .none, rt := fun r => r = d } (startS N ns)
theorem sp_startS {K : PySem.W.Frag} {fr : Bool} {S : List Int → D → Prop} {N : List Str} {q : QS} {t : TS} (hN : 1 ≤ N.length) (hk : KeepsS q N S) (sd : SndS K fr t q) {vs : List V} {H : Hp} {Q : VK} {E : XK} (h : SpScr K fr S vs H Q E) : t { nx := fun _ H' => Q .non H', rt := Q } (L2.start N vs) H := by
  obtain ⟨F, a, ns, d, sb, ev, hsq, hs, k⟩ := h
  subst ev
  refine sd F H F F H (startS N ns) _ _ _ (slots_startS sb hsq hN) (Grow.refl _ _) (hk ns d hs) ⟨fun F' H' ρ' σ' S' g' s' e => ?_, fun _ _ _ _ _ _ _ z => z.elim, fun _ _ _ _ _ _ _ z => z.elim, fun d2 v F' H' s' g' r' e => ?_⟩
  · subst e
    exact k .non F' H' g' S'.fh (resSc rfl rfl)
  · subst e
    exact k v F' H' g' s' r'
section
variable {P : Program} {w : World} {K : PySem.W.Frag} {mg : Str → Option Value} {base : Heap} {x qual : Str} {params : Arguments} {body : List Stmt} {scope : Scope} {dvs : List V} {kws : List (Str × V)} {f : Addr} {fd : FuncData}
theorem fnS {fr : Bool} {S : List Int → D → Prop} {N : List Str} {s : Str} {k : Nat} {q : QS} (F : FunD K x qual params body scope dvs kws f fd) (Sc : FnScope N [s] scope) (hN : 1 ≤ N.length) (hk : KeepsS q N S)
    (hb : ∀ (cdv : Value) (A : Around) (outer : List PySem.Env) (s : Shared) (H : Hp) (E : XK), Room k (A.deeper (envOfC qual scope s.heap.objs.size f cdv)) → ∃ t, VSs fr (cxOf CX0 P w K mg base N qual scope f cdv A outer s H E).nox body t q) :
    FnOk P w K mg base CX0 (k + 1) f fd [s] (SpScr K fr S) := by
  refine F.ok Sc (fun vs H Q E ⟨F, a, ns, d, sb, ev, _⟩ => by rw [ev]; rfl) fun cdv A outer s H vs Q E hr h => ?_
  obtain ⟨t, b⟩ := hb cdv A outer s H E hr
  exact ⟨t, b.ps.nox, sp_startS hN hk b.sd h⟩
end
/-- a def that may be called: where it stands, what it promises -/
structure Callee (P : Program) (w : World) (K : PySem.W.Frag) (mg : Str → Option Value) (base : Heap) (k : Nat) (x : Str) (ps : List Str) (sp : Sp) (f : Addr) (fd : FuncData) : Prop where
  ok : FnOk P w K mg base CX0 k f fd ps sp
  mg : mg x = some (.ref f)
  kp : PySem.W.keepIn K (.ref f) = true
  bd : Binds K fd ps []
theorem Callee.mono {P : Program} {w : World} {K : PySem.W.Frag} {mg : Str → Option Value} {base : Heap} {j k : Nat} {x : Str} {ps : List Str} {sp : Sp} {f : Addr} {fd : FuncData} (c : Callee P w K mg base j x ps sp f fd) (h : j ≤ k) : Callee P w K mg base k x ps sp f fd := ⟨c.ok.mono h, c.mg, c.kp, c.bd⟩
end VL
namespace VL
open PySem PySem.Spec PyProof.Rows L2

/-! ### a def called by the harness itself: what runs around it is known -/
/-- FnOk's promise at one Around alone -/
def RunAt (P : Program) (w : World) (K : PySem.W.Frag) (mg : Str → Option Value) (base : Heap) (A : Around) (f : Addr) (fd : FuncData) (ps : List Str) (sp : Sp) : Prop :=
  ∀ (fr0 : List PySem.Env) (z : Shared) (H : Hp) (args : Args) (us : List Value) (vs : List V) (Q : VK) (E : XK), Env0 P w K mg base A fr0 z H → BindsTo z fd args (ps.zip us) → Vals vs us → sp vs H Q E →
    codeAny (model P w) A (.call (.ref f) args) (CR CX0 fr0 P w H z Q E) z
theorem runAt_of {P : Program} {w : World} {K : PySem.W.Frag} {mg : Str → Option Value} {base : Heap} {x qual : Str} {params : Arguments} {body : List Stmt} {scope : Scope} {dvs : List V} {kws : List (Str × V)} {f : Addr} {fd : FuncData} {N ps : List Str} {k : Nat} {sp : Sp} {A : Around}
    (F : FunD K x qual params body scope dvs kws f fd) (Sc : FnScope N ps scope) (room : Room (k + 1) A) (few : ∀ vs H Q E, sp vs H Q E → vs.length = ps.length)
    (hb : ∀ (cdv : Value) (fr0 : List PySem.Env) (z : Shared) (H : Hp) (vs : List V) (Q : VK) (E : XK), Room k (A.deeper (envOfC qual scope z.heap.objs.size f cdv)) → sp vs H Q E →
      ∃ t, PSs (cxOf CX0 P w K mg base N qual scope f cdv A fr0 z H E) body t ∧ t { nx := fun _ H' => Q .non H', rt := Q } (L2.start N vs) H) : RunAt P w K mg base A f fd ps sp := by
  obtain ⟨oc, od, dV, kV, doc, pm, an, cdv, ct, osl, efd, hfd, hcode, _, _⟩ := F.ex
  subst efd
  intro fr0 z H args us vs Q E env bind rel want
  have kz : K.In z.heap := env.mod.kin.keeps fun c o q => (env.bs c o q).1
  have binds : ∀ y ∈ ps.zip us, scope.names.lookup y.1 = some .local ∨ (scope.names.lookup y.1 = some .cell ∧ ((cellsFrom (z.heap.objs.size + 1) scope.names []).lookup y.1).isSome = true) := by
    rintro ⟨n, v⟩ hy
    cases Sc.par n (List.of_mem_zip hy).1 with
    | inl q => exact .inl q
    | inr q => exact .inr ⟨q, PySem.W.cellsFrom_some _ _ _ (.inl q)⟩
  refine codeAny_call_function room.depth (kz _ _ hfd) rfl Sc.co Sc.gen rfl (PySem.W.codeRec_of kz hcode) (bind _ _ _ _ ?_)
  refine wpAny_newFunctionEnv_cells Sc.kind binds fun en hen z1 xin => ?_
  subst hen
  refine ⟨(env.mod.nolimit.keeps fun c o q => (env.bs c o q).1).keeps xin.toInCall.keep, codeAny_func ?_⟩
  obtain ⟨t, pt, rt⟩ := hb cdv fr0 z H vs Q E (room.deeper _) want
  have inv := inv_start (CX := CX0) (P := P) (w := w) (K := K) (mg := mg) (base := base) (qual := qual) (f := f) (cd := cdv) (E := E) Sc room.hd env (few _ _ _ _ want) rel xin
  refine wpAny_mono (pt.run [] z1 (L2.start N vs) H _ inv rt) (fun fl z2 h2 => ?_) fun e z2 h2 => h2
  cases fl with
  | brk => exact h2.elim fun _ h => h.elim fun _ h => h.2.elim
  | cont => exact h2.elim fun _ h => h.elim fun _ h => h.2.elim
  | next =>
    obtain ⟨σ2, H2, J, q⟩ := h2
    exact ⟨V.non, H2, J.os, J.bare, J.base, J.hok, (rfl : Value.none = Value.none), q⟩
  | ret u =>
    obtain ⟨v, σ2, H2, J, rv, q⟩ := h2
    exact ⟨v, H2, J.os, J.bare, J.base, J.hok, rv, q⟩
/-- the law's call at the heap behind the top -/
theorem law_at {P : Program} {w : World} {K : PySem.W.Frag} {mg mb : Str → Option Value} {f a : Addr} {fd : FuncData} {x : Str} {sp : Sp} {z : Shared} {us : List Value} {ns : List Int}
    (kz : K.In z.heap) (gz : z.heap.Ns mainGlobals mg) (bz : z.heap.Ns builtinsNs mb) (bb : ∀ x : Str, x ≠ "__name__" → mb x = bootBuiltins x) (nl : z.heap.NoLimit) (gn : z.gens = #[])
    (ha : z.heap.get? a = some { cls := .type "list", data := .seq us.toArray }) (hints : IntsAre us ns) (short : ns.length ≤ sizeLine)
    (F : ∀ base : Heap, K.In base → base.Ns mainGlobals mg → RunAt P w K mg base callerA f fd [x] sp) (bind : ∀ (s : Shared) (u : Value), BindsTo s fd ⟨[u], []⟩ [(x, u)])
    (want : ∀ H : Hp, Only H → SqL K H a (ns.map V.int) → sp [.ref a] H (fun v _ => v = .bl true) fun _ _ _ => False) :
    codeAny (model P w) callerA (.call (.ref f) ⟨[.ref a], []⟩) (fun r z' => r = .ok (.ret (.bool true)) ∧ OldK z.heap z'.heap ∧ z'.os = z.os ∧ AllBare z'.gens) z := by
  have rel := vals_ints hints
  have len := hints.length
  have main : ∀ H : Hp, Only H → SqL K H a (ns.map V.int) → HOk P w H z.heap → (∀ c, H c ≠ none → c = a) → (H a ≠ none → K.lookup a = none) →
      codeAny (model P w) callerA (.call (.ref f) ⟨[.ref a], []⟩) (fun r z' => r = .ok (.ret (.bool true)) ∧ OldK z.heap z'.heap ∧ z'.os = z.os ∧ AllBare z'.gens) z := by
    intro H only sq hok alone apart
    have noDict : ∀ {c : Addr} {o : Obj} {es : Array DictEntry} {ep : Nat}, z.heap.get? c = some o → o.data = .dict es ep → H c = none := by
      intro c o es ep hc hd
      cases hHc : H c with
      | none => rfl
      | some u =>
        have ec := alone c (by rw [hHc]; exact Option.some_ne_none _)
        subst ec
        rw [ha] at hc
        cases hc
        exact absurd (show Data.seq us.toArray _ = Data.dict es ep from hd) (fun q => by cases q)
    have ns' : ∀ {c : Addr} {m : Str → Option Value}, z.heap.Ns c m → (hidT z.heap H).Ns c m := by
      rintro c m ⟨o, es, ep, hc, hd, more⟩
      exact ⟨o, es, ep, hidT_get hc (noDict hc hd), hd, more⟩
    have kb : K.In (hidT z.heap H) := fun c o hc => by
      refine hidT_get (kz c o hc) ?_
      cases hHc : H c with
      | none => rfl
      | some u =>
        have ec := alone c (by rw [hHc]; exact Option.some_ne_none _)
        subst ec
        have := apart (by rw [hHc]; exact Option.some_ne_none _)
        rw [this] at hc
        cases hc
    obtain ⟨mc, l1, l2⟩ := nl
    have env : Env0 P w K mg (hidT z.heap H) callerA [] z H := {
      frames := rfl
      mod := ⟨kb, ns' gz, ⟨mb, ns' bz, bb⟩, ⟨mc, ns' l1, l2⟩⟩
      bs := fun c o hc => of_hidT hc
      bsz := Nat.le_of_eq (hidT_size _ _)
      funs := trivial
      frf := fun c hc => absurd (show c ∈ ([] : List Addr) from hc) (by simp)
      hok := hok
      bare := .of_eq gn }
    refine codeAny_mono (F _ kb (ns' gz) [] z H ⟨[.ref a], []⟩ [.ref a] [.ref a] _ _ env (bind z (.ref a)) (.cons rfl .nil) (want H only sq)) fun r z' h => ?_
    cases r with
    | error e => exact False.elim h
    | ok fl =>
      cases fl with
      | next => exact False.elim h
      | brk => exact False.elim h
      | cont => exact False.elim h
      | ret u =>
        obtain ⟨v, H', eos, ebare, eun, ehok, erel, ev⟩ := h
        have ev' : v = .bl true := ev
        subst ev'
        have eu : u = Value.bool true := erel
        subst eu
        refine ⟨rfl, OldK.of_keep fun c o hc => ?_, eos, ebare⟩
        cases hHc : H c with
        | none => exact eun.keep c o hc hHc (fun q => by cases (show c ∈ ([] : List Addr) from q)) (by simp)
        | some u =>
          cases only c with
          | inl q => rw [hHc] at q; cases q
          | inr q =>
            obtain ⟨ob, xs, q⟩ := q
            have q2 := eun.frzs c ob _ q
            obtain ⟨p1, _⟩ := hok c _ q
            obtain ⟨p2, _⟩ := ehok c _ q2
            rw [hc] at p1
            cases p1
            exact p2
  cases hK : K.lookup a with
  | some o =>
    have q := kz a o hK
    rw [ha] at q
    cases q
    exact main (fun _ => none) (fun _ => .inl rfl) (.inr ⟨_, us.toArray, _, hK, rfl, rfl, rfl, by rw [List.size_toArray, len]; exact short, by simpa using rel⟩) (fun c u q => by cases (show (none : Option HO) = some u from q)) (fun c q => absurd rfl q) (fun q => absurd rfl q)
  | none =>
    refine main (fun c => if c = a then some (.frz { cls := .type "list", data := .seq us.toArray } (.lst (ns.map V.int))) else none) ?_ (.inl (.inr ⟨_, if_pos rfl⟩)) ?_ ?_ fun _ => hK
    · intro c
      by_cases hc : c = a
      · exact .inr ⟨_, _, if_pos hc⟩
      · exact .inl (if_neg hc)
    · intro c u q
      by_cases hc : c = a
      · have q2 := (if_pos hc).symm.trans q
        cases q2
        subst hc
        exact ⟨ha, by rw [List.length_map]; exact short, us, _, rel, ha⟩
      · have q2 := (if_neg hc).symm.trans q
        cases q2
    · intro c q
      by_cases hc : c = a
      · exact hc
      · exact absurd (if_neg hc) q
/-- the end of a law: F gives the written part, the def's object and its promise over every base -/
theorem walk_law {l : PySem.W.OpenLaw} {n : Nat} {q : Program} {loose : List Str} {XP : (Str → Option Value) → Heap → Prop} {YP : World → Heap → Prop} {d : DefRec} {x : Str}
    (hn : l.most = some n) (hn2 : n ≤ sizeLine) (hdf : d.params.defaults = [])
    (F : ∀ (w : World) (mg : Str → Option Value) (f : Addr) (h : Heap), YP w h → h.Ns mainGlobals mg → mg d.name = some (.ref f) →
      ∃ (K : PySem.W.Frag) (fd : FuncData) (sp : Sp), K.In h ∧ (∀ (s : Shared) (u : Value), BindsTo s fd ⟨[u], []⟩ [(x, u)]) ∧
        (∀ (H : Hp) (a : Addr) (ns : List Int), ns.length ≤ n → Only H → SqL K H a (ns.map V.int) → sp [.ref a] H (fun v _ => v = .bl true) fun _ _ _ => False) ∧
        ∀ base : Heap, K.In base → base.Ns mainGlobals mg → RunAt l.prog w K mg base callerA f fd [x] sp) :
    PySem.W.WalkO q loose XP YP l.row.toRowW d [] (fun f vs => PySem.call f vs) := by
  refine Att.attach_call hn hdf fun w z0 z mg mb f o pm cd doc a us ns G Y _ _ _ hmg hobj hints hlen hgens => ?_
  obtain ⟨K, fd, sp, kz, bind, want, run⟩ := F w mg f _ Y G.T.g hmg
  exact law_at kz G.T.g G.T.b G.T.builtins G.T.nolimit hgens hobj hints (Nat.le_trans hlen hn2) run bind fun H only sq => want H a ns hlen only sq
section
variable {P : Program} {w : World} {K : PySem.W.Frag} {mg : Str → Option Value} {base : Heap} {x qual : Str} {params : Arguments} {body : List Stmt} {scope : Scope} {dvs : List V} {kws : List (Str × V)} {f : Addr} {fd : FuncData}
/-- the law's def -/
theorem lawV {N : List Str} {s : Str} {k : Nat} {q : QS} {S : List Int → D → Prop} (F : FunD K x qual params body scope dvs kws f fd) (Sc : FnScope N [s] scope) (hN : 1 ≤ N.length) (hk : KeepsS q N S) (room : Room (k + 1) callerA)
    (hb : ∀ (cdv : Value) (fr0 : List PySem.Env) (z : Shared) (H : Hp) (E : XK), Room k (callerA.deeper (envOfC qual scope z.heap.objs.size f cdv)) → ∃ t, VSs false (cxOf CX0 P w K mg base N qual scope f cdv callerA fr0 z H E).nox body t q) :
    RunAt P w K mg base callerA f fd [s] (SpScr K false S) :=
  runAt_of F Sc room (fun vs H Q E ⟨F, a, ns, d, sb, ev, _⟩ => by rw [ev]; rfl) fun cdv fr0 z H vs Q E hr h => by
    obtain ⟨t, b⟩ := hb cdv fr0 z H E hr
    exact ⟨t, b.ps.nox, sp_startS hN hk b.sd h⟩
end
/-- what the harness wants of the law -/
theorem want_law {K : PySem.W.Frag} {S : List Int → D → Prop} {n : Nat} (hS : ∀ ns : List Int, ns.length ≤ n → S ns (.bool true)) (H : Hp) (a : Addr) (ns : List Int) (hl : ns.length ≤ n) (_ : Only H) (sq : SqL K H a (ns.map V.int)) :
    SpScr K false S [.ref a] H (fun v _ => v = .bl true) fun _ _ _ => False :=
  ⟨H, a, ns, .bool true, Sub.refl _, rfl, sq, hS ns hl, fun v F' H' _ _ r => r⟩
end VL
namespace VL
open PySem PySem.Spec PyProof.Rows L2
theorem op2_sub {K : PySem.W.Frag} : Op2 K .val oSub (rI0 fun i j => .int (i - j)) := op2_int0 (g := fun i j => i - j)
theorem op2_and {K : PySem.W.Frag} : Op2 K .val oAnd (rI0 fun i j => .int (Builtin.bitAnd i j)) := op2_int0 (g := fun i j => Builtin.bitAnd i j)
theorem Room_u100 {k : Nat} {A : Around} (r : Room k A) : A.units + 100 < cLine := by have := r.un; omega
section
variable {X : Cx} {md : Md} {e a b : Expr} {t ta tb : TE} {q qa qb : QE} {pos p : Pos}
/-- xs[::-1] -/
def oRev : D → Option D
  | .list ds => some (.list ds.reverse)
  | _ => none
theorem RpA.reverse {K : PySem.W.Frag} {F : Hp} : ∀ {ds : List D} {xs : List V}, RpA K F ds xs → RpA K F ds.reverse xs.reverse
  | [], _, h => by cases h; exact rfl
  | d :: ds, _, ⟨x, r, e, h, q⟩ => by
    subst e
    rw [List.reverse_cons, List.reverse_cons]
    exact (RpA.reverse q).snoc h
theorem ve_rev {k : Nat} {p1 p2 p3 : Pos} (he : VE .look X e t q) : VE .own X (.Subscript e (.Slice none none (some (.UnaryOp .USub (.Constant (.int 1) k p1) p2)) p3) pos) (tRevL X.K t) (q1 oRev q) := by
  refine ⟨pe_revL he.pe, fun H0 F H ρ σ P Q S hq kk => ?_⟩
  refine he.sd H0 F H ρ σ _ _ S hq fun v d F1 H1 g1 s1 r1 ⟨z, ez, pz⟩ => ?_
  cases d with
  | list ds =>
    simp [oRev] at ez; subst ez
    obtain ⟨a, xs, ea, ha, ra⟩ := Lk.lst s1 r1
    refine ⟨a, xs, ea, SqL.of ha, fun p' hp => ?_⟩
    exact kk _ (.list ds.reverse) F1 _ (g1.trans (Grow.newO hp)) (s1.trans (Sub.upd hp)) (.inr ⟨p', rfl, g1.h.none hp, s1.none hp, (show OwnAt X.K F1 _ p' (.list ds.reverse) from ⟨_, upd_same, ra.reverse⟩)⟩) pz
  | _ => simp [oRev] at ez
/-- list(range(n)), list(range(a, b)) -/
theorem rg_rp {K : PySem.W.Frag} {F : Hp} (a b : Int) : RpA K F (rangeD a (b - a).toNat) (rgV a b) := by
  unfold rangeD rgV
  induction (List.range (b - a).toNat) with
  | nil => exact rfl
  | cons i r ih => exact ⟨_, _, rfl, rfl, ih⟩
def rgOk (a b : Int) : Prop := -4611686018427387904 ≤ a ∧ a < 4611686018427387904 ∧ -4611686018427387904 ≤ b ∧ b < 4611686018427387904 ∧ (b - a).toNat ≤ 16777216
def qListRg1 (q : QE) : QE := fun ρ P => q ρ fun d => ∃ n, d = .int n ∧ rgOk 0 n ∧ P (.list (rangeD 0 (n - 0).toNat))
def qListRg2 (q q' : QE) : QE := fun ρ P => q ρ fun d => q' ρ fun e => ∃ n m, d = .int n ∧ e = .int m ∧ rgOk n m ∧ P (.list (rangeD n (m - n).toNat))
theorem ve_listRg1 {pl pr : Pos} (hc : X.calm = true) (hg : Gl X "list") (hm : X.mg "list" = none) (hg2 : Gl X "range") (hm2 : X.mg "range" = none) (ha : VE .look X a ta qa)
    (na : starEach [a] X.env = (false, eval a X.env) :: starEach [] X.env := by rfl) (na2 : starEach [.Call (.Name "range" pr) [a] [] p] X.env = (false, eval (.Call (.Name "range" pr) [a] [] p) X.env) :: starEach [] X.env := by rfl) :
    VE .own X (.Call (.Name "list" pl) [.Call (.Name "range" pr) [a] [] p] [] pos) (tLstRg (tRg1 ta)) (qListRg1 qa) := by
  refine ⟨pe_listRg hc hg hm (prg_1 hg2 hm2 ha.pe na) na2, fun H0 F H ρ σ P Q S hq kk => ?_⟩
  refine ha.sd H0 F H ρ σ _ _ S hq fun v d F1 H1 g1 s1 r1 ⟨n, ed, ok, pz⟩ => ?_
  subst ed
  have := Lk.int r1
  subst this
  refine ⟨n, rfl, ok, fun p' hp => ?_⟩
  exact kk _ (.list (rangeD 0 (n - 0).toNat)) F1 _ (g1.trans (Grow.newO hp)) (s1.trans (Sub.upd hp)) (.inr ⟨p', rfl, g1.h.none hp, s1.none hp, (show OwnAt X.K F1 _ p' (.list _) from ⟨_, upd_same, rg_rp 0 n⟩)⟩) pz
theorem ve_listRg2 {pl pr : Pos} (hc : X.calm = true) (hg : Gl X "list") (hm : X.mg "list" = none) (hg2 : Gl X "range") (hm2 : X.mg "range" = none) (ha : VE .look X a ta qa) (hb : VE .look X b tb qb)
    (na : starEach [a, b] X.env = (false, eval a X.env) :: starEach [b] X.env := by rfl) (nb : starEach [b] X.env = (false, eval b X.env) :: starEach [] X.env := by rfl) (hp : (backTo p (starEach [b] X.env)).any (·.1) = false := by rfl)
    (na2 : starEach [.Call (.Name "range" pr) [a, b] [] p] X.env = (false, eval (.Call (.Name "range" pr) [a, b] [] p) X.env) :: starEach [] X.env := by rfl) :
    VE .own X (.Call (.Name "list" pl) [.Call (.Name "range" pr) [a, b] [] p] [] pos) (tLstRg (tRg2 ta tb)) (qListRg2 qa qb) := by
  refine ⟨pe_listRg hc hg hm (prg_2 hg2 hm2 ha.pe hb.pe na nb hp) na2, fun H0 F H ρ σ P Q S hq kk => ?_⟩
  refine ha.sd H0 F H ρ σ _ _ S hq fun v d F1 H1 g1 s1 r1 h1 => ?_
  refine hb.sd H0 F1 H1 ρ σ _ _ (S.grow g1 s1) h1 fun v2 d2 F2 H2 g2 s2 r2 ⟨n, m, ed, ed2, ok, pz⟩ => ?_
  subst ed ed2
  have := Lk.int r1
  subst this
  have := Lk.int r2
  subst this
  refine ⟨n, m, rfl, rfl, ok, fun p' hp => ?_⟩
  have gg := g1.trans g2
  exact kk _ (.list (rangeD n (m - n).toNat)) F2 _ (gg.trans (Grow.newO hp)) (s2.trans (Sub.upd hp)) (.inr ⟨p', rfl, gg.h.none hp, s2.none hp, (show OwnAt X.K F2 _ p' (.list _) from ⟨_, upd_same, rg_rp n m⟩)⟩) pz
end
/-! the same rules with the written part named (for the blocks of comprehensions) -/
section
variable {X : Cx} {md : Md} {fr : Bool} {CX : CXT} {E : XK} {tg e e2 : Expr} {es : List Expr} {t : TE} {q : QE} {tA : TA} {qA : QA} {pos p : Pos} {x : Str} {k : Nat} {f : Addr} {fd : FuncData} {ps : List Str} {S : VL.Spec}
def rLenK (K : PySem.W.Frag) : List V → Hp → VK → Prop := fun xs H Q => ∃ x n, xs = [x] ∧ LenV K x H n ∧ Q (.int n) H
def rListK (K : PySem.W.Frag) : List V → Hp → VK → Prop := fun xs H Q => ∃ p ys, xs = [.ref p] ∧ (SqL K H p ys ∨ SqT K H p ys) ∧ ∀ l, H l = none → Q (.ref l) (upd H l (.lst ys))
def rTupleK (K : PySem.W.Frag) : List V → Hp → VK → Prop := fun xs H Q => ∃ p ys, xs = [.ref p] ∧ ((SqL K H p ys ∧ ∀ l, H l = none → Q (.ref l) (upd H l (.tup ys))) ∨ (SqT K H p ys ∧ Q (.ref p) H))
def rAbsK (_ : PySem.W.Frag) : List V → Hp → VK → Prop := fun xs H Q => ∃ i, xs = [.int i] ∧ Q (.int (if i < 0 then -i else i)) H
def rIntK (_ : PySem.W.Frag) : List V → Hp → VK → Prop := fun xs H Q => (∃ i, xs = [.int i] ∧ Q (.int i) H) ∨ ∃ k, xs = [.bl k] ∧ Q (.int (if k then 1 else 0)) H
def rMax2K (_ : PySem.W.Frag) : List V → Hp → VK → Prop := fun xs H Q => ∃ i j, xs = [.int i, .int j] ∧ Q (.int (if j > i then j else i)) H
def rMin2K (_ : PySem.W.Frag) : List V → Hp → VK → Prop := fun xs H Q => ∃ i j, xs = [.int i, .int j] ∧ Q (.int (if j < i then j else i)) H
theorem vi_listK (K : PySem.W.Frag) (hK : X.K = K) (h : VE md X e t q) (hm : MdA md := by exact True.intro) : VI md X tg e (iList K t) (qIList q) := by subst hK; exact vi_list h hm
theorem vi_enumK (K : PySem.W.Frag) (hK : X.K = K) {elts : List Expr} {kk : Nat} {tpos : Pos} (hg : Gl X "enumerate") (hm : X.mg "enumerate" = none) (ha : VA md X [e] tA qA) (hmd : MdA md := by exact True.intro) (hs : starEach [e] X.env = [(false, eval e X.env)] := by rfl) :
    VI md X (.Tuple elts kk tpos) (.Call (.Name "enumerate" p) [e] [] pos) (iEnum K tA) (qIEnum qA) := by subst hK; exact vi_enum hg hm ha hmd hs
theorem vi_zipK (K : PySem.W.Frag) (hK : X.K = K) {elts : List Expr} {kk : Nat} {tpos : Pos} (hg : Gl X "zip") (hm : X.mg "zip" = none) (ha : VA md X [e, e2] tA qA) (hmd : MdA md := by exact True.intro)
    (hs : starEach [e, e2] X.env = (false, eval e X.env) :: starEach [e2] X.env := by rfl) (hpl : (backTo pos (starEach [e2] X.env)).any (·.1) = false := by rfl) :
    VI md X (.Tuple elts kk tpos) (.Call (.Name "zip" p) [e, e2] [] pos) (iZip K tA) (qIZip qA) := by subst hK; exact vi_zip hg hm ha hmd hs hpl
theorem vg_tupK (K : PySem.W.Frag) (hK : X.K = K) {ts : List Nat} {gs : TGs} {qs : QGs} {k n : Nat} (hc : X.calm = true) (h : VGs X es ts gs qs) (hn : (assignEach es X.env).length = n := by rfl) (hst : (assignEach es X.env).findIdx? (·.1) = none := by rfl) :
    VG X (.Tuple es k pos) ts (gTup K n gs) (qGTup n qs) := by subst hK; exact vg_tup hc h hn hst
theorem ve_revK (K : PySem.W.Frag) (hK : X.K = K) {k : Nat} {p1 p2 p3 : Pos} (he : VE .look X e t q) : VE .own X (.Subscript e (.Slice none none (some (.UnaryOp .USub (.Constant (.int 1) k p1) p2)) p3) pos) (tRevL K t) (q1 oRev q) := by subst hK; exact ve_rev he
theorem ve_callK (K : PySem.W.Frag) (hK : X.K = K) (F : FnOk X.prog X.w X.K X.mg X.base CX k f fd ps (SpV K fr S)) (hr : Room k X.A) (hg : Gl X x) (hm : X.mg x = some (.ref f)) (hk : PySem.W.keepIn X.K (.ref f) = true) (hb : Binds X.K fd ps []) (hx : Passes CX X E)
    (ha : VA .val X (e :: es) tA qA) (hdb : (x == ("__debug__" : Str)) = false := by decide) (he : starEach (e :: es) X.env = (false, eval e X.env) :: starEach es X.env := by rfl) (hpl : (backTo pos (starEach es X.env)).any (·.1) = false := by rfl) :
    VE (rMd fr) X (.Call (.Name x p) (e :: es) [] pos) (tCall (SpV K fr S) [] E tA) (qCall S qA) := by subst hK; exact ve_call F hr hg hm hk hb hx ha hdb he hpl
theorem ve_callLK (K : PySem.W.Frag) (hK : X.K = K) (F : FnOk X.prog X.w X.K X.mg X.base CX k f fd ps (SpV K fr S)) (hr : Room k X.A) (hg : Gl X x) (hm : X.mg x = some (.ref f)) (hk : PySem.W.keepIn X.K (.ref f) = true) (hb : Binds X.K fd ps []) (hx : Passes CX X E)
    (ha : VA .look X (e :: es) tA qA) (hdb : (x == ("__debug__" : Str)) = false := by decide) (he : starEach (e :: es) X.env = (false, eval e X.env) :: starEach es X.env := by rfl) (hpl : (backTo pos (starEach es X.env)).any (·.1) = false := by rfl) :
    VE (rMd fr) X (.Call (.Name x p) (e :: es) [] pos) (tCall (SpV K fr S) [] E tA) (qCallL fr S qA) := by subst hK; exact ve_callL F hr hg hm hk hb hx ha hdb he hpl
end
end VL
set_option exponentiation.threshold 4000
namespace VL
open PySem PySem.Spec PyProof.Rows L2
open PySem.W (Datum DatumOrd)
/-! readings read -/
section
variable {Dv : VEnds} {ρ : Env} {P : D → Prop} {PT : Bool → Prop} {PA : List D → Prop} {PG : Env → Prop} {q r qa qb qc : QE} {qA : QA} {qt qt2 : QT} {s t : QS} {i j : Nat} {d : D} {qi : QI} {qg : QG} {qgs : QGs} {S : VL.Spec} {f g : D → D → Option D}
@[simp] theorem e_seq : qSeq s t Dv ρ = s { Dv with nx := t Dv } ρ := rfl
@[simp] theorem e_next : qNext Dv ρ = Dv.nx ρ := rfl
@[simp] theorem e_break : qBreak Dv ρ = Dv.bk ρ := rfl
@[simp] theorem e_cont : qCont Dv ρ = Dv.ct ρ := rfl
@[simp] theorem e_never : qNever Dv ρ = False := rfl
@[simp] theorem e_drop : qDrop q Dv ρ = q ρ (fun _ => Dv.nx ρ) := rfl
@[simp] theorem e_set : qSet i q Dv ρ = q ρ (fun d => Dv.nx (ρ.set i (.val d))) := rfl
@[simp] theorem e_setO : qSetO i q Dv ρ = q ρ (fun d => Dv.nx (ρ.set i (ownSl d))) := rfl
@[simp] theorem e_asg : qAsg q qg Dv ρ = q ρ (fun d => qg d ρ Dv.nx) := rfl
theorem prop_ext {p q : Prop} (h : p ↔ q) : p = q := propext h
@[simp] theorem e_par : qPar i j (qCons qa (qCons qb qNil)) Dv ρ = qa ρ (fun d => qb ρ fun e => Dv.nx ((ρ.set i (.val d)).set j (.val e))) := by
  show qa ρ _ = qa ρ _
  congr 1; funext x
  show qb ρ _ = qb ρ _
  congr 1; funext y
  exact propext ⟨fun ⟨d, e, h, p⟩ => by cases h; exact p, fun p => ⟨x, y, rfl, p⟩⟩
@[simp] theorem e_ifS : qIfS qt s t Dv ρ = qt ρ (fun b => if b = true then s Dv ρ else t Dv ρ) := rfl
@[simp] theorem e_ret : qRet q Dv ρ = q ρ Dv.rt := rfl
@[simp] theorem e_retN : qRetN Dv ρ = Dv.rt .none := rfl
@[simp] theorem e_retV : qRetV i Dv ρ = ∃ d, ρ[i]? = some (.own d) ∧ Dv.rt d := rfl
@[simp] theorem e_for : qFor qi qg s Dv ρ = qi ρ (fun ds => forRun qg s ds Dv ρ) := rfl
@[simp] theorem e_setIx : qSetIx i q r Dv ρ = r ρ (fun d => ∃ ds, ρ[i]? = some (.own (.list ds)) ∧ q ρ fun di => ∃ k, di = .int k ∧ ∃ j, ixN ds.length k = some j ∧ Dv.nx (ρ.set i (.own (.list (ds.set j d))))) := by
  unfold qSetIx
  simp only [exists_and_left]
@[simp] theorem e_meth {fm} : qMeth i fm qA Dv ρ = ∃ ds, ρ[i]? = some (.own (.list ds)) ∧ qA ρ fun as => ∃ ds', fm ds as = some ds' ∧ Dv.nx (ρ.set i (.own (.list ds'))) := rfl
@[simp] theorem e_lend : qLend i s Dv ρ = ∃ d, ρ[i]? = some (.own d) ∧ lendOk i ρ = true ∧ s { nx := fun ρ' => borOk i ρ' = true ∧ Dv.nx (unlend ρ'), rt := Dv.rt } (lend i d ρ) := rfl
@[simp] theorem e_frz : qFrz i s Dv ρ = ∃ d, ρ[i]? = some (.own d) ∧ s Dv (ρ.set i (.val d)) := rfl
@[simp] theorem e_var : qVar i ρ P = ∃ d, (ρ[i]?).bind getV = some d ∧ P d := rfl
@[simp] theorem e_varL : qVarL i ρ P = ∃ d, (ρ[i]?).bind getL = some d ∧ P d := rfl
@[simp] theorem e_c : qC d ρ P = P d := rfl
@[simp] theorem e_2 : q2 f qa qb ρ P = qa ρ (fun x => qb ρ fun y => ∃ z, f x y = some z ∧ P z) := rfl
@[simp] theorem e_1 {h : D → Option D} : q1 h qa ρ P = qa ρ (fun x => ∃ z, h x = some z ∧ P z) := rfl
@[simp] theorem e_tst : qTst q ρ PT = q ρ (fun d => ∃ b, d = .bool b ∧ PT b) := rfl
@[simp] theorem e_chain : qChain f g qa qb qc ρ P = qa ρ (fun x => qb ρ fun y => ∃ k, f x y = some (.bool k) ∧ (if k = true then qc ρ fun z => ∃ w, g y z = some w ∧ P w else P (.bool false))) := rfl
@[simp] theorem e_and : qAnd qt qt2 ρ PT = qt ρ (fun b => if b = true then qt2 ρ PT else PT false) := rfl
@[simp] theorem e_or : qOr qt qt2 ρ PT = qt ρ (fun b => if b = true then PT true else qt2 ρ PT) := rfl
@[simp] theorem e_not : qNot qt ρ PT = qt ρ (fun b => PT (!b)) := rfl
@[simp] theorem e_andV : qAndV qa qb ρ P = qa ρ (fun d => ∃ b, d = .bool b ∧ if b = true then qb ρ P else P (.bool false)) := rfl
@[simp] theorem e_orV : qOrV qa qb ρ P = qa ρ (fun d => ∃ b, d = .bool b ∧ if b = true then P (.bool true) else qb ρ P) := rfl
@[simp] theorem e_notV : qNotV qa ρ P = qa ρ (fun d => ∃ b, d = .bool b ∧ P (.bool !b)) := rfl
@[simp] theorem e_if : qIf qt qa qb ρ P = qt ρ (fun b => if b = true then qa ρ P else qb ρ P) := rfl
@[simp] theorem e_nil : qNil ρ PA = PA [] := rfl
@[simp] theorem e_cons : qCons qa qA ρ PA = qa ρ (fun x => qA ρ fun xs => PA (x :: xs)) := rfl
@[simp] theorem e_lst : qLst qA ρ P = qA ρ (fun ds => P (.list ds)) := rfl
@[simp] theorem e_tup : qTup qA ρ P = qA ρ (fun ds => P (.tuple ds)) := rfl
@[simp] theorem e_N {h : List D → Option D} : qN h qA ρ P = qA ρ (fun ds => ∃ z, h ds = some z ∧ P z) := rfl
@[simp] theorem e_call : qCall S qA ρ P = qA ρ (fun ds => ∃ d, S ds d ∧ P d) := rfl
@[simp] theorem e_callL {fr} : qCallL fr S qA ρ P = qA ρ (fun ds => ∃ d, S ds d ∧ scD fr d = true ∧ P d) := rfl
@[simp] theorem e_callS {S : List Int → D → Prop} : qCallS i S ρ P = ∃ ns : List Int, ρ[i]? = some (.scr ns) ∧ ∃ d, S ns d ∧ P d := rfl
@[simp] theorem e_lenS : qLenS i ρ P = ∃ ns : List Int, ρ[i]? = some (.scr ns) ∧ P (.int ns.length) := rfl
@[simp] theorem e_ixS : qIxS i q ρ P = ∃ ns : List Int, ρ[i]? = some (.scr ns) ∧ q ρ fun d => ∃ j, d = .int j ∧ ∃ z, atI ns j = some z ∧ P (.int z) := by
  unfold qIxS
  simp only [exists_and_left]
@[simp] theorem e_iList : qIList q ρ PA = q ρ (fun d => ∃ ds, d = .list ds ∧ PA ds) := rfl
@[simp] theorem e_iRng1 : qIRng1 qA ρ PA = qA ρ (fun ds => ∃ j, ds = [.int j] ∧ (-4611686018427387904 ≤ j ∧ j < 4611686018427387904) ∧ PA (rangeD 0 j.toNat)) := rfl
@[simp] theorem e_iRng2 : qIRng2 (qCons qa (qCons qb qNil)) ρ PA = qa ρ (fun x => qb ρ fun y => ∃ i, x = .int i ∧ ∃ j, y = .int j ∧ (-4611686018427387904 ≤ i ∧ i < 4611686018427387904 ∧ -4611686018427387904 ≤ j ∧ j < 4611686018427387904) ∧ PA (rangeD i (j - i).toNat)) := by
  show qa ρ _ = qa ρ _
  congr 1; funext x
  show qb ρ _ = qb ρ _
  congr 1; funext y
  exact propext ⟨fun ⟨d, e, h, p⟩ => by cases h; exact ⟨d, rfl, e, rfl, p⟩, fun ⟨d, h1, e, h2, p⟩ => by subst h1 h2; exact ⟨d, e, rfl, p⟩⟩
@[simp] theorem e_iEnum : qIEnum qA ρ PA = qA ρ (fun ds => ∃ xs, ds = [.list xs] ∧ PA (enumD 0 xs)) := rfl
@[simp] theorem e_iZip : qIZip (qCons qa (qCons qb qNil)) ρ PA = qa ρ (fun x => qb ρ fun y => ∃ xs, x = .list xs ∧ ∃ ys, y = .list ys ∧ PA (zipD xs ys)) := by
  show qa ρ _ = qa ρ _
  congr 1; funext x
  show qb ρ _ = qb ρ _
  congr 1; funext y
  exact propext ⟨fun ⟨d, e, h, p⟩ => by cases h; exact ⟨d, rfl, e, rfl, p⟩, fun ⟨d, h1, e, h2, p⟩ => by subst h1 h2; exact ⟨d, e, rfl, p⟩⟩
@[simp] theorem e_name : qName i d ρ PG = PG (ρ.set i (.val d)) := rfl
@[simp] theorem e_gNil {ds} : qGNil ds ρ PG = (ds = [] ∧ PG ρ) := rfl
@[simp] theorem e_gCons {ds} : qGCons qg qgs (d :: ds) ρ PG = qg d ρ (fun ρ' => qgs ds ρ' PG) :=
  propext ⟨fun ⟨d', r, h, p⟩ => by cases h; exact p, fun p => ⟨d, ds, rfl, p⟩⟩
@[simp] theorem e_gTup {ds} : qGTup i qgs (.tuple ds) ρ PG = (ds.length = i ∧ qgs ds ρ PG) :=
  propext ⟨fun ⟨r, h, p⟩ => by cases h; exact p, fun p => ⟨ds, rfl, p⟩⟩
@[simp] theorem e_lc {vs} : qLc qi qg qt q vs ρ P = qi ρ (fun ds => ds.length ≤ sizeLine ∧ lcRun (fun d k => qg d (wipeR ρ vs) fun ρ2 => qt ρ2 fun b => if b = true then q ρ2 fun y => k (some y) else k none) ds [] fun out => P (.list out)) := rfl
@[simp] theorem e_listRg1 : qListRg1 q ρ P = q ρ (fun d => ∃ n, d = .int n ∧ rgOk 0 n ∧ P (.list (rangeD 0 (n - 0).toNat))) := rfl
@[simp] theorem e_yes : qYes ρ PT = PT true := rfl
@[simp] theorem e_wipe0 : wipeR ρ [] = ρ := rfl
@[simp] theorem e_wipe1 {vs} : wipeR ρ (i :: vs) = (wipeR ρ vs).set i .no := rfl
@[simp] theorem e_getV : getV (.val d) = some d := rfl
@[simp] theorem e_getVo : getV (.old d) = some d := rfl
@[simp] theorem e_getVb : getV (.bor d) = some d := rfl
@[simp] theorem e_getL : getL (.val d) = some d := rfl
@[simp] theorem e_getLo : getL (.old d) = some d := rfl
@[simp] theorem e_getLb : getL (.bor d) = some d := rfl
@[simp] theorem e_getLw : getL (.own d) = some d := rfl
@[simp] theorem e_ownL {ds : List D} : ownSl (.list ds) = .own (.list ds) := rfl
end
/-! walks -/
theorem lcRun_go {α : Type} {step : D → (Option D → Prop) → Prop} {e : α → D} {g : α → Option D} : ∀ (xs : List α) {acc : List D} {P : List D → Prop}, (∀ x ∈ xs, ∀ k : Option D → Prop, k (g x) → step (e x) k) → P (acc ++ xs.filterMap g) → lcRun step (xs.map e) acc P
  | [], acc, P, _, h => by simpa [lcRun] using h
  | x :: xs, acc, P, hs, h => by
    show step (e x) fun o => lcRun step (xs.map e) (acc ++ o.toList) P
    refine hs x List.mem_cons_self _ (lcRun_go xs (fun y hy => hs y (List.mem_cons_of_mem _ hy)) ?_)
    rw [List.filterMap_cons] at h
    cases q : g x with
    | none => rw [q] at h; simpa using h
    | some y => rw [q] at h; simpa using h
theorem lcRun_map {α : Type} {step : D → (Option D → Prop) → Prop} {e : α → D} (g : α → D) (xs : List α) {acc : List D} {P : List D → Prop} (hs : ∀ x ∈ xs, ∀ k : Option D → Prop, k (some (g x)) → step (e x) k) (h : P (acc ++ xs.map g)) : lcRun step (xs.map e) acc P :=
  lcRun_go (g := fun x => some (g x)) xs hs (by rw [List.filterMap_eq_map']; exact h)
theorem lcRun_filter {α : Type} {step : D → (Option D → Prop) → Prop} {e : α → D} (g : α → D) (p : α → Bool) (xs : List α) {acc : List D} {P : List D → Prop} (hs : ∀ x ∈ xs, ∀ k : Option D → Prop, k (if p x = true then some (g x) else none) → step (e x) k) (h : P (acc ++ (xs.filter p).map g)) : lcRun step (xs.map e) acc P := by
  refine lcRun_go (g := fun x => if p x = true then some (g x) else none) xs hs ?_
  have : xs.filterMap (fun x => if p x = true then some (g x) else none) = (xs.filter p).map g := by
    clear hs h
    induction xs with
    | nil => rfl
    | cons x xs ih =>
      rw [List.filterMap_cons, List.filter_cons]
      cases p x <;> simp [ih]
  rw [this]; exact h
theorem forRun_go {α : Type} {qg : QG} {qb : QS} {Dv : VEnds} {e : α → D} (I : Nat → Env → Prop) : ∀ (xs : List α) (n : Nat) {ρ : Env},
    (∀ i x ρ, xs[i]? = some x → I (n + i) ρ → ∀ K : Env → Prop, (∀ ρ', I (n + i + 1) ρ' → K ρ') → qg (e x) ρ fun ρ' => qb { Dv with nx := K, ct := K, bk := Dv.nx } ρ') →
    I n ρ → (∀ ρ, I (n + xs.length) ρ → Dv.nx ρ) → forRun qg qb (xs.map e) Dv ρ
  | [], n, ρ, _, h, fin => fin ρ h
  | x :: xs, n, ρ, hs, h, fin => by
    refine hs 0 x ρ rfl h _ fun ρ' h' => ?_
    exact forRun_go I xs (n + 1) (fun i y ρ2 hy h2 K hK => by
      have := hs (i + 1) y ρ2 (by simpa using hy) (by rw [show n + (i + 1) = n + 1 + i from by omega]; exact h2) K (fun ρ3 h3 => hK ρ3 (by rw [show n + 1 + i + 1 = n + (i + 1) + 1 from by omega]; exact h3))
      exact this) h' (fun ρ2 h2 => fin ρ2 (by rw [List.length_cons, show n + (xs.length + 1) = n + 1 + xs.length from by omega]; exact h2))
/-- for x in xs (the Lean list behind it) -/
theorem forRun_inv {α : Type} {qg : QG} {qb : QS} {Dv : VEnds} {e : α → D} (I : Nat → Env → Prop) (xs : List α) {ρ : Env} (h0 : I 0 ρ)
    (hs : ∀ i x ρ, xs[i]? = some x → I i ρ → ∀ K : Env → Prop, (∀ ρ', I (i + 1) ρ' → K ρ') → qg (e x) ρ fun ρ' => qb { Dv with nx := K, ct := K, bk := Dv.nx } ρ')
    (fin : ∀ ρ, I xs.length ρ → Dv.nx ρ) : forRun qg qb (xs.map e) Dv ρ :=
  forRun_go I xs 0 (fun i x ρ hx h K hK => hs i x ρ hx (by simpa using h) K (by simpa using hK)) h0 (by simpa using fin)
/-- for i in range(n) -/
theorem forRun_rng {qg : QG} {qb : QS} {Dv : VEnds} (I : Nat → Env → Prop) (n : Nat) {ρ : Env} (h0 : I 0 ρ)
    (hs : ∀ i ρ, i < n → I i ρ → ∀ K : Env → Prop, (∀ ρ', I (i + 1) ρ' → K ρ') → qg (.int (i : Nat)) ρ fun ρ' => qb { Dv with nx := K, ct := K, bk := Dv.nx } ρ')
    (fin : ∀ ρ, I n ρ → Dv.nx ρ) : forRun qg qb (rangeD 0 n) Dv ρ := by
  have e : rangeD 0 n = (List.range n).map fun i : Nat => (.int (i : Nat) : D) := by unfold rangeD; congr 1; funext i; simp
  rw [e]
  refine forRun_inv I (List.range n) h0 (fun i x ρ hx h K hK => ?_) (by simpa using fin)
  obtain ⟨h1, h2⟩ := List.getElem?_eq_some_iff.mp hx
  rw [List.getElem_range] at h2
  subst h2
  exact hs i ρ (by simpa using h1) h K hK
theorem rangeD0 (n : Nat) : rangeD 0 n = (List.range n).map fun i : Nat => (.int (i : Nat) : D) := by unfold rangeD; congr 1; funext i; simp
/-! data with a Lean type -/
abbrev tD {α : Type} [DecidableEq α] [Datum α] (a : α) : D := Datum.toD a
instance : Datum Nat where
  toD n := .int (n : Int)
  plain _ := rfl
  eqv a b := by simp only [PyData.eqv]; rw [PySem.W.beq_decide]; exact decide_eq_decide.mpr Int.ofNat_inj
  depth := 0
  depth_le _ := Nat.le_refl _
instance : DatumOrd Nat where
  lt a b := decide (a < b)
  alike a b := by show PySem.W.alike (.int a) (.int b) = true; simp only [PySem.W.alike]
  notNone a := fun e => by cases e
  lt_eq a b := (PySem.W.dataLt_int a b).trans (decide_eq_decide.mpr Int.ofNat_lt)
section
variable {α β γ : Type} [DecidableEq α] [DecidableEq β] [DecidableEq γ]
theorem tD_list [Datum α] (xs : List α) : tD xs = .list (xs.map tD) := rfl
theorem tD_nat (n : Nat) : tD n = .int (n : Int) := rfl
theorem tD_int (n : Int) : tD n = .int n := rfl
theorem tD_pair [Datum α] [Datum β] (a : α) (b : β) : tD (a, b) = .tuple [tD a, tD b] := rfl
theorem flat_tD [Datum α] (hd : Datum.depth α ≤ 60 := by decide) (a : α) : flatD (tD a) = true := by
  unfold flatD
  have := Datum.depth_le a
  simp [Datum.plain, show (tD a).depth ≤ 60 from by unfold tD; omega]
theorem eq_tD [Datum α] (a b : α) (hd : Datum.depth α ≤ 60 := by decide) : oEq (tD a) (tD b) = some (.bool (decide (a = b))) := by
  unfold oEq
  rw [if_pos ⟨flat_tD hd a, flat_tD hd b⟩, Datum.eqv]
theorem ne_tD [Datum α] (a b : α) (hd : Datum.depth α ≤ 60 := by decide) : oNe (tD a) (tD b) = some (.bool (!decide (a = b))) := by
  unfold oNe
  rw [if_pos ⟨flat_tD hd a, flat_tD hd b⟩, Datum.eqv]
theorem ord_tD [DatumOrd α] (a b : α) (hd : Datum.depth α ≤ 60 := by decide) : ordD (tD a) (tD b) = true := by
  have h1 := Datum.depth_le a
  have h2 := DatumOrd.notNone a
  have h3 := DatumOrd.alike a b
  unfold ordD tD
  rw [h3]
  generalize Datum.toD a = d at h1 h2
  have h4 : d.depth ≤ 60 := by omega
  cases d <;> simp_all
theorem lt_tD [DatumOrd α] (a b : α) (hd : Datum.depth α ≤ 60 := by decide) : oLt (tD a) (tD b) = some (PyData.bool (DatumOrd.lt a b)) := by
  unfold oLt
  rw [if_pos ⟨ord_tD a b hd, flat_tD hd a, flat_tD hd b⟩, DatumOrd.lt_eq]
theorem flat_map [Datum α] (xs : List α) (hd : Datum.depth α + 1 ≤ 60 := by decide) : flatD (.list (xs.map tD)) = true := flat_tD (α := List α) hd xs
theorem oIn_tD [Datum α] (x : α) (xs : List α) (hd : Datum.depth α + 1 ≤ 60 := by decide) : oIn (tD x) (.list (xs.map tD)) = some (.bool (decide (x ∈ xs))) := by
  show (if flatD (tD x) = true ∧ flatD (.list (xs.map tD)) = true then some (PyData.bool ((xs.map tD).any fun z => PyData.eqv z (tD x))) else none) = _
  rw [if_pos ⟨flat_tD (by omega) x, flat_map xs hd⟩]
  congr 2
  rw [Bool.eq_iff_iff, List.any_eq_true, decide_eq_true_eq]
  constructor
  · rintro ⟨y, hy, h⟩
    obtain ⟨z, hz, rfl⟩ := List.mem_map.mp hy
    rw [Datum.eqv, decide_eq_true_eq] at h
    exact h ▸ hz
  · intro h
    exact ⟨tD x, List.mem_map.mpr ⟨x, h, rfl⟩, by rw [Datum.eqv]; simp⟩
theorem oNotIn_tD [Datum α] (x : α) (xs : List α) (hd : Datum.depth α + 1 ≤ 60 := by decide) : oNotIn (tD x) (.list (xs.map tD)) = some (.bool (!decide (x ∈ xs))) := by
  have h := oIn_tD x xs hd
  change (if flatD (tD x) = true ∧ flatD (.list (xs.map tD)) = true then some (PyData.bool ((xs.map tD).any fun z => PyData.eqv z (tD x))) else none) = _ at h
  show (if flatD (tD x) = true ∧ flatD (.list (xs.map tD)) = true then some (PyData.bool (!(xs.map tD).any fun z => PyData.eqv z (tD x))) else none) = _
  rw [if_pos ⟨flat_tD (by omega) x, flat_map xs hd⟩] at h ⊢
  simp only [Option.some.injEq, PyData.bool.injEq] at h ⊢
  rw [h]
theorem alikesB_tD [DatumOrd α] (xs : List α) : alikesB (xs.map tD) = true := by
  unfold alikesB
  simp only [List.all_eq_true, List.mem_map]
  rintro _ ⟨a, _, rfl⟩ _ ⟨b, _, rfl⟩
  exact DatumOrd.alike a b
/-- a sort's answer, typed -/
def srt [DatumOrd α] (xs : List α) : List α := xs.mergeSort fun a b => !DatumOrd.lt b a
theorem sortD_tD [DatumOrd α] (xs : List α) : sortD (xs.map tD) = (srt xs).map tD := by
  unfold sortD srt
  refine (List.map_mergeSort fun a _ b _ => ?_).symm
  show (!DatumOrd.lt b a) = (!PySem.W.dataLt (tD b) (tD a))
  rw [DatumOrd.lt_eq]
theorem oSorted_tD [DatumOrd α] (xs : List α) (hs : sortableB (xs.map tD) = true) (hl : xs.length ≤ sizeLine) (hd : Datum.depth α + 1 ≤ 60 := by decide) : oSorted [.list (xs.map tD)] = some (.list ((srt xs).map tD)) := by
  show (if flatD (.list (xs.map tD)) = true ∧ alikesB (xs.map tD) = true ∧ sortableB (xs.map tD) = true ∧ (xs.map tD).length ≤ sizeLine then some (PyData.list (sortD (xs.map tD))) else none) = _
  rw [if_pos ⟨flat_map xs hd, alikesB_tD xs, hs, by simpa using hl⟩, sortD_tD]
theorem sortable_nat (xs : List Nat) : sortableB (xs.map tD) = true := by
  unfold sortableB
  rw [Bool.or_eq_true]
  right
  simp only [List.all_eq_true, List.mem_map]
  rintro _ ⟨a, _, rfl⟩
  rfl
theorem sortable_int (xs : List Int) : sortableB (xs.map tD) = true := by
  unfold sortableB
  rw [Bool.or_eq_true]
  right
  simp only [List.all_eq_true, List.mem_map]
  rintro _ ⟨a, _, rfl⟩
  rfl
theorem sortable_pair [Datum α] [Datum β] (xs : List (α × β)) : sortableB (xs.map tD) = true := by
  unfold sortableB
  rw [Bool.or_eq_true]
  left
  simp only [List.all_eq_true, List.mem_map]
  rintro _ ⟨a, _, rfl⟩
  rfl
theorem srt_perm [DatumOrd α] (xs : List α) : (srt xs).Perm xs := List.mergeSort_perm _ _
theorem srt_nat {xs : List Nat} {n : Nat} (h : xs.Perm (List.range n)) : srt xs = List.range n := by
  have e : (fun a b : Nat => !DatumOrd.lt b a) = fun a b : Nat => decide (a ≤ b) := by
    funext a b
    show (!decide (b < a)) = _
    rw [Bool.eq_iff_iff]; simp
  unfold srt
  rw [e]
  refine List.Perm.eq_of_pairwise (le := fun a b => a ≤ b) (fun a b _ _ h1 h2 => Nat.le_antisymm h1 h2) ?_ ?_ ((List.mergeSort_perm _ _).trans h)
  · exact (List.pairwise_mergeSort (le := fun a b : Nat => decide (a ≤ b)) (fun a b c h1 h2 => by simp at *; omega) (fun a b => by simp; omega) xs).imp (by simp)
  · exact List.pairwise_lt_range.imp Nat.le_of_lt
/-! subscripts -/
theorem ixN_nat {n i : Nat} (h : i < n) : ixN n (i : Int) = some i := by
  unfold ixN
  rw [if_pos (by omega), if_pos (by omega)]
  simp
theorem ix_nat {ds : List D} {i : Nat} {d : D} (h : ds[i]? = some d) : oIx (.list ds) (.int (i : Int)) = some d := by
  have := (List.getElem?_eq_some_iff.mp h).1
  show atI ds (i : Int) = _
  unfold atI
  rw [ixN_nat this]
  exact h
theorem ix_map {xs : List α} {i : Nat} {x : α} {f : α → D} (h : xs[i]? = some x) : oIx (.list (xs.map f)) (.int (i : Int)) = some (f x) := ix_nat (by rw [List.getElem?_map, h]; rfl)
@[simp] theorem ix_t0 {d : D} {ds : List D} : oIx (.tuple (d :: ds)) (.int 0) = some d := by
  have := ix_nat (ds := d :: ds) (i := 0) rfl
  exact this
@[simp] theorem ix_l0 {d : D} {ds : List D} : oIx (.list (d :: ds)) (.int 0) = some d := ix_nat (ds := d :: ds) (i := 0) rfl
@[simp] theorem ix_l1 {d e : D} {ds : List D} : oIx (.list (d :: e :: ds)) (.int 1) = some e := ix_nat (ds := d :: e :: ds) (i := 1) rfl
@[simp] theorem ix_l2 {d e f : D} {ds : List D} : oIx (.list (d :: e :: f :: ds)) (.int 2) = some f := ix_nat (ds := d :: e :: f :: ds) (i := 2) rfl
@[simp] theorem ix_t1 {d e : D} {ds : List D} : oIx (.tuple (d :: e :: ds)) (.int 1) = some e := by
  have := ix_nat (ds := d :: e :: ds) (i := 1) rfl
  exact this
@[simp] theorem ix_t2 {d e f : D} {ds : List D} : oIx (.tuple (d :: e :: f :: ds)) (.int 2) = some f := by
  have := ix_nat (ds := d :: e :: f :: ds) (i := 2) rfl
  exact this
end
/-! whole numbers -/
@[simp] theorem add_int (i j : Int) : oAdd (.int i) (.int j) = some (.int (i + j)) := rfl
@[simp] theorem sub_int (i j : Int) : oSub (.int i) (.int j) = some (.int (i - j)) := rfl
theorem mul_int {i j : Int} (h : (-18446744073709551616 < i ∧ i < 18446744073709551616) ∨ (-18446744073709551616 < j ∧ j < 18446744073709551616)) : oMul (.int i) (.int j) = some (.int (i * j)) := by
  show (fMul i j).map PyData.int = _
  unfold fMul
  rw [if_pos h]; rfl
theorem div_int {i j : Int} (h : 0 < j ∧ j < 1073741824) : oDiv (.int i) (.int j) = some (.int (i / j)) := by
  show (fDiv i j).map PyData.int = _
  unfold fDiv
  rw [if_pos h]; rfl
theorem mod_int {i j : Int} (h : 0 < j) : oMod (.int i) (.int j) = some (.int (i % j)) := by
  show (fMod i j).map PyData.int = _
  unfold fMod
  rw [if_pos h]; rfl
@[simp] theorem eq_int (i j : Int) : oEq (.int i) (.int j) = some (.bool (decide (i = j))) := eq_tD (α := Int) i j
@[simp] theorem ne_int (i j : Int) : oNe (.int i) (.int j) = some (.bool (!decide (i = j))) := ne_tD (α := Int) i j
@[simp] theorem eq_bool (i j : Bool) : oEq (.bool i) (.bool j) = some (.bool (decide (i = j))) := eq_tD (α := Bool) i j
@[simp] theorem ne_bool (i j : Bool) : oNe (.bool i) (.bool j) = some (.bool (!decide (i = j))) := ne_tD (α := Bool) i j
@[simp] theorem ne_str (i j : Str) : oNe (.str i) (.str j) = some (.bool (!decide (i = j))) := ne_tD (α := Str) i j
@[simp] theorem eq_str (i j : Str) : oEq (.str i) (.str j) = some (.bool (decide (i = j))) := eq_tD (α := Str) i j
@[simp] theorem lt_int (i j : Int) : oLt (.int i) (.int j) = some (.bool (decide (i < j))) := lt_tD (α := Int) i j
@[simp] theorem gt_int (i j : Int) : oGt (.int i) (.int j) = some (.bool (decide (j < i))) := lt_tD (α := Int) j i
@[simp] theorem le_int (i j : Int) : oLe (.int i) (.int j) = some (.bool (decide (i ≤ j))) := by
  unfold oLe
  rw [if_pos ⟨ord_tD (α := Int) i j, flat_tD (α := Int) (by decide) i, flat_tD (α := Int) (by decide) j⟩, PySem.W.dataLt_int, PySem.W.not_lt_int]
@[simp] theorem ge_int (i j : Int) : oGe (.int i) (.int j) = some (.bool (decide (j ≤ i))) := by
  unfold oGe
  rw [if_pos ⟨ord_tD (α := Int) i j, flat_tD (α := Int) (by decide) i, flat_tD (α := Int) (by decide) j⟩, PySem.W.dataLt_int, PySem.W.not_lt_int]
theorem intsD_mapf {α : Type} (f : α → Int) : ∀ xs : List α, intsD (xs.map fun x => (.int (f x) : D)) = some (xs.map f)
  | [] => rfl
  | x :: xs => by rw [List.map_cons]; show (intsD _).map _ = _; rw [intsD_mapf f xs]; rfl
theorem boolsD_mapf {α : Type} (f : α → Bool) : ∀ xs : List α, boolsD (xs.map fun x => (.bool (f x) : D)) = some (xs.map f)
  | [] => rfl
  | x :: xs => by rw [List.map_cons]; show (boolsD _).map _ = _; rw [boolsD_mapf f xs]; rfl
theorem sum_map {α : Type} (f : α → Int) (xs : List α) : oSum [.list (xs.map fun x => (.int (f x) : D))] = some (.int (xs.map f).sum) := by
  show (intsD _).map _ = _
  rw [intsD_mapf]; rfl
theorem any_map {α : Type} (f : α → Bool) (xs : List α) : oAny [.list (xs.map fun x => (.bool (f x) : D))] = some (.bool (xs.any f)) := by
  show (boolsD _).map _ = _
  rw [boolsD_mapf]; simp [List.any_map, Function.comp_def]
theorem all_map {α : Type} (f : α → Bool) (xs : List α) : oAll [.list (xs.map fun x => (.bool (f x) : D))] = some (.bool (xs.all f)) := by
  show (boolsD _).map _ = _
  rw [boolsD_mapf]; simp [List.all_map, Function.comp_def]
@[simp] theorem len_list (ds : List D) : oLen [.list ds] = some (.int ds.length) := rfl
@[simp] theorem len_tuple (ds : List D) : oLen [.tuple ds] = some (.int ds.length) := rfl
@[simp] theorem list_list (ds : List D) : oList [.list ds] = some (.list ds) := rfl
@[simp] theorem int_int (i : Int) : oInt [.int i] = some (.int i) := rfl
@[simp] theorem rev_list (ds : List D) : oRev (.list ds) = some (.list ds.reverse) := rfl
theorem append_ok {ds : List D} {d : D} (h : ds.length < sizeLine) : fAppend ds [d] = some (ds ++ [d]) := by
  unfold fAppend; simp [h]
theorem cat_ok {xs ys : List D} (h : xs.length + ys.length ≤ sizeLine) : oAdd (.list xs) (.list ys) = some (.list (xs ++ ys)) := by
  show (if _ then _ else _) = _
  rw [if_pos h]
theorem big : (16777216 : Nat) ≤ sizeLine := by rw [sizeLine_eq]; decide
theorem mul_list {ds : List D} {n : Nat} (h : n < 9223372036854775808) (h2 : ds.length * n ≤ 16777216) : oMul (.list ds) (.int (n : Int)) = some (.list (List.replicate n ds).flatten) := by
  have h3 : ds.length * n ≤ sizeLine := Nat.le_trans h2 big
  unfold oMul
  simp only [Int.toNat_natCast]
  rw [if_pos ⟨by omega, by omega, h3⟩]
theorem mul_list1 {d : D} {n : Nat} (h : n ≤ 16777216) : oMul (.list [d]) (.int (n : Int)) = some (.list (List.replicate n d)) := by
  rw [mul_list (by omega) (by simpa using h)]
  simp
/-! repr -/
theorem shown_list_le {B : Nat} {ds : List D} (h : ∀ d ∈ ds, d.shown.length ≤ B) : (PyData.list ds).shown.length ≤ ds.length * (B + 2) + 3 := by
  have e0 : (PyData.list ds).shown = listText (PyData.shownAll ds) := by first | rfl | simp only [PyData.shown]
  rw [e0]
  have h1 := listText_len_le (PyData.shownAll ds)
  have h2 : ∀ ds : List D, (∀ d ∈ ds, d.shown.length ≤ B) → ((PyData.shownAll ds).map (·.length)).sum + 2 * (PyData.shownAll ds).length ≤ ds.length * (B + 2) := by
    intro ds
    induction ds with
    | nil => intro _; simp [PyData.shownAll]
    | cons d ds ih =>
      intro h
      have a := ih fun x hx => h x (List.mem_cons_of_mem _ hx)
      have b := h d List.mem_cons_self
      simp only [PyData.shownAll, List.map_cons, List.sum_cons, List.length_cons, Nat.add_mul, Nat.one_mul] at a ⊢
      omega
  have := h2 ds h
  omega
theorem shown_tuple_le {B : Nat} {ds : List D} (h : ∀ d ∈ ds, d.shown.length ≤ B) : (PyData.tuple ds).shown.length ≤ ds.length * (B + 2) + 3 := by
  have e0 : (PyData.tuple ds).shown = tupleText (PyData.shownAll ds) := by first | rfl | simp only [PyData.shown]
  rw [e0]
  have h1 := tupleText_len_le (PyData.shownAll ds)
  have h2 : ∀ ds : List D, (∀ d ∈ ds, d.shown.length ≤ B) → ((PyData.shownAll ds).map (·.length)).sum + 2 * (PyData.shownAll ds).length ≤ ds.length * (B + 2) := by
    intro ds
    induction ds with
    | nil => intro _; simp [PyData.shownAll]
    | cons d ds ih =>
      intro h
      have a := ih fun x hx => h x (List.mem_cons_of_mem _ hx)
      have b := h d List.mem_cons_self
      simp only [PyData.shownAll, List.map_cons, List.sum_cons, List.length_cons, Nat.add_mul, Nat.one_mul] at a ⊢
      omega
  have := h2 ds h
  omega
theorem showAll_of {ds : List D} : (∀ d ∈ ds, d.showable = true) → PyData.showableAll ds = true := by
  induction ds with
  | nil => intro _; simp [PyData.showableAll]
  | cons d ds ih =>
    intro h
    simp only [PyData.showableAll, h d List.mem_cons_self, ih fun x hx => h x (List.mem_cons_of_mem _ hx), Bool.and_self]
theorem showable_int {i : Int} (h : i.natAbs < 10 ^ 12) : (PyData.int i).showable = true := by
  simp only [PyData.showable, decide_eq_true_eq]
  have h2 : i.natAbs < 2 ^ 1920 := Nat.lt_of_lt_of_le h (by decide)
  by_cases h0 : i.natAbs = 0
  · rw [h0]; decide
  · exact (Nat.log2_lt h0).mpr h2
theorem repr_ok {d : D} (h1 : flatD d = true) (h2 : d.showable = true) (h3 : d.shown.length ≤ sizeLine) : oRepr [d] = some (.str d.shown) := by
  unfold oRepr
  simp [h1, h2, h3]
theorem repr_int {i : Int} (h : i.natAbs < 10 ^ 12) : oRepr [.int i] = some (.str (PyData.int i).shown) :=
  repr_ok (flat_tD (α := Int) (by decide) i) (showable_int h) (Nat.le_trans (PyData.shown_int_le h) (Nat.le_trans (by decide) big))
theorem repr_none : oRepr [.none] = some (.str (PyData.none).shown) :=
  repr_ok (by decide) (by simp [PyData.showable]) (Nat.le_trans (show (PyData.shown .none).length ≤ 4 from by decide) (Nat.le_trans (by decide) big))
theorem repr_list {xs : List D} {B : Nat} (h1 : flatD (.list xs) = true) (h2 : ∀ d ∈ xs, d.showable = true) (h3 : ∀ d ∈ xs, d.shown.length ≤ B) (h4 : xs.length * (B + 2) + 3 ≤ 16777216) : oRepr [.list xs] = some (.str (PyData.list xs).shown) :=
  repr_ok h1 (by simp only [PyData.showable]; exact showAll_of h2) (Nat.le_trans (shown_list_le h3) (Nat.le_trans h4 big))
theorem repr_ints {xs : List Int} (h : ∀ i ∈ xs, i.natAbs < 10 ^ 12) (hl : xs.length ≤ 1000000) : oRepr [.list (xs.map .int)] = some (.str (PyData.list (xs.map .int)).shown) := by
  refine repr_list (B := 13) (flat_tD (α := List Int) (by decide) xs) ?_ ?_ (by rw [List.length_map]; omega)
  · simp only [List.mem_map]; rintro _ ⟨i, hi, rfl⟩; exact showable_int (h i hi)
  · simp only [List.mem_map]; rintro _ ⟨i, hi, rfl⟩; exact PyData.shown_int_le (h i hi)
theorem enumD_eq {α : Type} (f : α → D) : ∀ (xs : List α) (n : Nat), enumD n (xs.map f) = (xs.zipIdx n).map fun p => .tuple [.int (p.2 : Nat), f p.1]
  | [], n => rfl
  | x :: xs, n => by rw [List.map_cons, enumD, enumD_eq f xs (n + 1), List.zipIdx_cons, List.map_cons]
end VL
namespace VL
open PySem PySem.Spec PyProof.Rows L2
open PySem.W (Datum DatumOrd)
theorem srt_total {α : Type} [DecidableEq α] [DatumOrd α] : PySem.W.TotalLe (fun a b : α => !DatumOrd.lt b a) := by
  have t := PySem.W.sortLe_total (PyProof.Rows.listOrd PyProof.Rows.itemOrd) false (fun a : α => PySem.W.keyToks (tD a))
  have e : PySem.W.sortLe (PyProof.Rows.listOrd PyProof.Rows.itemOrd) false (fun a : α => PySem.W.keyToks (tD a)) = (fun a b : α => !DatumOrd.lt b a) := by
    funext a b
    show (!PySem.W.dataLt (tD b) (tD a)) = _
    rw [DatumOrd.lt_eq]
  rw [← e]; exact t
theorem srt_pairwise {α : Type} [DecidableEq α] [DatumOrd α] (xs : List α) : (srt xs).Pairwise fun a b => DatumOrd.lt b a = false :=
  (PySem.W.sort_pairwise srt_total xs).imp fun {a b} h => by simpa using h
/-- the least of the sorted -/
theorem srt_head {α : Type} [DecidableEq α] [DatumOrd α] {xs : List α} {y : α} {r : List α} (e : srt xs = y :: r) : y ∈ xs ∧ ∀ x ∈ xs, x ≠ y → DatumOrd.lt x y = false := by
  have h1 := srt_perm xs
  have h2 := srt_pairwise xs
  rw [e] at h1 h2
  refine ⟨h1.subset List.mem_cons_self, fun x hx hne => ?_⟩
  have := h1.symm.subset hx
  rcases List.mem_cons.mp this with q | q
  · exact absurd q hne
  · exact (List.pairwise_cons.mp h2).1 x q
theorem perm_sum {xs ys : List Int} (h : xs.Perm ys) : xs.sum = ys.sum := by
  induction h with
  | nil => rfl
  | cons x _ ih => simp [ih]
  | swap x y l => simp; omega
  | trans _ _ a b => exact a.trans b
theorem place_tD {α : Type} [DecidableEq α] [Datum α] (x : α) : ∀ xs : List α, x ∈ xs → ∃ j, (xs.map tD).findIdx? (fun y => PyData.eqv y (tD x)) = some j ∧ (xs.map tD).eraseIdx j = (xs.erase x).map tD
  | [], h => by simp at h
  | y :: ys, h => by
    rw [List.map_cons, List.findIdx?_cons, Datum.eqv]
    by_cases e : y = x
    · subst e
      exact ⟨0, by simp, by simp⟩
    · have hx : x ∈ ys := by
        rcases List.mem_cons.mp h with q | q
        · exact absurd q.symm e
        · exact q
      obtain ⟨j, h1, h2⟩ := place_tD x ys hx
      refine ⟨j + 1, by simp [e, h1], ?_⟩
      rw [List.eraseIdx_cons_succ, h2, List.erase_cons_tail (by simpa using e), List.map_cons]
theorem remove_tD {α : Type} [DecidableEq α] [Datum α] {xs : List α} {x : α} (hl : xs.length ≤ 16777216) (hx : x ∈ xs) (hd : Datum.depth α + 1 ≤ 60 := by decide) : fRemove (xs.map tD) [tD x] = some ((xs.erase x).map tD) := by
  obtain ⟨j, h1, h2⟩ := place_tD x xs hx
  have := big
  show (if flatD (tD x) = true ∧ flatD (.list (xs.map tD)) = true ∧ (xs.map tD).length ≤ sizeLine then (PySem.SeqAt.dataPlace (xs.map tD) (tD x)).map (xs.map tD).eraseIdx else none) = _
  rw [if_pos ⟨flat_tD (by omega) x, flat_map xs hd, by rw [List.length_map]; omega⟩]
  unfold PySem.SeqAt.dataPlace
  rw [h1, Option.map_some, h2]
@[simp] theorem e_sl {f : D → Option Int → Option Int → Option D} {q : QE} {ql qh : QO} {ρ : Env} {P : D → Prop} : qSl f q ql qh ρ P = q ρ (fun d => ql ρ fun lo => qh ρ fun hi => ∃ z, f d lo hi = some z ∧ P z) := rfl
@[simp] theorem e_none {ρ : Env} {P : Option Int → Prop} : qNone ρ P = P none := rfl
@[simp] theorem e_some {q : QE} {ρ : Env} {P : Option Int → Prop} : qSome q ρ P = q ρ (fun d => ∃ i, d = .int i ∧ P (some i)) := rfl
theorem slice_to {ds : List D} {i : Nat} : oSlice (.list ds) none (some (i : Int)) = some (.list (ds.take i)) := by
  show some (PyData.list (cutL ds none (some (i : Int)))) = _
  unfold cutL
  rw [HT.sIx_none, HT.sIx_nat, List.drop_zero, Nat.sub_zero]
  congr 2
  by_cases h : i ≤ ds.length
  · rw [Nat.min_eq_left h]
  · rw [Nat.min_eq_right (by omega), List.take_of_length_le (by omega), List.take_of_length_le (by omega)]
theorem slice_from {ds : List D} {i : Nat} : oSlice (.list ds) (some (i : Int)) none = some (.list (ds.drop i)) := by
  show some (PyData.list (cutL ds (some (i : Int)) none)) = _
  unfold cutL
  rw [HT.sIx_none, HT.sIx_nat]
  congr 2
  by_cases h : i ≤ ds.length
  · rw [Nat.min_eq_left h, List.take_of_length_le (by simp)]
  · rw [Nat.min_eq_right (by omega), Nat.sub_self, List.take_zero, List.drop_of_length_le (by omega)]
theorem slice_last {ds : List D} {d : D} : oSlice (.list (ds ++ [d])) none (some (-1)) = some (.list ds) := by
  show some (PyData.list (cutL (ds ++ [d]) none (some (-1)))) = _
  unfold cutL
  have e : HT.sIx (ds ++ [d]).length (ds ++ [d]).length (some (-1)) = ds.length := by
    simp [HT.sIx]; omega
  rw [HT.sIx_none, e]
  simp
/-! lending, slot by slot -/
def lendS : Sl → Sl
  | .val d => .old d
  | s => s
def unlendS : Sl → Sl
  | .old d => .val d
  | .bor d => .own d
  | .val d => if isSc d = true then .val d else .no
  | .scr ns => .scr ns
  | _ => .no
def okS : Sl → Bool
  | .own _ => false
  | .bor _ => false
  | .old _ => false
  | _ => true
def nbS : Sl → Bool
  | .bor _ => false
  | _ => true
@[simp] theorem okS_no : okS .no = true := rfl
@[simp] theorem okS_val {d : D} : okS (.val d) = true := rfl
@[simp] theorem okS_scr {ns : List Int} : okS (.scr ns) = true := rfl
@[simp] theorem nbS_no : nbS .no = true := rfl
@[simp] theorem nbS_val {d : D} : nbS (.val d) = true := rfl
@[simp] theorem nbS_old {d : D} : nbS (.old d) = true := rfl
@[simp] theorem nbS_own {d : D} : nbS (.own d) = true := rfl
@[simp] theorem nbS_scr {ns : List Int} : nbS (.scr ns) = true := rfl
@[simp] theorem lendS_val {d : D} : lendS (.val d) = .old d := rfl
@[simp] theorem lendS_scr {ns : List Int} : lendS (.scr ns) = .scr ns := rfl
theorem lend_eq (i : Nat) (d : D) (ρ : Env) : lend i d ρ = (ρ.map lendS).set i (.bor d) := by
  unfold lend
  congr 2
theorem unlend_eq (ρ : Env) : unlend ρ = ρ.map unlendS := by
  unfold unlend
  congr 1
def lendOkR : Nat → Env → Bool
  | _, [] => true
  | 0, _ :: r => r.all okS
  | i + 1, s :: r => okS s && lendOkR i r
def borOkR : Nat → Env → Bool
  | _, [] => true
  | 0, _ :: r => r.all nbS
  | i + 1, s :: r => nbS s && borOkR i r
theorem all_at {p : Sl → Bool} : ∀ {r : Env} {j : Nat} {s : Sl}, r.all p = true → r[j]? = some s → p s = true := fun h e => List.all_eq_true.mp h _ (List.mem_of_getElem? e)
theorem lendOkR_at : ∀ (i : Nat) (ρ : Env) (j : Nat) (s : Sl), lendOkR i ρ = true → ρ[j]? = some s → j ≠ i → okS s = true
  | _, [], j, s, _, e, _ => by simp at e
  | 0, _ :: r, 0, s, _, _, n => (n rfl).elim
  | 0, _ :: r, j + 1, s, h, e, _ => all_at (r := r) (j := j) h (by simpa using e)
  | i + 1, x :: r, 0, s, h, e, _ => by
    simp only [lendOkR, Bool.and_eq_true] at h
    simp at e; subst e; exact h.1
  | i + 1, x :: r, j + 1, s, h, e, n => by
    simp only [lendOkR, Bool.and_eq_true] at h
    exact lendOkR_at i r j s h.2 (by simpa using e) (by omega)
theorem borOkR_at : ∀ (i : Nat) (ρ : Env) (j : Nat) (s : Sl), borOkR i ρ = true → ρ[j]? = some s → j ≠ i → nbS s = true
  | _, [], j, s, _, e, _ => by simp at e
  | 0, _ :: r, 0, s, _, _, n => (n rfl).elim
  | 0, _ :: r, j + 1, s, h, e, _ => all_at (r := r) (j := j) h (by simpa using e)
  | i + 1, x :: r, 0, s, h, e, _ => by
    simp only [borOkR, Bool.and_eq_true] at h
    simp at e; subst e; exact h.1
  | i + 1, x :: r, j + 1, s, h, e, n => by
    simp only [borOkR, Bool.and_eq_true] at h
    exact borOkR_at i r j s h.2 (by simpa using e) (by omega)
theorem lendOk_of {i : Nat} {ρ : Env} (h : lendOkR i ρ = true) : lendOk i ρ = true := by
  unfold lendOk
  rw [List.all_eq_true]
  intro j hj
  by_cases e : j = i
  · simp [e]
  · have hl : j < ρ.length := List.mem_range.mp hj
    have := lendOkR_at i ρ j ρ[j] h (List.getElem?_eq_getElem hl) e
    rw [List.getElem?_eq_getElem hl, Bool.or_eq_true]
    right
    revert this
    generalize ρ[j] = s
    cases s <;> simp [okS]
theorem borOk_of {i : Nat} {ρ : Env} (h : borOkR i ρ = true) : borOk i ρ = true := by
  unfold borOk
  rw [List.all_eq_true]
  intro j hj
  by_cases e : j = i
  · simp [e]
  · have hl : j < ρ.length := List.mem_range.mp hj
    have := borOkR_at i ρ j ρ[j] h (List.getElem?_eq_getElem hl) e
    rw [List.getElem?_eq_getElem hl, Bool.or_eq_true]
    right
    revert this
    generalize ρ[j] = s
    cases s <;> simp [nbS]
theorem nb_lend {s : Sl} (h : okS s = true) : nbS (lendS s) = true := by cases s <;> simp [okS] at h <;> rfl
theorem ok_unlend {s : Sl} (h : nbS s = true) : okS (unlendS s) = true := by
  cases s with
  | bor d => simp [nbS] at h
  | val d => simp only [unlendS]; split <;> rfl
  | _ => rfl
theorem sum_bound {xs : List Int} {B : Int} (h : ∀ x ∈ xs, 0 ≤ x ∧ x ≤ B) : 0 ≤ xs.sum ∧ xs.sum ≤ B * xs.length := by
  induction xs with
  | nil => simp
  | cons x xs ih =>
    have a := ih fun y hy => h y (List.mem_cons_of_mem _ hy)
    have b := h x List.mem_cons_self
    rw [List.sum_cons, List.length_cons]
    have : B * ((xs.length + 1 : Nat) : Int) = B * xs.length + B := by rw [Int.natCast_add, Int.mul_add]; simp
    omega
end VL
namespace VL
open PySem PySem.Spec PyProof.Rows L2
/-! ### two clauses -/
def qz : Sl → Bool
  | .own _ => false
  | .bor _ => false
  | _ => true
@[simp] theorem qz_no : qz .no = true := rfl
@[simp] theorem qz_val {d : D} : qz (.val d) = true := rfl
@[simp] theorem qz_old {d : D} : qz (.old d) = true := rfl
@[simp] theorem qz_scr {ns : List Int} : qz (.scr ns) = true := rfl
theorem SlotsB.still {K : PySem.W.Frag} {H0 B F H F' H' : Hp} {ρ : Env} {σ : St} (S : SlotsB K H0 B F H ρ σ) (hq : ρ.all qz = true) (sF : Sub F F') (h0 : Sub H0 H') (hs : Sub F' H') : SlotsB K H0 B F' H' ρ σ := by
  refine ⟨h0, S.bf.trans sF, hs, S.len, fun i s x h1 h2 => ?_, S.sep⟩
  have q := S.ok i s x h1 h2
  have z := all_at hq h1
  cases s with
  | no => trivial
  | val d => obtain ⟨v, e, r⟩ := q; exact ⟨v, e, r.mono sF⟩
  | old d => exact q
  | scr ns => exact q
  | own d => cases z
  | bor d => cases z
theorem keep_at {D : Addr} {acc : List V} {Fa Ha Fb Hb : Hp} (gg : Grow Fa Ha Fb Hb) (f : Fa D = none) (h : Ha D = some (.lst acc)) : Fb D = none ∧ Hb D = some (.lst acc) := by
  refine ⟨?_, gg.h _ _ h⟩
  cases z : Fb D with
  | none => rfl
  | some u =>
    rcases gg.n D (by rw [z]; simp) with y | y
    · exact absurd f y
    · rw [h] at y; cases y
def lcIn (st : D → (Option D → Prop) → Prop) : List D → List D → (List D → Prop) → Prop
  | [], acc, k => k acc
  | d :: ds, acc, k => st d fun o => (o = none ∨ acc.length < sizeLine) ∧ lcIn st ds (acc ++ o.toList) k
def lcOut (st : D → List D → (List D → Prop) → Prop) : List D → List D → (List D → Prop) → Prop
  | [], acc, P => P acc
  | d :: ds, acc, P => st d acc fun acc' => lcOut st ds acc' P
def st1 (qg1 : QG) (qt1 : QT) (qe : QE) (vs1 : List Nat) (ρ2 : Env) : D → (Option D → Prop) → Prop := fun d k => qg1 d (wipeR ρ2 vs1) fun ρ3 => qt1 ρ3 fun b => if b = true then qe ρ3 fun y => k (some y) else k none
def st2 (qg : QG) (qt : QT) (qi1 : QI) (qg1 : QG) (qt1 : QT) (qe : QE) (vs vs1 : List Nat) (ρ : Env) : D → List D → (List D → Prop) → Prop := fun d acc k => qg d (wipeR ρ vs) fun ρ2 => ρ2.all qz = true ∧ qt ρ2 fun b => if b = true then qi1 ρ2 fun ds1 => lcIn (st1 qg1 qt1 qe vs1 ρ2) ds1 acc k else k acc
def qLc2 (qi : QI) (qg : QG) (qt : QT) (qi1 : QI) (qg1 : QG) (qt1 : QT) (qe : QE) (vs vs1 : List Nat) : QE := fun ρ P => qi ρ fun ds => lcOut (st2 qg qt qi1 qg1 qt1 qe vs vs1 ρ) ds [] fun out => P (.list out)
theorem sndLc2 {K : PySem.W.Frag} {md : Md} {wi wi1 : TI} {g g1 : TG} {tt tt1 : TT} {te : TE} {qi qi1 : QI} {qg qg1 : QG} {qt qt1 : QT} {qe : QE} {ts ts1 vs vs1 : List Nat} (hi : SndI K md wi qi) (hg : SndG K ts g qg) (ht : SndT K tt qt) (hi1 : SndI K .val wi1 qi1) (hg1 : SndG K ts1 g1 qg1) (ht1 : SndT K tt1 qt1) (he : Snd K .val te qe) (hts : ∀ i ∈ ts, i ∈ vs) (hts1 : ∀ i ∈ ts1, i ∈ vs1) :
    Snd K .own (tLc2 wi g tt wi1 g1 tt1 te vs vs1) (qLc2 qi qg qt qi1 qg1 qt1 qe vs vs1) := by
  intro H0 F H ρ σ P Q S hq k
  refine hi H0 F H ρ σ _ _ S hq fun J ds F1 H1 g1 s1 ok hrun => ?_
  intro D nD
  have S1 := S.grow g1 s1
  refine ⟨fun i m H' => ∃ F' acc accD, m = ds.length - i ∧ i ≤ ds.length ∧ H' D = some (.lst acc) ∧ Grow F1 H1 F' H' ∧ F' D = none ∧ Sub F' H' ∧ RpA K F' accD acc ∧
      lcOut (st2 qg qt qi1 qg1 qt1 qe vs vs1 ρ) (ds.drop i) accD fun out => P (.list out),
    ⟨ds.length, F1, [], [], by simp, Nat.zero_le _, upd_same, Grow.newO nD, s1.none nD, s1.trans (Sub.upd nD), rfl, hrun⟩, ?_⟩
  rintro i m H' ⟨F', acc, accD, rfl, hi', hD, gF, fD, sF, ra, run⟩
  have hG : Sub (gOf md F1 H1) H' := by
    cases md with
    | val => exact gF.f.trans sF
    | look => exact gF.h
    | own => exact gF.h
  obtain ⟨stop, go⟩ := ok i F' H' gF.f sF hG
  rcases Nat.lt_or_ge i ds.length with hlt | hge
  · obtain ⟨go1, yl⟩ := go _ (List.getElem?_eq_getElem hlt)
    rw [List.drop_eq_getElem_cons hlt] at run
    refine .inr ⟨go1, fun H2 => ∃ F2 acc2 accD2, H2 D = some (.lst acc2) ∧ Grow F1 H1 F2 H2 ∧ F2 D = none ∧ Sub F2 H2 ∧ RpA K F2 accD2 acc2 ∧
      lcOut (st2 qg qt qi1 qg1 qt1 qe vs vs1 ρ) (ds.drop (i + 1)) accD2 (fun out => P (.list out)),
      fun H2 ⟨F2, acc2, accD2, a1, a2, a3, a4, a5, a7⟩ => ⟨ds.length - (i + 1), by omega, F2, acc2, accD2, rfl, hlt, a1, a2, a3, a4, a5, a7⟩, fun x H3 hy => ?_⟩
    obtain ⟨F3, g3, s3, rx⟩ := yl x H3 hy
    obtain ⟨f3, h3⟩ := keep_at g3 fD hD
    obtain ⟨B, SB⟩ := (S1.grow gF sF).grow g3 s3
    refine hg H0 B F3 H3 (wipeR ρ vs) (L2.wipe σ vs) _ x _ _ (SB.wipe vs) rx run fun ρ2 σ2 S2 w2 q2 => ?_
    obtain ⟨hz, q2⟩ := q2
    refine ⟨(w2 vs hts).trans wipe_wipe, ?_⟩
    refine ht H0 F3 H3 ρ2 σ2 _ _ S2.ex q2 fun b F4 H4 g4 s4 q4 => ?_
    obtain ⟨f4, h4⟩ := keep_at g4 f3 h3
    have gall := (gF.trans g3).trans g4
    cases b with
    | false =>
      simp only [Bool.false_eq_true, if_false] at q4 ⊢
      exact ⟨F4, acc, accD, h4, gall, f4, s4, ra.mono (g3.f.trans g4.f), q4⟩
    | true =>
      simp only [if_true] at q4 ⊢
      refine hi1 H0 F4 H4 ρ2 σ2 _ _ (S2.ex.grow g4 s4) q4 fun J1 ds1 F5 H5 g5 s5 ok1 run1 => ?_
      obtain ⟨f5, h5⟩ := keep_at g5 f4 h4
      refine ⟨fun j m1 H' => ∃ F' acc accD, m1 = ds1.length - j ∧ j ≤ ds1.length ∧ H' D = some (.lst acc) ∧ Grow F1 H1 F' H' ∧ F' D = none ∧ Sub F' H' ∧ Sub F5 F' ∧ RpA K F' accD acc ∧
          lcIn (st1 qg1 qt1 qe vs1 ρ2) (ds1.drop j) accD fun acc' => lcOut (st2 qg qt qi1 qg1 qt1 qe vs vs1 ρ) (ds.drop (i + 1)) acc' fun out => P (.list out),
        ⟨ds1.length, F5, acc, accD, by simp, Nat.zero_le _, h5, gall.trans g5, f5, s5, Sub.refl _, ra.mono ((g3.f.trans g4.f).trans g5.f), run1⟩, ?_⟩
      rintro j m1 H6 ⟨F6, acc6, accD6, rfl, hj, hD6, gF6, fD6, sF6, s56, ra6, run6⟩
      obtain ⟨stop1, go1⟩ := ok1 j F6 H6 s56 sF6 (s56.trans sF6)
      rcases Nat.lt_or_ge j ds1.length with hlt1 | hge1
      · obtain ⟨go2, yl1⟩ := go1 _ (List.getElem?_eq_getElem hlt1)
        rw [List.drop_eq_getElem_cons hlt1] at run6
        refine .inr ⟨go2, fun H2 => ∃ F2 acc2 accD2, H2 D = some (.lst acc2) ∧ Grow F1 H1 F2 H2 ∧ F2 D = none ∧ Sub F2 H2 ∧ Sub F5 F2 ∧ RpA K F2 accD2 acc2 ∧
          lcIn (st1 qg1 qt1 qe vs1 ρ2) (ds1.drop (j + 1)) accD2 fun acc' => lcOut (st2 qg qt qi1 qg1 qt1 qe vs vs1 ρ) (ds.drop (i + 1)) acc' fun out => P (.list out),
          fun H2 ⟨F2, acc2, accD2, a1, a2, a3, a4, a5, a6, a7⟩ => ⟨ds1.length - (j + 1), by omega, F2, acc2, accD2, rfl, hlt1, a1, a2, a3, a4, a5, a6, a7⟩, fun x1 H7 hy1 => ?_⟩
        obtain ⟨F7, g7, s7, rx1⟩ := yl1 x1 H7 hy1
        obtain ⟨f7, h7⟩ := keep_at g7 fD6 hD6
        have S7 : SlotsB K H0 B F7 H7 ρ2 σ2 := S2.still hz ((((g4.f.trans g5.f).trans s56).trans g7.f)) ((S1.choose_spec.h0.trans gF6.h).trans g7.h) s7
        refine hg1 H0 B F7 H7 (wipeR ρ2 vs1) (L2.wipe σ2 vs1) _ x1 _ _ (S7.wipe vs1) rx1 run6 fun ρ3 σ3 S3 w3 q3 => ?_
        refine ⟨(w3 vs1 hts1).trans wipe_wipe, ?_⟩
        refine ht1 H0 F7 H7 ρ3 σ3 _ _ S3.ex q3 fun b F8 H8 g8 s8 q8 => ?_
        obtain ⟨f8, h8⟩ := keep_at g8 f7 h7
        have g18 := (gF6.trans g7).trans g8
        cases b with
        | false =>
          simp only [Bool.false_eq_true, if_false] at q8 ⊢
          exact ⟨F8, acc6, accD6, h8, g18, f8, s8, (s56.trans g7.f).trans g8.f, ra6.mono (g7.f.trans g8.f), by simpa using q8.2⟩
        | true =>
          simp only [if_true] at q8 ⊢
          refine he H0 F8 H8 ρ3 σ3 _ _ (S3.ex.grow g8 s8) q8 fun y d F9 H9 g9 s9 r9 q9 => ?_
          obtain ⟨f9, h9⟩ := keep_at g9 f8 h8
          have g19 := g18.trans g9
          have hlen : acc6.length < sizeLine := by
            rcases q9.1 with z | z
            · cases z
            · rw [ra6.len]; exact z
          refine ⟨acc6, h9, hlen, F9, acc6 ++ [y], accD6 ++ [d], upd_same, ⟨g19.f, g19.h.updR nD, fun a ha => g19.n a ha⟩, f9, s9.updR f9, ((s56.trans g7.f).trans g8.f).trans g9.f, ?_, by simpa using q9.2⟩
          exact (ra6.mono ((g7.f.trans g8.f).trans g9.f)).snoc r9
      · have e : j = ds1.length := by omega
        refine .inl ⟨stop1 e, ?_⟩
        rw [e, List.drop_length] at run6
        exact ⟨F6, acc6, accD6, hD6, gF6, fD6, sF6, ra6, run6⟩
  · have e : i = ds.length := by omega
    refine .inl ⟨stop e, ?_⟩
    rw [e, List.drop_length] at run
    have gg := g1.trans gF
    exact k (.ref D) (.list accD) F' H' gg sF (.inr ⟨D, rfl, g1.h.none nD, fD, (show OwnAt K F' H' D (.list accD) from ⟨acc, hD, ra⟩)⟩) run
section
variable {X : Cx} {md : Md} {elt tg iter tg1 iter1 : Expr} {ifs ifs1 : List Expr} {scope : Scope} {own : List (Str × Nat)} {pos spos : Pos} {wi wi1 : TI} {g g1 : TG} {tt tt1 : TT} {te : TE} {qi qi1 : QI} {qg qg1 : QG} {qt qt1 : QT} {qe : QE} {ts ts1 vs1 : List Nat}
theorem ve_lc2 (vs1 : List Nat) (hc : X.calm = true) (hN : X.N.Nodup) (hi : VI md X tg iter wi qi) (ok : BlkOk X.N X.env.scope scope own) (hv : ∀ i ∈ vs1, i ∈ own.map (·.2))
    (hg : ∀ (s : Shared) (H : Hp) (C : Addr) (cl : List (Str × Addr)) (fp : List Addr), VG (X.blk s H scope (compEnvC scope cl C X.env) fp) tg ts g qg)
    (ht : ∀ (s : Shared) (H : Hp) (C : Addr) (cl : List (Str × Addr)) (fp : List Addr), VTs (X.blk s H scope (compEnvC scope cl C X.env) fp) ifs tt qt)
    (hi1 : ∀ (s : Shared) (H : Hp) (C : Addr) (cl : List (Str × Addr)) (fp : List Addr), VI .val (X.blk s H scope (compEnvC scope cl C X.env) fp) tg1 iter1 wi1 qi1)
    (hg1 : ∀ (s : Shared) (H : Hp) (C : Addr) (cl : List (Str × Addr)) (fp : List Addr), VG (X.blk s H scope (compEnvC scope cl C X.env) fp) tg1 ts1 g1 qg1)
    (ht1 : ∀ (s : Shared) (H : Hp) (C : Addr) (cl : List (Str × Addr)) (fp : List Addr), VTs (X.blk s H scope (compEnvC scope cl C X.env) fp) ifs1 tt1 qt1)
    (he : ∀ (s : Shared) (H : Hp) (C : Addr) (cl : List (Str × Addr)) (fp : List Addr), VE .val (X.blk s H scope (compEnvC scope cl C X.env) fp) elt te qe)
    (hts : ∀ i ∈ ts, i ∈ own.map (·.2) := by decide) (hts1 : ∀ i ∈ ts1, i ∈ vs1 := by decide) (hs : ∀ x, foldedSetIterable iter X.env x = pure x := by intro _; rfl) (hs1 : ∀ env x, foldedSetIterable iter1 env x = pure x := by intro _ _; rfl) :
    VE .own X (.ListComp elt [⟨tg, iter, ifs, 0⟩, ⟨tg1, iter1, ifs1, 0⟩] scope pos) (tLc2 wi g tt wi1 g1 tt1 te (own.map (·.2)) vs1) (qLc2 qi qg qt qi1 qg1 qt1 qe (own.map (·.2)) vs1) :=
  ⟨pe_lc2 hc hN hi.pi ok hv (fun s H C cl fp => (hg s H C cl fp).pg) (fun s H C cl fp => (ht s H C cl fp).pts) (fun s H C cl fp => (hi1 s H C cl fp).pi) (fun s H C cl fp => (hg1 s H C cl fp).pg) (fun s H C cl fp => (ht1 s H C cl fp).pts) (fun s H C cl fp => (he s H C cl fp).pe) hs hs1,
    sndLc2 hi.sd (hg X.s_0 X.H_0 0 [] []).sd (ht X.s_0 X.H_0 0 [] []).sd (hi1 X.s_0 X.H_0 0 [] []).sd (hg1 X.s_0 X.H_0 0 [] []).sd (ht1 X.s_0 X.H_0 0 [] []).sd (he X.s_0 X.H_0 0 [] []).sd hts hts1⟩
end
/-! ### gcd -/
def oGcd : List D → Option D
  | [.int a, .int b] => some (.int ((Nat.gcd a.natAbs b.natAbs : Nat) : Int))
  | _ => none
theorem opN_gcd {K : PySem.W.Frag} : OpN K .val oGcd rGcd := by
  intro F H ds z vs Q sb hv e k
  unfold oGcd at e
  split at e
  · obtain ⟨v, w, ev, h, h2⟩ := hv.two
    cases e
    have := Lk.int h
    subst this
    have := Lk.int h2
    subst this
    exact ⟨_, _, ev, k _ F H (Grow.refl _ _) sb rfl⟩
  · cases e
section
variable {X : Cx} {e : Expr} {es : List Expr} {tA : TA} {qA : QA} {x : Str} {p pos : Pos}
/-- a module's name for a built-in function -/
theorem ve_callM {md : Md} {id : String} {f : List D → Option D} {r : List V → Hp → VK → Prop} (hc : CallR X (.builtin id) r) (ho : OpN X.K md f r) (hg : Gl X x) (hm : X.mg x = some (.builtin id)) (ha : VA .look X (e :: es) tA qA)
    (hdb : (x == ("__debug__" : Str)) = false := by decide) (he : starEach (e :: es) X.env = (false, eval e X.env) :: starEach es X.env := by rfl) (hpl : (backTo pos (starEach es X.env)).any (·.1) = false := by rfl) :
    VE md X (.Call (.Name x p) (e :: es) [] pos) (tCB r tA) (qN f qA) := ⟨pe_callBfun hc hg hm ha.pa hdb he hpl, sndN ho ha.sd⟩
end
/-! ### a walk over a tuple -/
section
variable {X : Cx} {tg e : Expr} {t : TE} {q : QE}
def qITup (q : QE) : QI := fun ρ P => q ρ fun d => ∃ ds, d = .tuple ds ∧ P ds
theorem vi_tup (h : VE .val X e t q) : VI .val X tg e (iTup X.K t) (qITup q) := by
  refine ⟨pi_tup h.pe, fun H0 F H ρ σ P R S hq k => ?_⟩
  refine h.sd H0 F H ρ σ _ _ S hq fun v d F1 H1 g1 s1 r1 ⟨ds, ed, p⟩ => ?_
  subst ed
  obtain ⟨a, xs, ev, ha, ra⟩ := r1
  refine ⟨a, ev, ⟨xs, s1.sqT ha⟩, k _ ds F1 H1 g1 s1 (fun i F2 H2 h1 h2 h3 => ?_) p⟩
  have hx := (h1.trans h2).sqT ha
  refine ⟨fun hi => ⟨xs, hx, by rw [ra.len]; omega⟩, fun d hd => ?_⟩
  obtain ⟨x, hx1, hr⟩ := ra.get hd
  refine ⟨⟨xs, x, hx, hx1⟩, fun y H3 ⟨e3, hy⟩ => ?_⟩
  subst e3
  have := hy xs hx
  rw [hx1] at this
  cases this
  exact ⟨F2, Grow.refl _ _, h2, hr.mono h1⟩
theorem vi_tupK (K : PySem.W.Frag) (hK : X.K = K) (h : VE .val X e t q) : VI .val X tg e (iTup K t) (qITup q) := by subst hK; exact vi_tup h
end
/-! ### a, b = x, y: a one's own -/
section
variable {X : Cx} {fr : Bool}
def qParO (i j : Nat) (qa qb : QE) : QS := fun Dv ρ => qa ρ fun d => qb ρ fun e => Dv.nx ((ρ.set i (ownSl d)).set j (.val e))
theorem vs_parO {i j : Nat} {x y : Str} {e1 e2 : Expr} {ta tb : TE} {qa qb : QE} {px py pt pos : Pos} {kt k2 pt2} (hc : X.calm = true) (hN : X.N.Nodup) (hi : X.N[i]? = some x) (hj : X.N[j]? = some y) (hij : i ≠ j)
    (hx : X.env.scope.names.lookup x = some .local) (hy : X.env.scope.names.lookup y = some .local) (ha : VE .own X e1 ta qa) (hb : VE .val X e2 tb qb)
    (hw : swappedStores [.Tuple [.Name x px, .Name y py] kt pt] (.Tuple [e1, e2] k2 pt2) X.env = pure (some [x, y]))
    (he : starEach [e1, e2] X.env = (false, eval e1 X.env) :: starEach [e2] X.env := by rfl) (he2 : starEach [e2] X.env = (false, eval e2 X.env) :: starEach [] X.env := by rfl)
    (hs : swapsWithSole [.Tuple [.Name x px, .Name y py] kt pt] (.Tuple [e1, e2] k2 pt2) pos.line X.env = pure false := by rfl) :
    VS fr X (.Assign [.Tuple [.Name x px, .Name y py] kt pt] (.Tuple [e1, e2] k2 pt2) pos) (tPar i j (tCons ta (tCons tb tNil))) (qParO i j qa qb) := by
  refine ⟨ps_par hc hN hi hj hij hx hy (pa_cons ha.pe (pa_cons hb.pe pa_nil he2) he) hw hs, fun F0 H0 B F H ρ σ Dv Dh S g hq p => ?_⟩
  refine ha.sd H0 F H ρ σ _ _ S.ex hq fun v d F1 H1 g1 s1 r1 q1 => ?_
  refine hb.sd H0 F1 H1 ρ σ _ _ (S.grow g1 s1).ex q1 fun w e F2 H2 g2 s2 r2 q2 => ?_
  have S2 := (S.setNew (i := i) g g1 s1 r1).grow g2 s2
  exact ⟨v, w, rfl, p.nx F2 H2 _ _ (S2.set r2) ((g.trans g1).trans g2) (g1.f.trans g2.f) q2⟩
@[simp] theorem e_parO {i j : Nat} {qa qb : QE} {Dv : VEnds} {ρ : Env} : qParO i j qa qb Dv ρ = qa ρ (fun d => qb ρ fun e => Dv.nx ((ρ.set i (ownSl d)).set j (.val e))) := rfl
@[simp] theorem e_iTup {q : QE} {ρ : Env} {PA : List D → Prop} : qITup q ρ PA = q ρ (fun d => ∃ ds, d = .tuple ds ∧ PA ds) := rfl
@[simp] theorem e_lc2 {qi : QI} {qg : QG} {qt : QT} {qi1 : QI} {qg1 : QG} {qt1 : QT} {qe : QE} {vs vs1 : List Nat} {ρ : Env} {P : D → Prop} : qLc2 qi qg qt qi1 qg1 qt1 qe vs vs1 ρ P = qi ρ (fun ds => lcOut (st2 qg qt qi1 qg1 qt1 qe vs vs1 ρ) ds [] fun out => P (.list out)) := rfl
end
/-! ### the head, one look more -/
abbrev AlX : Type := Bool × He.AlD
def obsX (ex : PySem.W.Frag → Bool) (n : Nat) (fa : List He.Fa) (fn : List He.DefD) (g : Addr → Option Obj) : AlX := (ex (He.frG g (He.asD g n)), He.obsD fa fn (He.frG g (He.asD g n)))
def hookX (ex : PySem.W.Frag → Bool) (n : Nat) (fa : List He.Fa) (fn : List He.DefD) : PySem.W.Hook where
  α := AlX
  obs := fun s => obsX ex n fa fn s.heap.get?
  val := fun _ => (true, He.valD fn)
  says := fun _ h => ∃ K : PySem.W.Frag, K.In h ∧ (ex K = true ∧ He.SaysD fa fn K)
  of := fun _ _ e => ⟨_, He.frG_in, congrArg Prod.fst e, congrArg Prod.snd e⟩
  keeps := fun _ _ _ ⟨K, hK, c⟩ k => ⟨K, PySem.W.Frag.In.keeps hK k, c⟩
theorem obsX_eq {ex : PySem.W.Frag → Bool} {n : Nat} {fa : List He.Fa} {fn : List He.DefD} {g : Addr → Option Obj} {s : Shared} (h : ∀ a, g a = s.heap.get? a) : obsX ex n fa fn g = (hookX ex n fa fn).obs s := by
  have e : g = s.heap.get? := funext h
  rw [e]; rfl
/-- the module's name x stands for the built-in function id -/
def isBlt (x : Str) (id : String) (K : PySem.W.Frag) : Bool := He.eqO (PySem.W.nsIn K mainGlobals x) (some (some (.builtin id)))
theorem isBlt_ok {K : PySem.W.Frag} {h : Heap} {mg : Str → Option Value} (X : K.In h) (G : h.Ns mainGlobals mg) {x : Str} {id : String} (c : isBlt x id K = true) : mg x = some (.builtin id) := PySem.W.mg_of X G (He.eqO_ok c)
/-! ### a < b < c < d, as a test -/
section
variable {X : Cx} {a b c d : Expr} {ta tb tc td : TE} {qa qb qc qd : QE} {pos : Pos}
def tChain3 (r r' r2 : R2) (ta tb tc td : TE) : TT := fun σ H Q => ta σ H fun x H1 => tb σ H1 fun y H2 => r x y H2 fun z H3 => ∃ k, z = .bl k ∧
  (if k = true then tc σ H3 fun w H4 => r' y w H4 fun z H5 => ∃ k, z = .bl k ∧ (if k = true then td σ H5 fun u H6 => r2 w u H6 fun z H7 => ∃ k, z = .bl k ∧ Q k H7 else Q false H5) else Q false H3)
def qChain3 (f g h : D → D → Option D) (qa qb qc qd : QE) : QT := fun ρ P => qa ρ fun x => qb ρ fun y => ∃ k, f x y = some (.bool k) ∧ (if k = true then qc ρ fun z => ∃ k, g y z = some (.bool k) ∧ (if k = true then qd ρ fun u => ∃ k, h z u = some (.bool k) ∧ P k else P false) else P false)
theorem pt_chain3 {op op' op2 : CmpOp} {r r' r2 : R2} (ho : OpR X (compareOp op) r) (ho' : OpR X (compareOp op') r') (ho2 : OpR X (compareOp op2) r2) (ha : PE X a ta) (hb : PE X b tb) (hc : PE X c tc) (hd : PE X d td)
    (hm : lastMarks [op, op', op2] [b, c, d] = false := by with_unfolding_all rfl) : PT X (.Compare a [op, op', op2] [b, c, d] pos) (tChain3 r r' r2 ta tb tc td) := by
  refine ⟨fun pins s σ H Q I h => ?_⟩
  refine isTrue_chain (thn (ha.run pins s σ H _ I h) fun v s1 ⟨x, H1, I1, r1, q1⟩ => test_link (thn (hb.run pins s1 σ H1 _ I1 q1) fun u s2 ⟨y, H2, I2, r2, q2⟩ =>
    thn (ho pins s2 σ H2 x y v u _ I2 r1 r2 q2) fun d s3 ⟨z, H3, I3, r3, k, e, q3⟩ => ?_)) hm
  subst e
  cases r3
  refine wpAny_truthy_bool ?_
  cases k with
  | false => exact ite_ff ⟨H3, I3, q3⟩
  | true =>
    refine ite_tt (test_link (thn (hc.run pins s3 σ H3 _ I3 q3) fun w' s4 ⟨z', H4, I4, r4, q4⟩ => thn (ho' pins s4 σ H4 y z' u w' _ I4 r2 r4 q4) fun d' s5 ⟨z2, H5, I5, r5, k2, e2, q5⟩ => ?_))
    subst e2
    cases r5
    refine wpAny_truthy_bool ?_
    cases k2 with
    | false => exact ite_ff ⟨H5, I5, q5⟩
    | true =>
      refine ite_tt (test_last (thn (hd.run pins s5 σ H5 _ I5 q5) fun w2 s6 ⟨z6, H6, I6, r6, q6⟩ => thn (ho2 pins s6 σ H6 z' z6 w' w2 _ I6 r4 r6 q6) fun d2 s7 ⟨z7, H7, I7, r7, k7, e7, q7⟩ => ?_))
      subst e7
      cases r7
      exact wpAny_truthy_bool ⟨H7, I7, q7⟩
theorem sndChain3 {K : PySem.W.Frag} {f g h : D → D → Option D} {r r' r2 : R2} (ho : Op2 K .val f r) (ho' : Op2 K .val g r') (ho2 : Op2 K .val h r2) (ha : Snd K .look ta qa) (hb : Snd K .look tb qb) (hc : Snd K .look tc qc) (hd : Snd K .look td qd) : SndT K (tChain3 r r' r2 ta tb tc td) (qChain3 f g h qa qb qc qd) := by
  intro H0 F H ρ σ P Q S hq k
  refine ha H0 F H ρ σ _ _ S hq fun x dx F1 H1 g1 s1 r1 h1 => ?_
  refine hb H0 F1 H1 ρ σ _ _ (S.grow g1 s1) h1 fun y dy F2 H2 g2 s2 r2 ⟨b, e, p⟩ => ?_
  refine ho F2 H2 dx dy _ x y _ s2 (Lk.grow r1 g2) r2 e fun v F3 H3 g3 s3 r3 => ?_
  refine ⟨b, r3, ?_⟩
  have g13 := (g1.trans g2).trans g3
  have S3 := ((S.grow g1 s1).grow g2 s2).grow g3 s3
  cases b with
  | false => exact k false F3 H3 g13 s3 p
  | true =>
    refine hc H0 F3 H3 ρ σ _ _ S3 p fun z dz F4 H4 g4 s4 r4 ⟨w, e', p'⟩ => ?_
    refine ho' F4 H4 dy dz _ y z _ s4 (Lk.grow (Lk.grow r2 g3) g4) r4 e' fun v' F5 H5 g5 s5 r5 => ?_
    refine ⟨w, r5, ?_⟩
    have g15 := (g13.trans g4).trans g5
    cases w with
    | false => exact k false F5 H5 g15 s5 p'
    | true =>
      refine hd H0 F5 H5 ρ σ _ _ ((S3.grow g4 s4).grow g5 s5) p' fun u du F6 H6 g6 s6 r6 ⟨w2, e2, p2⟩ => ?_
      refine ho2 F6 H6 dz du _ z u _ s6 (Lk.grow (Lk.grow r4 g5) g6) r6 e2 fun v2 F7 H7 g7 s7 r7 => ?_
      exact ⟨w2, r7, k w2 F7 H7 ((g15.trans g6).trans g7) s7 p2⟩
theorem vt_chain3 {op op' op2 : CmpOp} {f g h : D → D → Option D} {r r' r2 : R2} (hr : OpR X (compareOp op) r) (hr' : OpR X (compareOp op') r') (hr2 : OpR X (compareOp op2) r2) (ho : Op2 X.K .val f r) (ho' : Op2 X.K .val g r') (ho2 : Op2 X.K .val h r2) (ha : VE .look X a ta qa) (hb : VE .look X b tb qb) (hc : VE .look X c tc qc) (hd : VE .look X d td qd) (hm : lastMarks [op, op', op2] [b, c, d] = false := by with_unfolding_all rfl) :
    VT X (.Compare a [op, op', op2] [b, c, d] pos) (tChain3 r r' r2 ta tb tc td) (qChain3 f g h qa qb qc qd) := ⟨pt_chain3 hr hr' hr2 ha.pe hb.pe hc.pe hd.pe hm, sndChain3 ho ho' ho2 ha.sd hb.sd hc.sd hd.sd⟩
@[simp] theorem e_chain3 {f g h : D → D → Option D} {ρ : Env} {P : Bool → Prop} : qChain3 f g h qa qb qc qd ρ P = qa ρ (fun x => qb ρ fun y => ∃ k, f x y = some (.bool k) ∧ (if k = true then qc ρ fun z => ∃ k, g y z = some (.bool k) ∧ (if k = true then qd ρ fun u => ∃ k, h z u = some (.bool k) ∧ P k else P false) else P false)) := rfl
end
/-! ### a, b = x, y through a tuple: a one's own -/
section
variable {X : Cx} {fr : Bool}
theorem vs_asgO {i j : Nat} {x y : Str} {e1 e2 : Expr} {ta tb : TE} {qa qb : QE} {px py pt pos : Pos} {kt k2 pt2} (hc : X.calm = true) (hN : X.N.Nodup) (hi : X.N[i]? = some x) (hj : X.N[j]? = some y)
    (hx : Loc X.env.scope x) (hy : Loc X.env.scope y) (ha : VE .own X e1 ta qa) (hb : VE .val X e2 tb qb)
    (he : starEach [e1, e2] X.env = (false, eval e1 X.env) :: starEach [e2] X.env := by rfl) (he2 : starEach [e2] X.env = (false, eval e2 X.env) :: starEach [] X.env := by rfl)
    (hs : swapsWithSole [.Tuple [.Name x px, .Name y py] kt pt] (.Tuple [e1, e2] k2 pt2) pos.line X.env = pure false := by rfl) (hw : swappedStores [.Tuple [.Name x px, .Name y py] kt pt] (.Tuple [e1, e2] k2 pt2) X.env = pure none := by rfl)
    (h1 : (assignEach [.Tuple [.Name x px, .Name y py] kt pt] X.env).map (·.2) = [assign (.Tuple [.Name x px, .Name y py] kt pt) X.env] := by rfl)
    (h2 : (assignEach [.Name x px, .Name y py] X.env).map (·.2) = assign (.Name x px) X.env :: (assignEach [.Name y py] X.env).map (·.2) := by rfl)
    (h3 : (assignEach [.Name y py] X.env).map (·.2) = assign (.Name y py) X.env :: (assignEach [] X.env).map (·.2) := by rfl)
    (hn : (assignEach [.Name x px, .Name y py] X.env).length = 2 := by rfl) (hst : (assignEach [.Name x px, .Name y py] X.env).findIdx? (·.1) = none := by rfl)
    (hf : X.fn x = true ∨ X.env.scope.names.lookup x = some .local := by first | exact .inl rfl | exact .inr rfl | assumption) (hf2 : X.fn y = true ∨ X.env.scope.names.lookup y = some .local := by first | exact .inl rfl | exact .inr rfl | assumption) :
    VS fr X (.Assign [.Tuple [.Name x px, .Name y py] kt pt] (.Tuple [e1, e2] k2 pt2) pos) (tAsg (tTup (tCons ta (tCons tb tNil))) (gTup X.K 2 (gCons (gName i) (gCons (gName j) gNil)))) (qParO i j qa qb) := by
  refine ⟨ps_asg (pe_tup (pa_cons ha.pe (pa_cons hb.pe pa_nil he2) he)) (pg_tup hc (pgs_cons (pg_name hN hi hx hf) (pgs_cons (pg_name hN hj hy hf2) pgs_nil h3) h2) hn hst) hs hw h1, fun F0 H0 B F H ρ σ Dv Dh S g hq p => ?_⟩
  refine ha.sd H0 F H ρ σ _ _ S.ex hq fun v d F1 H1 g1 s1 r1 q1 => ?_
  refine hb.sd H0 F1 H1 ρ σ _ _ (S.grow g1 s1).ex q1 fun w e F2 H2 g2 s2 r2 q2 => ?_
  refine ⟨Nat.le_trans (show 2 ≤ 16777216 by decide) big, fun a hp => ?_⟩
  have S2 := (S.setNew (i := i) g g1 s1 r1).grow g2 s2
  have g3 : Grow F2 H2 F2 (upd H2 a (.tup [v, w])) := Grow.newO hp
  have s3 : Sub F2 (upd H2 a (.tup [v, w])) := s2.trans (Sub.upd hp)
  have S3 := S2.grow g3 s3
  refine ⟨a, [v, w], rfl, .of upd_same, rfl, ?_⟩
  refine ⟨v, [w], rfl, w, [], rfl, rfl, ?_⟩
  exact p.nx F2 _ _ _ (S3.set r2) (((g.trans g1).trans g2).trans g3) (g1.f.trans g2.f) q2
end
end VL
namespace P49
open PySem VL L2
/- fraction
N: 0:number 1:by 2:common -/
def N_fraction : List Str := ["number", "by", "common"]
def q_fraction  : QS :=
  (qSeq (qIfS (qTst (q2 oLt (qVar 1) (qC (.int 0)))) (qPar 0 1 (qCons (q1 oNeg (qVar 0)) (qCons (q1 oNeg (qVar 1)) qNil)))
 qNext)
 (qSeq (qSet 2 (qN oGcd (qCons (qVar 0) (qCons (qVar 1) qNil))))
 (qRet (qTup (qCons (q2 oDiv (qVar 0) (qVar 2)) (qCons (q2 oDiv (qVar 1) (qVar 2)) qNil))))))
/- is_less
N: 0:one 1:two -/
def N_is_less : List Str := ["one", "two"]
def q_is_less  : QS :=
  (qRet (q2 oLt (q2 oMul (q2 oIx (qVar 0) (qC (.int 0))) (q2 oIx (qVar 1) (qC (.int 1)))) (q2 oMul (q2 oIx (qVar 1) (qC (.int 0))) (q2 oIx (qVar 0) (qC (.int 1))))))
/- is_point
N: 0:point -/
def N_is_point : List Str := ["point"]
def q_is_point  : QS :=
  (qRet (qAndV (qChain oLe oLe (q1 oNeg (qC (.int 100))) (q2 oIx (qVar 0) (qC (.int 0))) (qC (.int 100))) (qChain oLe oLe (q1 oNeg (qC (.int 100))) (q2 oIx (qVar 0) (qC (.int 1))) (qC (.int 100)))))
/- check_points
N: 0:points 1:k 2:point -/
def N_check_points : List Str := ["points", "k", "point"]
def q_check_points (S_is_point : VL.Spec) : QS :=
  (qFor (qIEnum (qCons (qVar 0) qNil)) (qGTup 2 (qGCons (qName 1) (qGCons (qName 2) qGNil)))
  (qIfS (qNot (qTst (qCall S_is_point (qCons (qVar 2) qNil)))) qNever
  qNext))
/- sign_of
N: 0:number -/
def N_sign_of : List Str := ["number"]
def q_sign_of  : QS :=
  (qRet (q2 oSub (qN oInt (qCons (q2 oGt (qVar 0) (qC (.int 0))) qNil)) (qN oInt (qCons (q2 oLt (qVar 0) (qC (.int 0))) qNil))))
/- moved
N: 0:step 1:far 2:other -/
def N_moved : List Str := ["step", "far", "other"]
def q_moved  : QS :=
  (qRet (q2 oDiv (q2 oAdd (q2 oMul (q2 oMul (qC (.int 2)) (qVar 0)) (qVar 2)) (qVar 1)) (q2 oMul (qC (.int 2)) (qVar 1))))
/- line_of
N: 0:one 1:two 2:across 3:along 4:wide 5:high 6:t -/
def N_line_of : List Str := ["one", "two", "across", "along", "wide", "high", "t"]
def q_line_of (S_moved : VL.Spec) (S_sign_of : VL.Spec) : QS :=
  (qSeq (qAsg (qTup (qCons (q2 oSub (q2 oIx (qVar 1) (qC (.int 0))) (q2 oIx (qVar 0) (qC (.int 0)))) (qCons (q2 oSub (q2 oIx (qVar 1) (qC (.int 1))) (q2 oIx (qVar 0) (qC (.int 1)))) qNil))) (qGTup 2 (qGCons (qName 2) (qGCons (qName 3) qGNil))))
 (qSeq (qIfS (qAnd (qTst (q2 oEq (qVar 2) (qC (.int 0)))) (qTst (q2 oEq (qVar 3) (qC (.int 0))))) (qRet (qLst (qCons (qVar 0) qNil)))
 qNext)
 (qSeq (qAsg (qTup (qCons (qN oAbs (qCons (qVar 2) qNil)) (qCons (qN oAbs (qCons (qVar 3) qNil)) qNil))) (qGTup 2 (qGCons (qName 4) (qGCons (qName 5) qGNil))))
 (qSeq (qIfS (qTst (q2 oGe (qVar 4) (qVar 5))) (qRet (qLc (qIRng1 (qCons (q2 oAdd (qVar 4) (qC (.int 1))) qNil)) (qName 6) qYes (qTup (qCons (q2 oAdd (q2 oIx (qVar 0) (qC (.int 0))) (q2 oMul (qVar 6) (qCall S_sign_of (qCons (qVar 2) qNil)))) (qCons (q2 oAdd (q2 oIx (qVar 0) (qC (.int 1))) (q2 oMul (qCall S_moved (qCons (qVar 6) (qCons (qVar 4) (qCons (qVar 5) qNil)))) (qCall S_sign_of (qCons (qVar 3) qNil)))) qNil))) [6]))
 qNext)
 (qRet (qLc (qIRng1 (qCons (q2 oAdd (qVar 5) (qC (.int 1))) qNil)) (qName 6) qYes (qTup (qCons (q2 oAdd (q2 oIx (qVar 0) (qC (.int 0))) (q2 oMul (qCall S_moved (qCons (qVar 6) (qCons (qVar 5) (qCons (qVar 4) qNil)))) (qCall S_sign_of (qCons (qVar 2) qNil)))) (qCons (q2 oAdd (q2 oIx (qVar 0) (qC (.int 1))) (q2 oMul (qVar 6) (qCall S_sign_of (qCons (qVar 3) qNil)))) qNil))) [6]))))))
/- line
N: 0:one 1:two -/
def N_line : List Str := ["one", "two"]
def q_line (S_check_points : VL.Spec) (S_line_of : VL.Spec) : QS :=
  (qSeq (qDrop (qCall S_check_points (qCons (qLst (qCons (qVar 0) (qCons (qVar 1) qNil))) qNil)))
 (qRet (qCall S_line_of (qCons (qVar 0) (qCons (qVar 1) qNil)))))
/- ties
N: 0:one 1:two 2:wide 3:high 4:far 5:other 6:t -/
def N_ties : List Str := ["one", "two", "wide", "high", "far", "other", "t"]
def q_ties (S_check_points : VL.Spec) : QS :=
  (qSeq (qDrop (qCall S_check_points (qCons (qLst (qCons (qVar 0) (qCons (qVar 1) qNil))) qNil)))
 (qSeq (qPar 2 3 (qCons (qN oAbs (qCons (q2 oSub (q2 oIx (qVar 1) (qC (.int 0))) (q2 oIx (qVar 0) (qC (.int 0)))) qNil)) (qCons (qN oAbs (qCons (q2 oSub (q2 oIx (qVar 1) (qC (.int 1))) (q2 oIx (qVar 0) (qC (.int 1)))) qNil)) qNil)))
 (qSeq (qAsg (qTup (qCons (qN oMax2 (qCons (qVar 2) (qCons (qVar 3) qNil))) (qCons (qN oMin2 (qCons (qVar 2) (qCons (qVar 3) qNil))) qNil))) (qGTup 2 (qGCons (qName 4) (qGCons (qName 5) qGNil))))
 (qRet (qLc (qIRng1 (qCons (q2 oAdd (qVar 4) (qC (.int 1))) qNil)) (qName 6) (qAnd (qTst (q2 oGt (qVar 4) (qC (.int 0)))) (qTst (q2 oEq (q2 oMod (q2 oMul (q2 oMul (qC (.int 2)) (qVar 6)) (qVar 5)) (q2 oMul (qC (.int 2)) (qVar 4))) (qVar 4)))) (qVar 6) [6])))))
/- check_heights
N: 0:heights 1:height -/
def N_check_heights : List Str := ["heights", "height"]
def q_check_heights  : QS :=
  (qSeq (qIfS (qNot (qTst (qChain oLe oLe (qC (.int 1)) (qN oLen (qCons (qVar 0) qNil)) (qC (.int 40))))) qNever
 qNext)
 (qFor (qIList (qVar 0)) (qName 1)
  (qIfS (qNot (qTst (qChain oLe oLe (q1 oNeg (qC (.int 1000))) (qVar 1) (qC (.int 1000))))) qNever
  qNext)))
/- asked
N: 0:heights 1:i 2:j -/
def N_asked : List Str := ["heights", "i", "j"]
def q_asked (S_fraction : VL.Spec) : QS :=
  (qRet (qCall S_fraction (qCons (q2 oSub (q2 oSub (q2 oIx (qVar 0) (qVar 2)) (q2 oIx (qVar 0) (qVar 1))) (qC (.int 1))) (qCons (q2 oSub (qVar 2) (qVar 1)) qNil))))
/- let
N: 0:heights 1:i 2:j -/
def N_let : List Str := ["heights", "i", "j"]
def q_let (S_fraction : VL.Spec) : QS :=
  (qRet (qCall S_fraction (qCons (q2 oAdd (q2 oSub (q2 oIx (qVar 0) (qVar 2)) (q2 oIx (qVar 0) (qVar 1))) (qC (.int 1))) (qCons (q2 oSub (qVar 2) (qVar 1)) qNil))))
/- pairs_of
N: 0:heights 1:i 2:j -/
def N_pairs_of : List Str := ["heights", "i", "j"]
def q_pairs_of  : QS :=
  (qRet (qLc2 (qIRng1 (qCons (qN oLen (qCons (qVar 0) qNil)) qNil)) (qName 1) qYes (qIRng2 (qCons (q2 oAdd (qVar 1) (qC (.int 1))) (qCons (qN oLen (qCons (qVar 0) qNil)) qNil))) (qName 2) qYes (qTup (qCons (qVar 1) (qCons (qVar 2) qNil))) [1, 2] [2]))
/- sharpest
N: 0:heights 1:pairs 2:one 3:two 4:i 5:j -/
def N_sharpest : List Str := ["heights", "pairs", "one", "two", "i", "j"]
def q_sharpest (S_pairs_of : VL.Spec) (S_is_less : VL.Spec) (S_asked : VL.Spec) (S_let : VL.Spec) : QS :=
  (qSeq (qSet 1 (qCall S_pairs_of (qCons (qVar 0) qNil)))
 (qSeq (qPar 2 3 (qCons (q2 oIx (qVar 1) (qC (.int 0))) (qCons (q2 oIx (qVar 1) (qC (.int 0))) qNil)))
 (qSeq (qFor (qIList (qVar 1)) (qGTup 2 (qGCons (qName 4) (qGCons (qName 5) qGNil)))
  (qSeq (qIfS (qTst (qCall S_is_less (qCons (qCall S_asked (qCons (qVar 0) (qCons (q2 oIx (qVar 2) (qC (.int 0))) (qCons (q2 oIx (qVar 2) (qC (.int 1))) qNil)))) (qCons (qCall S_asked (qCons (qVar 0) (qCons (qVar 4) (qCons (qVar 5) qNil)))) qNil)))) (qSet 2 (qTup (qCons (qVar 4) (qCons (qVar 5) qNil))))
  qNext)
  (qIfS (qTst (qCall S_is_less (qCons (qCall S_let (qCons (qVar 0) (qCons (qVar 4) (qCons (qVar 5) qNil)))) (qCons (qCall S_let (qCons (qVar 0) (qCons (q2 oIx (qVar 3) (qC (.int 0))) (qCons (q2 oIx (qVar 3) (qC (.int 1))) qNil)))) qNil)))) (qSet 3 (qTup (qCons (qVar 4) (qCons (qVar 5) qNil))))
  qNext)))
 (qRet (qTup (qCons (qVar 2) (qCons (qVar 3) qNil)))))))
/- slopes
N: 0:heights 1:one 2:two 3:least 4:most -/
def N_slopes : List Str := ["heights", "one", "two", "least", "most"]
def q_slopes (S_check_heights : VL.Spec) (S_sharpest : VL.Spec) (S_asked : VL.Spec) (S_let : VL.Spec) (S_is_less : VL.Spec) : QS :=
  (qSeq (qDrop (qCall S_check_heights (qCons (qVar 0) qNil)))
 (qSeq (qIfS (qTst (q2 oEq (qN oLen (qCons (qVar 0) qNil)) (qC (.int 1)))) (qRet (qTup (qCons (qTup (qCons (qC (.int 0)) (qCons (qC (.int 1)) qNil))) (qCons (qTup (qCons (qC (.int 0)) (qCons (qC (.int 1)) qNil))) qNil))))
 qNext)
 (qSeq (qAsg (qCall S_sharpest (qCons (qVar 0) qNil)) (qGTup 2 (qGCons (qName 1) (qGCons (qName 2) qGNil))))
 (qSeq (qPar 3 4 (qCons (qCall S_asked (qCons (qVar 0) (qCons (q2 oIx (qVar 1) (qC (.int 0))) (qCons (q2 oIx (qVar 1) (qC (.int 1))) qNil)))) (qCons (qCall S_let (qCons (qVar 0) (qCons (q2 oIx (qVar 2) (qC (.int 0))) (qCons (q2 oIx (qVar 2) (qC (.int 1))) qNil)))) qNil)))
 (qRet (qIf (qTst (qCall S_is_less (qCons (qVar 4) (qCons (qVar 3) qNil)))) (qC .none) (qTup (qCons (qVar 3) (qCons (qVar 4) qNil)))))))))
/- bars
N: 0:heights -/
def N_bars : List Str := ["heights"]
def q_bars (S_sharpest : VL.Spec) (S_slopes : VL.Spec) : QS :=
  (qRet (qIf (qTst (q2 oIs (qCall S_slopes (qCons (qVar 0) qNil)) (qC .none))) (qCall S_sharpest (qCons (qVar 0) qNil)) (qC .none)))
/- are_bars
N: 0:heights 1:one 2:two 3:i 4:j -/
def N_are_bars : List Str := ["heights", "one", "two", "i", "j"]
def q_are_bars (S_check_heights : VL.Spec) (S_is_less : VL.Spec) (S_let : VL.Spec) (S_asked : VL.Spec) : QS :=
  (qSeq (qDrop (qCall S_check_heights (qCons (qVar 0) qNil)))
 (qSeq (qFor (qITup (qTup (qCons (qVar 1) (qCons (qVar 2) qNil)))) (qGTup 2 (qGCons (qName 3) (qGCons (qName 4) qGNil)))
  (qIfS (qNot (qChain3 oLe oLt oLt (qC (.int 0)) (qVar 3) (qVar 4) (qN oLen (qCons (qVar 0) qNil)))) (qRet (qC (.bool false)))
  qNext))
 (qRet (qCall S_is_less (qCons (qCall S_let (qCons (qVar 0) (qCons (q2 oIx (qVar 2) (qC (.int 0))) (qCons (q2 oIx (qVar 2) (qC (.int 1))) qNil)))) (qCons (qCall S_asked (qCons (qVar 0) (qCons (q2 oIx (qVar 1) (qC (.int 0))) (qCons (q2 oIx (qVar 1) (qC (.int 1))) qNil)))) qNil))))))
/- _law_draws
N: 0:script 1:draws* 2:k 3:rest 4:turn 5:mixed -/
def N__law_draws : List Str := ["script", "draws", "k", "rest", "turn", "mixed"]
def q__law_draws  : QS :=
  (qSeq (qSetO 1 (qLst qNil))
 (qSeq (qFor (qIRng1 (qCons (qN oMin2 (qCons (qC (.int 63)) (qCons (qLenS 0) qNil))) qNil)) (qName 2)
  (qSeq (qSet 3 (qN oAbs (qCons (qIxS 0 (qVar 2)) qNil)))
  (qIfS (qTst (q2 oGe (qVar 3) (q2 oPow (qC (.int 10)) (qC (.int 18))))) (qFor (qIRng1 (qCons (qC (.int 60)) qNil)) (qName 4)
    (qIfS (qTst (q2 oGt (qVar 3) (qC (.int 0)))) (qSeq (qMeth 1 fAppend (qCons (q2 oMod (qN oInt (qCons (qVar 3) qNil)) (qC (.int 65536))) qNil))
     (qSet 3 (q2 oDiv (qVar 3) (qC (.int 65536)))))
    qNext))
  (qSeq (qSet 5 (q2 oMod (qN oInt (qCons (q2 oAdd (q2 oMul (qVar 3) (qC (.int 48271))) (q2 oMul (q2 oAdd (qVar 2) (qC (.int 1))) (qC (.int 69621)))) qNil)) (qC (.int 2147483647))))
   (qSeq (qSet 5 (q2 oMod (qN oInt (qCons (q2 oAdd (q2 oAdd (q2 oMul (qVar 5) (qC (.int 16807))) (q2 oMul (qC (.int 11)) (qVar 2))) (qC (.int 5))) qNil)) (qC (.int 2147483629))))
   (qSeq (qMeth 1 fAppend (qCons (q2 oMod (qN oInt (qCons (qVar 5) qNil)) (qC (.int 65536))) qNil))
   (qMeth 1 fAppend (qCons (q2 oMod (qN oInt (qCons (q2 oDiv (qVar 5) (qC (.int 65536))) qNil)) (qC (.int 32768))) qNil))))))))
 (qRetV 1)))
/- _law_mix
N: 0:draws 1:k 2:many 3:cell -/
def N__law_mix : List Str := ["draws", "k", "many", "cell"]
def q__law_mix  : QS :=
  (qSeq (qSet 3 (qC (.int 0)))
 (qSeq (qIfS (qTst (q2 oGt (qN oLen (qCons (qVar 0) qNil)) (qC (.int 0)))) (qSet 3 (q2 oIx (qVar 0) (q2 oMod (qN oInt (qCons (qVar 1) qNil)) (qN oLen (qCons (qVar 0) qNil)))))
 qNext)
 (qSeq (qIfS (qTst (q2 oLt (qVar 1) (qN oLen (qCons (qVar 0) qNil)))) (qRet (q2 oMod (qN oInt (qCons (qVar 3) qNil)) (qVar 2)))
 qNext)
 (qRet (q2 oMod (qN oInt (qCons (q2 oDiv (qN oInt (qCons (q2 oAdd (q2 oMul (qVar 3) (qC (.int 7919))) (q2 oMul (qVar 1) (qC (.int 104729)))) qNil)) (qC (.int 3))) qNil)) (qVar 2))))))
/- _law_fraction
N: 0:n 1:d 2:one 3:two -/
def N__law_fraction : List Str := ["n", "d", "one", "two"]
def q__law_fraction  : QS :=
  (qSeq (qPar 2 3 (qCons (qN oAbs (qCons (qVar 0) qNil)) (qCons (qN oAbs (qCons (qVar 1) qNil)) qNil)))
 (qSeq (qWhile (qTst (q2 oNe (qVar 3) (qC (.int 0))))
  (qPar 2 3 (qCons (qVar 3) (qCons (q2 oMod (qN oInt (qCons (qVar 2) qNil)) (qVar 3)) qNil))))
 (qSeq (qIfS (qTst (q2 oLt (qVar 1) (qC (.int 0)))) (qRet (qTup (qCons (q2 oDiv (q1 oNeg (qVar 0)) (qVar 2)) (qCons (q2 oDiv (q1 oNeg (qVar 1)) (qVar 2)) qNil))))
 qNext)
 (qRet (qTup (qCons (q2 oDiv (qVar 0) (qVar 2)) (qCons (q2 oDiv (qVar 1) (qVar 2)) qNil)))))))
/- _law_less
N: 0:one 1:two -/
def N__law_less : List Str := ["one", "two"]
def q__law_less  : QS :=
  (qRet (q2 oLt (q2 oMul (q2 oIx (qVar 0) (qC (.int 0))) (q2 oIx (qVar 1) (qC (.int 1)))) (q2 oMul (q2 oIx (qVar 1) (qC (.int 0))) (q2 oIx (qVar 0) (qC (.int 1))))))
/- _law_line
N: 0:one 1:two 2:far 3:found* 4:t 5:across 6:along 7:cell* 8:k 9:change 10:best 11:step 12:off -/
def N__law_line : List Str := ["one", "two", "far", "found", "t", "across", "along", "cell", "k", "change", "best", "step", "off"]
def q__law_line  : QS :=
  (qSeq (qPar 5 6 (qCons (q2 oSub (q2 oIx (qVar 1) (qC (.int 0))) (q2 oIx (qVar 0) (qC (.int 0)))) (qCons (q2 oSub (q2 oIx (qVar 1) (qC (.int 1))) (q2 oIx (qVar 0) (qC (.int 1)))) qNil)))
 (qSeq (qSet 2 (qN oMax2 (qCons (qN oAbs (qCons (qVar 5) qNil)) (qCons (qN oAbs (qCons (qVar 6) qNil)) qNil))))
 (qSeq (qSetO 3 (qLst (qCons (qVar 0) qNil)))
 (qSeq (qFor (qIRng2 (qCons (qC (.int 1)) (qCons (q2 oAdd (qVar 2) (qC (.int 1))) qNil))) (qName 4)
  (qSeq (qSetO 7 (qLst qNil))
  (qSeq (qFor (qIRng1 (qCons (qC (.int 2)) qNil)) (qName 8)
   (qSeq (qSet 9 (q2 oIx (qLst (qCons (qVar 5) (qCons (qVar 6) qNil))) (qVar 8)))
   (qSeq (qSet 10 (qC .none))
   (qSeq (qFor (qIRng1 (qCons (q2 oAdd (qVar 2) (qC (.int 1))) qNil)) (qName 11)
    (qSeq (qSet 12 (qN oAbs (qCons (q2 oSub (q2 oMul (q2 oMul (qC (.int 2)) (qVar 11)) (qVar 2)) (q2 oMul (q2 oMul (qC (.int 2)) (qVar 4)) (qN oAbs (qCons (qVar 9) qNil)))) qNil)))
    (qIfS (qOr (qTst (q2 oIs (qVar 10) (qC .none))) (qTst (q2 oLe (qVar 12) (q2 oIx (qVar 10) (qC (.int 0)))))) (qSet 10 (qTup (qCons (qVar 12) (qCons (qVar 11) qNil))))
    qNext)))
   (qMeth 7 fAppend (qCons (q2 oAdd (q2 oIx (qLst (qCons (q2 oIx (qVar 0) (qC (.int 0))) (qCons (q2 oIx (qVar 0) (qC (.int 1))) qNil))) (qVar 8)) (q2 oMul (q2 oIx (qVar 10) (qC (.int 1))) (q2 oSub (qC (.int 1)) (q2 oMul (qC (.int 2)) (qN oInt (qCons (q2 oLt (qVar 9) (qC (.int 0))) qNil)))))) qNil))))))
  (qMeth 3 fAppend (qCons (qTup (qCons (q2 oIx (qVarL 7) (qC (.int 0))) (qCons (q2 oIx (qVarL 7) (qC (.int 1))) qNil))) qNil)))))
 (qRetV 3)))))
/- _law_ties
N: 0:one 1:two 2:far 3:less 4:t 5:step -/
def N__law_ties : List Str := ["one", "two", "far", "less", "t", "step"]
def q__law_ties  : QS :=
  (qSeq (qSet 2 (qN oMax2 (qCons (qN oAbs (qCons (q2 oSub (q2 oIx (qVar 1) (qC (.int 0))) (q2 oIx (qVar 0) (qC (.int 0)))) qNil)) (qCons (qN oAbs (qCons (q2 oSub (q2 oIx (qVar 1) (qC (.int 1))) (q2 oIx (qVar 0) (qC (.int 1)))) qNil)) qNil))))
 (qSeq (qSet 3 (qN oMin2 (qCons (qN oAbs (qCons (q2 oSub (q2 oIx (qVar 1) (qC (.int 0))) (q2 oIx (qVar 0) (qC (.int 0)))) qNil)) (qCons (qN oAbs (qCons (q2 oSub (q2 oIx (qVar 1) (qC (.int 1))) (q2 oIx (qVar 0) (qC (.int 1)))) qNil)) qNil))))
 (qRet (qLc (qIRng1 (qCons (q2 oAdd (qVar 2) (qC (.int 1))) qNil)) (qName 4) (qTst (q2 oNe (qLc (qIRng1 (qCons (q2 oAdd (qVar 2) (qC (.int 1))) qNil)) (qName 5) (qAnd (qTst (q2 oEq (qN oAbs (qCons (q2 oSub (q2 oMul (q2 oMul (qC (.int 2)) (qVar 5)) (qVar 2)) (q2 oMul (q2 oMul (qC (.int 2)) (qVar 4)) (qVar 3))) qNil)) (qVar 2))) (qTst (q2 oGt (qVar 2) (qC (.int 0))))) (qVar 5) [5]) (qLst qNil))) (qVar 4) [4]))))
/- _law_pairs
N: 0:heights 1:found 2:i 3:j -/
def N__law_pairs : List Str := ["heights", "found", "i", "j"]
def q__law_pairs  : QS :=
  (qSeq (qSet 1 (qLst qNil))
 (qSeq (qFor (qIRng1 (qCons (qN oLen (qCons (qVar 0) qNil)) qNil)) (qName 2)
  (qSet 1 (q2 oAdd (qVar 1) (qLc (qIRng2 (qCons (q2 oAdd (qVar 2) (qC (.int 1))) (qCons (qN oLen (qCons (qVar 0) qNil)) qNil))) (qName 3) qYes (qTup (qCons (qVar 2) (qCons (qVar 3) qNil))) [3]))))
 (qRet (qVar 1))))
/- _law_slopes
N: 0:heights 1:pairs 2:lows 3:highs 4:t 5:low 6:high 7:i 8:j -/
def N__law_slopes : List Str := ["heights", "pairs", "lows", "highs", "t", "low", "high", "i", "j"]
def q__law_slopes (S__law_pairs : VL.Spec) (S__law_fraction : VL.Spec) (S__law_less : VL.Spec) : QS :=
  (qSeq (qSet 1 (qCall S__law_pairs (qCons (qVar 0) qNil)))
 (qSeq (qSet 2 (qLc (qIList (qVar 1)) (qGTup 2 (qGCons (qName 7) (qGCons (qName 8) qGNil))) qYes (qCall S__law_fraction (qCons (q2 oSub (q2 oSub (q2 oIx (qVar 0) (qVar 8)) (q2 oIx (qVar 0) (qVar 7))) (qC (.int 1))) (qCons (q2 oSub (qVar 8) (qVar 7)) qNil))) [7, 8]))
 (qSeq (qSet 3 (qLc (qIList (qVar 1)) (qGTup 2 (qGCons (qName 7) (qGCons (qName 8) qGNil))) qYes (qCall S__law_fraction (qCons (q2 oAdd (q2 oSub (q2 oIx (qVar 0) (qVar 8)) (q2 oIx (qVar 0) (qVar 7))) (qC (.int 1))) (qCons (q2 oSub (qVar 8) (qVar 7)) qNil))) [7, 8]))
 (qSeq (qPar 5 6 (qCons (q2 oIx (qVar 2) (qC (.int 0))) (qCons (q2 oIx (qVar 3) (qC (.int 0))) qNil)))
 (qSeq (qFor (qIRng1 (qCons (qN oLen (qCons (qVar 1) qNil)) qNil)) (qName 4)
  (qSeq (qIfS (qTst (qCall S__law_less (qCons (qVar 5) (qCons (q2 oIx (qVar 2) (qVar 4)) qNil)))) (qSet 5 (q2 oIx (qVar 2) (qVar 4)))
  qNext)
  (qIfS (qTst (qCall S__law_less (qCons (q2 oIx (qVar 3) (qVar 4)) (qCons (qVar 6) qNil)))) (qSet 6 (q2 oIx (qVar 3) (qVar 4)))
  qNext)))
 (qRet (q2 oIx (qLst (qCons (qTup (qCons (qVar 5) (qCons (qVar 6) qNil))) (qCons (qC .none) qNil))) (qN oInt (qCons (qCall S__law_less (qCons (qVar 6) (qCons (qVar 5) qNil))) qNil)))))))))
/- _law_are_bars
N: 0:heights 1:one 2:two 3:asked_v -/
def N__law_are_bars : List Str := ["heights", "one", "two", "asked_v"]
def q__law_are_bars (S__law_fraction : VL.Spec) (S__law_less : VL.Spec) (S__law_pairs : VL.Spec) : QS :=
  (qSeq (qIfS (qOr (qTst (q2 oNotIn (qVar 1) (qCall S__law_pairs (qCons (qVar 0) qNil)))) (qTst (q2 oNotIn (qVar 2) (qCall S__law_pairs (qCons (qVar 0) qNil))))) (qRet (qC (.bool false)))
 qNext)
 (qSeq (qSet 3 (qCall S__law_fraction (qCons (q2 oSub (q2 oSub (q2 oIx (qVar 0) (q2 oIx (qVar 1) (qC (.int 1)))) (q2 oIx (qVar 0) (q2 oIx (qVar 1) (qC (.int 0))))) (qC (.int 1))) (qCons (q2 oSub (q2 oIx (qVar 1) (qC (.int 1))) (q2 oIx (qVar 1) (qC (.int 0)))) qNil))))
 (qRet (qCall S__law_less (qCons (qCall S__law_fraction (qCons (q2 oAdd (q2 oSub (q2 oIx (qVar 0) (q2 oIx (qVar 2) (qC (.int 1)))) (q2 oIx (qVar 0) (q2 oIx (qVar 2) (qC (.int 0))))) (qC (.int 1))) (qCons (q2 oSub (q2 oIx (qVar 2) (qC (.int 1))) (q2 oIx (qVar 2) (qC (.int 0)))) qNil))) (qCons (qVar 3) qNil))))))
/- law
N: 0:script 1:draws 2:turn 3:one 4:two 5:due 6:side 7:heights* 8:kept 9:pairs 10:lean 11:others 12:told* 13:back 14:barred 15:first 16:second 17:cell 18:spot 19:t 20:height 21:other -/
def N_law : List Str := ["script", "draws", "turn", "one", "two", "due", "side", "heights", "kept", "pairs", "lean", "others", "told", "back", "barred", "first", "second", "cell", "spot", "t", "height", "other"]
def q_law (S__law_draws : List Int → D → Prop) (S__law_line : VL.Spec) (S_line : VL.Spec) (S_slopes : VL.Spec) (S__law_mix : VL.Spec) (S__law_slopes : VL.Spec) (S_bars : VL.Spec) (S__law_are_bars : VL.Spec) (S_ties : VL.Spec) (S__law_ties : VL.Spec) (S_are_bars : VL.Spec) : QS :=
  (qSeq (qSet 1 (qCallS 0 S__law_draws))
 (qSeq (qFor (qIRng1 (qCons (qC (.int 4)) qNil)) (qName 2)
  (qSeq (qSet 3 (qTup (qCons (q2 oSub (qCall S__law_mix (qCons (qVar 1) (qCons (q2 oAdd (qC (.int 10)) (q2 oMul (qC (.int 8)) (qVar 2))) (qCons (qC (.int 30)) qNil)))) (qC (.int 15))) (qCons (q2 oSub (qCall S__law_mix (qCons (qVar 1) (qCons (q2 oAdd (qC (.int 11)) (q2 oMul (qC (.int 8)) (qVar 2))) (qCons (qC (.int 30)) qNil)))) (qC (.int 15))) qNil))))
  (qSeq (qSet 4 (qTup (qCons (q2 oSub (q2 oAdd (q2 oIx (qVar 3) (qC (.int 0))) (qCall S__law_mix (qCons (qVar 1) (qCons (q2 oAdd (qC (.int 12)) (q2 oMul (qC (.int 8)) (qVar 2))) (qCons (qC (.int 19)) qNil))))) (qC (.int 9))) (qCons (q2 oSub (q2 oAdd (q2 oIx (qVar 3) (qC (.int 1))) (qCall S__law_mix (qCons (qVar 1) (qCons (q2 oAdd (qC (.int 13)) (q2 oMul (qC (.int 8)) (qVar 2))) (qCons (qC (.int 19)) qNil))))) (qC (.int 9))) qNil))))
  (qSeq (qSet 5 (qCall S__law_line (qCons (qVar 3) (qCons (qVar 4) qNil))))
  (qSeq (qParO 12 13 (qCall S_line (qCons (qVar 3) (qCons (qVar 4) qNil))) (qCall S_line (qCons (qVar 4) (qCons (qVar 3) qNil))))
  (qSeq (qIfS (qOr (qTst (q2 oNe (qN oRepr (qCons (qVarL 12) qNil)) (qN oRepr (qCons (qVar 5) qNil)))) (qOr (qTst (q2 oNe (qN oRepr (qCons (qCall S_ties (qCons (qVar 3) (qCons (qVar 4) qNil))) qNil)) (qN oRepr (qCons (qCall S__law_ties (qCons (qVar 3) (qCons (qVar 4) qNil))) qNil)))) (qTst (q2 oNe (q2 oEq (qVar 13) (q1 oRev (qVarL 12))) (q2 oEq (qCall S_ties (qCons (qVar 3) (qCons (qVar 4) qNil))) (qLst qNil)))))) (qRet (qC (.bool false)))
  qNext)
  (qSeq (qIfS (qTst (q2 oGt (qN oMaxL (qCons (q2 oAdd (qLst (qCons (qC (.int 0)) qNil)) (qLc (qIRng2 (qCons (qC (.int 1)) (qCons (qN oLen (qCons (qVarL 12) qNil)) qNil))) (qName 19) qYes (qN oMax2 (qCons (qN oAbs (qCons (q2 oSub (q2 oIx (q2 oIx (qVarL 12) (qVar 19)) (qC (.int 0))) (q2 oIx (q2 oIx (qVarL 12) (q2 oSub (qVar 19) (qC (.int 1)))) (qC (.int 0)))) qNil)) (qCons (qN oAbs (qCons (q2 oSub (q2 oIx (q2 oIx (qVarL 12) (qVar 19)) (qC (.int 1))) (q2 oIx (q2 oIx (qVarL 12) (q2 oSub (qVar 19) (qC (.int 1)))) (qC (.int 1)))) qNil)) qNil))) [19])) qNil)) (qC (.int 1)))) (qRet (qC (.bool false)))
  qNext)
  (qSeq (qSet 6 (qN oInt (qCons (q2 oGe (qN oAbs (qCons (q2 oSub (q2 oIx (qVar 4) (qC (.int 0))) (q2 oIx (qVar 3) (qC (.int 0)))) qNil)) (qN oAbs (qCons (q2 oSub (q2 oIx (qVar 4) (qC (.int 1))) (q2 oIx (qVar 3) (qC (.int 1)))) qNil))) qNil)))
  (qSeq (qIfS (qTst (q2 oIs (qCall S_slopes (qCons (qLc (qIList (qVarL 12)) (qName 17) qYes (q2 oIx (qVar 17) (qVar 6)) [17]) qNil)) (qC .none))) (qRet (qC (.bool false)))
  qNext)
  (qSeq (qMeth 12 fAppend (qCons (qTup (qCons (qC (.int 0)) (qCons (qC (.int 0)) qNil))) qNil))
  (qIfS (qTst (q2 oNe (qN oRepr (qCons (qCall S_line (qCons (qVar 3) (qCons (qVar 4) qNil))) qNil)) (qN oRepr (qCons (qVar 5) qNil)))) (qRet (qC (.bool false)))
  qNext)))))))))))
 (qSeq (qFor (qIRng1 (qCons (qC (.int 4)) qNil)) (qName 2)
  (qSeq (qSetO 7 (qLc (qIList (qCall S__law_line (qCons (qTup (qCons (qC (.int 0)) (qCons (qC (.int 0)) qNil))) (qCons (qTup (qCons (q2 oAdd (qC (.int 1)) (qCall S__law_mix (qCons (qVar 1) (qCons (q2 oAdd (qC (.int 50)) (qVar 2)) (qCons (qC (.int 9)) qNil))))) (qCons (qCall S__law_mix (qCons (qVar 1) (qCons (q2 oAdd (qC (.int 54)) (qVar 2)) (qCons (qC (.int 9)) qNil)))) qNil))) qNil)))) (qName 17) qYes (q2 oIx (qVar 17) (qC (.int 1))) [17]))
  (qSeq (qIfS (qTst (q2 oEq (qCall S__law_mix (qCons (qVar 1) (qCons (q2 oAdd (qC (.int 60)) (qVar 2)) (qCons (qC (.int 2)) qNil)))) (qC (.int 0)))) (qSetO 7 (qLc (qIRng1 (qCons (q2 oAdd (qC (.int 1)) (qCall S__law_mix (qCons (qVar 1) (qCons (q2 oAdd (qC (.int 64)) (qVar 2)) (qCons (qC (.int 9)) qNil))))) qNil)) (qName 19) qYes (qCall S__law_mix (qCons (qVar 1) (qCons (q2 oAdd (q2 oAdd (qC (.int 70)) (q2 oMul (qC (.int 10)) (qVar 2))) (qVar 19)) (qCons (qC (.int 4)) qNil)))) [19]))
  (qIfS (qTst (q2 oEq (qCall S__law_mix (qCons (qVar 1) (qCons (q2 oAdd (qC (.int 110)) (qVar 2)) (qCons (qC (.int 2)) qNil)))) (qC (.int 0)))) (qSeq (qSet 18 (qCall S__law_mix (qCons (qVar 1) (qCons (q2 oAdd (qC (.int 120)) (qVar 2)) (qCons (qN oLen (qCons (qVarL 7) qNil)) qNil)))))
    (qSetIx 7 (qVar 18) (q2 oSub (q2 oAdd (q2 oIx (qVarL 7) (qVar 18)) (qCall S__law_mix (qCons (qVar 1) (qCons (q2 oAdd (qC (.int 130)) (qVar 2)) (qCons (qC (.int 5)) qNil))))) (qC (.int 2)))))
   qNext))
  (qFrz 7 (qSeq (qSet 8 (qN oRepr (qCons (qVar 7) qNil)))
  (qSeq (qSet 5 (qTup (qCons (qTup (qCons (qC (.int 0)) (qCons (qC (.int 1)) qNil))) (qCons (qTup (qCons (qC (.int 0)) (qCons (qC (.int 1)) qNil))) qNil))))
  (qSeq (qIfS (qTst (q2 oGt (qN oLen (qCons (qVar 7) qNil)) (qC (.int 1)))) (qSet 5 (qCall S__law_slopes (qCons (qVar 7) qNil)))
  qNext)
  (qSeq (qAsg (qTup (qCons (qCall S_slopes (qCons (qVar 7) qNil)) (qCons (qCall S_bars (qCons (qVar 7) qNil)) qNil))) (qGTup 2 (qGCons (qName 12) (qGCons (qName 14) qGNil))))
  (qSeq (qIfS (qOr (qTst (q2 oNe (qN oRepr (qCons (qVarL 12) qNil)) (qN oRepr (qCons (qVar 5) qNil)))) (qTst (q2 oNe (q2 oIs (qVar 14) (qC .none)) (q2 oIsNot (qVar 5) (qC .none))))) (qRet (qC (.bool false)))
  qNext)
  (qSeq (qSet 9 (qLst (qCons (qTup (qCons (qTup (qCons (qC (.int 0)) (qCons (qC (.int 1)) qNil))) (qCons (qTup (qCons (qC (.int 0)) (qCons (qC (.int 1)) qNil))) qNil))) (qCons (qTup (qCons (qTup (qCons (qC (.int 0)) (qCons (qC (.int 0)) qNil))) (qCons (qTup (qCons (qC (.int 0)) (qCons (qC (.int 1)) qNil))) qNil))) (qCons (qTup (qCons (qTup (qCons (qC (.int 1)) (qCons (qC (.int 0)) qNil))) (qCons (qTup (qCons (qC (.int 0)) (qCons (qC (.int 1)) qNil))) qNil))) (qCons (qTup (qCons (qTup (qCons (qC (.int 0)) (qCons (qN oLen (qCons (qVar 7) qNil)) qNil))) (qCons (qTup (qCons (qC (.int 0)) (qCons (qC (.int 1)) qNil))) qNil))) qNil))))))
  (qSeq (qIfS (qTst (q2 oIsNot (qVar 14) (qC .none))) (qSeq (qIfS (qNot (qTst (qCall S__law_are_bars (qCons (qVar 7) (qCons (q2 oIx (qVar 14) (qC (.int 0))) (qCons (q2 oIx (qVar 14) (qC (.int 1))) qNil)))))) (qRet (qC (.bool false)))
   qNext)
   (qSet 9 (q2 oAdd (qVar 9) (qLst (qCons (qVar 14) (qCons (qTup (qCons (q2 oIx (qVar 14) (qC (.int 1))) (qCons (q2 oIx (qVar 14) (qC (.int 0))) qNil))) (qCons (qTup (qCons (q2 oIx (qVar 14) (qC (.int 0))) (qCons (q2 oIx (qVar 14) (qC (.int 0))) qNil))) qNil)))))))
  qNext)
  (qSeq (qFor (qIList (qVar 9)) (qGTup 2 (qGCons (qName 15) (qGCons (qName 16) qGNil)))
   (qIfS (qTst (q2 oNe (qN oRepr (qCons (qCall S_are_bars (qCons (qVar 7) (qCons (qVar 15) (qCons (qVar 16) qNil)))) qNil)) (qN oRepr (qCons (qCall S__law_are_bars (qCons (qVar 7) (qCons (qVar 15) (qCons (qVar 16) qNil)))) qNil)))) (qRet (qC (.bool false)))
   qNext))
  (qSeq (qSet 10 (q2 oSub (qCall S__law_mix (qCons (qVar 1) (qCons (q2 oAdd (qC (.int 140)) (qVar 2)) (qCons (qC (.int 7)) qNil)))) (qC (.int 3))))
  (qSeq (qSet 11 (qLst (qCons (q1 oRev (qVar 7)) (qCons (qLc (qIList (qVar 7)) (qName 20) qYes (q1 oNeg (qVar 20)) [20]) (qCons (qLc (qIRng1 (qCons (qN oLen (qCons (qVar 7) qNil)) qNil)) (qName 19) qYes (q2 oAdd (q2 oAdd (q2 oIx (qVar 7) (qVar 19)) (q2 oMul (qVar 10) (qVar 19))) (qC (.int 5))) [19]) qNil)))))
  (qIfS (qOr (qTst (q2 oNe (qLc (qIList (qVar 11)) (qName 21) (qTst (q2 oNe (q2 oIs (qCall S_slopes (qCons (qVar 21) qNil)) (qC .none)) (q2 oIs (qVar 5) (qC .none)))) (qVar 21) [21]) (qLst qNil))) (qTst (q2 oNe (qN oRepr (qCons (qVar 7) qNil)) (qVar 8)))) (qRet (qC (.bool false)))
  qNext)))))))))))))))
 (qRet (qC (.bool true))))))
end P49
namespace P49
open PySem VL
open PySem.W (Datum DatumOrd)
abbrev Pt := Int × Int
abbrev Pr := Nat × Nat
/-! fractions -/
def gc (n d : Int) : Int := ((Nat.gcd n.natAbs d.natAbs : Nat) : Int)
def fr (n d : Int) : Int × Int := (n / gc n d, d / gc n d)
def less (a b : Int × Int) : Bool := decide (a.1 * b.2 < b.1 * a.2)
theorem gc_pos {n d : Int} (h : 0 < d) : 0 < gc n d ∧ gc n d ≤ d := by
  unfold gc
  have h1 : 0 < d.natAbs := by omega
  have a := Nat.gcd_pos_of_pos_right n.natAbs h1
  have b := Nat.le_of_dvd h1 (Nat.gcd_dvd_right n.natAbs d.natAbs)
  omega
theorem gc_dvd (n d : Int) : gc n d ∣ n ∧ gc n d ∣ d := by
  unfold gc
  exact ⟨Int.ofNat_dvd_left.mpr (Nat.gcd_dvd_left _ _), Int.ofNat_dvd_left.mpr (Nat.gcd_dvd_right _ _)⟩
theorem fr_spec {n d : Int} (h : 0 < d) : 0 < (fr n d).2 ∧ (fr n d).1 * gc n d = n ∧ (fr n d).2 * gc n d = d := by
  obtain ⟨g0, g1⟩ := gc_pos (n := n) h
  obtain ⟨d1, d2⟩ := gc_dvd n d
  refine ⟨Int.ediv_pos_of_pos_of_dvd h (by omega) d2, Int.ediv_mul_cancel d1, Int.ediv_mul_cancel d2⟩
theorem less_fr {n d n2 d2 : Int} (h : 0 < d) (h2 : 0 < d2) : less (fr n d) (fr n2 d2) = decide (n * d2 < n2 * d) := by
  obtain ⟨a1, a2, a3⟩ := fr_spec (n := n) h
  obtain ⟨b1, b2, b3⟩ := fr_spec (n := n2) h2
  have g := (gc_pos (n := n) h).1
  have g2 := (gc_pos (n := n2) h2).1
  unfold less
  refine decide_eq_decide.mpr ?_
  have e1 : n * d2 = (fr n d).1 * (fr n2 d2).2 * (gc n d * gc n2 d2) := by
    conv => lhs; rw [← a2, ← b3]
    grind
  have e2 : n2 * d = (fr n2 d2).1 * (fr n d).2 * (gc n d * gc n2 d2) := by
    conv => lhs; rw [← b2, ← a3]
    grind
  rw [e1, e2]
  have gp : 0 < gc n d * gc n2 d2 := Int.mul_pos g g2
  exact ⟨fun q => Int.mul_lt_mul_of_pos_right q gp, fun q => Int.lt_of_mul_lt_mul_right q (Int.le_of_lt gp)⟩
/-! pairs -/
def prs (n : Nat) : List Pr := (List.range n).flatMap fun i => (List.range (n - (i + 1))).map fun k => (i, i + 1 + k)
theorem mem_prs {n : Nat} {p : Pr} : p ∈ prs n ↔ p.1 < p.2 ∧ p.2 < n := by
  unfold prs
  simp only [List.mem_flatMap, List.mem_range, List.mem_map]
  constructor
  · rintro ⟨i, hi, k, hk, rfl⟩
    dsimp only; omega
  · rintro ⟨h1, h2⟩
    refine ⟨p.1, by omega, p.2 - (p.1 + 1), by omega, ?_⟩
    refine Prod.ext rfl ?_
    dsimp only; omega
def hv (hs : List Int) (i : Nat) : Int := (hs[i]?).getD 0
def df (hs : List Int) (p : Pr) : Int := hv hs p.2 - hv hs p.1
def ln (p : Pr) : Int := (p.2 : Int) - (p.1 : Int)
def ask (hs : List Int) (p : Pr) : Int × Int := fr (df hs p - 1) (ln p)
def lett (hs : List Int) (p : Pr) : Int × Int := fr (df hs p + 1) (ln p)
def stp (hs : List Int) (s : Pr × Pr) (p : Pr) : Pr × Pr := (if less (ask hs s.1) (ask hs p) = true then p else s.1, if less (lett hs p) (lett hs s.2) = true then p else s.2)
def shp (hs : List Int) : Pr × Pr := (prs hs.length).foldl (stp hs) ((0, 1), (0, 1))
theorem prs_head {n : Nat} (h : 1 < n) : ∃ r, prs n = (0, 1) :: r := by
  unfold prs
  obtain ⟨m, rfl⟩ : ∃ m, n = m + 2 := ⟨n - 2, by omega⟩
  rw [List.range_succ_eq_map, List.flatMap_cons]
  have : m + 2 - (0 + 1) = m + 1 := by omega
  rw [this, List.range_succ_eq_map, List.map_cons]
  exact ⟨_, rfl⟩
def vl (p : Pr) : Prop := p.1 < p.2
theorem ln_pos {p : Pr} (h : vl p) : 0 < ln p := by unfold ln; unfold vl at h; omega
theorem less_ask {hs : List Int} {p q : Pr} (hp : vl p) (hq : vl q) : less (ask hs p) (ask hs q) = decide ((df hs p - 1) * ln q < (df hs q - 1) * ln p) := less_fr (ln_pos hp) (ln_pos hq)
theorem less_let {hs : List Int} {p q : Pr} (hp : vl p) (hq : vl q) : less (lett hs p) (lett hs q) = decide ((df hs p + 1) * ln q < (df hs q + 1) * ln p) := less_fr (ln_pos hp) (ln_pos hq)
theorem less_la {hs : List Int} {p q : Pr} (hp : vl p) (hq : vl q) : less (lett hs p) (ask hs q) = decide ((df hs p + 1) * ln q < (df hs q - 1) * ln p) := less_fr (ln_pos hp) (ln_pos hq)
/-- a/l ≤ b/m ≤ c/n -/
theorem le_tr {a b c l m n : Int} (hl : 0 < l) (hm : 0 < m) (hn : 0 < n) (h1 : a * m ≤ b * l) (h2 : b * n ≤ c * m) : a * n ≤ c * l := by
  have e1 := Int.mul_le_mul_of_nonneg_right h1 (Int.le_of_lt hn)
  have e2 := Int.mul_le_mul_of_nonneg_right h2 (Int.le_of_lt hl)
  refine Int.le_of_mul_le_mul_left (a := m) ?_ hm
  have q1 : m * (a * n) = a * m * n := by grind
  have q2 : m * (c * l) = c * m * l := by grind
  have q3 : b * l * n = b * n * l := by grind
  omega
theorem fold_ok (hs : List Int) : ∀ (ps : List Pr) (s : Pr × Pr), (∀ p ∈ ps, vl p) → vl s.1 → vl s.2 →
    ((ps.foldl (stp hs) s).1 = s.1 ∨ (ps.foldl (stp hs) s).1 ∈ ps) ∧ ((ps.foldl (stp hs) s).2 = s.2 ∨ (ps.foldl (stp hs) s).2 ∈ ps) ∧
    (∀ p, p = s.1 ∨ p ∈ ps → (df hs p - 1) * ln (ps.foldl (stp hs) s).1 ≤ (df hs (ps.foldl (stp hs) s).1 - 1) * ln p) ∧
    (∀ p, p = s.2 ∨ p ∈ ps → (df hs (ps.foldl (stp hs) s).2 + 1) * ln p ≤ (df hs p + 1) * ln (ps.foldl (stp hs) s).2)
  | [], s, _, h1, h2 => by
    refine ⟨.inl rfl, .inl rfl, ?_, ?_⟩
    · rintro p (rfl | h)
      · exact Int.le_refl _
      · simp at h
    · rintro p (rfl | h)
      · exact Int.le_refl _
      · simp at h
  | x :: ps, s, hv, h1, h2 => by
    have hx := hv x List.mem_cons_self
    have hv' : ∀ p ∈ ps, vl p := fun p hp => hv p (List.mem_cons_of_mem _ hp)
    have k1 : vl (stp hs s x).1 := by unfold stp; dsimp only; split <;> assumption
    have k2 : vl (stp hs s x).2 := by unfold stp; dsimp only; split <;> assumption
    obtain ⟨i1, i2, i3, i4⟩ := fold_ok hs ps (stp hs s x) hv' k1 k2
    rw [List.foldl_cons]
    generalize hf : ps.foldl (stp hs) (stp hs s x) = f at *
    have v1 : vl f.1 := by
      rcases i1 with q | q
      · rw [q]; exact k1
      · exact hv' _ q
    have v2 : vl f.2 := by
      rcases i2 with q | q
      · rw [q]; exact k2
      · exact hv' _ q
    have c1 := i3 (stp hs s x).1 (.inl rfl)
    have c2 := i4 (stp hs s x).2 (.inl rfl)
    have m1 : (df hs s.1 - 1) * ln (stp hs s x).1 ≤ (df hs (stp hs s x).1 - 1) * ln s.1 ∧ (df hs x - 1) * ln (stp hs s x).1 ≤ (df hs (stp hs s x).1 - 1) * ln x := by
      unfold stp
      dsimp only
      rw [less_ask h1 hx]
      split
      · rename_i q; simp only [decide_eq_true_eq] at q; exact ⟨Int.le_of_lt q, Int.le_refl _⟩
      · rename_i q; simp only [decide_eq_true_eq] at q; exact ⟨Int.le_refl _, by omega⟩
    have m2 : (df hs (stp hs s x).2 + 1) * ln s.2 ≤ (df hs s.2 + 1) * ln (stp hs s x).2 ∧ (df hs (stp hs s x).2 + 1) * ln x ≤ (df hs x + 1) * ln (stp hs s x).2 := by
      unfold stp
      dsimp only
      rw [less_let hx h2]
      split
      · rename_i q; simp only [decide_eq_true_eq] at q; exact ⟨Int.le_of_lt q, Int.le_refl _⟩
      · rename_i q; simp only [decide_eq_true_eq] at q; exact ⟨Int.le_refl _, by omega⟩
    refine ⟨?_, ?_, ?_, ?_⟩
    · rcases i1 with q | q
      · rw [q]; unfold stp; dsimp only; split
        · exact .inr List.mem_cons_self
        · exact .inl rfl
      · exact .inr (List.mem_cons_of_mem _ q)
    · rcases i2 with q | q
      · rw [q]; unfold stp; dsimp only; split
        · exact .inr List.mem_cons_self
        · exact .inl rfl
      · exact .inr (List.mem_cons_of_mem _ q)
    · rintro p (rfl | hp)
      · exact le_tr (ln_pos h1) (ln_pos k1) (ln_pos v1) m1.1 c1
      · rcases List.mem_cons.mp hp with rfl | hp
        · exact le_tr (ln_pos hx) (ln_pos k1) (ln_pos v1) m1.2 c1
        · exact i3 p (.inr hp)
    · rintro p (rfl | hp)
      · exact le_tr (ln_pos v2) (ln_pos k2) (ln_pos h2) c2 m2.1
      · rcases List.mem_cons.mp hp with rfl | hp
        · exact le_tr (ln_pos v2) (ln_pos k2) (ln_pos hx) c2 m2.2
        · exact i4 p (.inr hp)
theorem shp_ok {hs : List Int} (h : 1 < hs.length) : (shp hs).1 ∈ prs hs.length ∧ (shp hs).2 ∈ prs hs.length ∧
    (∀ p ∈ prs hs.length, (df hs p - 1) * ln (shp hs).1 ≤ (df hs (shp hs).1 - 1) * ln p) ∧ (∀ p ∈ prs hs.length, (df hs (shp hs).2 + 1) * ln p ≤ (df hs p + 1) * ln (shp hs).2) := by
  obtain ⟨r, e⟩ := prs_head h
  have h0 : ((0, 1) : Pr) ∈ prs hs.length := by rw [e]; exact List.mem_cons_self
  obtain ⟨a, b, c, d⟩ := fold_ok hs (prs hs.length) ((0, 1), (0, 1)) (fun p hp => (mem_prs.mp hp).1) (show (0 : Nat) < 1 by decide) (show (0 : Nat) < 1 by decide)
  refine ⟨?_, ?_, fun p hp => c p (.inr hp), fun p hp => d p (.inr hp)⟩
  · rcases a with q | q
    · unfold shp; rw [q]; exact h0
    · exact q
  · rcases b with q | q
    · unfold shp; rw [q]; exact h0
    · exact q
def crooked (hs : List Int) : Prop := ∃ p q, p ∈ prs hs.length ∧ q ∈ prs hs.length ∧ (df hs q + 1) * ln p < (df hs p - 1) * ln q
def bad (hs : List Int) : Bool := less (lett hs (shp hs).2) (ask hs (shp hs).1)
theorem bad_iff {hs : List Int} (h : 1 < hs.length) : bad hs = true ↔ crooked hs := by
  obtain ⟨a, b, c, d⟩ := shp_ok h
  have va := (mem_prs.mp a).1
  have vb := (mem_prs.mp b).1
  unfold bad
  rw [less_la vb va, decide_eq_true_eq]
  constructor
  · intro q; exact ⟨_, _, a, b, q⟩
  · rintro ⟨p, q, hp, hq, hl⟩
    have vp := ln_pos (mem_prs.mp hp).1
    have vq := ln_pos (mem_prs.mp hq).1
    have c1 := c p hp
    have d1 := d q hq
    rcases Int.lt_or_le ((df hs (shp hs).2 + 1) * ln (shp hs).1) ((df hs (shp hs).1 - 1) * ln (shp hs).2) with z | z
    · exact z
    · have y := le_tr (ln_pos va) (ln_pos vb) vq z d1
      have x := le_tr vp (ln_pos va) vq c1 y
      omega
def slo (hs : List Int) : Option ((Int × Int) × (Int × Int)) := if hs.length = 1 then some ((0, 1), (0, 1)) else if bad hs = true then none else some (ask hs (shp hs).1, lett hs (shp hs).2)
theorem slo_none {hs : List Int} (h : 1 ≤ hs.length) : slo hs = none ↔ crooked hs := by
  unfold slo
  by_cases e : hs.length = 1
  · rw [if_pos e]
    constructor
    · intro q; cases q
    · rintro ⟨p, q, hp, _⟩
      have := mem_prs.mp hp
      omega
  · rw [if_neg e, ← bad_iff (by omega)]
    by_cases b : bad hs = true
    · simp [b]
    · simp [b]
/-! turned about, upside down, leaning -/
theorem hv_map {hs : List Int} {f : Int → Int} {i : Nat} (h : i < hs.length) : hv (hs.map f) i = f (hv hs i) := by
  unfold hv; simp [List.getElem?_eq_getElem h]
theorem crooked_of {hs gs : List Int} (e : gs.length = hs.length) (h : ∀ p q, p ∈ prs hs.length → q ∈ prs hs.length → (df hs q + 1) * ln p < (df hs p - 1) * ln q → crooked gs) : crooked hs → crooked gs := fun ⟨p, q, hp, hq, hl⟩ => h p q hp hq hl
theorem neg_cr {hs : List Int} : crooked hs → crooked (hs.map fun x => -x) := by
  rintro ⟨p, q, hp, hq, hl⟩
  have a := mem_prs.mp hp
  have b := mem_prs.mp hq
  refine ⟨q, p, by rw [List.length_map]; exact hq, by rw [List.length_map]; exact hp, ?_⟩
  have d : ∀ r : Pr, r.1 < r.2 → r.2 < hs.length → df (hs.map fun x => -x) r = -df hs r := fun r h1 h2 => by
    unfold df
    rw [hv_map h2, hv_map (show r.1 < hs.length by omega)]; omega
  rw [d p a.1 a.2, d q b.1 b.2]
  have e1 : (-df hs p + 1) * ln q = -((df hs p - 1) * ln q) := by grind
  have e2 : (-df hs q - 1) * ln p = -((df hs q + 1) * ln p) := by grind
  omega
theorem neg_iff {hs : List Int} : crooked (hs.map fun x => -x) ↔ crooked hs := by
  refine ⟨fun h => ?_, neg_cr⟩
  have := neg_cr h
  rw [List.map_map] at this
  have e : hs.map ((fun x : Int => -x) ∘ fun x => -x) = hs := by
    have : ((fun x : Int => -x) ∘ fun x => -x) = id := by funext x; simp
    rw [this, List.map_id]
  rw [e] at this
  exact this
theorem rev_cr {hs : List Int} : crooked hs → crooked hs.reverse := by
  rintro ⟨p, q, hp, hq, hl⟩
  have a := mem_prs.mp hp
  have b := mem_prs.mp hq
  let m : Pr → Pr := fun r => (hs.length - 1 - r.2, hs.length - 1 - r.1)
  have hm : ∀ r : Pr, r.1 < r.2 → r.2 < hs.length → m r ∈ prs hs.reverse.length ∧ df hs.reverse (m r) = -df hs r ∧ ln (m r) = ln r := fun r h1 h2 => by
    refine ⟨mem_prs.mpr ?_, ?_, ?_⟩
    · show hs.length - 1 - r.2 < hs.length - 1 - r.1 ∧ hs.length - 1 - r.1 < hs.reverse.length
      rw [List.length_reverse]; omega
    · have g : ∀ i, i < hs.length → hv hs.reverse (hs.length - 1 - i) = hv hs i := fun i hi => by
        unfold hv
        rw [List.getElem?_reverse (by omega)]
        congr 2
        omega
      show hv hs.reverse (hs.length - 1 - r.1) - hv hs.reverse (hs.length - 1 - r.2) = _
      rw [g r.1 (by omega), g r.2 h2]
      unfold df; omega
    · show ((hs.length - 1 - r.1 : Nat) : Int) - ((hs.length - 1 - r.2 : Nat) : Int) = _
      unfold ln; omega
  obtain ⟨p1, p2, p3⟩ := hm p a.1 a.2
  obtain ⟨q1, q2, q3⟩ := hm q b.1 b.2
  refine ⟨m q, m p, q1, p1, ?_⟩
  rw [p2, p3, q2, q3]
  have e1 : (-df hs p + 1) * ln q = -((df hs p - 1) * ln q) := by grind
  have e2 : (-df hs q - 1) * ln p = -((df hs q + 1) * ln p) := by grind
  omega
theorem rev_iff {hs : List Int} : crooked hs.reverse ↔ crooked hs := by
  refine ⟨fun h => ?_, rev_cr⟩
  have := rev_cr h
  rw [List.reverse_reverse] at this
  exact this
def lean (hs : List Int) (k : Int) : List Int := (List.range hs.length).map fun t : Nat => hv hs t + k * (t : Int) + 5
theorem lean_len (hs : List Int) (k : Int) : (lean hs k).length = hs.length := by simp [lean]
theorem lean_df {hs : List Int} {k : Int} {r : Pr} (h1 : r.1 < r.2) (h2 : r.2 < hs.length) : df (lean hs k) r = df hs r + k * ln r := by
  have g : ∀ i, i < hs.length → hv (lean hs k) i = hv hs i + k * (i : Int) + 5 := fun i hi => by
    unfold lean
    unfold hv
    rw [List.getElem?_map, List.getElem?_range hi]
    rfl
  unfold df ln
  rw [g r.2 h2, g r.1 (by omega)]
  have : k * ((r.2 : Int) - (r.1 : Int)) = k * (r.2 : Int) - k * (r.1 : Int) := Int.mul_sub _ _ _
  omega
theorem lean_iff {hs : List Int} {k : Int} : crooked (lean hs k) ↔ crooked hs := by
  have key : ∀ p q : Pr, p ∈ prs hs.length → q ∈ prs hs.length → ((df (lean hs k) q + 1) * ln p < (df (lean hs k) p - 1) * ln q ↔ (df hs q + 1) * ln p < (df hs p - 1) * ln q) := fun p q hp hq => by
    have a := mem_prs.mp hp
    have b := mem_prs.mp hq
    rw [lean_df a.1 a.2, lean_df b.1 b.2]
    have e1 : (df hs q + k * ln q + 1) * ln p = (df hs q + 1) * ln p + k * ln q * ln p := by grind
    have e2 : (df hs p + k * ln p - 1) * ln q = (df hs p - 1) * ln q + k * ln q * ln p := by grind
    omega
  unfold crooked
  rw [lean_len]
  constructor
  · rintro ⟨p, q, hp, hq, hl⟩; exact ⟨p, q, hp, hq, (key p q hp hq).mp hl⟩
  · rintro ⟨p, q, hp, hq, hl⟩; exact ⟨p, q, hp, hq, (key p q hp hq).mpr hl⟩
/-! lines -/
def ab (i : Int) : Int := if i < 0 then -i else i
def sg (i : Int) : Int := if 0 < i then 1 else if i < 0 then -1 else 0
def rnd (t : Nat) (f c : Int) : Int := (2 * (t : Int) * c + f) / (2 * f)
theorem rnd_spec {t : Nat} {f c : Int} (h : 0 < f) : 2 * (rnd t f c * f) ≤ 2 * ((t : Int) * c) + f ∧ 2 * ((t : Int) * c) < 2 * (rnd t f c * f) + f := by
  unfold rnd
  have a := Int.emod_nonneg (2 * (t : Int) * c + f) (show 2 * f ≠ 0 by omega)
  have b := Int.emod_lt_of_pos (2 * (t : Int) * c + f) (show 0 < 2 * f by omega)
  have e := Int.mul_ediv_add_emod (2 * (t : Int) * c + f) (2 * f)
  generalize (2 * (t : Int) * c + f) / (2 * f) = r at *
  generalize (2 * (t : Int) * c + f) % (2 * f) = m at *
  have e1 : 2 * (t : Int) * c = 2 * ((t : Int) * c) := by grind
  have e2 : 2 * f * r = 2 * (r * f) := by grind
  omega
theorem rnd_unique {t : Nat} {f c r : Int} (h : 0 < f) (h1 : 2 * (r * f) ≤ 2 * ((t : Int) * c) + f) (h2 : 2 * ((t : Int) * c) < 2 * (r * f) + f) : rnd t f c = r := by
  obtain ⟨a, b⟩ := rnd_spec (t := t) (c := c) h
  generalize rnd t f c = s at *
  rcases Int.lt_trichotomy s r with q | q | q
  · have := Int.mul_le_mul_of_nonneg_right (show s + 1 ≤ r by omega) (Int.le_of_lt h)
    rw [Int.add_mul] at this; omega
  · exact q
  · have := Int.mul_le_mul_of_nonneg_right (show r + 1 ≤ s by omega) (Int.le_of_lt h)
    rw [Int.add_mul] at this; omega
theorem rnd_self {t : Nat} {f : Int} (h : 0 < f) : rnd t f f = t := rnd_unique h (by omega) (by omega)
theorem rnd_zero {t : Nat} {f : Int} (h : 0 < f) : rnd t f 0 = 0 := rnd_unique h (by omega) (by omega)
theorem rnd_t0 {f c : Int} (h : 0 < f) : rnd 0 f c = 0 := rnd_unique h (by simp; omega) (by simp; omega)
theorem rnd_range {t : Nat} {f c : Int} (h : 0 < f) (hc : 0 ≤ c) (hc2 : c ≤ f) : 0 ≤ rnd t f c ∧ rnd t f c ≤ t := by
  obtain ⟨a, b⟩ := rnd_spec (t := t) (c := c) h
  have p1 : 0 ≤ (t : Int) * c := Int.mul_nonneg (by omega) hc
  have p2 : (t : Int) * c ≤ (t : Int) * f := Int.mul_le_mul_of_nonneg_left hc2 (by omega)
  generalize rnd t f c = s at *
  constructor
  · rcases Int.lt_or_le s 0 with q | q
    · have := Int.mul_le_mul_of_nonneg_right (show s ≤ -1 by omega) (Int.le_of_lt h)
      omega
    · exact q
  · rcases Int.lt_or_le (t : Int) s with q | q
    · have := Int.mul_le_mul_of_nonneg_right (show (t : Int) + 1 ≤ s by omega) (Int.le_of_lt h)
      rw [Int.add_mul] at this; omega
    · exact q
theorem rnd_step {t : Nat} {f c : Int} (h : 0 < f) (hc : 0 ≤ c) (hc2 : c ≤ f) : rnd t f c ≤ rnd (t + 1) f c ∧ rnd (t + 1) f c ≤ rnd t f c + 1 := by
  obtain ⟨a, b⟩ := rnd_spec (t := t) (c := c) h
  obtain ⟨a2, b2⟩ := rnd_spec (t := t + 1) (c := c) h
  have e : ((t + 1 : Nat) : Int) * c = (t : Int) * c + c := by rw [Int.natCast_add, Int.add_mul]; simp
  rw [e] at a2 b2
  generalize rnd t f c = r at *
  generalize rnd (t + 1) f c = s at *
  constructor
  · rcases Int.lt_or_le s r with q | q
    · have := Int.mul_le_mul_of_nonneg_right (show s + 1 ≤ r by omega) (Int.le_of_lt h)
      rw [Int.add_mul] at this; omega
    · exact q
  · rcases Int.lt_or_le (r + 1) s with q | q
    · have := Int.mul_le_mul_of_nonneg_right (show r + 1 + 1 ≤ s by omega) (Int.le_of_lt h)
      rw [Int.add_mul, Int.add_mul] at this; omega
    · exact q
/-- just between -/
def tie (t : Nat) (f c : Int) : Prop := (2 * (t : Int) * c) % (2 * f) = f
theorem tie_iff {t : Nat} {f c : Int} (h : 0 < f) : tie t f c ↔ ∃ s : Int, 2 * ((t : Int) * c) = 2 * (s * f) + f := by
  unfold tie
  constructor
  · intro q
    have e := Int.mul_ediv_add_emod (2 * (t : Int) * c) (2 * f)
    rw [q] at e
    refine ⟨(2 * (t : Int) * c) / (2 * f), ?_⟩
    generalize (2 * (t : Int) * c) / (2 * f) = r at *
    have e1 : 2 * (t : Int) * c = 2 * ((t : Int) * c) := by grind
    have e2 : 2 * f * r = 2 * (r * f) := by grind
    omega
  · rintro ⟨s, e⟩
    have e1 : 2 * (t : Int) * c = f + 2 * f * s := by grind
    rw [e1, Int.add_mul_emod_self_left]
    exact Int.emod_eq_of_lt (by omega) (by omega)
theorem rnd_back {t n : Nat} {f c : Int} (h : 0 < f) (hn : (n : Int) = f) (ht : t ≤ n) : rnd (n - t) f c = c - rnd t f c ↔ ¬ tie t f c := by
  obtain ⟨a, b⟩ := rnd_spec (t := t) (c := c) h
  have e : ((n - t : Nat) : Int) * c = f * c - (t : Int) * c := by
    have : ((n - t : Nat) : Int) = f - (t : Int) := by omega
    rw [this, Int.sub_mul]
  have e2 : (c - rnd t f c) * f = f * c - rnd t f c * f := by rw [Int.sub_mul, Int.mul_comm c f]
  constructor
  · intro q hz
    obtain ⟨s, hs⟩ := (tie_iff h).mp hz
    obtain ⟨a2, b2⟩ := rnd_spec (t := n - t) (c := c) h
    rw [q, e, e2] at a2 b2
    have : s + 1 = rnd t f c := by
      generalize rnd t f c = r at *
      rcases Int.lt_trichotomy (s + 1) r with z | z | z
      · have := Int.mul_le_mul_of_nonneg_right (show s + 1 + 1 ≤ r by omega) (Int.le_of_lt h)
        rw [Int.add_mul, Int.add_mul] at this; omega
      · exact z
      · have := Int.mul_le_mul_of_nonneg_right (show r ≤ s by omega) (Int.le_of_lt h)
        omega
    rw [← this, Int.add_mul] at a2 b2
    omega
  · intro hz
    refine rnd_unique h ?_ ?_
    · rw [e, e2]; omega
    · rw [e, e2]
      rcases Int.lt_or_le (2 * (rnd t f c * f)) (2 * ((t : Int) * c) + f) with z | z
      · omega
      · exfalso
        refine hz ((tie_iff h).mpr ⟨rnd t f c - 1, ?_⟩)
        rw [Int.sub_mul]; omega
end P49
namespace P49
open PySem VL
open PySem.W (Datum DatumOrd)
def dx (a b : Pt) : Int := b.1 - a.1
def dy (a b : Pt) : Int := b.2 - a.2
def far (a b : Pt) : Int := if ab (dx a b) < ab (dy a b) then ab (dy a b) else ab (dx a b)
def lss (a b : Pt) : Int := if ab (dy a b) < ab (dx a b) then ab (dy a b) else ab (dx a b)
def cellAt (a b : Pt) (t : Nat) : Pt := (a.1 + rnd t (far a b) (ab (dx a b)) * sg (dx a b), a.2 + rnd t (far a b) (ab (dy a b)) * sg (dy a b))
def farN (a b : Pt) : Nat := (far a b).toNat
def lineL (a b : Pt) : List Pt := (List.range (farN a b + 1)).map (cellAt a b)
theorem ab_nn (i : Int) : 0 ≤ ab i := by unfold ab; split <;> omega
theorem far_nn (a b : Pt) : 0 ≤ far a b := by unfold far; split <;> exact ab_nn _
theorem farN_eq (a b : Pt) : ((farN a b : Nat) : Int) = far a b := by unfold farN; have := far_nn a b; omega
theorem far_ge (a b : Pt) : ab (dx a b) ≤ far a b ∧ ab (dy a b) ≤ far a b := by unfold far; split <;> omega
theorem sg0 : sg 0 = 0 := rfl
theorem far_zero {a b : Pt} (h : far a b = 0) : b = a := by
  have g := far_ge a b
  have x1 := ab_nn (dx a b)
  have y1 := ab_nn (dy a b)
  have x : dx a b = 0 := by
    have : ab (dx a b) = 0 := by omega
    unfold ab at this; split at this <;> omega
  have y : dy a b = 0 := by
    have : ab (dy a b) = 0 := by omega
    unfold ab at this; split at this <;> omega
  unfold dx dy at *
  exact Prod.ext (by omega) (by omega)
theorem cell0 (a b : Pt) : cellAt a b 0 = a := by
  rcases Int.lt_or_le 0 (far a b) with h | h
  · unfold cellAt
    rw [rnd_t0 h, rnd_t0 h]; simp
  · have z : far a b = 0 := by have := far_nn a b; omega
    have e := far_zero z
    subst e
    unfold cellAt dx dy
    simp [sg0]
theorem ab_neg (i : Int) : ab (-i) = ab i := by unfold ab; split <;> split <;> omega
theorem dx_swap (a b : Pt) : dx b a = -dx a b := by unfold dx; omega
theorem dy_swap (a b : Pt) : dy b a = -dy a b := by unfold dy; omega
theorem sg_neg (i : Int) : sg (-i) = -sg i := by unfold sg; split <;> split <;> (try split) <;> omega
theorem far_swap (a b : Pt) : far b a = far a b := by unfold far; rw [dx_swap, dy_swap, ab_neg, ab_neg]
theorem ab_sg (i : Int) : ab i * sg i = i := by
  unfold ab sg
  split <;> split <;> (try split) <;> omega
theorem sg_ne {i : Int} (h : i ≠ 0) : sg i = 1 ∨ sg i = -1 := by unfold sg; split <;> (try split) <;> omega
theorem sg_or (i : Int) : sg i = 0 ∨ sg i = 1 ∨ sg i = -1 := by unfold sg; split <;> (try split) <;> omega
/-- one coordinate, turned about -/
theorem back_co {f u v : Int} {n t : Nat} (h : 0 < f) (hn : (n : Int) = f) (ht : t ≤ n) : (v + rnd t f (ab (-(u))) * sg (-(u)) = v - u + rnd (n - t) f (ab u) * sg u) ↔ (u = 0 ∨ ¬ tie t f (ab u)) := by
  rw [ab_neg, sg_neg]
  by_cases z : u = 0
  · subst z
    simp [sg0]
  · have k := rnd_back (c := ab u) h hn ht
    have e := ab_sg u
    rw [or_iff_right z, ← k]
    rcases sg_ne z with q | q
    · rw [q] at e ⊢; omega
    · rw [q] at e ⊢; omega
theorem no_tie_zero {t : Nat} {f : Int} (h : 0 < f) : ¬ tie t f 0 := by unfold tie; simp; omega
theorem no_tie_self {t : Nat} {f : Int} (h : 0 < f) : ¬ tie t f f := by
  intro z
  obtain ⟨s, e⟩ := (tie_iff h).mp z
  rcases Int.lt_trichotomy s t with q | q | q
  · have := Int.mul_le_mul_of_nonneg_right (show s + 1 ≤ t by omega) (Int.le_of_lt h)
    rw [Int.add_mul] at this; omega
  · rw [q] at e; omega
  · have := Int.mul_le_mul_of_nonneg_right (show (t : Int) + 1 ≤ s by omega) (Int.le_of_lt h)
    rw [Int.add_mul] at this; omega
def tieL (a b : Pt) : List Nat := (List.range (farN a b + 1)).filter fun t => decide (0 < far a b) && decide ((2 * (t : Int) * lss a b) % (2 * far a b) = far a b)
theorem tie_less {a b : Pt} {t : Nat} (h : 0 < far a b) : (tie t (far a b) (ab (dx a b)) ∨ tie t (far a b) (ab (dy a b))) ↔ tie t (far a b) (lss a b) := by
  have n := no_tie_self (t := t) h
  unfold far lss at *
  by_cases c : ab (dx a b) < ab (dy a b)
  · rw [if_pos c] at n ⊢
    rw [if_neg (by omega)]
    exact ⟨fun q => q.resolve_right n, .inl⟩
  · rw [if_neg c] at n ⊢
    by_cases c2 : ab (dy a b) < ab (dx a b)
    · rw [if_pos c2]
      exact ⟨fun q => q.resolve_left n, .inr⟩
    · rw [if_neg c2]
      have e : ab (dy a b) = ab (dx a b) := by omega
      rw [e]
      exact ⟨fun q => q.elim id id, .inl⟩
theorem list_rev {n : Nat} {f g : Nat → Pt} : (List.range (n + 1)).map f = ((List.range (n + 1)).map g).reverse ↔ ∀ t, t ≤ n → f t = g (n - t) := by
  constructor
  · intro h t ht
    have h1 : ((List.range (n + 1)).map f)[t]? = some (f t) := by rw [List.getElem?_map, List.getElem?_range (by omega)]; rfl
    have h2 : ((List.range (n + 1)).map g).reverse[t]? = some (g (n - t)) := by
      rw [List.getElem?_reverse (by simp; omega), List.getElem?_map]
      simp only [List.length_map, List.length_range]
      rw [List.getElem?_range (by omega)]
      simp
    rw [h, h2] at h1
    exact (Option.some.inj h1).symm
  · intro h
    refine List.ext_getElem? fun t => ?_
    by_cases ht : t ≤ n
    · rw [List.getElem?_map, List.getElem?_range (by omega), List.getElem?_reverse (by simp; omega), List.getElem?_map]
      simp only [List.length_map, List.length_range]
      rw [List.getElem?_range (by omega)]
      simp [h t ht]
    · rw [List.getElem?_eq_none (by simp; omega), List.getElem?_eq_none (by simp; omega)]
/-- back is the way there turned about, just without ties -/
theorem back_iff (a b : Pt) : lineL b a = (lineL a b).reverse ↔ tieL a b = [] := by
  have hn : farN b a = farN a b := by unfold farN; rw [far_swap]
  unfold lineL
  rw [hn, list_rev]
  unfold tieL
  rw [List.filter_eq_nil_iff]
  have key : ∀ t, t ≤ farN a b → (cellAt b a t = cellAt a b (farN a b - t) ↔ ¬ (0 < far a b ∧ tie t (far a b) (lss a b))) := by
    intro t ht
    rcases Int.lt_or_le 0 (far a b) with h | h
    · have kx := back_co (u := dx a b) (v := b.1) h (farN_eq a b) ht
      have ky := back_co (u := dy a b) (v := b.2) h (farN_eq a b) ht
      have ex : b.1 - dx a b = a.1 := by unfold dx; omega
      have ey : b.2 - dy a b = a.2 := by unfold dy; omega
      rw [ex] at kx
      rw [ey] at ky
      have e : cellAt b a t = cellAt a b (farN a b - t) ↔ (b.1 + rnd t (far a b) (ab (-dx a b)) * sg (-dx a b) = a.1 + rnd (farN a b - t) (far a b) (ab (dx a b)) * sg (dx a b)) ∧ (b.2 + rnd t (far a b) (ab (-dy a b)) * sg (-dy a b) = a.2 + rnd (farN a b - t) (far a b) (ab (dy a b)) * sg (dy a b)) := by
        unfold cellAt
        rw [far_swap, dx_swap, dy_swap, Prod.mk.injEq]
      rw [e, kx, ky]
      have zx : dx a b = 0 → ¬ tie t (far a b) (ab (dx a b)) := fun q => by rw [q]; exact no_tie_zero h
      have zy : dy a b = 0 → ¬ tie t (far a b) (ab (dy a b)) := fun q => by rw [q]; exact no_tie_zero h
      rw [← tie_less h]
      constructor
      · rintro ⟨p, q⟩ ⟨_, r⟩
        rcases r with r | r
        · exact p.elim (fun y => zx y r) (fun y => y r)
        · exact q.elim (fun y => zy y r) (fun y => y r)
      · intro q
        exact ⟨.inr fun r => q ⟨h, .inl r⟩, .inr fun r => q ⟨h, .inr r⟩⟩
    · have z : far a b = 0 := by have := far_nn a b; omega
      have hf : farN a b = 0 := by unfold farN; omega
      have e := far_zero z
      have : t = 0 := by omega
      subst this
      rw [hf, cell0, cell0]
      exact ⟨fun _ q => by omega, fun _ => e⟩
  constructor
  · intro hh t ht hc
    rw [Bool.and_eq_true, decide_eq_true_eq, decide_eq_true_eq] at hc
    have := List.mem_range.mp ht
    exact (key t (by omega)).mp (hh t (by omega)) hc
  · intro hh t ht
    refine (key t ht).mpr fun q => hh t (List.mem_range.mpr (by omega)) ?_
    rw [Bool.and_eq_true, decide_eq_true_eq, decide_eq_true_eq]
    exact q
/-- ties by steps -/
theorem tie_steps {t n : Nat} {f c : Int} (hn : (n : Int) = f) (ht : t ≤ n) (hc : 0 ≤ c) (hcf : c ≤ f) : (∃ s, s < n + 1 ∧ (ab (2 * (s : Int) * f - 2 * (t : Int) * c) = f ∧ 0 < f)) ↔ (0 < f ∧ (2 * (t : Int) * c) % (2 * f) = f) := by
  constructor
  · rintro ⟨s, hs, e, h⟩
    refine ⟨h, (tie_iff h).mpr ?_⟩
    have e1 : 2 * (s : Int) * f = 2 * ((s : Int) * f) := by grind
    have e2 : 2 * (t : Int) * c = 2 * ((t : Int) * c) := by grind
    rw [e1, e2] at e
    unfold ab at e
    split at e
    · exact ⟨s, by omega⟩
    · exact ⟨(s : Int) - 1, by rw [Int.sub_mul]; omega⟩
  · rintro ⟨h, z⟩
    obtain ⟨s, e⟩ := (tie_iff h).mp z
    have p1 : 0 ≤ (t : Int) * c := Int.mul_nonneg (by omega) hc
    have p2 : (t : Int) * c ≤ f * f := Int.mul_le_mul (by omega) hcf hc (by omega)
    have s0 : 0 ≤ s := by
      rcases Int.lt_or_le s 0 with q | q
      · have := Int.mul_le_mul_of_nonneg_right (show s ≤ -1 by omega) (Int.le_of_lt h)
        omega
      · exact q
    have s1 : s ≤ f := by
      rcases Int.lt_or_le f s with q | q
      · have := Int.mul_le_mul_of_nonneg_right (show f + 1 ≤ s by omega) (Int.le_of_lt h)
        rw [Int.add_mul] at this; omega
      · exact q
    refine ⟨s.toNat, by omega, ?_, h⟩
    have e0 : ((s.toNat : Nat) : Int) = s := by omega
    have e1 : 2 * (s.toNat : Int) * f = 2 * (s * f) := by rw [e0]; grind
    have e2 : 2 * (t : Int) * c = 2 * ((t : Int) * c) := by grind
    rw [e1, e2]
    unfold ab
    rw [if_pos (by omega)]; omega
/-- the search for the nearest step -/
def off (t : Nat) (f c s : Int) : Int := ab (2 * s * f - 2 * (t : Int) * c)
theorem off_le {t : Nat} {f c i : Int} (h : 0 < f) : off t f c i ≤ off t f c (if i - 1 < rnd t f c then i - 1 else rnd t f c) ↔ i ≤ rnd t f c := by
  obtain ⟨a, b⟩ := rnd_spec (t := t) (c := c) h
  unfold off
  generalize rnd t f c = r at *
  have e2 : 2 * (t : Int) * c = 2 * ((t : Int) * c) := by grind
  have e1 : ∀ x : Int, 2 * x * f = 2 * (x * f) := fun x => by grind
  by_cases q : i - 1 < r
  · rw [if_pos q]
    refine ⟨fun _ => by omega, fun _ => ?_⟩
    rw [e1, e1, e2, Int.sub_mul]
    have := Int.mul_le_mul_of_nonneg_right (show i ≤ r by omega) (Int.le_of_lt h)
    unfold ab
    split <;> split <;> omega
  · rw [if_neg q]
    refine ⟨fun z => ?_, fun z => by omega⟩
    exfalso
    rw [e1, e1, e2] at z
    have := Int.mul_le_mul_of_nonneg_right (show r + 1 ≤ i by omega) (Int.le_of_lt h)
    rw [Int.add_mul] at this
    unfold ab at z
    split at z <;> split at z <;> omega
theorem straight {y0 s f c : Int} {n : Nat} (hf : 0 < f) (hs : s = 0 ∨ s = 1 ∨ s = -1) : ¬ crooked ((List.range n).map fun t : Nat => y0 + rnd t f c * s) := by
  rintro ⟨p, q, hp, hq, hl⟩
  rw [List.length_map, List.length_range] at hp hq
  have a := mem_prs.mp hp
  have b := mem_prs.mp hq
  have g : ∀ i, i < n → hv ((List.range n).map fun t : Nat => y0 + rnd t f c * s) i = y0 + rnd i f c * s := fun i hi => by
    unfold hv
    rw [List.getElem?_map, List.getElem?_range hi]; rfl
  have key : ∀ r : Pr, r.1 < r.2 → r.2 < n → f * (df ((List.range n).map fun t : Nat => y0 + rnd t f c * s) r - 1) < s * c * ln r ∧ s * c * ln r < f * (df ((List.range n).map fun t : Nat => y0 + rnd t f c * s) r + 1) := fun r h1 h2 => by
    unfold df ln
    rw [g r.2 h2, g r.1 (by omega)]
    obtain ⟨x1, x2⟩ := rnd_spec (t := r.2) (c := c) hf
    obtain ⟨y1, y2⟩ := rnd_spec (t := r.1) (c := c) hf
    generalize rnd r.2 f c = u at *
    generalize rnd r.1 f c = v at *
    generalize ((r.2 : Nat) : Int) = m at *
    generalize ((r.1 : Nat) : Int) = k at *
    have e1 : f * (y0 + u * s - (y0 + v * s) - 1) = s * (u * f) - s * (v * f) - f := by grind
    have e2 : f * (y0 + u * s - (y0 + v * s) + 1) = s * (u * f) - s * (v * f) + f := by grind
    have e3 : s * c * (m - k) = s * (m * c) - s * (k * c) := by grind
    rw [e1, e2, e3]
    rcases hs with rfl | rfl | rfl
    · omega
    · omega
    · omega
  obtain ⟨p1, _⟩ := key p a.1 a.2
  obtain ⟨_, q2⟩ := key q b.1 b.2
  generalize df ((List.range n).map fun t : Nat => y0 + rnd t f c * s) p = dp at *
  generalize df ((List.range n).map fun t : Nat => y0 + rnd t f c * s) q = dq at *
  have lp := ln_pos a.1
  have lq := ln_pos b.1
  have m1 := Int.mul_lt_mul_of_pos_right p1 lq
  have m2 := Int.mul_lt_mul_of_pos_right q2 lp
  have m3 := Int.mul_lt_mul_of_pos_left hl hf
  have e1 : s * c * ln p * ln q = s * c * ln q * ln p := by grind
  have e2 : f * (dp - 1) * ln q = f * ((dp - 1) * ln q) := by grind
  have e3 : f * (dq + 1) * ln p = f * ((dq + 1) * ln p) := by grind
  omega
theorem step_ab {t : Nat} {f c s y : Int} (h : 0 < f) (hc : 0 ≤ c) (hcf : c ≤ f) (hs : s = 0 ∨ s = 1 ∨ s = -1) : ab ((y + rnd (t + 1) f c * s) - (y + rnd t f c * s)) ≤ 1 := by
  obtain ⟨a, b⟩ := rnd_step (t := t) h hc hcf
  generalize rnd (t + 1) f c = u at *
  generalize rnd t f c = v at *
  unfold ab
  rcases hs with rfl | rfl | rfl <;> split <;> omega
end P49
namespace P49
open PySem VL L2
open PySem.W (Datum DatumOrd)
def big60 : Nat → Int → List Int
  | 0, _ => []
  | n + 1, r => if 0 < r then r % 65536 :: big60 n (r / 65536) else big60 n r
def absI (i : Int) : Int := if i < 0 then -i else i
def piece (k : Nat) (x : Int) : List Int :=
  if 1000000000000000000 ≤ absI x then big60 60 (absI x)
  else [((absI x * 48271 + ((k : Int) + 1) * 69621) % 2147483647 * 16807 + 11 * (k : Int) + 5) % 2147483629 % 65536, ((absI x * 48271 + ((k : Int) + 1) * 69621) % 2147483647 * 16807 + 11 * (k : Int) + 5) % 2147483629 / 65536 % 32768]
def drawsL (ns : List Int) : List Int := (List.range (min 63 ns.length)).flatMap fun k => piece k ((ns[k]?).getD 0)
theorem big60_len : ∀ (n : Nat) (r : Int), (big60 n r).length ≤ n
  | 0, _ => Nat.le_refl _
  | n + 1, r => by
    unfold big60
    have a := big60_len n (r / 65536)
    have b := big60_len n r
    split
    · rw [List.length_cons]; omega
    · omega
theorem piece_len (k : Nat) (x : Int) : (piece k x).length ≤ 60 := by
  unfold piece
  split
  · exact big60_len 60 _
  · simp
def S__law_draws : List Int → D → Prop := fun ns d => d = tD (drawsL ns)
theorem pow18 : oPow (.int 10) (.int 18) = some (.int 1000000000000000000) := rfl
theorem keeps__law_draws : KeepsS q__law_draws N__law_draws S__law_draws := by
  rintro ns d rfl
  have bg := big
  have em : oMin2 [.int 63, .int (ns.length : Int)] = some (.int ((min 63 ns.length : Nat) : Int)) := by
    show some (PyData.int _) = _
    congr 2
    split <;> omega
  simp [q__law_draws, startS, N__law_draws, em]
  refine ⟨by omega, ?_⟩
  refine forRun_rng (fun i ρ => ∃ a b c e, ρ = [.scr ns, .own (.list (((List.range i).flatMap fun k => piece k ((ns[k]?).getD 0)).map .int)), a, b, c, e]) _ ⟨_, _, _, _, rfl⟩ ?_ ?_
  · rintro i ρ hi ⟨a, b, c, e, rfl⟩ K hK
    have hlen : ((List.range i).flatMap fun k => piece k ((ns[k]?).getD 0)).length ≤ 60 * i := by
      clear hK hi
      induction i with
      | zero => simp
      | succ i ih =>
        rw [List.range_succ, List.flatMap_append, List.length_append]
        have := piece_len i ((ns[i]?).getD 0)
        have e : [i].flatMap (fun k => piece k ((ns[k]?).getD 0)) = piece i ((ns[i]?).getD 0) := by simp
        rw [e]; omega
    have hn : (List.range (i + 1)).flatMap (fun k => piece k ((ns[k]?).getD 0)) = (List.range i).flatMap (fun k => piece k ((ns[k]?).getD 0)) ++ piece i ((ns[i]?).getD 0) := by
      rw [List.range_succ, List.flatMap_append]; simp
    rw [hn] at hK
    generalize ((List.range i).flatMap fun k => piece k ((ns[k]?).getD 0)) = acc at hlen hK ⊢
    have hx : atI ns (i : Int) = some ((ns[i]?).getD 0) := by
      unfold atI
      rw [ixN_nat (show i < ns.length by omega)]
      simp [List.getElem?_eq_getElem (show i < ns.length by omega)]
    have ha : oAbs [.int ((ns[i]?).getD 0)] = some (.int (absI ((ns[i]?).getD 0))) := rfl
    simp [hx, ha, pow18]
    unfold piece at hK
    generalize (ns[i]?).getD 0 = x at hx ha hK ⊢
    by_cases hb : 1000000000000000000 ≤ absI x
    · rw [if_pos hb] at hK
      simp [hb]
      refine .inr ?_
      refine forRun_rng (fun t ρ => ∃ l r a b, l.length ≤ t ∧ l ++ big60 (60 - t) r = big60 60 (absI x) ∧ ρ = [.scr ns, .own (.list ((acc ++ l).map .int)), .val (.int (i : Int)), .val (.int r), a, b]) 60 ⟨[], _, c, e, by simp, rfl, by simp⟩ ?_ ?_
      · rintro t ρ ht ⟨l, r, a, b, h1, h2, rfl⟩ K2 hK2
        have hu : 60 - t = (60 - (t + 1)) + 1 := by omega
        rw [hu, big60] at h2
        by_cases hr : 0 < r
        · rw [if_pos hr] at h2
          simp [hr, mod_int, div_int]
          rw [← List.map_append, append_ok (by simp; omega)]
          refine ⟨_, rfl, ?_⟩
          exact hK2 _ ⟨l ++ [r % 65536], r / 65536, .val (.int (t : Int)), b, by simp; omega, by simpa using h2, by simp⟩
        · rw [if_neg hr] at h2
          simp [hr]
          exact hK2 _ ⟨l, r, .val (.int (t : Int)), b, by omega, h2, by simp⟩
      · rintro ρ ⟨l, r, a, b, h1, h2, rfl⟩
        have : l = big60 60 (absI x) := by rw [← h2]; simp [big60]
        subst this
        exact hK _ ⟨_, _, _, _, rfl⟩
    · rw [if_neg hb] at hK
      have q1 : ∀ y : Int, oMul (.int y) (.int 48271) = some (.int (y * 48271)) := fun y => mul_int (.inr (by omega))
      have q2 : ∀ y : Int, oMul (.int y) (.int 69621) = some (.int (y * 69621)) := fun y => mul_int (.inr (by omega))
      have q3 : ∀ y : Int, oMul (.int y) (.int 16807) = some (.int (y * 16807)) := fun y => mul_int (.inr (by omega))
      have q4 : ∀ y : Int, oMul (.int 11) (.int y) = some (.int (11 * y)) := fun y => mul_int (.inl (by omega))
      simp only [Int.not_le] at hb
      simp [hb, q1, q2, q3, q4, mod_int, div_int]
      refine .inl ⟨_, append_ok (by simp; omega), _, append_ok (by simp; omega), ?_⟩
      refine hK _ ⟨.val (.int (i : Int)), .val (.int (absI x)), c, .val (.int (((absI x * 48271 + ((i : Int) + 1) * 69621) % 2147483647 * 16807 + 11 * (i : Int) + 5) % 2147483629)), by simp⟩
  · rintro ρ ⟨a, b, c, e, rfl⟩
    simp [tD_list, drawsL]
    intros; rfl
def mixL (ds : List Int) (k many : Int) : Int :=
  let v := if 0 < ds.length then (ds[(k % (ds.length : Int)).toNat]?).getD 0 else 0
  if k < ds.length then v % many else (v * 7919 + k * 104729) / 3 % many
theorem mixL_range {ds : List Int} {k many : Int} (h : 0 < many) : 0 ≤ mixL ds k many ∧ mixL ds k many < many := by
  unfold mixL
  dsimp only
  split
  · exact ⟨Int.emod_nonneg _ (by omega), Int.emod_lt_of_pos _ h⟩
  · exact ⟨Int.emod_nonneg _ (by omega), Int.emod_lt_of_pos _ h⟩
def S__law_mix : VL.Spec := fun ds d => ∃ (xs : List Int) (k many : Int), 0 < many ∧ ds = [tD xs, .int k, .int many] ∧ d = .int (mixL xs k many)
theorem mx {xs : List Int} {k many : Int} (h : 0 < many) : S__law_mix [tD xs, .int k, .int many] (.int (mixL xs k many)) := ⟨xs, k, many, h, rfl, rfl⟩
theorem keeps__law_mix : Keeps q__law_mix N__law_mix 3 S__law_mix := by
  rintro ds d ⟨xs, k, many, hm, rfl, rfl⟩
  refine ⟨rfl, ?_⟩
  have q1 : ∀ y : Int, oMul (.int y) (.int 7919) = some (.int (y * 7919)) := fun y => mul_int (.inr (by omega))
  have q2 : ∀ y : Int, oMul (.int y) (.int 104729) = some (.int (y * 104729)) := fun y => mul_int (.inr (by omega))
  simp [q__law_mix, startV, N__law_mix, tD_list]
  by_cases h0 : 0 < xs.length
  · have hi := Int.emod_nonneg k (show (xs.length : Int) ≠ 0 by omega)
    have hj := Int.emod_lt_of_pos k (show 0 < (xs.length : Int) by omega)
    have e1 : oIx (.list (xs.map tD)) (.int (k % (xs.length : Int))) = some (.int ((xs[(k % (xs.length : Int)).toNat]?).getD 0)) := by
      obtain ⟨m, hm2⟩ : ∃ m : Nat, k % (xs.length : Int) = (m : Int) := ⟨(k % (xs.length : Int)).toNat, by omega⟩
      rw [hm2] at hj ⊢
      refine ix_map ?_
      have h2 : m < xs.length := by omega
      simp [List.getElem?_eq_getElem h2]
    have p0 : (0 : Int) < xs.length := by omega
    simp [h0, p0, mod_int p0, e1]
    unfold mixL
    rw [if_pos h0]
    by_cases hk : k < xs.length
    · simp [hk, mod_int hm]
    · simp [hk, mod_int hm, q1, q2, div_int]
      exact .inr (by omega)
  · have e : xs = [] := by
      cases xs with
      | nil => rfl
      | cons _ _ => simp at h0
    subst e
    simp
    unfold mixL
    by_cases hk : k < 0
    · simp [hk, mod_int hm]
    · simp [hk, mod_int hm, q1, q2, div_int]
      omega
end P49
namespace P49
open PySem VL L2
open PySem.W (Datum DatumOrd)
theorem tD_pt (p : Pt) : tD p = .tuple [.int p.1, .int p.2] := rfl
theorem tD_pr (p : Pr) : tD p = .tuple [.int (p.1 : Int), .int (p.2 : Int)] := rfl
def S_fraction : VL.Spec := fun ds d => ∃ n m : Int, (0 < m ∧ m < 1000) ∧ ds = [.int n, .int m] ∧ d = tD (fr n m)
theorem gcd_eq (n m : Int) : oGcd [.int n, .int m] = some (.int (gc n m)) := rfl
theorem keeps_fraction : Keeps q_fraction N_fraction 2 S_fraction := by
  rintro ds d ⟨n, m, ⟨h, h2⟩, rfl, rfl⟩
  refine ⟨rfl, ?_⟩
  have g := gc_pos (n := n) h
  have c : ¬ m < 0 := by omega
  have e1 : oDiv (.int n) (.int (gc n m)) = some (.int (n / gc n m)) := div_int (by omega)
  have e2 : oDiv (.int m) (.int (gc n m)) = some (.int (m / gc n m)) := div_int (by omega)
  unfold q_fraction
  change (qSeq _ _) _ [.val (.int n), .val (.int m), .no]
  simp only [e_seq, e_next, e_break, e_cont, e_drop, e_set, e_setO, e_asg, e_par, e_ifS, e_ret, e_retN, e_retV, e_for, e_setIx, e_meth, e_lend, e_frz, e_var, e_varL, e_c, e_2, e_1, e_tst, e_chain, e_and, e_or, e_not, e_andV, e_orV, e_notV, e_if, e_nil, e_cons, e_lst, e_tup, e_N, e_call, e_callL, e_callS, e_lenS, e_ixS, e_iList, e_iRng1, e_iRng2, e_iEnum, e_iZip, e_name, e_gNil, e_gCons, e_gTup, e_lc, e_listRg1, e_yes, e_wipe0, e_wipe1, e_getV, e_getVo, e_getVb, e_getL, e_getLo, e_getLb, e_getLw, e_ownL, e_sl, e_none, e_some, add_int, sub_int, eq_int, ne_int, eq_bool, ne_bool, ne_str, eq_str, lt_int, gt_int, le_int, ge_int, len_list, len_tuple, list_list, int_int, rev_list, ix_t0, ix_t1, ix_t2, ix_l0, ix_l1, ix_l2, List.set_cons_succ, List.set_cons_zero, List.getElem?_cons_succ, List.getElem?_cons_zero, Option.bind_some, Option.some.injEq, exists_eq_left', exists_eq_left, PyData.bool.injEq, PyData.int.injEq, PyData.list.injEq, Sl.own.injEq, List.cons.injEq, and_true, decide_eq_true_eq, Bool.false_eq_true, if_false, if_true, decide_true, decide_false, Bool.not_true, Bool.not_false, c, gcd_eq, e1, e2]
  rfl
def small (i : Int) : Prop := -100000 ≤ i ∧ i ≤ 100000
theorem mul_sm {i j : Int} (h : small i ∨ small j) : oMul (.int i) (.int j) = some (.int (i * j)) := mul_int (by unfold small at h; omega)
def S_is_less : VL.Spec := fun ds d => ∃ a b : Int × Int, (small a.2 ∧ small b.2) ∧ ds = [tD a, tD b] ∧ d = .bool (less a b)
theorem keeps_is_less : Keeps q_is_less N_is_less 2 S_is_less := by
  rintro ds d ⟨a, b, ⟨h, h2⟩, rfl, rfl⟩
  refine ⟨rfl, ?_⟩
  unfold q_is_less
  change (qRet _) _ [.val (tD a), .val (tD b)]
  simp only [e_seq, e_next, e_break, e_cont, e_drop, e_set, e_setO, e_asg, e_par, e_ifS, e_ret, e_retN, e_retV, e_for, e_setIx, e_meth, e_lend, e_frz, e_var, e_varL, e_c, e_2, e_1, e_tst, e_chain, e_and, e_or, e_not, e_andV, e_orV, e_notV, e_if, e_nil, e_cons, e_lst, e_tup, e_N, e_call, e_callL, e_callS, e_lenS, e_ixS, e_iList, e_iRng1, e_iRng2, e_iEnum, e_iZip, e_name, e_gNil, e_gCons, e_gTup, e_lc, e_listRg1, e_yes, e_wipe0, e_wipe1, e_getV, e_getVo, e_getVb, e_getL, e_getLo, e_getLb, e_getLw, e_ownL, e_sl, e_none, e_some, add_int, sub_int, eq_int, ne_int, eq_bool, ne_bool, ne_str, eq_str, lt_int, gt_int, le_int, ge_int, len_list, len_tuple, list_list, int_int, rev_list, ix_t0, ix_t1, ix_t2, ix_l0, ix_l1, ix_l2, List.set_cons_succ, List.set_cons_zero, List.getElem?_cons_succ, List.getElem?_cons_zero, Option.bind_some, Option.some.injEq, exists_eq_left', exists_eq_left, PyData.bool.injEq, PyData.int.injEq, PyData.list.injEq, Sl.own.injEq, List.cons.injEq, and_true, decide_eq_true_eq, Bool.false_eq_true, if_false, if_true, decide_true, decide_false, Bool.not_true, Bool.not_false, tD_pt, mul_sm (i := a.1) (j := b.2) (.inr h2), mul_sm (i := b.1) (j := a.2) (.inr h)]
  rfl
def S__law_less : VL.Spec := S_is_less
theorem keeps__law_less : Keeps q__law_less N__law_less 2 S__law_less := by
  rintro ds d ⟨a, b, ⟨h, h2⟩, rfl, rfl⟩
  refine ⟨rfl, ?_⟩
  unfold q__law_less
  change (qRet _) _ [.val (tD a), .val (tD b)]
  simp only [e_seq, e_next, e_break, e_cont, e_drop, e_set, e_setO, e_asg, e_par, e_ifS, e_ret, e_retN, e_retV, e_for, e_setIx, e_meth, e_lend, e_frz, e_var, e_varL, e_c, e_2, e_1, e_tst, e_chain, e_and, e_or, e_not, e_andV, e_orV, e_notV, e_if, e_nil, e_cons, e_lst, e_tup, e_N, e_call, e_callL, e_callS, e_lenS, e_ixS, e_iList, e_iRng1, e_iRng2, e_iEnum, e_iZip, e_name, e_gNil, e_gCons, e_gTup, e_lc, e_listRg1, e_yes, e_wipe0, e_wipe1, e_getV, e_getVo, e_getVb, e_getL, e_getLo, e_getLb, e_getLw, e_ownL, e_sl, e_none, e_some, add_int, sub_int, eq_int, ne_int, eq_bool, ne_bool, ne_str, eq_str, lt_int, gt_int, le_int, ge_int, len_list, len_tuple, list_list, int_int, rev_list, ix_t0, ix_t1, ix_t2, ix_l0, ix_l1, ix_l2, List.set_cons_succ, List.set_cons_zero, List.getElem?_cons_succ, List.getElem?_cons_zero, Option.bind_some, Option.some.injEq, exists_eq_left', exists_eq_left, PyData.bool.injEq, PyData.int.injEq, PyData.list.injEq, Sl.own.injEq, List.cons.injEq, and_true, decide_eq_true_eq, Bool.false_eq_true, if_false, if_true, decide_true, decide_false, Bool.not_true, Bool.not_false, tD_pt, mul_sm (i := a.1) (j := b.2) (.inr h2), mul_sm (i := b.1) (j := a.2) (.inr h)]
  rfl
def OkP (p : Pt) : Prop := (-100 ≤ p.1 ∧ p.1 ≤ 100) ∧ (-100 ≤ p.2 ∧ p.2 ≤ 100)
theorem neg_int (i : Int) : oNeg (.int i) = some (.int (-i)) := rfl
def S_is_point : VL.Spec := fun ds d => ∃ p : Pt, OkP p ∧ ds = [tD p] ∧ d = .bool true
theorem keeps_is_point : Keeps q_is_point N_is_point 1 S_is_point := by
  rintro ds d ⟨p, ⟨⟨a1, a2⟩, b1, b2⟩, rfl, rfl⟩
  refine ⟨rfl, ?_⟩
  unfold q_is_point
  change (qRet _) _ [.val (tD p)]
  simp only [e_seq, e_next, e_break, e_cont, e_drop, e_set, e_setO, e_asg, e_par, e_ifS, e_ret, e_retN, e_retV, e_for, e_setIx, e_meth, e_lend, e_frz, e_var, e_varL, e_c, e_2, e_1, e_tst, e_chain, e_and, e_or, e_not, e_andV, e_orV, e_notV, e_if, e_nil, e_cons, e_lst, e_tup, e_N, e_call, e_callL, e_callS, e_lenS, e_ixS, e_iList, e_iRng1, e_iRng2, e_iEnum, e_iZip, e_name, e_gNil, e_gCons, e_gTup, e_lc, e_listRg1, e_yes, e_wipe0, e_wipe1, e_getV, e_getVo, e_getVb, e_getL, e_getLo, e_getLb, e_getLw, e_ownL, e_sl, e_none, e_some, add_int, sub_int, eq_int, ne_int, eq_bool, ne_bool, ne_str, eq_str, lt_int, gt_int, le_int, ge_int, len_list, len_tuple, list_list, int_int, rev_list, ix_t0, ix_t1, ix_t2, ix_l0, ix_l1, ix_l2, List.set_cons_succ, List.set_cons_zero, List.getElem?_cons_succ, List.getElem?_cons_zero, Option.bind_some, Option.some.injEq, exists_eq_left', exists_eq_left, PyData.bool.injEq, PyData.int.injEq, PyData.list.injEq, Sl.own.injEq, List.cons.injEq, and_true, decide_eq_true_eq, Bool.false_eq_true, if_false, if_true, decide_true, decide_false, Bool.not_true, Bool.not_false, tD_pt, neg_int, a1, a2, b1, b2]
def S_check_points : VL.Spec := fun ds d => ∃ ps : List Pt, (∀ p ∈ ps, OkP p) ∧ ds = [tD ps] ∧ d = .none
theorem keeps_check_points : Keeps (q_check_points S_is_point) N_check_points 1 S_check_points := by
  rintro ds d ⟨ps, h, rfl, rfl⟩
  refine ⟨rfl, ?_⟩
  simp [q_check_points, startV, N_check_points, tD_list]
  rw [enumD_eq]
  refine forRun_inv (fun _ ρ => ∃ a b, ρ = [.val (tD ps), a, b]) _ ⟨_, _, rfl⟩ ?_ (by intros; trivial)
  rintro i ⟨x, n⟩ ρ hx ⟨a, b, rfl⟩ K hK
  have hm : x ∈ ps := by
    have := List.mem_of_getElem? hx
    exact (List.mem_zipIdx this).2.2 ▸ List.getElem_mem _
  simp [tD_list]
  exact ⟨_, ⟨x, h x hm, rfl, rfl⟩, by simp; exact hK _ ⟨_, _, rfl⟩⟩
def S_sign_of : VL.Spec := fun ds d => ∃ i : Int, ds = [.int i] ∧ d = .int (sg i)
theorem int_bool (b : Bool) : oInt [.bool b] = some (.int (if b = true then 1 else 0)) := by cases b <;> rfl
theorem keeps_sign_of : Keeps q_sign_of N_sign_of 1 S_sign_of := by
  rintro ds d ⟨i, rfl, rfl⟩
  refine ⟨rfl, ?_⟩
  unfold q_sign_of
  change (qRet _) _ [.val (.int i)]
  simp only [e_seq, e_next, e_break, e_cont, e_drop, e_set, e_setO, e_asg, e_par, e_ifS, e_ret, e_retN, e_retV, e_for, e_setIx, e_meth, e_lend, e_frz, e_var, e_varL, e_c, e_2, e_1, e_tst, e_chain, e_and, e_or, e_not, e_andV, e_orV, e_notV, e_if, e_nil, e_cons, e_lst, e_tup, e_N, e_call, e_callL, e_callS, e_lenS, e_ixS, e_iList, e_iRng1, e_iRng2, e_iEnum, e_iZip, e_name, e_gNil, e_gCons, e_gTup, e_lc, e_listRg1, e_yes, e_wipe0, e_wipe1, e_getV, e_getVo, e_getVb, e_getL, e_getLo, e_getLb, e_getLw, e_ownL, e_sl, e_none, e_some, add_int, sub_int, eq_int, ne_int, eq_bool, ne_bool, ne_str, eq_str, lt_int, gt_int, le_int, ge_int, len_list, len_tuple, list_list, int_int, rev_list, ix_t0, ix_t1, ix_t2, ix_l0, ix_l1, ix_l2, List.set_cons_succ, List.set_cons_zero, List.getElem?_cons_succ, List.getElem?_cons_zero, Option.bind_some, Option.some.injEq, exists_eq_left', exists_eq_left, PyData.bool.injEq, PyData.int.injEq, PyData.list.injEq, Sl.own.injEq, List.cons.injEq, and_true, decide_eq_true_eq, Bool.false_eq_true, if_false, if_true, decide_true, decide_false, Bool.not_true, Bool.not_false, int_bool]
  unfold sg
  by_cases a : 0 < i
  · have b : ¬ i < 0 := by omega
    simp [a, b]
  · by_cases b : i < 0
    · simp [a, b]
    · simp [a, b]
def S_moved : VL.Spec := fun ds d => ∃ (t : Nat) (f c : Int), ((0 < f ∧ f ≤ 1000) ∧ small c) ∧ ds = [tD t, .int f, .int c] ∧ d = .int (rnd t f c)
theorem keeps_moved : Keeps q_moved N_moved 3 S_moved := by
  rintro ds d ⟨t, f, c, ⟨⟨h1, h2⟩, h3⟩, rfl, rfl⟩
  refine ⟨rfl, ?_⟩
  unfold q_moved
  change (qRet _) _ [.val (.int (t : Int)), .val (.int f), .val (.int c)]
  have e1 : oMul (.int 2) (.int (t : Int)) = some (.int (2 * (t : Int))) := mul_sm (.inl (by unfold small; omega))
  have e2 : oMul (.int (2 * (t : Int))) (.int c) = some (.int (2 * (t : Int) * c)) := mul_sm (.inr h3)
  have e3 : oMul (.int 2) (.int f) = some (.int (2 * f)) := mul_sm (.inl (by unfold small; omega))
  simp only [e_seq, e_next, e_break, e_cont, e_drop, e_set, e_setO, e_asg, e_par, e_ifS, e_ret, e_retN, e_retV, e_for, e_setIx, e_meth, e_lend, e_frz, e_var, e_varL, e_c, e_2, e_1, e_tst, e_chain, e_and, e_or, e_not, e_andV, e_orV, e_notV, e_if, e_nil, e_cons, e_lst, e_tup, e_N, e_call, e_callL, e_callS, e_lenS, e_ixS, e_iList, e_iRng1, e_iRng2, e_iEnum, e_iZip, e_name, e_gNil, e_gCons, e_gTup, e_lc, e_listRg1, e_yes, e_wipe0, e_wipe1, e_getV, e_getVo, e_getVb, e_getL, e_getLo, e_getLb, e_getLw, e_ownL, e_sl, e_none, e_some, add_int, sub_int, eq_int, ne_int, eq_bool, ne_bool, ne_str, eq_str, lt_int, gt_int, le_int, ge_int, len_list, len_tuple, list_list, int_int, rev_list, ix_t0, ix_t1, ix_t2, ix_l0, ix_l1, ix_l2, List.set_cons_succ, List.set_cons_zero, List.getElem?_cons_succ, List.getElem?_cons_zero, Option.bind_some, Option.some.injEq, exists_eq_left', exists_eq_left, PyData.bool.injEq, PyData.int.injEq, PyData.list.injEq, Sl.own.injEq, List.cons.injEq, and_true, decide_eq_true_eq, Bool.false_eq_true, if_false, if_true, decide_true, decide_false, Bool.not_true, Bool.not_false, e1, e2, e3, div_int (i := 2 * (t : Int) * c + f) (j := 2 * f) (by omega)]
  rfl
theorem abs_int (i : Int) : oAbs [.int i] = some (.int (ab i)) := rfl
theorem ab_le {i B : Int} (h : -B ≤ i ∧ i ≤ B) : ab i ≤ B := by unfold ab; split <;> omega
theorem okp_d {a b : Pt} (h : OkP a) (h2 : OkP b) : ab (dx a b) ≤ 200 ∧ ab (dy a b) ≤ 200 ∧ far a b ≤ 200 := by
  unfold OkP at *
  have x : ab (dx a b) ≤ 200 := ab_le (by unfold dx; omega)
  have y : ab (dy a b) ≤ 200 := ab_le (by unfold dy; omega)
  refine ⟨x, y, ?_⟩
  unfold far; split <;> omega
theorem sg_small (i : Int) : small (sg i) := by unfold small; have := sg_or i; omega
def S_line_of : VL.Spec := fun ds d => ∃ a b : Pt, OkP a ∧ OkP b ∧ ds = [tD a, tD b] ∧ d = tD (lineL a b)
theorem keeps_line_of : Keeps (q_line_of S_moved S_sign_of) N_line_of 2 S_line_of := by
  rintro ds d ⟨a, b, ha, hb, rfl, rfl⟩
  refine ⟨rfl, ?_⟩
  have bg := big
  obtain ⟨x1, y1, f1⟩ := okp_d ha hb
  have x0 := ab_nn (dx a b)
  have y0 := ab_nn (dy a b)
  unfold q_line_of
  change (qSeq _ _) _ [.val (tD a), .val (tD b), .no, .no, .no, .no, .no]
  have ex : b.1 - a.1 = dx a b := rfl
  have ey : b.2 - a.2 = dy a b := rfl
  simp only [e_seq, e_next, e_break, e_cont, e_drop, e_set, e_setO, e_asg, e_par, e_ifS, e_ret, e_retN, e_retV, e_for, e_setIx, e_meth, e_lend, e_frz, e_var, e_varL, e_c, e_2, e_1, e_tst, e_chain, e_and, e_or, e_not, e_andV, e_orV, e_notV, e_if, e_nil, e_cons, e_lst, e_tup, e_N, e_call, e_callL, e_callS, e_lenS, e_ixS, e_iList, e_iRng1, e_iRng2, e_iEnum, e_iZip, e_name, e_gNil, e_gCons, e_gTup, e_lc, e_listRg1, e_yes, e_wipe0, e_wipe1, e_getV, e_getVo, e_getVb, e_getL, e_getLo, e_getLb, e_getLw, e_ownL, e_sl, e_none, e_some, add_int, sub_int, eq_int, ne_int, eq_bool, ne_bool, ne_str, eq_str, lt_int, gt_int, le_int, ge_int, len_list, len_tuple, list_list, int_int, rev_list, ix_t0, ix_t1, ix_t2, ix_l0, ix_l1, ix_l2, List.set_cons_succ, List.set_cons_zero, List.getElem?_cons_succ, List.getElem?_cons_zero, Option.bind_some, Option.some.injEq, exists_eq_left', exists_eq_left, PyData.bool.injEq, PyData.int.injEq, PyData.list.injEq, Sl.own.injEq, List.cons.injEq, and_true, decide_eq_true_eq, Bool.false_eq_true, if_false, if_true, decide_true, decide_false, Bool.not_true, Bool.not_false, tD_pt, ex, ey, List.length_cons, List.length_nil, true_and, abs_int]
  have fin : ∀ (P : D → Prop), P (tD (lineL a b)) → far a b = 0 → P (.list [.tuple [.int a.1, .int a.2]]) := fun P hP z => by
    have hf : farN a b = 0 := by unfold farN; omega
    have : tD (lineL a b) = .list [.tuple [.int a.1, .int a.2]] := by
      unfold lineL
      rw [hf]
      show PyData.list [tD (cellAt a b 0)] = _
      rw [cell0]; rfl
    rw [← this]; exact hP
  have cells : (List.range (farN a b + 1)).map (fun t : Nat => PyData.tuple [.int (a.1 + rnd t (far a b) (ab (dx a b)) * sg (dx a b)), .int (a.2 + rnd t (far a b) (ab (dy a b)) * sg (dy a b))]) = (lineL a b).map tD := by
    unfold lineL
    rw [List.map_map]; rfl
  have mv : ∀ (t : Nat) (f c : Int), (0 < f ∧ f ≤ 1000) ∧ small c → S_moved [.int (t : Int), .int f, .int c] (.int (rnd t f c)) := fun t f c h => ⟨t, f, c, h, rfl, rfl⟩
  have sx : ∀ i : Int, S_sign_of [.int i] (.int (sg i)) := fun i => ⟨i, rfl, rfl⟩
  have main : 0 < far a b → ∀ (t : Nat) (P : Option D → Prop), P (some (PyData.tuple [.int (a.1 + rnd t (far a b) (ab (dx a b)) * sg (dx a b)), .int (a.2 + rnd t (far a b) (ab (dy a b)) * sg (dy a b))])) →
      (far a b = ab (dx a b) → P (some (PyData.tuple [.int (a.1 + (t : Int) * sg (dx a b)), .int (a.2 + rnd t (ab (dx a b)) (ab (dy a b)) * sg (dy a b))]))) ∧
      (far a b = ab (dy a b) → P (some (PyData.tuple [.int (a.1 + rnd t (ab (dy a b)) (ab (dx a b)) * sg (dx a b)), .int (a.2 + (t : Int) * sg (dy a b))]))) := fun h0 t P hP => by
    constructor
    · intro e; rw [← e, rnd_self h0] at hP; rw [← e]; exact hP
    · intro e
      have hP' := hP
      rw [← e, rnd_self h0] at hP'
      rw [← e]; exact hP'
  by_cases zx : dx a b = 0
  · by_cases zy : dy a b = 0
    · have z : far a b = 0 := by unfold far; rw [zx, zy]; rfl
      simp only [e_seq, e_next, e_break, e_cont, e_drop, e_set, e_setO, e_asg, e_par, e_ifS, e_ret, e_retN, e_retV, e_for, e_setIx, e_meth, e_lend, e_frz, e_var, e_varL, e_c, e_2, e_1, e_tst, e_chain, e_and, e_or, e_not, e_andV, e_orV, e_notV, e_if, e_nil, e_cons, e_lst, e_tup, e_N, e_call, e_callL, e_callS, e_lenS, e_ixS, e_iList, e_iRng1, e_iRng2, e_iEnum, e_iZip, e_name, e_gNil, e_gCons, e_gTup, e_lc, e_listRg1, e_yes, e_wipe0, e_wipe1, e_getV, e_getVo, e_getVb, e_getL, e_getLo, e_getLb, e_getLw, e_ownL, e_sl, e_none, e_some, add_int, sub_int, eq_int, ne_int, eq_bool, ne_bool, ne_str, eq_str, lt_int, gt_int, le_int, ge_int, len_list, len_tuple, list_list, int_int, rev_list, ix_t0, ix_t1, ix_t2, ix_l0, ix_l1, ix_l2, List.set_cons_succ, List.set_cons_zero, List.getElem?_cons_succ, List.getElem?_cons_zero, Option.bind_some, Option.some.injEq, exists_eq_left', exists_eq_left, PyData.bool.injEq, PyData.int.injEq, PyData.list.injEq, Sl.own.injEq, List.cons.injEq, and_true, decide_eq_true_eq, Bool.false_eq_true, if_false, if_true, decide_true, decide_false, Bool.not_true, Bool.not_false, zx, zy]
      exact fin (fun d => d = tD (lineL a b)) rfl z
    · have h0 : 0 < far a b := by
        have := ab_sg (dy a b)
        have g := far_ge a b
        have : ab (dy a b) ≠ 0 := fun q => by rw [q] at this; simp at this; exact zy this.symm
        omega
      have zx' := eq_true zx
      simp only [e_seq, e_next, e_break, e_cont, e_drop, e_set, e_setO, e_asg, e_par, e_ifS, e_ret, e_retN, e_retV, e_for, e_setIx, e_meth, e_lend, e_frz, e_var, e_varL, e_c, e_2, e_1, e_tst, e_chain, e_and, e_or, e_not, e_andV, e_orV, e_notV, e_if, e_nil, e_cons, e_lst, e_tup, e_N, e_call, e_callL, e_callS, e_lenS, e_ixS, e_iList, e_iRng1, e_iRng2, e_iEnum, e_iZip, e_name, e_gNil, e_gCons, e_gTup, e_lc, e_listRg1, e_yes, e_wipe0, e_wipe1, e_getV, e_getVo, e_getVb, e_getL, e_getLo, e_getLb, e_getLw, e_ownL, e_sl, e_none, e_some, add_int, sub_int, eq_int, ne_int, eq_bool, ne_bool, ne_str, eq_str, lt_int, gt_int, le_int, ge_int, len_list, len_tuple, list_list, int_int, rev_list, ix_t0, ix_t1, ix_t2, ix_l0, ix_l1, ix_l2, List.set_cons_succ, List.set_cons_zero, List.getElem?_cons_succ, List.getElem?_cons_zero, Option.bind_some, Option.some.injEq, exists_eq_left', exists_eq_left, PyData.bool.injEq, PyData.int.injEq, PyData.list.injEq, Sl.own.injEq, List.cons.injEq, and_true, decide_eq_true_eq, Bool.false_eq_true, if_false, if_true, decide_true, decide_false, Bool.not_true, Bool.not_false, zx', zy]
      split
      · rename_i hw
        have e : far a b = ab (dx a b) := by unfold far; rw [if_neg (by omega)]
        have en : (ab (dx a b) + 1).toNat = farN a b + 1 := by unfold farN; omega
        refine ⟨⟨by omega, by omega⟩, by rw [en]; simp [rangeD]; unfold farN; omega, ?_⟩
        rw [en, rangeD0]
        refine lcRun_map (fun t : Nat => PyData.tuple [.int (a.1 + rnd t (far a b) (ab (dx a b)) * sg (dx a b)), .int (a.2 + rnd t (far a b) (ab (dy a b)) * sg (dy a b))]) _ (fun t ht P hP => ?_) ?_
        · exact ⟨_, sx _, _, mul_sm (.inr (sg_small _)), _, rfl, _, mv t _ _ ⟨by omega, by unfold small; omega⟩, _, sx _, _, mul_sm (.inr (sg_small _)), _, rfl, (main h0 t P hP).1 e⟩
        · rw [List.nil_append, cells]; rfl
      · rename_i hw
        have e : far a b = ab (dy a b) := by unfold far; rw [if_pos (by omega)]
        have en : (ab (dy a b) + 1).toNat = farN a b + 1 := by unfold farN; omega
        refine ⟨⟨by omega, by omega⟩, by rw [en]; simp [rangeD]; unfold farN; omega, ?_⟩
        rw [en, rangeD0]
        refine lcRun_map (fun t : Nat => PyData.tuple [.int (a.1 + rnd t (far a b) (ab (dx a b)) * sg (dx a b)), .int (a.2 + rnd t (far a b) (ab (dy a b)) * sg (dy a b))]) _ (fun t ht P hP => ?_) ?_
        · exact ⟨_, mv t _ _ ⟨by omega, by unfold small; omega⟩, _, sx _, _, mul_sm (.inr (sg_small _)), _, rfl, _, sx _, _, mul_sm (.inr (sg_small _)), _, rfl, (main h0 t P hP).2 e⟩
        · rw [List.nil_append, cells]; rfl
  · have h0 : 0 < far a b := by
      have := ab_sg (dx a b)
      have g := far_ge a b
      have : ab (dx a b) ≠ 0 := fun q => by rw [q] at this; simp at this; exact zx this.symm
      omega
    simp only [e_seq, e_next, e_break, e_cont, e_drop, e_set, e_setO, e_asg, e_par, e_ifS, e_ret, e_retN, e_retV, e_for, e_setIx, e_meth, e_lend, e_frz, e_var, e_varL, e_c, e_2, e_1, e_tst, e_chain, e_and, e_or, e_not, e_andV, e_orV, e_notV, e_if, e_nil, e_cons, e_lst, e_tup, e_N, e_call, e_callL, e_callS, e_lenS, e_ixS, e_iList, e_iRng1, e_iRng2, e_iEnum, e_iZip, e_name, e_gNil, e_gCons, e_gTup, e_lc, e_listRg1, e_yes, e_wipe0, e_wipe1, e_getV, e_getVo, e_getVb, e_getL, e_getLo, e_getLb, e_getLw, e_ownL, e_sl, e_none, e_some, add_int, sub_int, eq_int, ne_int, eq_bool, ne_bool, ne_str, eq_str, lt_int, gt_int, le_int, ge_int, len_list, len_tuple, list_list, int_int, rev_list, ix_t0, ix_t1, ix_t2, ix_l0, ix_l1, ix_l2, List.set_cons_succ, List.set_cons_zero, List.getElem?_cons_succ, List.getElem?_cons_zero, Option.bind_some, Option.some.injEq, exists_eq_left', exists_eq_left, PyData.bool.injEq, PyData.int.injEq, PyData.list.injEq, Sl.own.injEq, List.cons.injEq, and_true, decide_eq_true_eq, Bool.false_eq_true, if_false, if_true, decide_true, decide_false, Bool.not_true, Bool.not_false, zx]
    split
    · rename_i hw
      have e : far a b = ab (dx a b) := by unfold far; rw [if_neg (by omega)]
      have en : (ab (dx a b) + 1).toNat = farN a b + 1 := by unfold farN; omega
      refine ⟨⟨by omega, by omega⟩, by rw [en]; simp [rangeD]; unfold farN; omega, ?_⟩
      rw [en, rangeD0]
      refine lcRun_map (fun t : Nat => PyData.tuple [.int (a.1 + rnd t (far a b) (ab (dx a b)) * sg (dx a b)), .int (a.2 + rnd t (far a b) (ab (dy a b)) * sg (dy a b))]) _ (fun t ht P hP => ?_) ?_
      · exact ⟨_, sx _, _, mul_sm (.inr (sg_small _)), _, rfl, _, mv t _ _ ⟨by omega, by unfold small; omega⟩, _, sx _, _, mul_sm (.inr (sg_small _)), _, rfl, (main h0 t P hP).1 e⟩
      · rw [List.nil_append, cells]; rfl
    · rename_i hw
      have e : far a b = ab (dy a b) := by unfold far; rw [if_pos (by omega)]
      have en : (ab (dy a b) + 1).toNat = farN a b + 1 := by unfold farN; omega
      refine ⟨⟨by omega, by omega⟩, by rw [en]; simp [rangeD]; unfold farN; omega, ?_⟩
      rw [en, rangeD0]
      refine lcRun_map (fun t : Nat => PyData.tuple [.int (a.1 + rnd t (far a b) (ab (dx a b)) * sg (dx a b)), .int (a.2 + rnd t (far a b) (ab (dy a b)) * sg (dy a b))]) _ (fun t ht P hP => ?_) ?_
      · exact ⟨_, mv t _ _ ⟨by omega, by unfold small; omega⟩, _, sx _, _, mul_sm (.inr (sg_small _)), _, rfl, _, sx _, _, mul_sm (.inr (sg_small _)), _, rfl, (main h0 t P hP).2 e⟩
      · rw [List.nil_append, cells]; rfl
end P49
namespace P49
open PySem VL L2
open PySem.W (Datum DatumOrd)
theorem cp2 {a b : Pt} (ha : OkP a) (hb : OkP b) : S_check_points [.list [tD a, tD b]] .none := ⟨[a, b], by simp; exact ⟨ha, hb⟩, rfl, rfl⟩
def S_line : VL.Spec := S_line_of
theorem keeps_line : Keeps (q_line S_check_points S_line_of) N_line 2 S_line := by
  rintro ds d ⟨a, b, ha, hb, rfl, rfl⟩
  refine ⟨rfl, ?_⟩
  unfold q_line
  change (qSeq _ _) _ [.val (tD a), .val (tD b)]
  simp only [e_seq, e_next, e_break, e_cont, e_drop, e_set, e_setO, e_asg, e_par, e_ifS, e_ret, e_retN, e_retV, e_for, e_setIx, e_meth, e_lend, e_frz, e_var, e_varL, e_c, e_2, e_1, e_tst, e_chain, e_and, e_or, e_not, e_andV, e_orV, e_notV, e_if, e_nil, e_cons, e_lst, e_tup, e_N, e_call, e_callL, e_callS, e_lenS, e_ixS, e_iList, e_iRng1, e_iRng2, e_iEnum, e_iZip, e_name, e_gNil, e_gCons, e_gTup, e_lc, e_listRg1, e_yes, e_wipe0, e_wipe1, e_getV, e_getVo, e_getVb, e_getL, e_getLo, e_getLb, e_getLw, e_ownL, e_sl, e_none, e_some, add_int, sub_int, eq_int, ne_int, eq_bool, ne_bool, ne_str, eq_str, lt_int, gt_int, le_int, ge_int, len_list, len_tuple, list_list, int_int, rev_list, ix_t0, ix_t1, ix_t2, ix_l0, ix_l1, ix_l2, List.set_cons_succ, List.set_cons_zero, List.getElem?_cons_succ, List.getElem?_cons_zero, Option.bind_some, Option.some.injEq, exists_eq_left', exists_eq_left, PyData.bool.injEq, PyData.int.injEq, PyData.list.injEq, Sl.own.injEq, List.cons.injEq, and_true, decide_eq_true_eq, Bool.false_eq_true, if_false, if_true, decide_true, decide_false, Bool.not_true, Bool.not_false]
  exact ⟨_, cp2 ha hb, _, ⟨a, b, ha, hb, rfl, rfl⟩, rfl⟩
theorem max_int (i j : Int) : oMax2 [.int i, .int j] = some (.int (if i < j then j else i)) := rfl
theorem min_int (i j : Int) : oMin2 [.int i, .int j] = some (.int (if j < i then j else i)) := rfl
def S_ties : VL.Spec := fun ds d => ∃ a b : Pt, OkP a ∧ OkP b ∧ ds = [tD a, tD b] ∧ d = tD (tieL a b)
theorem lss_sm {a b : Pt} (h : OkP a) (h2 : OkP b) : 0 ≤ lss a b ∧ lss a b ≤ far a b := by
  have x := ab_nn (dx a b)
  have y := ab_nn (dy a b)
  unfold lss far; split <;> split <;> omega
theorem keeps_ties : Keeps (q_ties S_check_points) N_ties 2 S_ties := by
  rintro ds d ⟨a, b, ha, hb, rfl, rfl⟩
  refine ⟨rfl, ?_⟩
  have bg := big
  obtain ⟨x1, y1, f1⟩ := okp_d ha hb
  obtain ⟨l0, l1⟩ := lss_sm ha hb
  have f0 := far_nn a b
  unfold q_ties
  change (qSeq _ _) _ [.val (tD a), .val (tD b), .no, .no, .no, .no, .no]
  have ex : b.1 - a.1 = dx a b := rfl
  have ey : b.2 - a.2 = dy a b := rfl
  have ef : (if ab (dx a b) < ab (dy a b) then ab (dy a b) else ab (dx a b)) = far a b := rfl
  have el : (if ab (dy a b) < ab (dx a b) then ab (dy a b) else ab (dx a b)) = lss a b := rfl
  simp only [e_seq, e_next, e_break, e_cont, e_drop, e_set, e_setO, e_asg, e_par, e_ifS, e_ret, e_retN, e_retV, e_for, e_setIx, e_meth, e_lend, e_frz, e_var, e_varL, e_c, e_2, e_1, e_tst, e_chain, e_and, e_or, e_not, e_andV, e_orV, e_notV, e_if, e_nil, e_cons, e_lst, e_tup, e_N, e_call, e_callL, e_callS, e_lenS, e_ixS, e_iList, e_iRng1, e_iRng2, e_iEnum, e_iZip, e_name, e_gNil, e_gCons, e_gTup, e_lc, e_listRg1, e_yes, e_wipe0, e_wipe1, e_getV, e_getVo, e_getVb, e_getL, e_getLo, e_getLb, e_getLw, e_ownL, e_sl, e_none, e_some, add_int, sub_int, eq_int, ne_int, eq_bool, ne_bool, ne_str, eq_str, lt_int, gt_int, le_int, ge_int, len_list, len_tuple, list_list, int_int, rev_list, ix_t0, ix_t1, ix_t2, ix_l0, ix_l1, ix_l2, List.set_cons_succ, List.set_cons_zero, List.getElem?_cons_succ, List.getElem?_cons_zero, Option.bind_some, Option.some.injEq, exists_eq_left', exists_eq_left, PyData.bool.injEq, PyData.int.injEq, PyData.list.injEq, Sl.own.injEq, List.cons.injEq, and_true, decide_eq_true_eq, Bool.false_eq_true, if_false, if_true, decide_true, decide_false, Bool.not_true, Bool.not_false, tD_pt]
  refine ⟨_, cp2 ha hb, ?_⟩
  simp only [e_seq, e_next, e_break, e_cont, e_drop, e_set, e_setO, e_asg, e_par, e_ifS, e_ret, e_retN, e_retV, e_for, e_setIx, e_meth, e_lend, e_frz, e_var, e_varL, e_c, e_2, e_1, e_tst, e_chain, e_and, e_or, e_not, e_andV, e_orV, e_notV, e_if, e_nil, e_cons, e_lst, e_tup, e_N, e_call, e_callL, e_callS, e_lenS, e_ixS, e_iList, e_iRng1, e_iRng2, e_iEnum, e_iZip, e_name, e_gNil, e_gCons, e_gTup, e_lc, e_listRg1, e_yes, e_wipe0, e_wipe1, e_getV, e_getVo, e_getVb, e_getL, e_getLo, e_getLb, e_getLw, e_ownL, e_sl, e_none, e_some, add_int, sub_int, eq_int, ne_int, eq_bool, ne_bool, ne_str, eq_str, lt_int, gt_int, le_int, ge_int, len_list, len_tuple, list_list, int_int, rev_list, ix_t0, ix_t1, ix_t2, ix_l0, ix_l1, ix_l2, List.set_cons_succ, List.set_cons_zero, List.getElem?_cons_succ, List.getElem?_cons_zero, Option.bind_some, Option.some.injEq, exists_eq_left', exists_eq_left, PyData.bool.injEq, PyData.int.injEq, PyData.list.injEq, Sl.own.injEq, List.cons.injEq, and_true, decide_eq_true_eq, Bool.false_eq_true, if_false, if_true, decide_true, decide_false, Bool.not_true, Bool.not_false, tD_pt, ex, ey, abs_int, max_int, min_int, ef, el, List.length_cons, List.length_nil, true_and]
  have en : (far a b + 1).toNat = farN a b + 1 := by unfold farN; omega
  refine ⟨⟨by omega, by omega⟩, by rw [en]; simp [rangeD]; unfold farN; omega, ?_⟩
  rw [en, rangeD0]
  refine lcRun_filter (fun t : Nat => tD t) (fun t => decide (0 < far a b) && decide ((2 * (t : Int) * lss a b) % (2 * far a b) = far a b)) _ (fun t ht P hP => ?_) ?_
  · have e1 : oMul (.int 2) (.int (t : Int)) = some (.int (2 * (t : Int))) := mul_sm (.inl (by unfold small; omega))
    have e2 : oMul (.int (2 * (t : Int))) (.int (lss a b)) = some (.int (2 * (t : Int) * lss a b)) := mul_sm (.inr (by unfold small; omega))
    have e3 : oMul (.int 2) (.int (far a b)) = some (.int (2 * far a b)) := mul_sm (.inl (by unfold small; omega))
    by_cases z : 0 < far a b
    · have e4 := mod_int (i := 2 * (t : Int) * lss a b) (j := 2 * far a b) (by omega)
      simp only [e_seq, e_next, e_break, e_cont, e_drop, e_set, e_setO, e_asg, e_par, e_ifS, e_ret, e_retN, e_retV, e_for, e_setIx, e_meth, e_lend, e_frz, e_var, e_varL, e_c, e_2, e_1, e_tst, e_chain, e_and, e_or, e_not, e_andV, e_orV, e_notV, e_if, e_nil, e_cons, e_lst, e_tup, e_N, e_call, e_callL, e_callS, e_lenS, e_ixS, e_iList, e_iRng1, e_iRng2, e_iEnum, e_iZip, e_name, e_gNil, e_gCons, e_gTup, e_lc, e_listRg1, e_yes, e_wipe0, e_wipe1, e_getV, e_getVo, e_getVb, e_getL, e_getLo, e_getLb, e_getLw, e_ownL, e_sl, e_none, e_some, add_int, sub_int, eq_int, ne_int, eq_bool, ne_bool, ne_str, eq_str, lt_int, gt_int, le_int, ge_int, len_list, len_tuple, list_list, int_int, rev_list, ix_t0, ix_t1, ix_t2, ix_l0, ix_l1, ix_l2, List.set_cons_succ, List.set_cons_zero, List.getElem?_cons_succ, List.getElem?_cons_zero, Option.bind_some, Option.some.injEq, exists_eq_left', exists_eq_left, PyData.bool.injEq, PyData.int.injEq, PyData.list.injEq, Sl.own.injEq, List.cons.injEq, and_true, decide_eq_true_eq, Bool.false_eq_true, if_false, if_true, decide_true, decide_false, Bool.not_true, Bool.not_false, e1, e2, e3, e4, z]
      by_cases w : (2 * (t : Int) * lss a b) % (2 * far a b) = far a b
      · simp only [e_seq, e_next, e_break, e_cont, e_drop, e_set, e_setO, e_asg, e_par, e_ifS, e_ret, e_retN, e_retV, e_for, e_setIx, e_meth, e_lend, e_frz, e_var, e_varL, e_c, e_2, e_1, e_tst, e_chain, e_and, e_or, e_not, e_andV, e_orV, e_notV, e_if, e_nil, e_cons, e_lst, e_tup, e_N, e_call, e_callL, e_callS, e_lenS, e_ixS, e_iList, e_iRng1, e_iRng2, e_iEnum, e_iZip, e_name, e_gNil, e_gCons, e_gTup, e_lc, e_listRg1, e_yes, e_wipe0, e_wipe1, e_getV, e_getVo, e_getVb, e_getL, e_getLo, e_getLb, e_getLw, e_ownL, e_sl, e_none, e_some, add_int, sub_int, eq_int, ne_int, eq_bool, ne_bool, ne_str, eq_str, lt_int, gt_int, le_int, ge_int, len_list, len_tuple, list_list, int_int, rev_list, ix_t0, ix_t1, ix_t2, ix_l0, ix_l1, ix_l2, List.set_cons_succ, List.set_cons_zero, List.getElem?_cons_succ, List.getElem?_cons_zero, Option.bind_some, Option.some.injEq, exists_eq_left', exists_eq_left, PyData.bool.injEq, PyData.int.injEq, PyData.list.injEq, Sl.own.injEq, List.cons.injEq, and_true, decide_eq_true_eq, Bool.false_eq_true, if_false, if_true, decide_true, decide_false, Bool.not_true, Bool.not_false, z, w, Bool.and_self] at hP ⊢; exact hP
      · simp only [e_seq, e_next, e_break, e_cont, e_drop, e_set, e_setO, e_asg, e_par, e_ifS, e_ret, e_retN, e_retV, e_for, e_setIx, e_meth, e_lend, e_frz, e_var, e_varL, e_c, e_2, e_1, e_tst, e_chain, e_and, e_or, e_not, e_andV, e_orV, e_notV, e_if, e_nil, e_cons, e_lst, e_tup, e_N, e_call, e_callL, e_callS, e_lenS, e_ixS, e_iList, e_iRng1, e_iRng2, e_iEnum, e_iZip, e_name, e_gNil, e_gCons, e_gTup, e_lc, e_listRg1, e_yes, e_wipe0, e_wipe1, e_getV, e_getVo, e_getVb, e_getL, e_getLo, e_getLb, e_getLw, e_ownL, e_sl, e_none, e_some, add_int, sub_int, eq_int, ne_int, eq_bool, ne_bool, ne_str, eq_str, lt_int, gt_int, le_int, ge_int, len_list, len_tuple, list_list, int_int, rev_list, ix_t0, ix_t1, ix_t2, ix_l0, ix_l1, ix_l2, List.set_cons_succ, List.set_cons_zero, List.getElem?_cons_succ, List.getElem?_cons_zero, Option.bind_some, Option.some.injEq, exists_eq_left', exists_eq_left, PyData.bool.injEq, PyData.int.injEq, PyData.list.injEq, Sl.own.injEq, List.cons.injEq, and_true, decide_eq_true_eq, Bool.false_eq_true, if_false, if_true, decide_true, decide_false, Bool.not_true, Bool.not_false, z, w, Bool.true_and] at hP ⊢; exact hP
    · simp only [e_seq, e_next, e_break, e_cont, e_drop, e_set, e_setO, e_asg, e_par, e_ifS, e_ret, e_retN, e_retV, e_for, e_setIx, e_meth, e_lend, e_frz, e_var, e_varL, e_c, e_2, e_1, e_tst, e_chain, e_and, e_or, e_not, e_andV, e_orV, e_notV, e_if, e_nil, e_cons, e_lst, e_tup, e_N, e_call, e_callL, e_callS, e_lenS, e_ixS, e_iList, e_iRng1, e_iRng2, e_iEnum, e_iZip, e_name, e_gNil, e_gCons, e_gTup, e_lc, e_listRg1, e_yes, e_wipe0, e_wipe1, e_getV, e_getVo, e_getVb, e_getL, e_getLo, e_getLb, e_getLw, e_ownL, e_sl, e_none, e_some, add_int, sub_int, eq_int, ne_int, eq_bool, ne_bool, ne_str, eq_str, lt_int, gt_int, le_int, ge_int, len_list, len_tuple, list_list, int_int, rev_list, ix_t0, ix_t1, ix_t2, ix_l0, ix_l1, ix_l2, List.set_cons_succ, List.set_cons_zero, List.getElem?_cons_succ, List.getElem?_cons_zero, Option.bind_some, Option.some.injEq, exists_eq_left', exists_eq_left, PyData.bool.injEq, PyData.int.injEq, PyData.list.injEq, Sl.own.injEq, List.cons.injEq, and_true, decide_eq_true_eq, Bool.false_eq_true, if_false, if_true, decide_true, decide_false, Bool.not_true, Bool.not_false, z, Bool.false_and] at hP ⊢; exact hP
  · rfl
def OkH (hs : List Int) : Prop := (1 ≤ hs.length ∧ hs.length ≤ 40) ∧ ∀ h ∈ hs, -1000 ≤ h ∧ h ≤ 1000
def S_check_heights : VL.Spec := fun ds d => ∃ hs : List Int, OkH hs ∧ ds = [tD hs] ∧ d = .none
theorem keeps_check_heights : Keeps q_check_heights N_check_heights 1 S_check_heights := by
  rintro ds d ⟨hs, ⟨⟨h1, h2⟩, h3⟩, rfl, rfl⟩
  refine ⟨rfl, ?_⟩
  unfold q_check_heights
  change (qSeq _ _) _ [.val (tD hs), .no]
  have e1 : (1 : Int) ≤ hs.length := by omega
  have e2 : (hs.length : Int) ≤ 40 := by omega
  simp only [e_seq, e_next, e_break, e_cont, e_drop, e_set, e_setO, e_asg, e_par, e_ifS, e_ret, e_retN, e_retV, e_for, e_setIx, e_meth, e_lend, e_frz, e_var, e_varL, e_c, e_2, e_1, e_tst, e_chain, e_and, e_or, e_not, e_andV, e_orV, e_notV, e_if, e_nil, e_cons, e_lst, e_tup, e_N, e_call, e_callL, e_callS, e_lenS, e_ixS, e_iList, e_iRng1, e_iRng2, e_iEnum, e_iZip, e_name, e_gNil, e_gCons, e_gTup, e_lc, e_listRg1, e_yes, e_wipe0, e_wipe1, e_getV, e_getVo, e_getVb, e_getL, e_getLo, e_getLb, e_getLw, e_ownL, e_sl, e_none, e_some, add_int, sub_int, eq_int, ne_int, eq_bool, ne_bool, ne_str, eq_str, lt_int, gt_int, le_int, ge_int, len_list, len_tuple, list_list, int_int, rev_list, ix_t0, ix_t1, ix_t2, ix_l0, ix_l1, ix_l2, List.set_cons_succ, List.set_cons_zero, List.getElem?_cons_succ, List.getElem?_cons_zero, Option.bind_some, Option.some.injEq, exists_eq_left', exists_eq_left, PyData.bool.injEq, PyData.int.injEq, PyData.list.injEq, Sl.own.injEq, List.cons.injEq, and_true, decide_eq_true_eq, Bool.false_eq_true, if_false, if_true, decide_true, decide_false, Bool.not_true, Bool.not_false, tD_list, List.length_map, e1, e2]
  refine forRun_inv (fun _ ρ => ∃ a, ρ = [.val (tD hs), a]) _ ⟨_, rfl⟩ ?_ (by intros; trivial)
  rintro i x ρ hx ⟨a, rfl⟩ K hK
  obtain ⟨a1, a2⟩ := h3 x (List.mem_of_getElem? hx)
  simp only [e_seq, e_next, e_break, e_cont, e_drop, e_set, e_setO, e_asg, e_par, e_ifS, e_ret, e_retN, e_retV, e_for, e_setIx, e_meth, e_lend, e_frz, e_var, e_varL, e_c, e_2, e_1, e_tst, e_chain, e_and, e_or, e_not, e_andV, e_orV, e_notV, e_if, e_nil, e_cons, e_lst, e_tup, e_N, e_call, e_callL, e_callS, e_lenS, e_ixS, e_iList, e_iRng1, e_iRng2, e_iEnum, e_iZip, e_name, e_gNil, e_gCons, e_gTup, e_lc, e_listRg1, e_yes, e_wipe0, e_wipe1, e_getV, e_getVo, e_getVb, e_getL, e_getLo, e_getLb, e_getLw, e_ownL, e_sl, e_none, e_some, add_int, sub_int, eq_int, ne_int, eq_bool, ne_bool, ne_str, eq_str, lt_int, gt_int, le_int, ge_int, len_list, len_tuple, list_list, int_int, rev_list, ix_t0, ix_t1, ix_t2, ix_l0, ix_l1, ix_l2, List.set_cons_succ, List.set_cons_zero, List.getElem?_cons_succ, List.getElem?_cons_zero, Option.bind_some, Option.some.injEq, exists_eq_left', exists_eq_left, PyData.bool.injEq, PyData.int.injEq, PyData.list.injEq, Sl.own.injEq, List.cons.injEq, and_true, decide_eq_true_eq, Bool.false_eq_true, if_false, if_true, decide_true, decide_false, Bool.not_true, Bool.not_false, neg_int, tD_int, a1, a2]
  exact hK _ ⟨_, rfl⟩
theorem ix_hs {hs : List Int} {i : Nat} (h : i < hs.length) : oIx (tD hs) (.int (i : Int)) = some (.int (hv hs i)) := by
  have : hs[i]? = some (hv hs i) := by unfold hv; rw [List.getElem?_eq_getElem h]; rfl
  exact ix_map this
def S_asked : VL.Spec := fun ds d => ∃ (hs : List Int) (p : Pr), OkH hs ∧ p ∈ prs hs.length ∧ ds = [tD hs, tD p.1, tD p.2] ∧ d = tD (ask hs p)
def S_let : VL.Spec := fun ds d => ∃ (hs : List Int) (p : Pr), OkH hs ∧ p ∈ prs hs.length ∧ ds = [tD hs, tD p.1, tD p.2] ∧ d = tD (lett hs p)
theorem ln_sm {hs : List Int} {p : Pr} (h : OkH hs) (hp : p ∈ prs hs.length) : 0 < ln p ∧ ln p < 1000 := by
  have a := mem_prs.mp hp
  have := h.1.2
  unfold ln; omega
theorem keeps_asked : Keeps (q_asked S_fraction) N_asked 3 S_asked := by
  rintro ds d ⟨hs, p, h, hp, rfl, rfl⟩
  refine ⟨rfl, ?_⟩
  have a := mem_prs.mp hp
  unfold q_asked
  change (qRet _) _ [.val (tD hs), .val (.int (p.1 : Int)), .val (.int (p.2 : Int))]
  simp only [e_seq, e_next, e_break, e_cont, e_drop, e_set, e_setO, e_asg, e_par, e_ifS, e_ret, e_retN, e_retV, e_for, e_setIx, e_meth, e_lend, e_frz, e_var, e_varL, e_c, e_2, e_1, e_tst, e_chain, e_and, e_or, e_not, e_andV, e_orV, e_notV, e_if, e_nil, e_cons, e_lst, e_tup, e_N, e_call, e_callL, e_callS, e_lenS, e_ixS, e_iList, e_iRng1, e_iRng2, e_iEnum, e_iZip, e_name, e_gNil, e_gCons, e_gTup, e_lc, e_listRg1, e_yes, e_wipe0, e_wipe1, e_getV, e_getVo, e_getVb, e_getL, e_getLo, e_getLb, e_getLw, e_ownL, e_sl, e_none, e_some, add_int, sub_int, eq_int, ne_int, eq_bool, ne_bool, ne_str, eq_str, lt_int, gt_int, le_int, ge_int, len_list, len_tuple, list_list, int_int, rev_list, ix_t0, ix_t1, ix_t2, ix_l0, ix_l1, ix_l2, List.set_cons_succ, List.set_cons_zero, List.getElem?_cons_succ, List.getElem?_cons_zero, Option.bind_some, Option.some.injEq, exists_eq_left', exists_eq_left, PyData.bool.injEq, PyData.int.injEq, PyData.list.injEq, Sl.own.injEq, List.cons.injEq, and_true, decide_eq_true_eq, Bool.false_eq_true, if_false, if_true, decide_true, decide_false, Bool.not_true, Bool.not_false, ix_hs a.2, ix_hs (show p.1 < hs.length by omega)]
  exact ⟨_, ⟨_, _, ln_sm h hp, rfl, rfl⟩, rfl⟩
theorem keeps_let : Keeps (q_let S_fraction) N_let 3 S_let := by
  rintro ds d ⟨hs, p, h, hp, rfl, rfl⟩
  refine ⟨rfl, ?_⟩
  have a := mem_prs.mp hp
  unfold q_let
  change (qRet _) _ [.val (tD hs), .val (.int (p.1 : Int)), .val (.int (p.2 : Int))]
  simp only [e_seq, e_next, e_break, e_cont, e_drop, e_set, e_setO, e_asg, e_par, e_ifS, e_ret, e_retN, e_retV, e_for, e_setIx, e_meth, e_lend, e_frz, e_var, e_varL, e_c, e_2, e_1, e_tst, e_chain, e_and, e_or, e_not, e_andV, e_orV, e_notV, e_if, e_nil, e_cons, e_lst, e_tup, e_N, e_call, e_callL, e_callS, e_lenS, e_ixS, e_iList, e_iRng1, e_iRng2, e_iEnum, e_iZip, e_name, e_gNil, e_gCons, e_gTup, e_lc, e_listRg1, e_yes, e_wipe0, e_wipe1, e_getV, e_getVo, e_getVb, e_getL, e_getLo, e_getLb, e_getLw, e_ownL, e_sl, e_none, e_some, add_int, sub_int, eq_int, ne_int, eq_bool, ne_bool, ne_str, eq_str, lt_int, gt_int, le_int, ge_int, len_list, len_tuple, list_list, int_int, rev_list, ix_t0, ix_t1, ix_t2, ix_l0, ix_l1, ix_l2, List.set_cons_succ, List.set_cons_zero, List.getElem?_cons_succ, List.getElem?_cons_zero, Option.bind_some, Option.some.injEq, exists_eq_left', exists_eq_left, PyData.bool.injEq, PyData.int.injEq, PyData.list.injEq, Sl.own.injEq, List.cons.injEq, and_true, decide_eq_true_eq, Bool.false_eq_true, if_false, if_true, decide_true, decide_false, Bool.not_true, Bool.not_false, ix_hs a.2, ix_hs (show p.1 < hs.length by omega)]
  exact ⟨_, ⟨_, _, ln_sm h hp, rfl, rfl⟩, rfl⟩
theorem lcIn_map {α : Type} {st : D → (Option D → Prop) → Prop} {e : α → D} (g : α → D) : ∀ (xs : List α) {acc : List D} {P : List D → Prop}, acc.length + xs.length ≤ 16777216 → (∀ x ∈ xs, ∀ k : Option D → Prop, k (some (g x)) → st (e x) k) → P (acc ++ xs.map g) → lcIn st (xs.map e) acc P
  | [], acc, P, _, _, h => by simpa [lcIn] using h
  | x :: xs, acc, P, hl, hs, h => by
    have bg := big
    show st (e x) fun o => (o = none ∨ acc.length < sizeLine) ∧ lcIn st (xs.map e) (acc ++ o.toList) P
    rw [List.length_cons] at hl
    refine hs x List.mem_cons_self _ ⟨.inr (by omega), ?_⟩
    refine lcIn_map g xs ?_ (fun y hy => hs y (List.mem_cons_of_mem _ hy)) (by simpa using h)
    simp; omega
theorem lcOut_flat {α β : Type} {st : D → List D → (List D → Prop) → Prop} {e : α → D} (g : α → List β) (f : β → D) (B : Nat) : ∀ (xs : List α) {acc : List D} {P : List D → Prop}, acc.length + xs.length * B ≤ 16777216 → (∀ x ∈ xs, (g x).length ≤ B) →
    (∀ x ∈ xs, ∀ (acc : List D) (k : List D → Prop), acc.length + B ≤ 16777216 → k (acc ++ (g x).map f) → st (e x) acc k) → P (acc ++ (xs.flatMap g).map f) → lcOut st (xs.map e) acc P
  | [], acc, P, _, _, _, h => by simpa [lcOut] using h
  | x :: xs, acc, P, hl, hb, hs, h => by
    show st (e x) acc fun acc' => lcOut st (xs.map e) acc' P
    rw [List.length_cons, Nat.add_mul] at hl
    refine hs x List.mem_cons_self acc _ (by omega) ?_
    refine lcOut_flat g f B xs ?_ (fun y hy => hb y (List.mem_cons_of_mem _ hy)) (fun y hy => hs y (List.mem_cons_of_mem _ hy)) (by simpa using h)
    have := hb x List.mem_cons_self
    simp; omega
theorem rangeD_at (a n : Nat) : rangeD (a : Int) n = (List.range n).map fun i : Nat => (.int ((a + i : Nat) : Int) : D) := by unfold rangeD; congr 1
def S_pairs_of : VL.Spec := fun ds d => ∃ hs : List Int, OkH hs ∧ ds = [tD hs] ∧ d = tD (prs hs.length)
theorem keeps_pairs_of : Keeps q_pairs_of N_pairs_of 1 S_pairs_of := by
  rintro ds d ⟨hs, ⟨⟨h1, h2⟩, h3⟩, rfl, rfl⟩
  refine ⟨rfl, ?_⟩
  have lh : oLen [tD hs] = some (.int (hs.length : Int)) := by rw [tD_list, len_list, List.length_map]
  unfold q_pairs_of
  change (qRet _) _ [.val (tD hs), .no, .no]
  simp only [e_seq, e_next, e_break, e_cont, e_drop, e_set, e_setO, e_asg, e_par, e_ifS, e_ret, e_retN, e_retV, e_for, e_setIx, e_meth, e_lend, e_frz, e_var, e_varL, e_c, e_2, e_1, e_tst, e_chain, e_and, e_or, e_not, e_andV, e_orV, e_notV, e_if, e_nil, e_cons, e_lst, e_tup, e_N, e_call, e_callL, e_callS, e_lenS, e_ixS, e_iList, e_iRng1, e_iRng2, e_iEnum, e_iZip, e_name, e_gNil, e_gCons, e_gTup, e_lc, e_listRg1, e_yes, e_wipe0, e_wipe1, e_getV, e_getVo, e_getVb, e_getL, e_getLo, e_getLb, e_getLw, e_ownL, e_sl, e_none, e_some, add_int, sub_int, eq_int, ne_int, eq_bool, ne_bool, ne_str, eq_str, lt_int, gt_int, le_int, ge_int, len_list, len_tuple, list_list, int_int, rev_list, ix_t0, ix_t1, ix_t2, ix_l0, ix_l1, ix_l2, List.set_cons_succ, List.set_cons_zero, List.getElem?_cons_succ, List.getElem?_cons_zero, Option.bind_some, Option.some.injEq, exists_eq_left', exists_eq_left, PyData.bool.injEq, PyData.int.injEq, PyData.list.injEq, Sl.own.injEq, List.cons.injEq, and_true, decide_eq_true_eq, Bool.false_eq_true, if_false, if_true, decide_true, decide_false, Bool.not_true, Bool.not_false, e_lc2, lh, Int.toNat_natCast]
  refine ⟨⟨by omega, by omega⟩, ?_⟩
  rw [rangeD0]
  refine lcOut_flat (fun i => (List.range (hs.length - (i + 1))).map fun k => (i, i + 1 + k)) (fun p : Pr => tD p) 40 _ (by simp; omega) (fun i hi => by simp; omega) (fun i hi acc k hl hk => ?_) ?_
  · show qName 1 _ _ _
    have hz : List.all [Sl.val (tD hs), Sl.val (.int (i : Int)), Sl.no] qz = true := rfl
    simp only [e_seq, e_next, e_break, e_cont, e_drop, e_set, e_setO, e_asg, e_par, e_ifS, e_ret, e_retN, e_retV, e_for, e_setIx, e_meth, e_lend, e_frz, e_var, e_varL, e_c, e_2, e_1, e_tst, e_chain, e_and, e_or, e_not, e_andV, e_orV, e_notV, e_if, e_nil, e_cons, e_lst, e_tup, e_N, e_call, e_callL, e_callS, e_lenS, e_ixS, e_iList, e_iRng1, e_iRng2, e_iEnum, e_iZip, e_name, e_gNil, e_gCons, e_gTup, e_lc, e_listRg1, e_yes, e_wipe0, e_wipe1, e_getV, e_getVo, e_getVb, e_getL, e_getLo, e_getLb, e_getLw, e_ownL, e_sl, e_none, e_some, add_int, sub_int, eq_int, ne_int, eq_bool, ne_bool, ne_str, eq_str, lt_int, gt_int, le_int, ge_int, len_list, len_tuple, list_list, int_int, rev_list, ix_t0, ix_t1, ix_t2, ix_l0, ix_l1, ix_l2, List.set_cons_succ, List.set_cons_zero, List.getElem?_cons_succ, List.getElem?_cons_zero, Option.bind_some, Option.some.injEq, exists_eq_left', exists_eq_left, PyData.bool.injEq, PyData.int.injEq, PyData.list.injEq, Sl.own.injEq, List.cons.injEq, and_true, decide_eq_true_eq, Bool.false_eq_true, if_false, if_true, decide_true, decide_false, Bool.not_true, Bool.not_false, hz, true_and, lh]
    have il := List.mem_range.mp hi
    have e : ((hs.length : Int) - ((i : Int) + 1)).toNat = hs.length - (i + 1) := by omega
    refine ⟨⟨by omega, by omega, by omega, by omega⟩, ?_⟩
    have er := rangeD_at (i + 1) (hs.length - (i + 1))
    rw [e, show ((i : Int) + 1) = ((i + 1 : Nat) : Int) by omega, er]
    refine lcIn_map (fun m : Nat => tD ((i, i + 1 + m) : Pr)) _ (by simp; omega) (fun m hm P hP => ?_) (by rw [List.map_map] at hk; exact hk)
    simp only [st1, e_seq, e_next, e_break, e_cont, e_drop, e_set, e_setO, e_asg, e_par, e_ifS, e_ret, e_retN, e_retV, e_for, e_setIx, e_meth, e_lend, e_frz, e_var, e_varL, e_c, e_2, e_1, e_tst, e_chain, e_and, e_or, e_not, e_andV, e_orV, e_notV, e_if, e_nil, e_cons, e_lst, e_tup, e_N, e_call, e_callL, e_callS, e_lenS, e_ixS, e_iList, e_iRng1, e_iRng2, e_iEnum, e_iZip, e_name, e_gNil, e_gCons, e_gTup, e_lc, e_listRg1, e_yes, e_wipe0, e_wipe1, e_getV, e_getVo, e_getVb, e_getL, e_getLo, e_getLb, e_getLw, e_ownL, e_sl, e_none, e_some, add_int, sub_int, eq_int, ne_int, eq_bool, ne_bool, ne_str, eq_str, lt_int, gt_int, le_int, ge_int, len_list, len_tuple, list_list, int_int, rev_list, ix_t0, ix_t1, ix_t2, ix_l0, ix_l1, ix_l2, List.set_cons_succ, List.set_cons_zero, List.getElem?_cons_succ, List.getElem?_cons_zero, Option.bind_some, Option.some.injEq, exists_eq_left', exists_eq_left, PyData.bool.injEq, PyData.int.injEq, PyData.list.injEq, Sl.own.injEq, List.cons.injEq, and_true, decide_eq_true_eq, Bool.false_eq_true, if_false, if_true, decide_true, decide_false, Bool.not_true, Bool.not_false]
    exact hP
  · rfl
end P49
namespace P49
open PySem VL L2
open PySem.W (Datum DatumOrd)
def S_sharpest : VL.Spec := fun ds d => ∃ hs : List Int, OkH hs ∧ 1 < hs.length ∧ ds = [tD hs] ∧ d = tD (shp hs)
theorem fr_small {n m : Int} (h : 0 < m ∧ m < 1000) : small (fr n m).2 := by
  obtain ⟨a, b, c⟩ := fr_spec (n := n) h.1
  have g := gc_pos (n := n) h.1
  have := Int.mul_le_mul_of_nonneg_left (show 1 ≤ gc n m by omega) (Int.le_of_lt a)
  unfold small; omega
theorem ask_small {hs : List Int} {p : Pr} (h : OkH hs) (hp : p ∈ prs hs.length) : small (ask hs p).2 := fr_small (ln_sm h hp)
theorem let_small {hs : List Int} {p : Pr} (h : OkH hs) (hp : p ∈ prs hs.length) : small (lett hs p).2 := fr_small (ln_sm h hp)
theorem mem_fold {hs : List Int} {i : Nat} (h : 1 < hs.length) : ((prs hs.length).take i |>.foldl (stp hs) ((0, 1), (0, 1))).1 ∈ prs hs.length ∧ ((prs hs.length).take i |>.foldl (stp hs) ((0, 1), (0, 1))).2 ∈ prs hs.length := by
  obtain ⟨r, e⟩ := prs_head h
  have h0 : ((0, 1) : Pr) ∈ prs hs.length := by rw [e]; exact List.mem_cons_self
  obtain ⟨a, b, _, _⟩ := fold_ok hs ((prs hs.length).take i) ((0, 1), (0, 1)) (fun p hp => (mem_prs.mp (List.mem_of_mem_take hp)).1) (show (0 : Nat) < 1 by decide) (show (0 : Nat) < 1 by decide)
  constructor
  · rcases a with q | q
    · rw [q]; exact h0
    · exact List.mem_of_mem_take q
  · rcases b with q | q
    · rw [q]; exact h0
    · exact List.mem_of_mem_take q
theorem fold_snoc {hs : List Int} {ps : List Pr} {i : Nat} {x : Pr} {s : Pr × Pr} (h : ps[i]? = some x) : (ps.take (i + 1)).foldl (stp hs) s = stp hs ((ps.take i).foldl (stp hs) s) x := by
  obtain ⟨h1, h2⟩ := List.getElem?_eq_some_iff.mp h
  rw [List.take_succ_eq_append_getElem h1, List.foldl_append, h2]; rfl
theorem keeps_sharpest : Keeps (q_sharpest S_pairs_of S_is_less S_asked S_let) N_sharpest 1 S_sharpest := by
  rintro ds d ⟨hs, h, hl, rfl, rfl⟩
  refine ⟨rfl, ?_⟩
  obtain ⟨r, e⟩ := prs_head hl
  unfold q_sharpest
  change (qSeq _ _) _ [.val (tD hs), .no, .no, .no, .no, .no]
  have ep : oIx (tD (prs hs.length)) (.int 0) = some (tD ((0, 1) : Pr)) := by rw [e]; exact ix_nat (i := 0) rfl
  simp only [e_seq, e_next, e_break, e_cont, e_drop, e_set, e_setO, e_asg, e_par, e_ifS, e_ret, e_retN, e_retV, e_for, e_setIx, e_meth, e_lend, e_frz, e_var, e_varL, e_c, e_2, e_1, e_tst, e_chain, e_and, e_or, e_not, e_andV, e_orV, e_notV, e_if, e_nil, e_cons, e_lst, e_tup, e_N, e_call, e_callL, e_callS, e_lenS, e_ixS, e_iList, e_iRng1, e_iRng2, e_iEnum, e_iZip, e_name, e_gNil, e_gCons, e_gTup, e_lc, e_listRg1, e_yes, e_wipe0, e_wipe1, e_getV, e_getVo, e_getVb, e_getL, e_getLo, e_getLb, e_getLw, e_ownL, e_sl, e_none, e_some, add_int, sub_int, eq_int, ne_int, eq_bool, ne_bool, ne_str, eq_str, lt_int, gt_int, le_int, ge_int, len_list, len_tuple, list_list, int_int, rev_list, ix_t0, ix_t1, ix_t2, ix_l0, ix_l1, ix_l2, List.set_cons_succ, List.set_cons_zero, List.getElem?_cons_succ, List.getElem?_cons_zero, Option.bind_some, Option.some.injEq, exists_eq_left', exists_eq_left, PyData.bool.injEq, PyData.int.injEq, PyData.list.injEq, Sl.own.injEq, List.cons.injEq, and_true, decide_eq_true_eq, Bool.false_eq_true, if_false, if_true, decide_true, decide_false, Bool.not_true, Bool.not_false]
  refine ⟨_, ⟨hs, h, rfl, rfl⟩, ?_⟩
  simp only [e_seq, e_next, e_break, e_cont, e_drop, e_set, e_setO, e_asg, e_par, e_ifS, e_ret, e_retN, e_retV, e_for, e_setIx, e_meth, e_lend, e_frz, e_var, e_varL, e_c, e_2, e_1, e_tst, e_chain, e_and, e_or, e_not, e_andV, e_orV, e_notV, e_if, e_nil, e_cons, e_lst, e_tup, e_N, e_call, e_callL, e_callS, e_lenS, e_ixS, e_iList, e_iRng1, e_iRng2, e_iEnum, e_iZip, e_name, e_gNil, e_gCons, e_gTup, e_lc, e_listRg1, e_yes, e_wipe0, e_wipe1, e_getV, e_getVo, e_getVb, e_getL, e_getLo, e_getLb, e_getLw, e_ownL, e_sl, e_none, e_some, add_int, sub_int, eq_int, ne_int, eq_bool, ne_bool, ne_str, eq_str, lt_int, gt_int, le_int, ge_int, len_list, len_tuple, list_list, int_int, rev_list, ix_t0, ix_t1, ix_t2, ix_l0, ix_l1, ix_l2, List.set_cons_succ, List.set_cons_zero, List.getElem?_cons_succ, List.getElem?_cons_zero, Option.bind_some, Option.some.injEq, exists_eq_left', exists_eq_left, PyData.bool.injEq, PyData.int.injEq, PyData.list.injEq, Sl.own.injEq, List.cons.injEq, and_true, decide_eq_true_eq, Bool.false_eq_true, if_false, if_true, decide_true, decide_false, Bool.not_true, Bool.not_false, ep]
  refine ⟨_, rfl, ?_⟩
  refine forRun_inv (fun i ρ => ∃ a b, ρ = [.val (tD hs), .val (tD (prs hs.length)), .val (tD ((prs hs.length).take i |>.foldl (stp hs) ((0, 1), (0, 1))).1), .val (tD ((prs hs.length).take i |>.foldl (stp hs) ((0, 1), (0, 1))).2), a, b]) _ ⟨_, _, rfl⟩ ?_ ?_
  · rintro i x ρ hx ⟨a, b, rfl⟩ K hK
    obtain ⟨m1, m2⟩ := mem_fold (i := i) hl
    have mx := List.mem_of_getElem? hx
    rw [fold_snoc hx] at hK
    generalize ((prs hs.length).take i).foldl (stp hs) ((0, 1), (0, 1)) = s at *
    have A : ∀ p, p ∈ prs hs.length → S_asked [tD hs, .int (p.1 : Int), .int (p.2 : Int)] (tD (ask hs p)) := fun p hp => ⟨hs, p, h, hp, rfl, rfl⟩
    have B : ∀ p, p ∈ prs hs.length → S_let [tD hs, .int (p.1 : Int), .int (p.2 : Int)] (tD (lett hs p)) := fun p hp => ⟨hs, p, h, hp, rfl, rfl⟩
    simp only [e_seq, e_next, e_break, e_cont, e_drop, e_set, e_setO, e_asg, e_par, e_ifS, e_ret, e_retN, e_retV, e_for, e_setIx, e_meth, e_lend, e_frz, e_var, e_varL, e_c, e_2, e_1, e_tst, e_chain, e_and, e_or, e_not, e_andV, e_orV, e_notV, e_if, e_nil, e_cons, e_lst, e_tup, e_N, e_call, e_callL, e_callS, e_lenS, e_ixS, e_iList, e_iRng1, e_iRng2, e_iEnum, e_iZip, e_name, e_gNil, e_gCons, e_gTup, e_lc, e_listRg1, e_yes, e_wipe0, e_wipe1, e_getV, e_getVo, e_getVb, e_getL, e_getLo, e_getLb, e_getLw, e_ownL, e_sl, e_none, e_some, add_int, sub_int, eq_int, ne_int, eq_bool, ne_bool, ne_str, eq_str, lt_int, gt_int, le_int, ge_int, len_list, len_tuple, list_list, int_int, rev_list, ix_t0, ix_t1, ix_t2, ix_l0, ix_l1, ix_l2, List.set_cons_succ, List.set_cons_zero, List.getElem?_cons_succ, List.getElem?_cons_zero, Option.bind_some, Option.some.injEq, exists_eq_left', exists_eq_left, PyData.bool.injEq, PyData.int.injEq, PyData.list.injEq, Sl.own.injEq, List.cons.injEq, and_true, decide_eq_true_eq, Bool.false_eq_true, if_false, if_true, decide_true, decide_false, Bool.not_true, Bool.not_false, tD_pr, List.length_cons, List.length_nil, true_and]
    refine ⟨_, A _ m1, _, A _ mx, _, ⟨_, _, ⟨ask_small h m1, ask_small h mx⟩, rfl, rfl⟩, _, rfl, ?_⟩
    have fin : ∀ s1 : Pr, s1 = (stp hs s x).1 → (∃ d, S_let [tD hs, .int (x.1 : Int), .int (x.2 : Int)] d ∧ ∃ d_1, S_let [tD hs, .int (s.2.1 : Int), .int (s.2.2 : Int)] d_1 ∧ ∃ d_2, S_is_less [d, d_1] d_2 ∧ ∃ b, d_2 = .bool b ∧
        if b = true then K [.val (tD hs), .val (tD (prs hs.length)), .val (tD s1), .val (.tuple [.int (x.1 : Int), .int (x.2 : Int)]), .val (.int (x.1 : Int)), .val (.int (x.2 : Int))]
        else K [.val (tD hs), .val (tD (prs hs.length)), .val (tD s1), .val (.tuple [.int (s.2.1 : Int), .int (s.2.2 : Int)]), .val (.int (x.1 : Int)), .val (.int (x.2 : Int))]) := by
      intro s1 es
      refine ⟨_, B _ mx, _, B _ m2, _, ⟨_, _, ⟨let_small h mx, let_small h m2⟩, rfl, rfl⟩, _, rfl, ?_⟩
      split
      · rename_i w
        refine hK _ ⟨.val (.int (x.1 : Int)), .val (.int (x.2 : Int)), ?_⟩
        have : (stp hs s x).2 = x := by unfold stp; dsimp only; rw [if_pos w]
        rw [this, es]; rfl
      · rename_i w
        refine hK _ ⟨.val (.int (x.1 : Int)), .val (.int (x.2 : Int)), ?_⟩
        have : (stp hs s x).2 = s.2 := by unfold stp; dsimp only; rw [if_neg w]
        rw [this, es]; rfl
    split
    · rename_i w
      exact fin x (by unfold stp; dsimp only; rw [if_pos w])
    · rename_i w
      exact fin s.1 (by unfold stp; dsimp only; rw [if_neg w])
  · rintro ρ ⟨a, b, rfl⟩
    rw [List.take_length]
    simp only [e_seq, e_next, e_break, e_cont, e_drop, e_set, e_setO, e_asg, e_par, e_ifS, e_ret, e_retN, e_retV, e_for, e_setIx, e_meth, e_lend, e_frz, e_var, e_varL, e_c, e_2, e_1, e_tst, e_chain, e_and, e_or, e_not, e_andV, e_orV, e_notV, e_if, e_nil, e_cons, e_lst, e_tup, e_N, e_call, e_callL, e_callS, e_lenS, e_ixS, e_iList, e_iRng1, e_iRng2, e_iEnum, e_iZip, e_name, e_gNil, e_gCons, e_gTup, e_lc, e_listRg1, e_yes, e_wipe0, e_wipe1, e_getV, e_getVo, e_getVb, e_getL, e_getLo, e_getLb, e_getLw, e_ownL, e_sl, e_none, e_some, add_int, sub_int, eq_int, ne_int, eq_bool, ne_bool, ne_str, eq_str, lt_int, gt_int, le_int, ge_int, len_list, len_tuple, list_list, int_int, rev_list, ix_t0, ix_t1, ix_t2, ix_l0, ix_l1, ix_l2, List.set_cons_succ, List.set_cons_zero, List.getElem?_cons_succ, List.getElem?_cons_zero, Option.bind_some, Option.some.injEq, exists_eq_left', exists_eq_left, PyData.bool.injEq, PyData.int.injEq, PyData.list.injEq, Sl.own.injEq, List.cons.injEq, and_true, decide_eq_true_eq, Bool.false_eq_true, if_false, if_true, decide_true, decide_false, Bool.not_true, Bool.not_false]
    rfl
abbrev Sl2 := (Int × Int) × (Int × Int)
def soD : Option Sl2 → D
  | none => .none
  | some x => tD x
def S_slopes : VL.Spec := fun ds d => ∃ hs : List Int, OkH hs ∧ ds = [tD hs] ∧ d = soD (slo hs)
theorem keeps_slopes : Keeps (q_slopes S_check_heights S_sharpest S_asked S_let S_is_less) N_slopes 1 S_slopes := by
  rintro ds d ⟨hs, h, rfl, rfl⟩
  refine ⟨rfl, ?_⟩
  have lh : oLen [tD hs] = some (.int (hs.length : Int)) := by rw [tD_list, len_list, List.length_map]
  unfold q_slopes
  change (qSeq _ _) _ [.val (tD hs), .no, .no, .no, .no]
  simp only [e_seq, e_next, e_break, e_cont, e_drop, e_set, e_setO, e_asg, e_par, e_ifS, e_ret, e_retN, e_retV, e_for, e_setIx, e_meth, e_lend, e_frz, e_var, e_varL, e_c, e_2, e_1, e_tst, e_chain, e_and, e_or, e_not, e_andV, e_orV, e_notV, e_if, e_nil, e_cons, e_lst, e_tup, e_N, e_call, e_callL, e_callS, e_lenS, e_ixS, e_iList, e_iRng1, e_iRng2, e_iEnum, e_iZip, e_name, e_gNil, e_gCons, e_gTup, e_lc, e_listRg1, e_yes, e_wipe0, e_wipe1, e_getV, e_getVo, e_getVb, e_getL, e_getLo, e_getLb, e_getLw, e_ownL, e_sl, e_none, e_some, add_int, sub_int, eq_int, ne_int, eq_bool, ne_bool, ne_str, eq_str, lt_int, gt_int, le_int, ge_int, len_list, len_tuple, list_list, int_int, rev_list, ix_t0, ix_t1, ix_t2, ix_l0, ix_l1, ix_l2, List.set_cons_succ, List.set_cons_zero, List.getElem?_cons_succ, List.getElem?_cons_zero, Option.bind_some, Option.some.injEq, exists_eq_left', exists_eq_left, PyData.bool.injEq, PyData.int.injEq, PyData.list.injEq, Sl.own.injEq, List.cons.injEq, and_true, decide_eq_true_eq, Bool.false_eq_true, if_false, if_true, decide_true, decide_false, Bool.not_true, Bool.not_false, lh]
  refine ⟨_, ⟨hs, h, rfl, rfl⟩, ?_⟩
  by_cases c : (hs.length : Int) = 1
  · have c' : hs.length = 1 := by omega
    have e : slo hs = some ((0, 1), (0, 1)) := by unfold slo; rw [if_pos c']
    rw [e]
    simp only [e_seq, e_next, e_break, e_cont, e_drop, e_set, e_setO, e_asg, e_par, e_ifS, e_ret, e_retN, e_retV, e_for, e_setIx, e_meth, e_lend, e_frz, e_var, e_varL, e_c, e_2, e_1, e_tst, e_chain, e_and, e_or, e_not, e_andV, e_orV, e_notV, e_if, e_nil, e_cons, e_lst, e_tup, e_N, e_call, e_callL, e_callS, e_lenS, e_ixS, e_iList, e_iRng1, e_iRng2, e_iEnum, e_iZip, e_name, e_gNil, e_gCons, e_gTup, e_lc, e_listRg1, e_yes, e_wipe0, e_wipe1, e_getV, e_getVo, e_getVb, e_getL, e_getLo, e_getLb, e_getLw, e_ownL, e_sl, e_none, e_some, add_int, sub_int, eq_int, ne_int, eq_bool, ne_bool, ne_str, eq_str, lt_int, gt_int, le_int, ge_int, len_list, len_tuple, list_list, int_int, rev_list, ix_t0, ix_t1, ix_t2, ix_l0, ix_l1, ix_l2, List.set_cons_succ, List.set_cons_zero, List.getElem?_cons_succ, List.getElem?_cons_zero, Option.bind_some, Option.some.injEq, exists_eq_left', exists_eq_left, PyData.bool.injEq, PyData.int.injEq, PyData.list.injEq, Sl.own.injEq, List.cons.injEq, and_true, decide_eq_true_eq, Bool.false_eq_true, if_false, if_true, decide_true, decide_false, Bool.not_true, Bool.not_false, c]
    rfl
  · have c' : ¬ hs.length = 1 := by omega
    have hl : 1 < hs.length := by have := h.1.1; omega
    simp only [e_seq, e_next, e_break, e_cont, e_drop, e_set, e_setO, e_asg, e_par, e_ifS, e_ret, e_retN, e_retV, e_for, e_setIx, e_meth, e_lend, e_frz, e_var, e_varL, e_c, e_2, e_1, e_tst, e_chain, e_and, e_or, e_not, e_andV, e_orV, e_notV, e_if, e_nil, e_cons, e_lst, e_tup, e_N, e_call, e_callL, e_callS, e_lenS, e_ixS, e_iList, e_iRng1, e_iRng2, e_iEnum, e_iZip, e_name, e_gNil, e_gCons, e_gTup, e_lc, e_listRg1, e_yes, e_wipe0, e_wipe1, e_getV, e_getVo, e_getVb, e_getL, e_getLo, e_getLb, e_getLw, e_ownL, e_sl, e_none, e_some, add_int, sub_int, eq_int, ne_int, eq_bool, ne_bool, ne_str, eq_str, lt_int, gt_int, le_int, ge_int, len_list, len_tuple, list_list, int_int, rev_list, ix_t0, ix_t1, ix_t2, ix_l0, ix_l1, ix_l2, List.set_cons_succ, List.set_cons_zero, List.getElem?_cons_succ, List.getElem?_cons_zero, Option.bind_some, Option.some.injEq, exists_eq_left', exists_eq_left, PyData.bool.injEq, PyData.int.injEq, PyData.list.injEq, Sl.own.injEq, List.cons.injEq, and_true, decide_eq_true_eq, Bool.false_eq_true, if_false, if_true, decide_true, decide_false, Bool.not_true, Bool.not_false, c]
    obtain ⟨a, b, _, _⟩ := shp_ok hl
    refine ⟨_, ⟨hs, h, hl, rfl, rfl⟩, ?_⟩
    have et : tD (shp hs) = .tuple [tD (shp hs).1, tD (shp hs).2] := rfl
    rw [et]
    simp only [e_seq, e_next, e_break, e_cont, e_drop, e_set, e_setO, e_asg, e_par, e_ifS, e_ret, e_retN, e_retV, e_for, e_setIx, e_meth, e_lend, e_frz, e_var, e_varL, e_c, e_2, e_1, e_tst, e_chain, e_and, e_or, e_not, e_andV, e_orV, e_notV, e_if, e_nil, e_cons, e_lst, e_tup, e_N, e_call, e_callL, e_callS, e_lenS, e_ixS, e_iList, e_iRng1, e_iRng2, e_iEnum, e_iZip, e_name, e_gNil, e_gCons, e_gTup, e_lc, e_listRg1, e_yes, e_wipe0, e_wipe1, e_getV, e_getVo, e_getVb, e_getL, e_getLo, e_getLb, e_getLw, e_ownL, e_sl, e_none, e_some, add_int, sub_int, eq_int, ne_int, eq_bool, ne_bool, ne_str, eq_str, lt_int, gt_int, le_int, ge_int, len_list, len_tuple, list_list, int_int, rev_list, ix_t0, ix_t1, ix_t2, ix_l0, ix_l1, ix_l2, List.set_cons_succ, List.set_cons_zero, List.getElem?_cons_succ, List.getElem?_cons_zero, Option.bind_some, Option.some.injEq, exists_eq_left', exists_eq_left, PyData.bool.injEq, PyData.int.injEq, PyData.list.injEq, Sl.own.injEq, List.cons.injEq, and_true, decide_eq_true_eq, Bool.false_eq_true, if_false, if_true, decide_true, decide_false, Bool.not_true, Bool.not_false, List.length_cons, List.length_nil, true_and, tD_pr]
    refine ⟨_, ⟨hs, (shp hs).1, h, a, rfl, rfl⟩, _, ⟨hs, (shp hs).2, h, b, rfl, rfl⟩, _, ⟨_, _, ⟨let_small h b, ask_small h a⟩, rfl, rfl⟩, _, rfl, ?_⟩
    have es : slo hs = if bad hs = true then none else some (ask hs (shp hs).1, lett hs (shp hs).2) := by unfold slo; rw [if_neg c']
    rw [es]
    show if bad hs = true then _ else _
    split
    · rfl
    · rfl
def brD (hs : List Int) : D := if slo hs = none then tD (shp hs) else .none
def S_bars : VL.Spec := fun ds d => ∃ hs : List Int, OkH hs ∧ ds = [tD hs] ∧ d = brD hs
theorem so_none (o : Option Sl2) : oIs (soD o) .none = some (.bool (decide (o = none))) := by
  cases o with
  | none => rfl
  | some x => rfl
theorem keeps_bars : Keeps (q_bars S_sharpest S_slopes) N_bars 1 S_bars := by
  rintro ds d ⟨hs, h, rfl, rfl⟩
  refine ⟨rfl, ?_⟩
  unfold q_bars
  change (qRet _) _ [.val (tD hs)]
  simp only [e_seq, e_next, e_break, e_cont, e_drop, e_set, e_setO, e_asg, e_par, e_ifS, e_ret, e_retN, e_retV, e_for, e_setIx, e_meth, e_lend, e_frz, e_var, e_varL, e_c, e_2, e_1, e_tst, e_chain, e_and, e_or, e_not, e_andV, e_orV, e_notV, e_if, e_nil, e_cons, e_lst, e_tup, e_N, e_call, e_callL, e_callS, e_lenS, e_ixS, e_iList, e_iRng1, e_iRng2, e_iEnum, e_iZip, e_name, e_gNil, e_gCons, e_gTup, e_lc, e_listRg1, e_yes, e_wipe0, e_wipe1, e_getV, e_getVo, e_getVb, e_getL, e_getLo, e_getLb, e_getLw, e_ownL, e_sl, e_none, e_some, add_int, sub_int, eq_int, ne_int, eq_bool, ne_bool, ne_str, eq_str, lt_int, gt_int, le_int, ge_int, len_list, len_tuple, list_list, int_int, rev_list, ix_t0, ix_t1, ix_t2, ix_l0, ix_l1, ix_l2, List.set_cons_succ, List.set_cons_zero, List.getElem?_cons_succ, List.getElem?_cons_zero, Option.bind_some, Option.some.injEq, exists_eq_left', exists_eq_left, PyData.bool.injEq, PyData.int.injEq, PyData.list.injEq, Sl.own.injEq, List.cons.injEq, and_true, decide_eq_true_eq, Bool.false_eq_true, if_false, if_true, decide_true, decide_false, Bool.not_true, Bool.not_false]
  refine ⟨_, ⟨hs, h, rfl, rfl⟩, ?_⟩
  rw [so_none]
  unfold brD
  by_cases c : slo hs = none
  · have hl : 1 < hs.length := by
      have := h.1.1
      rcases Nat.lt_or_ge 1 hs.length with q | q
      · exact q
      · have : hs.length = 1 := by omega
        unfold slo at c; rw [if_pos this] at c; cases c
    simp only [e_seq, e_next, e_break, e_cont, e_drop, e_set, e_setO, e_asg, e_par, e_ifS, e_ret, e_retN, e_retV, e_for, e_setIx, e_meth, e_lend, e_frz, e_var, e_varL, e_c, e_2, e_1, e_tst, e_chain, e_and, e_or, e_not, e_andV, e_orV, e_notV, e_if, e_nil, e_cons, e_lst, e_tup, e_N, e_call, e_callL, e_callS, e_lenS, e_ixS, e_iList, e_iRng1, e_iRng2, e_iEnum, e_iZip, e_name, e_gNil, e_gCons, e_gTup, e_lc, e_listRg1, e_yes, e_wipe0, e_wipe1, e_getV, e_getVo, e_getVb, e_getL, e_getLo, e_getLb, e_getLw, e_ownL, e_sl, e_none, e_some, add_int, sub_int, eq_int, ne_int, eq_bool, ne_bool, ne_str, eq_str, lt_int, gt_int, le_int, ge_int, len_list, len_tuple, list_list, int_int, rev_list, ix_t0, ix_t1, ix_t2, ix_l0, ix_l1, ix_l2, List.set_cons_succ, List.set_cons_zero, List.getElem?_cons_succ, List.getElem?_cons_zero, Option.bind_some, Option.some.injEq, exists_eq_left', exists_eq_left, PyData.bool.injEq, PyData.int.injEq, PyData.list.injEq, Sl.own.injEq, List.cons.injEq, and_true, decide_eq_true_eq, Bool.false_eq_true, if_false, if_true, decide_true, decide_false, Bool.not_true, Bool.not_false, c]
    exact ⟨_, ⟨hs, h, hl, rfl, rfl⟩, rfl⟩
  · simp only [e_seq, e_next, e_break, e_cont, e_drop, e_set, e_setO, e_asg, e_par, e_ifS, e_ret, e_retN, e_retV, e_for, e_setIx, e_meth, e_lend, e_frz, e_var, e_varL, e_c, e_2, e_1, e_tst, e_chain, e_and, e_or, e_not, e_andV, e_orV, e_notV, e_if, e_nil, e_cons, e_lst, e_tup, e_N, e_call, e_callL, e_callS, e_lenS, e_ixS, e_iList, e_iRng1, e_iRng2, e_iEnum, e_iZip, e_name, e_gNil, e_gCons, e_gTup, e_lc, e_listRg1, e_yes, e_wipe0, e_wipe1, e_getV, e_getVo, e_getVb, e_getL, e_getLo, e_getLb, e_getLw, e_ownL, e_sl, e_none, e_some, add_int, sub_int, eq_int, ne_int, eq_bool, ne_bool, ne_str, eq_str, lt_int, gt_int, le_int, ge_int, len_list, len_tuple, list_list, int_int, rev_list, ix_t0, ix_t1, ix_t2, ix_l0, ix_l1, ix_l2, List.set_cons_succ, List.set_cons_zero, List.getElem?_cons_succ, List.getElem?_cons_zero, Option.bind_some, Option.some.injEq, exists_eq_left', exists_eq_left, PyData.bool.injEq, PyData.int.injEq, PyData.list.injEq, Sl.own.injEq, List.cons.injEq, and_true, decide_eq_true_eq, Bool.false_eq_true, if_false, if_true, decide_true, decide_false, Bool.not_true, Bool.not_false, c]
def okPr (n : Nat) (p : Pr) : Prop := p.1 < p.2 ∧ p.2 < n
instance (n : Nat) (p : Pr) : Decidable (okPr n p) := by unfold okPr; infer_instance
def abB (hs : List Int) (p q : Pr) : Bool := decide (okPr hs.length p) && (decide (okPr hs.length q) && less (lett hs q) (ask hs p))
def S_are_bars : VL.Spec := fun ds d => ∃ (hs : List Int) (p q : Pr), OkH hs ∧ ds = [tD hs, tD p, tD q] ∧ d = .bool (abB hs p q)
theorem keeps_are_bars : Keeps (q_are_bars S_check_heights S_is_less S_let S_asked) N_are_bars 3 S_are_bars := by
  rintro ds d ⟨hs, p, q, h, rfl, rfl⟩
  refine ⟨rfl, ?_⟩
  have lh : oLen [tD hs] = some (.int (hs.length : Int)) := by rw [tD_list, len_list, List.length_map]
  unfold q_are_bars
  change (qSeq _ _) _ [.val (tD hs), .val (tD p), .val (tD q), .no, .no]
  simp only [e_seq, e_next, e_break, e_cont, e_drop, e_set, e_setO, e_asg, e_par, e_ifS, e_ret, e_retN, e_retV, e_for, e_setIx, e_meth, e_lend, e_frz, e_var, e_varL, e_c, e_2, e_1, e_tst, e_chain, e_and, e_or, e_not, e_andV, e_orV, e_notV, e_if, e_nil, e_cons, e_lst, e_tup, e_N, e_call, e_callL, e_callS, e_lenS, e_ixS, e_iList, e_iRng1, e_iRng2, e_iEnum, e_iZip, e_name, e_gNil, e_gCons, e_gTup, e_lc, e_listRg1, e_yes, e_wipe0, e_wipe1, e_getV, e_getVo, e_getVb, e_getL, e_getLo, e_getLb, e_getLw, e_ownL, e_sl, e_none, e_some, add_int, sub_int, eq_int, ne_int, eq_bool, ne_bool, ne_str, eq_str, lt_int, gt_int, le_int, ge_int, len_list, len_tuple, list_list, int_int, rev_list, ix_t0, ix_t1, ix_t2, ix_l0, ix_l1, ix_l2, List.set_cons_succ, List.set_cons_zero, List.getElem?_cons_succ, List.getElem?_cons_zero, Option.bind_some, Option.some.injEq, exists_eq_left', exists_eq_left, PyData.bool.injEq, PyData.int.injEq, PyData.list.injEq, Sl.own.injEq, List.cons.injEq, and_true, decide_eq_true_eq, Bool.false_eq_true, if_false, if_true, decide_true, decide_false, Bool.not_true, Bool.not_false, e_iTup]
  refine ⟨_, ⟨hs, h, rfl, rfl⟩, ?_⟩
  refine ⟨[tD p, tD q], rfl, ?_⟩
  have hmap : [tD p, tD q] = [p, q].map tD := rfl
  rw [hmap]
  refine forRun_inv (fun i ρ => ∃ a b, (∀ x ∈ [p, q].take i, okPr hs.length x) ∧ ρ = [.val (tD hs), .val (tD p), .val (tD q), a, b]) _ ⟨_, _, by simp, rfl⟩ ?_ ?_
  · rintro i x ρ hx ⟨a, b, hok, rfl⟩ K hK
    simp only [e_seq, e_next, e_break, e_cont, e_drop, e_set, e_setO, e_asg, e_par, e_ifS, e_ret, e_retN, e_retV, e_for, e_setIx, e_meth, e_lend, e_frz, e_var, e_varL, e_c, e_2, e_1, e_tst, e_chain, e_and, e_or, e_not, e_andV, e_orV, e_notV, e_if, e_nil, e_cons, e_lst, e_tup, e_N, e_call, e_callL, e_callS, e_lenS, e_ixS, e_iList, e_iRng1, e_iRng2, e_iEnum, e_iZip, e_name, e_gNil, e_gCons, e_gTup, e_lc, e_listRg1, e_yes, e_wipe0, e_wipe1, e_getV, e_getVo, e_getVb, e_getL, e_getLo, e_getLb, e_getLw, e_ownL, e_sl, e_none, e_some, add_int, sub_int, eq_int, ne_int, eq_bool, ne_bool, ne_str, eq_str, lt_int, gt_int, le_int, ge_int, len_list, len_tuple, list_list, int_int, rev_list, ix_t0, ix_t1, ix_t2, ix_l0, ix_l1, ix_l2, List.set_cons_succ, List.set_cons_zero, List.getElem?_cons_succ, List.getElem?_cons_zero, Option.bind_some, Option.some.injEq, exists_eq_left', exists_eq_left, PyData.bool.injEq, PyData.int.injEq, PyData.list.injEq, Sl.own.injEq, List.cons.injEq, and_true, decide_eq_true_eq, Bool.false_eq_true, if_false, if_true, decide_true, decide_false, Bool.not_true, Bool.not_false, tD_pr, e_chain3, List.length_cons, List.length_nil, true_and, lh]
    have x0 : (0 : Int) ≤ (x.1 : Int) := by omega
    have mx : x ∈ [p, q] := List.mem_of_getElem? hx
    have no : ¬ okPr hs.length x → abB hs p q = false := fun hn => by
      unfold abB
      simp at mx
      rcases mx with rfl | rfl
      · simp [hn]
      · simp [hn]
    by_cases c1 : (x.1 : Int) < (x.2 : Int)
    · by_cases c2 : (x.2 : Int) < (hs.length : Int)
      · simp only [e_seq, e_next, e_break, e_cont, e_drop, e_set, e_setO, e_asg, e_par, e_ifS, e_ret, e_retN, e_retV, e_for, e_setIx, e_meth, e_lend, e_frz, e_var, e_varL, e_c, e_2, e_1, e_tst, e_chain, e_and, e_or, e_not, e_andV, e_orV, e_notV, e_if, e_nil, e_cons, e_lst, e_tup, e_N, e_call, e_callL, e_callS, e_lenS, e_ixS, e_iList, e_iRng1, e_iRng2, e_iEnum, e_iZip, e_name, e_gNil, e_gCons, e_gTup, e_lc, e_listRg1, e_yes, e_wipe0, e_wipe1, e_getV, e_getVo, e_getVb, e_getL, e_getLo, e_getLb, e_getLw, e_ownL, e_sl, e_none, e_some, add_int, sub_int, eq_int, ne_int, eq_bool, ne_bool, ne_str, eq_str, lt_int, gt_int, le_int, ge_int, len_list, len_tuple, list_list, int_int, rev_list, ix_t0, ix_t1, ix_t2, ix_l0, ix_l1, ix_l2, List.set_cons_succ, List.set_cons_zero, List.getElem?_cons_succ, List.getElem?_cons_zero, Option.bind_some, Option.some.injEq, exists_eq_left', exists_eq_left, PyData.bool.injEq, PyData.int.injEq, PyData.list.injEq, Sl.own.injEq, List.cons.injEq, and_true, decide_eq_true_eq, Bool.false_eq_true, if_false, if_true, decide_true, decide_false, Bool.not_true, Bool.not_false, x0, c1, c2]
        refine hK _ ⟨_, _, fun y hy => ?_, rfl⟩
        obtain ⟨h1, h2⟩ := List.getElem?_eq_some_iff.mp hx
        rw [List.take_succ_eq_append_getElem h1, h2] at hy
        rcases List.mem_append.mp hy with z | z
        · exact hok y z
        · simp at z; subst z; unfold okPr; omega
      · simp only [e_seq, e_next, e_break, e_cont, e_drop, e_set, e_setO, e_asg, e_par, e_ifS, e_ret, e_retN, e_retV, e_for, e_setIx, e_meth, e_lend, e_frz, e_var, e_varL, e_c, e_2, e_1, e_tst, e_chain, e_and, e_or, e_not, e_andV, e_orV, e_notV, e_if, e_nil, e_cons, e_lst, e_tup, e_N, e_call, e_callL, e_callS, e_lenS, e_ixS, e_iList, e_iRng1, e_iRng2, e_iEnum, e_iZip, e_name, e_gNil, e_gCons, e_gTup, e_lc, e_listRg1, e_yes, e_wipe0, e_wipe1, e_getV, e_getVo, e_getVb, e_getL, e_getLo, e_getLb, e_getLw, e_ownL, e_sl, e_none, e_some, add_int, sub_int, eq_int, ne_int, eq_bool, ne_bool, ne_str, eq_str, lt_int, gt_int, le_int, ge_int, len_list, len_tuple, list_list, int_int, rev_list, ix_t0, ix_t1, ix_t2, ix_l0, ix_l1, ix_l2, List.set_cons_succ, List.set_cons_zero, List.getElem?_cons_succ, List.getElem?_cons_zero, Option.bind_some, Option.some.injEq, exists_eq_left', exists_eq_left, PyData.bool.injEq, PyData.int.injEq, PyData.list.injEq, Sl.own.injEq, List.cons.injEq, and_true, decide_eq_true_eq, Bool.false_eq_true, if_false, if_true, decide_true, decide_false, Bool.not_true, Bool.not_false, x0, c1, c2]
        rw [no (by unfold okPr; omega)]
    · simp only [e_seq, e_next, e_break, e_cont, e_drop, e_set, e_setO, e_asg, e_par, e_ifS, e_ret, e_retN, e_retV, e_for, e_setIx, e_meth, e_lend, e_frz, e_var, e_varL, e_c, e_2, e_1, e_tst, e_chain, e_and, e_or, e_not, e_andV, e_orV, e_notV, e_if, e_nil, e_cons, e_lst, e_tup, e_N, e_call, e_callL, e_callS, e_lenS, e_ixS, e_iList, e_iRng1, e_iRng2, e_iEnum, e_iZip, e_name, e_gNil, e_gCons, e_gTup, e_lc, e_listRg1, e_yes, e_wipe0, e_wipe1, e_getV, e_getVo, e_getVb, e_getL, e_getLo, e_getLb, e_getLw, e_ownL, e_sl, e_none, e_some, add_int, sub_int, eq_int, ne_int, eq_bool, ne_bool, ne_str, eq_str, lt_int, gt_int, le_int, ge_int, len_list, len_tuple, list_list, int_int, rev_list, ix_t0, ix_t1, ix_t2, ix_l0, ix_l1, ix_l2, List.set_cons_succ, List.set_cons_zero, List.getElem?_cons_succ, List.getElem?_cons_zero, Option.bind_some, Option.some.injEq, exists_eq_left', exists_eq_left, PyData.bool.injEq, PyData.int.injEq, PyData.list.injEq, Sl.own.injEq, List.cons.injEq, and_true, decide_eq_true_eq, Bool.false_eq_true, if_false, if_true, decide_true, decide_false, Bool.not_true, Bool.not_false, x0, c1]
      rw [no (by unfold okPr; omega)]
  · rintro ρ ⟨a, b, hok, rfl⟩
    have hp : okPr hs.length p := hok p (by simp)
    have hq : okPr hs.length q := hok q (by simp)
    simp only [e_seq, e_next, e_break, e_cont, e_drop, e_set, e_setO, e_asg, e_par, e_ifS, e_ret, e_retN, e_retV, e_for, e_setIx, e_meth, e_lend, e_frz, e_var, e_varL, e_c, e_2, e_1, e_tst, e_chain, e_and, e_or, e_not, e_andV, e_orV, e_notV, e_if, e_nil, e_cons, e_lst, e_tup, e_N, e_call, e_callL, e_callS, e_lenS, e_ixS, e_iList, e_iRng1, e_iRng2, e_iEnum, e_iZip, e_name, e_gNil, e_gCons, e_gTup, e_lc, e_listRg1, e_yes, e_wipe0, e_wipe1, e_getV, e_getVo, e_getVb, e_getL, e_getLo, e_getLb, e_getLw, e_ownL, e_sl, e_none, e_some, add_int, sub_int, eq_int, ne_int, eq_bool, ne_bool, ne_str, eq_str, lt_int, gt_int, le_int, ge_int, len_list, len_tuple, list_list, int_int, rev_list, ix_t0, ix_t1, ix_t2, ix_l0, ix_l1, ix_l2, List.set_cons_succ, List.set_cons_zero, List.getElem?_cons_succ, List.getElem?_cons_zero, Option.bind_some, Option.some.injEq, exists_eq_left', exists_eq_left, PyData.bool.injEq, PyData.int.injEq, PyData.list.injEq, Sl.own.injEq, List.cons.injEq, and_true, decide_eq_true_eq, Bool.false_eq_true, if_false, if_true, decide_true, decide_false, Bool.not_true, Bool.not_false, tD_pr]
    refine ⟨_, ⟨hs, q, h, mem_prs.mpr hq, rfl, rfl⟩, _, ⟨hs, p, h, mem_prs.mpr hp, rfl, rfl⟩, _, ⟨_, _, ⟨let_small h (mem_prs.mpr hq), ask_small h (mem_prs.mpr hp)⟩, rfl, rfl⟩, ?_⟩
    unfold abB
    simp [hp, hq]
end P49
namespace P49
open PySem VL L2
open PySem.W (Datum DatumOrd)
def S__law_fraction : VL.Spec := S_fraction
theorem ab_nat (i : Int) : ab i = (i.natAbs : Int) := by unfold ab; split <;> omega
theorem keeps__law_fraction : Keeps q__law_fraction N__law_fraction 2 S__law_fraction := by
  rintro ds d ⟨n, m, ⟨h, h2⟩, rfl, rfl⟩
  refine ⟨rfl, ?_⟩
  have g := gc_pos (n := n) h
  have c : ¬ m < 0 := by omega
  have e1 : oDiv (.int n) (.int (gc n m)) = some (.int (n / gc n m)) := div_int (by omega)
  have e2 : oDiv (.int m) (.int (gc n m)) = some (.int (m / gc n m)) := div_int (by omega)
  unfold q__law_fraction
  change (qSeq _ _) _ [.val (.int n), .val (.int m), .no, .no]
  simp only [e_seq, e_next, e_break, e_cont, e_drop, e_set, e_setO, e_asg, e_par, e_ifS, e_ret, e_retN, e_retV, e_for, e_setIx, e_meth, e_lend, e_frz, e_var, e_varL, e_c, e_2, e_1, e_tst, e_chain, e_and, e_or, e_not, e_andV, e_orV, e_notV, e_if, e_nil, e_cons, e_lst, e_tup, e_N, e_call, e_callL, e_callS, e_lenS, e_ixS, e_iList, e_iRng1, e_iRng2, e_iEnum, e_iZip, e_name, e_gNil, e_gCons, e_gTup, e_lc, e_listRg1, e_yes, e_wipe0, e_wipe1, e_getV, e_getVo, e_getVb, e_getL, e_getLo, e_getLb, e_getLw, e_ownL, e_sl, e_none, e_some, add_int, sub_int, eq_int, ne_int, eq_bool, ne_bool, ne_str, eq_str, lt_int, gt_int, le_int, ge_int, len_list, len_tuple, list_list, int_int, rev_list, ix_t0, ix_t1, ix_t2, ix_l0, ix_l1, ix_l2, List.set_cons_succ, List.set_cons_zero, List.getElem?_cons_succ, List.getElem?_cons_zero, Option.bind_some, Option.some.injEq, exists_eq_left', exists_eq_left, PyData.bool.injEq, PyData.int.injEq, PyData.list.injEq, Sl.own.injEq, List.cons.injEq, and_true, decide_eq_true_eq, Bool.false_eq_true, if_false, if_true, decide_true, decide_false, Bool.not_true, Bool.not_false, abs_int, ab_nat]
  refine ⟨m.natAbs + 1, ?_⟩
  have key : ∀ (Dv : VEnds), Dv.nx [.val (.int n), .val (.int m), .val (.int (gc n m)), .val (.int 0)] → ∀ (k a b : Nat), b ≤ k → Nat.gcd a b = Nat.gcd n.natAbs m.natAbs →
      whRun (qTst (q2 oNe (qVar 3) (qC (.int 0)))) (qPar 2 3 (qCons (qVar 3) (qCons (q2 oMod (qN oInt (qCons (qVar 2) qNil)) (qVar 3)) qNil))) Dv (k + 1) [.val (.int n), .val (.int m), .val (.int (a : Int)), .val (.int (b : Int))] := by
    intro Dv hD k
    induction k with
    | zero =>
      intro a b hb hg
      have : b = 0 := by omega
      subst this
      rw [Nat.gcd_zero_right] at hg
      have e : (a : Int) = gc n m := by unfold gc; rw [hg]
      rw [whRun]
      simp only [e_seq, e_next, e_break, e_cont, e_drop, e_set, e_setO, e_asg, e_par, e_ifS, e_ret, e_retN, e_retV, e_for, e_setIx, e_meth, e_lend, e_frz, e_var, e_varL, e_c, e_2, e_1, e_tst, e_chain, e_and, e_or, e_not, e_andV, e_orV, e_notV, e_if, e_nil, e_cons, e_lst, e_tup, e_N, e_call, e_callL, e_callS, e_lenS, e_ixS, e_iList, e_iRng1, e_iRng2, e_iEnum, e_iZip, e_name, e_gNil, e_gCons, e_gTup, e_lc, e_listRg1, e_yes, e_wipe0, e_wipe1, e_getV, e_getVo, e_getVb, e_getL, e_getLo, e_getLb, e_getLw, e_ownL, e_sl, e_none, e_some, add_int, sub_int, eq_int, ne_int, eq_bool, ne_bool, ne_str, eq_str, lt_int, gt_int, le_int, ge_int, len_list, len_tuple, list_list, int_int, rev_list, ix_t0, ix_t1, ix_t2, ix_l0, ix_l1, ix_l2, List.set_cons_succ, List.set_cons_zero, List.getElem?_cons_succ, List.getElem?_cons_zero, Option.bind_some, Option.some.injEq, exists_eq_left', exists_eq_left, PyData.bool.injEq, PyData.int.injEq, PyData.list.injEq, Sl.own.injEq, List.cons.injEq, and_true, decide_eq_true_eq, Bool.false_eq_true, if_false, if_true, decide_true, decide_false, Bool.not_true, Bool.not_false, Int.natCast_zero, e]
      exact hD
    | succ k ih =>
      intro a b hb hg
      rw [whRun]
      by_cases z : b = 0
      · subst z
        rw [Nat.gcd_zero_right] at hg
        have e : (a : Int) = gc n m := by unfold gc; rw [hg]
        simp only [e_seq, e_next, e_break, e_cont, e_drop, e_set, e_setO, e_asg, e_par, e_ifS, e_ret, e_retN, e_retV, e_for, e_setIx, e_meth, e_lend, e_frz, e_var, e_varL, e_c, e_2, e_1, e_tst, e_chain, e_and, e_or, e_not, e_andV, e_orV, e_notV, e_if, e_nil, e_cons, e_lst, e_tup, e_N, e_call, e_callL, e_callS, e_lenS, e_ixS, e_iList, e_iRng1, e_iRng2, e_iEnum, e_iZip, e_name, e_gNil, e_gCons, e_gTup, e_lc, e_listRg1, e_yes, e_wipe0, e_wipe1, e_getV, e_getVo, e_getVb, e_getL, e_getLo, e_getLb, e_getLw, e_ownL, e_sl, e_none, e_some, add_int, sub_int, eq_int, ne_int, eq_bool, ne_bool, ne_str, eq_str, lt_int, gt_int, le_int, ge_int, len_list, len_tuple, list_list, int_int, rev_list, ix_t0, ix_t1, ix_t2, ix_l0, ix_l1, ix_l2, List.set_cons_succ, List.set_cons_zero, List.getElem?_cons_succ, List.getElem?_cons_zero, Option.bind_some, Option.some.injEq, exists_eq_left', exists_eq_left, PyData.bool.injEq, PyData.int.injEq, PyData.list.injEq, Sl.own.injEq, List.cons.injEq, and_true, decide_eq_true_eq, Bool.false_eq_true, if_false, if_true, decide_true, decide_false, Bool.not_true, Bool.not_false, Int.natCast_zero, e]
        exact hD
      · have z' : ¬ (b : Int) = 0 := by omega
        have em : oMod (.int (a : Int)) (.int (b : Int)) = some (.int ((a % b : Nat) : Int)) := by rw [mod_int (by omega)]; simp
        simp only [e_seq, e_next, e_break, e_cont, e_drop, e_set, e_setO, e_asg, e_par, e_ifS, e_ret, e_retN, e_retV, e_for, e_setIx, e_meth, e_lend, e_frz, e_var, e_varL, e_c, e_2, e_1, e_tst, e_chain, e_and, e_or, e_not, e_andV, e_orV, e_notV, e_if, e_nil, e_cons, e_lst, e_tup, e_N, e_call, e_callL, e_callS, e_lenS, e_ixS, e_iList, e_iRng1, e_iRng2, e_iEnum, e_iZip, e_name, e_gNil, e_gCons, e_gTup, e_lc, e_listRg1, e_yes, e_wipe0, e_wipe1, e_getV, e_getVo, e_getVb, e_getL, e_getLo, e_getLb, e_getLw, e_ownL, e_sl, e_none, e_some, add_int, sub_int, eq_int, ne_int, eq_bool, ne_bool, ne_str, eq_str, lt_int, gt_int, le_int, ge_int, len_list, len_tuple, list_list, int_int, rev_list, ix_t0, ix_t1, ix_t2, ix_l0, ix_l1, ix_l2, List.set_cons_succ, List.set_cons_zero, List.getElem?_cons_succ, List.getElem?_cons_zero, Option.bind_some, Option.some.injEq, exists_eq_left', exists_eq_left, PyData.bool.injEq, PyData.int.injEq, PyData.list.injEq, Sl.own.injEq, List.cons.injEq, and_true, decide_eq_true_eq, Bool.false_eq_true, if_false, if_true, decide_true, decide_false, Bool.not_true, Bool.not_false, z', em]
        have hlt := Nat.mod_lt a (show 0 < b by omega)
        refine ih b (a % b) (by omega) ?_
        rw [← hg, Nat.gcd_comm b, ← Nat.gcd_rec, Nat.gcd_comm]
  refine key _ ?_ m.natAbs n.natAbs m.natAbs (Nat.le_refl _) rfl
  simp only [e_seq, e_next, e_break, e_cont, e_drop, e_set, e_setO, e_asg, e_par, e_ifS, e_ret, e_retN, e_retV, e_for, e_setIx, e_meth, e_lend, e_frz, e_var, e_varL, e_c, e_2, e_1, e_tst, e_chain, e_and, e_or, e_not, e_andV, e_orV, e_notV, e_if, e_nil, e_cons, e_lst, e_tup, e_N, e_call, e_callL, e_callS, e_lenS, e_ixS, e_iList, e_iRng1, e_iRng2, e_iEnum, e_iZip, e_name, e_gNil, e_gCons, e_gTup, e_lc, e_listRg1, e_yes, e_wipe0, e_wipe1, e_getV, e_getVo, e_getVb, e_getL, e_getLo, e_getLb, e_getLw, e_ownL, e_sl, e_none, e_some, add_int, sub_int, eq_int, ne_int, eq_bool, ne_bool, ne_str, eq_str, lt_int, gt_int, le_int, ge_int, len_list, len_tuple, list_list, int_int, rev_list, ix_t0, ix_t1, ix_t2, ix_l0, ix_l1, ix_l2, List.set_cons_succ, List.set_cons_zero, List.getElem?_cons_succ, List.getElem?_cons_zero, Option.bind_some, Option.some.injEq, exists_eq_left', exists_eq_left, PyData.bool.injEq, PyData.int.injEq, PyData.list.injEq, Sl.own.injEq, List.cons.injEq, and_true, decide_eq_true_eq, Bool.false_eq_true, if_false, if_true, decide_true, decide_false, Bool.not_true, Bool.not_false, c, e1, e2]
  rfl
def S__law_pairs : VL.Spec := S_pairs_of
theorem keeps__law_pairs : Keeps q__law_pairs N__law_pairs 1 S__law_pairs := by
  rintro ds d ⟨hs, ⟨⟨h1, h2⟩, h3⟩, rfl, rfl⟩
  refine ⟨rfl, ?_⟩
  have bg := big
  have lh : oLen [tD hs] = some (.int (hs.length : Int)) := by rw [tD_list, len_list, List.length_map]
  unfold q__law_pairs
  change (qSeq _ _) _ [.val (tD hs), .no, .no, .no]
  simp only [e_seq, e_next, e_break, e_cont, e_drop, e_set, e_setO, e_asg, e_par, e_ifS, e_ret, e_retN, e_retV, e_for, e_setIx, e_meth, e_lend, e_frz, e_var, e_varL, e_c, e_2, e_1, e_tst, e_chain, e_and, e_or, e_not, e_andV, e_orV, e_notV, e_if, e_nil, e_cons, e_lst, e_tup, e_N, e_call, e_callL, e_callS, e_lenS, e_ixS, e_iList, e_iRng1, e_iRng2, e_iEnum, e_iZip, e_name, e_gNil, e_gCons, e_gTup, e_lc, e_listRg1, e_yes, e_wipe0, e_wipe1, e_getV, e_getVo, e_getVb, e_getL, e_getLo, e_getLb, e_getLw, e_ownL, e_sl, e_none, e_some, add_int, sub_int, eq_int, ne_int, eq_bool, ne_bool, ne_str, eq_str, lt_int, gt_int, le_int, ge_int, len_list, len_tuple, list_list, int_int, rev_list, ix_t0, ix_t1, ix_t2, ix_l0, ix_l1, ix_l2, List.set_cons_succ, List.set_cons_zero, List.getElem?_cons_succ, List.getElem?_cons_zero, Option.bind_some, Option.some.injEq, exists_eq_left', exists_eq_left, PyData.bool.injEq, PyData.int.injEq, PyData.list.injEq, Sl.own.injEq, List.cons.injEq, and_true, decide_eq_true_eq, Bool.false_eq_true, if_false, if_true, decide_true, decide_false, Bool.not_true, Bool.not_false, lh, Int.toNat_natCast]
  refine ⟨⟨by omega, by omega⟩, ?_⟩
  let gg : Nat → List Pr := fun i => (List.range (hs.length - (i + 1))).map fun k => (i, i + 1 + k)
  refine forRun_rng (fun i ρ => ∃ a b, ρ = [.val (tD hs), .val (.list (((List.range i).flatMap gg).map tD)), a, b]) _ ⟨_, _, rfl⟩ ?_ ?_
  · rintro i ρ hi ⟨a, b, rfl⟩ K hK
    have hlen : ((List.range i).flatMap gg).length ≤ 40 * i := by
      clear hK hi
      induction i with
      | zero => simp
      | succ i ih =>
        rw [List.range_succ, List.flatMap_append, List.length_append]
        have : ([i].flatMap gg).length ≤ 40 := by simp [gg]; omega
        omega
    simp only [e_seq, e_next, e_break, e_cont, e_drop, e_set, e_setO, e_asg, e_par, e_ifS, e_ret, e_retN, e_retV, e_for, e_setIx, e_meth, e_lend, e_frz, e_var, e_varL, e_c, e_2, e_1, e_tst, e_chain, e_and, e_or, e_not, e_andV, e_orV, e_notV, e_if, e_nil, e_cons, e_lst, e_tup, e_N, e_call, e_callL, e_callS, e_lenS, e_ixS, e_iList, e_iRng1, e_iRng2, e_iEnum, e_iZip, e_name, e_gNil, e_gCons, e_gTup, e_lc, e_listRg1, e_yes, e_wipe0, e_wipe1, e_getV, e_getVo, e_getVb, e_getL, e_getLo, e_getLb, e_getLw, e_ownL, e_sl, e_none, e_some, add_int, sub_int, eq_int, ne_int, eq_bool, ne_bool, ne_str, eq_str, lt_int, gt_int, le_int, ge_int, len_list, len_tuple, list_list, int_int, rev_list, ix_t0, ix_t1, ix_t2, ix_l0, ix_l1, ix_l2, List.set_cons_succ, List.set_cons_zero, List.getElem?_cons_succ, List.getElem?_cons_zero, Option.bind_some, Option.some.injEq, exists_eq_left', exists_eq_left, PyData.bool.injEq, PyData.int.injEq, PyData.list.injEq, Sl.own.injEq, List.cons.injEq, and_true, decide_eq_true_eq, Bool.false_eq_true, if_false, if_true, decide_true, decide_false, Bool.not_true, Bool.not_false, lh]
    have e : ((hs.length : Int) - ((i : Int) + 1)).toNat = hs.length - (i + 1) := by omega
    have er := rangeD_at (i + 1) (hs.length - (i + 1))
    rw [e, show ((i : Int) + 1) = ((i + 1 : Nat) : Int) by omega, er]
    refine ⟨⟨by omega, by omega, by omega, by omega⟩, by simp; omega, ?_⟩
    refine lcRun_map (fun m : Nat => tD ((i, i + 1 + m) : Pr)) _ (fun m hm P hP => hP) ?_
    rw [List.nil_append]
    refine ⟨_, cat_ok (by rw [List.length_map, List.length_map, List.length_range]; omega), ?_⟩
    refine hK _ ⟨.val (.int (i : Int)), b, ?_⟩
    rw [List.range_succ, List.flatMap_append, List.map_append]
    have : ([i].flatMap gg).map (tD (α := Pr)) = (List.range (hs.length - (i + 1))).map fun m : Nat => tD ((i, i + 1 + m) : Pr) := by simp [gg]
    rw [this]
  · rintro ρ ⟨a, b, rfl⟩
    simp only [e_seq, e_next, e_break, e_cont, e_drop, e_set, e_setO, e_asg, e_par, e_ifS, e_ret, e_retN, e_retV, e_for, e_setIx, e_meth, e_lend, e_frz, e_var, e_varL, e_c, e_2, e_1, e_tst, e_chain, e_and, e_or, e_not, e_andV, e_orV, e_notV, e_if, e_nil, e_cons, e_lst, e_tup, e_N, e_call, e_callL, e_callS, e_lenS, e_ixS, e_iList, e_iRng1, e_iRng2, e_iEnum, e_iZip, e_name, e_gNil, e_gCons, e_gTup, e_lc, e_listRg1, e_yes, e_wipe0, e_wipe1, e_getV, e_getVo, e_getVb, e_getL, e_getLo, e_getLb, e_getLw, e_ownL, e_sl, e_none, e_some, add_int, sub_int, eq_int, ne_int, eq_bool, ne_bool, ne_str, eq_str, lt_int, gt_int, le_int, ge_int, len_list, len_tuple, list_list, int_int, rev_list, ix_t0, ix_t1, ix_t2, ix_l0, ix_l1, ix_l2, List.set_cons_succ, List.set_cons_zero, List.getElem?_cons_succ, List.getElem?_cons_zero, Option.bind_some, Option.some.injEq, exists_eq_left', exists_eq_left, PyData.bool.injEq, PyData.int.injEq, PyData.list.injEq, Sl.own.injEq, List.cons.injEq, and_true, decide_eq_true_eq, Bool.false_eq_true, if_false, if_true, decide_true, decide_false, Bool.not_true, Bool.not_false]
    rfl
def S__law_slopes : VL.Spec := fun ds d => ∃ hs : List Int, OkH hs ∧ 1 < hs.length ∧ ds = [tD hs] ∧ d = soD (slo hs)
theorem prs_len {hs : List Int} (h : OkH hs) : (prs hs.length).length ≤ 1600 := by
  have h2 := h.1.2
  unfold prs
  have : ∀ m, m ≤ hs.length → ((List.range m).flatMap fun i => (List.range (hs.length - (i + 1))).map fun k => (i, i + 1 + k)).length ≤ 40 * m := by
    intro m
    induction m with
    | zero => simp
    | succ i ih =>
      intro hm
      rw [List.range_succ, List.flatMap_append, List.length_append]
      have a := ih (by omega)
      have : ([i].flatMap fun i => (List.range (hs.length - (i + 1))).map fun k => (i, i + 1 + k)).length ≤ 40 := by simp; omega
      omega
  have := this hs.length (Nat.le_refl _)
  omega
theorem keeps__law_slopes : Keeps (q__law_slopes S__law_pairs S__law_fraction S__law_less) N__law_slopes 1 S__law_slopes := by
  rintro ds d ⟨hs, h, hl, rfl, rfl⟩
  refine ⟨rfl, ?_⟩
  have bg := big
  obtain ⟨r, e⟩ := prs_head hl
  have pl := prs_len h
  unfold q__law_slopes
  change (qSeq _ _) _ [.val (tD hs), .no, .no, .no, .no, .no, .no, .no, .no]
  simp only [e_seq, e_next, e_break, e_cont, e_drop, e_set, e_setO, e_asg, e_par, e_ifS, e_ret, e_retN, e_retV, e_for, e_setIx, e_meth, e_lend, e_frz, e_var, e_varL, e_c, e_2, e_1, e_tst, e_chain, e_and, e_or, e_not, e_andV, e_orV, e_notV, e_if, e_nil, e_cons, e_lst, e_tup, e_N, e_call, e_callL, e_callS, e_lenS, e_ixS, e_iList, e_iRng1, e_iRng2, e_iEnum, e_iZip, e_name, e_gNil, e_gCons, e_gTup, e_lc, e_listRg1, e_yes, e_wipe0, e_wipe1, e_getV, e_getVo, e_getVb, e_getL, e_getLo, e_getLb, e_getLw, e_ownL, e_sl, e_none, e_some, add_int, sub_int, eq_int, ne_int, eq_bool, ne_bool, ne_str, eq_str, lt_int, gt_int, le_int, ge_int, len_list, len_tuple, list_list, int_int, rev_list, ix_t0, ix_t1, ix_t2, ix_l0, ix_l1, ix_l2, List.set_cons_succ, List.set_cons_zero, List.getElem?_cons_succ, List.getElem?_cons_zero, Option.bind_some, Option.some.injEq, exists_eq_left', exists_eq_left, PyData.bool.injEq, PyData.int.injEq, PyData.list.injEq, Sl.own.injEq, List.cons.injEq, and_true, decide_eq_true_eq, Bool.false_eq_true, if_false, if_true, decide_true, decide_false, Bool.not_true, Bool.not_false]
  refine ⟨_, ⟨hs, h, rfl, rfl⟩, ?_⟩
  refine ⟨_, rfl, by simp; omega, ?_⟩
  refine lcRun_map (fun p => tD (ask hs p)) _ (fun p hp P hP => ?_) ?_
  · have a := mem_prs.mp hp
    change qGTup 2 _ (PyData.tuple [.int (p.1 : Int), .int (p.2 : Int)]) _ _
    simp only [e_seq, e_next, e_break, e_cont, e_drop, e_set, e_setO, e_asg, e_par, e_ifS, e_ret, e_retN, e_retV, e_for, e_setIx, e_meth, e_lend, e_frz, e_var, e_varL, e_c, e_2, e_1, e_tst, e_chain, e_and, e_or, e_not, e_andV, e_orV, e_notV, e_if, e_nil, e_cons, e_lst, e_tup, e_N, e_call, e_callL, e_callS, e_lenS, e_ixS, e_iList, e_iRng1, e_iRng2, e_iEnum, e_iZip, e_name, e_gNil, e_gCons, e_gTup, e_lc, e_listRg1, e_yes, e_wipe0, e_wipe1, e_getV, e_getVo, e_getVb, e_getL, e_getLo, e_getLb, e_getLw, e_ownL, e_sl, e_none, e_some, add_int, sub_int, eq_int, ne_int, eq_bool, ne_bool, ne_str, eq_str, lt_int, gt_int, le_int, ge_int, len_list, len_tuple, list_list, int_int, rev_list, ix_t0, ix_t1, ix_t2, ix_l0, ix_l1, ix_l2, List.set_cons_succ, List.set_cons_zero, List.getElem?_cons_succ, List.getElem?_cons_zero, Option.bind_some, Option.some.injEq, exists_eq_left', exists_eq_left, PyData.bool.injEq, PyData.int.injEq, PyData.list.injEq, Sl.own.injEq, List.cons.injEq, and_true, decide_eq_true_eq, Bool.false_eq_true, if_false, if_true, decide_true, decide_false, Bool.not_true, Bool.not_false, List.length_cons, List.length_nil, true_and, ix_hs a.2, ix_hs (show p.1 < hs.length by omega)]
    exact ⟨_, ⟨_, _, ln_sm h hp, rfl, rfl⟩, hP⟩
  rw [List.nil_append]
  refine ⟨_, rfl, by simp; omega, ?_⟩
  refine lcRun_map (fun p => tD (lett hs p)) _ (fun p hp P hP => ?_) ?_
  · have a := mem_prs.mp hp
    change qGTup 2 _ (PyData.tuple [.int (p.1 : Int), .int (p.2 : Int)]) _ _
    simp only [e_seq, e_next, e_break, e_cont, e_drop, e_set, e_setO, e_asg, e_par, e_ifS, e_ret, e_retN, e_retV, e_for, e_setIx, e_meth, e_lend, e_frz, e_var, e_varL, e_c, e_2, e_1, e_tst, e_chain, e_and, e_or, e_not, e_andV, e_orV, e_notV, e_if, e_nil, e_cons, e_lst, e_tup, e_N, e_call, e_callL, e_callS, e_lenS, e_ixS, e_iList, e_iRng1, e_iRng2, e_iEnum, e_iZip, e_name, e_gNil, e_gCons, e_gTup, e_lc, e_listRg1, e_yes, e_wipe0, e_wipe1, e_getV, e_getVo, e_getVb, e_getL, e_getLo, e_getLb, e_getLw, e_ownL, e_sl, e_none, e_some, add_int, sub_int, eq_int, ne_int, eq_bool, ne_bool, ne_str, eq_str, lt_int, gt_int, le_int, ge_int, len_list, len_tuple, list_list, int_int, rev_list, ix_t0, ix_t1, ix_t2, ix_l0, ix_l1, ix_l2, List.set_cons_succ, List.set_cons_zero, List.getElem?_cons_succ, List.getElem?_cons_zero, Option.bind_some, Option.some.injEq, exists_eq_left', exists_eq_left, PyData.bool.injEq, PyData.int.injEq, PyData.list.injEq, Sl.own.injEq, List.cons.injEq, and_true, decide_eq_true_eq, Bool.false_eq_true, if_false, if_true, decide_true, decide_false, Bool.not_true, Bool.not_false, List.length_cons, List.length_nil, true_and, ix_hs a.2, ix_hs (show p.1 < hs.length by omega)]
    exact ⟨_, ⟨_, _, ln_sm h hp, rfl, rfl⟩, hP⟩
  rw [List.nil_append]
  have i1 : oIx (.list ((prs hs.length).map fun p => tD (ask hs p))) (.int 0) = some (tD (ask hs (0, 1))) := by rw [e]; exact ix_nat (i := 0) rfl
  have i2 : oIx (.list ((prs hs.length).map fun p => tD (lett hs p))) (.int 0) = some (tD (lett hs (0, 1))) := by rw [e]; exact ix_nat (i := 0) rfl
  have lp : oLen [tD (prs hs.length)] = some (.int ((prs hs.length).length : Int)) := by rw [tD_list, len_list, List.length_map]
  simp only [e_seq, e_next, e_break, e_cont, e_drop, e_set, e_setO, e_asg, e_par, e_ifS, e_ret, e_retN, e_retV, e_for, e_setIx, e_meth, e_lend, e_frz, e_var, e_varL, e_c, e_2, e_1, e_tst, e_chain, e_and, e_or, e_not, e_andV, e_orV, e_notV, e_if, e_nil, e_cons, e_lst, e_tup, e_N, e_call, e_callL, e_callS, e_lenS, e_ixS, e_iList, e_iRng1, e_iRng2, e_iEnum, e_iZip, e_name, e_gNil, e_gCons, e_gTup, e_lc, e_listRg1, e_yes, e_wipe0, e_wipe1, e_getV, e_getVo, e_getVb, e_getL, e_getLo, e_getLb, e_getLw, e_ownL, e_sl, e_none, e_some, add_int, sub_int, eq_int, ne_int, eq_bool, ne_bool, ne_str, eq_str, lt_int, gt_int, le_int, ge_int, len_list, len_tuple, list_list, int_int, rev_list, ix_t0, ix_t1, ix_t2, ix_l0, ix_l1, ix_l2, List.set_cons_succ, List.set_cons_zero, List.getElem?_cons_succ, List.getElem?_cons_zero, Option.bind_some, Option.some.injEq, exists_eq_left', exists_eq_left, PyData.bool.injEq, PyData.int.injEq, PyData.list.injEq, Sl.own.injEq, List.cons.injEq, and_true, decide_eq_true_eq, Bool.false_eq_true, if_false, if_true, decide_true, decide_false, Bool.not_true, Bool.not_false, i1, i2, lp, Int.toNat_natCast]
  refine ⟨⟨by omega, by omega⟩, ?_⟩
  refine forRun_rng (fun i ρ => ∃ a, ρ = [.val (tD hs), .val (tD (prs hs.length)), .val (.list ((prs hs.length).map fun p => tD (ask hs p))), .val (.list ((prs hs.length).map fun p => tD (lett hs p))), a, .val (tD (ask hs (((prs hs.length).take i).foldl (stp hs) ((0, 1), (0, 1))).1)), .val (tD (lett hs (((prs hs.length).take i).foldl (stp hs) ((0, 1), (0, 1))).2)), .no, .no]) _ ⟨_, rfl⟩ ?_ ?_
  · rintro i ρ hi ⟨a, rfl⟩ K hK
    have hx : (prs hs.length)[i]? = some ((prs hs.length)[i]'hi) := List.getElem?_eq_getElem hi
    generalize (prs hs.length)[i]'hi = x at hx
    obtain ⟨m1, m2⟩ := mem_fold (i := i) hl
    have mx := List.mem_of_getElem? hx
    rw [fold_snoc hx] at hK
    generalize ((prs hs.length).take i).foldl (stp hs) ((0, 1), (0, 1)) = s at *
    have j1 : oIx (.list ((prs hs.length).map fun p => tD (ask hs p))) (.int (i : Int)) = some (tD (ask hs x)) := ix_map hx
    have j2 : oIx (.list ((prs hs.length).map fun p => tD (lett hs p))) (.int (i : Int)) = some (tD (lett hs x)) := ix_map hx
    simp only [e_seq, e_next, e_break, e_cont, e_drop, e_set, e_setO, e_asg, e_par, e_ifS, e_ret, e_retN, e_retV, e_for, e_setIx, e_meth, e_lend, e_frz, e_var, e_varL, e_c, e_2, e_1, e_tst, e_chain, e_and, e_or, e_not, e_andV, e_orV, e_notV, e_if, e_nil, e_cons, e_lst, e_tup, e_N, e_call, e_callL, e_callS, e_lenS, e_ixS, e_iList, e_iRng1, e_iRng2, e_iEnum, e_iZip, e_name, e_gNil, e_gCons, e_gTup, e_lc, e_listRg1, e_yes, e_wipe0, e_wipe1, e_getV, e_getVo, e_getVb, e_getL, e_getLo, e_getLb, e_getLw, e_ownL, e_sl, e_none, e_some, add_int, sub_int, eq_int, ne_int, eq_bool, ne_bool, ne_str, eq_str, lt_int, gt_int, le_int, ge_int, len_list, len_tuple, list_list, int_int, rev_list, ix_t0, ix_t1, ix_t2, ix_l0, ix_l1, ix_l2, List.set_cons_succ, List.set_cons_zero, List.getElem?_cons_succ, List.getElem?_cons_zero, Option.bind_some, Option.some.injEq, exists_eq_left', exists_eq_left, PyData.bool.injEq, PyData.int.injEq, PyData.list.injEq, Sl.own.injEq, List.cons.injEq, and_true, decide_eq_true_eq, Bool.false_eq_true, if_false, if_true, decide_true, decide_false, Bool.not_true, Bool.not_false, j1, j2]
    refine ⟨_, ⟨_, _, ⟨ask_small h m1, ask_small h mx⟩, rfl, rfl⟩, _, rfl, ?_⟩
    have fin : ∀ s1 : Pr, s1 = (stp hs s x).1 → (∃ d, S__law_less [tD (lett hs x), tD (lett hs s.2)] d ∧ ∃ b, d = .bool b ∧
        if b = true then K [.val (tD hs), .val (tD (prs hs.length)), .val (.list ((prs hs.length).map fun p => tD (ask hs p))), .val (.list ((prs hs.length).map fun p => tD (lett hs p))), .val (.int (i : Int)), .val (tD (ask hs s1)), .val (tD (lett hs x)), .no, .no]
        else K [.val (tD hs), .val (tD (prs hs.length)), .val (.list ((prs hs.length).map fun p => tD (ask hs p))), .val (.list ((prs hs.length).map fun p => tD (lett hs p))), .val (.int (i : Int)), .val (tD (ask hs s1)), .val (tD (lett hs s.2)), .no, .no]) := by
      intro s1 es
      refine ⟨_, ⟨_, _, ⟨let_small h mx, let_small h m2⟩, rfl, rfl⟩, _, rfl, ?_⟩
      split
      · rename_i w
        refine hK _ ⟨.val (.int (i : Int)), ?_⟩
        have : (stp hs s x).2 = x := by unfold stp; dsimp only; rw [if_pos w]
        rw [this, es]
      · rename_i w
        refine hK _ ⟨.val (.int (i : Int)), ?_⟩
        have : (stp hs s x).2 = s.2 := by unfold stp; dsimp only; rw [if_neg w]
        rw [this, es]
    split
    · rename_i w
      exact fin x (by unfold stp; dsimp only; rw [if_pos w])
    · rename_i w
      exact fin s.1 (by unfold stp; dsimp only; rw [if_neg w])
  · rintro ρ ⟨a, rfl⟩
    rw [List.take_length]
    obtain ⟨a1, b1, _, _⟩ := shp_ok hl
    simp only [e_seq, e_next, e_break, e_cont, e_drop, e_set, e_setO, e_asg, e_par, e_ifS, e_ret, e_retN, e_retV, e_for, e_setIx, e_meth, e_lend, e_frz, e_var, e_varL, e_c, e_2, e_1, e_tst, e_chain, e_and, e_or, e_not, e_andV, e_orV, e_notV, e_if, e_nil, e_cons, e_lst, e_tup, e_N, e_call, e_callL, e_callS, e_lenS, e_ixS, e_iList, e_iRng1, e_iRng2, e_iEnum, e_iZip, e_name, e_gNil, e_gCons, e_gTup, e_lc, e_listRg1, e_yes, e_wipe0, e_wipe1, e_getV, e_getVo, e_getVb, e_getL, e_getLo, e_getLb, e_getLw, e_ownL, e_sl, e_none, e_some, add_int, sub_int, eq_int, ne_int, eq_bool, ne_bool, ne_str, eq_str, lt_int, gt_int, le_int, ge_int, len_list, len_tuple, list_list, int_int, rev_list, ix_t0, ix_t1, ix_t2, ix_l0, ix_l1, ix_l2, List.set_cons_succ, List.set_cons_zero, List.getElem?_cons_succ, List.getElem?_cons_zero, Option.bind_some, Option.some.injEq, exists_eq_left', exists_eq_left, PyData.bool.injEq, PyData.int.injEq, PyData.list.injEq, Sl.own.injEq, List.cons.injEq, and_true, decide_eq_true_eq, Bool.false_eq_true, if_false, if_true, decide_true, decide_false, Bool.not_true, Bool.not_false]
    refine ⟨_, ⟨_, _, ⟨let_small h b1, ask_small h a1⟩, rfl, rfl⟩, ?_⟩
    have es : slo hs = if bad hs = true then none else some (ask hs (shp hs).1, lett hs (shp hs).2) := by unfold slo; rw [if_neg (by omega)]
    rw [es]
    show ∃ z, oInt [.bool (bad hs)] = some z ∧ _
    cases bad hs with
    | true => exact ⟨.int 1, rfl, _, ix_l1, rfl⟩
    | false => exact ⟨.int 0, rfl, _, ix_l0, rfl⟩
theorem notin_prs (p : Pr) (n : Nat) : oNotIn (tD p) (tD (prs n)) = some (.bool (!decide (okPr n p))) := by
  refine (oNotIn_tD p (prs n)).trans ?_
  by_cases c : okPr n p
  · have m : p ∈ prs n := mem_prs.mpr c
    simp [m, c]
  · have m : ¬ p ∈ prs n := fun q => c (mem_prs.mp q)
    simp [m, c]
def S__law_are_bars : VL.Spec := S_are_bars
theorem keeps__law_are_bars : Keeps (q__law_are_bars S__law_fraction S__law_less S__law_pairs) N__law_are_bars 3 S__law_are_bars := by
  rintro ds d ⟨hs, p, q, h, rfl, rfl⟩
  refine ⟨rfl, ?_⟩
  unfold q__law_are_bars
  change (qSeq _ _) _ [.val (tD hs), .val (tD p), .val (tD q), .no]
  simp only [e_seq, e_next, e_break, e_cont, e_drop, e_set, e_setO, e_asg, e_par, e_ifS, e_ret, e_retN, e_retV, e_for, e_setIx, e_meth, e_lend, e_frz, e_var, e_varL, e_c, e_2, e_1, e_tst, e_chain, e_and, e_or, e_not, e_andV, e_orV, e_notV, e_if, e_nil, e_cons, e_lst, e_tup, e_N, e_call, e_callL, e_callS, e_lenS, e_ixS, e_iList, e_iRng1, e_iRng2, e_iEnum, e_iZip, e_name, e_gNil, e_gCons, e_gTup, e_lc, e_listRg1, e_yes, e_wipe0, e_wipe1, e_getV, e_getVo, e_getVb, e_getL, e_getLo, e_getLb, e_getLw, e_ownL, e_sl, e_none, e_some, add_int, sub_int, eq_int, ne_int, eq_bool, ne_bool, ne_str, eq_str, lt_int, gt_int, le_int, ge_int, len_list, len_tuple, list_list, int_int, rev_list, ix_t0, ix_t1, ix_t2, ix_l0, ix_l1, ix_l2, List.set_cons_succ, List.set_cons_zero, List.getElem?_cons_succ, List.getElem?_cons_zero, Option.bind_some, Option.some.injEq, exists_eq_left', exists_eq_left, PyData.bool.injEq, PyData.int.injEq, PyData.list.injEq, Sl.own.injEq, List.cons.injEq, and_true, decide_eq_true_eq, Bool.false_eq_true, if_false, if_true, decide_true, decide_false, Bool.not_true, Bool.not_false]
  refine ⟨_, ⟨hs, h, rfl, rfl⟩, ?_⟩
  rw [notin_prs]
  by_cases c : okPr hs.length p
  · simp only [e_seq, e_next, e_break, e_cont, e_drop, e_set, e_setO, e_asg, e_par, e_ifS, e_ret, e_retN, e_retV, e_for, e_setIx, e_meth, e_lend, e_frz, e_var, e_varL, e_c, e_2, e_1, e_tst, e_chain, e_and, e_or, e_not, e_andV, e_orV, e_notV, e_if, e_nil, e_cons, e_lst, e_tup, e_N, e_call, e_callL, e_callS, e_lenS, e_ixS, e_iList, e_iRng1, e_iRng2, e_iEnum, e_iZip, e_name, e_gNil, e_gCons, e_gTup, e_lc, e_listRg1, e_yes, e_wipe0, e_wipe1, e_getV, e_getVo, e_getVb, e_getL, e_getLo, e_getLb, e_getLw, e_ownL, e_sl, e_none, e_some, add_int, sub_int, eq_int, ne_int, eq_bool, ne_bool, ne_str, eq_str, lt_int, gt_int, le_int, ge_int, len_list, len_tuple, list_list, int_int, rev_list, ix_t0, ix_t1, ix_t2, ix_l0, ix_l1, ix_l2, List.set_cons_succ, List.set_cons_zero, List.getElem?_cons_succ, List.getElem?_cons_zero, Option.bind_some, Option.some.injEq, exists_eq_left', exists_eq_left, PyData.bool.injEq, PyData.int.injEq, PyData.list.injEq, Sl.own.injEq, List.cons.injEq, and_true, decide_eq_true_eq, Bool.false_eq_true, if_false, if_true, decide_true, decide_false, Bool.not_true, Bool.not_false, c]
    refine ⟨_, ⟨hs, h, rfl, rfl⟩, ?_⟩
    rw [notin_prs]
    by_cases c2 : okPr hs.length q
    · simp only [e_seq, e_next, e_break, e_cont, e_drop, e_set, e_setO, e_asg, e_par, e_ifS, e_ret, e_retN, e_retV, e_for, e_setIx, e_meth, e_lend, e_frz, e_var, e_varL, e_c, e_2, e_1, e_tst, e_chain, e_and, e_or, e_not, e_andV, e_orV, e_notV, e_if, e_nil, e_cons, e_lst, e_tup, e_N, e_call, e_callL, e_callS, e_lenS, e_ixS, e_iList, e_iRng1, e_iRng2, e_iEnum, e_iZip, e_name, e_gNil, e_gCons, e_gTup, e_lc, e_listRg1, e_yes, e_wipe0, e_wipe1, e_getV, e_getVo, e_getVb, e_getL, e_getLo, e_getLb, e_getLw, e_ownL, e_sl, e_none, e_some, add_int, sub_int, eq_int, ne_int, eq_bool, ne_bool, ne_str, eq_str, lt_int, gt_int, le_int, ge_int, len_list, len_tuple, list_list, int_int, rev_list, ix_t0, ix_t1, ix_t2, ix_l0, ix_l1, ix_l2, List.set_cons_succ, List.set_cons_zero, List.getElem?_cons_succ, List.getElem?_cons_zero, Option.bind_some, Option.some.injEq, exists_eq_left', exists_eq_left, PyData.bool.injEq, PyData.int.injEq, PyData.list.injEq, Sl.own.injEq, List.cons.injEq, and_true, decide_eq_true_eq, Bool.false_eq_true, if_false, if_true, decide_true, decide_false, Bool.not_true, Bool.not_false, c2, tD_pr, ix_hs c.2, ix_hs (show p.1 < hs.length by have := c.1; have := c.2; omega), ix_hs c2.2, ix_hs (show q.1 < hs.length by have := c2.1; have := c2.2; omega)]
      refine ⟨_, ⟨_, _, ln_sm h (mem_prs.mpr c), rfl, rfl⟩, _, ⟨_, _, ln_sm h (mem_prs.mpr c2), rfl, rfl⟩, _, ⟨_, _, ⟨let_small h (mem_prs.mpr c2), ask_small h (mem_prs.mpr c)⟩, rfl, rfl⟩, ?_⟩
      unfold abB
      simp [c, c2]
    · simp only [e_seq, e_next, e_break, e_cont, e_drop, e_set, e_setO, e_asg, e_par, e_ifS, e_ret, e_retN, e_retV, e_for, e_setIx, e_meth, e_lend, e_frz, e_var, e_varL, e_c, e_2, e_1, e_tst, e_chain, e_and, e_or, e_not, e_andV, e_orV, e_notV, e_if, e_nil, e_cons, e_lst, e_tup, e_N, e_call, e_callL, e_callS, e_lenS, e_ixS, e_iList, e_iRng1, e_iRng2, e_iEnum, e_iZip, e_name, e_gNil, e_gCons, e_gTup, e_lc, e_listRg1, e_yes, e_wipe0, e_wipe1, e_getV, e_getVo, e_getVb, e_getL, e_getLo, e_getLb, e_getLw, e_ownL, e_sl, e_none, e_some, add_int, sub_int, eq_int, ne_int, eq_bool, ne_bool, ne_str, eq_str, lt_int, gt_int, le_int, ge_int, len_list, len_tuple, list_list, int_int, rev_list, ix_t0, ix_t1, ix_t2, ix_l0, ix_l1, ix_l2, List.set_cons_succ, List.set_cons_zero, List.getElem?_cons_succ, List.getElem?_cons_zero, Option.bind_some, Option.some.injEq, exists_eq_left', exists_eq_left, PyData.bool.injEq, PyData.int.injEq, PyData.list.injEq, Sl.own.injEq, List.cons.injEq, and_true, decide_eq_true_eq, Bool.false_eq_true, if_false, if_true, decide_true, decide_false, Bool.not_true, Bool.not_false, c2]
      unfold abB
      simp [c, c2]
  · simp only [e_seq, e_next, e_break, e_cont, e_drop, e_set, e_setO, e_asg, e_par, e_ifS, e_ret, e_retN, e_retV, e_for, e_setIx, e_meth, e_lend, e_frz, e_var, e_varL, e_c, e_2, e_1, e_tst, e_chain, e_and, e_or, e_not, e_andV, e_orV, e_notV, e_if, e_nil, e_cons, e_lst, e_tup, e_N, e_call, e_callL, e_callS, e_lenS, e_ixS, e_iList, e_iRng1, e_iRng2, e_iEnum, e_iZip, e_name, e_gNil, e_gCons, e_gTup, e_lc, e_listRg1, e_yes, e_wipe0, e_wipe1, e_getV, e_getVo, e_getVb, e_getL, e_getLo, e_getLb, e_getLw, e_ownL, e_sl, e_none, e_some, add_int, sub_int, eq_int, ne_int, eq_bool, ne_bool, ne_str, eq_str, lt_int, gt_int, le_int, ge_int, len_list, len_tuple, list_list, int_int, rev_list, ix_t0, ix_t1, ix_t2, ix_l0, ix_l1, ix_l2, List.set_cons_succ, List.set_cons_zero, List.getElem?_cons_succ, List.getElem?_cons_zero, Option.bind_some, Option.some.injEq, exists_eq_left', exists_eq_left, PyData.bool.injEq, PyData.int.injEq, PyData.list.injEq, Sl.own.injEq, List.cons.injEq, and_true, decide_eq_true_eq, Bool.false_eq_true, if_false, if_true, decide_true, decide_false, Bool.not_true, Bool.not_false, c]
    unfold abB
    simp [c]
def S__law_ties : VL.Spec := S_ties
theorem keeps__law_ties : Keeps q__law_ties N__law_ties 2 S__law_ties := by
  rintro ds d ⟨a, b, ha, hb, rfl, rfl⟩
  refine ⟨rfl, ?_⟩
  have bg := big
  obtain ⟨x1, y1, f1⟩ := okp_d ha hb
  obtain ⟨l0, l1⟩ := lss_sm ha hb
  have f0 := far_nn a b
  unfold q__law_ties
  change (qSeq _ _) _ [.val (tD a), .val (tD b), .no, .no, .no, .no]
  have ex : b.1 - a.1 = dx a b := rfl
  have ey : b.2 - a.2 = dy a b := rfl
  have ef : (if ab (dx a b) < ab (dy a b) then ab (dy a b) else ab (dx a b)) = far a b := rfl
  have el : (if ab (dy a b) < ab (dx a b) then ab (dy a b) else ab (dx a b)) = lss a b := rfl
  have en : (far a b + 1).toNat = farN a b + 1 := by unfold farN; omega
  have fl : (rangeD 0 (farN a b + 1)).length ≤ sizeLine := by simp [rangeD]; unfold farN; omega
  simp only [e_seq, e_next, e_break, e_cont, e_drop, e_set, e_setO, e_asg, e_par, e_ifS, e_ret, e_retN, e_retV, e_for, e_setIx, e_meth, e_lend, e_frz, e_var, e_varL, e_c, e_2, e_1, e_tst, e_chain, e_and, e_or, e_not, e_andV, e_orV, e_notV, e_if, e_nil, e_cons, e_lst, e_tup, e_N, e_call, e_callL, e_callS, e_lenS, e_ixS, e_iList, e_iRng1, e_iRng2, e_iEnum, e_iZip, e_name, e_gNil, e_gCons, e_gTup, e_lc, e_listRg1, e_yes, e_wipe0, e_wipe1, e_getV, e_getVo, e_getVb, e_getL, e_getLo, e_getLb, e_getLw, e_ownL, e_sl, e_none, e_some, add_int, sub_int, eq_int, ne_int, eq_bool, ne_bool, ne_str, eq_str, lt_int, gt_int, le_int, ge_int, len_list, len_tuple, list_list, int_int, rev_list, ix_t0, ix_t1, ix_t2, ix_l0, ix_l1, ix_l2, List.set_cons_succ, List.set_cons_zero, List.getElem?_cons_succ, List.getElem?_cons_zero, Option.bind_some, Option.some.injEq, exists_eq_left', exists_eq_left, PyData.bool.injEq, PyData.int.injEq, PyData.list.injEq, Sl.own.injEq, List.cons.injEq, and_true, decide_eq_true_eq, Bool.false_eq_true, if_false, if_true, decide_true, decide_false, Bool.not_true, Bool.not_false, tD_pt, ex, ey, abs_int, max_int, min_int, ef, el, en]
  refine ⟨⟨by omega, by omega⟩, fl, ?_⟩
  rw [rangeD0]
  refine lcRun_filter (fun t : Nat => tD t) (fun t => decide (0 < far a b) && decide ((2 * (t : Int) * lss a b) % (2 * far a b) = far a b)) _ (fun t ht P hP => ?_) ?_
  · have htl : t ≤ farN a b := by have := List.mem_range.mp ht; omega
    have e1 : ∀ k : Nat, oMul (.int 2) (.int (k : Int)) = some (.int (2 * (k : Int))) := fun k => mul_sm (.inl (by unfold small; omega))
    have e2 : oMul (.int (2 * (t : Int))) (.int (lss a b)) = some (.int (2 * (t : Int) * lss a b)) := mul_sm (.inr (by unfold small; omega))
    have e3 : ∀ k : Nat, oMul (.int (2 * (k : Int))) (.int (far a b)) = some (.int (2 * (k : Int) * far a b)) := fun k => mul_sm (.inr (by unfold small; omega))
    refine ⟨⟨by omega, by omega⟩, by rw [← rangeD0]; exact fl, ?_⟩
    refine lcRun_filter (fun s : Nat => tD s) (fun s => decide (ab (2 * (s : Int) * far a b - 2 * (t : Int) * lss a b) = far a b) && decide (0 < far a b)) _ (fun s hs P2 hP2 => ?_) ?_
    · simp only [e_seq, e_next, e_break, e_cont, e_drop, e_set, e_setO, e_asg, e_par, e_ifS, e_ret, e_retN, e_retV, e_for, e_setIx, e_meth, e_lend, e_frz, e_var, e_varL, e_c, e_2, e_1, e_tst, e_chain, e_and, e_or, e_not, e_andV, e_orV, e_notV, e_if, e_nil, e_cons, e_lst, e_tup, e_N, e_call, e_callL, e_callS, e_lenS, e_ixS, e_iList, e_iRng1, e_iRng2, e_iEnum, e_iZip, e_name, e_gNil, e_gCons, e_gTup, e_lc, e_listRg1, e_yes, e_wipe0, e_wipe1, e_getV, e_getVo, e_getVb, e_getL, e_getLo, e_getLb, e_getLw, e_ownL, e_sl, e_none, e_some, add_int, sub_int, eq_int, ne_int, eq_bool, ne_bool, ne_str, eq_str, lt_int, gt_int, le_int, ge_int, len_list, len_tuple, list_list, int_int, rev_list, ix_t0, ix_t1, ix_t2, ix_l0, ix_l1, ix_l2, List.set_cons_succ, List.set_cons_zero, List.getElem?_cons_succ, List.getElem?_cons_zero, Option.bind_some, Option.some.injEq, exists_eq_left', exists_eq_left, PyData.bool.injEq, PyData.int.injEq, PyData.list.injEq, Sl.own.injEq, List.cons.injEq, and_true, decide_eq_true_eq, Bool.false_eq_true, if_false, if_true, decide_true, decide_false, Bool.not_true, Bool.not_false, e1, e2, e3, abs_int]
      by_cases z : ab (2 * (s : Int) * far a b - 2 * (t : Int) * lss a b) = far a b
      · by_cases w : 0 < far a b
        · simp only [e_seq, e_next, e_break, e_cont, e_drop, e_set, e_setO, e_asg, e_par, e_ifS, e_ret, e_retN, e_retV, e_for, e_setIx, e_meth, e_lend, e_frz, e_var, e_varL, e_c, e_2, e_1, e_tst, e_chain, e_and, e_or, e_not, e_andV, e_orV, e_notV, e_if, e_nil, e_cons, e_lst, e_tup, e_N, e_call, e_callL, e_callS, e_lenS, e_ixS, e_iList, e_iRng1, e_iRng2, e_iEnum, e_iZip, e_name, e_gNil, e_gCons, e_gTup, e_lc, e_listRg1, e_yes, e_wipe0, e_wipe1, e_getV, e_getVo, e_getVb, e_getL, e_getLo, e_getLb, e_getLw, e_ownL, e_sl, e_none, e_some, add_int, sub_int, eq_int, ne_int, eq_bool, ne_bool, ne_str, eq_str, lt_int, gt_int, le_int, ge_int, len_list, len_tuple, list_list, int_int, rev_list, ix_t0, ix_t1, ix_t2, ix_l0, ix_l1, ix_l2, List.set_cons_succ, List.set_cons_zero, List.getElem?_cons_succ, List.getElem?_cons_zero, Option.bind_some, Option.some.injEq, exists_eq_left', exists_eq_left, PyData.bool.injEq, PyData.int.injEq, PyData.list.injEq, Sl.own.injEq, List.cons.injEq, and_true, decide_eq_true_eq, Bool.false_eq_true, if_false, if_true, decide_true, decide_false, Bool.not_true, Bool.not_false, z, w, Bool.and_self] at hP2 ⊢; exact hP2
        · simp only [e_seq, e_next, e_break, e_cont, e_drop, e_set, e_setO, e_asg, e_par, e_ifS, e_ret, e_retN, e_retV, e_for, e_setIx, e_meth, e_lend, e_frz, e_var, e_varL, e_c, e_2, e_1, e_tst, e_chain, e_and, e_or, e_not, e_andV, e_orV, e_notV, e_if, e_nil, e_cons, e_lst, e_tup, e_N, e_call, e_callL, e_callS, e_lenS, e_ixS, e_iList, e_iRng1, e_iRng2, e_iEnum, e_iZip, e_name, e_gNil, e_gCons, e_gTup, e_lc, e_listRg1, e_yes, e_wipe0, e_wipe1, e_getV, e_getVo, e_getVb, e_getL, e_getLo, e_getLb, e_getLw, e_ownL, e_sl, e_none, e_some, add_int, sub_int, eq_int, ne_int, eq_bool, ne_bool, ne_str, eq_str, lt_int, gt_int, le_int, ge_int, len_list, len_tuple, list_list, int_int, rev_list, ix_t0, ix_t1, ix_t2, ix_l0, ix_l1, ix_l2, List.set_cons_succ, List.set_cons_zero, List.getElem?_cons_succ, List.getElem?_cons_zero, Option.bind_some, Option.some.injEq, exists_eq_left', exists_eq_left, PyData.bool.injEq, PyData.int.injEq, PyData.list.injEq, Sl.own.injEq, List.cons.injEq, and_true, decide_eq_true_eq, Bool.false_eq_true, if_false, if_true, decide_true, decide_false, Bool.not_true, Bool.not_false, z, w, Bool.and_false] at hP2 ⊢; exact hP2
      · simp only [e_seq, e_next, e_break, e_cont, e_drop, e_set, e_setO, e_asg, e_par, e_ifS, e_ret, e_retN, e_retV, e_for, e_setIx, e_meth, e_lend, e_frz, e_var, e_varL, e_c, e_2, e_1, e_tst, e_chain, e_and, e_or, e_not, e_andV, e_orV, e_notV, e_if, e_nil, e_cons, e_lst, e_tup, e_N, e_call, e_callL, e_callS, e_lenS, e_ixS, e_iList, e_iRng1, e_iRng2, e_iEnum, e_iZip, e_name, e_gNil, e_gCons, e_gTup, e_lc, e_listRg1, e_yes, e_wipe0, e_wipe1, e_getV, e_getVo, e_getVb, e_getL, e_getLo, e_getLb, e_getLw, e_ownL, e_sl, e_none, e_some, add_int, sub_int, eq_int, ne_int, eq_bool, ne_bool, ne_str, eq_str, lt_int, gt_int, le_int, ge_int, len_list, len_tuple, list_list, int_int, rev_list, ix_t0, ix_t1, ix_t2, ix_l0, ix_l1, ix_l2, List.set_cons_succ, List.set_cons_zero, List.getElem?_cons_succ, List.getElem?_cons_zero, Option.bind_some, Option.some.injEq, exists_eq_left', exists_eq_left, PyData.bool.injEq, PyData.int.injEq, PyData.list.injEq, Sl.own.injEq, List.cons.injEq, and_true, decide_eq_true_eq, Bool.false_eq_true, if_false, if_true, decide_true, decide_false, Bool.not_true, Bool.not_false, z, Bool.false_and] at hP2 ⊢; exact hP2
    · rw [List.nil_append]
      have key := tie_steps (t := t) (n := farN a b) (farN_eq a b) htl l0 l1
      generalize hL : (List.range (farN a b + 1)).filter (fun s : Nat => decide (ab (2 * (s : Int) * far a b - 2 * (t : Int) * lss a b) = far a b) && decide (0 < far a b)) = L
      have e5 : oNe (.list (L.map tD)) (.list []) = some (.bool (!decide (L = []))) := ne_tD (α := List Nat) L []
      have e6 : (!decide (L = [])) = (decide (0 < far a b) && decide ((2 * (t : Int) * lss a b) % (2 * far a b) = far a b)) := by
        rw [Bool.eq_iff_iff, Bool.and_eq_true, decide_eq_true_eq, decide_eq_true_eq, ← key, Bool.not_eq_true', decide_eq_false_iff_not, ← hL, List.filter_eq_nil_iff]
        constructor
        · intro q
          rcases Classical.not_forall.mp q with ⟨s, q⟩
          rcases Classical.not_imp.mp q with ⟨q1, q2⟩
          have q3 := Classical.not_not.mp q2
          rw [Bool.and_eq_true, decide_eq_true_eq, decide_eq_true_eq] at q3
          exact ⟨s, List.mem_range.mp q1, q3⟩
        · rintro ⟨s, q1, q2⟩ q
          refine q s (List.mem_range.mpr q1) ?_
          rw [Bool.and_eq_true, decide_eq_true_eq, decide_eq_true_eq]
          exact q2
      have e7 : oNe (.list (L.map fun s => tD s)) (.list []) = _ := e5
      rw [e6] at e7
      simp only [e_seq, e_next, e_break, e_cont, e_drop, e_set, e_setO, e_asg, e_par, e_ifS, e_ret, e_retN, e_retV, e_for, e_setIx, e_meth, e_lend, e_frz, e_var, e_varL, e_c, e_2, e_1, e_tst, e_chain, e_and, e_or, e_not, e_andV, e_orV, e_notV, e_if, e_nil, e_cons, e_lst, e_tup, e_N, e_call, e_callL, e_callS, e_lenS, e_ixS, e_iList, e_iRng1, e_iRng2, e_iEnum, e_iZip, e_name, e_gNil, e_gCons, e_gTup, e_lc, e_listRg1, e_yes, e_wipe0, e_wipe1, e_getV, e_getVo, e_getVb, e_getL, e_getLo, e_getLb, e_getLw, e_ownL, e_sl, e_none, e_some, add_int, sub_int, eq_int, ne_int, eq_bool, ne_bool, ne_str, eq_str, lt_int, gt_int, le_int, ge_int, len_list, len_tuple, list_list, int_int, rev_list, ix_t0, ix_t1, ix_t2, ix_l0, ix_l1, ix_l2, List.set_cons_succ, List.set_cons_zero, List.getElem?_cons_succ, List.getElem?_cons_zero, Option.bind_some, Option.some.injEq, exists_eq_left', exists_eq_left, PyData.bool.injEq, PyData.int.injEq, PyData.list.injEq, Sl.own.injEq, List.cons.injEq, and_true, decide_eq_true_eq, Bool.false_eq_true, if_false, if_true, decide_true, decide_false, Bool.not_true, Bool.not_false, e7]
      generalize (decide (0 < far a b) && decide ((2 * (t : Int) * lss a b) % (2 * far a b) = far a b)) = v at hP ⊢
      cases v <;> simp only [e_seq, e_next, e_break, e_cont, e_drop, e_set, e_setO, e_asg, e_par, e_ifS, e_ret, e_retN, e_retV, e_for, e_setIx, e_meth, e_lend, e_frz, e_var, e_varL, e_c, e_2, e_1, e_tst, e_chain, e_and, e_or, e_not, e_andV, e_orV, e_notV, e_if, e_nil, e_cons, e_lst, e_tup, e_N, e_call, e_callL, e_callS, e_lenS, e_ixS, e_iList, e_iRng1, e_iRng2, e_iEnum, e_iZip, e_name, e_gNil, e_gCons, e_gTup, e_lc, e_listRg1, e_yes, e_wipe0, e_wipe1, e_getV, e_getVo, e_getVb, e_getL, e_getLo, e_getLb, e_getLw, e_ownL, e_sl, e_none, e_some, add_int, sub_int, eq_int, ne_int, eq_bool, ne_bool, ne_str, eq_str, lt_int, gt_int, le_int, ge_int, len_list, len_tuple, list_list, int_int, rev_list, ix_t0, ix_t1, ix_t2, ix_l0, ix_l1, ix_l2, List.set_cons_succ, List.set_cons_zero, List.getElem?_cons_succ, List.getElem?_cons_zero, Option.bind_some, Option.some.injEq, exists_eq_left', exists_eq_left, PyData.bool.injEq, PyData.int.injEq, PyData.list.injEq, Sl.own.injEq, List.cons.injEq, and_true, decide_eq_true_eq, Bool.false_eq_true, if_false, if_true, decide_true, decide_false, Bool.not_true, Bool.not_false] at hP ⊢ <;> exact hP
  · rfl
end P49
namespace P49
open PySem VL L2
open PySem.W (Datum DatumOrd)
def q_near : QS := (qSeq (qSet 12 (qN oAbs (qCons (q2 oSub (q2 oMul (q2 oMul (qC (.int 2)) (qVar 11)) (qVar 2)) (q2 oMul (q2 oMul (qC (.int 2)) (qVar 4)) (qN oAbs (qCons (qVar 9) qNil)))) qNil)))
    (qIfS (qOr (qTst (q2 oIs (qVar 10) (qC .none))) (qTst (q2 oLe (qVar 12) (q2 oIx (qVar 10) (qC (.int 0)))))) (qSet 10 (qTup (qCons (qVar 12) (qCons (qVar 11) qNil))))
    qNext))
def mAt (r i : Int) : Int := if i - 1 < r then i - 1 else r
def bestD (t : Nat) (f c r : Int) (i : Nat) : D := if i = 0 then .none else .tuple [.int (off t f c (mAt r i)), .int (mAt r i)]
theorem near_ok {f ch : Int} {t n : Nat} {s0 s1 s3 s5 s6 s7 s8 s11 s12 : Sl} {Dv : VEnds} (hf : 0 < f ∧ f ≤ 1000) (hn : (n : Int) = f) (ht : t ≤ n) (hc : ab ch ≤ f)
    (hK : ∀ s11 s12, Dv.nx [s0, s1, .val (.int f), s3, .val (.int (t : Int)), s5, s6, s7, s8, .val (.int ch), .val (.tuple [.int (off t f (ab ch) (rnd t f (ab ch))), .int (rnd t f (ab ch))]), s11, s12]) :
    forRun (qName 11) q_near (rangeD 0 (n + 1)) Dv [s0, s1, .val (.int f), s3, .val (.int (t : Int)), s5, s6, s7, s8, .val (.int ch), .val .none, s11, s12] := by
  obtain ⟨r0, r1⟩ := rnd_range (t := t) hf.1 (ab_nn ch) hc
  refine forRun_rng (fun i ρ => ∃ a b, ρ = [s0, s1, .val (.int f), s3, .val (.int (t : Int)), s5, s6, s7, s8, .val (.int ch), .val (bestD t f (ab ch) (rnd t f (ab ch)) i), a, b]) (n + 1) ⟨s11, s12, rfl⟩ ?_ ?_
  · rintro i ρ hi ⟨a, b, rfl⟩ K hK2
    have e1 : ∀ k : Nat, oMul (.int 2) (.int (k : Int)) = some (.int (2 * (k : Int))) := fun k => mul_sm (.inl (by unfold small; omega))
    have e2 : oMul (.int (2 * (i : Int))) (.int f) = some (.int (2 * (i : Int) * f)) := mul_sm (.inr (by unfold small; omega))
    have e3 : oMul (.int (2 * (t : Int))) (.int (ab ch)) = some (.int (2 * (t : Int) * ab ch)) := mul_sm (.inr (by unfold small; have := ab_nn ch; omega))
    have eo : ab (2 * (i : Int) * f - 2 * (t : Int) * ab ch) = off t f (ab ch) i := rfl
    unfold q_near
    simp only [e_seq, e_next, e_break, e_cont, e_drop, e_set, e_setO, e_asg, e_par, e_ifS, e_ret, e_retN, e_retV, e_for, e_setIx, e_meth, e_lend, e_frz, e_var, e_varL, e_c, e_2, e_1, e_tst, e_chain, e_and, e_or, e_not, e_andV, e_orV, e_notV, e_if, e_nil, e_cons, e_lst, e_tup, e_N, e_call, e_callL, e_callS, e_lenS, e_ixS, e_iList, e_iRng1, e_iRng2, e_iEnum, e_iZip, e_name, e_gNil, e_gCons, e_gTup, e_lc, e_listRg1, e_yes, e_wipe0, e_wipe1, e_getV, e_getVo, e_getVb, e_getL, e_getLo, e_getLb, e_getLw, e_ownL, e_sl, e_none, e_some, add_int, sub_int, eq_int, ne_int, eq_bool, ne_bool, ne_str, eq_str, lt_int, gt_int, le_int, ge_int, len_list, len_tuple, list_list, int_int, rev_list, ix_t0, ix_t1, ix_t2, ix_l0, ix_l1, ix_l2, List.set_cons_succ, List.set_cons_zero, List.getElem?_cons_succ, List.getElem?_cons_zero, Option.bind_some, Option.some.injEq, exists_eq_left', exists_eq_left, PyData.bool.injEq, PyData.int.injEq, PyData.list.injEq, Sl.own.injEq, List.cons.injEq, and_true, decide_eq_true_eq, Bool.false_eq_true, if_false, if_true, decide_true, decide_false, Bool.not_true, Bool.not_false, e1, e2, e3, abs_int, eo]
    generalize hr : rnd t f (ab ch) = r at *
    by_cases z : i = 0
    · subst z
      have en : bestD t f (ab ch) r 0 = .none := rfl
      have ei : oIs (PyData.none) .none = some (.bool true) := rfl
      rw [en]
      simp only [e_seq, e_next, e_break, e_cont, e_drop, e_set, e_setO, e_asg, e_par, e_ifS, e_ret, e_retN, e_retV, e_for, e_setIx, e_meth, e_lend, e_frz, e_var, e_varL, e_c, e_2, e_1, e_tst, e_chain, e_and, e_or, e_not, e_andV, e_orV, e_notV, e_if, e_nil, e_cons, e_lst, e_tup, e_N, e_call, e_callL, e_callS, e_lenS, e_ixS, e_iList, e_iRng1, e_iRng2, e_iEnum, e_iZip, e_name, e_gNil, e_gCons, e_gTup, e_lc, e_listRg1, e_yes, e_wipe0, e_wipe1, e_getV, e_getVo, e_getVb, e_getL, e_getLo, e_getLb, e_getLw, e_ownL, e_sl, e_none, e_some, add_int, sub_int, eq_int, ne_int, eq_bool, ne_bool, ne_str, eq_str, lt_int, gt_int, le_int, ge_int, len_list, len_tuple, list_list, int_int, rev_list, ix_t0, ix_t1, ix_t2, ix_l0, ix_l1, ix_l2, List.set_cons_succ, List.set_cons_zero, List.getElem?_cons_succ, List.getElem?_cons_zero, Option.bind_some, Option.some.injEq, exists_eq_left', exists_eq_left, PyData.bool.injEq, PyData.int.injEq, PyData.list.injEq, Sl.own.injEq, List.cons.injEq, and_true, decide_eq_true_eq, Bool.false_eq_true, if_false, if_true, decide_true, decide_false, Bool.not_true, Bool.not_false, ei]
      refine hK2 _ ⟨.val (.int ((0 : Nat) : Int)), .val (.int (off t f (ab ch) ((0 : Nat) : Int))), ?_⟩
      have em : mAt r ((0 + 1 : Nat) : Int) = ((0 : Nat) : Int) := by unfold mAt; split <;> omega
      have eb : bestD t f (ab ch) r (0 + 1) = .tuple [.int (off t f (ab ch) ((0 : Nat) : Int)), .int ((0 : Nat) : Int)] := by
        unfold bestD
        rw [if_neg (by omega), em]
      rw [eb]
    · have en : bestD t f (ab ch) r i = .tuple [.int (off t f (ab ch) (mAt r i)), .int (mAt r i)] := by unfold bestD; rw [if_neg z]
      have ei : oIs (PyData.tuple [.int (off t f (ab ch) (mAt r i)), .int (mAt r i)]) .none = some (.bool false) := rfl
      rw [en]
      simp only [e_seq, e_next, e_break, e_cont, e_drop, e_set, e_setO, e_asg, e_par, e_ifS, e_ret, e_retN, e_retV, e_for, e_setIx, e_meth, e_lend, e_frz, e_var, e_varL, e_c, e_2, e_1, e_tst, e_chain, e_and, e_or, e_not, e_andV, e_orV, e_notV, e_if, e_nil, e_cons, e_lst, e_tup, e_N, e_call, e_callL, e_callS, e_lenS, e_ixS, e_iList, e_iRng1, e_iRng2, e_iEnum, e_iZip, e_name, e_gNil, e_gCons, e_gTup, e_lc, e_listRg1, e_yes, e_wipe0, e_wipe1, e_getV, e_getVo, e_getVb, e_getL, e_getLo, e_getLb, e_getLw, e_ownL, e_sl, e_none, e_some, add_int, sub_int, eq_int, ne_int, eq_bool, ne_bool, ne_str, eq_str, lt_int, gt_int, le_int, ge_int, len_list, len_tuple, list_list, int_int, rev_list, ix_t0, ix_t1, ix_t2, ix_l0, ix_l1, ix_l2, List.set_cons_succ, List.set_cons_zero, List.getElem?_cons_succ, List.getElem?_cons_zero, Option.bind_some, Option.some.injEq, exists_eq_left', exists_eq_left, PyData.bool.injEq, PyData.int.injEq, PyData.list.injEq, Sl.own.injEq, List.cons.injEq, and_true, decide_eq_true_eq, Bool.false_eq_true, if_false, if_true, decide_true, decide_false, Bool.not_true, Bool.not_false, ei]
      have key := off_le (t := t) (c := ab ch) (i := (i : Int)) hf.1
      rw [hr] at key
      by_cases w : off t f (ab ch) i ≤ off t f (ab ch) (mAt r i)
      · have w2 := key.mp w
        simp only [e_seq, e_next, e_break, e_cont, e_drop, e_set, e_setO, e_asg, e_par, e_ifS, e_ret, e_retN, e_retV, e_for, e_setIx, e_meth, e_lend, e_frz, e_var, e_varL, e_c, e_2, e_1, e_tst, e_chain, e_and, e_or, e_not, e_andV, e_orV, e_notV, e_if, e_nil, e_cons, e_lst, e_tup, e_N, e_call, e_callL, e_callS, e_lenS, e_ixS, e_iList, e_iRng1, e_iRng2, e_iEnum, e_iZip, e_name, e_gNil, e_gCons, e_gTup, e_lc, e_listRg1, e_yes, e_wipe0, e_wipe1, e_getV, e_getVo, e_getVb, e_getL, e_getLo, e_getLb, e_getLw, e_ownL, e_sl, e_none, e_some, add_int, sub_int, eq_int, ne_int, eq_bool, ne_bool, ne_str, eq_str, lt_int, gt_int, le_int, ge_int, len_list, len_tuple, list_list, int_int, rev_list, ix_t0, ix_t1, ix_t2, ix_l0, ix_l1, ix_l2, List.set_cons_succ, List.set_cons_zero, List.getElem?_cons_succ, List.getElem?_cons_zero, Option.bind_some, Option.some.injEq, exists_eq_left', exists_eq_left, PyData.bool.injEq, PyData.int.injEq, PyData.list.injEq, Sl.own.injEq, List.cons.injEq, and_true, decide_eq_true_eq, Bool.false_eq_true, if_false, if_true, decide_true, decide_false, Bool.not_true, Bool.not_false, w]
        refine hK2 _ ⟨.val (.int (i : Int)), .val (.int (off t f (ab ch) (i : Int))), ?_⟩
        have em : mAt r ((i + 1 : Nat) : Int) = (i : Int) := by unfold mAt; split <;> omega
        have eb : bestD t f (ab ch) r (i + 1) = .tuple [.int (off t f (ab ch) (i : Int)), .int (i : Int)] := by
          unfold bestD
          rw [if_neg (by omega), em]
        rw [eb]
      · have w2 : ¬ (i : Int) ≤ r := fun q => w (key.mpr q)
        simp only [e_seq, e_next, e_break, e_cont, e_drop, e_set, e_setO, e_asg, e_par, e_ifS, e_ret, e_retN, e_retV, e_for, e_setIx, e_meth, e_lend, e_frz, e_var, e_varL, e_c, e_2, e_1, e_tst, e_chain, e_and, e_or, e_not, e_andV, e_orV, e_notV, e_if, e_nil, e_cons, e_lst, e_tup, e_N, e_call, e_callL, e_callS, e_lenS, e_ixS, e_iList, e_iRng1, e_iRng2, e_iEnum, e_iZip, e_name, e_gNil, e_gCons, e_gTup, e_lc, e_listRg1, e_yes, e_wipe0, e_wipe1, e_getV, e_getVo, e_getVb, e_getL, e_getLo, e_getLb, e_getLw, e_ownL, e_sl, e_none, e_some, add_int, sub_int, eq_int, ne_int, eq_bool, ne_bool, ne_str, eq_str, lt_int, gt_int, le_int, ge_int, len_list, len_tuple, list_list, int_int, rev_list, ix_t0, ix_t1, ix_t2, ix_l0, ix_l1, ix_l2, List.set_cons_succ, List.set_cons_zero, List.getElem?_cons_succ, List.getElem?_cons_zero, Option.bind_some, Option.some.injEq, exists_eq_left', exists_eq_left, PyData.bool.injEq, PyData.int.injEq, PyData.list.injEq, Sl.own.injEq, List.cons.injEq, and_true, decide_eq_true_eq, Bool.false_eq_true, if_false, if_true, decide_true, decide_false, Bool.not_true, Bool.not_false, w]
        refine hK2 _ ⟨.val (.int (i : Int)), .val (.int (off t f (ab ch) (i : Int))), ?_⟩
        have em : mAt r ((i + 1 : Nat) : Int) = mAt r (i : Int) := by unfold mAt; split <;> split <;> omega
        have eb : bestD t f (ab ch) r (i + 1) = .tuple [.int (off t f (ab ch) (mAt r i)), .int (mAt r i)] := by
          unfold bestD
          rw [if_neg (by omega), em]
        rw [eb]
  · rintro ρ ⟨a, b, rfl⟩
    have em : mAt (rnd t f (ab ch)) ((n + 1 : Nat) : Int) = rnd t f (ab ch) := by unfold mAt; split <;> omega
    have eb : bestD t f (ab ch) (rnd t f (ab ch)) (n + 1) = .tuple [.int (off t f (ab ch) (rnd t f (ab ch))), .int (rnd t f (ab ch))] := by
      unfold bestD
      rw [if_neg (by omega), em]
    rw [eb]
    exact hK _ _
def q_k : QS := (qSeq (qSet 9 (q2 oIx (qLst (qCons (qVar 5) (qCons (qVar 6) qNil))) (qVar 8)))
   (qSeq (qSet 10 (qC .none))
   (qSeq (qFor (qIRng1 (qCons (q2 oAdd (qVar 2) (qC (.int 1))) qNil)) (qName 11) q_near)
   (qMeth 7 fAppend (qCons (q2 oAdd (q2 oIx (qLst (qCons (q2 oIx (qVar 0) (qC (.int 0))) (qCons (q2 oIx (qVar 0) (qC (.int 1))) qNil))) (qVar 8)) (q2 oMul (q2 oIx (qVar 10) (qC (.int 1))) (q2 oSub (qC (.int 1)) (q2 oMul (qC (.int 2)) (qN oInt (qCons (q2 oLt (qVar 9) (qC (.int 0))) qNil)))))) qNil)))))
theorem sg_form {ch r : Int} (h : ch = 0 → r = 0) : r * (1 - 2 * (if ch < 0 then 1 else 0)) = r * sg ch := by
  unfold sg
  by_cases a : 0 < ch
  · have b : ¬ ch < 0 := by omega
    simp [a, b]
  · by_cases b : ch < 0
    · simp [a, b]
    · have : ch = 0 := by omega
      simp [h this]
/-- one of the two coordinates -/
theorem k_ok {a b : Pt} {k t : Nat} {cs : List Int} {s1 s3 s9 s10 s11 s12 : Sl} {Dv : VEnds} (ha : OkP a) (hb : OkP b) (h0 : 0 < far a b) (ht : t ≤ farN a b) (hk : k < 2) (hl : cs.length ≤ 10)
    (hK : ∀ s9 s10 s11 s12, Dv.nx [.val (tD a), s1, .val (.int (far a b)), s3, .val (.int (t : Int)), .val (.int (dx a b)), .val (.int (dy a b)), .own (.list ((cs ++ [if k = 0 then (cellAt a b t).1 else (cellAt a b t).2]).map .int)), .val (.int (k : Int)), s9, s10, s11, s12]) :
    q_k Dv [.val (tD a), s1, .val (.int (far a b)), s3, .val (.int (t : Int)), .val (.int (dx a b)), .val (.int (dy a b)), .own (.list (cs.map .int)), .val (.int (k : Int)), s9, s10, s11, s12] := by
  have bg := big
  obtain ⟨x1, y1, f1⟩ := okp_d ha hb
  have g := far_ge a b
  have en : (far a b + 1).toNat = farN a b + 1 := by unfold farN; omega
  obtain ⟨ch, hch, hco, ech, eco⟩ : ∃ ch : Int, ab ch ≤ far a b ∧ (∃ y : Int, (if k = 0 then (cellAt a b t).1 else (cellAt a b t).2) = y + rnd t (far a b) (ab ch) * sg ch ∧ oIx (.list [.int a.1, .int a.2]) (.int (k : Int)) = some (.int y)) ∧ oIx (.list [.int (dx a b), .int (dy a b)]) (.int (k : Int)) = some (.int ch) ∧ (ch = 0 → rnd t (far a b) (ab ch) = 0) := by
    have z : ∀ ch : Int, ch = 0 → rnd t (far a b) (ab ch) = 0 := fun ch q => by rw [q]; exact rnd_zero h0
    have : k = 0 ∨ k = 1 := by omega
    rcases this with rfl | rfl
    · exact ⟨dx a b, g.1, ⟨a.1, rfl, ix_nat rfl⟩, ix_nat rfl, z _⟩
    · exact ⟨dy a b, g.2, ⟨a.2, rfl, ix_nat rfl⟩, ix_nat rfl, z _⟩
  obtain ⟨y, ey, ex⟩ := hco
  rw [ey] at hK
  unfold q_k
  simp only [e_seq, e_next, e_break, e_cont, e_drop, e_set, e_setO, e_asg, e_par, e_ifS, e_ret, e_retN, e_retV, e_for, e_setIx, e_meth, e_lend, e_frz, e_var, e_varL, e_c, e_2, e_1, e_tst, e_chain, e_and, e_or, e_not, e_andV, e_orV, e_notV, e_if, e_nil, e_cons, e_lst, e_tup, e_N, e_call, e_callL, e_callS, e_lenS, e_ixS, e_iList, e_iRng1, e_iRng2, e_iEnum, e_iZip, e_name, e_gNil, e_gCons, e_gTup, e_lc, e_listRg1, e_yes, e_wipe0, e_wipe1, e_getV, e_getVo, e_getVb, e_getL, e_getLo, e_getLb, e_getLw, e_ownL, e_sl, e_none, e_some, add_int, sub_int, eq_int, ne_int, eq_bool, ne_bool, ne_str, eq_str, lt_int, gt_int, le_int, ge_int, len_list, len_tuple, list_list, int_int, rev_list, ix_t0, ix_t1, ix_t2, ix_l0, ix_l1, ix_l2, List.set_cons_succ, List.set_cons_zero, List.getElem?_cons_succ, List.getElem?_cons_zero, Option.bind_some, Option.some.injEq, exists_eq_left', exists_eq_left, PyData.bool.injEq, PyData.int.injEq, PyData.list.injEq, Sl.own.injEq, List.cons.injEq, and_true, decide_eq_true_eq, Bool.false_eq_true, if_false, if_true, decide_true, decide_false, Bool.not_true, Bool.not_false, ech, en]
  refine ⟨⟨by omega, by omega⟩, ?_⟩
  refine near_ok ⟨h0, by omega⟩ (farN_eq a b) ht hch fun s11 s12 => ?_
  have r := rnd_range (t := t) h0 (ab_nn ch) hch
  have htf := farN_eq a b
  have e4 : ∀ q : Int, oMul (.int 2) (.int q) = some (.int (2 * q)) := fun q => mul_sm (.inl (by unfold small; omega))
  have e5 : ∀ q : Int, oMul (.int (rnd t (far a b) (ab ch))) (.int q) = some (.int (rnd t (far a b) (ab ch) * q)) := fun q => mul_sm (.inl (by unfold small; omega))
  simp only [e_seq, e_next, e_break, e_cont, e_drop, e_set, e_setO, e_asg, e_par, e_ifS, e_ret, e_retN, e_retV, e_for, e_setIx, e_meth, e_lend, e_frz, e_var, e_varL, e_c, e_2, e_1, e_tst, e_chain, e_and, e_or, e_not, e_andV, e_orV, e_notV, e_if, e_nil, e_cons, e_lst, e_tup, e_N, e_call, e_callL, e_callS, e_lenS, e_ixS, e_iList, e_iRng1, e_iRng2, e_iEnum, e_iZip, e_name, e_gNil, e_gCons, e_gTup, e_lc, e_listRg1, e_yes, e_wipe0, e_wipe1, e_getV, e_getVo, e_getVb, e_getL, e_getLo, e_getLb, e_getLw, e_ownL, e_sl, e_none, e_some, add_int, sub_int, eq_int, ne_int, eq_bool, ne_bool, ne_str, eq_str, lt_int, gt_int, le_int, ge_int, len_list, len_tuple, list_list, int_int, rev_list, ix_t0, ix_t1, ix_t2, ix_l0, ix_l1, ix_l2, List.set_cons_succ, List.set_cons_zero, List.getElem?_cons_succ, List.getElem?_cons_zero, Option.bind_some, Option.some.injEq, exists_eq_left', exists_eq_left, PyData.bool.injEq, PyData.int.injEq, PyData.list.injEq, Sl.own.injEq, List.cons.injEq, and_true, decide_eq_true_eq, Bool.false_eq_true, if_false, if_true, decide_true, decide_false, Bool.not_true, Bool.not_false, tD_pt, ex, int_bool, e4, e5, sg_form eco]
  refine ⟨_, append_ok (by simp; omega), ?_⟩
  have e6 : cs.map PyData.int ++ [.int (y + rnd t (far a b) (ab ch) * sg ch)] = (cs ++ [y + rnd t (far a b) (ab ch) * sg ch]).map .int := by simp
  rw [e6]
  exact hK _ _ _ _
def S__law_line : VL.Spec := S_line_of
theorem keeps__law_line : Keeps q__law_line N__law_line 2 S__law_line := by
  rintro ds d ⟨a, b, ha, hb, rfl, rfl⟩
  refine ⟨rfl, ?_⟩
  have bg := big
  obtain ⟨x1, y1, f1⟩ := okp_d ha hb
  have f0 := far_nn a b
  have fe := farN_eq a b
  have e1 : b.1 - a.1 = dx a b := rfl
  have e2 : b.2 - a.2 = dy a b := rfl
  have ef : (if ab (dx a b) < ab (dy a b) then ab (dy a b) else ab (dx a b)) = far a b := rfl
  change (qSeq _ (qSeq _ (qSeq _ (qSeq (qFor _ _ (qSeq _ (qSeq (qFor _ _ q_k) _))) _)))) _ [.val (tD a), .val (tD b), .no, .no, .no, .no, .no, .no, .no, .no, .no, .no, .no]
  simp only [e_seq, e_next, e_break, e_cont, e_drop, e_set, e_setO, e_asg, e_par, e_ifS, e_ret, e_retN, e_retV, e_for, e_setIx, e_meth, e_lend, e_frz, e_var, e_varL, e_c, e_2, e_1, e_tst, e_chain, e_and, e_or, e_not, e_andV, e_orV, e_notV, e_if, e_nil, e_cons, e_lst, e_tup, e_N, e_call, e_callL, e_callS, e_lenS, e_ixS, e_iList, e_iRng1, e_iRng2, e_iEnum, e_iZip, e_name, e_gNil, e_gCons, e_gTup, e_lc, e_listRg1, e_yes, e_wipe0, e_wipe1, e_getV, e_getVo, e_getVb, e_getL, e_getLo, e_getLb, e_getLw, e_ownL, e_sl, e_none, e_some, add_int, sub_int, eq_int, ne_int, eq_bool, ne_bool, ne_str, eq_str, lt_int, gt_int, le_int, ge_int, len_list, len_tuple, list_list, int_int, rev_list, ix_t0, ix_t1, ix_t2, ix_l0, ix_l1, ix_l2, List.set_cons_succ, List.set_cons_zero, List.getElem?_cons_succ, List.getElem?_cons_zero, Option.bind_some, Option.some.injEq, exists_eq_left', exists_eq_left, PyData.bool.injEq, PyData.int.injEq, PyData.list.injEq, Sl.own.injEq, List.cons.injEq, and_true, decide_eq_true_eq, Bool.false_eq_true, if_false, if_true, decide_true, decide_false, Bool.not_true, Bool.not_false, tD_pt, e1, e2, abs_int, max_int, ef]
  refine ⟨⟨by omega, by omega, by omega, by omega⟩, ?_⟩
  have er := rangeD_at 1 (farN a b)
  have en : (far a b + 1 - 1).toNat = farN a b := by unfold farN; omega
  rw [en]
  have er' : rangeD 1 (farN a b) = (List.range (farN a b)).map fun i : Nat => (.int ((1 + i : Nat) : Int) : D) := er
  rw [er']
  have c0 : (PyData.list [PyData.tuple [.int a.1, .int a.2]]) = .list (((List.range (0 + 1)).map (cellAt a b)).map tD) := by
    show _ = PyData.list [tD (cellAt a b 0)]
    rw [cell0]; rfl
  rw [c0]
  refine forRun_inv (fun i ρ => ∃ s4 s7 s8 s9 s10 s11 s12, ρ = [.val (tD a), .val (tD b), .val (.int (far a b)), .own (.list (((List.range (i + 1)).map (cellAt a b)).map tD)), s4, .val (.int (dx a b)), .val (.int (dy a b)), s7, s8, s9, s10, s11, s12]) _ ⟨_, _, _, _, _, _, _, rfl⟩ ?_ ?_
  · rintro i x ρ hx ⟨s4, s7, s8, s9, s10, s11, s12, rfl⟩ K hK
    obtain ⟨h1, h2⟩ := List.getElem?_eq_some_iff.mp hx
    rw [List.getElem_range] at h2
    subst h2
    rw [List.length_range] at h1
    have ht : 1 + i ≤ farN a b := by omega
    have h0 : 0 < far a b := by omega
    simp only [e_seq, e_next, e_break, e_cont, e_drop, e_set, e_setO, e_asg, e_par, e_ifS, e_ret, e_retN, e_retV, e_for, e_setIx, e_meth, e_lend, e_frz, e_var, e_varL, e_c, e_2, e_1, e_tst, e_chain, e_and, e_or, e_not, e_andV, e_orV, e_notV, e_if, e_nil, e_cons, e_lst, e_tup, e_N, e_call, e_callL, e_callS, e_lenS, e_ixS, e_iList, e_iRng1, e_iRng2, e_iEnum, e_iZip, e_name, e_gNil, e_gCons, e_gTup, e_lc, e_listRg1, e_yes, e_wipe0, e_wipe1, e_getV, e_getVo, e_getVb, e_getL, e_getLo, e_getLb, e_getLw, e_ownL, e_sl, e_none, e_some, add_int, sub_int, eq_int, ne_int, eq_bool, ne_bool, ne_str, eq_str, lt_int, gt_int, le_int, ge_int, len_list, len_tuple, list_list, int_int, rev_list, ix_t0, ix_t1, ix_t2, ix_l0, ix_l1, ix_l2, List.set_cons_succ, List.set_cons_zero, List.getElem?_cons_succ, List.getElem?_cons_zero, Option.bind_some, Option.some.injEq, exists_eq_left', exists_eq_left, PyData.bool.injEq, PyData.int.injEq, PyData.list.injEq, Sl.own.injEq, List.cons.injEq, and_true, decide_eq_true_eq, Bool.false_eq_true, if_false, if_true, decide_true, decide_false, Bool.not_true, Bool.not_false]
    refine ⟨⟨by omega, by omega⟩, ?_⟩
    refine forRun_rng (fun k ρ => ∃ s8 s9 s10 s11 s12, ρ = [.val (tD a), .val (tD b), .val (.int (far a b)), .own (.list (((List.range (i + 1)).map (cellAt a b)).map tD)), .val (.int ((1 + i : Nat) : Int)), .val (.int (dx a b)), .val (.int (dy a b)), .own (.list (([(cellAt a b (1 + i)).1, (cellAt a b (1 + i)).2].take k).map .int)), s8, s9, s10, s11, s12]) 2 ⟨_, _, _, _, _, rfl⟩ ?_ ?_
    · rintro k ρ hk ⟨s8, s9, s10, s11, s12, rfl⟩ K2 hK2
      refine k_ok ha hb h0 ht hk (by simp; omega) fun s9 s10 s11 s12 => ?_
      refine hK2 _ ⟨.val (.int (k : Int)), s9, s10, s11, s12, ?_⟩
      have : k = 0 ∨ k = 1 := by omega
      rcases this with rfl | rfl <;> rfl
    · rintro ρ ⟨s8, s9, s10, s11, s12, rfl⟩
      have i0 : oIx (.list (([(cellAt a b (1 + i)).1, (cellAt a b (1 + i)).2].take 2).map (.int · : Int → D))) (.int 0) = some (.int (cellAt a b (1 + i)).1) := ix_l0
      have i1 : oIx (.list (([(cellAt a b (1 + i)).1, (cellAt a b (1 + i)).2].take 2).map (.int · : Int → D))) (.int 1) = some (.int (cellAt a b (1 + i)).2) := ix_l1
      simp only [e_seq, e_next, e_break, e_cont, e_drop, e_set, e_setO, e_asg, e_par, e_ifS, e_ret, e_retN, e_retV, e_for, e_setIx, e_meth, e_lend, e_frz, e_var, e_varL, e_c, e_2, e_1, e_tst, e_chain, e_and, e_or, e_not, e_andV, e_orV, e_notV, e_if, e_nil, e_cons, e_lst, e_tup, e_N, e_call, e_callL, e_callS, e_lenS, e_ixS, e_iList, e_iRng1, e_iRng2, e_iEnum, e_iZip, e_name, e_gNil, e_gCons, e_gTup, e_lc, e_listRg1, e_yes, e_wipe0, e_wipe1, e_getV, e_getVo, e_getVb, e_getL, e_getLo, e_getLb, e_getLw, e_ownL, e_sl, e_none, e_some, add_int, sub_int, eq_int, ne_int, eq_bool, ne_bool, ne_str, eq_str, lt_int, gt_int, le_int, ge_int, len_list, len_tuple, list_list, int_int, rev_list, ix_t0, ix_t1, ix_t2, ix_l0, ix_l1, ix_l2, List.set_cons_succ, List.set_cons_zero, List.getElem?_cons_succ, List.getElem?_cons_zero, Option.bind_some, Option.some.injEq, exists_eq_left', exists_eq_left, PyData.bool.injEq, PyData.int.injEq, PyData.list.injEq, Sl.own.injEq, List.cons.injEq, and_true, decide_eq_true_eq, Bool.false_eq_true, if_false, if_true, decide_true, decide_false, Bool.not_true, Bool.not_false, i0, i1]
      refine ⟨_, append_ok (by simp; omega), ?_⟩
      refine hK _ ⟨.val (.int ((1 + i : Nat) : Int)), .own (.list (([(cellAt a b (1 + i)).1, (cellAt a b (1 + i)).2].take 2).map .int)), s8, s9, s10, s11, s12, ?_⟩
      have e9 : ((List.range (i + 1 + 1)).map (cellAt a b)).map (tD (α := Pt)) = ((List.range (i + 1)).map (cellAt a b)).map tD ++ [.tuple [.int (cellAt a b (1 + i)).1, .int (cellAt a b (1 + i)).2]] := by
        rw [List.range_succ (n := i + 1), List.map_append, List.map_append]
        have : i + 1 = 1 + i := by omega
        rw [this]; rfl
      rw [e9]
  · rintro ρ ⟨s4, s7, s8, s9, s10, s11, s12, rfl⟩
    rw [List.length_range]
    exact ⟨_, rfl, rfl⟩
end P49
namespace P49
open PySem VL L2
open PySem.W (Datum DatumOrd)
def q_l1b : QS :=
  (qSeq (qSet 5 (qCall S__law_line (qCons (qVar 3) (qCons (qVar 4) qNil))))
  (qSeq (qParO 12 13 (qCall S_line (qCons (qVar 3) (qCons (qVar 4) qNil))) (qCall S_line (qCons (qVar 4) (qCons (qVar 3) qNil))))
  (qSeq (qIfS (qOr (qTst (q2 oNe (qN oRepr (qCons (qVarL 12) qNil)) (qN oRepr (qCons (qVar 5) qNil)))) (qOr (qTst (q2 oNe (qN oRepr (qCons (qCall S_ties (qCons (qVar 3) (qCons (qVar 4) qNil))) qNil)) (qN oRepr (qCons (qCall S__law_ties (qCons (qVar 3) (qCons (qVar 4) qNil))) qNil)))) (qTst (q2 oNe (q2 oEq (qVar 13) (q1 oRev (qVarL 12))) (q2 oEq (qCall S_ties (qCons (qVar 3) (qCons (qVar 4) qNil))) (qLst qNil)))))) (qRet (qC (.bool false)))
  qNext)
  (qSeq (qIfS (qTst (q2 oGt (qN oMaxL (qCons (q2 oAdd (qLst (qCons (qC (.int 0)) qNil)) (qLc (qIRng2 (qCons (qC (.int 1)) (qCons (qN oLen (qCons (qVarL 12) qNil)) qNil))) (qName 19) qYes (qN oMax2 (qCons (qN oAbs (qCons (q2 oSub (q2 oIx (q2 oIx (qVarL 12) (qVar 19)) (qC (.int 0))) (q2 oIx (q2 oIx (qVarL 12) (q2 oSub (qVar 19) (qC (.int 1)))) (qC (.int 0)))) qNil)) (qCons (qN oAbs (qCons (q2 oSub (q2 oIx (q2 oIx (qVarL 12) (qVar 19)) (qC (.int 1))) (q2 oIx (q2 oIx (qVarL 12) (q2 oSub (qVar 19) (qC (.int 1)))) (qC (.int 1)))) qNil)) qNil))) [19])) qNil)) (qC (.int 1)))) (qRet (qC (.bool false)))
  qNext)
  (qSeq (qSet 6 (qN oInt (qCons (q2 oGe (qN oAbs (qCons (q2 oSub (q2 oIx (qVar 4) (qC (.int 0))) (q2 oIx (qVar 3) (qC (.int 0)))) qNil)) (qN oAbs (qCons (q2 oSub (q2 oIx (qVar 4) (qC (.int 1))) (q2 oIx (qVar 3) (qC (.int 1)))) qNil))) qNil)))
  (qSeq (qIfS (qTst (q2 oIs (qCall S_slopes (qCons (qLc (qIList (qVarL 12)) (qName 17) qYes (q2 oIx (qVar 17) (qVar 6)) [17]) qNil)) (qC .none))) (qRet (qC (.bool false)))
  qNext)
  (qSeq (qMeth 12 fAppend (qCons (qTup (qCons (qC (.int 0)) (qCons (qC (.int 0)) qNil))) qNil))
  (qIfS (qTst (q2 oNe (qN oRepr (qCons (qCall S_line (qCons (qVar 3) (qCons (qVar 4) qNil))) qNil)) (qN oRepr (qCons (qVar 5) qNil)))) (qRet (qC (.bool false)))
  qNext))))))))
def q_l1 : QS :=
  (qSeq (qSet 3 (qTup (qCons (q2 oSub (qCall S__law_mix (qCons (qVar 1) (qCons (q2 oAdd (qC (.int 10)) (q2 oMul (qC (.int 8)) (qVar 2))) (qCons (qC (.int 30)) qNil)))) (qC (.int 15))) (qCons (q2 oSub (qCall S__law_mix (qCons (qVar 1) (qCons (q2 oAdd (qC (.int 11)) (q2 oMul (qC (.int 8)) (qVar 2))) (qCons (qC (.int 30)) qNil)))) (qC (.int 15))) qNil))))
  (qSeq (qSet 4 (qTup (qCons (q2 oSub (q2 oAdd (q2 oIx (qVar 3) (qC (.int 0))) (qCall S__law_mix (qCons (qVar 1) (qCons (q2 oAdd (qC (.int 12)) (q2 oMul (qC (.int 8)) (qVar 2))) (qCons (qC (.int 19)) qNil))))) (qC (.int 9))) (qCons (q2 oSub (q2 oAdd (q2 oIx (qVar 3) (qC (.int 1))) (qCall S__law_mix (qCons (qVar 1) (qCons (q2 oAdd (qC (.int 13)) (q2 oMul (qC (.int 8)) (qVar 2))) (qCons (qC (.int 19)) qNil))))) (qC (.int 9))) qNil))))
  q_l1b))
def q_l2d : QS :=
  (qSeq (qFor (qIList (qVar 9)) (qGTup 2 (qGCons (qName 15) (qGCons (qName 16) qGNil)))
   (qIfS (qTst (q2 oNe (qN oRepr (qCons (qCall S_are_bars (qCons (qVar 7) (qCons (qVar 15) (qCons (qVar 16) qNil)))) qNil)) (qN oRepr (qCons (qCall S__law_are_bars (qCons (qVar 7) (qCons (qVar 15) (qCons (qVar 16) qNil)))) qNil)))) (qRet (qC (.bool false)))
   qNext))
  (qSeq (qSet 10 (q2 oSub (qCall S__law_mix (qCons (qVar 1) (qCons (q2 oAdd (qC (.int 140)) (qVar 2)) (qCons (qC (.int 7)) qNil)))) (qC (.int 3))))
  (qSeq (qSet 11 (qLst (qCons (q1 oRev (qVar 7)) (qCons (qLc (qIList (qVar 7)) (qName 20) qYes (q1 oNeg (qVar 20)) [20]) (qCons (qLc (qIRng1 (qCons (qN oLen (qCons (qVar 7) qNil)) qNil)) (qName 19) qYes (q2 oAdd (q2 oAdd (q2 oIx (qVar 7) (qVar 19)) (q2 oMul (qVar 10) (qVar 19))) (qC (.int 5))) [19]) qNil)))))
  (qIfS (qOr (qTst (q2 oNe (qLc (qIList (qVar 11)) (qName 21) (qTst (q2 oNe (q2 oIs (qCall S_slopes (qCons (qVar 21) qNil)) (qC .none)) (q2 oIs (qVar 5) (qC .none)))) (qVar 21) [21]) (qLst qNil))) (qTst (q2 oNe (qN oRepr (qCons (qVar 7) qNil)) (qVar 8)))) (qRet (qC (.bool false)))
  qNext))))
def q_ps : QE :=
  (qLst (qCons (qTup (qCons (qTup (qCons (qC (.int 0)) (qCons (qC (.int 1)) qNil))) (qCons (qTup (qCons (qC (.int 0)) (qCons (qC (.int 1)) qNil))) qNil))) (qCons (qTup (qCons (qTup (qCons (qC (.int 0)) (qCons (qC (.int 0)) qNil))) (qCons (qTup (qCons (qC (.int 0)) (qCons (qC (.int 1)) qNil))) qNil))) (qCons (qTup (qCons (qTup (qCons (qC (.int 1)) (qCons (qC (.int 0)) qNil))) (qCons (qTup (qCons (qC (.int 0)) (qCons (qC (.int 1)) qNil))) qNil))) (qCons (qTup (qCons (qTup (qCons (qC (.int 0)) (qCons (qN oLen (qCons (qVar 7) qNil)) qNil))) (qCons (qTup (qCons (qC (.int 0)) (qCons (qC (.int 1)) qNil))) qNil))) qNil)))))
def q_l2c : QS :=
  (qSeq (qSet 9 q_ps)
  (qSeq (qIfS (qTst (q2 oIsNot (qVar 14) (qC .none))) (qSeq (qIfS (qNot (qTst (qCall S__law_are_bars (qCons (qVar 7) (qCons (q2 oIx (qVar 14) (qC (.int 0))) (qCons (q2 oIx (qVar 14) (qC (.int 1))) qNil)))))) (qRet (qC (.bool false)))
   qNext)
   (qSet 9 (q2 oAdd (qVar 9) (qLst (qCons (qVar 14) (qCons (qTup (qCons (q2 oIx (qVar 14) (qC (.int 1))) (qCons (q2 oIx (qVar 14) (qC (.int 0))) qNil))) (qCons (qTup (qCons (q2 oIx (qVar 14) (qC (.int 0))) (qCons (q2 oIx (qVar 14) (qC (.int 0))) qNil))) qNil)))))))
  qNext)
  q_l2d))
def q_l2b : QS :=
  (qFrz 7 (qSeq (qSet 8 (qN oRepr (qCons (qVar 7) qNil)))
  (qSeq (qSet 5 (qTup (qCons (qTup (qCons (qC (.int 0)) (qCons (qC (.int 1)) qNil))) (qCons (qTup (qCons (qC (.int 0)) (qCons (qC (.int 1)) qNil))) qNil))))
  (qSeq (qIfS (qTst (q2 oGt (qN oLen (qCons (qVar 7) qNil)) (qC (.int 1)))) (qSet 5 (qCall S__law_slopes (qCons (qVar 7) qNil)))
  qNext)
  (qSeq (qAsg (qTup (qCons (qCall S_slopes (qCons (qVar 7) qNil)) (qCons (qCall S_bars (qCons (qVar 7) qNil)) qNil))) (qGTup 2 (qGCons (qName 12) (qGCons (qName 14) qGNil))))
  (qSeq (qIfS (qOr (qTst (q2 oNe (qN oRepr (qCons (qVarL 12) qNil)) (qN oRepr (qCons (qVar 5) qNil)))) (qTst (q2 oNe (q2 oIs (qVar 14) (qC .none)) (q2 oIsNot (qVar 5) (qC .none))))) (qRet (qC (.bool false)))
  qNext)
  q_l2c))))))
def q_l2 : QS :=
  (qSeq (qSetO 7 (qLc (qIList (qCall S__law_line (qCons (qTup (qCons (qC (.int 0)) (qCons (qC (.int 0)) qNil))) (qCons (qTup (qCons (q2 oAdd (qC (.int 1)) (qCall S__law_mix (qCons (qVar 1) (qCons (q2 oAdd (qC (.int 50)) (qVar 2)) (qCons (qC (.int 9)) qNil))))) (qCons (qCall S__law_mix (qCons (qVar 1) (qCons (q2 oAdd (qC (.int 54)) (qVar 2)) (qCons (qC (.int 9)) qNil)))) qNil))) qNil)))) (qName 17) qYes (q2 oIx (qVar 17) (qC (.int 1))) [17]))
  (qSeq (qIfS (qTst (q2 oEq (qCall S__law_mix (qCons (qVar 1) (qCons (q2 oAdd (qC (.int 60)) (qVar 2)) (qCons (qC (.int 2)) qNil)))) (qC (.int 0)))) (qSetO 7 (qLc (qIRng1 (qCons (q2 oAdd (qC (.int 1)) (qCall S__law_mix (qCons (qVar 1) (qCons (q2 oAdd (qC (.int 64)) (qVar 2)) (qCons (qC (.int 9)) qNil))))) qNil)) (qName 19) qYes (qCall S__law_mix (qCons (qVar 1) (qCons (q2 oAdd (q2 oAdd (qC (.int 70)) (q2 oMul (qC (.int 10)) (qVar 2))) (qVar 19)) (qCons (qC (.int 4)) qNil)))) [19]))
  (qIfS (qTst (q2 oEq (qCall S__law_mix (qCons (qVar 1) (qCons (q2 oAdd (qC (.int 110)) (qVar 2)) (qCons (qC (.int 2)) qNil)))) (qC (.int 0)))) (qSeq (qSet 18 (qCall S__law_mix (qCons (qVar 1) (qCons (q2 oAdd (qC (.int 120)) (qVar 2)) (qCons (qN oLen (qCons (qVarL 7) qNil)) qNil)))))
    (qSetIx 7 (qVar 18) (q2 oSub (q2 oAdd (q2 oIx (qVarL 7) (qVar 18)) (qCall S__law_mix (qCons (qVar 1) (qCons (q2 oAdd (qC (.int 130)) (qVar 2)) (qCons (qC (.int 5)) qNil))))) (qC (.int 2)))))
   qNext))
  q_l2b))
def q_law2 : QS :=
  (qSeq (qSet 1 (qCallS 0 S__law_draws))
 (qSeq (qFor (qIRng1 (qCons (qC (.int 4)) qNil)) (qName 2)
  q_l1)
 (qSeq (qFor (qIRng1 (qCons (qC (.int 4)) qNil)) (qName 2)
  q_l2)
 (qRet (qC (.bool true))))))
theorem max_mem {x : Int} : ∀ (xs : List Int), PySem.W.maxOf x xs ∈ x :: xs := fun xs => by
  unfold PySem.W.maxOf
  induction xs generalizing x with
  | nil => simp
  | cons y ys ih =>
    rw [List.foldl_cons]
    split
    · exact List.mem_cons_of_mem _ (ih (x := y))
    · have := ih (x := x)
      rcases List.mem_cons.mp this with q | q
      · rw [q]; exact List.mem_cons_self
      · exact List.mem_cons_of_mem _ (List.mem_cons_of_mem _ q)
theorem maxL_int (x : Int) (xs : List Int) : ∃ m, m ∈ x :: xs ∧ oMaxL [.list ((x :: xs).map .int)] = some (.int m) := by
  refine ⟨PySem.W.maxOf x xs, max_mem xs, ?_⟩
  have a := flat_map (x :: xs)
  have b := alikesB_tD (x :: xs)
  have c : (((x :: xs).map (tD (α := Int))).all fun d => !isN d) = true := by
    rw [List.all_eq_true]
    intro d hd
    obtain ⟨i, _, rfl⟩ := List.mem_map.mp hd
    rfl
  have d := PySem.W.maxD_map x xs
  show (if flatD (.list (tD x :: xs.map tD)) = true ∧ alikesB (tD x :: xs.map tD) = true ∧ ((tD x :: xs.map tD).all fun d => !isN d) = true then some (PySem.W.maxD (tD x) (xs.map tD)) else none) = _
  rw [if_pos ⟨a, b, c⟩]
  exact congrArg some d
theorem rep_pt {B : Int} {p : Pt} (h : (-B ≤ p.1 ∧ p.1 ≤ B) ∧ (-B ≤ p.2 ∧ p.2 ≤ B)) (hB : B ≤ 100000) : (tD p).showable = true ∧ (tD p).shown.length ≤ 100 := by
  have a := showable_int (i := p.1) (by omega)
  have b := showable_int (i := p.2) (by omega)
  rw [tD_pt]
  constructor
  · simp only [PyData.showable, PyData.showableAll]
    simp only [PyData.showable] at a b
    simp [a, b]
  · refine Nat.le_trans (shown_tuple_le (B := 13) ?_) (by simp)
    intro x hx
    simp at hx
    rcases hx with rfl | rfl
    · exact PyData.shown_int_le (by omega)
    · exact PyData.shown_int_le (by omega)
theorem co_sm {a b : Pt} (ha : OkP a) (hb : OkP b) {t : Nat} (ht : t ≤ farN a b) : (-1000 ≤ (cellAt a b t).1 ∧ (cellAt a b t).1 ≤ 1000) ∧ (-1000 ≤ (cellAt a b t).2 ∧ (cellAt a b t).2 ≤ 1000) := by
  obtain ⟨x1, y1, f1⟩ := okp_d ha hb
  have g := far_ge a b
  have fe := farN_eq a b
  rcases Int.lt_or_le 0 (far a b) with h | h
  · have rx := rnd_range (t := t) h (ab_nn (dx a b)) g.1
    have ry := rnd_range (t := t) h (ab_nn (dy a b)) g.2
    unfold OkP at ha
    unfold cellAt
    dsimp only
    generalize rnd t (far a b) (ab (dx a b)) = u at *
    generalize rnd t (far a b) (ab (dy a b)) = v at *
    rcases sg_or (dx a b) with q | q | q <;> rcases sg_or (dy a b) with w | w | w <;> rw [q, w] <;> omega
  · have : t = 0 := by omega
    subst this
    rw [cell0]
    unfold OkP at ha
    omega
theorem rep_line {a b : Pt} (ha : OkP a) (hb : OkP b) : oRepr [tD (lineL a b)] = some (.str (tD (lineL a b)).shown) := by
  obtain ⟨x1, y1, f1⟩ := okp_d ha hb
  have fe := farN_eq a b
  have k : ∀ d ∈ (lineL a b).map tD, d.showable = true ∧ d.shown.length ≤ 100 := by
    intro d hd
    obtain ⟨p, hp, rfl⟩ := List.mem_map.mp hd
    unfold lineL at hp
    obtain ⟨t, ht, rfl⟩ := List.mem_map.mp hp
    exact rep_pt (B := 1000) (co_sm ha hb (by have := List.mem_range.mp ht; omega)) (by omega)
  exact repr_list (xs := (lineL a b).map tD) (B := 100) (flat_tD (α := List Pt) (by decide) _) (fun d hd => (k d hd).1) (fun d hd => (k d hd).2) (by simp [lineL]; omega)
theorem rep_ties {a b : Pt} (ha : OkP a) (hb : OkP b) : oRepr [tD (tieL a b)] = some (.str (tD (tieL a b)).shown) := by
  obtain ⟨x1, y1, f1⟩ := okp_d ha hb
  have fe := farN_eq a b
  have := List.length_filter_le (fun t : Nat => decide (0 < far a b) && decide ((2 * (t : Int) * lss a b) % (2 * far a b) = far a b)) (List.range (farN a b + 1))
  rw [List.length_range] at this
  have e : (tieL a b).map (tD (α := Nat)) = ((tieL a b).map fun t : Nat => (t : Int)).map .int := by rw [List.map_map]; rfl
  have r := repr_ints (xs := (tieL a b).map fun t : Nat => (t : Int)) ?_ ?_
  · rw [← e] at r; exact r
  · intro i hi
    obtain ⟨t, ht, rfl⟩ := List.mem_map.mp hi
    unfold tieL at ht
    have := List.mem_range.mp (List.mem_filter.mp ht).1
    omega
  · rw [List.length_map]; unfold tieL; omega
def sideF (a b p : Pt) : Int := if ab (dy a b) ≤ ab (dx a b) then p.2 else p.1
theorem side_ok {a b : Pt} (ha : OkP a) (hb : OkP b) (hf : far a b ≤ 39) : OkH ((lineL a b).map (sideF a b)) ∧ slo ((lineL a b).map (sideF a b)) ≠ none := by
  have fe := farN_eq a b
  have f0 := far_nn a b
  have hl : ((lineL a b).map (sideF a b)).length = farN a b + 1 := by simp [lineL]
  refine ⟨⟨by rw [hl]; omega, fun h hh => ?_⟩, fun z => ?_⟩
  · obtain ⟨p, hp, rfl⟩ := List.mem_map.mp hh
    unfold lineL at hp
    obtain ⟨t, ht, rfl⟩ := List.mem_map.mp hp
    have := co_sm ha hb (t := t) (by have := List.mem_range.mp ht; omega)
    unfold sideF; split <;> omega
  · rw [slo_none (by rw [hl]; omega)] at z
    rcases Int.lt_or_le 0 (far a b) with h | h
    · unfold lineL at z
      rw [List.map_map] at z
      by_cases c : ab (dy a b) ≤ ab (dx a b)
      · have e : (sideF a b ∘ cellAt a b) = fun t : Nat => a.2 + rnd t (far a b) (ab (dy a b)) * sg (dy a b) := by
          funext t; show sideF a b (cellAt a b t) = _; unfold sideF cellAt; rw [if_pos c]
        rw [e] at z
        exact straight h (sg_or _) z
      · have e : (sideF a b ∘ cellAt a b) = fun t : Nat => a.1 + rnd t (far a b) (ab (dx a b)) * sg (dx a b) := by
          funext t; show sideF a b (cellAt a b t) = _; unfold sideF cellAt; rw [if_neg c]
        rw [e] at z
        exact straight h (sg_or _) z
    · obtain ⟨p, q, hp, _⟩ := z
      have := mem_prs.mp hp
      rw [hl] at this
      omega
theorem l1b_ok {a b : Pt} (ha : OkP a) (hb : OkP b) (hf : far a b ≤ 39) {s0 s1 s2 s5 s6 s7 s8 s9 s10 s11 s12 s13 s14 s15 s16 s17 s18 s19 s20 s21 : Sl} {Dv : VEnds}
    (hK : ∀ s5 s6 s12 s13, Dv.nx [s0, s1, s2, .val (tD a), .val (tD b), s5, s6, s7, s8, s9, s10, s11, s12, s13, s14, s15, s16, s17, s18, s19, s20, s21]) :
    q_l1b Dv [s0, s1, s2, .val (tD a), .val (tD b), s5, s6, s7, s8, s9, s10, s11, s12, s13, s14, s15, s16, s17, s18, s19, s20, s21] := by
  have bg := big
  have fe := farN_eq a b
  have f0 := far_nn a b
  have eo : ownSl (tD (lineL a b)) = .own (tD (lineL a b)) := rfl
  have er : oRev (tD (lineL a b)) = some (tD (lineL a b).reverse) := by rw [tD_list (lineL a b).reverse, List.map_reverse]; rfl
  have e1 : oEq (tD (lineL b a)) (tD (lineL a b).reverse) = some (.bool (decide (lineL b a = (lineL a b).reverse))) := eq_tD _ _
  have e2 : oEq (tD (tieL a b)) (.list []) = some (.bool (decide (tieL a b = []))) := eq_tD (α := List Nat) _ []
  have e3 : decide (lineL b a = (lineL a b).reverse) = decide (tieL a b = []) := decide_eq_decide.mpr (back_iff a b)
  have ll : oLen [tD (lineL a b)] = some (.int ((farN a b + 1 : Nat) : Int)) := by rw [tD_list, len_list, List.length_map]; simp [lineL]
  unfold q_l1b
  simp only [e_seq, e_next, e_break, e_cont, e_drop, e_set, e_setO, e_asg, e_par, e_ifS, e_ret, e_retN, e_retV, e_for, e_setIx, e_meth, e_lend, e_frz, e_var, e_varL, e_c, e_2, e_1, e_tst, e_chain, e_and, e_or, e_not, e_andV, e_orV, e_notV, e_if, e_nil, e_cons, e_lst, e_tup, e_N, e_call, e_callL, e_callS, e_lenS, e_ixS, e_iList, e_iRng1, e_iRng2, e_iEnum, e_iZip, e_name, e_gNil, e_gCons, e_gTup, e_lc, e_listRg1, e_yes, e_wipe0, e_wipe1, e_getV, e_getVo, e_getVb, e_getL, e_getLo, e_getLb, e_getLw, e_ownL, e_sl, e_none, e_some, add_int, sub_int, eq_int, ne_int, eq_bool, ne_bool, ne_str, eq_str, lt_int, gt_int, le_int, ge_int, len_list, len_tuple, list_list, int_int, rev_list, ix_t0, ix_t1, ix_t2, ix_l0, ix_l1, ix_l2, List.set_cons_succ, List.set_cons_zero, List.getElem?_cons_succ, List.getElem?_cons_zero, Option.bind_some, Option.some.injEq, exists_eq_left', exists_eq_left, PyData.bool.injEq, PyData.int.injEq, PyData.list.injEq, Sl.own.injEq, List.cons.injEq, and_true, decide_eq_true_eq, Bool.false_eq_true, if_false, if_true, decide_true, decide_false, Bool.not_true, Bool.not_false, e_parO, eo]
  refine ⟨_, ⟨a, b, ha, hb, rfl, rfl⟩, _, ⟨a, b, ha, hb, rfl, rfl⟩, _, ⟨b, a, hb, ha, rfl, rfl⟩, ?_⟩
  simp only [e_seq, e_next, e_break, e_cont, e_drop, e_set, e_setO, e_asg, e_par, e_ifS, e_ret, e_retN, e_retV, e_for, e_setIx, e_meth, e_lend, e_frz, e_var, e_varL, e_c, e_2, e_1, e_tst, e_chain, e_and, e_or, e_not, e_andV, e_orV, e_notV, e_if, e_nil, e_cons, e_lst, e_tup, e_N, e_call, e_callL, e_callS, e_lenS, e_ixS, e_iList, e_iRng1, e_iRng2, e_iEnum, e_iZip, e_name, e_gNil, e_gCons, e_gTup, e_lc, e_listRg1, e_yes, e_wipe0, e_wipe1, e_getV, e_getVo, e_getVb, e_getL, e_getLo, e_getLb, e_getLw, e_ownL, e_sl, e_none, e_some, add_int, sub_int, eq_int, ne_int, eq_bool, ne_bool, ne_str, eq_str, lt_int, gt_int, le_int, ge_int, len_list, len_tuple, list_list, int_int, rev_list, ix_t0, ix_t1, ix_t2, ix_l0, ix_l1, ix_l2, List.set_cons_succ, List.set_cons_zero, List.getElem?_cons_succ, List.getElem?_cons_zero, Option.bind_some, Option.some.injEq, exists_eq_left', exists_eq_left, PyData.bool.injEq, PyData.int.injEq, PyData.list.injEq, Sl.own.injEq, List.cons.injEq, and_true, decide_eq_true_eq, Bool.false_eq_true, if_false, if_true, decide_true, decide_false, Bool.not_true, Bool.not_false, eo, rep_line ha hb, ne_str]
  refine ⟨_, ⟨a, b, ha, hb, rfl, rfl⟩, _, rep_ties ha hb, _, ⟨a, b, ha, hb, rfl, rfl⟩, _, rep_ties ha hb, _, ne_str _ _, _, rfl, ?_⟩
  simp only [e_seq, e_next, e_break, e_cont, e_drop, e_set, e_setO, e_asg, e_par, e_ifS, e_ret, e_retN, e_retV, e_for, e_setIx, e_meth, e_lend, e_frz, e_var, e_varL, e_c, e_2, e_1, e_tst, e_chain, e_and, e_or, e_not, e_andV, e_orV, e_notV, e_if, e_nil, e_cons, e_lst, e_tup, e_N, e_call, e_callL, e_callS, e_lenS, e_ixS, e_iList, e_iRng1, e_iRng2, e_iEnum, e_iZip, e_name, e_gNil, e_gCons, e_gTup, e_lc, e_listRg1, e_yes, e_wipe0, e_wipe1, e_getV, e_getVo, e_getVb, e_getL, e_getLo, e_getLb, e_getLw, e_ownL, e_sl, e_none, e_some, add_int, sub_int, eq_int, ne_int, eq_bool, ne_bool, ne_str, eq_str, lt_int, gt_int, le_int, ge_int, len_list, len_tuple, list_list, int_int, rev_list, ix_t0, ix_t1, ix_t2, ix_l0, ix_l1, ix_l2, List.set_cons_succ, List.set_cons_zero, List.getElem?_cons_succ, List.getElem?_cons_zero, Option.bind_some, Option.some.injEq, exists_eq_left', exists_eq_left, PyData.bool.injEq, PyData.int.injEq, PyData.list.injEq, Sl.own.injEq, List.cons.injEq, and_true, decide_eq_true_eq, Bool.false_eq_true, if_false, if_true, decide_true, decide_false, Bool.not_true, Bool.not_false, er, e1]
  refine ⟨_, ⟨a, b, ha, hb, rfl, rfl⟩, ?_⟩
  rw [e2, e3]
  simp only [e_seq, e_next, e_break, e_cont, e_drop, e_set, e_setO, e_asg, e_par, e_ifS, e_ret, e_retN, e_retV, e_for, e_setIx, e_meth, e_lend, e_frz, e_var, e_varL, e_c, e_2, e_1, e_tst, e_chain, e_and, e_or, e_not, e_andV, e_orV, e_notV, e_if, e_nil, e_cons, e_lst, e_tup, e_N, e_call, e_callL, e_callS, e_lenS, e_ixS, e_iList, e_iRng1, e_iRng2, e_iEnum, e_iZip, e_name, e_gNil, e_gCons, e_gTup, e_lc, e_listRg1, e_yes, e_wipe0, e_wipe1, e_getV, e_getVo, e_getVb, e_getL, e_getLo, e_getLb, e_getLw, e_ownL, e_sl, e_none, e_some, add_int, sub_int, eq_int, ne_int, eq_bool, ne_bool, ne_str, eq_str, lt_int, gt_int, le_int, ge_int, len_list, len_tuple, list_list, int_int, rev_list, ix_t0, ix_t1, ix_t2, ix_l0, ix_l1, ix_l2, List.set_cons_succ, List.set_cons_zero, List.getElem?_cons_succ, List.getElem?_cons_zero, Option.bind_some, Option.some.injEq, exists_eq_left', exists_eq_left, PyData.bool.injEq, PyData.int.injEq, PyData.list.injEq, Sl.own.injEq, List.cons.injEq, and_true, decide_eq_true_eq, Bool.false_eq_true, if_false, if_true, decide_true, decide_false, Bool.not_true, Bool.not_false, ll]
  have en : (((farN a b + 1 : Nat) : Int) - 1).toNat = farN a b := by omega
  rw [en]
  have rl : (rangeD 1 (farN a b)).length ≤ sizeLine := by simp [rangeD]; omega
  refine ⟨⟨by omega, by omega, by omega, by omega⟩, rl, ?_⟩
  have rr : rangeD 1 (farN a b) = (List.range (farN a b)).map fun i : Nat => (.int ((1 + i : Nat) : Int) : D) := rangeD_at 1 (farN a b)
  rw [rr]
  have ixl : ∀ t : Nat, t ≤ farN a b → oIx (tD (lineL a b)) (.int (t : Int)) = some (tD (cellAt a b t)) := fun t ht => by
    refine ix_map (xs := lineL a b) ?_
    unfold lineL
    rw [List.getElem?_map, List.getElem?_range (by omega)]; rfl
  let sx : Nat → Int := fun i => ab ((cellAt a b (1 + i)).1 - (cellAt a b i).1)
  let sy : Nat → Int := fun i => ab ((cellAt a b (1 + i)).2 - (cellAt a b i).2)
  refine lcRun_map (fun i : Nat => .int (if sx i < sy i then sy i else sx i)) _ (fun i hi P hP => ?_) ?_
  · have il := List.mem_range.mp hi
    have es : ((1 + i : Nat) : Int) - 1 = (i : Int) := by omega
    simp only [e_seq, e_next, e_break, e_cont, e_drop, e_set, e_setO, e_asg, e_par, e_ifS, e_ret, e_retN, e_retV, e_for, e_setIx, e_meth, e_lend, e_frz, e_var, e_varL, e_c, e_2, e_1, e_tst, e_chain, e_and, e_or, e_not, e_andV, e_orV, e_notV, e_if, e_nil, e_cons, e_lst, e_tup, e_N, e_call, e_callL, e_callS, e_lenS, e_ixS, e_iList, e_iRng1, e_iRng2, e_iEnum, e_iZip, e_name, e_gNil, e_gCons, e_gTup, e_lc, e_listRg1, e_yes, e_wipe0, e_wipe1, e_getV, e_getVo, e_getVb, e_getL, e_getLo, e_getLb, e_getLw, e_ownL, e_sl, e_none, e_some, add_int, sub_int, eq_int, ne_int, eq_bool, ne_bool, ne_str, eq_str, lt_int, gt_int, le_int, ge_int, len_list, len_tuple, list_list, int_int, rev_list, ix_t0, ix_t1, ix_t2, ix_l0, ix_l1, ix_l2, List.set_cons_succ, List.set_cons_zero, List.getElem?_cons_succ, List.getElem?_cons_zero, Option.bind_some, Option.some.injEq, exists_eq_left', exists_eq_left, PyData.bool.injEq, PyData.int.injEq, PyData.list.injEq, Sl.own.injEq, List.cons.injEq, and_true, decide_eq_true_eq, Bool.false_eq_true, if_false, if_true, decide_true, decide_false, Bool.not_true, Bool.not_false, es, ixl (1 + i) (by omega), ixl i (by omega), tD_pt, abs_int, max_int]
    exact hP
  · rw [List.nil_append]
    have ec : oAdd (.list [.int 0]) (.list ((List.range (farN a b)).map fun i : Nat => (.int (if sx i < sy i then sy i else sx i) : D))) = some (.list ((0 :: (List.range (farN a b)).map fun i : Nat => if sx i < sy i then sy i else sx i).map .int)) := by
      rw [cat_ok (by simp; omega)]
      simp
    rw [ec]
    obtain ⟨m, hm, em⟩ := maxL_int 0 ((List.range (farN a b)).map fun i : Nat => if sx i < sy i then sy i else sx i)
    have hm1 : ¬ 1 < m := by
      rcases List.mem_cons.mp hm with q | q
      · omega
      · obtain ⟨i, hi, rfl⟩ := List.mem_map.mp q
        have il := List.mem_range.mp hi
        have h0 : 0 < far a b := by omega
        have g := far_ge a b
        have x := step_ab (t := i) (y := a.1) (s := sg (dx a b)) h0 (ab_nn (dx a b)) g.1 (sg_or _)
        have y := step_ab (t := i) (y := a.2) (s := sg (dy a b)) h0 (ab_nn (dy a b)) g.2 (sg_or _)
        have ei : 1 + i = i + 1 := by omega
        have x' : sx i ≤ 1 := by show ab ((cellAt a b (1 + i)).1 - (cellAt a b i).1) ≤ 1; rw [ei]; exact x
        have y' : sy i ≤ 1 := by show ab ((cellAt a b (1 + i)).2 - (cellAt a b i).2) ≤ 1; rw [ei]; exact y
        split <;> omega
    have ex : b.1 - a.1 = dx a b := rfl
    have ey : b.2 - a.2 = dy a b := rfl
    have ad : oIx (tD a) (.int 0) = some (.int a.1) := ix_t0
    have ad1 : oIx (tD a) (.int 1) = some (.int a.2) := ix_t1
    have bd : oIx (tD b) (.int 0) = some (.int b.1) := ix_t0
    have bd1 : oIx (tD b) (.int 1) = some (.int b.2) := ix_t1
    simp only [e_seq, e_next, e_break, e_cont, e_drop, e_set, e_setO, e_asg, e_par, e_ifS, e_ret, e_retN, e_retV, e_for, e_setIx, e_meth, e_lend, e_frz, e_var, e_varL, e_c, e_2, e_1, e_tst, e_chain, e_and, e_or, e_not, e_andV, e_orV, e_notV, e_if, e_nil, e_cons, e_lst, e_tup, e_N, e_call, e_callL, e_callS, e_lenS, e_ixS, e_iList, e_iRng1, e_iRng2, e_iEnum, e_iZip, e_name, e_gNil, e_gCons, e_gTup, e_lc, e_listRg1, e_yes, e_wipe0, e_wipe1, e_getV, e_getVo, e_getVb, e_getL, e_getLo, e_getLb, e_getLw, e_ownL, e_sl, e_none, e_some, add_int, sub_int, eq_int, ne_int, eq_bool, ne_bool, ne_str, eq_str, lt_int, gt_int, le_int, ge_int, len_list, len_tuple, list_list, int_int, rev_list, ix_t0, ix_t1, ix_t2, ix_l0, ix_l1, ix_l2, List.set_cons_succ, List.set_cons_zero, List.getElem?_cons_succ, List.getElem?_cons_zero, Option.bind_some, Option.some.injEq, exists_eq_left', exists_eq_left, PyData.bool.injEq, PyData.int.injEq, PyData.list.injEq, Sl.own.injEq, List.cons.injEq, and_true, decide_eq_true_eq, Bool.false_eq_true, if_false, if_true, decide_true, decide_false, Bool.not_true, Bool.not_false, em, hm1, ad, ad1, bd, bd1, ex, ey, abs_int, int_bool]
    refine ⟨_, rfl, by simp [lineL]; omega, ?_⟩
    refine lcRun_map (fun p => tD (sideF a b p)) _ (fun p hp P hP => ?_) ?_
    · have : oIx (tD p) (.int (if ab (dy a b) ≤ ab (dx a b) then 1 else 0)) = some (tD (sideF a b p)) := by
        unfold sideF
        split
        · exact ix_t1
        · exact ix_t0
      exact ⟨_, this, hP⟩
    · rw [List.nil_append]
      obtain ⟨oh, ns⟩ := side_ok ha hb hf
      have em2 : (lineL a b).map (fun p => tD (sideF a b p)) = ((lineL a b).map (sideF a b)).map tD := by rw [List.map_map]; rfl
      rw [em2]
      refine ⟨_, ⟨_, oh, rfl, rfl⟩, ?_⟩
      rw [so_none]
      have ns' : decide (slo ((lineL a b).map (sideF a b)) = none) = false := decide_eq_false ns
      rw [ns']
      simp only [e_seq, e_next, e_break, e_cont, e_drop, e_set, e_setO, e_asg, e_par, e_ifS, e_ret, e_retN, e_retV, e_for, e_setIx, e_meth, e_lend, e_frz, e_var, e_varL, e_c, e_2, e_1, e_tst, e_chain, e_and, e_or, e_not, e_andV, e_orV, e_notV, e_if, e_nil, e_cons, e_lst, e_tup, e_N, e_call, e_callL, e_callS, e_lenS, e_ixS, e_iList, e_iRng1, e_iRng2, e_iEnum, e_iZip, e_name, e_gNil, e_gCons, e_gTup, e_lc, e_listRg1, e_yes, e_wipe0, e_wipe1, e_getV, e_getVo, e_getVb, e_getL, e_getLo, e_getLb, e_getLw, e_ownL, e_sl, e_none, e_some, add_int, sub_int, eq_int, ne_int, eq_bool, ne_bool, ne_str, eq_str, lt_int, gt_int, le_int, ge_int, len_list, len_tuple, list_list, int_int, rev_list, ix_t0, ix_t1, ix_t2, ix_l0, ix_l1, ix_l2, List.set_cons_succ, List.set_cons_zero, List.getElem?_cons_succ, List.getElem?_cons_zero, Option.bind_some, Option.some.injEq, exists_eq_left', exists_eq_left, PyData.bool.injEq, PyData.int.injEq, PyData.list.injEq, Sl.own.injEq, List.cons.injEq, and_true, decide_eq_true_eq, Bool.false_eq_true, if_false, if_true, decide_true, decide_false, Bool.not_true, Bool.not_false]
      refine ⟨_, rfl, _, append_ok (by simp [lineL]; omega), _, ⟨a, b, ha, hb, rfl, rfl⟩, _, rep_line ha hb, _, ne_str _ _, _, rfl, ?_⟩
      simp only [e_seq, e_next, e_break, e_cont, e_drop, e_set, e_setO, e_asg, e_par, e_ifS, e_ret, e_retN, e_retV, e_for, e_setIx, e_meth, e_lend, e_frz, e_var, e_varL, e_c, e_2, e_1, e_tst, e_chain, e_and, e_or, e_not, e_andV, e_orV, e_notV, e_if, e_nil, e_cons, e_lst, e_tup, e_N, e_call, e_callL, e_callS, e_lenS, e_ixS, e_iList, e_iRng1, e_iRng2, e_iEnum, e_iZip, e_name, e_gNil, e_gCons, e_gTup, e_lc, e_listRg1, e_yes, e_wipe0, e_wipe1, e_getV, e_getVo, e_getVb, e_getL, e_getLo, e_getLb, e_getLw, e_ownL, e_sl, e_none, e_some, add_int, sub_int, eq_int, ne_int, eq_bool, ne_bool, ne_str, eq_str, lt_int, gt_int, le_int, ge_int, len_list, len_tuple, list_list, int_int, rev_list, ix_t0, ix_t1, ix_t2, ix_l0, ix_l1, ix_l2, List.set_cons_succ, List.set_cons_zero, List.getElem?_cons_succ, List.getElem?_cons_zero, Option.bind_some, Option.some.injEq, exists_eq_left', exists_eq_left, PyData.bool.injEq, PyData.int.injEq, PyData.list.injEq, Sl.own.injEq, List.cons.injEq, and_true, decide_eq_true_eq, Bool.false_eq_true, if_false, if_true, decide_true, decide_false, Bool.not_true, Bool.not_false]
      exact hK _ _ _ _
theorem l1_ok {xs : List Int} {t : Nat} {s0 s3 s4 s5 s6 s7 s8 s9 s10 s11 s12 s13 s14 s15 s16 s17 s18 s19 s20 s21 : Sl} {Dv : VEnds}
    (hK : ∀ s3 s4 s5 s6 s12 s13, Dv.nx [s0, .val (tD xs), .val (.int (t : Int)), s3, s4, s5, s6, s7, s8, s9, s10, s11, s12, s13, s14, s15, s16, s17, s18, s19, s20, s21]) :
    q_l1 Dv [s0, .val (tD xs), .val (.int (t : Int)), s3, s4, s5, s6, s7, s8, s9, s10, s11, s12, s13, s14, s15, s16, s17, s18, s19, s20, s21] := by
  have q8 : oMul (.int 8) (.int (t : Int)) = some (.int (8 * (t : Int))) := mul_sm (.inl (by unfold small; omega))
  unfold q_l1
  simp only [e_seq, e_next, e_break, e_cont, e_drop, e_set, e_setO, e_asg, e_par, e_ifS, e_ret, e_retN, e_retV, e_for, e_setIx, e_meth, e_lend, e_frz, e_var, e_varL, e_c, e_2, e_1, e_tst, e_chain, e_and, e_or, e_not, e_andV, e_orV, e_notV, e_if, e_nil, e_cons, e_lst, e_tup, e_N, e_call, e_callL, e_callS, e_lenS, e_ixS, e_iList, e_iRng1, e_iRng2, e_iEnum, e_iZip, e_name, e_gNil, e_gCons, e_gTup, e_lc, e_listRg1, e_yes, e_wipe0, e_wipe1, e_getV, e_getVo, e_getVb, e_getL, e_getLo, e_getLb, e_getLw, e_ownL, e_sl, e_none, e_some, add_int, sub_int, eq_int, ne_int, eq_bool, ne_bool, ne_str, eq_str, lt_int, gt_int, le_int, ge_int, len_list, len_tuple, list_list, int_int, rev_list, ix_t0, ix_t1, ix_t2, ix_l0, ix_l1, ix_l2, List.set_cons_succ, List.set_cons_zero, List.getElem?_cons_succ, List.getElem?_cons_zero, Option.bind_some, Option.some.injEq, exists_eq_left', exists_eq_left, PyData.bool.injEq, PyData.int.injEq, PyData.list.injEq, Sl.own.injEq, List.cons.injEq, and_true, decide_eq_true_eq, Bool.false_eq_true, if_false, if_true, decide_true, decide_false, Bool.not_true, Bool.not_false, q8]
  refine ⟨_, mx (by omega), _, rfl, _, mx (by omega), _, rfl, _, mx (by omega), _, rfl, _, rfl, _, mx (by omega), _, rfl, _, rfl, ?_⟩
  have m0 := mixL_range (ds := xs) (k := 10 + 8 * (t : Int)) (show (0 : Int) < 30 by omega)
  have m1 := mixL_range (ds := xs) (k := 11 + 8 * (t : Int)) (show (0 : Int) < 30 by omega)
  have m2 := mixL_range (ds := xs) (k := 12 + 8 * (t : Int)) (show (0 : Int) < 19 by omega)
  have m3 := mixL_range (ds := xs) (k := 13 + 8 * (t : Int)) (show (0 : Int) < 19 by omega)
  let a : Pt := (mixL xs (10 + 8 * (t : Int)) 30 - 15, mixL xs (11 + 8 * (t : Int)) 30 - 15)
  let b : Pt := (mixL xs (10 + 8 * (t : Int)) 30 - 15 + mixL xs (12 + 8 * (t : Int)) 19 - 9, mixL xs (11 + 8 * (t : Int)) 30 - 15 + mixL xs (13 + 8 * (t : Int)) 19 - 9)
  have hd : far a b ≤ 39 := by
    have x : ab (dx a b) ≤ 9 := ab_le (by show -9 ≤ mixL xs (10 + 8 * (t : Int)) 30 - 15 + mixL xs (12 + 8 * (t : Int)) 19 - 9 - (mixL xs (10 + 8 * (t : Int)) 30 - 15) ∧ mixL xs (10 + 8 * (t : Int)) 30 - 15 + mixL xs (12 + 8 * (t : Int)) 19 - 9 - (mixL xs (10 + 8 * (t : Int)) 30 - 15) ≤ 9; omega)
    have y : ab (dy a b) ≤ 9 := ab_le (by show -9 ≤ mixL xs (11 + 8 * (t : Int)) 30 - 15 + mixL xs (13 + 8 * (t : Int)) 19 - 9 - (mixL xs (11 + 8 * (t : Int)) 30 - 15) ∧ mixL xs (11 + 8 * (t : Int)) 30 - 15 + mixL xs (13 + 8 * (t : Int)) 19 - 9 - (mixL xs (11 + 8 * (t : Int)) 30 - 15) ≤ 9; omega)
    unfold far; split <;> omega
  exact l1b_ok (a := a) (b := b) (by show (-100 ≤ mixL xs (10 + 8 * (t : Int)) 30 - 15 ∧ mixL xs (10 + 8 * (t : Int)) 30 - 15 ≤ 100) ∧ (-100 ≤ mixL xs (11 + 8 * (t : Int)) 30 - 15 ∧ mixL xs (11 + 8 * (t : Int)) 30 - 15 ≤ 100); omega)
    (by show (-100 ≤ mixL xs (10 + 8 * (t : Int)) 30 - 15 + mixL xs (12 + 8 * (t : Int)) 19 - 9 ∧ mixL xs (10 + 8 * (t : Int)) 30 - 15 + mixL xs (12 + 8 * (t : Int)) 19 - 9 ≤ 100) ∧ (-100 ≤ mixL xs (11 + 8 * (t : Int)) 30 - 15 + mixL xs (13 + 8 * (t : Int)) 19 - 9 ∧ mixL xs (11 + 8 * (t : Int)) 30 - 15 + mixL xs (13 + 8 * (t : Int)) 19 - 9 ≤ 100); omega) hd fun s5 s6 s12 s13 => hK _ _ _ _ _ _
/-! the second half -/
def HsOk (hs : List Int) : Prop := (1 ≤ hs.length ∧ hs.length ≤ 10) ∧ ∀ h ∈ hs, -20 ≤ h ∧ h ≤ 20
theorem hs_h {hs : List Int} (h : HsOk hs) : OkH hs := ⟨⟨h.1.1, by have := h.1.2; omega⟩, fun x hx => by have := h.2 x hx; omega⟩
theorem repr_bool (b : Bool) : oRepr [.bool b] = some (.str (PyData.bool b).shown) := by
  cases b <;> exact repr_ok (by decide) (by decide) (Nat.le_trans (show _ ≤ 5 by decide) (Nat.le_trans (by decide) big))
theorem l2d_ok {xs hs : List Int} {ps : List (Pr × Pr)} {t : Nat} (h : HsOk hs) {s0 s3 s4 s6 s10 s11 s12 s13 s14 s15 s16 s17 s18 s19 s20 s21 : Sl} {Dv : VEnds}
    (hK : ∀ s10 s11 s15 s16, Dv.nx [s0, .val (tD xs), .val (.int (t : Int)), s3, s4, .val (soD (slo hs)), s6, .val (tD hs), .val (.str (tD hs).shown), .val (tD ps), s10, s11, s12, s13, s14, s15, s16, s17, s18, s19, s20, s21]) :
    q_l2d Dv [s0, .val (tD xs), .val (.int (t : Int)), s3, s4, .val (soD (slo hs)), s6, .val (tD hs), .val (.str (tD hs).shown), .val (tD ps), s10, s11, s12, s13, s14, s15, s16, s17, s18, s19, s20, s21] := by
  have bg := big
  have oh := hs_h h
  have lh : oLen [tD hs] = some (.int (hs.length : Int)) := by rw [tD_list, len_list, List.length_map]
  unfold q_l2d
  simp only [e_seq, e_next, e_break, e_cont, e_drop, e_set, e_setO, e_asg, e_par, e_ifS, e_ret, e_retN, e_retV, e_for, e_setIx, e_meth, e_lend, e_frz, e_var, e_varL, e_c, e_2, e_1, e_tst, e_chain, e_and, e_or, e_not, e_andV, e_orV, e_notV, e_if, e_nil, e_cons, e_lst, e_tup, e_N, e_call, e_callL, e_callS, e_lenS, e_ixS, e_iList, e_iRng1, e_iRng2, e_iEnum, e_iZip, e_name, e_gNil, e_gCons, e_gTup, e_lc, e_listRg1, e_yes, e_wipe0, e_wipe1, e_getV, e_getVo, e_getVb, e_getL, e_getLo, e_getLb, e_getLw, e_ownL, e_sl, e_none, e_some, add_int, sub_int, eq_int, ne_int, eq_bool, ne_bool, ne_str, eq_str, lt_int, gt_int, le_int, ge_int, len_list, len_tuple, list_list, int_int, rev_list, ix_t0, ix_t1, ix_t2, ix_l0, ix_l1, ix_l2, List.set_cons_succ, List.set_cons_zero, List.getElem?_cons_succ, List.getElem?_cons_zero, Option.bind_some, Option.some.injEq, exists_eq_left', exists_eq_left, PyData.bool.injEq, PyData.int.injEq, PyData.list.injEq, Sl.own.injEq, List.cons.injEq, and_true, decide_eq_true_eq, Bool.false_eq_true, if_false, if_true, decide_true, decide_false, Bool.not_true, Bool.not_false]
  refine ⟨_, rfl, ?_⟩
  refine forRun_inv (fun _ ρ => ∃ s15 s16, ρ = [s0, .val (tD xs), .val (.int (t : Int)), s3, s4, .val (soD (slo hs)), s6, .val (tD hs), .val (.str (tD hs).shown), .val (tD ps), s10, s11, s12, s13, s14, s15, s16, s17, s18, s19, s20, s21]) _ ⟨_, _, rfl⟩ ?_ ?_
  · rintro i ⟨p, q⟩ ρ hx ⟨s15, s16, rfl⟩ K hK2
    change qGTup 2 _ (PyData.tuple [tD p, tD q]) _ _
    simp only [e_seq, e_next, e_break, e_cont, e_drop, e_set, e_setO, e_asg, e_par, e_ifS, e_ret, e_retN, e_retV, e_for, e_setIx, e_meth, e_lend, e_frz, e_var, e_varL, e_c, e_2, e_1, e_tst, e_chain, e_and, e_or, e_not, e_andV, e_orV, e_notV, e_if, e_nil, e_cons, e_lst, e_tup, e_N, e_call, e_callL, e_callS, e_lenS, e_ixS, e_iList, e_iRng1, e_iRng2, e_iEnum, e_iZip, e_name, e_gNil, e_gCons, e_gTup, e_lc, e_listRg1, e_yes, e_wipe0, e_wipe1, e_getV, e_getVo, e_getVb, e_getL, e_getLo, e_getLb, e_getLw, e_ownL, e_sl, e_none, e_some, add_int, sub_int, eq_int, ne_int, eq_bool, ne_bool, ne_str, eq_str, lt_int, gt_int, le_int, ge_int, len_list, len_tuple, list_list, int_int, rev_list, ix_t0, ix_t1, ix_t2, ix_l0, ix_l1, ix_l2, List.set_cons_succ, List.set_cons_zero, List.getElem?_cons_succ, List.getElem?_cons_zero, Option.bind_some, Option.some.injEq, exists_eq_left', exists_eq_left, PyData.bool.injEq, PyData.int.injEq, PyData.list.injEq, Sl.own.injEq, List.cons.injEq, and_true, decide_eq_true_eq, Bool.false_eq_true, if_false, if_true, decide_true, decide_false, Bool.not_true, Bool.not_false, List.length_cons, List.length_nil, true_and]
    refine ⟨_, ⟨hs, p, q, oh, rfl, rfl⟩, _, repr_bool _, _, ⟨hs, p, q, oh, rfl, rfl⟩, _, repr_bool _, _, ne_str _ _, _, rfl, ?_⟩
    simp only [e_seq, e_next, e_break, e_cont, e_drop, e_set, e_setO, e_asg, e_par, e_ifS, e_ret, e_retN, e_retV, e_for, e_setIx, e_meth, e_lend, e_frz, e_var, e_varL, e_c, e_2, e_1, e_tst, e_chain, e_and, e_or, e_not, e_andV, e_orV, e_notV, e_if, e_nil, e_cons, e_lst, e_tup, e_N, e_call, e_callL, e_callS, e_lenS, e_ixS, e_iList, e_iRng1, e_iRng2, e_iEnum, e_iZip, e_name, e_gNil, e_gCons, e_gTup, e_lc, e_listRg1, e_yes, e_wipe0, e_wipe1, e_getV, e_getVo, e_getVb, e_getL, e_getLo, e_getLb, e_getLw, e_ownL, e_sl, e_none, e_some, add_int, sub_int, eq_int, ne_int, eq_bool, ne_bool, ne_str, eq_str, lt_int, gt_int, le_int, ge_int, len_list, len_tuple, list_list, int_int, rev_list, ix_t0, ix_t1, ix_t2, ix_l0, ix_l1, ix_l2, List.set_cons_succ, List.set_cons_zero, List.getElem?_cons_succ, List.getElem?_cons_zero, Option.bind_some, Option.some.injEq, exists_eq_left', exists_eq_left, PyData.bool.injEq, PyData.int.injEq, PyData.list.injEq, Sl.own.injEq, List.cons.injEq, and_true, decide_eq_true_eq, Bool.false_eq_true, if_false, if_true, decide_true, decide_false, Bool.not_true, Bool.not_false]
    exact hK2 _ ⟨_, _, rfl⟩
  · rintro ρ ⟨s15, s16, rfl⟩
    simp only [e_seq, e_next, e_break, e_cont, e_drop, e_set, e_setO, e_asg, e_par, e_ifS, e_ret, e_retN, e_retV, e_for, e_setIx, e_meth, e_lend, e_frz, e_var, e_varL, e_c, e_2, e_1, e_tst, e_chain, e_and, e_or, e_not, e_andV, e_orV, e_notV, e_if, e_nil, e_cons, e_lst, e_tup, e_N, e_call, e_callL, e_callS, e_lenS, e_ixS, e_iList, e_iRng1, e_iRng2, e_iEnum, e_iZip, e_name, e_gNil, e_gCons, e_gTup, e_lc, e_listRg1, e_yes, e_wipe0, e_wipe1, e_getV, e_getVo, e_getVb, e_getL, e_getLo, e_getLb, e_getLw, e_ownL, e_sl, e_none, e_some, add_int, sub_int, eq_int, ne_int, eq_bool, ne_bool, ne_str, eq_str, lt_int, gt_int, le_int, ge_int, len_list, len_tuple, list_list, int_int, rev_list, ix_t0, ix_t1, ix_t2, ix_l0, ix_l1, ix_l2, List.set_cons_succ, List.set_cons_zero, List.getElem?_cons_succ, List.getElem?_cons_zero, Option.bind_some, Option.some.injEq, exists_eq_left', exists_eq_left, PyData.bool.injEq, PyData.int.injEq, PyData.list.injEq, Sl.own.injEq, List.cons.injEq, and_true, decide_eq_true_eq, Bool.false_eq_true, if_false, if_true, decide_true, decide_false, Bool.not_true, Bool.not_false]
    refine ⟨_, mx (by omega), ?_⟩
    simp only [e_seq, e_next, e_break, e_cont, e_drop, e_set, e_setO, e_asg, e_par, e_ifS, e_ret, e_retN, e_retV, e_for, e_setIx, e_meth, e_lend, e_frz, e_var, e_varL, e_c, e_2, e_1, e_tst, e_chain, e_and, e_or, e_not, e_andV, e_orV, e_notV, e_if, e_nil, e_cons, e_lst, e_tup, e_N, e_call, e_callL, e_callS, e_lenS, e_ixS, e_iList, e_iRng1, e_iRng2, e_iEnum, e_iZip, e_name, e_gNil, e_gCons, e_gTup, e_lc, e_listRg1, e_yes, e_wipe0, e_wipe1, e_getV, e_getVo, e_getVb, e_getL, e_getLo, e_getLb, e_getLw, e_ownL, e_sl, e_none, e_some, add_int, sub_int, eq_int, ne_int, eq_bool, ne_bool, ne_str, eq_str, lt_int, gt_int, le_int, ge_int, len_list, len_tuple, list_list, int_int, rev_list, ix_t0, ix_t1, ix_t2, ix_l0, ix_l1, ix_l2, List.set_cons_succ, List.set_cons_zero, List.getElem?_cons_succ, List.getElem?_cons_zero, Option.bind_some, Option.some.injEq, exists_eq_left', exists_eq_left, PyData.bool.injEq, PyData.int.injEq, PyData.list.injEq, Sl.own.injEq, List.cons.injEq, and_true, decide_eq_true_eq, Bool.false_eq_true, if_false, if_true, decide_true, decide_false, Bool.not_true, Bool.not_false]
    have m := mixL_range (ds := xs) (k := 140 + (t : Int)) (show (0 : Int) < 7 by omega)
    have er : oRev (tD hs) = some (tD hs.reverse) := by rw [tD_list hs.reverse, List.map_reverse]; rfl
    have rk : oRepr [tD hs] = some (.str (tD hs).shown) := repr_ints (xs := hs) (fun i hi => by have := h.2 i hi; omega) (by have := h.1.2; omega)
    rw [er]
    simp only [e_seq, e_next, e_break, e_cont, e_drop, e_set, e_setO, e_asg, e_par, e_ifS, e_ret, e_retN, e_retV, e_for, e_setIx, e_meth, e_lend, e_frz, e_var, e_varL, e_c, e_2, e_1, e_tst, e_chain, e_and, e_or, e_not, e_andV, e_orV, e_notV, e_if, e_nil, e_cons, e_lst, e_tup, e_N, e_call, e_callL, e_callS, e_lenS, e_ixS, e_iList, e_iRng1, e_iRng2, e_iEnum, e_iZip, e_name, e_gNil, e_gCons, e_gTup, e_lc, e_listRg1, e_yes, e_wipe0, e_wipe1, e_getV, e_getVo, e_getVb, e_getL, e_getLo, e_getLb, e_getLw, e_ownL, e_sl, e_none, e_some, add_int, sub_int, eq_int, ne_int, eq_bool, ne_bool, ne_str, eq_str, lt_int, gt_int, le_int, ge_int, len_list, len_tuple, list_list, int_int, rev_list, ix_t0, ix_t1, ix_t2, ix_l0, ix_l1, ix_l2, List.set_cons_succ, List.set_cons_zero, List.getElem?_cons_succ, List.getElem?_cons_zero, Option.bind_some, Option.some.injEq, exists_eq_left', exists_eq_left, PyData.bool.injEq, PyData.int.injEq, PyData.list.injEq, Sl.own.injEq, List.cons.injEq, and_true, decide_eq_true_eq, Bool.false_eq_true, if_false, if_true, decide_true, decide_false, Bool.not_true, Bool.not_false, lh]
    refine ⟨_, rfl, by have := h.1.2; simp; omega, ?_⟩
    refine lcRun_map (fun x : Int => tD (-x)) _ (fun x hx P hP => ⟨_, rfl, hP⟩) ?_
    rw [List.nil_append]
    have h10 := h.1
    refine ⟨⟨by omega, by omega⟩, by simp [rangeD]; omega, ?_⟩
    rw [Int.toNat_natCast, rangeD0]
    generalize hk : mixL xs (140 + (t : Int)) 7 - 3 = k at *
    refine lcRun_map (fun t : Nat => tD (hv hs t + k * (t : Int) + 5)) _ (fun x hx P hP => ?_) ?_
    · have mk : oMul (.int k) (.int (x : Int)) = some (.int (k * (x : Int))) := mul_sm (.inl (by unfold small; omega))
      simp only [e_seq, e_next, e_break, e_cont, e_drop, e_set, e_setO, e_asg, e_par, e_ifS, e_ret, e_retN, e_retV, e_for, e_setIx, e_meth, e_lend, e_frz, e_var, e_varL, e_c, e_2, e_1, e_tst, e_chain, e_and, e_or, e_not, e_andV, e_orV, e_notV, e_if, e_nil, e_cons, e_lst, e_tup, e_N, e_call, e_callL, e_callS, e_lenS, e_ixS, e_iList, e_iRng1, e_iRng2, e_iEnum, e_iZip, e_name, e_gNil, e_gCons, e_gTup, e_lc, e_listRg1, e_yes, e_wipe0, e_wipe1, e_getV, e_getVo, e_getVb, e_getL, e_getLo, e_getLb, e_getLw, e_ownL, e_sl, e_none, e_some, add_int, sub_int, eq_int, ne_int, eq_bool, ne_bool, ne_str, eq_str, lt_int, gt_int, le_int, ge_int, len_list, len_tuple, list_list, int_int, rev_list, ix_t0, ix_t1, ix_t2, ix_l0, ix_l1, ix_l2, List.set_cons_succ, List.set_cons_zero, List.getElem?_cons_succ, List.getElem?_cons_zero, Option.bind_some, Option.some.injEq, exists_eq_left', exists_eq_left, PyData.bool.injEq, PyData.int.injEq, PyData.list.injEq, Sl.own.injEq, List.cons.injEq, and_true, decide_eq_true_eq, Bool.false_eq_true, if_false, if_true, decide_true, decide_false, Bool.not_true, Bool.not_false, ix_hs (List.mem_range.mp hx), mk]
      exact hP
    rw [List.nil_append]
    have eL : ([tD hs.reverse, .list (hs.map fun x : Int => tD (-x)), .list ((List.range hs.length).map fun t : Nat => tD (hv hs t + k * (t : Int) + 5))] : List D) = [hs.reverse, hs.map fun x => -x, lean hs k].map tD := by
      have e1 : tD (hs.map fun x => -x) = .list (hs.map fun x : Int => tD (-x)) := by rw [tD_list, List.map_map]; rfl
      have e2 : tD (lean hs k) = .list ((List.range hs.length).map fun t : Nat => tD (hv hs t + k * (t : Int) + 5)) := by unfold lean; rw [tD_list, List.map_map]; rfl
      show _ = [tD hs.reverse, tD (hs.map fun x => -x), tD (lean hs k)]
      rw [e1, e2]
    rw [eL]
    have all : ∀ o ∈ [hs.reverse, hs.map fun x => -x, lean hs k], OkH o ∧ (slo o = none ↔ slo hs = none) := by
      intro o ho
      simp only [List.mem_cons, List.not_mem_nil, or_false] at ho
      have z := slo_none (hs := hs) h.1.1
      rcases ho with rfl | rfl | rfl
      · refine ⟨⟨by rw [List.length_reverse]; omega, fun x hx => by have := h.2 x (List.mem_reverse.mp hx); omega⟩, ?_⟩
        rw [slo_none (by rw [List.length_reverse]; omega), z]; exact rev_iff
      · refine ⟨⟨by rw [List.length_map]; omega, fun x hx => ?_⟩, ?_⟩
        · obtain ⟨y, hy, rfl⟩ := List.mem_map.mp hx
          have := h.2 y hy; omega
        · rw [slo_none (by rw [List.length_map]; omega), z]; exact neg_iff
      · refine ⟨⟨by rw [lean_len]; omega, fun x hx => ?_⟩, ?_⟩
        · unfold lean at hx
          obtain ⟨i, hi, rfl⟩ := List.mem_map.mp hx
          have il := List.mem_range.mp hi
          have hm : hv hs i ∈ hs := by
            unfold hv; rw [List.getElem?_eq_getElem il]; exact List.getElem_mem _
          have b := h.2 _ hm
          have k1 : -30 ≤ k * (i : Int) ∧ k * (i : Int) ≤ 30 := by
            have c1 := Int.mul_le_mul_of_nonneg_right (show k ≤ 3 by omega) (show (0 : Int) ≤ (i : Int) by omega)
            have c2 := Int.mul_le_mul_of_nonneg_right (show -3 ≤ k by omega) (show (0 : Int) ≤ (i : Int) by omega)
            omega
          omega
        · rw [slo_none (by rw [lean_len]; omega), z]; exact lean_iff
    have ol : [hs.reverse, hs.map fun x => -x, lean hs k].length ≤ 3 := by simp
    generalize [hs.reverse, hs.map fun x => -x, lean hs k] = os at all ol
    refine ⟨by simp; omega, ?_⟩
    refine lcRun_filter (fun o => tD o) (fun _ => false) _ (fun o ho P hP => ?_) ?_
    · obtain ⟨a1, a2⟩ := all o ho
      refine ⟨_, ⟨o, a1, rfl, rfl⟩, _, so_none _, _, so_none _, _, ne_bool _ _, _, rfl, ?_⟩
      have : decide (slo o = none) = decide (slo hs = none) := decide_eq_decide.mpr a2
      rw [this]
      simp only [e_seq, e_next, e_break, e_cont, e_drop, e_set, e_setO, e_asg, e_par, e_ifS, e_ret, e_retN, e_retV, e_for, e_setIx, e_meth, e_lend, e_frz, e_var, e_varL, e_c, e_2, e_1, e_tst, e_chain, e_and, e_or, e_not, e_andV, e_orV, e_notV, e_if, e_nil, e_cons, e_lst, e_tup, e_N, e_call, e_callL, e_callS, e_lenS, e_ixS, e_iList, e_iRng1, e_iRng2, e_iEnum, e_iZip, e_name, e_gNil, e_gCons, e_gTup, e_lc, e_listRg1, e_yes, e_wipe0, e_wipe1, e_getV, e_getVo, e_getVb, e_getL, e_getLo, e_getLb, e_getLw, e_ownL, e_sl, e_none, e_some, add_int, sub_int, eq_int, ne_int, eq_bool, ne_bool, ne_str, eq_str, lt_int, gt_int, le_int, ge_int, len_list, len_tuple, list_list, int_int, rev_list, ix_t0, ix_t1, ix_t2, ix_l0, ix_l1, ix_l2, List.set_cons_succ, List.set_cons_zero, List.getElem?_cons_succ, List.getElem?_cons_zero, Option.bind_some, Option.some.injEq, exists_eq_left', exists_eq_left, PyData.bool.injEq, PyData.int.injEq, PyData.list.injEq, Sl.own.injEq, List.cons.injEq, and_true, decide_eq_true_eq, Bool.false_eq_true, if_false, if_true, decide_true, decide_false, Bool.not_true, Bool.not_false] at hP ⊢
      exact hP
    · have e0 : (os.filter fun _ => false).map (fun o : List Int => tD o) = [] := by simp
      have e1 : oNe (.list []) (.list []) = some (.bool false) := by
        have := ne_tD (α := List Int) [] []
        simp only [decide_true, Bool.not_true] at this
        exact this
      rw [List.nil_append, e0]
      simp only [e_seq, e_next, e_break, e_cont, e_drop, e_set, e_setO, e_asg, e_par, e_ifS, e_ret, e_retN, e_retV, e_for, e_setIx, e_meth, e_lend, e_frz, e_var, e_varL, e_c, e_2, e_1, e_tst, e_chain, e_and, e_or, e_not, e_andV, e_orV, e_notV, e_if, e_nil, e_cons, e_lst, e_tup, e_N, e_call, e_callL, e_callS, e_lenS, e_ixS, e_iList, e_iRng1, e_iRng2, e_iEnum, e_iZip, e_name, e_gNil, e_gCons, e_gTup, e_lc, e_listRg1, e_yes, e_wipe0, e_wipe1, e_getV, e_getVo, e_getVb, e_getL, e_getLo, e_getLb, e_getLw, e_ownL, e_sl, e_none, e_some, add_int, sub_int, eq_int, ne_int, eq_bool, ne_bool, ne_str, eq_str, lt_int, gt_int, le_int, ge_int, len_list, len_tuple, list_list, int_int, rev_list, ix_t0, ix_t1, ix_t2, ix_l0, ix_l1, ix_l2, List.set_cons_succ, List.set_cons_zero, List.getElem?_cons_succ, List.getElem?_cons_zero, Option.bind_some, Option.some.injEq, exists_eq_left', exists_eq_left, PyData.bool.injEq, PyData.int.injEq, PyData.list.injEq, Sl.own.injEq, List.cons.injEq, and_true, decide_eq_true_eq, Bool.false_eq_true, if_false, if_true, decide_true, decide_false, Bool.not_true, Bool.not_false, e1, rk]
      exact hK _ _ _ _
theorem none_iff {o : Option Sl2} : o.isNone = true ↔ o = none := by cases o <;> simp
theorem so_isN (o : Option Sl2) : oIs (soD o) .none = some (.bool o.isNone) := by cases o <;> rfl
theorem so_isNot (o : Option Sl2) : oIsNot (soD o) .none = some (.bool (!o.isNone)) := by cases o <;> rfl
theorem br_none {hs : List Int} (h : (slo hs).isNone = false) : brD hs = .none := by
  unfold brD
  rw [if_neg fun q => by rw [none_iff.mpr q] at h; cases h]
theorem br_some {hs : List Int} (h : (slo hs).isNone = true) : brD hs = .tuple [tD (shp hs).1, tD (shp hs).2] := by
  unfold brD
  rw [if_pos (none_iff.mp h)]; rfl
theorem br_is (hs : List Int) : oIs (brD hs) .none = some (.bool (!(slo hs).isNone)) := by
  cases c : (slo hs).isNone with
  | true => rw [br_some c]; rfl
  | false => rw [br_none c]; rfl
theorem br_isNot (hs : List Int) : oIsNot (brD hs) .none = some (.bool (slo hs).isNone) := by
  cases c : (slo hs).isNone with
  | true => rw [br_some c]; rfl
  | false => rw [br_none c]; rfl
end P49
namespace P49
open PySem VL L2
open PySem.W (Datum DatumOrd)
section
variable {ρ : VL.Env} {P : D → Prop} {PA : List D → Prop} {qa qb : QE} {qA : QA} {d : D}
theorem n_tup2 : qTup (qCons qa (qCons qb qNil)) ρ P = qa ρ (fun x => qb ρ fun y => P (.tuple [x, y])) := Eq.trans rfl rfl
theorem n_lst4 {qc qd : QE} : qLst (qCons qa (qCons qb (qCons qc (qCons qd qNil)))) ρ P = qa ρ (fun x => qb ρ fun y => qc ρ fun z => qd ρ fun w => P (.list [x, y, z, w])) := Eq.trans rfl rfl
theorem n_c : qC d ρ P = P d := Eq.trans rfl rfl
end
theorem eps1 (n : Nat) : (PyData.list [.tuple [.tuple [.int 0, .int 1], .tuple [.int 0, .int 1]], .tuple [.tuple [.int 0, .int 0], .tuple [.int 0, .int 1]], .tuple [.tuple [.int 1, .int 0], .tuple [.int 0, .int 1]], .tuple [.tuple [.int 0, .int (n : Int)], .tuple [.int 0, .int 1]]] : D) = .list (([((0, 1), (0, 1)), ((0, 0), (0, 1)), ((1, 0), (0, 1)), ((0, n), (0, 1))] : List (Pr × Pr)).map tD) := by
  have z : tD (0 : Nat) = .int 0 := rfl
  have o : tD (1 : Nat) = .int 1 := rfl
  simp only [List.map_cons, List.map_nil, tD_pair, z, o, tD_nat n]
theorem eps2 {hs : List Int} {ρ : VL.Env} {P : D → Prop} (h : ρ[7]? = some (.val (tD hs))) : q_ps ρ P ↔ P (.list (([((0, 1), (0, 1)), ((0, 0), (0, 1)), ((1, 0), (0, 1)), ((0, hs.length), (0, 1))] : List (Pr × Pr)).map tD)) := by
  have lh : oLen [tD hs] = some (.int (hs.length : Int)) := by rw [tD_list, len_list, List.length_map]
  unfold q_ps
  simp only [n_lst4, n_tup2, n_c, e_N, e_cons, e_nil, e_var, h, Option.bind_some, e_getV, Option.some.injEq, exists_eq_left', lh]
  rw [eps1]
theorem l2c_ok {xs hs : List Int} {t : Nat} (h : HsOk hs) {s0 s3 s4 s6 s9 s10 s11 s12 s13 s15 s16 s17 s18 s19 s20 s21 : Sl} {Dv : VEnds}
    (hK : ∀ s9 s10 s11 s15 s16, Dv.nx [s0, .val (tD xs), .val (.int (t : Int)), s3, s4, .val (soD (slo hs)), s6, .val (tD hs), .val (.str (tD hs).shown), s9, s10, s11, s12, s13, .val (brD hs), s15, s16, s17, s18, s19, s20, s21]) :
    q_l2c Dv [s0, .val (tD xs), .val (.int (t : Int)), s3, s4, .val (soD (slo hs)), s6, .val (tD hs), .val (.str (tD hs).shown), s9, s10, s11, s12, s13, .val (brD hs), s15, s16, s17, s18, s19, s20, s21] := by
  have bg := big
  unfold q_l2c
  rw [e_seq, e_set]
  refine (eps2 (hs := hs) rfl).mpr ?_
  have pl : ([((0, 1), (0, 1)), ((0, 0), (0, 1)), ((1, 0), (0, 1)), ((0, hs.length), (0, 1))] : List (Pr × Pr)).length ≤ 4 := by simp
  generalize ([((0, 1), (0, 1)), ((0, 0), (0, 1)), ((1, 0), (0, 1)), ((0, hs.length), (0, 1))] : List (Pr × Pr)) = ps at pl ⊢
  cases c : (slo hs).isNone with
  | true =>
    have cn := none_iff.mp c
    have oh := hs_h h
    have hl : 1 < hs.length := by
      have := h.1
      rcases Nat.lt_or_ge 1 hs.length with q | q
      · exact q
      · have z : hs.length = 1 := by omega
        unfold slo at cn; rw [if_pos z] at cn; cases cn
    obtain ⟨a1, b1, _, _⟩ := shp_ok hl
    have hb : bad hs = true := (bad_iff hl).mpr ((slo_none h.1.1).mp cn)
    have eb := br_some c
    have ei : oIsNot (PyData.tuple [tD (shp hs).1, tD (shp hs).2]) .none = some (.bool true) := rfl
    have eab : abB hs (shp hs).1 (shp hs).2 = true := by
      have o1 : okPr hs.length (shp hs).1 := mem_prs.mp a1
      have o2 : okPr hs.length (shp hs).2 := mem_prs.mp b1
      unfold abB
      simp only [o1, o2, decide_true, Bool.true_and]
      exact hb
    rw [eb] at hK ⊢
    generalize (shp hs).1 = p1 at *
    generalize (shp hs).2 = p2 at *
    simp only [e_seq, e_next, e_break, e_cont, e_drop, e_set, e_setO, e_asg, e_par, e_ifS, e_ret, e_retN, e_retV, e_for, e_setIx, e_meth, e_lend, e_frz, e_var, e_varL, e_c, e_2, e_1, e_tst, e_chain, e_and, e_or, e_not, e_andV, e_orV, e_notV, e_if, e_nil, e_cons, e_lst, e_tup, e_N, e_call, e_callL, e_callS, e_lenS, e_ixS, e_iList, e_iRng1, e_iRng2, e_iEnum, e_iZip, e_name, e_gNil, e_gCons, e_gTup, e_lc, e_listRg1, e_yes, e_wipe0, e_wipe1, e_getV, e_getVo, e_getVb, e_getL, e_getLo, e_getLb, e_getLw, e_ownL, e_sl, e_none, e_some, add_int, sub_int, eq_int, ne_int, eq_bool, ne_bool, ne_str, eq_str, lt_int, gt_int, le_int, ge_int, len_list, len_tuple, list_list, int_int, rev_list, ix_t0, ix_t1, ix_t2, ix_l0, ix_l1, ix_l2, List.set_cons_succ, List.set_cons_zero, List.getElem?_cons_succ, List.getElem?_cons_zero, Option.bind_some, Option.some.injEq, exists_eq_left', exists_eq_left, PyData.bool.injEq, PyData.int.injEq, PyData.list.injEq, Sl.own.injEq, List.cons.injEq, and_true, decide_eq_true_eq, Bool.false_eq_true, if_false, if_true, decide_true, decide_false, Bool.not_true, Bool.not_false, ei]
    refine ⟨_, ⟨hs, p1, p2, oh, rfl, rfl⟩, _, rfl, ?_⟩
    simp only [e_seq, e_next, e_break, e_cont, e_drop, e_set, e_setO, e_asg, e_par, e_ifS, e_ret, e_retN, e_retV, e_for, e_setIx, e_meth, e_lend, e_frz, e_var, e_varL, e_c, e_2, e_1, e_tst, e_chain, e_and, e_or, e_not, e_andV, e_orV, e_notV, e_if, e_nil, e_cons, e_lst, e_tup, e_N, e_call, e_callL, e_callS, e_lenS, e_ixS, e_iList, e_iRng1, e_iRng2, e_iEnum, e_iZip, e_name, e_gNil, e_gCons, e_gTup, e_lc, e_listRg1, e_yes, e_wipe0, e_wipe1, e_getV, e_getVo, e_getVb, e_getL, e_getLo, e_getLb, e_getLw, e_ownL, e_sl, e_none, e_some, add_int, sub_int, eq_int, ne_int, eq_bool, ne_bool, ne_str, eq_str, lt_int, gt_int, le_int, ge_int, len_list, len_tuple, list_list, int_int, rev_list, ix_t0, ix_t1, ix_t2, ix_l0, ix_l1, ix_l2, List.set_cons_succ, List.set_cons_zero, List.getElem?_cons_succ, List.getElem?_cons_zero, Option.bind_some, Option.some.injEq, exists_eq_left', exists_eq_left, PyData.bool.injEq, PyData.int.injEq, PyData.list.injEq, Sl.own.injEq, List.cons.injEq, and_true, decide_eq_true_eq, Bool.false_eq_true, if_false, if_true, decide_true, decide_false, Bool.not_true, Bool.not_false, eab]
    refine ⟨_, cat_ok (by simp; omega), ?_⟩
    have e9 : ps.map (tD (α := Pr × Pr)) ++ [.tuple [tD p1, tD p2], .tuple [tD p2, tD p1], .tuple [tD p1, tD p1]] = (ps ++ [(p1, p2), (p2, p1), (p1, p1)]).map tD := by
      rw [List.map_append]
      simp only [List.map_cons, List.map_nil, tD_pair (α := Pr) (β := Pr)]
    rw [e9]
    exact l2d_ok h fun s10 s11 s15 s16 => hK _ _ _ _ _
  | false =>
    have eb := br_none c
    have ei : oIsNot (PyData.none) .none = some (.bool false) := rfl
    rw [eb] at hK ⊢
    simp only [e_seq, e_next, e_break, e_cont, e_drop, e_set, e_setO, e_asg, e_par, e_ifS, e_ret, e_retN, e_retV, e_for, e_setIx, e_meth, e_lend, e_frz, e_var, e_varL, e_c, e_2, e_1, e_tst, e_chain, e_and, e_or, e_not, e_andV, e_orV, e_notV, e_if, e_nil, e_cons, e_lst, e_tup, e_N, e_call, e_callL, e_callS, e_lenS, e_ixS, e_iList, e_iRng1, e_iRng2, e_iEnum, e_iZip, e_name, e_gNil, e_gCons, e_gTup, e_lc, e_listRg1, e_yes, e_wipe0, e_wipe1, e_getV, e_getVo, e_getVb, e_getL, e_getLo, e_getLb, e_getLw, e_ownL, e_sl, e_none, e_some, add_int, sub_int, eq_int, ne_int, eq_bool, ne_bool, ne_str, eq_str, lt_int, gt_int, le_int, ge_int, len_list, len_tuple, list_list, int_int, rev_list, ix_t0, ix_t1, ix_t2, ix_l0, ix_l1, ix_l2, List.set_cons_succ, List.set_cons_zero, List.getElem?_cons_succ, List.getElem?_cons_zero, Option.bind_some, Option.some.injEq, exists_eq_left', exists_eq_left, PyData.bool.injEq, PyData.int.injEq, PyData.list.injEq, Sl.own.injEq, List.cons.injEq, and_true, decide_eq_true_eq, Bool.false_eq_true, if_false, if_true, decide_true, decide_false, Bool.not_true, Bool.not_false, ei]
    exact l2d_ok h fun s10 s11 s15 s16 => hK _ _ _ _ _
end P49
namespace P49
open PySem VL L2
open PySem.W (Datum DatumOrd)
theorem fr_abs {n m : Int} (h : 0 < m) : (fr n m).1.natAbs ≤ n.natAbs ∧ (fr n m).2.natAbs ≤ m.natAbs := by
  obtain ⟨a, b, c⟩ := fr_spec (n := n) h
  have g := (gc_pos (n := n) h).1
  have g1 : 1 ≤ (gc n m).natAbs := by omega
  have e1 := congrArg Int.natAbs b
  have e2 := congrArg Int.natAbs c
  rw [Int.natAbs_mul] at e1 e2
  have k1 := Nat.mul_le_mul_left (fr n m).1.natAbs g1
  have k2 := Nat.mul_le_mul_left (fr n m).2.natAbs g1
  omega
theorem hv_sm {hs : List Int} (h : HsOk hs) (i : Nat) : -20 ≤ hv hs i ∧ hv hs i ≤ 20 := by
  unfold hv
  cases e : hs[i]? with
  | none => simp
  | some x => exact h.2 x (List.mem_of_getElem? e)
theorem ask_abs {hs : List Int} {p : Pr} (h : HsOk hs) (hp : p ∈ prs hs.length) : ((-100 ≤ (ask hs p).1 ∧ (ask hs p).1 ≤ 100) ∧ (-100 ≤ (ask hs p).2 ∧ (ask hs p).2 ≤ 100)) ∧ ((-100 ≤ (lett hs p).1 ∧ (lett hs p).1 ≤ 100) ∧ (-100 ≤ (lett hs p).2 ∧ (lett hs p).2 ≤ 100)) := by
  have a := mem_prs.mp hp
  have l := ln_pos a.1
  have x := hv_sm h p.1
  have y := hv_sm h p.2
  have k1 := fr_abs (n := df hs p - 1) l
  have k2 := fr_abs (n := df hs p + 1) l
  have ll : ln p ≤ 10 := by have := h.1.2; unfold ln; omega
  unfold ask lett
  unfold df at *
  omega
theorem rep_so {hs : List Int} (h : HsOk hs) : oRepr [soD (slo hs)] = some (.str (soD (slo hs)).shown) := by
  have key : ∀ x : Sl2, ((-100 ≤ x.1.1 ∧ x.1.1 ≤ 100) ∧ (-100 ≤ x.1.2 ∧ x.1.2 ≤ 100)) → ((-100 ≤ x.2.1 ∧ x.2.1 ≤ 100) ∧ (-100 ≤ x.2.2 ∧ x.2.2 ≤ 100)) → oRepr [tD x] = some (.str (tD x).shown) := fun x h1 h2 => by
    obtain ⟨a1, a2⟩ := rep_pt (B := 100) (p := x.1) h1 (by omega)
    obtain ⟨b1, b2⟩ := rep_pt (B := 100) (p := x.2) h2 (by omega)
    refine repr_ok (flat_tD (α := Sl2) (by decide) x) ?_ ?_
    · show PyData.showable (.tuple [tD x.1, tD x.2]) = true
      simp only [PyData.showable, PyData.showableAll, a1, b1, Bool.and_self]
    · refine Nat.le_trans (shown_tuple_le (ds := [tD x.1, tD x.2]) (B := 100) ?_) (Nat.le_trans (by simp) big)
      intro d hd
      simp at hd
      rcases hd with rfl | rfl
      · exact a2
      · exact b2
  unfold slo
  by_cases e : hs.length = 1
  · rw [if_pos e]
    exact key ((0, 1), (0, 1)) (by decide) (by decide)
  · rw [if_neg e]
    by_cases b : bad hs = true
    · rw [if_pos b]; exact repr_none
    · rw [if_neg b]
      obtain ⟨a1, b1, _, _⟩ := shp_ok (hs := hs) (by have := h.1.1; omega)
      exact key (ask hs (shp hs).1, lett hs (shp hs).2) (ask_abs h a1).1 (ask_abs h b1).2
def q_l2b3 : QS :=
  (qSeq (qIfS (qTst (q2 oGt (qN oLen (qCons (qVar 7) qNil)) (qC (.int 1)))) (qSet 5 (qCall S__law_slopes (qCons (qVar 7) qNil)))
  qNext)
  (qSeq (qAsg (qTup (qCons (qCall S_slopes (qCons (qVar 7) qNil)) (qCons (qCall S_bars (qCons (qVar 7) qNil)) qNil))) (qGTup 2 (qGCons (qName 12) (qGCons (qName 14) qGNil))))
  (qSeq (qIfS (qOr (qTst (q2 oNe (qN oRepr (qCons (qVarL 12) qNil)) (qN oRepr (qCons (qVar 5) qNil)))) (qTst (q2 oNe (q2 oIs (qVar 14) (qC .none)) (q2 oIsNot (qVar 5) (qC .none))))) (qRet (qC (.bool false)))
  qNext)
  q_l2c)))
theorem l2b3_ok {xs hs : List Int} {t : Nat} {d5 : D} (h : HsOk hs) (h5 : hs.length = 1 → d5 = soD (slo hs)) {s0 s3 s4 s6 s9 s10 s11 s12 s13 s14 s15 s16 s17 s18 s19 s20 s21 : Sl} {Dv : VEnds}
    (hK : ∀ s5 s7 s8 s9 s10 s11 s12 s14 s15 s16, Dv.nx [s0, .val (tD xs), .val (.int (t : Int)), s3, s4, s5, s6, s7, s8, s9, s10, s11, s12, s13, s14, s15, s16, s17, s18, s19, s20, s21]) :
    q_l2b3 Dv [s0, .val (tD xs), .val (.int (t : Int)), s3, s4, .val d5, s6, .val (tD hs), .val (.str (tD hs).shown), s9, s10, s11, s12, s13, s14, s15, s16, s17, s18, s19, s20, s21] := by
  have oh := hs_h h
  have lh : oLen [tD hs] = some (.int (hs.length : Int)) := by rw [tD_list, len_list, List.length_map]
  have rs := rep_so h
  have bi := br_is hs
  have si := so_isNot (slo hs)
  have l2c := fun (s9 s10 s11 s15 s16 : Sl) => l2c_ok (xs := xs) (t := t) (s0 := s0) (s3 := s3) (s4 := s4) (s6 := s6) (s9 := s9) (s10 := s10) (s11 := s11) (s12 := .val (soD (slo hs))) (s13 := s13) (s15 := s15) (s16 := s16) (s17 := s17) (s18 := s18) (s19 := s19) (s20 := s20) (s21 := s21) (Dv := Dv) h fun s9 s10 s11 s15 s16 => hK _ _ _ _ _ _ _ _ _ _
  have hS : S_slopes [tD hs] (soD (slo hs)) := ⟨hs, oh, rfl, rfl⟩
  have hB : S_bars [tD hs] (brD hs) := ⟨hs, oh, rfl, rfl⟩
  have hL : 1 < hs.length → S__law_slopes [tD hs] (soD (slo hs)) := fun q => ⟨hs, oh, q, rfl, rfl⟩
  generalize brD hs = br at *
  generalize (slo hs).isNone = nn at *
  generalize soD (slo hs) = so at *
  generalize tD hs = th at *
  unfold q_l2b3
  by_cases c : (1 : Int) < (hs.length : Int)
  · simp only [e_seq, e_next, e_break, e_cont, e_drop, e_set, e_setO, e_asg, e_par, e_ifS, e_ret, e_retN, e_retV, e_for, e_setIx, e_meth, e_lend, e_frz, e_var, e_varL, e_c, e_2, e_1, e_tst, e_chain, e_and, e_or, e_not, e_andV, e_orV, e_notV, e_if, e_nil, e_cons, e_lst, e_tup, e_N, e_call, e_callL, e_callS, e_lenS, e_ixS, e_iList, e_iRng1, e_iRng2, e_iEnum, e_iZip, e_name, e_gNil, e_gCons, e_gTup, e_lc, e_listRg1, e_yes, e_wipe0, e_wipe1, e_getV, e_getVo, e_getVb, e_getL, e_getLo, e_getLb, e_getLw, e_ownL, e_sl, e_none, e_some, add_int, sub_int, eq_int, ne_int, eq_bool, ne_bool, ne_str, eq_str, lt_int, gt_int, le_int, ge_int, len_list, len_tuple, list_list, int_int, rev_list, ix_t0, ix_t1, ix_t2, ix_l0, ix_l1, ix_l2, List.set_cons_succ, List.set_cons_zero, List.getElem?_cons_succ, List.getElem?_cons_zero, Option.bind_some, Option.some.injEq, exists_eq_left', exists_eq_left, PyData.bool.injEq, PyData.int.injEq, PyData.list.injEq, Sl.own.injEq, List.cons.injEq, and_true, decide_eq_true_eq, Bool.false_eq_true, if_false, if_true, decide_true, decide_false, Bool.not_true, Bool.not_false, lh, c]
    refine ⟨so, hL (by omega), ?_⟩
    simp only [e_seq, e_next, e_break, e_cont, e_drop, e_set, e_setO, e_asg, e_par, e_ifS, e_ret, e_retN, e_retV, e_for, e_setIx, e_meth, e_lend, e_frz, e_var, e_varL, e_c, e_2, e_1, e_tst, e_chain, e_and, e_or, e_not, e_andV, e_orV, e_notV, e_if, e_nil, e_cons, e_lst, e_tup, e_N, e_call, e_callL, e_callS, e_lenS, e_ixS, e_iList, e_iRng1, e_iRng2, e_iEnum, e_iZip, e_name, e_gNil, e_gCons, e_gTup, e_lc, e_listRg1, e_yes, e_wipe0, e_wipe1, e_getV, e_getVo, e_getVb, e_getL, e_getLo, e_getLb, e_getLw, e_ownL, e_sl, e_none, e_some, add_int, sub_int, eq_int, ne_int, eq_bool, ne_bool, ne_str, eq_str, lt_int, gt_int, le_int, ge_int, len_list, len_tuple, list_list, int_int, rev_list, ix_t0, ix_t1, ix_t2, ix_l0, ix_l1, ix_l2, List.set_cons_succ, List.set_cons_zero, List.getElem?_cons_succ, List.getElem?_cons_zero, Option.bind_some, Option.some.injEq, exists_eq_left', exists_eq_left, PyData.bool.injEq, PyData.int.injEq, PyData.list.injEq, Sl.own.injEq, List.cons.injEq, and_true, decide_eq_true_eq, Bool.false_eq_true, if_false, if_true, decide_true, decide_false, Bool.not_true, Bool.not_false, List.length_cons, List.length_nil, true_and]
    refine ⟨so, hS, br, hB, ?_⟩
    simp only [e_seq, e_next, e_break, e_cont, e_drop, e_set, e_setO, e_asg, e_par, e_ifS, e_ret, e_retN, e_retV, e_for, e_setIx, e_meth, e_lend, e_frz, e_var, e_varL, e_c, e_2, e_1, e_tst, e_chain, e_and, e_or, e_not, e_andV, e_orV, e_notV, e_if, e_nil, e_cons, e_lst, e_tup, e_N, e_call, e_callL, e_callS, e_lenS, e_ixS, e_iList, e_iRng1, e_iRng2, e_iEnum, e_iZip, e_name, e_gNil, e_gCons, e_gTup, e_lc, e_listRg1, e_yes, e_wipe0, e_wipe1, e_getV, e_getVo, e_getVb, e_getL, e_getLo, e_getLb, e_getLw, e_ownL, e_sl, e_none, e_some, add_int, sub_int, eq_int, ne_int, eq_bool, ne_bool, ne_str, eq_str, lt_int, gt_int, le_int, ge_int, len_list, len_tuple, list_list, int_int, rev_list, ix_t0, ix_t1, ix_t2, ix_l0, ix_l1, ix_l2, List.set_cons_succ, List.set_cons_zero, List.getElem?_cons_succ, List.getElem?_cons_zero, Option.bind_some, Option.some.injEq, exists_eq_left', exists_eq_left, PyData.bool.injEq, PyData.int.injEq, PyData.list.injEq, Sl.own.injEq, List.cons.injEq, and_true, decide_eq_true_eq, Bool.false_eq_true, if_false, if_true, decide_true, decide_false, Bool.not_true, Bool.not_false, rs, bi, si]
    exact l2c _ _ _ _ _
  · have e : hs.length = 1 := by have := h.1.1; omega
    have e5 := h5 e
    subst e5
    simp only [e_seq, e_next, e_break, e_cont, e_drop, e_set, e_setO, e_asg, e_par, e_ifS, e_ret, e_retN, e_retV, e_for, e_setIx, e_meth, e_lend, e_frz, e_var, e_varL, e_c, e_2, e_1, e_tst, e_chain, e_and, e_or, e_not, e_andV, e_orV, e_notV, e_if, e_nil, e_cons, e_lst, e_tup, e_N, e_call, e_callL, e_callS, e_lenS, e_ixS, e_iList, e_iRng1, e_iRng2, e_iEnum, e_iZip, e_name, e_gNil, e_gCons, e_gTup, e_lc, e_listRg1, e_yes, e_wipe0, e_wipe1, e_getV, e_getVo, e_getVb, e_getL, e_getLo, e_getLb, e_getLw, e_ownL, e_sl, e_none, e_some, add_int, sub_int, eq_int, ne_int, eq_bool, ne_bool, ne_str, eq_str, lt_int, gt_int, le_int, ge_int, len_list, len_tuple, list_list, int_int, rev_list, ix_t0, ix_t1, ix_t2, ix_l0, ix_l1, ix_l2, List.set_cons_succ, List.set_cons_zero, List.getElem?_cons_succ, List.getElem?_cons_zero, Option.bind_some, Option.some.injEq, exists_eq_left', exists_eq_left, PyData.bool.injEq, PyData.int.injEq, PyData.list.injEq, Sl.own.injEq, List.cons.injEq, and_true, decide_eq_true_eq, Bool.false_eq_true, if_false, if_true, decide_true, decide_false, Bool.not_true, Bool.not_false, lh, c, List.length_cons, List.length_nil, true_and]
    refine ⟨d5, hS, br, hB, ?_⟩
    simp only [e_seq, e_next, e_break, e_cont, e_drop, e_set, e_setO, e_asg, e_par, e_ifS, e_ret, e_retN, e_retV, e_for, e_setIx, e_meth, e_lend, e_frz, e_var, e_varL, e_c, e_2, e_1, e_tst, e_chain, e_and, e_or, e_not, e_andV, e_orV, e_notV, e_if, e_nil, e_cons, e_lst, e_tup, e_N, e_call, e_callL, e_callS, e_lenS, e_ixS, e_iList, e_iRng1, e_iRng2, e_iEnum, e_iZip, e_name, e_gNil, e_gCons, e_gTup, e_lc, e_listRg1, e_yes, e_wipe0, e_wipe1, e_getV, e_getVo, e_getVb, e_getL, e_getLo, e_getLb, e_getLw, e_ownL, e_sl, e_none, e_some, add_int, sub_int, eq_int, ne_int, eq_bool, ne_bool, ne_str, eq_str, lt_int, gt_int, le_int, ge_int, len_list, len_tuple, list_list, int_int, rev_list, ix_t0, ix_t1, ix_t2, ix_l0, ix_l1, ix_l2, List.set_cons_succ, List.set_cons_zero, List.getElem?_cons_succ, List.getElem?_cons_zero, Option.bind_some, Option.some.injEq, exists_eq_left', exists_eq_left, PyData.bool.injEq, PyData.int.injEq, PyData.list.injEq, Sl.own.injEq, List.cons.injEq, and_true, decide_eq_true_eq, Bool.false_eq_true, if_false, if_true, decide_true, decide_false, Bool.not_true, Bool.not_false, rs, bi, si]
    exact l2c _ _ _ _ _
theorem tt_q {ρ : VL.Env} {P : D → Prop} (h : P (.tuple [.tuple [.int 0, .int 1], .tuple [.int 0, .int 1]])) : (qTup (qCons (qTup (qCons (qC (.int 0)) (qCons (qC (.int 1)) qNil))) (qCons (qTup (qCons (qC (.int 0)) (qCons (qC (.int 1)) qNil))) qNil))) ρ P := by
  rw [n_tup2, n_tup2, n_c, n_c, n_tup2, n_c, n_c]
  exact h
theorem l2b_ok {xs hs : List Int} {t : Nat} (h : HsOk hs) {s0 s3 s4 s5 s6 s8 s9 s10 s11 s12 s13 s14 s15 s16 s17 s18 s19 s20 s21 : Sl} {Dv : VEnds}
    (hK : ∀ s5 s7 s8 s9 s10 s11 s12 s14 s15 s16, Dv.nx [s0, .val (tD xs), .val (.int (t : Int)), s3, s4, s5, s6, s7, s8, s9, s10, s11, s12, s13, s14, s15, s16, s17, s18, s19, s20, s21]) :
    q_l2b Dv [s0, .val (tD xs), .val (.int (t : Int)), s3, s4, s5, s6, .own (tD hs), s8, s9, s10, s11, s12, s13, s14, s15, s16, s17, s18, s19, s20, s21] := by
  have rk : oRepr [tD hs] = some (.str (tD hs).shown) := repr_ints (xs := hs) (fun i hi => by have := h.2 i hi; omega) (by have := h.1.2; omega)
  have e5 : hs.length = 1 → PyData.tuple [.tuple [.int 0, .int 1], .tuple [.int 0, .int 1]] = soD (slo hs) := fun e => by
    unfold slo; rw [if_pos e]; rfl
  unfold q_l2b
  rw [e_frz]
  refine ⟨tD hs, rfl, ?_⟩
  rw [e_seq, e_set]
  refine ⟨tD hs, rfl, _, rk, ?_⟩
  dsimp only
  rw [e_seq, e_set]
  refine tt_q ?_
  exact l2b3_ok h e5 hK
end P49
namespace P49
open PySem VL L2
open PySem.W (Datum DatumOrd)
theorem l2_ok {xs : List Int} {t : Nat} {s0 s3 s4 s5 s6 s7 s8 s9 s10 s11 s12 s13 s14 s15 s16 s17 s18 s19 s20 s21 : Sl} {Dv : VEnds}
    (hK : ∀ s5 s7 s8 s9 s10 s11 s12 s14 s15 s16 s18, Dv.nx [s0, .val (tD xs), .val (.int (t : Int)), s3, s4, s5, s6, s7, s8, s9, s10, s11, s12, s13, s14, s15, s16, s17, s18, s19, s20, s21]) :
    q_l2 Dv [s0, .val (tD xs), .val (.int (t : Int)), s3, s4, s5, s6, s7, s8, s9, s10, s11, s12, s13, s14, s15, s16, s17, s18, s19, s20, s21] := by
  have bg := big
  have m0 := mixL_range (ds := xs) (k := 50 + (t : Int)) (show (0 : Int) < 9 by omega)
  have m1 := mixL_range (ds := xs) (k := 54 + (t : Int)) (show (0 : Int) < 9 by omega)
  have q10 : oMul (.int 10) (.int (t : Int)) = some (.int (10 * (t : Int))) := mul_sm (.inl (by unfold small; omega))
  have fin : ∀ (hs : List Int) s18, HsOk hs → q_l2b Dv [s0, .val (tD xs), .val (.int (t : Int)), s3, s4, s5, s6, .own (tD hs), s8, s9, s10, s11, s12, s13, s14, s15, s16, s17, s18, s19, s20, s21] := fun hs s18 h => l2b_ok h fun s5 s7 s8 s9 s10 s11 s12 s14 s15 s16 => hK _ _ _ _ _ _ _ _ _ _ _
  unfold q_l2
  simp only [e_seq, e_next, e_break, e_cont, e_drop, e_set, e_setO, e_asg, e_par, e_ifS, e_ret, e_retN, e_retV, e_for, e_setIx, e_meth, e_lend, e_frz, e_var, e_varL, n_c, e_2, e_1, e_tst, e_chain, e_and, e_or, e_not, e_andV, e_orV, e_notV, e_if, e_nil, e_cons, n_tup2, e_N, e_call, e_callL, e_callS, e_lenS, e_ixS, e_iList, e_iRng1, e_iRng2, e_iEnum, e_iZip, e_name, e_gNil, e_gCons, e_gTup, e_lc, e_listRg1, e_yes, e_wipe0, e_wipe1, e_getV, e_getVo, e_getVb, e_getL, e_getLo, e_getLb, e_getLw, e_ownL, e_sl, e_none, e_some, add_int, sub_int, eq_int, ne_int, eq_bool, ne_bool, ne_str, eq_str, lt_int, gt_int, le_int, ge_int, len_list, len_tuple, list_list, int_int, rev_list, ix_t0, ix_t1, ix_t2, ix_l0, ix_l1, ix_l2, List.set_cons_succ, List.set_cons_zero, List.getElem?_cons_succ, List.getElem?_cons_zero, Option.bind_some, Option.some.injEq, exists_eq_left', exists_eq_left, PyData.bool.injEq, PyData.int.injEq, PyData.list.injEq, Sl.own.injEq, List.cons.injEq, and_true, decide_eq_true_eq, Bool.false_eq_true, if_false, if_true, decide_true, decide_false, Bool.not_true, Bool.not_false]
  refine ⟨_, mx (by omega), _, rfl, _, mx (by omega), ?_⟩
  generalize h1 : mixL xs (50 + (t : Int)) 9 = u at m0
  generalize h2 : mixL xs (54 + (t : Int)) 9 = v at m1
  have oa : OkP ((0, 0) : Pt) := by unfold OkP; omega
  have ob : OkP ((1 + u, v) : Pt) := by unfold OkP; dsimp only; omega
  refine ⟨_, ⟨(0, 0), (1 + u, v), oa, ob, rfl, rfl⟩, ?_⟩
  have x9 : ab (dx (0, 0) (1 + u, v)) ≤ 9 := ab_le (by show -9 ≤ 1 + u - 0 ∧ 1 + u - 0 ≤ 9; omega)
  have y9 : ab (dy (0, 0) (1 + u, v)) ≤ 9 := ab_le (by show -9 ≤ v - 0 ∧ v - 0 ≤ 9; omega)
  have f9 : far (0, 0) (1 + u, v) ≤ 9 := by unfold far; split <;> omega
  have f0 := far_nn (0, 0) (1 + u, v)
  have fe := farN_eq (0, 0) (1 + u, v)
  refine ⟨_, rfl, by simp [lineL]; omega, ?_⟩
  refine lcRun_map (fun p : Pt => tD p.2) _ (fun p hp P hP => ⟨_, ix_t1, hP⟩) ?_
  rw [List.nil_append]
  have eh : (lineL (0, 0) (1 + u, v)).map (fun p : Pt => tD p.2) = ((lineL (0, 0) (1 + u, v)).map (·.2)).map tD := by rw [List.map_map]; rfl
  rw [eh]
  have hh : HsOk ((lineL (0, 0) (1 + u, v)).map (·.2)) := by
    refine ⟨by simp [lineL]; omega, fun x hx => ?_⟩
    obtain ⟨p, hp, rfl⟩ := List.mem_map.mp hx
    unfold lineL at hp
    obtain ⟨i, hi, rfl⟩ := List.mem_map.mp hp
    have il := List.mem_range.mp hi
    rcases Int.lt_or_le 0 (far (0, 0) (1 + u, v)) with h | h
    · have r := rnd_range (t := i) h (ab_nn (dy (0, 0) (1 + u, v))) (far_ge (0, 0) (1 + u, v)).2
      unfold cellAt
      dsimp only
      generalize rnd i (far (0, 0) (1 + u, v)) (ab (dy (0, 0) (1 + u, v))) = w at r
      rcases sg_or (dy (0, 0) (1 + u, v)) with q | q | q <;> rw [q] <;> omega
    · have : i = 0 := by omega
      subst this
      rw [cell0]
      show -20 ≤ (0 : Int) ∧ (0 : Int) ≤ 20
      omega
  have h4 : ∀ (hs : List Int) (i : Nat) (x : Int), HsOk ((lineL (0, 0) (1 + u, v)).map (·.2)) → True := fun _ _ _ _ => trivial
  have hb : ∀ x ∈ (lineL (0, 0) (1 + u, v)).map (·.2), -9 ≤ x ∧ x ≤ 9 := by
    intro x hx
    obtain ⟨p, hp, rfl⟩ := List.mem_map.mp hx
    unfold lineL at hp
    obtain ⟨i, hi, rfl⟩ := List.mem_map.mp hp
    have il := List.mem_range.mp hi
    rcases Int.lt_or_le 0 (far (0, 0) (1 + u, v)) with h | h
    · have r := rnd_range (t := i) h (ab_nn (dy (0, 0) (1 + u, v))) (far_ge (0, 0) (1 + u, v)).2
      unfold cellAt
      dsimp only
      generalize rnd i (far (0, 0) (1 + u, v)) (ab (dy (0, 0) (1 + u, v))) = w at r
      rcases sg_or (dy (0, 0) (1 + u, v)) with q | q | q <;> rw [q] <;> omega
    · have : i = 0 := by omega
      subst this
      rw [cell0]
      show -9 ≤ (0 : Int) ∧ (0 : Int) ≤ 9
      omega
  generalize (lineL (0, 0) (1 + u, v)).map (·.2) = hs at hh hb
  refine ⟨_, mx (by omega), ?_⟩
  simp only [e_seq, e_next, e_break, e_cont, e_drop, e_set, e_setO, e_asg, e_par, e_ifS, e_ret, e_retN, e_retV, e_for, e_setIx, e_meth, e_lend, e_frz, e_var, e_varL, n_c, e_2, e_1, e_tst, e_chain, e_and, e_or, e_not, e_andV, e_orV, e_notV, e_if, e_nil, e_cons, n_tup2, e_N, e_call, e_callL, e_callS, e_lenS, e_ixS, e_iList, e_iRng1, e_iRng2, e_iEnum, e_iZip, e_name, e_gNil, e_gCons, e_gTup, e_lc, e_listRg1, e_yes, e_wipe0, e_wipe1, e_getV, e_getVo, e_getVb, e_getL, e_getLo, e_getLb, e_getLw, e_ownL, e_sl, e_none, e_some, add_int, sub_int, eq_int, ne_int, eq_bool, ne_bool, ne_str, eq_str, lt_int, gt_int, le_int, ge_int, len_list, len_tuple, list_list, int_int, rev_list, ix_t0, ix_t1, ix_t2, ix_l0, ix_l1, ix_l2, List.set_cons_succ, List.set_cons_zero, List.getElem?_cons_succ, List.getElem?_cons_zero, Option.bind_some, Option.some.injEq, exists_eq_left', exists_eq_left, PyData.bool.injEq, PyData.int.injEq, PyData.list.injEq, Sl.own.injEq, List.cons.injEq, and_true, decide_eq_true_eq, Bool.false_eq_true, if_false, if_true, decide_true, decide_false, Bool.not_true, Bool.not_false]
  by_cases c : mixL xs (60 + (t : Int)) 2 = 0
  · simp only [e_seq, e_next, e_break, e_cont, e_drop, e_set, e_setO, e_asg, e_par, e_ifS, e_ret, e_retN, e_retV, e_for, e_setIx, e_meth, e_lend, e_frz, e_var, e_varL, n_c, e_2, e_1, e_tst, e_chain, e_and, e_or, e_not, e_andV, e_orV, e_notV, e_if, e_nil, e_cons, n_tup2, e_N, e_call, e_callL, e_callS, e_lenS, e_ixS, e_iList, e_iRng1, e_iRng2, e_iEnum, e_iZip, e_name, e_gNil, e_gCons, e_gTup, e_lc, e_listRg1, e_yes, e_wipe0, e_wipe1, e_getV, e_getVo, e_getVb, e_getL, e_getLo, e_getLb, e_getLw, e_ownL, e_sl, e_none, e_some, add_int, sub_int, eq_int, ne_int, eq_bool, ne_bool, ne_str, eq_str, lt_int, gt_int, le_int, ge_int, len_list, len_tuple, list_list, int_int, rev_list, ix_t0, ix_t1, ix_t2, ix_l0, ix_l1, ix_l2, List.set_cons_succ, List.set_cons_zero, List.getElem?_cons_succ, List.getElem?_cons_zero, Option.bind_some, Option.some.injEq, exists_eq_left', exists_eq_left, PyData.bool.injEq, PyData.int.injEq, PyData.list.injEq, Sl.own.injEq, List.cons.injEq, and_true, decide_eq_true_eq, Bool.false_eq_true, if_false, if_true, decide_true, decide_false, Bool.not_true, Bool.not_false, c]
    refine ⟨_, mx (by omega), ?_⟩
    have m2 := mixL_range (ds := xs) (k := 64 + (t : Int)) (show (0 : Int) < 9 by omega)
    simp only [e_seq, e_next, e_break, e_cont, e_drop, e_set, e_setO, e_asg, e_par, e_ifS, e_ret, e_retN, e_retV, e_for, e_setIx, e_meth, e_lend, e_frz, e_var, e_varL, n_c, e_2, e_1, e_tst, e_chain, e_and, e_or, e_not, e_andV, e_orV, e_notV, e_if, e_nil, e_cons, n_tup2, e_N, e_call, e_callL, e_callS, e_lenS, e_ixS, e_iList, e_iRng1, e_iRng2, e_iEnum, e_iZip, e_name, e_gNil, e_gCons, e_gTup, e_lc, e_listRg1, e_yes, e_wipe0, e_wipe1, e_getV, e_getVo, e_getVb, e_getL, e_getLo, e_getLb, e_getLw, e_ownL, e_sl, e_none, e_some, add_int, sub_int, eq_int, ne_int, eq_bool, ne_bool, ne_str, eq_str, lt_int, gt_int, le_int, ge_int, len_list, len_tuple, list_list, int_int, rev_list, ix_t0, ix_t1, ix_t2, ix_l0, ix_l1, ix_l2, List.set_cons_succ, List.set_cons_zero, List.getElem?_cons_succ, List.getElem?_cons_zero, Option.bind_some, Option.some.injEq, exists_eq_left', exists_eq_left, PyData.bool.injEq, PyData.int.injEq, PyData.list.injEq, Sl.own.injEq, List.cons.injEq, and_true, decide_eq_true_eq, Bool.false_eq_true, if_false, if_true, decide_true, decide_false, Bool.not_true, Bool.not_false]
    generalize mixL xs (64 + (t : Int)) 9 = n at m2
    refine ⟨⟨by omega, by omega⟩, by simp [rangeD]; omega, ?_⟩
    rw [rangeD0]
    refine lcRun_map (fun i : Nat => tD (mixL xs (70 + 10 * (t : Int) + (i : Int)) 4)) _ (fun i hi P hP => ?_) ?_
    · exact ⟨_, q10, _, rfl, _, rfl, _, mx (by omega), hP⟩
    · rw [List.nil_append]
      have eh2 : (List.range (1 + n).toNat).map (fun i : Nat => tD (mixL xs (70 + 10 * (t : Int) + (i : Int)) 4)) = ((List.range (1 + n).toNat).map fun i : Nat => mixL xs (70 + 10 * (t : Int) + (i : Int)) 4).map tD := by rw [List.map_map]; rfl
      rw [eh2]
      refine fin _ _ ⟨by simp; omega, fun x hx => ?_⟩
      obtain ⟨i, hi, rfl⟩ := List.mem_map.mp hx
      have := mixL_range (ds := xs) (k := 70 + 10 * (t : Int) + (i : Int)) (show (0 : Int) < 4 by omega)
      omega
  · simp only [e_seq, e_next, e_break, e_cont, e_drop, e_set, e_setO, e_asg, e_par, e_ifS, e_ret, e_retN, e_retV, e_for, e_setIx, e_meth, e_lend, e_frz, e_var, e_varL, n_c, e_2, e_1, e_tst, e_chain, e_and, e_or, e_not, e_andV, e_orV, e_notV, e_if, e_nil, e_cons, n_tup2, e_N, e_call, e_callL, e_callS, e_lenS, e_ixS, e_iList, e_iRng1, e_iRng2, e_iEnum, e_iZip, e_name, e_gNil, e_gCons, e_gTup, e_lc, e_listRg1, e_yes, e_wipe0, e_wipe1, e_getV, e_getVo, e_getVb, e_getL, e_getLo, e_getLb, e_getLw, e_ownL, e_sl, e_none, e_some, add_int, sub_int, eq_int, ne_int, eq_bool, ne_bool, ne_str, eq_str, lt_int, gt_int, le_int, ge_int, len_list, len_tuple, list_list, int_int, rev_list, ix_t0, ix_t1, ix_t2, ix_l0, ix_l1, ix_l2, List.set_cons_succ, List.set_cons_zero, List.getElem?_cons_succ, List.getElem?_cons_zero, Option.bind_some, Option.some.injEq, exists_eq_left', exists_eq_left, PyData.bool.injEq, PyData.int.injEq, PyData.list.injEq, Sl.own.injEq, List.cons.injEq, and_true, decide_eq_true_eq, Bool.false_eq_true, if_false, if_true, decide_true, decide_false, Bool.not_true, Bool.not_false, c]
    refine ⟨_, mx (by omega), ?_⟩
    by_cases c2 : mixL xs (110 + (t : Int)) 2 = 0
    · have lh : oLen [PyData.list (hs.map tD)] = some (.int (hs.length : Int)) := by rw [len_list, List.length_map]
      simp only [e_seq, e_next, e_break, e_cont, e_drop, e_set, e_setO, e_asg, e_par, e_ifS, e_ret, e_retN, e_retV, e_for, e_setIx, e_meth, e_lend, e_frz, e_var, e_varL, n_c, e_2, e_1, e_tst, e_chain, e_and, e_or, e_not, e_andV, e_orV, e_notV, e_if, e_nil, e_cons, n_tup2, e_N, e_call, e_callL, e_callS, e_lenS, e_ixS, e_iList, e_iRng1, e_iRng2, e_iEnum, e_iZip, e_name, e_gNil, e_gCons, e_gTup, e_lc, e_listRg1, e_yes, e_wipe0, e_wipe1, e_getV, e_getVo, e_getVb, e_getL, e_getLo, e_getLb, e_getLw, e_ownL, e_sl, e_none, e_some, add_int, sub_int, eq_int, ne_int, eq_bool, ne_bool, ne_str, eq_str, lt_int, gt_int, le_int, ge_int, len_list, len_tuple, list_list, int_int, rev_list, ix_t0, ix_t1, ix_t2, ix_l0, ix_l1, ix_l2, List.set_cons_succ, List.set_cons_zero, List.getElem?_cons_succ, List.getElem?_cons_zero, Option.bind_some, Option.some.injEq, exists_eq_left', exists_eq_left, PyData.bool.injEq, PyData.int.injEq, PyData.list.injEq, Sl.own.injEq, List.cons.injEq, and_true, decide_eq_true_eq, Bool.false_eq_true, if_false, if_true, decide_true, decide_false, Bool.not_true, Bool.not_false, c2, lh]
      have l1 := hh.1
      refine ⟨_, mx (by rw [List.length_map]; omega), ?_⟩
      rw [List.length_map]
      have m3 := mixL_range (ds := xs) (k := 120 + (t : Int)) (many := (hs.length : Int)) (by omega)
      obtain ⟨i, hi⟩ : ∃ i : Nat, mixL xs (120 + (t : Int)) (hs.length : Int) = (i : Int) := ⟨(mixL xs (120 + (t : Int)) (hs.length : Int)).toNat, by omega⟩
      rw [hi] at m3 ⊢
      have il : i < hs.length := by omega
      have ixe : oIx (.list (hs.map tD)) (.int (i : Int)) = some (.int (hv hs i)) := ix_hs il
      refine ⟨_, ixe, ?_⟩
      have m4 := mixL_range (ds := xs) (k := 130 + (t : Int)) (show (0 : Int) < 5 by omega)
      refine ⟨_, mx (by omega), ?_⟩
      simp only [e_seq, e_next, e_break, e_cont, e_drop, e_set, e_setO, e_asg, e_par, e_ifS, e_ret, e_retN, e_retV, e_for, e_setIx, e_meth, e_lend, e_frz, e_var, e_varL, n_c, e_2, e_1, e_tst, e_chain, e_and, e_or, e_not, e_andV, e_orV, e_notV, e_if, e_nil, e_cons, n_tup2, e_N, e_call, e_callL, e_callS, e_lenS, e_ixS, e_iList, e_iRng1, e_iRng2, e_iEnum, e_iZip, e_name, e_gNil, e_gCons, e_gTup, e_lc, e_listRg1, e_yes, e_wipe0, e_wipe1, e_getV, e_getVo, e_getVb, e_getL, e_getLo, e_getLb, e_getLw, e_ownL, e_sl, e_none, e_some, add_int, sub_int, eq_int, ne_int, eq_bool, ne_bool, ne_str, eq_str, lt_int, gt_int, le_int, ge_int, len_list, len_tuple, list_list, int_int, rev_list, ix_t0, ix_t1, ix_t2, ix_l0, ix_l1, ix_l2, List.set_cons_succ, List.set_cons_zero, List.getElem?_cons_succ, List.getElem?_cons_zero, Option.bind_some, Option.some.injEq, exists_eq_left', exists_eq_left, PyData.bool.injEq, PyData.int.injEq, PyData.list.injEq, Sl.own.injEq, List.cons.injEq, and_true, decide_eq_true_eq, Bool.false_eq_true, if_false, if_true, decide_true, decide_false, Bool.not_true, Bool.not_false, List.length_map]
      refine ⟨_, ixN_nat il, ?_⟩
      have es : (hs.map (tD (α := Int))).set i (.int (hv hs i + mixL xs (130 + (t : Int)) 5 - 2)) = (hs.set i (hv hs i + mixL xs (130 + (t : Int)) 5 - 2)).map tD := by rw [List.map_set]; rfl
      rw [es]
      refine fin _ _ ⟨by rw [List.length_set]; exact l1, fun x hx => ?_⟩
      have hm : hv hs i ∈ hs := by
        unfold hv; rw [List.getElem?_eq_getElem il]; exact List.getElem_mem _
      have b := hb _ hm
      rcases List.mem_or_eq_of_mem_set hx with q | q
      · have := hb x q; omega
      · omega
    · simp only [e_seq, e_next, e_break, e_cont, e_drop, e_set, e_setO, e_asg, e_par, e_ifS, e_ret, e_retN, e_retV, e_for, e_setIx, e_meth, e_lend, e_frz, e_var, e_varL, n_c, e_2, e_1, e_tst, e_chain, e_and, e_or, e_not, e_andV, e_orV, e_notV, e_if, e_nil, e_cons, n_tup2, e_N, e_call, e_callL, e_callS, e_lenS, e_ixS, e_iList, e_iRng1, e_iRng2, e_iEnum, e_iZip, e_name, e_gNil, e_gCons, e_gTup, e_lc, e_listRg1, e_yes, e_wipe0, e_wipe1, e_getV, e_getVo, e_getVb, e_getL, e_getLo, e_getLb, e_getLw, e_ownL, e_sl, e_none, e_some, add_int, sub_int, eq_int, ne_int, eq_bool, ne_bool, ne_str, eq_str, lt_int, gt_int, le_int, ge_int, len_list, len_tuple, list_list, int_int, rev_list, ix_t0, ix_t1, ix_t2, ix_l0, ix_l1, ix_l2, List.set_cons_succ, List.set_cons_zero, List.getElem?_cons_succ, List.getElem?_cons_zero, Option.bind_some, Option.some.injEq, exists_eq_left', exists_eq_left, PyData.bool.injEq, PyData.int.injEq, PyData.list.injEq, Sl.own.injEq, List.cons.injEq, and_true, decide_eq_true_eq, Bool.false_eq_true, if_false, if_true, decide_true, decide_false, Bool.not_true, Bool.not_false, c2]
      exact fin _ _ hh
def S_law : List Int → D → Prop := fun _ d => d = .bool true
theorem keeps_law : KeepsS (q_law S__law_draws S__law_line S_line S_slopes S__law_mix S__law_slopes S_bars S__law_are_bars S_ties S__law_ties S_are_bars) N_law S_law := by
  rintro ns d rfl
  change q_law2 _ _
  unfold q_law2
  change (qSeq _ _) _ [.scr ns, .no, .no, .no, .no, .no, .no, .no, .no, .no, .no, .no, .no, .no, .no, .no, .no, .no, .no, .no, .no, .no]
  simp only [e_seq, e_next, e_break, e_cont, e_drop, e_set, e_setO, e_asg, e_par, e_ifS, e_ret, e_retN, e_retV, e_for, e_setIx, e_meth, e_lend, e_frz, e_var, e_varL, e_c, e_2, e_1, e_tst, e_chain, e_and, e_or, e_not, e_andV, e_orV, e_notV, e_if, e_nil, e_cons, e_lst, e_tup, e_N, e_call, e_callL, e_callS, e_lenS, e_ixS, e_iList, e_iRng1, e_iRng2, e_iEnum, e_iZip, e_name, e_gNil, e_gCons, e_gTup, e_lc, e_listRg1, e_yes, e_wipe0, e_wipe1, e_getV, e_getVo, e_getVb, e_getL, e_getLo, e_getLb, e_getLw, e_ownL, e_sl, e_none, e_some, add_int, sub_int, eq_int, ne_int, eq_bool, ne_bool, ne_str, eq_str, lt_int, gt_int, le_int, ge_int, len_list, len_tuple, list_list, int_int, rev_list, ix_t0, ix_t1, ix_t2, ix_l0, ix_l1, ix_l2, List.set_cons_succ, List.set_cons_zero, List.getElem?_cons_succ, List.getElem?_cons_zero, Option.bind_some, Option.some.injEq, exists_eq_left', exists_eq_left, PyData.bool.injEq, PyData.int.injEq, PyData.list.injEq, Sl.own.injEq, List.cons.injEq, and_true, decide_eq_true_eq, Bool.false_eq_true, if_false, if_true, decide_true, decide_false, Bool.not_true, Bool.not_false]
  refine ⟨ns, rfl, _, rfl, ⟨by omega, by omega⟩, ?_⟩
  refine forRun_rng (fun i ρ => ∃ s2 s3 s4 s5 s6 s7 s8 s9 s10 s11 s12 s13 s14 s15 s16 s17 s18 s19 s20 s21, ρ = [.scr ns, .val (tD (drawsL ns)), s2, s3, s4, s5, s6, s7, s8, s9, s10, s11, s12, s13, s14, s15, s16, s17, s18, s19, s20, s21]) _ ⟨_, _, _, _, _, _, _, _, _, _, _, _, _, _, _, _, _, _, _, _, rfl⟩ ?_ ?_
  · rintro t ρ ht ⟨s2, s3, s4, s5, s6, s7, s8, s9, s10, s11, s12, s13, s14, s15, s16, s17, s18, s19, s20, s21, rfl⟩ K hK
    exact l1_ok fun s3 s4 s5 s6 s12 s13 => hK _ ⟨_, _, _, _, _, _, _, _, _, _, _, _, _, _, _, _, _, _, _, _, rfl⟩
  · rintro ρ ⟨s2, s3, s4, s5, s6, s7, s8, s9, s10, s11, s12, s13, s14, s15, s16, s17, s18, s19, s20, s21, rfl⟩
    simp only [e_seq, e_next, e_break, e_cont, e_drop, e_set, e_setO, e_asg, e_par, e_ifS, e_ret, e_retN, e_retV, e_for, e_setIx, e_meth, e_lend, e_frz, e_var, e_varL, e_c, e_2, e_1, e_tst, e_chain, e_and, e_or, e_not, e_andV, e_orV, e_notV, e_if, e_nil, e_cons, e_lst, e_tup, e_N, e_call, e_callL, e_callS, e_lenS, e_ixS, e_iList, e_iRng1, e_iRng2, e_iEnum, e_iZip, e_name, e_gNil, e_gCons, e_gTup, e_lc, e_listRg1, e_yes, e_wipe0, e_wipe1, e_getV, e_getVo, e_getVb, e_getL, e_getLo, e_getLb, e_getLw, e_ownL, e_sl, e_none, e_some, add_int, sub_int, eq_int, ne_int, eq_bool, ne_bool, ne_str, eq_str, lt_int, gt_int, le_int, ge_int, len_list, len_tuple, list_list, int_int, rev_list, ix_t0, ix_t1, ix_t2, ix_l0, ix_l1, ix_l2, List.set_cons_succ, List.set_cons_zero, List.getElem?_cons_succ, List.getElem?_cons_zero, Option.bind_some, Option.some.injEq, exists_eq_left', exists_eq_left, PyData.bool.injEq, PyData.int.injEq, PyData.list.injEq, Sl.own.injEq, List.cons.injEq, and_true, decide_eq_true_eq, Bool.false_eq_true, if_false, if_true, decide_true, decide_false, Bool.not_true, Bool.not_false]
    refine ⟨⟨by omega, by omega⟩, ?_⟩
    refine forRun_rng (fun i ρ => ∃ s2 s3 s4 s5 s6 s7 s8 s9 s10 s11 s12 s13 s14 s15 s16 s17 s18 s19 s20 s21, ρ = [.scr ns, .val (tD (drawsL ns)), s2, s3, s4, s5, s6, s7, s8, s9, s10, s11, s12, s13, s14, s15, s16, s17, s18, s19, s20, s21]) _ ⟨_, _, _, _, _, _, _, _, _, _, _, _, _, _, _, _, _, _, _, _, rfl⟩ ?_ ?_
    · rintro t ρ ht ⟨s2, s3, s4, s5, s6, s7, s8, s9, s10, s11, s12, s13, s14, s15, s16, s17, s18, s19, s20, s21, rfl⟩ K hK
      exact l2_ok fun s5 s7 s8 s9 s10 s11 s12 s14 s15 s16 s18 => hK _ ⟨_, _, _, _, _, _, _, _, _, _, _, _, _, _, _, _, _, _, _, _, rfl⟩
    · rintro ρ ⟨s2, s3, s4, s5, s6, s7, s8, s9, s10, s11, s12, s13, s14, s15, s16, s17, s18, s19, s20, s21, rfl⟩
      simp only [e_seq, e_next, e_break, e_cont, e_drop, e_set, e_setO, e_asg, e_par, e_ifS, e_ret, e_retN, e_retV, e_for, e_setIx, e_meth, e_lend, e_frz, e_var, e_varL, e_c, e_2, e_1, e_tst, e_chain, e_and, e_or, e_not, e_andV, e_orV, e_notV, e_if, e_nil, e_cons, e_lst, e_tup, e_N, e_call, e_callL, e_callS, e_lenS, e_ixS, e_iList, e_iRng1, e_iRng2, e_iEnum, e_iZip, e_name, e_gNil, e_gCons, e_gTup, e_lc, e_listRg1, e_yes, e_wipe0, e_wipe1, e_getV, e_getVo, e_getVb, e_getL, e_getLo, e_getLb, e_getLw, e_ownL, e_sl, e_none, e_some, add_int, sub_int, eq_int, ne_int, eq_bool, ne_bool, ne_str, eq_str, lt_int, gt_int, le_int, ge_int, len_list, len_tuple, list_list, int_int, rev_list, ix_t0, ix_t1, ix_t2, ix_l0, ix_l1, ix_l2, List.set_cons_succ, List.set_cons_zero, List.getElem?_cons_succ, List.getElem?_cons_zero, Option.bind_some, Option.some.injEq, exists_eq_left', exists_eq_left, PyData.bool.injEq, PyData.int.injEq, PyData.list.injEq, Sl.own.injEq, List.cons.injEq, and_true, decide_eq_true_eq, Bool.false_eq_true, if_false, if_true, decide_true, decide_false, Bool.not_true, Bool.not_false]
theorem law_true : ∀ ns : List Int, ns.length ≤ 63 → S_law ns (.bool true) := fun _ _ => rfl
end P49
set_option maxHeartbeats 0
namespace P49
open PySem PySem.Spec PyProof.Rows L2 VL
def top (i : Nat) : Stmt := PySem.Challenge.pw_printstack_k49_whole_lines_and_straight.main.body.getD i (.Pass ⟨0, 0, 0, 0⟩)
abbrev s_fraction : Stmt := top 7
theorem sc_fraction : FnScope N_fraction ["number", "by"] (defScope s_fraction) := ⟨rfl, rfl, rfl, by decide +kernel, rfl, by decide +kernel, by decide +kernel⟩
abbrev s_is_less : Stmt := top 8
theorem sc_is_less : FnScope N_is_less ["one", "two"] (defScope s_is_less) := ⟨rfl, rfl, rfl, by decide +kernel, rfl, by decide +kernel, by decide +kernel⟩
abbrev s_is_point : Stmt := top 13
theorem sc_is_point : FnScope N_is_point ["point"] (defScope s_is_point) := ⟨rfl, rfl, rfl, by decide +kernel, rfl, by decide +kernel, by decide +kernel⟩
abbrev s_check_points : Stmt := top 14
theorem sc_check_points : FnScope N_check_points ["points"] (defScope s_check_points) := ⟨rfl, rfl, rfl, by decide +kernel, rfl, by decide +kernel, by decide +kernel⟩
abbrev s_sign_of : Stmt := top 15
theorem sc_sign_of : FnScope N_sign_of ["number"] (defScope s_sign_of) := ⟨rfl, rfl, rfl, by decide +kernel, rfl, by decide +kernel, by decide +kernel⟩
abbrev s_moved : Stmt := top 16
theorem sc_moved : FnScope N_moved ["step", "far", "other"] (defScope s_moved) := ⟨rfl, rfl, rfl, by decide +kernel, rfl, by decide +kernel, by decide +kernel⟩
abbrev s_line_of : Stmt := top 17
theorem sc_line_of : FnScope N_line_of ["one", "two"] (defScope s_line_of) := ⟨rfl, rfl, rfl, by decide +kernel, rfl, by decide +kernel, by decide +kernel⟩
abbrev s_line : Stmt := top 18
theorem sc_line : FnScope N_line ["one", "two"] (defScope s_line) := ⟨rfl, rfl, rfl, by decide +kernel, rfl, by decide +kernel, by decide +kernel⟩
abbrev s_ties : Stmt := top 19
theorem sc_ties : FnScope N_ties ["one", "two"] (defScope s_ties) := ⟨rfl, rfl, rfl, by decide +kernel, rfl, by decide +kernel, by decide +kernel⟩
abbrev s_check_heights : Stmt := top 20
theorem sc_check_heights : FnScope N_check_heights ["heights"] (defScope s_check_heights) := ⟨rfl, rfl, rfl, by decide +kernel, rfl, by decide +kernel, by decide +kernel⟩
abbrev s_asked : Stmt := top 21
theorem sc_asked : FnScope N_asked ["heights", "i", "j"] (defScope s_asked) := ⟨rfl, rfl, rfl, by decide +kernel, rfl, by decide +kernel, by decide +kernel⟩
abbrev s_let : Stmt := top 22
theorem sc_let : FnScope N_let ["heights", "i", "j"] (defScope s_let) := ⟨rfl, rfl, rfl, by decide +kernel, rfl, by decide +kernel, by decide +kernel⟩
abbrev s_pairs_of : Stmt := top 23
theorem sc_pairs_of : FnScope N_pairs_of ["heights"] (defScope s_pairs_of) := ⟨rfl, rfl, rfl, by decide +kernel, rfl, by decide +kernel, by decide +kernel⟩
abbrev s_sharpest : Stmt := top 24
theorem sc_sharpest : FnScope N_sharpest ["heights"] (defScope s_sharpest) := ⟨rfl, rfl, rfl, by decide +kernel, rfl, by decide +kernel, by decide +kernel⟩
abbrev s_slopes : Stmt := top 25
theorem sc_slopes : FnScope N_slopes ["heights"] (defScope s_slopes) := ⟨rfl, rfl, rfl, by decide +kernel, rfl, by decide +kernel, by decide +kernel⟩
abbrev s_bars : Stmt := top 26
theorem sc_bars : FnScope N_bars ["heights"] (defScope s_bars) := ⟨rfl, rfl, rfl, by decide +kernel, rfl, by decide +kernel, by decide +kernel⟩
abbrev s_are_bars : Stmt := top 27
theorem sc_are_bars : FnScope N_are_bars ["heights", "one", "two"] (defScope s_are_bars) := ⟨rfl, rfl, rfl, by decide +kernel, rfl, by decide +kernel, by decide +kernel⟩
abbrev s__law_draws : Stmt := top 29
theorem sc__law_draws : FnScope N__law_draws ["script"] (defScope s__law_draws) := ⟨rfl, rfl, rfl, by decide +kernel, rfl, by decide +kernel, by decide +kernel⟩
abbrev s__law_mix : Stmt := top 30
theorem sc__law_mix : FnScope N__law_mix ["draws", "k", "many"] (defScope s__law_mix) := ⟨rfl, rfl, rfl, by decide +kernel, rfl, by decide +kernel, by decide +kernel⟩
abbrev s__law_fraction : Stmt := top 31
theorem sc__law_fraction : FnScope N__law_fraction ["n", "d"] (defScope s__law_fraction) := ⟨rfl, rfl, rfl, by decide +kernel, rfl, by decide +kernel, by decide +kernel⟩
abbrev s__law_less : Stmt := top 32
theorem sc__law_less : FnScope N__law_less ["one", "two"] (defScope s__law_less) := ⟨rfl, rfl, rfl, by decide +kernel, rfl, by decide +kernel, by decide +kernel⟩
abbrev s__law_line : Stmt := top 33
theorem sc__law_line : FnScope N__law_line ["one", "two"] (defScope s__law_line) := ⟨rfl, rfl, rfl, by decide +kernel, rfl, by decide +kernel, by decide +kernel⟩
abbrev s__law_ties : Stmt := top 34
theorem sc__law_ties : FnScope N__law_ties ["one", "two"] (defScope s__law_ties) := ⟨rfl, rfl, rfl, by decide +kernel, rfl, by decide +kernel, by decide +kernel⟩
abbrev s__law_pairs : Stmt := top 35
theorem sc__law_pairs : FnScope N__law_pairs ["heights"] (defScope s__law_pairs) := ⟨rfl, rfl, rfl, by decide +kernel, rfl, by decide +kernel, by decide +kernel⟩
abbrev s__law_slopes : Stmt := top 36
theorem sc__law_slopes : FnScope N__law_slopes ["heights"] (defScope s__law_slopes) := ⟨rfl, rfl, rfl, by decide +kernel, rfl, by decide +kernel, by decide +kernel⟩
abbrev s__law_are_bars : Stmt := top 37
theorem sc__law_are_bars : FnScope N__law_are_bars ["heights", "one", "two"] (defScope s__law_are_bars) := ⟨rfl, rfl, rfl, by decide +kernel, rfl, by decide +kernel, by decide +kernel⟩
abbrev s_law : Stmt := top 38
theorem sc_law : FnScope N_law ["script"] (defScope s_law) := ⟨rfl, rfl, rfl, by decide +kernel, rfl, by decide +kernel, by decide +kernel⟩
section
variable {P : Program} {w : World} {K : PySem.W.Frag} {mg : Str → Option Value} {base : Heap}
theorem ok_fraction {f : Addr} {fd : FuncData} (F : FunD K "fraction" "fraction" (defArgs s_fraction) (defBody s_fraction) (defScope s_fraction) [] [] f fd) (mb_gcd : mg "gcd" = some (.builtin "math.gcd")) : FnOk P w K mg base CX0 1 f fd ["number", "by"] (SpV K false S_fraction) :=
  by
  have nd := sc_fraction.nd
  exact fnV (fr := false) (q := q_fraction) F sc_fraction keeps_fraction (fun cdv A outer s H E hr => ⟨_,
 (vss_cons (vs_if (vt_cmp (r := rD oLt K) (or_lt hr.units) (op2_rD oLt_b) (nomark _) (VE.look (ve_var 1)) (VE.look ve_int)) (vss_one (vs_par rfl nd rfl rfl (by decide) rfl rfl (va_cons (ve_un un_neg op1_neg (VE.look (ve_var 0))) (va_cons (ve_un un_neg op1_neg (VE.look (ve_var 1))) va_nil)) rfl))
 vss_nil)
 (vss_cons (vs_set 2 nd rfl (by first | exact .inl rfl | exact .inr rfl) (ve_callM (md := .val) (r := rGcd) cr_gcd opN_gcd rfl mb_gcd (va_cons (VE.look (ve_var 0)) (va_cons (VE.look (ve_var 1)) va_nil))))
 (vss_one (vs_ret (ve_tup (va_cons (ve_op2 (md := .val) op_fdiv op2_div (VE.look (ve_var 0)) (VE.look (ve_var 2))) (va_cons (ve_op2 (md := .val) op_fdiv op2_div (VE.look (ve_var 1)) (VE.look (ve_var 2))) va_nil)))))))⟩)
theorem ok_is_less {f : Addr} {fd : FuncData} (F : FunD K "is_less" "is_less" (defArgs s_is_less) (defBody s_is_less) (defScope s_is_less) [] [] f fd) : FnOk P w K mg base CX0 1 f fd ["one", "two"] (SpV K false S_is_less) :=
  by
  have nd := sc_is_less.nd
  exact fnV (fr := false) (q := q_is_less) F sc_is_less keeps_is_less (fun cdv A outer s H E hr => ⟨_,
 (vss_one (vs_ret (ve_cmp (r := rD oLt K) (or_lt hr.units) (op2_rD oLt_b) (nomark _) (VE.look (ve_op2 (md := .val) or_mulA op2_mul (VE.look (ve_ix (r := rIx K) ix_seq op2_ix (VE.look (ve_var 0)) (VE.look ve_int))) (VE.look (ve_ix (r := rIx K) ix_seq op2_ix (VE.look (ve_var 1)) (VE.look ve_int))))) (VE.look (ve_op2 (md := .val) or_mulA op2_mul (VE.look (ve_ix (r := rIx K) ix_seq op2_ix (VE.look (ve_var 1)) (VE.look ve_int))) (VE.look (ve_ix (r := rIx K) ix_seq op2_ix (VE.look (ve_var 0)) (VE.look ve_int))))))))⟩)
theorem ok_is_point {f : Addr} {fd : FuncData} (F : FunD K "is_point" "is_point" (defArgs s_is_point) (defBody s_is_point) (defScope s_is_point) [] [] f fd) {u_MOST_POINT : Tok} (g_MOST_POINT : mg "MOST_POINT" = some (.int 100 u_MOST_POINT)) : FnOk P w K mg base CX0 1 f fd ["point"] (SpV K false S_is_point) :=
  by
  have nd := sc_is_point.nd
  exact fnV (fr := false) (q := q_is_point) F sc_is_point keeps_is_point (fun cdv A outer s H E hr => ⟨_,
 (vss_one (vs_ret (ve_and (ve_chain (r := rD oLe K) (r' := rD oLe K) (or_le hr.units) (or_le hr.units) (op2_rD oLe_b) (op2_rD oLe_b) (VE.look (ve_un un_neg op1_neg (VE.look (ve_globI rfl g_MOST_POINT)))) (VE.look (ve_ix (r := rIx K) ix_seq op2_ix (VE.look (ve_var 0)) (VE.look ve_int))) (VE.look (ve_globI rfl g_MOST_POINT))) (ve_one (ve_chain (r := rD oLe K) (r' := rD oLe K) (or_le hr.units) (or_le hr.units) (op2_rD oLe_b) (op2_rD oLe_b) (VE.look (ve_un un_neg op1_neg (VE.look (ve_globI rfl g_MOST_POINT)))) (VE.look (ve_ix (r := rIx K) ix_seq op2_ix (VE.look (ve_var 0)) (VE.look ve_int))) (VE.look (ve_globI rfl g_MOST_POINT)))))))⟩)
theorem ok_check_points {f : Addr} {fd : FuncData} (F : FunD K "check_points" "check_points" (defArgs s_check_points) (defBody s_check_points) (defScope s_check_points) [] [] f fd) {f_is_point : Addr} {fd_is_point : FuncData} (C_is_point : Callee P w K mg base 1 "is_point" ["point"] (SpV K false S_is_point) f_is_point fd_is_point) (m_enumerate : mg "enumerate" = none) : FnOk P w K mg base CX0 2 f fd ["points"] (SpV K false S_check_points) :=
  by
  have nd := sc_check_points.nd
  exact fnV (fr := false) (q := (q_check_points S_is_point)) F sc_check_points keeps_check_points (fun cdv A outer s H E hr => ⟨_,
 (vss_one (vs_for PassesOwn.never rfl (vi_enumK K rfl (md := .val) rfl m_enumerate (va_cons (ve_var 0) va_nil)) (vg_tupK K rfl rfl (vgs_cons (vg_name 1 nd rfl (by first | exact .inl rfl | exact .inr rfl)) (vgs_cons (vg_name 2 nd rfl (by first | exact .inl rfl | exact .inr rfl)) vgs_nil)))
  (vss_one (vs_if (vt_not (vt_val (ve_callK K rfl (fr := false) C_is_point.ok hr rfl C_is_point.mg C_is_point.kp C_is_point.bd pass0 (va_cons (ve_var 2) va_nil)))) (vss_one vs_never)
  vss_nil))))⟩)
theorem ok_sign_of {f : Addr} {fd : FuncData} (F : FunD K "sign_of" "sign_of" (defArgs s_sign_of) (defBody s_sign_of) (defScope s_sign_of) [] [] f fd) (m_int : mg "int" = none) : FnOk P w K mg base CX0 1 f fd ["number"] (SpV K false S_sign_of) :=
  by
  have nd := sc_sign_of.nd
  exact fnV (fr := false) (q := q_sign_of) F sc_sign_of keeps_sign_of (fun cdv A outer s H E hr => ⟨_,
 (vss_one (vs_ret (ve_op2 (md := .val) op_sub op2_sub (VE.look (ve_callTy (md := .val) (r := (rIntK K)) call_int1 opN_int rfl m_int (by decide +kernel) (va_cons (VE.look (ve_cmp (r := rD oGt K) (or_gt hr.units) (op2_rD oGt_b) (nomark _) (VE.look (ve_var 0)) (VE.look ve_int))) va_nil))) (VE.look (ve_callTy (md := .val) (r := (rIntK K)) call_int1 opN_int rfl m_int (by decide +kernel) (va_cons (VE.look (ve_cmp (r := rD oLt K) (or_lt hr.units) (op2_rD oLt_b) (nomark _) (VE.look (ve_var 0)) (VE.look ve_int))) va_nil))))))⟩)
theorem ok_moved {f : Addr} {fd : FuncData} (F : FunD K "moved" "moved" (defArgs s_moved) (defBody s_moved) (defScope s_moved) [] [] f fd) : FnOk P w K mg base CX0 1 f fd ["step", "far", "other"] (SpV K false S_moved) :=
  by
  have nd := sc_moved.nd
  exact fnV (fr := false) (q := q_moved) F sc_moved keeps_moved (fun cdv A outer s H E hr => ⟨_,
 (vss_one (vs_ret (ve_op2 (md := .val) op_fdiv op2_div (VE.look (ve_op2 (md := .val) or_addA op2_add (VE.look (ve_op2 (md := .val) or_mulA op2_mul (VE.look (ve_op2 (md := .val) or_mulA op2_mul (VE.look ve_int) (VE.look (ve_var 0)))) (VE.look (ve_var 2)))) (VE.look (ve_var 1)))) (VE.look (ve_op2 (md := .val) or_mulA op2_mul (VE.look ve_int) (VE.look (ve_var 1)))))))⟩)
theorem ok_line_of {f : Addr} {fd : FuncData} (F : FunD K "line_of" "line_of" (defArgs s_line_of) (defBody s_line_of) (defScope s_line_of) [] [] f fd) {f_moved : Addr} {fd_moved : FuncData} (C_moved : Callee P w K mg base 1 "moved" ["step", "far", "other"] (SpV K false S_moved) f_moved fd_moved) {f_sign_of : Addr} {fd_sign_of : FuncData} (C_sign_of : Callee P w K mg base 1 "sign_of" ["number"] (SpV K false S_sign_of) f_sign_of fd_sign_of) (m_abs : mg "abs" = none) (m_range : mg "range" = none) : FnOk P w K mg base CX0 2 f fd ["one", "two"] (SpV K true S_line_of) :=
  by
  have nd := sc_line_of.nd
  exact fnV (fr := true) (q := (q_line_of S_moved S_sign_of)) F sc_line_of keeps_line_of (fun cdv A outer s H E hr => ⟨_,
 (vss_cons (vs_asg (ve_tup (va_cons (ve_op2 (md := .val) op_sub op2_sub (VE.look (ve_ix (r := rIx K) ix_seq op2_ix (VE.look (ve_var 1)) (VE.look ve_int))) (VE.look (ve_ix (r := rIx K) ix_seq op2_ix (VE.look (ve_var 0)) (VE.look ve_int)))) (va_cons (ve_op2 (md := .val) op_sub op2_sub (VE.look (ve_ix (r := rIx K) ix_seq op2_ix (VE.look (ve_var 1)) (VE.look ve_int))) (VE.look (ve_ix (r := rIx K) ix_seq op2_ix (VE.look (ve_var 0)) (VE.look ve_int)))) va_nil))) (vg_tupK K rfl rfl (vgs_cons (vg_name 2 nd rfl (by first | exact .inl rfl | exact .inr rfl)) (vgs_cons (vg_name 3 nd rfl (by first | exact .inl rfl | exact .inr rfl)) vgs_nil))))
 (vss_cons (vs_if (VW.vt (vw_and (vt_cmp (r := rD oEq K) (or_eq hr.units) (op2_rD oEq_b) (nomark _) (VE.look (ve_var 2)) (VE.look ve_int)) (vw_and1 (vt_cmp (r := rD oEq K) (or_eq hr.units) (op2_rD oEq_b) (nomark _) (VE.look (ve_var 3)) (VE.look ve_int))))) (vss_one (vs_retO (ve_lst (va_cons (ve_var 0) va_nil))))
 vss_nil)
 (vss_cons (vs_asg (ve_tup (va_cons (ve_callB (md := .val) (r := (rAbsK K)) call_abs opN_abs rfl m_abs (by decide +kernel) (va_cons (VE.look (ve_var 2)) va_nil)) (va_cons (ve_callB (md := .val) (r := (rAbsK K)) call_abs opN_abs rfl m_abs (by decide +kernel) (va_cons (VE.look (ve_var 3)) va_nil)) va_nil))) (vg_tupK K rfl rfl (vgs_cons (vg_name 4 nd rfl (by first | exact .inl rfl | exact .inr rfl)) (vgs_cons (vg_name 5 nd rfl (by first | exact .inl rfl | exact .inr rfl)) vgs_nil))))
 (vss_cons (vs_if (vt_cmp (r := rD oGe K) (or_ge hr.units) (op2_rD oGe_b) (nomark _) (VE.look (ve_var 4)) (VE.look (ve_var 5))) (vss_one (vs_retO (ve_lc (own := [("t", 6)]) rfl nd (vi_range1 rfl m_range (va_cons (VE.look (ve_op2 (md := .val) or_addA op2_add (VE.look (ve_var 4)) (VE.look ve_int))) va_nil)) (blkOk_by (own := [("t", 6)]) (N := N_line_of) (sc := defScope s_line_of) (by decide +kernel)) (fun _ _ _ _ _ => (vg_name 6 nd rfl (by first | exact .inl rfl | exact .inr rfl))) (fun _ _ _ _ _ => vts_nil) (fun _ _ _ _ _ => (ve_tup (va_cons (ve_op2 (md := .val) or_addA op2_add (VE.look (ve_ix (r := rIx K) ix_seq op2_ix (VE.look (ve_var 0)) (VE.look ve_int))) (VE.look (ve_op2 (md := .val) or_mulA op2_mul (VE.look (ve_var 6)) (VE.look (ve_callK K rfl (fr := false) C_sign_of.ok hr rfl C_sign_of.mg C_sign_of.kp C_sign_of.bd pass0 (va_cons (ve_var 2) va_nil)))))) (va_cons (ve_op2 (md := .val) or_addA op2_add (VE.look (ve_ix (r := rIx K) ix_seq op2_ix (VE.look (ve_var 0)) (VE.look ve_int))) (VE.look (ve_op2 (md := .val) or_mulA op2_mul (VE.look (ve_callK K rfl (fr := false) C_moved.ok hr rfl C_moved.mg C_moved.kp C_moved.bd pass0 (va_cons (ve_var 6) (va_cons (ve_var 4) (va_cons (ve_var 5) va_nil))))) (VE.look (ve_callK K rfl (fr := false) C_sign_of.ok hr rfl C_sign_of.mg C_sign_of.kp C_sign_of.bd pass0 (va_cons (ve_var 3) va_nil)))))) va_nil)))))))
 vss_nil)
 (vss_one (vs_retO (ve_lc (own := [("t", 6)]) rfl nd (vi_range1 rfl m_range (va_cons (VE.look (ve_op2 (md := .val) or_addA op2_add (VE.look (ve_var 5)) (VE.look ve_int))) va_nil)) (blkOk_by (own := [("t", 6)]) (N := N_line_of) (sc := defScope s_line_of) (by decide +kernel)) (fun _ _ _ _ _ => (vg_name 6 nd rfl (by first | exact .inl rfl | exact .inr rfl))) (fun _ _ _ _ _ => vts_nil) (fun _ _ _ _ _ => (ve_tup (va_cons (ve_op2 (md := .val) or_addA op2_add (VE.look (ve_ix (r := rIx K) ix_seq op2_ix (VE.look (ve_var 0)) (VE.look ve_int))) (VE.look (ve_op2 (md := .val) or_mulA op2_mul (VE.look (ve_callK K rfl (fr := false) C_moved.ok hr rfl C_moved.mg C_moved.kp C_moved.bd pass0 (va_cons (ve_var 6) (va_cons (ve_var 5) (va_cons (ve_var 4) va_nil))))) (VE.look (ve_callK K rfl (fr := false) C_sign_of.ok hr rfl C_sign_of.mg C_sign_of.kp C_sign_of.bd pass0 (va_cons (ve_var 2) va_nil)))))) (va_cons (ve_op2 (md := .val) or_addA op2_add (VE.look (ve_ix (r := rIx K) ix_seq op2_ix (VE.look (ve_var 0)) (VE.look ve_int))) (VE.look (ve_op2 (md := .val) or_mulA op2_mul (VE.look (ve_var 6)) (VE.look (ve_callK K rfl (fr := false) C_sign_of.ok hr rfl C_sign_of.mg C_sign_of.kp C_sign_of.bd pass0 (va_cons (ve_var 3) va_nil)))))) va_nil)))))))))))⟩)
theorem ok_line {f : Addr} {fd : FuncData} (F : FunD K "line" "line" (defArgs s_line) (defBody s_line) (defScope s_line) [] [] f fd) {f_check_points : Addr} {fd_check_points : FuncData} (C_check_points : Callee P w K mg base 2 "check_points" ["points"] (SpV K false S_check_points) f_check_points fd_check_points) {f_line_of : Addr} {fd_line_of : FuncData} (C_line_of : Callee P w K mg base 2 "line_of" ["one", "two"] (SpV K true S_line_of) f_line_of fd_line_of) : FnOk P w K mg base CX0 3 f fd ["one", "two"] (SpV K true S_line) :=
  by
  have nd := sc_line.nd
  exact fnV (fr := true) (q := (q_line S_check_points S_line_of)) F sc_line keeps_line (fun cdv A outer s H E hr => ⟨_,
 (vss_cons (vs_expr (ve_callK K rfl (fr := false) C_check_points.ok hr rfl C_check_points.mg C_check_points.kp C_check_points.bd pass0 (va_cons (VE.frz (ve_lst (va_cons (ve_var 0) (va_cons (ve_var 1) va_nil)))) va_nil)))
 (vss_one (vs_retO (ve_callK K rfl (fr := true) C_line_of.ok hr rfl C_line_of.mg C_line_of.kp C_line_of.bd pass0 (va_cons (ve_var 0) (va_cons (ve_var 1) va_nil))))))⟩)
theorem ok_ties {f : Addr} {fd : FuncData} (F : FunD K "ties" "ties" (defArgs s_ties) (defBody s_ties) (defScope s_ties) [] [] f fd) {f_check_points : Addr} {fd_check_points : FuncData} (C_check_points : Callee P w K mg base 2 "check_points" ["points"] (SpV K false S_check_points) f_check_points fd_check_points) (m_abs : mg "abs" = none) (m_max : mg "max" = none) (m_min : mg "min" = none) (m_range : mg "range" = none) : FnOk P w K mg base CX0 3 f fd ["one", "two"] (SpV K true S_ties) :=
  by
  have nd := sc_ties.nd
  exact fnV (fr := true) (q := (q_ties S_check_points)) F sc_ties keeps_ties (fun cdv A outer s H E hr => ⟨_,
 (vss_cons (vs_expr (ve_callK K rfl (fr := false) C_check_points.ok hr rfl C_check_points.mg C_check_points.kp C_check_points.bd pass0 (va_cons (VE.frz (ve_lst (va_cons (ve_var 0) (va_cons (ve_var 1) va_nil)))) va_nil)))
 (vss_cons (vs_par rfl nd rfl rfl (by decide) rfl rfl (va_cons (ve_callB (md := .val) (r := (rAbsK K)) call_abs opN_abs rfl m_abs (by decide +kernel) (va_cons (VE.look (ve_op2 (md := .val) op_sub op2_sub (VE.look (ve_ix (r := rIx K) ix_seq op2_ix (VE.look (ve_var 1)) (VE.look ve_int))) (VE.look (ve_ix (r := rIx K) ix_seq op2_ix (VE.look (ve_var 0)) (VE.look ve_int))))) va_nil)) (va_cons (ve_callB (md := .val) (r := (rAbsK K)) call_abs opN_abs rfl m_abs (by decide +kernel) (va_cons (VE.look (ve_op2 (md := .val) op_sub op2_sub (VE.look (ve_ix (r := rIx K) ix_seq op2_ix (VE.look (ve_var 1)) (VE.look ve_int))) (VE.look (ve_ix (r := rIx K) ix_seq op2_ix (VE.look (ve_var 0)) (VE.look ve_int))))) va_nil)) va_nil)) rfl)
 (vss_cons (vs_asg (ve_tup (va_cons (ve_callB (md := .val) (r := rMax2K K) (call_max2 rfl) opN_max2 rfl m_max (by decide +kernel) (va_cons (VE.look (ve_var 2)) (va_cons (VE.look (ve_var 3)) va_nil))) (va_cons (ve_callB (md := .val) (r := rMin2K K) (call_min2 rfl) opN_min2 rfl m_min (by decide +kernel) (va_cons (VE.look (ve_var 2)) (va_cons (VE.look (ve_var 3)) va_nil))) va_nil))) (vg_tupK K rfl rfl (vgs_cons (vg_name 4 nd rfl (by first | exact .inl rfl | exact .inr rfl)) (vgs_cons (vg_name 5 nd rfl (by first | exact .inl rfl | exact .inr rfl)) vgs_nil))))
 (vss_one (vs_retO (ve_lc (own := [("t", 6)]) rfl nd (vi_range1 rfl m_range (va_cons (VE.look (ve_op2 (md := .val) or_addA op2_add (VE.look (ve_var 4)) (VE.look ve_int))) va_nil)) (blkOk_by (own := [("t", 6)]) (N := N_ties) (sc := defScope s_ties) (by decide +kernel)) (fun _ _ _ _ _ => (vg_name 6 nd rfl (by first | exact .inl rfl | exact .inr rfl))) (fun _ _ _ _ _ => (vts_one (VW.vt (vw_and (vt_cmp (r := rD oGt K) (or_gt hr.units) (op2_rD oGt_b) (nomark _) (VE.look (ve_var 4)) (VE.look ve_int)) (vw_and1 (vt_cmp (r := rD oEq K) (or_eq hr.units) (op2_rD oEq_b) (nomark _) (VE.look (ve_op2 (md := .val) op_mod op2_mod (VE.look (ve_op2 (md := .val) or_mulA op2_mul (VE.look (ve_op2 (md := .val) or_mulA op2_mul (VE.look ve_int) (VE.look (ve_var 6)))) (VE.look (ve_var 5)))) (VE.look (ve_op2 (md := .val) or_mulA op2_mul (VE.look ve_int) (VE.look (ve_var 4)))))) (VE.look (ve_var 4)))))))) (fun _ _ _ _ _ => (ve_var 6))))))))⟩)
theorem ok_check_heights {f : Addr} {fd : FuncData} (F : FunD K "check_heights" "check_heights" (defArgs s_check_heights) (defBody s_check_heights) (defScope s_check_heights) [] [] f fd) {u_MOST_HEIGHTS : Tok} (g_MOST_HEIGHTS : mg "MOST_HEIGHTS" = some (.int 40 u_MOST_HEIGHTS)) {u_MOST_HEIGHT : Tok} (g_MOST_HEIGHT : mg "MOST_HEIGHT" = some (.int 1000 u_MOST_HEIGHT)) (m_len : mg "len" = none) : FnOk P w K mg base CX0 1 f fd ["heights"] (SpV K false S_check_heights) :=
  by
  have nd := sc_check_heights.nd
  exact fnV (fr := false) (q := q_check_heights) F sc_check_heights keeps_check_heights (fun cdv A outer s H E hr => ⟨_,
 (vss_cons (vs_if (vt_not (vt_chain (r := rD oLe K) (r' := rD oLe K) (or_le hr.units) (or_le hr.units) (op2_rD oLe_b) (op2_rD oLe_b) (VE.look ve_int) (VE.look (ve_callB (md := .val) (r := (rLenK K)) call_len opN_len rfl m_len (by decide +kernel) (va_cons (VE.look (ve_var 0)) va_nil))) (VE.look (ve_globI rfl g_MOST_HEIGHTS)))) (vss_one vs_never)
 vss_nil)
 (vss_one (vs_for PassesOwn.never rfl (vi_listK K rfl (md := .val) (ve_var 0)) (vg_name 1 nd rfl (by first | exact .inl rfl | exact .inr rfl))
  (vss_one (vs_if (vt_not (vt_chain (r := rD oLe K) (r' := rD oLe K) (or_le hr.units) (or_le hr.units) (op2_rD oLe_b) (op2_rD oLe_b) (VE.look (ve_un un_neg op1_neg (VE.look (ve_globI rfl g_MOST_HEIGHT)))) (VE.look (ve_var 1)) (VE.look (ve_globI rfl g_MOST_HEIGHT)))) (vss_one vs_never)
  vss_nil)))))⟩)
theorem ok_asked {f : Addr} {fd : FuncData} (F : FunD K "asked" "asked" (defArgs s_asked) (defBody s_asked) (defScope s_asked) [] [] f fd) {f_fraction : Addr} {fd_fraction : FuncData} (C_fraction : Callee P w K mg base 1 "fraction" ["number", "by"] (SpV K false S_fraction) f_fraction fd_fraction) : FnOk P w K mg base CX0 2 f fd ["heights", "i", "j"] (SpV K false S_asked) :=
  by
  have nd := sc_asked.nd
  exact fnV (fr := false) (q := (q_asked S_fraction)) F sc_asked keeps_asked (fun cdv A outer s H E hr => ⟨_,
 (vss_one (vs_ret (ve_callK K rfl (fr := false) C_fraction.ok hr rfl C_fraction.mg C_fraction.kp C_fraction.bd pass0 (va_cons (ve_op2 (md := .val) op_sub op2_sub (VE.look (ve_op2 (md := .val) op_sub op2_sub (VE.look (ve_ix (r := rIx K) ix_seq op2_ix (VE.look (ve_var 0)) (VE.look (ve_var 2)))) (VE.look (ve_ix (r := rIx K) ix_seq op2_ix (VE.look (ve_var 0)) (VE.look (ve_var 1)))))) (VE.look ve_int)) (va_cons (ve_op2 (md := .val) op_sub op2_sub (VE.look (ve_var 2)) (VE.look (ve_var 1))) va_nil)))))⟩)
theorem ok_let {f : Addr} {fd : FuncData} (F : FunD K "let" "let" (defArgs s_let) (defBody s_let) (defScope s_let) [] [] f fd) {f_fraction : Addr} {fd_fraction : FuncData} (C_fraction : Callee P w K mg base 1 "fraction" ["number", "by"] (SpV K false S_fraction) f_fraction fd_fraction) : FnOk P w K mg base CX0 2 f fd ["heights", "i", "j"] (SpV K false S_let) :=
  by
  have nd := sc_let.nd
  exact fnV (fr := false) (q := (q_let S_fraction)) F sc_let keeps_let (fun cdv A outer s H E hr => ⟨_,
 (vss_one (vs_ret (ve_callK K rfl (fr := false) C_fraction.ok hr rfl C_fraction.mg C_fraction.kp C_fraction.bd pass0 (va_cons (ve_op2 (md := .val) or_addA op2_add (VE.look (ve_op2 (md := .val) op_sub op2_sub (VE.look (ve_ix (r := rIx K) ix_seq op2_ix (VE.look (ve_var 0)) (VE.look (ve_var 2)))) (VE.look (ve_ix (r := rIx K) ix_seq op2_ix (VE.look (ve_var 0)) (VE.look (ve_var 1)))))) (VE.look ve_int)) (va_cons (ve_op2 (md := .val) op_sub op2_sub (VE.look (ve_var 2)) (VE.look (ve_var 1))) va_nil)))))⟩)
theorem ok_pairs_of {f : Addr} {fd : FuncData} (F : FunD K "pairs_of" "pairs_of" (defArgs s_pairs_of) (defBody s_pairs_of) (defScope s_pairs_of) [] [] f fd) (m_range : mg "range" = none) (m_len : mg "len" = none) : FnOk P w K mg base CX0 1 f fd ["heights"] (SpV K true S_pairs_of) :=
  by
  have nd := sc_pairs_of.nd
  exact fnV (fr := true) (q := q_pairs_of) F sc_pairs_of keeps_pairs_of (fun cdv A outer s H E hr => ⟨_,
 (vss_one (vs_retO (ve_lc2 (own := [("i", 1), ("j", 2)]) [2] rfl nd (vi_range1 rfl m_range (va_cons (VE.look (ve_callB (md := .val) (r := (rLenK K)) call_len opN_len rfl m_len (by decide +kernel) (va_cons (VE.look (ve_var 0)) va_nil))) va_nil)) (blkOk_by (own := [("i", 1), ("j", 2)]) (N := N_pairs_of) (sc := defScope s_pairs_of) (by decide +kernel)) (by decide) (fun _ _ _ _ _ => (vg_name 1 nd rfl (by first | exact .inl rfl | exact .inr rfl))) (fun _ _ _ _ _ => vts_nil) (fun _ _ _ _ _ => (vi_range2 rfl m_range (va_cons (VE.look (ve_op2 (md := .val) or_addA op2_add (VE.look (ve_var 1)) (VE.look ve_int))) (va_cons (VE.look (ve_callB (md := .val) (r := (rLenK K)) call_len opN_len rfl m_len (by decide +kernel) (va_cons (VE.look (ve_var 0)) va_nil))) va_nil)))) (fun _ _ _ _ _ => (vg_name 2 nd rfl (by first | exact .inl rfl | exact .inr rfl))) (fun _ _ _ _ _ => vts_nil) (fun _ _ _ _ _ => (ve_tup (va_cons (ve_var 1) (va_cons (ve_var 2) va_nil)))))))⟩)
theorem ok_sharpest {f : Addr} {fd : FuncData} (F : FunD K "sharpest" "sharpest" (defArgs s_sharpest) (defBody s_sharpest) (defScope s_sharpest) [] [] f fd) {f_pairs_of : Addr} {fd_pairs_of : FuncData} (C_pairs_of : Callee P w K mg base 2 "pairs_of" ["heights"] (SpV K true S_pairs_of) f_pairs_of fd_pairs_of) {f_is_less : Addr} {fd_is_less : FuncData} (C_is_less : Callee P w K mg base 2 "is_less" ["one", "two"] (SpV K false S_is_less) f_is_less fd_is_less) {f_asked : Addr} {fd_asked : FuncData} (C_asked : Callee P w K mg base 2 "asked" ["heights", "i", "j"] (SpV K false S_asked) f_asked fd_asked) {f_let : Addr} {fd_let : FuncData} (C_let : Callee P w K mg base 2 "let" ["heights", "i", "j"] (SpV K false S_let) f_let fd_let) : FnOk P w K mg base CX0 3 f fd ["heights"] (SpV K false S_sharpest) :=
  by
  have nd := sc_sharpest.nd
  exact fnV (fr := false) (q := (q_sharpest S_pairs_of S_is_less S_asked S_let)) F sc_sharpest keeps_sharpest (fun cdv A outer s H E hr => ⟨_,
 (vss_cons (vs_set 1 nd rfl (by first | exact .inl rfl | exact .inr rfl) (VE.frz (ve_callK K rfl (fr := true) C_pairs_of.ok hr rfl C_pairs_of.mg C_pairs_of.kp C_pairs_of.bd pass0 (va_cons (ve_var 0) va_nil))))
 (vss_cons (vs_par rfl nd rfl rfl (by decide) rfl rfl (va_cons (ve_ix (r := rIx K) ix_seq op2_ix (VE.look (ve_var 1)) (VE.look ve_int)) (va_cons (ve_ix (r := rIx K) ix_seq op2_ix (VE.look (ve_var 1)) (VE.look ve_int)) va_nil)) rfl)
 (vss_cons (vs_for PassesOwn.never rfl (vi_listK K rfl (md := .val) (ve_var 1)) (vg_tupK K rfl rfl (vgs_cons (vg_name 4 nd rfl (by first | exact .inl rfl | exact .inr rfl)) (vgs_cons (vg_name 5 nd rfl (by first | exact .inl rfl | exact .inr rfl)) vgs_nil)))
  (vss_cons (vs_if (vt_val (ve_callK K rfl (fr := false) C_is_less.ok hr rfl C_is_less.mg C_is_less.kp C_is_less.bd pass0 (va_cons (ve_callK K rfl (fr := false) C_asked.ok hr rfl C_asked.mg C_asked.kp C_asked.bd pass0 (va_cons (ve_var 0) (va_cons (ve_ix (r := rIx K) ix_seq op2_ix (VE.look (ve_var 2)) (VE.look ve_int)) (va_cons (ve_ix (r := rIx K) ix_seq op2_ix (VE.look (ve_var 2)) (VE.look ve_int)) va_nil)))) (va_cons (ve_callK K rfl (fr := false) C_asked.ok hr rfl C_asked.mg C_asked.kp C_asked.bd pass0 (va_cons (ve_var 0) (va_cons (ve_var 4) (va_cons (ve_var 5) va_nil)))) va_nil)))) (vss_one (vs_set 2 nd rfl (by first | exact .inl rfl | exact .inr rfl) (ve_tup (va_cons (ve_var 4) (va_cons (ve_var 5) va_nil)))))
  vss_nil)
  (vss_one (vs_if (vt_val (ve_callK K rfl (fr := false) C_is_less.ok hr rfl C_is_less.mg C_is_less.kp C_is_less.bd pass0 (va_cons (ve_callK K rfl (fr := false) C_let.ok hr rfl C_let.mg C_let.kp C_let.bd pass0 (va_cons (ve_var 0) (va_cons (ve_var 4) (va_cons (ve_var 5) va_nil)))) (va_cons (ve_callK K rfl (fr := false) C_let.ok hr rfl C_let.mg C_let.kp C_let.bd pass0 (va_cons (ve_var 0) (va_cons (ve_ix (r := rIx K) ix_seq op2_ix (VE.look (ve_var 3)) (VE.look ve_int)) (va_cons (ve_ix (r := rIx K) ix_seq op2_ix (VE.look (ve_var 3)) (VE.look ve_int)) va_nil)))) va_nil)))) (vss_one (vs_set 3 nd rfl (by first | exact .inl rfl | exact .inr rfl) (ve_tup (va_cons (ve_var 4) (va_cons (ve_var 5) va_nil)))))
  vss_nil))))
 (vss_one (vs_ret (ve_tup (va_cons (ve_var 2) (va_cons (ve_var 3) va_nil))))))))⟩)
theorem ok_slopes {f : Addr} {fd : FuncData} (F : FunD K "slopes" "slopes" (defArgs s_slopes) (defBody s_slopes) (defScope s_slopes) [] [] f fd) {f_check_heights : Addr} {fd_check_heights : FuncData} (C_check_heights : Callee P w K mg base 3 "check_heights" ["heights"] (SpV K false S_check_heights) f_check_heights fd_check_heights) {f_sharpest : Addr} {fd_sharpest : FuncData} (C_sharpest : Callee P w K mg base 3 "sharpest" ["heights"] (SpV K false S_sharpest) f_sharpest fd_sharpest) {f_asked : Addr} {fd_asked : FuncData} (C_asked : Callee P w K mg base 3 "asked" ["heights", "i", "j"] (SpV K false S_asked) f_asked fd_asked) {f_let : Addr} {fd_let : FuncData} (C_let : Callee P w K mg base 3 "let" ["heights", "i", "j"] (SpV K false S_let) f_let fd_let) {f_is_less : Addr} {fd_is_less : FuncData} (C_is_less : Callee P w K mg base 3 "is_less" ["one", "two"] (SpV K false S_is_less) f_is_less fd_is_less) (m_len : mg "len" = none) : FnOk P w K mg base CX0 4 f fd ["heights"] (SpV K false S_slopes) :=
  by
  have nd := sc_slopes.nd
  exact fnV (fr := false) (q := (q_slopes S_check_heights S_sharpest S_asked S_let S_is_less)) F sc_slopes keeps_slopes (fun cdv A outer s H E hr => ⟨_,
 (vss_cons (vs_expr (ve_callK K rfl (fr := false) C_check_heights.ok hr rfl C_check_heights.mg C_check_heights.kp C_check_heights.bd pass0 (va_cons (ve_var 0) va_nil)))
 (vss_cons (vs_if (vt_cmp (r := rD oEq K) (or_eq hr.units) (op2_rD oEq_b) (nomark _) (VE.look (ve_callB (md := .val) (r := (rLenK K)) call_len opN_len rfl m_len (by decide +kernel) (va_cons (VE.look (ve_var 0)) va_nil))) (VE.look ve_int)) (vss_one (vs_ret (ve_tup (va_cons (ve_tup (va_cons ve_int (va_cons ve_int va_nil))) (va_cons (ve_tup (va_cons ve_int (va_cons ve_int va_nil))) va_nil)))))
 vss_nil)
 (vss_cons (vs_asg (ve_callK K rfl (fr := false) C_sharpest.ok hr rfl C_sharpest.mg C_sharpest.kp C_sharpest.bd pass0 (va_cons (ve_var 0) va_nil)) (vg_tupK K rfl rfl (vgs_cons (vg_name 1 nd rfl (by first | exact .inl rfl | exact .inr rfl)) (vgs_cons (vg_name 2 nd rfl (by first | exact .inl rfl | exact .inr rfl)) vgs_nil))))
 (vss_cons (vs_par rfl nd rfl rfl (by decide) rfl rfl (va_cons (ve_callK K rfl (fr := false) C_asked.ok hr rfl C_asked.mg C_asked.kp C_asked.bd pass0 (va_cons (ve_var 0) (va_cons (ve_ix (r := rIx K) ix_seq op2_ix (VE.look (ve_var 1)) (VE.look ve_int)) (va_cons (ve_ix (r := rIx K) ix_seq op2_ix (VE.look (ve_var 1)) (VE.look ve_int)) va_nil)))) (va_cons (ve_callK K rfl (fr := false) C_let.ok hr rfl C_let.mg C_let.kp C_let.bd pass0 (va_cons (ve_var 0) (va_cons (ve_ix (r := rIx K) ix_seq op2_ix (VE.look (ve_var 2)) (VE.look ve_int)) (va_cons (ve_ix (r := rIx K) ix_seq op2_ix (VE.look (ve_var 2)) (VE.look ve_int)) va_nil)))) va_nil)) rfl)
 (vss_one (vs_ret (ve_if (vt_val (ve_callK K rfl (fr := false) C_is_less.ok hr rfl C_is_less.mg C_is_less.kp C_is_less.bd pass0 (va_cons (ve_var 4) (va_cons (ve_var 3) va_nil)))) ve_non (ve_tup (va_cons (ve_var 3) (va_cons (ve_var 4) va_nil))))))))))⟩)
theorem ok_bars {f : Addr} {fd : FuncData} (F : FunD K "bars" "bars" (defArgs s_bars) (defBody s_bars) (defScope s_bars) [] [] f fd) {f_sharpest : Addr} {fd_sharpest : FuncData} (C_sharpest : Callee P w K mg base 4 "sharpest" ["heights"] (SpV K false S_sharpest) f_sharpest fd_sharpest) {f_slopes : Addr} {fd_slopes : FuncData} (C_slopes : Callee P w K mg base 4 "slopes" ["heights"] (SpV K false S_slopes) f_slopes fd_slopes) : FnOk P w K mg base CX0 5 f fd ["heights"] (SpV K false S_bars) :=
  by
  have nd := sc_bars.nd
  exact fnV (fr := false) (q := (q_bars S_sharpest S_slopes)) F sc_bars keeps_bars (fun cdv A outer s H E hr => ⟨_,
 (vss_one (vs_ret (ve_if (vt_cmp  op_isN op2_is (nomark _) (VE.look (ve_callK K rfl (fr := false) C_slopes.ok hr rfl C_slopes.mg C_slopes.kp C_slopes.bd pass0 (va_cons (ve_var 0) va_nil))) (VE.look ve_non)) (ve_callK K rfl (fr := false) C_sharpest.ok hr rfl C_sharpest.mg C_sharpest.kp C_sharpest.bd pass0 (va_cons (ve_var 0) va_nil)) ve_non)))⟩)
theorem ok_are_bars {f : Addr} {fd : FuncData} (F : FunD K "are_bars" "are_bars" (defArgs s_are_bars) (defBody s_are_bars) (defScope s_are_bars) [] [] f fd) {f_check_heights : Addr} {fd_check_heights : FuncData} (C_check_heights : Callee P w K mg base 2 "check_heights" ["heights"] (SpV K false S_check_heights) f_check_heights fd_check_heights) {f_is_less : Addr} {fd_is_less : FuncData} (C_is_less : Callee P w K mg base 2 "is_less" ["one", "two"] (SpV K false S_is_less) f_is_less fd_is_less) {f_let : Addr} {fd_let : FuncData} (C_let : Callee P w K mg base 2 "let" ["heights", "i", "j"] (SpV K false S_let) f_let fd_let) {f_asked : Addr} {fd_asked : FuncData} (C_asked : Callee P w K mg base 2 "asked" ["heights", "i", "j"] (SpV K false S_asked) f_asked fd_asked) (m_len : mg "len" = none) : FnOk P w K mg base CX0 3 f fd ["heights", "one", "two"] (SpV K false S_are_bars) :=
  by
  have nd := sc_are_bars.nd
  exact fnV (fr := false) (q := (q_are_bars S_check_heights S_is_less S_let S_asked)) F sc_are_bars keeps_are_bars (fun cdv A outer s H E hr => ⟨_,
 (vss_cons (vs_expr (ve_callK K rfl (fr := false) C_check_heights.ok hr rfl C_check_heights.mg C_check_heights.kp C_check_heights.bd pass0 (va_cons (ve_var 0) va_nil)))
 (vss_cons (vs_for PassesOwn.never rfl (vi_tupK K rfl (ve_tup (va_cons (ve_var 1) (va_cons (ve_var 2) va_nil)))) (vg_tupK K rfl rfl (vgs_cons (vg_name 3 nd rfl (by first | exact .inl rfl | exact .inr rfl)) (vgs_cons (vg_name 4 nd rfl (by first | exact .inl rfl | exact .inr rfl)) vgs_nil)))
  (vss_one (vs_if (vt_not (vt_chain3 (r := rD oLe K) (r' := rD oLt K) (r2 := rD oLt K) (or_le hr.units) (or_lt hr.units) (or_lt hr.units) (op2_rD oLe_b) (op2_rD oLt_b) (op2_rD oLt_b) (VE.look ve_int) (VE.look (ve_var 3)) (VE.look (ve_var 4)) (VE.look (ve_callB (md := .val) (r := (rLenK K)) call_len opN_len rfl m_len (by decide +kernel) (va_cons (VE.look (ve_var 0)) va_nil))) )) (vss_one (vs_ret ve_bl))
  vss_nil)))
 (vss_one (vs_ret (ve_callK K rfl (fr := false) C_is_less.ok hr rfl C_is_less.mg C_is_less.kp C_is_less.bd pass0 (va_cons (ve_callK K rfl (fr := false) C_let.ok hr rfl C_let.mg C_let.kp C_let.bd pass0 (va_cons (ve_var 0) (va_cons (ve_ix (r := rIx K) ix_seq op2_ix (VE.look (ve_var 2)) (VE.look ve_int)) (va_cons (ve_ix (r := rIx K) ix_seq op2_ix (VE.look (ve_var 2)) (VE.look ve_int)) va_nil)))) (va_cons (ve_callK K rfl (fr := false) C_asked.ok hr rfl C_asked.mg C_asked.kp C_asked.bd pass0 (va_cons (ve_var 0) (va_cons (ve_ix (r := rIx K) ix_seq op2_ix (VE.look (ve_var 1)) (VE.look ve_int)) (va_cons (ve_ix (r := rIx K) ix_seq op2_ix (VE.look (ve_var 1)) (VE.look ve_int)) va_nil)))) va_nil)))))))⟩)
theorem ok__law_draws {f : Addr} {fd : FuncData} (F : FunD K "_law_draws" "_law_draws" (defArgs s__law_draws) (defBody s__law_draws) (defScope s__law_draws) [] [] f fd) (m_range : mg "range" = none) (m_min : mg "min" = none) (m_abs : mg "abs" = none) (m_len : mg "len" = none) (m_int : mg "int" = none) : FnOk P w K mg base CX0 1 f fd ["script"] (SpScr K true S__law_draws) :=
  by
  have nd := sc__law_draws.nd
  exact fnS (fr := true) (q := q__law_draws) F sc__law_draws (by decide) keeps__law_draws (fun cdv A outer s H E hr => ⟨_,
 (vss_cons (vs_setO 1 nd rfl (by first | exact .inl rfl | exact .inr rfl) (ve_lst va_nil))
 (vss_cons (vs_for PassesOwn.never rfl (vi_range1 rfl m_range (va_cons (VE.look (ve_callB (md := .val) (r := rMin2K K) (call_min2 rfl) opN_min2 rfl m_min (by decide +kernel) (va_cons (VE.look ve_int) (va_cons (VE.look (ve_lenS 0 rfl (by first | exact Or.inl rfl | exact Or.inr (Or.inl rfl)) rfl m_len (by decide +kernel))) va_nil)))) va_nil)) (vg_name 2 nd rfl (by first | exact .inl rfl | exact .inr rfl))
  (vss_cons (vs_set 3 nd rfl (by first | exact .inl rfl | exact .inr rfl) (ve_callB (md := .val) (r := (rAbsK K)) call_abs opN_abs rfl m_abs (by decide +kernel) (va_cons (VE.look (ve_ixS 0 rfl (by first | exact Or.inl rfl | exact Or.inr (Or.inl rfl)) (ve_var 2))) va_nil)))
  (vss_one (vs_if (vt_cmp (r := rD oGe K) (or_ge hr.units) (op2_rD oGe_b) (nomark _) (VE.look (ve_var 3)) (VE.look (ve_op2 (md := .val) op_pow op2_pow (VE.look ve_int) (VE.look ve_int)))) (vss_one (vs_for PassesOwn.never rfl (vi_range1 rfl m_range (va_cons (VE.look ve_int) va_nil)) (vg_name 4 nd rfl (by first | exact .inl rfl | exact .inr rfl))
    (vss_one (vs_if (vt_cmp (r := rD oGt K) (or_gt hr.units) (op2_rD oGt_b) (nomark _) (VE.look (ve_var 3)) (VE.look ve_int)) (vss_cons (vs_meth 1 rfl (by first | exact Or.inl rfl | exact Or.inr (Or.inl rfl)) PySem.F.slot_list_append PySem.F.type_list_append mt_append opM_append (va_cons (ve_op2 (md := .val) op_mod op2_mod (VE.look (ve_callTy (md := .val) (r := (rIntK K)) call_int1 opN_int rfl m_int (by decide +kernel) (va_cons (VE.look (ve_var 3)) va_nil))) (VE.look ve_int)) va_nil))
     (vss_one (vs_set 3 nd rfl (by first | exact .inl rfl | exact .inr rfl) (ve_op2 (md := .val) op_fdiv op2_div (VE.look (ve_var 3)) (VE.look ve_int)))))
    vss_nil))))
  (vss_cons (vs_set 5 nd rfl (by first | exact .inl rfl | exact .inr rfl) (ve_op2 (md := .val) op_mod op2_mod (VE.look (ve_callTy (md := .val) (r := (rIntK K)) call_int1 opN_int rfl m_int (by decide +kernel) (va_cons (VE.look (ve_op2 (md := .val) or_addA op2_add (VE.look (ve_op2 (md := .val) or_mulA op2_mul (VE.look (ve_var 3)) (VE.look ve_int))) (VE.look (ve_op2 (md := .val) or_mulA op2_mul (VE.look (ve_op2 (md := .val) or_addA op2_add (VE.look (ve_var 2)) (VE.look ve_int))) (VE.look ve_int))))) va_nil))) (VE.look ve_int)))
   (vss_cons (vs_set 5 nd rfl (by first | exact .inl rfl | exact .inr rfl) (ve_op2 (md := .val) op_mod op2_mod (VE.look (ve_callTy (md := .val) (r := (rIntK K)) call_int1 opN_int rfl m_int (by decide +kernel) (va_cons (VE.look (ve_op2 (md := .val) or_addA op2_add (VE.look (ve_op2 (md := .val) or_addA op2_add (VE.look (ve_op2 (md := .val) or_mulA op2_mul (VE.look (ve_var 5)) (VE.look ve_int))) (VE.look (ve_op2 (md := .val) or_mulA op2_mul (VE.look ve_int) (VE.look (ve_var 2)))))) (VE.look ve_int))) va_nil))) (VE.look ve_int)))
   (vss_cons (vs_meth 1 rfl (by first | exact Or.inl rfl | exact Or.inr (Or.inl rfl)) PySem.F.slot_list_append PySem.F.type_list_append mt_append opM_append (va_cons (ve_op2 (md := .val) op_mod op2_mod (VE.look (ve_callTy (md := .val) (r := (rIntK K)) call_int1 opN_int rfl m_int (by decide +kernel) (va_cons (VE.look (ve_var 5)) va_nil))) (VE.look ve_int)) va_nil))
   (vss_one (vs_meth 1 rfl (by first | exact Or.inl rfl | exact Or.inr (Or.inl rfl)) PySem.F.slot_list_append PySem.F.type_list_append mt_append opM_append (va_cons (ve_op2 (md := .val) op_mod op2_mod (VE.look (ve_callTy (md := .val) (r := (rIntK K)) call_int1 opN_int rfl m_int (by decide +kernel) (va_cons (VE.look (ve_op2 (md := .val) op_fdiv op2_div (VE.look (ve_var 5)) (VE.look ve_int))) va_nil))) (VE.look ve_int)) va_nil))))))))))
 (vss_one (vs_retV 1))))⟩)
theorem ok__law_mix {f : Addr} {fd : FuncData} (F : FunD K "_law_mix" "_law_mix" (defArgs s__law_mix) (defBody s__law_mix) (defScope s__law_mix) [] [] f fd) (m_len : mg "len" = none) (m_int : mg "int" = none) : FnOk P w K mg base CX0 1 f fd ["draws", "k", "many"] (SpV K false S__law_mix) :=
  by
  have nd := sc__law_mix.nd
  exact fnV (fr := false) (q := q__law_mix) F sc__law_mix keeps__law_mix (fun cdv A outer s H E hr => ⟨_,
 (vss_cons (vs_set 3 nd rfl (by first | exact .inl rfl | exact .inr rfl) ve_int)
 (vss_cons (vs_if (vt_cmp (r := rD oGt K) (or_gt hr.units) (op2_rD oGt_b) (nomark _) (VE.look (ve_callB (md := .val) (r := (rLenK K)) call_len opN_len rfl m_len (by decide +kernel) (va_cons (VE.look (ve_var 0)) va_nil))) (VE.look ve_int)) (vss_one (vs_set 3 nd rfl (by first | exact .inl rfl | exact .inr rfl) (ve_ix (r := rIx K) ix_seq op2_ix (VE.look (ve_var 0)) (VE.look (ve_op2 (md := .val) op_mod op2_mod (VE.look (ve_callTy (md := .val) (r := (rIntK K)) call_int1 opN_int rfl m_int (by decide +kernel) (va_cons (VE.look (ve_var 1)) va_nil))) (VE.look (ve_callB (md := .val) (r := (rLenK K)) call_len opN_len rfl m_len (by decide +kernel) (va_cons (VE.look (ve_var 0)) va_nil))))))))
 vss_nil)
 (vss_cons (vs_if (vt_cmp (r := rD oLt K) (or_lt hr.units) (op2_rD oLt_b) (nomark _) (VE.look (ve_var 1)) (VE.look (ve_callB (md := .val) (r := (rLenK K)) call_len opN_len rfl m_len (by decide +kernel) (va_cons (VE.look (ve_var 0)) va_nil)))) (vss_one (vs_ret (ve_op2 (md := .val) op_mod op2_mod (VE.look (ve_callTy (md := .val) (r := (rIntK K)) call_int1 opN_int rfl m_int (by decide +kernel) (va_cons (VE.look (ve_var 3)) va_nil))) (VE.look (ve_var 2)))))
 vss_nil)
 (vss_one (vs_ret (ve_op2 (md := .val) op_mod op2_mod (VE.look (ve_callTy (md := .val) (r := (rIntK K)) call_int1 opN_int rfl m_int (by decide +kernel) (va_cons (VE.look (ve_op2 (md := .val) op_fdiv op2_div (VE.look (ve_callTy (md := .val) (r := (rIntK K)) call_int1 opN_int rfl m_int (by decide +kernel) (va_cons (VE.look (ve_op2 (md := .val) or_addA op2_add (VE.look (ve_op2 (md := .val) or_mulA op2_mul (VE.look (ve_var 3)) (VE.look ve_int))) (VE.look (ve_op2 (md := .val) or_mulA op2_mul (VE.look (ve_var 1)) (VE.look ve_int))))) va_nil))) (VE.look ve_int))) va_nil))) (VE.look (ve_var 2))))))))⟩)
theorem ok__law_fraction {f : Addr} {fd : FuncData} (F : FunD K "_law_fraction" "_law_fraction" (defArgs s__law_fraction) (defBody s__law_fraction) (defScope s__law_fraction) [] [] f fd) (m_abs : mg "abs" = none) (m_int : mg "int" = none) : FnOk P w K mg base CX0 1 f fd ["n", "d"] (SpV K false S__law_fraction) :=
  by
  have nd := sc__law_fraction.nd
  exact fnV (fr := false) (q := q__law_fraction) F sc__law_fraction keeps__law_fraction (fun cdv A outer s H E hr => ⟨_,
 (vss_cons (vs_par rfl nd rfl rfl (by decide) rfl rfl (va_cons (ve_callB (md := .val) (r := (rAbsK K)) call_abs opN_abs rfl m_abs (by decide +kernel) (va_cons (VE.look (ve_var 0)) va_nil)) (va_cons (ve_callB (md := .val) (r := (rAbsK K)) call_abs opN_abs rfl m_abs (by decide +kernel) (va_cons (VE.look (ve_var 1)) va_nil)) va_nil)) rfl)
 (vss_cons (vs_while PassesOwn.never (vt_cmp (r := rD oNe K) (or_ne hr.units) (op2_rD oNe_b) (nomark _) (VE.look (ve_var 3)) (VE.look ve_int))
  (vss_one (vs_par rfl nd rfl rfl (by decide) rfl rfl (va_cons (ve_var 3) (va_cons (ve_op2 (md := .val) op_mod op2_mod (VE.look (ve_callTy (md := .val) (r := (rIntK K)) call_int1 opN_int rfl m_int (by decide +kernel) (va_cons (VE.look (ve_var 2)) va_nil))) (VE.look (ve_var 3))) va_nil)) rfl)))
 (vss_cons (vs_if (vt_cmp (r := rD oLt K) (or_lt hr.units) (op2_rD oLt_b) (nomark _) (VE.look (ve_var 1)) (VE.look ve_int)) (vss_one (vs_ret (ve_tup (va_cons (ve_op2 (md := .val) op_fdiv op2_div (VE.look (ve_un un_neg op1_neg (VE.look (ve_var 0)))) (VE.look (ve_var 2))) (va_cons (ve_op2 (md := .val) op_fdiv op2_div (VE.look (ve_un un_neg op1_neg (VE.look (ve_var 1)))) (VE.look (ve_var 2))) va_nil)))))
 vss_nil)
 (vss_one (vs_ret (ve_tup (va_cons (ve_op2 (md := .val) op_fdiv op2_div (VE.look (ve_var 0)) (VE.look (ve_var 2))) (va_cons (ve_op2 (md := .val) op_fdiv op2_div (VE.look (ve_var 1)) (VE.look (ve_var 2))) va_nil))))))))⟩)
theorem ok__law_less {f : Addr} {fd : FuncData} (F : FunD K "_law_less" "_law_less" (defArgs s__law_less) (defBody s__law_less) (defScope s__law_less) [] [] f fd) : FnOk P w K mg base CX0 1 f fd ["one", "two"] (SpV K false S__law_less) :=
  by
  have nd := sc__law_less.nd
  exact fnV (fr := false) (q := q__law_less) F sc__law_less keeps__law_less (fun cdv A outer s H E hr => ⟨_,
 (vss_one (vs_ret (ve_cmp (r := rD oLt K) (or_lt hr.units) (op2_rD oLt_b) (nomark _) (VE.look (ve_op2 (md := .val) or_mulA op2_mul (VE.look (ve_ix (r := rIx K) ix_seq op2_ix (VE.look (ve_var 0)) (VE.look ve_int))) (VE.look (ve_ix (r := rIx K) ix_seq op2_ix (VE.look (ve_var 1)) (VE.look ve_int))))) (VE.look (ve_op2 (md := .val) or_mulA op2_mul (VE.look (ve_ix (r := rIx K) ix_seq op2_ix (VE.look (ve_var 1)) (VE.look ve_int))) (VE.look (ve_ix (r := rIx K) ix_seq op2_ix (VE.look (ve_var 0)) (VE.look ve_int))))))))⟩)
theorem ok__law_line {f : Addr} {fd : FuncData} (F : FunD K "_law_line" "_law_line" (defArgs s__law_line) (defBody s__law_line) (defScope s__law_line) [] [] f fd) (m_max : mg "max" = none) (m_range : mg "range" = none) (m_abs : mg "abs" = none) (m_int : mg "int" = none) : FnOk P w K mg base CX0 1 f fd ["one", "two"] (SpV K true S__law_line) :=
  by
  have nd := sc__law_line.nd
  exact fnV (fr := true) (q := q__law_line) F sc__law_line keeps__law_line (fun cdv A outer s H E hr => ⟨_,
 (vss_cons (vs_par rfl nd rfl rfl (by decide) rfl rfl (va_cons (ve_op2 (md := .val) op_sub op2_sub (VE.look (ve_ix (r := rIx K) ix_seq op2_ix (VE.look (ve_var 1)) (VE.look ve_int))) (VE.look (ve_ix (r := rIx K) ix_seq op2_ix (VE.look (ve_var 0)) (VE.look ve_int)))) (va_cons (ve_op2 (md := .val) op_sub op2_sub (VE.look (ve_ix (r := rIx K) ix_seq op2_ix (VE.look (ve_var 1)) (VE.look ve_int))) (VE.look (ve_ix (r := rIx K) ix_seq op2_ix (VE.look (ve_var 0)) (VE.look ve_int)))) va_nil)) rfl)
 (vss_cons (vs_set 2 nd rfl (by first | exact .inl rfl | exact .inr rfl) (ve_callB (md := .val) (r := rMax2K K) (call_max2 rfl) opN_max2 rfl m_max (by decide +kernel) (va_cons (VE.look (ve_callB (md := .val) (r := (rAbsK K)) call_abs opN_abs rfl m_abs (by decide +kernel) (va_cons (VE.look (ve_var 5)) va_nil))) (va_cons (VE.look (ve_callB (md := .val) (r := (rAbsK K)) call_abs opN_abs rfl m_abs (by decide +kernel) (va_cons (VE.look (ve_var 6)) va_nil))) va_nil))))
 (vss_cons (vs_setO 3 nd rfl (by first | exact .inl rfl | exact .inr rfl) (ve_lst (va_cons (ve_var 0) va_nil)))
 (vss_cons (vs_for PassesOwn.never rfl (vi_range2 rfl m_range (va_cons (VE.look ve_int) (va_cons (VE.look (ve_op2 (md := .val) or_addA op2_add (VE.look (ve_var 2)) (VE.look ve_int))) va_nil))) (vg_name 4 nd rfl (by first | exact .inl rfl | exact .inr rfl))
  (vss_cons (vs_setO 7 nd rfl (by first | exact .inl rfl | exact .inr rfl) (ve_lst va_nil))
  (vss_cons (vs_for PassesOwn.never rfl (vi_range1 rfl m_range (va_cons (VE.look ve_int) va_nil)) (vg_name 8 nd rfl (by first | exact .inl rfl | exact .inr rfl))
   (vss_cons (vs_set 9 nd rfl (by first | exact .inl rfl | exact .inr rfl) (ve_ix (r := rIx K) ix_seq op2_ix (VE.look (VE.frz (ve_lst (va_cons (ve_var 5) (va_cons (ve_var 6) va_nil))))) (VE.look (ve_var 8))))
   (vss_cons (vs_set 10 nd rfl (by first | exact .inl rfl | exact .inr rfl) ve_non)
   (vss_cons (vs_for PassesOwn.never rfl (vi_range1 rfl m_range (va_cons (VE.look (ve_op2 (md := .val) or_addA op2_add (VE.look (ve_var 2)) (VE.look ve_int))) va_nil)) (vg_name 11 nd rfl (by first | exact .inl rfl | exact .inr rfl))
    (vss_cons (vs_set 12 nd rfl (by first | exact .inl rfl | exact .inr rfl) (ve_callB (md := .val) (r := (rAbsK K)) call_abs opN_abs rfl m_abs (by decide +kernel) (va_cons (VE.look (ve_op2 (md := .val) op_sub op2_sub (VE.look (ve_op2 (md := .val) or_mulA op2_mul (VE.look (ve_op2 (md := .val) or_mulA op2_mul (VE.look ve_int) (VE.look (ve_var 11)))) (VE.look (ve_var 2)))) (VE.look (ve_op2 (md := .val) or_mulA op2_mul (VE.look (ve_op2 (md := .val) or_mulA op2_mul (VE.look ve_int) (VE.look (ve_var 4)))) (VE.look (ve_callB (md := .val) (r := (rAbsK K)) call_abs opN_abs rfl m_abs (by decide +kernel) (va_cons (VE.look (ve_var 9)) va_nil))))))) va_nil)))
    (vss_one (vs_if (VW.vt (vw_or (vt_cmp  op_isN op2_is (nomark _) (VE.look (ve_var 10)) (VE.look ve_non)) (vw_or1 (vt_cmp (r := rD oLe K) (or_le hr.units) (op2_rD oLe_b) (nomark _) (VE.look (ve_var 12)) (VE.look (ve_ix (r := rIx K) ix_seq op2_ix (VE.look (ve_var 10)) (VE.look ve_int))))))) (vss_one (vs_set 10 nd rfl (by first | exact .inl rfl | exact .inr rfl) (ve_tup (va_cons (ve_var 12) (va_cons (ve_var 11) va_nil)))))
    vss_nil))))
   (vss_one (vs_meth 7 rfl (by first | exact Or.inl rfl | exact Or.inr (Or.inl rfl)) PySem.F.slot_list_append PySem.F.type_list_append mt_append opM_append (va_cons (ve_op2 (md := .val) or_addA op2_add (VE.look (ve_ix (r := rIx K) ix_seq op2_ix (VE.look (VE.frz (ve_lst (va_cons (ve_ix (r := rIx K) ix_seq op2_ix (VE.look (ve_var 0)) (VE.look ve_int)) (va_cons (ve_ix (r := rIx K) ix_seq op2_ix (VE.look (ve_var 0)) (VE.look ve_int)) va_nil))))) (VE.look (ve_var 8)))) (VE.look (ve_op2 (md := .val) or_mulA op2_mul (VE.look (ve_ix (r := rIx K) ix_seq op2_ix (VE.look (ve_var 10)) (VE.look ve_int))) (VE.look (ve_op2 (md := .val) op_sub op2_sub (VE.look ve_int) (VE.look (ve_op2 (md := .val) or_mulA op2_mul (VE.look ve_int) (VE.look (ve_callTy (md := .val) (r := (rIntK K)) call_int1 opN_int rfl m_int (by decide +kernel) (va_cons (VE.look (ve_cmp (r := rD oLt K) (or_lt hr.units) (op2_rD oLt_b) (nomark _) (VE.look (ve_var 9)) (VE.look ve_int))) va_nil)))))))))) va_nil)))))))
  (vss_one (vs_meth 3 rfl (by first | exact Or.inl rfl | exact Or.inr (Or.inl rfl)) PySem.F.slot_list_append PySem.F.type_list_append mt_append opM_append (va_cons (ve_tup (va_cons (ve_ix (r := rIx K) ix_seq op2_ix (ve_varL 7) (VE.look ve_int)) (va_cons (ve_ix (r := rIx K) ix_seq op2_ix (ve_varL 7) (VE.look ve_int)) va_nil))) va_nil))))))
 (vss_one (vs_retV 3))))))⟩)
theorem ok__law_ties {f : Addr} {fd : FuncData} (F : FunD K "_law_ties" "_law_ties" (defArgs s__law_ties) (defBody s__law_ties) (defScope s__law_ties) [] [] f fd) (m_max : mg "max" = none) (m_min : mg "min" = none) (m_abs : mg "abs" = none) (m_range : mg "range" = none) : FnOk P w K mg base CX0 1 f fd ["one", "two"] (SpV K true S__law_ties) :=
  by
  have nd := sc__law_ties.nd
  exact fnV (fr := true) (q := q__law_ties) F sc__law_ties keeps__law_ties (fun cdv A outer s H E hr => ⟨_,
 (vss_cons (vs_set 2 nd rfl (by first | exact .inl rfl | exact .inr rfl) (ve_callB (md := .val) (r := rMax2K K) (call_max2 rfl) opN_max2 rfl m_max (by decide +kernel) (va_cons (VE.look (ve_callB (md := .val) (r := (rAbsK K)) call_abs opN_abs rfl m_abs (by decide +kernel) (va_cons (VE.look (ve_op2 (md := .val) op_sub op2_sub (VE.look (ve_ix (r := rIx K) ix_seq op2_ix (VE.look (ve_var 1)) (VE.look ve_int))) (VE.look (ve_ix (r := rIx K) ix_seq op2_ix (VE.look (ve_var 0)) (VE.look ve_int))))) va_nil))) (va_cons (VE.look (ve_callB (md := .val) (r := (rAbsK K)) call_abs opN_abs rfl m_abs (by decide +kernel) (va_cons (VE.look (ve_op2 (md := .val) op_sub op2_sub (VE.look (ve_ix (r := rIx K) ix_seq op2_ix (VE.look (ve_var 1)) (VE.look ve_int))) (VE.look (ve_ix (r := rIx K) ix_seq op2_ix (VE.look (ve_var 0)) (VE.look ve_int))))) va_nil))) va_nil))))
 (vss_cons (vs_set 3 nd rfl (by first | exact .inl rfl | exact .inr rfl) (ve_callB (md := .val) (r := rMin2K K) (call_min2 rfl) opN_min2 rfl m_min (by decide +kernel) (va_cons (VE.look (ve_callB (md := .val) (r := (rAbsK K)) call_abs opN_abs rfl m_abs (by decide +kernel) (va_cons (VE.look (ve_op2 (md := .val) op_sub op2_sub (VE.look (ve_ix (r := rIx K) ix_seq op2_ix (VE.look (ve_var 1)) (VE.look ve_int))) (VE.look (ve_ix (r := rIx K) ix_seq op2_ix (VE.look (ve_var 0)) (VE.look ve_int))))) va_nil))) (va_cons (VE.look (ve_callB (md := .val) (r := (rAbsK K)) call_abs opN_abs rfl m_abs (by decide +kernel) (va_cons (VE.look (ve_op2 (md := .val) op_sub op2_sub (VE.look (ve_ix (r := rIx K) ix_seq op2_ix (VE.look (ve_var 1)) (VE.look ve_int))) (VE.look (ve_ix (r := rIx K) ix_seq op2_ix (VE.look (ve_var 0)) (VE.look ve_int))))) va_nil))) va_nil))))
 (vss_one (vs_retO (ve_lc (own := [("t", 4)]) rfl nd (vi_range1 rfl m_range (va_cons (VE.look (ve_op2 (md := .val) or_addA op2_add (VE.look (ve_var 2)) (VE.look ve_int))) va_nil)) (blkOk_by (own := [("t", 4)]) (N := N__law_ties) (sc := defScope s__law_ties) (by decide +kernel)) (fun _ _ _ _ _ => (vg_name 4 nd rfl (by first | exact .inl rfl | exact .inr rfl))) (fun _ _ _ _ _ => (vts_one (vt_cmp (r := rD oNe K) (or_ne hr.units) (op2_rD oNe_b) (nomark _) (VE.look (VE.frz (ve_lc (own := [("step", 5)]) rfl nd (vi_range1 rfl m_range (va_cons (VE.look (ve_op2 (md := .val) or_addA op2_add (VE.look (ve_var 2)) (VE.look ve_int))) va_nil)) (blkOk_by (own := [("step", 5)]) (N := N__law_ties) (by kernel_rfl)) (fun _ _ _ _ _ => (vg_name 5 nd rfl (by first | exact .inl rfl | exact .inr rfl))) (fun _ _ _ _ _ => (vts_one (VW.vt (vw_and (vt_cmp (r := rD oEq K) (or_eq hr.units) (op2_rD oEq_b) (nomark _) (VE.look (ve_callB (md := .val) (r := (rAbsK K)) call_abs opN_abs rfl m_abs (by decide +kernel) (va_cons (VE.look (ve_op2 (md := .val) op_sub op2_sub (VE.look (ve_op2 (md := .val) or_mulA op2_mul (VE.look (ve_op2 (md := .val) or_mulA op2_mul (VE.look ve_int) (VE.look (ve_var 5)))) (VE.look (ve_var 2)))) (VE.look (ve_op2 (md := .val) or_mulA op2_mul (VE.look (ve_op2 (md := .val) or_mulA op2_mul (VE.look ve_int) (VE.look (ve_var 4)))) (VE.look (ve_var 3)))))) va_nil))) (VE.look (ve_var 2))) (vw_and1 (vt_cmp (r := rD oGt K) (or_gt hr.units) (op2_rD oGt_b) (nomark _) (VE.look (ve_var 2)) (VE.look ve_int))))))) (fun _ _ _ _ _ => (ve_var 5))))) (VE.look (VE.frz (ve_lst va_nil)))))) (fun _ _ _ _ _ => (ve_var 4)))))))⟩)
theorem ok__law_pairs {f : Addr} {fd : FuncData} (F : FunD K "_law_pairs" "_law_pairs" (defArgs s__law_pairs) (defBody s__law_pairs) (defScope s__law_pairs) [] [] f fd) (m_range : mg "range" = none) (m_len : mg "len" = none) : FnOk P w K mg base CX0 1 f fd ["heights"] (SpV K false S__law_pairs) :=
  by
  have nd := sc__law_pairs.nd
  exact fnV (fr := false) (q := q__law_pairs) F sc__law_pairs keeps__law_pairs (fun cdv A outer s H E hr => ⟨_,
 (vss_cons (vs_set 1 nd rfl (by first | exact .inl rfl | exact .inr rfl) (VE.frz (ve_lst va_nil)))
 (vss_cons (vs_for PassesOwn.never rfl (vi_range1 rfl m_range (va_cons (VE.look (ve_callB (md := .val) (r := (rLenK K)) call_len opN_len rfl m_len (by decide +kernel) (va_cons (VE.look (ve_var 0)) va_nil))) va_nil)) (vg_name 2 nd rfl (by first | exact .inl rfl | exact .inr rfl))
  (vss_one (vs_set 1 nd rfl (by first | exact .inl rfl | exact .inr rfl) (ve_op2 (md := .val) or_addA op2_add (VE.look (ve_var 1)) (VE.look (VE.frz (ve_lc (own := [("j", 3)]) rfl nd (vi_range2 rfl m_range (va_cons (VE.look (ve_op2 (md := .val) or_addA op2_add (VE.look (ve_var 2)) (VE.look ve_int))) (va_cons (VE.look (ve_callB (md := .val) (r := (rLenK K)) call_len opN_len rfl m_len (by decide +kernel) (va_cons (VE.look (ve_var 0)) va_nil))) va_nil))) (blkOk_by (own := [("j", 3)]) (N := N__law_pairs) (sc := defScope s__law_pairs) (by decide +kernel)) (fun _ _ _ _ _ => (vg_name 3 nd rfl (by first | exact .inl rfl | exact .inr rfl))) (fun _ _ _ _ _ => vts_nil) (fun _ _ _ _ _ => (ve_tup (va_cons (ve_var 2) (va_cons (ve_var 3) va_nil)))))))))))
 (vss_one (vs_ret (ve_var 1)))))⟩)
theorem ok__law_slopes {f : Addr} {fd : FuncData} (F : FunD K "_law_slopes" "_law_slopes" (defArgs s__law_slopes) (defBody s__law_slopes) (defScope s__law_slopes) [] [] f fd) {f__law_pairs : Addr} {fd__law_pairs : FuncData} (C__law_pairs : Callee P w K mg base 1 "_law_pairs" ["heights"] (SpV K false S__law_pairs) f__law_pairs fd__law_pairs) {f__law_fraction : Addr} {fd__law_fraction : FuncData} (C__law_fraction : Callee P w K mg base 1 "_law_fraction" ["n", "d"] (SpV K false S__law_fraction) f__law_fraction fd__law_fraction) {f__law_less : Addr} {fd__law_less : FuncData} (C__law_less : Callee P w K mg base 1 "_law_less" ["one", "two"] (SpV K false S__law_less) f__law_less fd__law_less) (m_range : mg "range" = none) (m_len : mg "len" = none) (m_int : mg "int" = none) : FnOk P w K mg base CX0 2 f fd ["heights"] (SpV K false S__law_slopes) :=
  by
  have nd := sc__law_slopes.nd
  exact fnV (fr := false) (q := (q__law_slopes S__law_pairs S__law_fraction S__law_less)) F sc__law_slopes keeps__law_slopes (fun cdv A outer s H E hr => ⟨_,
 (vss_cons (vs_set 1 nd rfl (by first | exact .inl rfl | exact .inr rfl) (ve_callK K rfl (fr := false) C__law_pairs.ok hr rfl C__law_pairs.mg C__law_pairs.kp C__law_pairs.bd pass0 (va_cons (ve_var 0) va_nil)))
 (vss_cons (vs_setLc (ps_lc (own := [("i", 7), ("j", 8)]) 2 rfl nd rfl rfl (sw_true rfl rfl rfl (by decide +kernel)) (vi_listK K rfl (md := .val) (ve_var 1)) (blkOk_by (own := [("i", 7), ("j", 8)]) (N := N__law_slopes) (sc := defScope s__law_slopes) (by decide +kernel)) (fun _ _ _ _ _ => (vg_tupK K rfl rfl (vgs_cons (vg_name 7 nd rfl (by first | exact .inl rfl | exact .inr rfl)) (vgs_cons (vg_name 8 nd rfl (by first | exact .inl rfl | exact .inr rfl)) vgs_nil)))) (fun _ _ _ _ _ => vts_nil) (fun _ _ _ _ _ => (ve_callK K rfl (fr := false) C__law_fraction.ok hr rfl C__law_fraction.mg C__law_fraction.kp C__law_fraction.bd pass0 (va_cons (ve_op2 (md := .val) op_sub op2_sub (VE.look (ve_op2 (md := .val) op_sub op2_sub (VE.look (ve_ix (r := rIx K) ix_seq op2_ix (VE.look (ve_var 0)) (VE.look (ve_var 8)))) (VE.look (ve_ix (r := rIx K) ix_seq op2_ix (VE.look (ve_var 0)) (VE.look (ve_var 7)))))) (VE.look ve_int)) (va_cons (ve_op2 (md := .val) op_sub op2_sub (VE.look (ve_var 8)) (VE.look (ve_var 7))) va_nil))))))
 (vss_cons (vs_setLc (ps_lc (own := [("i", 7), ("j", 8)]) 3 rfl nd rfl rfl (sw_true rfl rfl rfl (by decide +kernel)) (vi_listK K rfl (md := .val) (ve_var 1)) (blkOk_by (own := [("i", 7), ("j", 8)]) (N := N__law_slopes) (sc := defScope s__law_slopes) (by decide +kernel)) (fun _ _ _ _ _ => (vg_tupK K rfl rfl (vgs_cons (vg_name 7 nd rfl (by first | exact .inl rfl | exact .inr rfl)) (vgs_cons (vg_name 8 nd rfl (by first | exact .inl rfl | exact .inr rfl)) vgs_nil)))) (fun _ _ _ _ _ => vts_nil) (fun _ _ _ _ _ => (ve_callK K rfl (fr := false) C__law_fraction.ok hr rfl C__law_fraction.mg C__law_fraction.kp C__law_fraction.bd pass0 (va_cons (ve_op2 (md := .val) or_addA op2_add (VE.look (ve_op2 (md := .val) op_sub op2_sub (VE.look (ve_ix (r := rIx K) ix_seq op2_ix (VE.look (ve_var 0)) (VE.look (ve_var 8)))) (VE.look (ve_ix (r := rIx K) ix_seq op2_ix (VE.look (ve_var 0)) (VE.look (ve_var 7)))))) (VE.look ve_int)) (va_cons (ve_op2 (md := .val) op_sub op2_sub (VE.look (ve_var 8)) (VE.look (ve_var 7))) va_nil))))))
 (vss_cons (vs_par rfl nd rfl rfl (by decide) rfl rfl (va_cons (ve_ix (r := rIx K) ix_seq op2_ix (VE.look (ve_var 2)) (VE.look ve_int)) (va_cons (ve_ix (r := rIx K) ix_seq op2_ix (VE.look (ve_var 3)) (VE.look ve_int)) va_nil)) rfl)
 (vss_cons (vs_for PassesOwn.never rfl (vi_range1 rfl m_range (va_cons (VE.look (ve_callB (md := .val) (r := (rLenK K)) call_len opN_len rfl m_len (by decide +kernel) (va_cons (VE.look (ve_var 1)) va_nil))) va_nil)) (vg_name 4 nd rfl (by first | exact .inl rfl | exact .inr rfl))
  (vss_cons (vs_if (vt_val (ve_callK K rfl (fr := false) C__law_less.ok hr rfl C__law_less.mg C__law_less.kp C__law_less.bd pass0 (va_cons (ve_var 5) (va_cons (ve_ix (r := rIx K) ix_seq op2_ix (VE.look (ve_var 2)) (VE.look (ve_var 4))) va_nil)))) (vss_one (vs_set 5 nd rfl (by first | exact .inl rfl | exact .inr rfl) (ve_ix (r := rIx K) ix_seq op2_ix (VE.look (ve_var 2)) (VE.look (ve_var 4)))))
  vss_nil)
  (vss_one (vs_if (vt_val (ve_callK K rfl (fr := false) C__law_less.ok hr rfl C__law_less.mg C__law_less.kp C__law_less.bd pass0 (va_cons (ve_ix (r := rIx K) ix_seq op2_ix (VE.look (ve_var 3)) (VE.look (ve_var 4))) (va_cons (ve_var 6) va_nil)))) (vss_one (vs_set 6 nd rfl (by first | exact .inl rfl | exact .inr rfl) (ve_ix (r := rIx K) ix_seq op2_ix (VE.look (ve_var 3)) (VE.look (ve_var 4)))))
  vss_nil))))
 (vss_one (vs_ret (ve_ix (r := rIx K) ix_seq op2_ix (VE.look (VE.frz (ve_lst (va_cons (ve_tup (va_cons (ve_var 5) (va_cons (ve_var 6) va_nil))) (va_cons ve_non va_nil))))) (VE.look (ve_callTy (md := .val) (r := (rIntK K)) call_int1 opN_int rfl m_int (by decide +kernel) (va_cons (VE.look (ve_callK K rfl (fr := false) C__law_less.ok hr rfl C__law_less.mg C__law_less.kp C__law_less.bd pass0 (va_cons (ve_var 6) (va_cons (ve_var 5) va_nil)))) va_nil)))))))))))⟩)
theorem ok__law_are_bars {f : Addr} {fd : FuncData} (F : FunD K "_law_are_bars" "_law_are_bars" (defArgs s__law_are_bars) (defBody s__law_are_bars) (defScope s__law_are_bars) [] [] f fd) {f__law_fraction : Addr} {fd__law_fraction : FuncData} (C__law_fraction : Callee P w K mg base 1 "_law_fraction" ["n", "d"] (SpV K false S__law_fraction) f__law_fraction fd__law_fraction) {f__law_less : Addr} {fd__law_less : FuncData} (C__law_less : Callee P w K mg base 1 "_law_less" ["one", "two"] (SpV K false S__law_less) f__law_less fd__law_less) {f__law_pairs : Addr} {fd__law_pairs : FuncData} (C__law_pairs : Callee P w K mg base 1 "_law_pairs" ["heights"] (SpV K false S__law_pairs) f__law_pairs fd__law_pairs) : FnOk P w K mg base CX0 2 f fd ["heights", "one", "two"] (SpV K false S__law_are_bars) :=
  by
  have nd := sc__law_are_bars.nd
  exact fnV (fr := false) (q := (q__law_are_bars S__law_fraction S__law_less S__law_pairs)) F sc__law_are_bars keeps__law_are_bars (fun cdv A outer s H E hr => ⟨_,
 (vss_cons (vs_if (VW.vt (vw_or (vt_cmp (r := rD oNotIn K) (or_notIn hr.units) (op2_rD oNotIn_b) (by rfl) (VE.look (ve_var 1)) (VE.look (ve_callK K rfl (fr := false) C__law_pairs.ok hr rfl C__law_pairs.mg C__law_pairs.kp C__law_pairs.bd pass0 (va_cons (ve_var 0) va_nil)))) (vw_or1 (vt_cmp (r := rD oNotIn K) (or_notIn hr.units) (op2_rD oNotIn_b) (by rfl) (VE.look (ve_var 2)) (VE.look (ve_callK K rfl (fr := false) C__law_pairs.ok hr rfl C__law_pairs.mg C__law_pairs.kp C__law_pairs.bd pass0 (va_cons (ve_var 0) va_nil))))))) (vss_one (vs_ret ve_bl))
 vss_nil)
 (vss_cons (vs_set 3 nd rfl (by first | exact .inl rfl | exact .inr rfl) (ve_callK K rfl (fr := false) C__law_fraction.ok hr rfl C__law_fraction.mg C__law_fraction.kp C__law_fraction.bd pass0 (va_cons (ve_op2 (md := .val) op_sub op2_sub (VE.look (ve_op2 (md := .val) op_sub op2_sub (VE.look (ve_ix (r := rIx K) ix_seq op2_ix (VE.look (ve_var 0)) (VE.look (ve_ix (r := rIx K) ix_seq op2_ix (VE.look (ve_var 1)) (VE.look ve_int))))) (VE.look (ve_ix (r := rIx K) ix_seq op2_ix (VE.look (ve_var 0)) (VE.look (ve_ix (r := rIx K) ix_seq op2_ix (VE.look (ve_var 1)) (VE.look ve_int))))))) (VE.look ve_int)) (va_cons (ve_op2 (md := .val) op_sub op2_sub (VE.look (ve_ix (r := rIx K) ix_seq op2_ix (VE.look (ve_var 1)) (VE.look ve_int))) (VE.look (ve_ix (r := rIx K) ix_seq op2_ix (VE.look (ve_var 1)) (VE.look ve_int)))) va_nil))))
 (vss_one (vs_ret (ve_callK K rfl (fr := false) C__law_less.ok hr rfl C__law_less.mg C__law_less.kp C__law_less.bd pass0 (va_cons (ve_callK K rfl (fr := false) C__law_fraction.ok hr rfl C__law_fraction.mg C__law_fraction.kp C__law_fraction.bd pass0 (va_cons (ve_op2 (md := .val) or_addA op2_add (VE.look (ve_op2 (md := .val) op_sub op2_sub (VE.look (ve_ix (r := rIx K) ix_seq op2_ix (VE.look (ve_var 0)) (VE.look (ve_ix (r := rIx K) ix_seq op2_ix (VE.look (ve_var 2)) (VE.look ve_int))))) (VE.look (ve_ix (r := rIx K) ix_seq op2_ix (VE.look (ve_var 0)) (VE.look (ve_ix (r := rIx K) ix_seq op2_ix (VE.look (ve_var 2)) (VE.look ve_int))))))) (VE.look ve_int)) (va_cons (ve_op2 (md := .val) op_sub op2_sub (VE.look (ve_ix (r := rIx K) ix_seq op2_ix (VE.look (ve_var 2)) (VE.look ve_int))) (VE.look (ve_ix (r := rIx K) ix_seq op2_ix (VE.look (ve_var 2)) (VE.look ve_int)))) va_nil))) (va_cons (ve_var 3) va_nil)))))))⟩)
theorem ok_law {f : Addr} {fd : FuncData} (F : FunD K "law" "law" (defArgs s_law) (defBody s_law) (defScope s_law) [] [] f fd) {f__law_draws : Addr} {fd__law_draws : FuncData} (C__law_draws : Callee P w K mg base 5 "_law_draws" ["script"] (SpScr K true S__law_draws) f__law_draws fd__law_draws) {f__law_line : Addr} {fd__law_line : FuncData} (C__law_line : Callee P w K mg base 5 "_law_line" ["one", "two"] (SpV K true S__law_line) f__law_line fd__law_line) {f_line : Addr} {fd_line : FuncData} (C_line : Callee P w K mg base 5 "line" ["one", "two"] (SpV K true S_line) f_line fd_line) {f_slopes : Addr} {fd_slopes : FuncData} (C_slopes : Callee P w K mg base 5 "slopes" ["heights"] (SpV K false S_slopes) f_slopes fd_slopes) {f__law_mix : Addr} {fd__law_mix : FuncData} (C__law_mix : Callee P w K mg base 5 "_law_mix" ["draws", "k", "many"] (SpV K false S__law_mix) f__law_mix fd__law_mix) {f__law_slopes : Addr} {fd__law_slopes : FuncData} (C__law_slopes : Callee P w K mg base 5 "_law_slopes" ["heights"] (SpV K false S__law_slopes) f__law_slopes fd__law_slopes) {f_bars : Addr} {fd_bars : FuncData} (C_bars : Callee P w K mg base 5 "bars" ["heights"] (SpV K false S_bars) f_bars fd_bars) {f__law_are_bars : Addr} {fd__law_are_bars : FuncData} (C__law_are_bars : Callee P w K mg base 5 "_law_are_bars" ["heights", "one", "two"] (SpV K false S__law_are_bars) f__law_are_bars fd__law_are_bars) {f_ties : Addr} {fd_ties : FuncData} (C_ties : Callee P w K mg base 5 "ties" ["one", "two"] (SpV K true S_ties) f_ties fd_ties) {f__law_ties : Addr} {fd__law_ties : FuncData} (C__law_ties : Callee P w K mg base 5 "_law_ties" ["one", "two"] (SpV K true S__law_ties) f__law_ties fd__law_ties) {f_are_bars : Addr} {fd_are_bars : FuncData} (C_are_bars : Callee P w K mg base 5 "are_bars" ["heights", "one", "two"] (SpV K false S_are_bars) f_are_bars fd_are_bars) (m_range : mg "range" = none) (m_int : mg "int" = none) (m_repr : mg "repr" = none) (m_max : mg "max" = none) (m_len : mg "len" = none) (m_abs : mg "abs" = none) (room : Room 6 callerA) : RunAt P w K mg base callerA f fd ["script"] (SpScr K false S_law) :=
  by
  have hg : (callerA).guards = some [] := rfl
  have nd := sc_law.nd
  exact lawV (q := (q_law S__law_draws S__law_line S_line S_slopes S__law_mix S__law_slopes S_bars S__law_are_bars S_ties S__law_ties S_are_bars)) F sc_law (by decide) keeps_law room (fun cdv fr0 z H E hr => ⟨_,
 (vss_cons (vs_set 1 nd rfl (by first | exact .inl rfl | exact .inr rfl) (VE.frz (ve_callS (fr := true) 0 C__law_draws.ok rfl (by first | exact Or.inl rfl | exact Or.inr (Or.inl rfl)) hr rfl C__law_draws.mg C__law_draws.kp C__law_draws.bd pass0)))
 (vss_cons (vs_for PassesOwn.never rfl (vi_range1 rfl m_range (va_cons (VE.look ve_int) va_nil)) (vg_name 2 nd rfl (by first | exact .inl rfl | exact .inr rfl))
  (vss_cons (vs_set 3 nd rfl (by first | exact .inl rfl | exact .inr rfl) (ve_tup (va_cons (ve_op2 (md := .val) op_sub op2_sub (VE.look (ve_callK K rfl (fr := false) C__law_mix.ok hr rfl C__law_mix.mg C__law_mix.kp C__law_mix.bd pass0 (va_cons (ve_var 1) (va_cons (ve_op2 (md := .val) or_addA op2_add (VE.look ve_int) (VE.look (ve_op2 (md := .val) or_mulA op2_mul (VE.look ve_int) (VE.look (ve_var 2))))) (va_cons ve_int va_nil))))) (VE.look ve_int)) (va_cons (ve_op2 (md := .val) op_sub op2_sub (VE.look (ve_callK K rfl (fr := false) C__law_mix.ok hr rfl C__law_mix.mg C__law_mix.kp C__law_mix.bd pass0 (va_cons (ve_var 1) (va_cons (ve_op2 (md := .val) or_addA op2_add (VE.look ve_int) (VE.look (ve_op2 (md := .val) or_mulA op2_mul (VE.look ve_int) (VE.look (ve_var 2))))) (va_cons ve_int va_nil))))) (VE.look ve_int)) va_nil))))
  (vss_cons (vs_set 4 nd rfl (by first | exact .inl rfl | exact .inr rfl) (ve_tup (va_cons (ve_op2 (md := .val) op_sub op2_sub (VE.look (ve_op2 (md := .val) or_addA op2_add (VE.look (ve_ix (r := rIx K) ix_seq op2_ix (VE.look (ve_var 3)) (VE.look ve_int))) (VE.look (ve_callK K rfl (fr := false) C__law_mix.ok hr rfl C__law_mix.mg C__law_mix.kp C__law_mix.bd pass0 (va_cons (ve_var 1) (va_cons (ve_op2 (md := .val) or_addA op2_add (VE.look ve_int) (VE.look (ve_op2 (md := .val) or_mulA op2_mul (VE.look ve_int) (VE.look (ve_var 2))))) (va_cons ve_int va_nil))))))) (VE.look ve_int)) (va_cons (ve_op2 (md := .val) op_sub op2_sub (VE.look (ve_op2 (md := .val) or_addA op2_add (VE.look (ve_ix (r := rIx K) ix_seq op2_ix (VE.look (ve_var 3)) (VE.look ve_int))) (VE.look (ve_callK K rfl (fr := false) C__law_mix.ok hr rfl C__law_mix.mg C__law_mix.kp C__law_mix.bd pass0 (va_cons (ve_var 1) (va_cons (ve_op2 (md := .val) or_addA op2_add (VE.look ve_int) (VE.look (ve_op2 (md := .val) or_mulA op2_mul (VE.look ve_int) (VE.look (ve_var 2))))) (va_cons ve_int va_nil))))))) (VE.look ve_int)) va_nil))))
  (vss_cons (vs_set 5 nd rfl (by first | exact .inl rfl | exact .inr rfl) (VE.frz (ve_callK K rfl (fr := true) C__law_line.ok hr rfl C__law_line.mg C__law_line.kp C__law_line.bd pass0 (va_cons (ve_var 3) (va_cons (ve_var 4) va_nil)))))
  (vss_cons (vs_asgO (i := 12) (j := 13) rfl nd rfl rfl (by first | exact .inl rfl | exact .inr rfl) (by first | exact .inl rfl | exact .inr rfl) (ve_callK K rfl (fr := true) C_line.ok hr rfl C_line.mg C_line.kp C_line.bd pass0 (va_cons (ve_var 3) (va_cons (ve_var 4) va_nil))) (VE.frz (ve_callK K rfl (fr := true) C_line.ok hr rfl C_line.mg C_line.kp C_line.bd pass0 (va_cons (ve_var 4) (va_cons (ve_var 3) va_nil)))))
  (vss_cons (vs_if (VW.vt (vw_or (vt_cmp (r := rD oNe K) (or_ne hr.units) (op2_rD oNe_b) (nomark _) (VE.look (ve_callB (md := .val) (r := (rData oRepr .val K)) (cr_repr (Room_u100 hr) hg) opN_data rfl m_repr (by decide +kernel) (va_cons (ve_varL 12) va_nil))) (VE.look (ve_callB (md := .val) (r := (rData oRepr .val K)) (cr_repr (Room_u100 hr) hg) opN_data rfl m_repr (by decide +kernel) (va_cons (VE.look (ve_var 5)) va_nil)))) (vw_or (vt_cmp (r := rD oNe K) (or_ne hr.units) (op2_rD oNe_b) (nomark _) (VE.look (ve_callB (md := .val) (r := (rData oRepr .val K)) (cr_repr (Room_u100 hr) hg) opN_data rfl m_repr (by decide +kernel) (va_cons (VE.look (VE.frz (ve_callK K rfl (fr := true) C_ties.ok hr rfl C_ties.mg C_ties.kp C_ties.bd pass0 (va_cons (ve_var 3) (va_cons (ve_var 4) va_nil))))) va_nil))) (VE.look (ve_callB (md := .val) (r := (rData oRepr .val K)) (cr_repr (Room_u100 hr) hg) opN_data rfl m_repr (by decide +kernel) (va_cons (VE.look (VE.frz (ve_callK K rfl (fr := true) C__law_ties.ok hr rfl C__law_ties.mg C__law_ties.kp C__law_ties.bd pass0 (va_cons (ve_var 3) (va_cons (ve_var 4) va_nil))))) va_nil)))) (vw_or1 (vt_cmp (r := rD oNe K) (or_ne hr.units) (op2_rD oNe_b) (nomark _) (VE.look (ve_cmp (r := rD oEq K) (or_eq hr.units) (op2_rD oEq_b) (nomark _) (VE.look (ve_var 13)) (VE.look (VE.frz (ve_revK K rfl (ve_varL 12)))))) (VE.look (ve_cmp (r := rD oEq K) (or_eq hr.units) (op2_rD oEq_b) (nomark _) (VE.look (VE.frz (ve_callK K rfl (fr := true) C_ties.ok hr rfl C_ties.mg C_ties.kp C_ties.bd pass0 (va_cons (ve_var 3) (va_cons (ve_var 4) va_nil))))) (VE.look (VE.frz (ve_lst va_nil)))))))))) (vss_one (vs_ret ve_bl))
  vss_nil)
  (vss_cons (vs_if (vt_cmp (r := rD oGt K) (or_gt hr.units) (op2_rD oGt_b) (nomark _) (VE.look (ve_callB (md := .val) (r := rData oMaxL .val K) (cr_maxD (Room_u100 hr) rfl) opN_data rfl m_max (by decide +kernel) (va_cons (VE.look (ve_op2 (md := .val) or_addA op2_add (VE.look (VE.frz (ve_lst (va_cons ve_int va_nil)))) (VE.look (VE.frz (ve_lc (own := [("t", 19)]) rfl nd (vi_range2 rfl m_range (va_cons (VE.look ve_int) (va_cons (VE.look (ve_callB (md := .val) (r := (rLenK K)) call_len opN_len rfl m_len (by decide +kernel) (va_cons (ve_varL 12) va_nil))) va_nil))) (blkOk_by (own := [("t", 19)]) (N := N_law) (sc := defScope s_law) (by decide +kernel)) (fun _ _ _ _ _ => (vg_name 19 nd rfl (by first | exact .inl rfl | exact .inr rfl))) (fun _ _ _ _ _ => vts_nil) (fun _ _ _ _ _ => (ve_callB (md := .val) (r := rMax2K K) (call_max2 rfl) opN_max2 rfl m_max (by decide +kernel) (va_cons (VE.look (ve_callB (md := .val) (r := (rAbsK K)) call_abs opN_abs rfl m_abs (by decide +kernel) (va_cons (VE.look (ve_op2 (md := .val) op_sub op2_sub (VE.look (ve_ix (r := rIx K) ix_seq op2_ix (VE.look (ve_ix (r := rIx K) ix_seq op2_ix (ve_varL 12) (VE.look (ve_var 19)))) (VE.look ve_int))) (VE.look (ve_ix (r := rIx K) ix_seq op2_ix (VE.look (ve_ix (r := rIx K) ix_seq op2_ix (ve_varL 12) (VE.look (ve_op2 (md := .val) op_sub op2_sub (VE.look (ve_var 19)) (VE.look ve_int))))) (VE.look ve_int))))) va_nil))) (va_cons (VE.look (ve_callB (md := .val) (r := (rAbsK K)) call_abs opN_abs rfl m_abs (by decide +kernel) (va_cons (VE.look (ve_op2 (md := .val) op_sub op2_sub (VE.look (ve_ix (r := rIx K) ix_seq op2_ix (VE.look (ve_ix (r := rIx K) ix_seq op2_ix (ve_varL 12) (VE.look (ve_var 19)))) (VE.look ve_int))) (VE.look (ve_ix (r := rIx K) ix_seq op2_ix (VE.look (ve_ix (r := rIx K) ix_seq op2_ix (ve_varL 12) (VE.look (ve_op2 (md := .val) op_sub op2_sub (VE.look (ve_var 19)) (VE.look ve_int))))) (VE.look ve_int))))) va_nil))) va_nil))))))))) va_nil))) (VE.look ve_int)) (vss_one (vs_ret ve_bl))
  vss_nil)
  (vss_cons (vs_set 6 nd rfl (by first | exact .inl rfl | exact .inr rfl) (ve_callTy (md := .val) (r := (rIntK K)) call_int1 opN_int rfl m_int (by decide +kernel) (va_cons (VE.look (ve_cmp (r := rD oGe K) (or_ge hr.units) (op2_rD oGe_b) (nomark _) (VE.look (ve_callB (md := .val) (r := (rAbsK K)) call_abs opN_abs rfl m_abs (by decide +kernel) (va_cons (VE.look (ve_op2 (md := .val) op_sub op2_sub (VE.look (ve_ix (r := rIx K) ix_seq op2_ix (VE.look (ve_var 4)) (VE.look ve_int))) (VE.look (ve_ix (r := rIx K) ix_seq op2_ix (VE.look (ve_var 3)) (VE.look ve_int))))) va_nil))) (VE.look (ve_callB (md := .val) (r := (rAbsK K)) call_abs opN_abs rfl m_abs (by decide +kernel) (va_cons (VE.look (ve_op2 (md := .val) op_sub op2_sub (VE.look (ve_ix (r := rIx K) ix_seq op2_ix (VE.look (ve_var 4)) (VE.look ve_int))) (VE.look (ve_ix (r := rIx K) ix_seq op2_ix (VE.look (ve_var 3)) (VE.look ve_int))))) va_nil))))) va_nil)))
  (vss_cons (vs_if (vt_cmp  op_isN op2_is (nomark _) (VE.look (ve_callK K rfl (fr := false) C_slopes.ok hr rfl C_slopes.mg C_slopes.kp C_slopes.bd pass0 (va_cons (VE.frz (ve_lc (own := [("cell", 17)]) rfl nd (vi_listK K rfl (md := .look) (ve_varL 12)) (blkOk_by (own := [("cell", 17)]) (N := N_law) (sc := defScope s_law) (by decide +kernel)) (fun _ _ _ _ _ => (vg_name 17 nd rfl (by first | exact .inl rfl | exact .inr rfl))) (fun _ _ _ _ _ => vts_nil) (fun _ _ _ _ _ => (ve_ix (r := rIx K) ix_seq op2_ix (VE.look (ve_var 17)) (VE.look (ve_var 6)))))) va_nil))) (VE.look ve_non)) (vss_one (vs_ret ve_bl))
  vss_nil)
  (vss_cons (vs_meth 12 rfl (by first | exact Or.inl rfl | exact Or.inr (Or.inl rfl)) PySem.F.slot_list_append PySem.F.type_list_append mt_append opM_append (va_cons (ve_tup (va_cons ve_int (va_cons ve_int va_nil))) va_nil))
  (vss_one (vs_if (vt_cmp (r := rD oNe K) (or_ne hr.units) (op2_rD oNe_b) (nomark _) (VE.look (ve_callB (md := .val) (r := (rData oRepr .val K)) (cr_repr (Room_u100 hr) hg) opN_data rfl m_repr (by decide +kernel) (va_cons (VE.look (VE.frz (ve_callK K rfl (fr := true) C_line.ok hr rfl C_line.mg C_line.kp C_line.bd pass0 (va_cons (ve_var 3) (va_cons (ve_var 4) va_nil))))) va_nil))) (VE.look (ve_callB (md := .val) (r := (rData oRepr .val K)) (cr_repr (Room_u100 hr) hg) opN_data rfl m_repr (by decide +kernel) (va_cons (VE.look (ve_var 5)) va_nil)))) (vss_one (vs_ret ve_bl))
  vss_nil))))))))))))
 (vss_cons (vs_for PassesOwn.never rfl (vi_range1 rfl m_range (va_cons (VE.look ve_int) va_nil)) (vg_name 2 nd rfl (by first | exact .inl rfl | exact .inr rfl))
  (vss_cons (vs_setO 7 nd rfl (by first | exact .inl rfl | exact .inr rfl) (ve_lc (own := [("cell", 17)]) rfl nd (vi_listK K rfl (md := .val) (VE.frz (ve_callK K rfl (fr := true) C__law_line.ok hr rfl C__law_line.mg C__law_line.kp C__law_line.bd pass0 (va_cons (ve_tup (va_cons ve_int (va_cons ve_int va_nil))) (va_cons (ve_tup (va_cons (ve_op2 (md := .val) or_addA op2_add (VE.look ve_int) (VE.look (ve_callK K rfl (fr := false) C__law_mix.ok hr rfl C__law_mix.mg C__law_mix.kp C__law_mix.bd pass0 (va_cons (ve_var 1) (va_cons (ve_op2 (md := .val) or_addA op2_add (VE.look ve_int) (VE.look (ve_var 2))) (va_cons ve_int va_nil)))))) (va_cons (ve_callK K rfl (fr := false) C__law_mix.ok hr rfl C__law_mix.mg C__law_mix.kp C__law_mix.bd pass0 (va_cons (ve_var 1) (va_cons (ve_op2 (md := .val) or_addA op2_add (VE.look ve_int) (VE.look (ve_var 2))) (va_cons ve_int va_nil)))) va_nil))) va_nil))))) (blkOk_by (own := [("cell", 17)]) (N := N_law) (sc := defScope s_law) (by decide +kernel)) (fun _ _ _ _ _ => (vg_name 17 nd rfl (by first | exact .inl rfl | exact .inr rfl))) (fun _ _ _ _ _ => vts_nil) (fun _ _ _ _ _ => (ve_ix (r := rIx K) ix_seq op2_ix (VE.look (ve_var 17)) (VE.look ve_int)))))
  (vss_cons (vs_if (vt_cmp (r := rD oEq K) (or_eq hr.units) (op2_rD oEq_b) (nomark _) (VE.look (ve_callK K rfl (fr := false) C__law_mix.ok hr rfl C__law_mix.mg C__law_mix.kp C__law_mix.bd pass0 (va_cons (ve_var 1) (va_cons (ve_op2 (md := .val) or_addA op2_add (VE.look ve_int) (VE.look (ve_var 2))) (va_cons ve_int va_nil))))) (VE.look ve_int)) (vss_one (vs_setO 7 nd rfl (by first | exact .inl rfl | exact .inr rfl) (ve_lc (own := [("t", 19)]) rfl nd (vi_range1 rfl m_range (va_cons (VE.look (ve_op2 (md := .val) or_addA op2_add (VE.look ve_int) (VE.look (ve_callK K rfl (fr := false) C__law_mix.ok hr rfl C__law_mix.mg C__law_mix.kp C__law_mix.bd pass0 (va_cons (ve_var 1) (va_cons (ve_op2 (md := .val) or_addA op2_add (VE.look ve_int) (VE.look (ve_var 2))) (va_cons ve_int va_nil))))))) va_nil)) (blkOk_by (own := [("t", 19)]) (N := N_law) (sc := defScope s_law) (by decide +kernel)) (fun _ _ _ _ _ => (vg_name 19 nd rfl (by first | exact .inl rfl | exact .inr rfl))) (fun _ _ _ _ _ => vts_nil) (fun _ _ _ _ _ => (ve_callK K rfl (fr := false) C__law_mix.ok hr rfl C__law_mix.mg C__law_mix.kp C__law_mix.bd pass0 (va_cons (ve_var 1) (va_cons (ve_op2 (md := .val) or_addA op2_add (VE.look (ve_op2 (md := .val) or_addA op2_add (VE.look ve_int) (VE.look (ve_op2 (md := .val) or_mulA op2_mul (VE.look ve_int) (VE.look (ve_var 2)))))) (VE.look (ve_var 19))) (va_cons ve_int va_nil))))))))
  (vss_one (vs_if (vt_cmp (r := rD oEq K) (or_eq hr.units) (op2_rD oEq_b) (nomark _) (VE.look (ve_callK K rfl (fr := false) C__law_mix.ok hr rfl C__law_mix.mg C__law_mix.kp C__law_mix.bd pass0 (va_cons (ve_var 1) (va_cons (ve_op2 (md := .val) or_addA op2_add (VE.look ve_int) (VE.look (ve_var 2))) (va_cons ve_int va_nil))))) (VE.look ve_int)) (vss_cons (vs_set 18 nd rfl (by first | exact .inl rfl | exact .inr rfl) (ve_callK K rfl (fr := false) C__law_mix.ok hr rfl C__law_mix.mg C__law_mix.kp C__law_mix.bd pass0 (va_cons (ve_var 1) (va_cons (ve_op2 (md := .val) or_addA op2_add (VE.look ve_int) (VE.look (ve_var 2))) (va_cons (ve_callB (md := .val) (r := (rLenK K)) call_len opN_len rfl m_len (by decide +kernel) (va_cons (ve_varL 7) va_nil)) va_nil)))))
    (vss_one (vs_setIx 7 rfl (by first | exact Or.inl rfl | exact Or.inr (Or.inl rfl)) (ve_var 18) (ve_op2 (md := .val) op_sub op2_sub (VE.look (ve_op2 (md := .val) or_addA op2_add (VE.look (ve_ix (r := rIx K) ix_seq op2_ix (ve_varL 7) (VE.look (ve_var 18)))) (VE.look (ve_callK K rfl (fr := false) C__law_mix.ok hr rfl C__law_mix.mg C__law_mix.kp C__law_mix.bd pass0 (va_cons (ve_var 1) (va_cons (ve_op2 (md := .val) or_addA op2_add (VE.look ve_int) (VE.look (ve_var 2))) (va_cons ve_int va_nil))))))) (VE.look ve_int)))))
   vss_nil)))
  (vss_frz 7 (vss_cons (vs_set 8 nd rfl (by first | exact .inl rfl | exact .inr rfl) (ve_callB (md := .val) (r := (rData oRepr .val K)) (cr_repr (Room_u100 hr) hg) opN_data rfl m_repr (by decide +kernel) (va_cons (VE.look (ve_var 7)) va_nil)))
  (vss_cons (vs_set 5 nd rfl (by first | exact .inl rfl | exact .inr rfl) (ve_tup (va_cons (ve_tup (va_cons ve_int (va_cons ve_int va_nil))) (va_cons (ve_tup (va_cons ve_int (va_cons ve_int va_nil))) va_nil))))
  (vss_cons (vs_if (vt_cmp (r := rD oGt K) (or_gt hr.units) (op2_rD oGt_b) (nomark _) (VE.look (ve_callB (md := .val) (r := (rLenK K)) call_len opN_len rfl m_len (by decide +kernel) (va_cons (VE.look (ve_var 7)) va_nil))) (VE.look ve_int)) (vss_one (vs_set 5 nd rfl (by first | exact .inl rfl | exact .inr rfl) (ve_callK K rfl (fr := false) C__law_slopes.ok hr rfl C__law_slopes.mg C__law_slopes.kp C__law_slopes.bd pass0 (va_cons (ve_var 7) va_nil))))
  vss_nil)
  (vss_cons (vs_asg (ve_tup (va_cons (ve_callK K rfl (fr := false) C_slopes.ok hr rfl C_slopes.mg C_slopes.kp C_slopes.bd pass0 (va_cons (ve_var 7) va_nil)) (va_cons (ve_callK K rfl (fr := false) C_bars.ok hr rfl C_bars.mg C_bars.kp C_bars.bd pass0 (va_cons (ve_var 7) va_nil)) va_nil))) (vg_tupK K rfl rfl (vgs_cons (vg_name 12 nd rfl (by first | exact .inl rfl | exact .inr rfl)) (vgs_cons (vg_name 14 nd rfl (by first | exact .inl rfl | exact .inr rfl)) vgs_nil))))
  (vss_cons (vs_if (VW.vt (vw_or (vt_cmp (r := rD oNe K) (or_ne hr.units) (op2_rD oNe_b) (nomark _) (VE.look (ve_callB (md := .val) (r := (rData oRepr .val K)) (cr_repr (Room_u100 hr) hg) opN_data rfl m_repr (by decide +kernel) (va_cons (ve_varL 12) va_nil))) (VE.look (ve_callB (md := .val) (r := (rData oRepr .val K)) (cr_repr (Room_u100 hr) hg) opN_data rfl m_repr (by decide +kernel) (va_cons (VE.look (ve_var 5)) va_nil)))) (vw_or1 (vt_cmp (r := rD oNe K) (or_ne hr.units) (op2_rD oNe_b) (nomark _) (VE.look (ve_cmp  op_isN op2_is (nomark _) (VE.look (ve_var 14)) (VE.look ve_non))) (VE.look (ve_cmp  op_notN op2_isNot (nomark _) (VE.look (ve_var 5)) (VE.look ve_non))))))) (vss_one (vs_ret ve_bl))
  vss_nil)
  (vss_cons (vs_set 9 nd rfl (by first | exact .inl rfl | exact .inr rfl) (VE.frz (ve_lst (va_cons (ve_tup (va_cons (ve_tup (va_cons ve_int (va_cons ve_int va_nil))) (va_cons (ve_tup (va_cons ve_int (va_cons ve_int va_nil))) va_nil))) (va_cons (ve_tup (va_cons (ve_tup (va_cons ve_int (va_cons ve_int va_nil))) (va_cons (ve_tup (va_cons ve_int (va_cons ve_int va_nil))) va_nil))) (va_cons (ve_tup (va_cons (ve_tup (va_cons ve_int (va_cons ve_int va_nil))) (va_cons (ve_tup (va_cons ve_int (va_cons ve_int va_nil))) va_nil))) (va_cons (ve_tup (va_cons (ve_tup (va_cons ve_int (va_cons (ve_callB (md := .val) (r := (rLenK K)) call_len opN_len rfl m_len (by decide +kernel) (va_cons (VE.look (ve_var 7)) va_nil)) va_nil))) (va_cons (ve_tup (va_cons ve_int (va_cons ve_int va_nil))) va_nil))) va_nil)))))))
  (vss_cons (vs_if (vt_cmp  op_notN op2_isNot (nomark _) (VE.look (ve_var 14)) (VE.look ve_non)) (vss_cons (vs_if (vt_not (vt_val (ve_callK K rfl (fr := false) C__law_are_bars.ok hr rfl C__law_are_bars.mg C__law_are_bars.kp C__law_are_bars.bd pass0 (va_cons (ve_var 7) (va_cons (ve_ix (r := rIx K) ix_seq op2_ix (VE.look (ve_var 14)) (VE.look ve_int)) (va_cons (ve_ix (r := rIx K) ix_seq op2_ix (VE.look (ve_var 14)) (VE.look ve_int)) va_nil)))))) (vss_one (vs_ret ve_bl))
   vss_nil)
   (vss_one (vs_set 9 nd rfl (by first | exact .inl rfl | exact .inr rfl) (ve_op2 (md := .val) or_addA op2_add (VE.look (ve_var 9)) (VE.look (VE.frz (ve_lst (va_cons (ve_var 14) (va_cons (ve_tup (va_cons (ve_ix (r := rIx K) ix_seq op2_ix (VE.look (ve_var 14)) (VE.look ve_int)) (va_cons (ve_ix (r := rIx K) ix_seq op2_ix (VE.look (ve_var 14)) (VE.look ve_int)) va_nil))) (va_cons (ve_tup (va_cons (ve_ix (r := rIx K) ix_seq op2_ix (VE.look (ve_var 14)) (VE.look ve_int)) (va_cons (ve_ix (r := rIx K) ix_seq op2_ix (VE.look (ve_var 14)) (VE.look ve_int)) va_nil))) va_nil))))))))))
  vss_nil)
  (vss_cons (vs_for PassesOwn.never rfl (vi_listK K rfl (md := .val) (ve_var 9)) (vg_tupK K rfl rfl (vgs_cons (vg_name 15 nd rfl (by first | exact .inl rfl | exact .inr rfl)) (vgs_cons (vg_name 16 nd rfl (by first | exact .inl rfl | exact .inr rfl)) vgs_nil)))
   (vss_one (vs_if (vt_cmp (r := rD oNe K) (or_ne hr.units) (op2_rD oNe_b) (nomark _) (VE.look (ve_callB (md := .val) (r := (rData oRepr .val K)) (cr_repr (Room_u100 hr) hg) opN_data rfl m_repr (by decide +kernel) (va_cons (VE.look (ve_callK K rfl (fr := false) C_are_bars.ok hr rfl C_are_bars.mg C_are_bars.kp C_are_bars.bd pass0 (va_cons (ve_var 7) (va_cons (ve_var 15) (va_cons (ve_var 16) va_nil))))) va_nil))) (VE.look (ve_callB (md := .val) (r := (rData oRepr .val K)) (cr_repr (Room_u100 hr) hg) opN_data rfl m_repr (by decide +kernel) (va_cons (VE.look (ve_callK K rfl (fr := false) C__law_are_bars.ok hr rfl C__law_are_bars.mg C__law_are_bars.kp C__law_are_bars.bd pass0 (va_cons (ve_var 7) (va_cons (ve_var 15) (va_cons (ve_var 16) va_nil))))) va_nil)))) (vss_one (vs_ret ve_bl))
   vss_nil)))
  (vss_cons (vs_set 10 nd rfl (by first | exact .inl rfl | exact .inr rfl) (ve_op2 (md := .val) op_sub op2_sub (VE.look (ve_callK K rfl (fr := false) C__law_mix.ok hr rfl C__law_mix.mg C__law_mix.kp C__law_mix.bd pass0 (va_cons (ve_var 1) (va_cons (ve_op2 (md := .val) or_addA op2_add (VE.look ve_int) (VE.look (ve_var 2))) (va_cons ve_int va_nil))))) (VE.look ve_int)))
  (vss_cons (vs_set 11 nd rfl (by first | exact .inl rfl | exact .inr rfl) (VE.frz (ve_lst (va_cons (VE.frz (ve_revK K rfl (VE.look (ve_var 7)))) (va_cons (VE.frz (ve_lc (own := [("height", 20)]) rfl nd (vi_listK K rfl (md := .val) (ve_var 7)) (blkOk_by (own := [("height", 20)]) (N := N_law) (sc := defScope s_law) (by decide +kernel)) (fun _ _ _ _ _ => (vg_name 20 nd rfl (by first | exact .inl rfl | exact .inr rfl))) (fun _ _ _ _ _ => vts_nil) (fun _ _ _ _ _ => (ve_un un_neg op1_neg (VE.look (ve_var 20)))))) (va_cons (VE.frz (ve_lc (own := [("t", 19)]) rfl nd (vi_range1 rfl m_range (va_cons (VE.look (ve_callB (md := .val) (r := (rLenK K)) call_len opN_len rfl m_len (by decide +kernel) (va_cons (VE.look (ve_var 7)) va_nil))) va_nil)) (blkOk_by (own := [("t", 19)]) (N := N_law) (sc := defScope s_law) (by decide +kernel)) (fun _ _ _ _ _ => (vg_name 19 nd rfl (by first | exact .inl rfl | exact .inr rfl))) (fun _ _ _ _ _ => vts_nil) (fun _ _ _ _ _ => (ve_op2 (md := .val) or_addA op2_add (VE.look (ve_op2 (md := .val) or_addA op2_add (VE.look (ve_ix (r := rIx K) ix_seq op2_ix (VE.look (ve_var 7)) (VE.look (ve_var 19)))) (VE.look (ve_op2 (md := .val) or_mulA op2_mul (VE.look (ve_var 10)) (VE.look (ve_var 19)))))) (VE.look ve_int))))) va_nil))))))
  (vss_one (vs_if (VW.vt (vw_or (vt_cmp (r := rD oNe K) (or_ne hr.units) (op2_rD oNe_b) (nomark _) (VE.look (VE.frz (ve_lc (own := [("other", 21)]) rfl nd (vi_listK K rfl (md := .val) (ve_var 11)) (blkOk_by (own := [("other", 21)]) (N := N_law) (sc := defScope s_law) (by decide +kernel)) (fun _ _ _ _ _ => (vg_name 21 nd rfl (by first | exact .inl rfl | exact .inr rfl))) (fun _ _ _ _ _ => (vts_one (vt_cmp (r := rD oNe K) (or_ne hr.units) (op2_rD oNe_b) (nomark _) (VE.look (ve_cmp  op_isN op2_is (nomark _) (VE.look (ve_callK K rfl (fr := false) C_slopes.ok hr rfl C_slopes.mg C_slopes.kp C_slopes.bd pass0 (va_cons (ve_var 21) va_nil))) (VE.look ve_non))) (VE.look (ve_cmp  op_isN op2_is (nomark _) (VE.look (ve_var 5)) (VE.look ve_non)))))) (fun _ _ _ _ _ => (ve_var 21))))) (VE.look (VE.frz (ve_lst va_nil)))) (vw_or1 (vt_cmp (r := rD oNe K) (or_ne hr.units) (op2_rD oNe_b) (nomark _) (VE.look (ve_callB (md := .val) (r := (rData oRepr .val K)) (cr_repr (Room_u100 hr) hg) opN_data rfl m_repr (by decide +kernel) (va_cons (VE.look (ve_var 7)) va_nil))) (VE.look (ve_var 8)))))) (vss_one (vs_ret ve_bl))
  vss_nil))))))))))))))))
 (vss_one (vs_ret ve_bl)))))⟩)
end
/-! the head -/
def d_fraction : He.DefD := ⟨("fraction", none), "fraction", "fraction", defArgs s_fraction, defBody s_fraction, defScope s_fraction, [], []⟩
def d_is_less : He.DefD := ⟨("is_less", none), "is_less", "is_less", defArgs s_is_less, defBody s_is_less, defScope s_is_less, [], []⟩
def d_is_point : He.DefD := ⟨("is_point", none), "is_point", "is_point", defArgs s_is_point, defBody s_is_point, defScope s_is_point, [], []⟩
def d_check_points : He.DefD := ⟨("check_points", none), "check_points", "check_points", defArgs s_check_points, defBody s_check_points, defScope s_check_points, [], []⟩
def d_sign_of : He.DefD := ⟨("sign_of", none), "sign_of", "sign_of", defArgs s_sign_of, defBody s_sign_of, defScope s_sign_of, [], []⟩
def d_moved : He.DefD := ⟨("moved", none), "moved", "moved", defArgs s_moved, defBody s_moved, defScope s_moved, [], []⟩
def d_line_of : He.DefD := ⟨("line_of", none), "line_of", "line_of", defArgs s_line_of, defBody s_line_of, defScope s_line_of, [], []⟩
def d_line : He.DefD := ⟨("line", none), "line", "line", defArgs s_line, defBody s_line, defScope s_line, [], []⟩
def d_ties : He.DefD := ⟨("ties", none), "ties", "ties", defArgs s_ties, defBody s_ties, defScope s_ties, [], []⟩
def d_check_heights : He.DefD := ⟨("check_heights", none), "check_heights", "check_heights", defArgs s_check_heights, defBody s_check_heights, defScope s_check_heights, [], []⟩
def d_asked : He.DefD := ⟨("asked", none), "asked", "asked", defArgs s_asked, defBody s_asked, defScope s_asked, [], []⟩
def d_let : He.DefD := ⟨("let", none), "let", "let", defArgs s_let, defBody s_let, defScope s_let, [], []⟩
def d_pairs_of : He.DefD := ⟨("pairs_of", none), "pairs_of", "pairs_of", defArgs s_pairs_of, defBody s_pairs_of, defScope s_pairs_of, [], []⟩
def d_sharpest : He.DefD := ⟨("sharpest", none), "sharpest", "sharpest", defArgs s_sharpest, defBody s_sharpest, defScope s_sharpest, [], []⟩
def d_slopes : He.DefD := ⟨("slopes", none), "slopes", "slopes", defArgs s_slopes, defBody s_slopes, defScope s_slopes, [], []⟩
def d_bars : He.DefD := ⟨("bars", none), "bars", "bars", defArgs s_bars, defBody s_bars, defScope s_bars, [], []⟩
def d_are_bars : He.DefD := ⟨("are_bars", none), "are_bars", "are_bars", defArgs s_are_bars, defBody s_are_bars, defScope s_are_bars, [], []⟩
def d__law_draws : He.DefD := ⟨("_law_draws", none), "_law_draws", "_law_draws", defArgs s__law_draws, defBody s__law_draws, defScope s__law_draws, [], []⟩
def d__law_mix : He.DefD := ⟨("_law_mix", none), "_law_mix", "_law_mix", defArgs s__law_mix, defBody s__law_mix, defScope s__law_mix, [], []⟩
def d__law_fraction : He.DefD := ⟨("_law_fraction", none), "_law_fraction", "_law_fraction", defArgs s__law_fraction, defBody s__law_fraction, defScope s__law_fraction, [], []⟩
def d__law_less : He.DefD := ⟨("_law_less", none), "_law_less", "_law_less", defArgs s__law_less, defBody s__law_less, defScope s__law_less, [], []⟩
def d__law_line : He.DefD := ⟨("_law_line", none), "_law_line", "_law_line", defArgs s__law_line, defBody s__law_line, defScope s__law_line, [], []⟩
def d__law_ties : He.DefD := ⟨("_law_ties", none), "_law_ties", "_law_ties", defArgs s__law_ties, defBody s__law_ties, defScope s__law_ties, [], []⟩
def d__law_pairs : He.DefD := ⟨("_law_pairs", none), "_law_pairs", "_law_pairs", defArgs s__law_pairs, defBody s__law_pairs, defScope s__law_pairs, [], []⟩
def d__law_slopes : He.DefD := ⟨("_law_slopes", none), "_law_slopes", "_law_slopes", defArgs s__law_slopes, defBody s__law_slopes, defScope s__law_slopes, [], []⟩
def d__law_are_bars : He.DefD := ⟨("_law_are_bars", none), "_law_are_bars", "_law_are_bars", defArgs s__law_are_bars, defBody s__law_are_bars, defScope s__law_are_bars, [], []⟩
def d_law : He.DefD := ⟨("law", none), "law", "law", defArgs s_law, defBody s_law, defScope s_law, [], []⟩
def fn : List He.DefD := [d_fraction, d_is_less, d_is_point, d_check_points, d_sign_of, d_moved, d_line_of, d_line, d_ties, d_check_heights, d_asked, d_let, d_pairs_of, d_sharpest, d_slopes, d_bars, d_are_bars, d__law_draws, d__law_mix, d__law_fraction, d__law_less, d__law_line, d__law_ties, d__law_pairs, d__law_slopes, d__law_are_bars, d_law]
def fa : List He.Fa := [.glo "fraction", .glo "is_less", .glo "is_point", .int "MOST_POINT" 100, .glo "check_points", .free "enumerate", .glo "sign_of", .free "int", .glo "moved", .glo "line_of", .free "abs", .free "range", .glo "line", .glo "ties", .free "max", .free "min", .glo "check_heights", .int "MOST_HEIGHTS" 40, .int "MOST_HEIGHT" 1000, .free "len", .glo "asked", .glo "let", .glo "pairs_of", .glo "sharpest", .glo "slopes", .glo "bars", .glo "are_bars", .glo "_law_draws", .glo "_law_mix", .glo "_law_fraction", .glo "_law_less", .glo "_law_line", .glo "_law_ties", .glo "_law_pairs", .glo "_law_slopes", .glo "_law_are_bars", .glo "law", .free "repr"]
def loose : List Str := (["gcd", "PageError", "OutOfRange", "WrongSize", "BadPoint", "fraction", "is_less", "MOST_POINT", "MOST_HEIGHTS", "MOST_HEIGHT", "is_point", "check_points", "sign_of", "moved", "line_of", "line", "ties", "check_heights", "asked", "let", "pairs_of", "sharpest", "slopes", "bars", "are_bars", "_law_draws", "_law_mix", "_law_fraction", "_law_less", "_law_line"] : List Str) ++ (["_law_ties", "_law_pairs", "_law_slopes", "_law_are_bars"] : List Str)
abbrev R : PySem.W.OpenRow := PySem.W.OpenLaw.row PySem.Challenge.rw_printstack_k49_whole_lines_and_straight
def ex (K : PySem.W.Frag) : Bool := isBlt "gcd" "math.gcd" K
abbrev hk : PySem.W.Hook := hookX ex 4 fa fn
def ob (s : PySem.W.SharedT) : AlX := obsX ex 4 fa fn (HandSHeadRun.getT s)
theorem ob_eq (s : PySem.W.SharedT) : ob s = hk.obs s.abs := obsX_eq (HandSHeadRun.getT_eq s)
theorem run (w : World) : HandSHeadRun.RunEqI R (PySem.W.view R.prog [0, 38]) hk ob 4000 loose w := by
  unfold HandSHeadRun.RunEqI
  kernel_rfl
theorem facts {P : Program} {w : World} {K : PySem.W.Frag} {h : Heap} {mg : Str → Option Value} {f : Addr} (X : K.In h) (G : h.Ns mainGlobals mg) (hfa : mg ("law" : Str) = some (.ref f)) (c : He.SaysD fa fn K) (cx : ex K = true) :
    ∃ fd : FuncData, (∀ (s : Shared) (v : Value), BindsTo s fd ⟨[v], []⟩ [("script", v)]) ∧ ∀ base : Heap, K.In base → base.Ns mainGlobals mg → RunAt P w K mg base callerA f fd ["script"] (SpScr K false S_law) := by
  obtain ⟨fd_fraction, F_fraction⟩ := c.def_ 0 (d := d_fraction) rfl
  obtain ⟨fd_is_less, F_is_less⟩ := c.def_ 1 (d := d_is_less) rfl
  obtain ⟨fd_is_point, F_is_point⟩ := c.def_ 2 (d := d_is_point) rfl
  obtain ⟨fd_check_points, F_check_points⟩ := c.def_ 3 (d := d_check_points) rfl
  obtain ⟨fd_sign_of, F_sign_of⟩ := c.def_ 4 (d := d_sign_of) rfl
  obtain ⟨fd_moved, F_moved⟩ := c.def_ 5 (d := d_moved) rfl
  obtain ⟨fd_line_of, F_line_of⟩ := c.def_ 6 (d := d_line_of) rfl
  obtain ⟨fd_line, F_line⟩ := c.def_ 7 (d := d_line) rfl
  obtain ⟨fd_ties, F_ties⟩ := c.def_ 8 (d := d_ties) rfl
  obtain ⟨fd_check_heights, F_check_heights⟩ := c.def_ 9 (d := d_check_heights) rfl
  obtain ⟨fd_asked, F_asked⟩ := c.def_ 10 (d := d_asked) rfl
  obtain ⟨fd_let, F_let⟩ := c.def_ 11 (d := d_let) rfl
  obtain ⟨fd_pairs_of, F_pairs_of⟩ := c.def_ 12 (d := d_pairs_of) rfl
  obtain ⟨fd_sharpest, F_sharpest⟩ := c.def_ 13 (d := d_sharpest) rfl
  obtain ⟨fd_slopes, F_slopes⟩ := c.def_ 14 (d := d_slopes) rfl
  obtain ⟨fd_bars, F_bars⟩ := c.def_ 15 (d := d_bars) rfl
  obtain ⟨fd_are_bars, F_are_bars⟩ := c.def_ 16 (d := d_are_bars) rfl
  obtain ⟨fd__law_draws, F__law_draws⟩ := c.def_ 17 (d := d__law_draws) rfl
  obtain ⟨fd__law_mix, F__law_mix⟩ := c.def_ 18 (d := d__law_mix) rfl
  obtain ⟨fd__law_fraction, F__law_fraction⟩ := c.def_ 19 (d := d__law_fraction) rfl
  obtain ⟨fd__law_less, F__law_less⟩ := c.def_ 20 (d := d__law_less) rfl
  obtain ⟨fd__law_line, F__law_line⟩ := c.def_ 21 (d := d__law_line) rfl
  obtain ⟨fd__law_ties, F__law_ties⟩ := c.def_ 22 (d := d__law_ties) rfl
  obtain ⟨fd__law_pairs, F__law_pairs⟩ := c.def_ 23 (d := d__law_pairs) rfl
  obtain ⟨fd__law_slopes, F__law_slopes⟩ := c.def_ 24 (d := d__law_slopes) rfl
  obtain ⟨fd__law_are_bars, F__law_are_bars⟩ := c.def_ 25 (d := d__law_are_bars) rfl
  obtain ⟨fd_law, F_law⟩ := c.def_ 26 (d := d_law) rfl
  have G_fraction := He.glo_ok X G (c.fact 0 (f := .glo "fraction") rfl)
  have G_is_less := He.glo_ok X G (c.fact 1 (f := .glo "is_less") rfl)
  have G_is_point := He.glo_ok X G (c.fact 2 (f := .glo "is_point") rfl)
  obtain ⟨u_MOST_POINT, g_MOST_POINT⟩ := He.int_ok X G (c.fact 3 (f := .int "MOST_POINT" 100) rfl)
  have G_check_points := He.glo_ok X G (c.fact 4 (f := .glo "check_points") rfl)
  have m_enumerate := He.free_ok X G (c.fact 5 (f := .free "enumerate") rfl)
  have G_sign_of := He.glo_ok X G (c.fact 6 (f := .glo "sign_of") rfl)
  have m_int := He.free_ok X G (c.fact 7 (f := .free "int") rfl)
  have G_moved := He.glo_ok X G (c.fact 8 (f := .glo "moved") rfl)
  have G_line_of := He.glo_ok X G (c.fact 9 (f := .glo "line_of") rfl)
  have m_abs := He.free_ok X G (c.fact 10 (f := .free "abs") rfl)
  have m_range := He.free_ok X G (c.fact 11 (f := .free "range") rfl)
  have G_line := He.glo_ok X G (c.fact 12 (f := .glo "line") rfl)
  have G_ties := He.glo_ok X G (c.fact 13 (f := .glo "ties") rfl)
  have m_max := He.free_ok X G (c.fact 14 (f := .free "max") rfl)
  have m_min := He.free_ok X G (c.fact 15 (f := .free "min") rfl)
  have G_check_heights := He.glo_ok X G (c.fact 16 (f := .glo "check_heights") rfl)
  obtain ⟨u_MOST_HEIGHTS, g_MOST_HEIGHTS⟩ := He.int_ok X G (c.fact 17 (f := .int "MOST_HEIGHTS" 40) rfl)
  obtain ⟨u_MOST_HEIGHT, g_MOST_HEIGHT⟩ := He.int_ok X G (c.fact 18 (f := .int "MOST_HEIGHT" 1000) rfl)
  have m_len := He.free_ok X G (c.fact 19 (f := .free "len") rfl)
  have G_asked := He.glo_ok X G (c.fact 20 (f := .glo "asked") rfl)
  have G_let := He.glo_ok X G (c.fact 21 (f := .glo "let") rfl)
  have G_pairs_of := He.glo_ok X G (c.fact 22 (f := .glo "pairs_of") rfl)
  have G_sharpest := He.glo_ok X G (c.fact 23 (f := .glo "sharpest") rfl)
  have G_slopes := He.glo_ok X G (c.fact 24 (f := .glo "slopes") rfl)
  have G_bars := He.glo_ok X G (c.fact 25 (f := .glo "bars") rfl)
  have G_are_bars := He.glo_ok X G (c.fact 26 (f := .glo "are_bars") rfl)
  have G__law_draws := He.glo_ok X G (c.fact 27 (f := .glo "_law_draws") rfl)
  have G__law_mix := He.glo_ok X G (c.fact 28 (f := .glo "_law_mix") rfl)
  have G__law_fraction := He.glo_ok X G (c.fact 29 (f := .glo "_law_fraction") rfl)
  have G__law_less := He.glo_ok X G (c.fact 30 (f := .glo "_law_less") rfl)
  have G__law_line := He.glo_ok X G (c.fact 31 (f := .glo "_law_line") rfl)
  have G__law_ties := He.glo_ok X G (c.fact 32 (f := .glo "_law_ties") rfl)
  have G__law_pairs := He.glo_ok X G (c.fact 33 (f := .glo "_law_pairs") rfl)
  have G__law_slopes := He.glo_ok X G (c.fact 34 (f := .glo "_law_slopes") rfl)
  have G__law_are_bars := He.glo_ok X G (c.fact 35 (f := .glo "_law_are_bars") rfl)
  have G_law := He.glo_ok X G (c.fact 36 (f := .glo "law") rfl)
  have m_repr := He.free_ok X G (c.fact 37 (f := .free "repr") rfl)
  have mb_gcd := isBlt_ok X G (show isBlt "gcd" "math.gcd" K = true from cx)
  have e := hfa.symm.trans G_law
  cases e
  have b_fraction := FunD.bindsN (ps := ["number", "by"]) F_fraction fun _ _ _ _ _ _ us hl => match us, hl with | [_, _], _ => rfl
  have b_is_less := FunD.bindsN (ps := ["one", "two"]) F_is_less fun _ _ _ _ _ _ us hl => match us, hl with | [_, _], _ => rfl
  have b_is_point := FunD.bindsN (ps := ["point"]) F_is_point fun _ _ _ _ _ _ us hl => match us, hl with | [_], _ => rfl
  have b_check_points := FunD.bindsN (ps := ["points"]) F_check_points fun _ _ _ _ _ _ us hl => match us, hl with | [_], _ => rfl
  have b_sign_of := FunD.bindsN (ps := ["number"]) F_sign_of fun _ _ _ _ _ _ us hl => match us, hl with | [_], _ => rfl
  have b_moved := FunD.bindsN (ps := ["step", "far", "other"]) F_moved fun _ _ _ _ _ _ us hl => match us, hl with | [_, _, _], _ => rfl
  have b_line_of := FunD.bindsN (ps := ["one", "two"]) F_line_of fun _ _ _ _ _ _ us hl => match us, hl with | [_, _], _ => rfl
  have b_line := FunD.bindsN (ps := ["one", "two"]) F_line fun _ _ _ _ _ _ us hl => match us, hl with | [_, _], _ => rfl
  have b_ties := FunD.bindsN (ps := ["one", "two"]) F_ties fun _ _ _ _ _ _ us hl => match us, hl with | [_, _], _ => rfl
  have b_check_heights := FunD.bindsN (ps := ["heights"]) F_check_heights fun _ _ _ _ _ _ us hl => match us, hl with | [_], _ => rfl
  have b_asked := FunD.bindsN (ps := ["heights", "i", "j"]) F_asked fun _ _ _ _ _ _ us hl => match us, hl with | [_, _, _], _ => rfl
  have b_let := FunD.bindsN (ps := ["heights", "i", "j"]) F_let fun _ _ _ _ _ _ us hl => match us, hl with | [_, _, _], _ => rfl
  have b_pairs_of := FunD.bindsN (ps := ["heights"]) F_pairs_of fun _ _ _ _ _ _ us hl => match us, hl with | [_], _ => rfl
  have b_sharpest := FunD.bindsN (ps := ["heights"]) F_sharpest fun _ _ _ _ _ _ us hl => match us, hl with | [_], _ => rfl
  have b_slopes := FunD.bindsN (ps := ["heights"]) F_slopes fun _ _ _ _ _ _ us hl => match us, hl with | [_], _ => rfl
  have b_bars := FunD.bindsN (ps := ["heights"]) F_bars fun _ _ _ _ _ _ us hl => match us, hl with | [_], _ => rfl
  have b_are_bars := FunD.bindsN (ps := ["heights", "one", "two"]) F_are_bars fun _ _ _ _ _ _ us hl => match us, hl with | [_, _, _], _ => rfl
  have b__law_draws := FunD.bindsN (ps := ["script"]) F__law_draws fun _ _ _ _ _ _ us hl => match us, hl with | [_], _ => rfl
  have b__law_mix := FunD.bindsN (ps := ["draws", "k", "many"]) F__law_mix fun _ _ _ _ _ _ us hl => match us, hl with | [_, _, _], _ => rfl
  have b__law_fraction := FunD.bindsN (ps := ["n", "d"]) F__law_fraction fun _ _ _ _ _ _ us hl => match us, hl with | [_, _], _ => rfl
  have b__law_less := FunD.bindsN (ps := ["one", "two"]) F__law_less fun _ _ _ _ _ _ us hl => match us, hl with | [_, _], _ => rfl
  have b__law_line := FunD.bindsN (ps := ["one", "two"]) F__law_line fun _ _ _ _ _ _ us hl => match us, hl with | [_, _], _ => rfl
  have b__law_ties := FunD.bindsN (ps := ["one", "two"]) F__law_ties fun _ _ _ _ _ _ us hl => match us, hl with | [_, _], _ => rfl
  have b__law_pairs := FunD.bindsN (ps := ["heights"]) F__law_pairs fun _ _ _ _ _ _ us hl => match us, hl with | [_], _ => rfl
  have b__law_slopes := FunD.bindsN (ps := ["heights"]) F__law_slopes fun _ _ _ _ _ _ us hl => match us, hl with | [_], _ => rfl
  have b__law_are_bars := FunD.bindsN (ps := ["heights", "one", "two"]) F__law_are_bars fun _ _ _ _ _ _ us hl => match us, hl with | [_, _, _], _ => rfl
  have b_law := FunD.bindsA (ps := ["script"]) F_law fun _ _ _ _ _ _ us hl => match us, hl with | [_], _ => rfl
  refine ⟨fd_law, fun s v => b_law s [v] rfl, fun base _ _ => ?_⟩
  have C_fraction : Callee P w K mg base 1 "fraction" ["number", "by"] (SpV K false S_fraction) _ fd_fraction := ⟨ok_fraction F_fraction mb_gcd, G_fraction, F_fraction.kp, b_fraction⟩
  have C_is_less : Callee P w K mg base 1 "is_less" ["one", "two"] (SpV K false S_is_less) _ fd_is_less := ⟨ok_is_less F_is_less, G_is_less, F_is_less.kp, b_is_less⟩
  have C_is_point : Callee P w K mg base 1 "is_point" ["point"] (SpV K false S_is_point) _ fd_is_point := ⟨ok_is_point F_is_point g_MOST_POINT, G_is_point, F_is_point.kp, b_is_point⟩
  have C_check_points : Callee P w K mg base 2 "check_points" ["points"] (SpV K false S_check_points) _ fd_check_points := ⟨ok_check_points F_check_points (C_is_point.mono (by decide)) m_enumerate, G_check_points, F_check_points.kp, b_check_points⟩
  have C_sign_of : Callee P w K mg base 1 "sign_of" ["number"] (SpV K false S_sign_of) _ fd_sign_of := ⟨ok_sign_of F_sign_of m_int, G_sign_of, F_sign_of.kp, b_sign_of⟩
  have C_moved : Callee P w K mg base 1 "moved" ["step", "far", "other"] (SpV K false S_moved) _ fd_moved := ⟨ok_moved F_moved, G_moved, F_moved.kp, b_moved⟩
  have C_line_of : Callee P w K mg base 2 "line_of" ["one", "two"] (SpV K true S_line_of) _ fd_line_of := ⟨ok_line_of F_line_of (C_moved.mono (by decide)) (C_sign_of.mono (by decide)) m_abs m_range, G_line_of, F_line_of.kp, b_line_of⟩
  have C_line : Callee P w K mg base 3 "line" ["one", "two"] (SpV K true S_line) _ fd_line := ⟨ok_line F_line (C_check_points.mono (by decide)) (C_line_of.mono (by decide)), G_line, F_line.kp, b_line⟩
  have C_ties : Callee P w K mg base 3 "ties" ["one", "two"] (SpV K true S_ties) _ fd_ties := ⟨ok_ties F_ties (C_check_points.mono (by decide)) m_abs m_max m_min m_range, G_ties, F_ties.kp, b_ties⟩
  have C_check_heights : Callee P w K mg base 1 "check_heights" ["heights"] (SpV K false S_check_heights) _ fd_check_heights := ⟨ok_check_heights F_check_heights g_MOST_HEIGHTS g_MOST_HEIGHT m_len, G_check_heights, F_check_heights.kp, b_check_heights⟩
  have C_asked : Callee P w K mg base 2 "asked" ["heights", "i", "j"] (SpV K false S_asked) _ fd_asked := ⟨ok_asked F_asked (C_fraction.mono (by decide)), G_asked, F_asked.kp, b_asked⟩
  have C_let : Callee P w K mg base 2 "let" ["heights", "i", "j"] (SpV K false S_let) _ fd_let := ⟨ok_let F_let (C_fraction.mono (by decide)), G_let, F_let.kp, b_let⟩
  have C_pairs_of : Callee P w K mg base 1 "pairs_of" ["heights"] (SpV K true S_pairs_of) _ fd_pairs_of := ⟨ok_pairs_of F_pairs_of m_range m_len, G_pairs_of, F_pairs_of.kp, b_pairs_of⟩
  have C_sharpest : Callee P w K mg base 3 "sharpest" ["heights"] (SpV K false S_sharpest) _ fd_sharpest := ⟨ok_sharpest F_sharpest (C_pairs_of.mono (by decide)) (C_is_less.mono (by decide)) (C_asked.mono (by decide)) (C_let.mono (by decide)), G_sharpest, F_sharpest.kp, b_sharpest⟩
  have C_slopes : Callee P w K mg base 4 "slopes" ["heights"] (SpV K false S_slopes) _ fd_slopes := ⟨ok_slopes F_slopes (C_check_heights.mono (by decide)) (C_sharpest.mono (by decide)) (C_asked.mono (by decide)) (C_let.mono (by decide)) (C_is_less.mono (by decide)) m_len, G_slopes, F_slopes.kp, b_slopes⟩
  have C_bars : Callee P w K mg base 5 "bars" ["heights"] (SpV K false S_bars) _ fd_bars := ⟨ok_bars F_bars (C_sharpest.mono (by decide)) (C_slopes.mono (by decide)), G_bars, F_bars.kp, b_bars⟩
  have C_are_bars : Callee P w K mg base 3 "are_bars" ["heights", "one", "two"] (SpV K false S_are_bars) _ fd_are_bars := ⟨ok_are_bars F_are_bars (C_check_heights.mono (by decide)) (C_is_less.mono (by decide)) (C_let.mono (by decide)) (C_asked.mono (by decide)) m_len, G_are_bars, F_are_bars.kp, b_are_bars⟩
  have C__law_draws : Callee P w K mg base 1 "_law_draws" ["script"] (SpScr K true S__law_draws) _ fd__law_draws := ⟨ok__law_draws F__law_draws m_range m_min m_abs m_len m_int, G__law_draws, F__law_draws.kp, b__law_draws⟩
  have C__law_mix : Callee P w K mg base 1 "_law_mix" ["draws", "k", "many"] (SpV K false S__law_mix) _ fd__law_mix := ⟨ok__law_mix F__law_mix m_len m_int, G__law_mix, F__law_mix.kp, b__law_mix⟩
  have C__law_fraction : Callee P w K mg base 1 "_law_fraction" ["n", "d"] (SpV K false S__law_fraction) _ fd__law_fraction := ⟨ok__law_fraction F__law_fraction m_abs m_int, G__law_fraction, F__law_fraction.kp, b__law_fraction⟩
  have C__law_less : Callee P w K mg base 1 "_law_less" ["one", "two"] (SpV K false S__law_less) _ fd__law_less := ⟨ok__law_less F__law_less, G__law_less, F__law_less.kp, b__law_less⟩
  have C__law_line : Callee P w K mg base 1 "_law_line" ["one", "two"] (SpV K true S__law_line) _ fd__law_line := ⟨ok__law_line F__law_line m_max m_range m_abs m_int, G__law_line, F__law_line.kp, b__law_line⟩
  have C__law_ties : Callee P w K mg base 1 "_law_ties" ["one", "two"] (SpV K true S__law_ties) _ fd__law_ties := ⟨ok__law_ties F__law_ties m_max m_min m_abs m_range, G__law_ties, F__law_ties.kp, b__law_ties⟩
  have C__law_pairs : Callee P w K mg base 1 "_law_pairs" ["heights"] (SpV K false S__law_pairs) _ fd__law_pairs := ⟨ok__law_pairs F__law_pairs m_range m_len, G__law_pairs, F__law_pairs.kp, b__law_pairs⟩
  have C__law_slopes : Callee P w K mg base 2 "_law_slopes" ["heights"] (SpV K false S__law_slopes) _ fd__law_slopes := ⟨ok__law_slopes F__law_slopes (C__law_pairs.mono (by decide)) (C__law_fraction.mono (by decide)) (C__law_less.mono (by decide)) m_range m_len m_int, G__law_slopes, F__law_slopes.kp, b__law_slopes⟩
  have C__law_are_bars : Callee P w K mg base 2 "_law_are_bars" ["heights", "one", "two"] (SpV K false S__law_are_bars) _ fd__law_are_bars := ⟨ok__law_are_bars F__law_are_bars (C__law_fraction.mono (by decide)) (C__law_less.mono (by decide)) (C__law_pairs.mono (by decide)), G__law_are_bars, F__law_are_bars.kp, b__law_are_bars⟩
  exact ok_law F_law (C__law_draws.mono (by decide)) (C__law_line.mono (by decide)) (C_line.mono (by decide)) (C_slopes.mono (by decide)) (C__law_mix.mono (by decide)) (C__law_slopes.mono (by decide)) (C_bars.mono (by decide)) (C__law_are_bars.mono (by decide)) (C_ties.mono (by decide)) (C__law_ties.mono (by decide)) (C_are_bars.mono (by decide)) m_range m_int m_repr m_max m_len m_abs ⟨rfl, by decide, by decide⟩
end P49
open PySem PySem.W PySem.Calls PyProof.Rows
theorem PySem.Challenge.cw_printstack_k49_whole_lines_and_straight_holds : PySem.Challenge.rw_printstack_k49_whole_lines_and_straight.Holds := by
  w_on; o_law
  refine HandSHeadRun.head_imp (r := OpenLaw.row PySem.Challenge.rw_printstack_k49_whole_lines_and_straight) (q := view (OpenLaw.row PySem.Challenge.rw_printstack_k49_whole_lines_and_straight).prog [0, 38]) (H := P49.hk) (ob := P49.ob) (M := 4000) (loose := P49.loose) (d := HandSHeadRun.topDef (OpenLaw.row PySem.Challenge.rw_printstack_k49_whole_lines_and_straight).prog 38) (kwd := []) P49.ob_eq
    P49.run (by kernel_rfl) (by kernel_rfl) (by kernel_rfl) (by rfl) (by first | assumption | decide +kernel) (by decide +kernel) ⟨rfl, rfl, rfl, rfl, rfl, by decide +kernel⟩ ?hw ?hc
  case hw => w_witness2
  case hc =>
    refine VL.walk_law (l := PySem.Challenge.rw_printstack_k49_whole_lines_and_straight) (n := 63) (x := "script") rfl (by decide) (by kernel_rfl) ?F
    intro w mg fa h Y G hmg0
    obtain ⟨K, KX, cx, c⟩ := Y
    have hmg : mg ("law" : PySem.Str) = some (.ref fa) := by
      have e : (HandSHeadRun.topDef (OpenLaw.row PySem.Challenge.rw_printstack_k49_whole_lines_and_straight).prog 38).name = ("law" : PySem.Str) := by kernel_rfl
      rw [← e]
      exact hmg0
    obtain ⟨fd, hb, hF⟩ := P49.facts (P := (PySem.Challenge.rw_printstack_k49_whole_lines_and_straight).prog) (w := w) KX G hmg c cx
    exact ⟨K, fd, VL.SpScr K false P49.S_law, KX, hb, fun H a ns hl ho hS => VL.want_law P49.law_true H a ns hl ho hS, hF⟩
