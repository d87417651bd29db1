import PyProof.Rows.All
import Wide.All
import OpenK.AllK
import Wide.FinOn
import PyProof.ReprReads
import HandS.ForMost
import HandS.Wide
import HandS.WideBits
import HandS.RevRange
import HandS.Conv
import HandS.TryMany
import HandS.Exc
import KE.Datum
import KE.DataCmp
import KE.SortData
import KE.DataMinMax
import KE.DataAny
import PyProof.ReprRoads
import KE.DataFind
import HandS.Defaults
import HandS.Words
import HandS.Ends
import HandS.HeadEnd
import HandS.Style
import KE.DatumOrd
import KE.DatumMore
import KE.DatumMoreOrd
import HandS.Base
import HandS.Call
import HandS.More
import HandS.WordsExc
import HandS.Head0
import HandS.Head1
import HandS.Head2
import HandS.HeadHook1
import HandS.HeadHook2
import Lean
import KE.KStateDown
import PySem.Challenge.RW_printstack_k32_whole_orders_by_weights
set_option Elab.async false
set_option linter.all false
set_option maxRecDepth 100000
/-! The value layer: a def is walked once by rules that speak of plain data (PyData) alone; what stands in the heap is kept here. -/
namespace VL
open PySem PySem.Spec PyProof.Rows L2

abbrev D := PyData
abbrev St := L2.St
def kD : Key → D
  | .inl i => .int i
  | .inr s => .str s

mutual
def Rp (K : PySem.W.Frag) (F : Hp) : D → V → Prop
  | .none, v => v = .non
  | .bool b, v => v = .bl b
  | .int i, v => v = .int i
  | .str x, v => v = .str x
  | .list ds, v => ∃ a xs, v = .ref a ∧ F a = some (.lst xs) ∧ RpA K F ds xs
  | .tuple ds, v => ∃ a xs, v = .ref a ∧ SqT K F a xs ∧ RpA K F ds xs
  | .dict es, v => ∃ a kvs, v = .ref a ∧ Rd F a (.dK kvs) ∧ RpK K F es kvs
def RpA (K : PySem.W.Frag) (F : Hp) : List D → List V → Prop
  | [], xs => xs = []
  | d :: ds, xs => ∃ x r, xs = x :: r ∧ Rp K F d x ∧ RpA K F ds r
def RpK (K : PySem.W.Frag) (F : Hp) : List (D × D) → List (Key × V) → Prop
  | [], kvs => kvs = []
  | (k, d) :: es, kvs => ∃ k' v r, kvs = (k', v) :: r ∧ k = kD k' ∧ Rp K F d v ∧ RpK K F es r
end

def Sub (F G : Hp) : Prop := ∀ a o, F a = some o → G a = some o
theorem Sub.refl (F : Hp) : Sub F F := fun _ _ h => h
theorem Sub.trans {F G H : Hp} (a : Sub F G) (b : Sub G H) : Sub F H := fun c o h => b c o (a c o h)
theorem Sub.none {F G : Hp} (s : Sub F G) {a : Addr} (h : G a = Option.none) : F a = Option.none := by
  cases q : F a with
  | none => rfl
  | some o => rw [s a o q] at h; cases h
theorem Sub.rd {F G : Hp} (s : Sub F G) {a : Addr} {u : HO} (h : Rd F a u) : Rd G a u := by
  rcases h with h | ⟨o, h⟩
  · exact .inl (s _ _ h)
  · exact .inr ⟨o, s _ _ h⟩
theorem Sub.sqT {K : PySem.W.Frag} {F G : Hp} (s : Sub F G) {a : Addr} {xs : List V} (h : SqT K F a xs) : SqT K G a xs := by
  rcases h with h | h
  · exact .inl (s.rd h)
  · exact .inr h
theorem Sub.upd {F : Hp} {a : Addr} {o : HO} (h : F a = Option.none) : Sub F (L2.upd F a o) := fun b u e => by
  rw [upd_ne (ne_of_none e h)]; exact e
theorem Sub.upd2 {F G : Hp} {a : Addr} {o : HO} (s : Sub F G) : Sub (L2.upd F a o) (L2.upd G a o) := fun b u e => by
  by_cases hb : b = a
  · subst hb; rw [upd_same] at e ⊢; exact e
  · rw [upd_ne hb] at e ⊢; exact s _ _ e
theorem Sub.updR {F G : Hp} {a : Addr} {o : HO} (s : Sub F G) (h : F a = Option.none) : Sub F (L2.upd G a o) := fun b u e => by
  rw [upd_ne (ne_of_none e h)]; exact s _ _ e

section
variable {K : PySem.W.Frag} {F G : Hp}
mutual
theorem Rp.mono (s : Sub F G) : ∀ {d : D} {v : V}, Rp K F d v → Rp K G d v
  | .none, _, h => h
  | .bool _, _, h => h
  | .int _, _, h => h
  | .str _, _, h => h
  | .list ds, _, ⟨a, xs, e, h, r⟩ => ⟨a, xs, e, s _ _ h, RpA.mono s r⟩
  | .tuple ds, _, ⟨a, xs, e, h, r⟩ => ⟨a, xs, e, s.sqT h, RpA.mono s r⟩
  | .dict es, _, ⟨a, xs, e, h, r⟩ => ⟨a, xs, e, s.rd h, RpK.mono s r⟩
theorem RpA.mono (s : Sub F G) : ∀ {ds : List D} {xs : List V}, RpA K F ds xs → RpA K G ds xs
  | [], _, h => h
  | _ :: _, _, ⟨x, r, e, h, q⟩ => ⟨x, r, e, Rp.mono s h, RpA.mono s q⟩
theorem RpK.mono (s : Sub F G) : ∀ {ds : List (D × D)} {xs : List (Key × V)}, RpK K F ds xs → RpK K G ds xs
  | [], _, h => h
  | (_, _) :: _, _, ⟨k, x, r, e, hk, h, q⟩ => ⟨k, x, r, e, hk, Rp.mono s h, RpK.mono s q⟩
end
theorem RpA.len : ∀ {ds : List D} {xs : List V}, RpA K F ds xs → xs.length = ds.length
  | [], _, h => by cases h; rfl
  | _ :: _, _, ⟨x, r, e, _, q⟩ => by subst e; simp [RpA.len q]
theorem RpA.get : ∀ {ds : List D} {xs : List V} {i : Nat} {d : D}, RpA K F ds xs → ds[i]? = some d → ∃ x, xs[i]? = some x ∧ Rp K F d x
  | [], _, _, _, _, e => by simp at e
  | _ :: _, _, 0, _, ⟨x, r, e, h, q⟩, e2 => by subst e; simp at e2; subst e2; exact ⟨x, by simp, h⟩
  | _ :: _, _, i + 1, d, ⟨x, r, e, h, q⟩, e2 => by
    subst e
    obtain ⟨y, h1, h2⟩ := RpA.get (i := i) q (by simpa using e2)
    exact ⟨y, by simpa using h1, h2⟩
theorem RpA.append : ∀ {ds es : List D} {xs ys : List V}, RpA K F ds xs → RpA K F es ys → RpA K F (ds ++ es) (xs ++ ys)
  | [], _, _, _, h, q => by cases h; exact q
  | _ :: _, _, _, _, ⟨x, r, e, h, q⟩, h2 => by subst e; exact ⟨x, _, rfl, h, RpA.append q h2⟩
theorem RpA.snoc {ds : List D} {xs : List V} {d : D} {x : V} (h : RpA K F ds xs) (h2 : Rp K F d x) : RpA K F (ds ++ [d]) (xs ++ [x]) := h.append ⟨x, [], rfl, h2, rfl⟩
theorem RpA.set : ∀ {ds : List D} {xs : List V} (i : Nat) {d : D} {x : V}, RpA K F ds xs → Rp K F d x → RpA K F (ds.set i d) (xs.set i x)
  | [], _, _, _, _, h, _ => by cases h; exact rfl
  | _ :: _, _, 0, _, _, ⟨x, r, e, h, q⟩, h2 => by subst e; exact ⟨_, r, rfl, h2, q⟩
  | _ :: _, _, i + 1, _, _, ⟨x, r, e, h, q⟩, h2 => by subst e; exact ⟨x, _, rfl, h, RpA.set i q h2⟩
theorem RpA.drop : ∀ {ds : List D} {xs : List V} (n : Nat), RpA K F ds xs → RpA K F (ds.drop n) (xs.drop n)
  | _, _, 0, h => h
  | [], _, _ + 1, h => by cases h; exact rfl
  | _ :: _, _, n + 1, ⟨x, r, e, h, q⟩ => by subst e; exact RpA.drop n q
theorem RpA.take : ∀ {ds : List D} {xs : List V} (n : Nat), RpA K F ds xs → RpA K F (ds.take n) (xs.take n)
  | _, _, 0, _ => rfl
  | [], _, _ + 1, h => by cases h; exact rfl
  | _ :: _, _, n + 1, ⟨x, r, e, h, q⟩ => by subst e; exact ⟨x, _, rfl, h, RpA.take n q⟩
theorem RpA.erase : ∀ {ds : List D} {xs : List V} (n : Nat), RpA K F ds xs → RpA K F (ds.eraseIdx n) (xs.eraseIdx n)
  | [], _, _, h => by cases h; exact rfl
  | _ :: _, _, 0, ⟨x, r, e, h, q⟩ => by subst e; exact q
  | _ :: _, _, n + 1, ⟨x, r, e, h, q⟩ => by subst e; exact ⟨x, _, rfl, h, RpA.erase n q⟩
theorem RpA.ints : ∀ {ns : List Int} {xs : List V}, RpA K F (ns.map .int) xs → xs = ns.map V.int
  | [], _, h => h
  | n :: ns, _, ⟨x, r, e, h, q⟩ => by subst e; cases h; rw [RpA.ints q]; rfl
theorem RpA.ofInts : ∀ {ns : List Int}, RpA K F (ns.map .int) (ns.map V.int)
  | [] => rfl
  | n :: ns => ⟨_, _, rfl, rfl, RpA.ofInts⟩
theorem RpA.bools : ∀ {ns : List Bool} {xs : List V}, RpA K F (ns.map .bool) xs → xs = ns.map V.bl
  | [], _, h => h
  | n :: ns, _, ⟨x, r, e, h, q⟩ => by subst e; cases h; rw [RpA.bools q]; rfl
theorem RpA.strs : ∀ {ns : List Str} {xs : List V}, RpA K F (ns.map .str) xs → xs = ns.map V.str
  | [], _, h => h
  | n :: ns, _, ⟨x, r, e, h, q⟩ => by subst e; cases h; rw [RpA.strs q]; rfl
theorem RpA.ofStrs : ∀ {ns : List Str}, RpA K F (ns.map .str) (ns.map V.str)
  | [] => rfl
  | n :: ns => ⟨_, _, rfl, rfl, RpA.ofStrs⟩
/-- the same objects, some in another place -/
theorem RpA.mem : ∀ {ds : List D} {xs : List V} {x : V}, RpA K F ds xs → x ∈ xs → ∃ d ∈ ds, Rp K F d x
  | [], _, _, h, m => by cases h; cases m
  | d :: _, _, x, ⟨y, r, e, h, q⟩, m => by
    subst e
    rcases List.mem_cons.mp m with rfl | m
    · exact ⟨d, List.mem_cons_self, h⟩
    · obtain ⟨d', h1, h2⟩ := RpA.mem q m
      exact ⟨d', List.mem_cons_of_mem _ h1, h2⟩

/-! data without dicts, as the layer reads it -/
mutual
theorem Rp.dp {H : Hp} (s : Sub F H) : ∀ {d : D} {v : V}, d.canLay0 = true → Rp K F d v → Dp K H v d
  | .none, _, _, h => by cases h; exact .non
  | .bool _, _, _, h => by cases h; exact .bl _
  | .int _, _, _, h => by cases h; exact .int _
  | .str _, _, _, h => by cases h; exact .str _
  | .list ds, _, c, ⟨a, xs, e, h, r⟩ => by
    subst e
    exact .lst (.inl (.inl (s _ _ h))) (RpA.dp s (by simpa [PyData.canLay0] using c) r)
  | .tuple ds, _, c, ⟨a, xs, e, h, r⟩ => by
    subst e
    exact .tup (s.sqT h) (RpA.dp s (by simpa [PyData.canLay0] using c) r)
  | .dict es, _, c, _ => by simp [PyData.canLay0] at c
theorem RpA.dp {H : Hp} (s : Sub F H) : ∀ {ds : List D} {xs : List V}, PyData.canLayAll0 ds = true → RpA K F ds xs → DpAll K H xs ds
  | [], _, _, h => by cases h; exact .nil
  | d :: ds, _, c, ⟨x, r, e, h, q⟩ => by
    subst e
    have c' : d.canLay0 = true ∧ PyData.canLayAll0 ds = true := by simpa [PyData.canLayAll0] using c
    exact .cons (Rp.dp s c'.1 h) (RpA.dp s c'.2 q)
end
end

/-- the frozen part and the heap grow: what is new in the frozen part is a new object -/
structure Grow (F H F' H' : Hp) : Prop where
  f : Sub F F'
  h : Sub H H'
  n : ∀ a, F' a ≠ none → F a ≠ none ∨ H a = none
theorem Grow.refl (F H : Hp) : Grow F H F H := ⟨Sub.refl _, Sub.refl _, fun _ h => .inl h⟩
theorem Grow.trans {F H F1 H1 F2 H2 : Hp} (a : Grow F H F1 H1) (b : Grow F1 H1 F2 H2) : Grow F H F2 H2 :=
  ⟨a.f.trans b.f, a.h.trans b.h, fun x h => by
    rcases b.n x h with q | q
    · exact a.n x q
    · exact .inr (a.h.none q)⟩
/-- a new object, frozen at once -/
theorem Grow.new {F H : Hp} {p : Addr} {o : HO} (hs : Sub F H) (h : H p = none) : Grow F H (upd F p o) (upd H p o) :=
  ⟨Sub.upd (hs.none h), Sub.upd h, fun a q => by
    by_cases e : a = p
    · subst e; exact .inr h
    · rw [upd_ne e] at q; exact .inl q⟩
/-- a new object, not frozen -/
theorem Grow.newO {F H : Hp} {p : Addr} {o : HO} (h : H p = none) : Grow F H F (upd H p o) := ⟨Sub.refl _, Sub.upd h, fun a q => .inl q⟩

/-- an object of one's own: its items are frozen -/
def OwnAt (K : PySem.W.Frag) (F H : Hp) (a : Addr) : D → Prop
  | .list ds => ∃ xs, H a = some (.lst xs) ∧ RpA K F ds xs
  | .dict es => ∃ kvs, H a = some (.dK kvs) ∧ RpK K F es kvs
  | _ => False
theorem OwnAt.mono {K : PySem.W.Frag} {F H F' H' : Hp} {a : Addr} (s : Sub F F') (e : ∀ o, H a = some o → H' a = some o) : ∀ {d : D}, OwnAt K F H a d → OwnAt K F' H' a d
  | .list _, ⟨xs, h, r⟩ => ⟨xs, e _ h, r.mono s⟩
  | .dict _, ⟨xs, h, r⟩ => ⟨xs, e _ h, r.mono s⟩
  | .none, h => h
  | .bool _, h => h
  | .int _, h => h
  | .str _, h => h
  | .tuple _, h => h
theorem OwnAt.there {K : PySem.W.Frag} {F H : Hp} {a : Addr} : ∀ {d : D}, OwnAt K F H a d → ∃ o, H a = some o
  | .list _, ⟨xs, h, r⟩ => ⟨_, h⟩
  | .dict _, ⟨xs, h, r⟩ => ⟨_, h⟩
/-- frozen from now on -/
theorem OwnAt.frz {K : PySem.W.Frag} {F H F' : Hp} {a : Addr} (s : Sub F F') (e : ∀ o, H a = some o → F' a = some o) : ∀ {d : D}, OwnAt K F H a d → Rp K F' d (.ref a)
  | .list _, ⟨xs, h, r⟩ => ⟨a, xs, rfl, e _ h, r.mono s⟩
  | .dict _, ⟨xs, h, r⟩ => ⟨a, xs, rfl, .inl (e _ h), r.mono s⟩

inductive Sl where
  | no | val (d : D) | old (d : D) | own (d : D) | bor (d : D) | scr (ns : List Int)
abbrev Env := List Sl

def SlotOk (K : PySem.W.Frag) (H0 B F H : Hp) : Sl → Option V → Prop
  | .no, _ => True
  | .val d, x => ∃ v, x = some v ∧ Rp K F d v
  | .old d, x => ∃ v, x = some v ∧ Rp K B d v
  | .own d, x => ∃ a, x = some (.ref a) ∧ F a = none ∧ H0 a = none ∧ OwnAt K F H a d
  | .bor d, x => ∃ a, x = some (.ref a) ∧ B a = none ∧ H0 a = none ∧ F a = H a ∧ OwnAt K B H a d
  | .scr ns, x => ∃ a, x = some (.ref a) ∧ SqL K H0 a (ns.map V.int)

structure SlotsB (K : PySem.W.Frag) (H0 B F H : Hp) (ρ : Env) (σ : St) : Prop where
  h0 : Sub H0 H
  bf : Sub B F
  fh : Sub F H
  len : ρ.length = σ.length
  ok : ∀ (i : Nat) (s : Sl) (x : Option V), ρ[i]? = some s → σ[i]? = some x → SlotOk K H0 B F H s x
  sep : ∀ (i j : Nat) (d e : D) (a : Addr), ρ[i]? = some (.own d) → ρ[j]? = some (.own e) → σ[i]? = some (some (.ref a)) → σ[j]? = some (some (.ref a)) → i = j
def Slots (K : PySem.W.Frag) (H0 F H : Hp) (ρ : Env) (σ : St) : Prop := ∃ B, SlotsB K H0 B F H ρ σ
theorem Slots.fh {K : PySem.W.Frag} {H0 F H : Hp} {ρ : Env} {σ : St} : Slots K H0 F H ρ σ → Sub F H := fun ⟨_, h⟩ => h.fh
theorem Slots.len {K : PySem.W.Frag} {H0 F H : Hp} {ρ : Env} {σ : St} : Slots K H0 F H ρ σ → ρ.length = σ.length := fun ⟨_, h⟩ => h.len

section
variable {K : PySem.W.Frag} {H0 B F H F' H' : Hp} {ρ : Env} {σ : St}
theorem SlotsB.grow (S : SlotsB K H0 B F H ρ σ) (g : Grow F H F' H') (hs : Sub F' H') : SlotsB K H0 B F' H' ρ σ := by
  refine ⟨S.h0.trans g.h, S.bf.trans g.f, hs, S.len, fun i s x h1 h2 => ?_, S.sep⟩
  have q := S.ok i s x h1 h2
  cases s with
  | no => trivial
  | scr ns => exact q
  | val d => obtain ⟨v, e, r⟩ := q; exact ⟨v, e, r.mono g.f⟩
  | old d => exact q
  | own d =>
    obtain ⟨a, e, f, h0, o⟩ := q
    refine ⟨a, e, ?_, h0, o.mono g.f (g.h a)⟩
    cases z : F' a with
    | none => rfl
    | some u =>
      rcases g.n a (by rw [z]; simp) with y | y
      · exact absurd f y
      · obtain ⟨u, hu⟩ := o.there; rw [y] at hu; cases hu
  | bor d =>
    obtain ⟨a, e, f, h0, fe, o⟩ := q
    refine ⟨a, e, f, h0, ?_, o.mono (Sub.refl _) (g.h a)⟩
    obtain ⟨u, hu⟩ := o.there
    rw [g.h a u hu, g.f a u (fe.trans hu)]
theorem nth_set {α : Type} {l : List α} {i j : Nat} {x y : α} (h : (l.set i x)[j]? = some y) : (i = j ∧ y = x ∧ i < l.length) ∨ (i ≠ j ∧ l[j]? = some y) := by
  by_cases e : i = j
  · subst e
    have hl : i < l.length := by
      have := (List.getElem?_eq_some_iff.mp h).1
      simpa using this
    rw [List.getElem?_set_self hl] at h
    exact .inl ⟨rfl, (Option.some.inj h).symm, hl⟩
  · rw [List.getElem?_set_ne e] at h
    exact .inr ⟨e, h⟩
theorem SlotsB.set (S : SlotsB K H0 B F H ρ σ) {i : Nat} {d : D} {v : V} (r : Rp K F d v) : SlotsB K H0 B F H (ρ.set i (.val d)) (σ.set i (some v)) := by
  refine ⟨S.h0, S.bf, S.fh, by simp [S.len], fun j s x h1 h2 => ?_, fun j k d' e' a h1 h2 h3 h4 => ?_⟩
  · rcases nth_set h1 with ⟨rfl, rfl, _⟩ | ⟨n1, h1⟩
    · rcases nth_set h2 with ⟨_, rfl, _⟩ | ⟨n2, h2⟩
      · exact ⟨v, rfl, r⟩
      · exact absurd rfl n2
    · rcases nth_set h2 with ⟨e, _, _⟩ | ⟨n2, h2⟩
      · exact absurd e n1
      · exact S.ok j s x h1 h2
  · rcases nth_set h1 with ⟨_, e, _⟩ | ⟨n1, h1⟩
    · cases e
    · rcases nth_set h2 with ⟨_, e, _⟩ | ⟨n2, h2⟩
      · cases e
      · rcases nth_set h3 with ⟨e, _, _⟩ | ⟨_, h3⟩
        · exact absurd e n1
        · rcases nth_set h4 with ⟨e, _, _⟩ | ⟨_, h4⟩
          · exact absurd e n2
          · exact S.sep j k d' e' a h1 h2 h3 h4
theorem SlotsB.setNo (S : SlotsB K H0 B F H ρ σ) {i : Nat} {x : Option V} : SlotsB K H0 B F H (ρ.set i .no) (σ.set i x) := by
  refine ⟨S.h0, S.bf, S.fh, by simp [S.len], fun j s x h1 h2 => ?_, fun j k d' e' a h1 h2 h3 h4 => ?_⟩
  · rcases nth_set h1 with ⟨rfl, rfl, _⟩ | ⟨n1, h1⟩
    · trivial
    · rcases nth_set h2 with ⟨e, _, _⟩ | ⟨n2, h2⟩
      · exact absurd e n1
      · exact S.ok j s x h1 h2
  · rcases nth_set h1 with ⟨_, e, _⟩ | ⟨n1, h1⟩
    · cases e
    · rcases nth_set h2 with ⟨_, e, _⟩ | ⟨n2, h2⟩
      · cases e
      · rcases nth_set h3 with ⟨e, _, _⟩ | ⟨_, h3⟩
        · exact absurd e n1
        · rcases nth_set h4 with ⟨e, _, _⟩ | ⟨_, h4⟩
          · exact absurd e n2
          · exact S.sep j k d' e' a h1 h2 h3 h4
/-- a name holds a new object -/
theorem SlotsB.setOwn (S : SlotsB K H0 B F H ρ σ) {i : Nat} {d : D} {a : Addr} (f : F a = none) (h0 : H0 a = none) (o : OwnAt K F H a d) (nw : ∀ (j : Nat) (e : D), j ≠ i → ρ[j]? = some (.own e) → σ[j]? ≠ some (some (.ref a))) :
    SlotsB K H0 B F H (ρ.set i (.own d)) (σ.set i (some (.ref a))) := by
  refine ⟨S.h0, S.bf, S.fh, by simp [S.len], fun j s x h1 h2 => ?_, fun j k d' e' a' h1 h2 h3 h4 => ?_⟩
  · rcases nth_set h1 with ⟨rfl, rfl, _⟩ | ⟨n1, h1⟩
    · rcases nth_set h2 with ⟨_, rfl, _⟩ | ⟨n2, h2⟩
      · exact ⟨a, rfl, f, h0, o⟩
      · exact absurd rfl n2
    · rcases nth_set h2 with ⟨e, _, _⟩ | ⟨n2, h2⟩
      · exact absurd e n1
      · exact S.ok j s x h1 h2
  · rcases nth_set h1 with ⟨e1, _, _⟩ | ⟨n1, h1⟩
    · subst e1
      rcases nth_set h2 with ⟨e2, _, _⟩ | ⟨n2, h2⟩
      · exact e2
      · rcases nth_set h3 with ⟨_, e3, _⟩ | ⟨n3, _⟩
        · rcases nth_set h4 with ⟨e4, _, _⟩ | ⟨_, h4⟩
          · exact absurd e4 n2
          · cases e3; exact absurd h4 (nw k e' (Ne.symm n2) h2)
        · exact absurd rfl n3
    · rcases nth_set h3 with ⟨e, _, _⟩ | ⟨_, h3⟩
      · exact absurd e n1
      · rcases nth_set h2 with ⟨e2, _, _⟩ | ⟨n2, h2⟩
        · subst e2
          rcases nth_set h4 with ⟨_, e4, _⟩ | ⟨n4, _⟩
          · cases e4; exact absurd h3 (nw j d' (Ne.symm n1) h1)
          · exact absurd rfl n4
        · rcases nth_set h4 with ⟨e, _, _⟩ | ⟨_, h4⟩
          · exact absurd e n2
          · exact S.sep j k d' e' a' h1 h2 h3 h4
theorem Slots.grow (S : Slots K H0 F H ρ σ) (g : Grow F H F' H') (hs : Sub F' H') : Slots K H0 F' H' ρ σ := let ⟨B, S⟩ := S; ⟨B, S.grow g hs⟩
theorem SlotsB.ex (S : SlotsB K H0 B F H ρ σ) : Slots K H0 F H ρ σ := ⟨B, S⟩
/-- what one's own holds is changed -/
theorem SlotsB.mut (S : SlotsB K H0 B F H ρ σ) {i : Nat} {d d' : D} {a : Addr} {o : HO} (h1 : ρ[i]? = some (.own d)) (h2 : σ[i]? = some (some (.ref a))) (n : OwnAt K F (upd H a o) a d') : SlotsB K H0 B F (upd H a o) (ρ.set i (.own d')) σ := by
  obtain ⟨a', e', fa, h0a, oa⟩ := S.ok i _ _ h1 h2
  cases e'
  have hi : i < ρ.length := (List.getElem?_eq_some_iff.mp h1).1
  refine ⟨S.h0.updR h0a, S.bf, S.fh.updR fa, by simp [S.len], fun j s x q1 q2 => ?_, fun j k d1 e1 a1 q1 q2 q3 q4 => ?_⟩
  · rcases nth_set q1 with ⟨rfl, rfl, _⟩ | ⟨n1, q1⟩
    · rw [h2] at q2; cases q2
      exact ⟨a, rfl, fa, h0a, n⟩
    · have q := S.ok j s x q1 q2
      cases s with
      | no => trivial
      | scr ns => exact q
      | val d => exact q
      | old d => exact q
      | own d1 =>
        obtain ⟨b, e, f, h0, o1⟩ := q
        subst e
        have ne : b ≠ a := fun z => by
          subst z
          exact n1 (S.sep i j d d1 b h1 q1 h2 q2)
        exact ⟨b, rfl, f, h0, o1.mono (Sub.refl _) fun u hu => by rw [upd_ne ne]; exact hu⟩
      | bor d1 =>
        obtain ⟨b, e, f, h0, fe, o1⟩ := q
        have ne : b ≠ a := fun z => by
          subst z
          obtain ⟨u, hu⟩ := o1.there
          rw [fa, hu] at fe
          cases fe
        exact ⟨b, e, f, h0, by rw [upd_ne ne]; exact fe, o1.mono (Sub.refl _) fun u hu => by rw [upd_ne ne]; exact hu⟩
  · rcases nth_set q1 with ⟨z1, e2, _⟩ | ⟨n1, q1⟩
    · rcases nth_set q2 with ⟨z2, e3, _⟩ | ⟨n2, q2⟩
      · rw [← z1, ← z2]
      · subst z1
        exact S.sep i k d e1 a1 h1 q2 q3 q4
    · rcases nth_set q2 with ⟨z2, e3, _⟩ | ⟨n2, q2⟩
      · subst z2
        exact S.sep j i d1 d a1 q1 h1 q3 q4
      · exact S.sep j k d1 e1 a1 q1 q2 q3 q4
end
end VL
namespace VL
open PySem PySem.Spec PyProof.Rows L2

inductive Md where
  | val | look | own
def isSc : D → Bool
  | .none => true
  | .bool _ => true
  | .int _ => true
  | .str _ => true
  | _ => false
/-- what is come by: a frozen thing; a thing to be looked at; a new one of one's own -/
def Res (K : PySem.W.Frag) (H0 F H : Hp) (d : D) (v : V) : Md → Prop
  | .val => Rp K F d v
  | .look => Rp K F d v ∨ ∃ a, v = .ref a ∧ OwnAt K F H a d
  | .own => (isSc d = true ∧ Rp K F d v) ∨ ∃ a, v = .ref a ∧ H0 a = none ∧ F a = none ∧ OwnAt K F H a d
abbrev Lk (K : PySem.W.Frag) (F H : Hp) (d : D) (v : V) : Prop := Rp K F d v ∨ ∃ a, v = .ref a ∧ OwnAt K F H a d

abbrev QE := Env → (D → Prop) → Prop
abbrev QT := Env → (Bool → Prop) → Prop
abbrev QA := Env → (List D → Prop) → Prop

section
variable {K : PySem.W.Frag} {F H F' H' H0 : Hp} {d : D} {v : V} {x : V}
theorem isSc.any {G : Hp} : ∀ {d : D}, isSc d = true → Rp K F d v → Rp K G d v
  | .none, _, h => h
  | .bool _, _, h => h
  | .int _, _, h => h
  | .str _, _, h => h
theorem Lk.grow (h : Lk K F H d v) (g : Grow F H F' H') : Lk K F' H' d v := by
  rcases h with h | ⟨a, e, o⟩
  · exact .inl (h.mono g.f)
  · exact .inr ⟨a, e, o.mono g.f (g.h a)⟩
/-- an own thing is frozen -/
theorem Res.frz (h : Res K H0 F H d v .own) (g : Grow F0 H0 F H) (hs : Sub F H) : ∃ F', Grow F0 H0 F' H ∧ Sub F' H ∧ Sub F F' ∧ Rp K F' d v := by
  rcases h with ⟨_, r⟩ | ⟨a, e, h0, f, o⟩
  · exact ⟨F, g, hs, Sub.refl _, r⟩
  · obtain ⟨u, hu⟩ := o.there
    refine ⟨upd F a u, ⟨g.f.trans (Sub.upd f), g.h, fun b q => ?_⟩, fun b w q => ?_, Sub.upd f, ?_⟩
    · by_cases hb : b = a
      · subst hb; exact .inr h0
      · rw [upd_ne hb] at q; exact g.n b q
    · by_cases hb : b = a
      · subst hb; rw [upd_same] at q; cases q; exact hu
      · rw [upd_ne hb] at q; exact hs _ _ q
    · subst e
      refine o.frz (Sub.upd f) fun w q => ?_
      rw [hu] at q; cases q; exact upd_same
end

def Snd (K : PySem.W.Frag) (md : Md) (t : TE) (q : QE) : Prop :=
  ∀ (H0 F H : Hp) (ρ : Env) (σ : St) (P : D → Prop) (Q : VK), Slots K H0 F H ρ σ → q ρ P →
    (∀ v d F' H', Grow F H F' H' → Sub F' H' → Res K H F' H' d v md → P d → Q v H') → t σ H Q
structure VE (md : Md) (X : Cx) (e : Expr) (t : TE) (q : QE) : Prop where
  pe : PE X e t
  sd : Snd X.K md t q
def SndT (K : PySem.W.Frag) (t : TT) (q : QT) : Prop :=
  ∀ (H0 F H : Hp) (ρ : Env) (σ : St) (P : Bool → Prop) (Q : Bool → Hp → Prop), Slots K H0 F H ρ σ → q ρ P →
    (∀ b F' H', Grow F H F' H' → Sub F' H' → P b → Q b H') → t σ H Q
structure VT (X : Cx) (e : Expr) (t : TT) (q : QT) : Prop where
  pt : PT X e t
  sd : SndT X.K t q
structure VW (X : Cx) (e : Expr) (t : TT) (q : QT) : Prop where
  pw : PW X e t
  sd : SndT X.K t q
def ResA (K : PySem.W.Frag) (F H : Hp) : List D → List V → Md → Prop
  | [], vs, _ => vs = []
  | d :: ds, vs, md => ∃ x r, vs = x :: r ∧ Res K H F H d x md ∧ ResA K F H ds r md
def SndA (K : PySem.W.Frag) (md : Md) (n : Nat) (t : TA) (q : QA) : Prop :=
  ∀ (H0 F H : Hp) (ρ : Env) (σ : St) (P : List D → Prop) (Q : List V → Hp → Prop), Slots K H0 F H ρ σ → q ρ P →
    (∀ vs ds F' H', Grow F H F' H' → Sub F' H' → ds.length = n → ResA K F' H' ds vs md → P ds → Q vs H') → t σ H Q
structure VA (md : Md) (X : Cx) (es : List Expr) (t : TA) (q : QA) : Prop where
  pa : PA X es t
  sd : SndA X.K md es.length t q

section
variable {X : Cx} {md : Md} {e a b : Expr} {es : List Expr} {t ta tb : TE} {tA : TA} {q qa qb : QE} {qA : QA} {pos : Pos}

theorem VE.look (h : VE .val X e t q) : VE .look X e t q := ⟨h.pe, fun H0 F H ρ σ P Q S hq k => h.sd H0 F H ρ σ P Q S hq fun v d F' H' g s r p => k v d F' H' g s (.inl r) p⟩
theorem VE.frz (h : VE .own X e t q) : VE .val X e t q := ⟨h.pe, fun H0 F H ρ σ P Q S hq k => h.sd H0 F H ρ σ P Q S hq fun v d F' H' g s r p => by
  obtain ⟨F2, g2, s2, _, r2⟩ := r.frz g s
  exact k v d F2 H' g2 s2 r2 p⟩

/-! names, constants -/
def getV : Sl → Option D
  | .val d => some d
  | .old d => some d
  | .bor d => some d
  | _ => none
def getL : Sl → Option D
  | .val d => some d
  | .old d => some d
  | .bor d => some d
  | .own d => some d
  | _ => none
def qVar (i : Nat) : QE := fun ρ P => ∃ d, (ρ[i]?).bind getV = some d ∧ P d
def qVarL (i : Nat) : QE := fun ρ P => ∃ d, (ρ[i]?).bind getL = some d ∧ P d
def qC (d : D) : QE := fun _ P => P d
theorem slot_at {ρ : Env} {σ : St} (hl : ρ.length = σ.length) {i : Nat} {s : Sl} (h : ρ[i]? = some s) : ∃ x, σ[i]? = some x := by
  have := (List.getElem?_eq_some_iff.mp h).1
  exact ⟨σ[i]'(by omega), List.getElem?_eq_getElem _⟩
theorem slot_val {K : PySem.W.Frag} {H0 F H : Hp} {ρ : Env} {σ : St} {i : Nat} {d : D} (S : Slots K H0 F H ρ σ) (h : (ρ[i]?).bind getV = some d) : ∃ v, σ[i]? = some (some v) ∧ Rp K F d v := by
  obtain ⟨B, S⟩ := S
  cases hs : ρ[i]? with
  | none => rw [hs] at h; simp at h
  | some s =>
    rw [hs] at h
    obtain ⟨x, hx⟩ := slot_at S.len hs
    have ok := S.ok i s x hs hx
    cases s with
    | no => simp [getV] at h
    | scr ns => simp [getV] at h
    | own e => simp [getV] at h
    | val e => simp [getV] at h; subst h; obtain ⟨v, e1, r⟩ := ok; subst e1; exact ⟨v, hx, r⟩
    | old e => simp [getV] at h; subst h; obtain ⟨v, e1, r⟩ := ok; subst e1; exact ⟨v, hx, r.mono S.bf⟩
    | bor e =>
      simp [getV] at h; subst h
      obtain ⟨a, e1, ba, h0, fe, o⟩ := ok
      subst e1
      exact ⟨_, hx, o.frz S.bf fun u hu => fe.trans hu⟩
theorem slot_look {K : PySem.W.Frag} {H0 F H : Hp} {ρ : Env} {σ : St} {i : Nat} {d : D} (S : Slots K H0 F H ρ σ) (h : (ρ[i]?).bind getL = some d) : ∃ v, σ[i]? = some (some v) ∧ Lk K F H d v := by
  cases hs : ρ[i]? with
  | none => rw [hs] at h; simp at h
  | some s =>
    cases s with
    | own e =>
      rw [hs] at h
      simp [getL] at h; subst h
      obtain ⟨B, S⟩ := S
      obtain ⟨x, hx⟩ := slot_at S.len hs
      obtain ⟨a, e1, f, h0, o⟩ := S.ok i _ x hs hx
      subst e1
      exact ⟨_, hx, .inr ⟨a, rfl, o⟩⟩
    | no => rw [hs] at h; simp [getL] at h
    | scr ns => rw [hs] at h; simp [getL] at h
    | val e => obtain ⟨v, h1, h2⟩ := slot_val (i := i) (d := d) S (by rw [hs] at h ⊢; exact h); exact ⟨v, h1, .inl h2⟩
    | old e => obtain ⟨v, h1, h2⟩ := slot_val (i := i) (d := d) S (by rw [hs] at h ⊢; exact h); exact ⟨v, h1, .inl h2⟩
    | bor e => obtain ⟨v, h1, h2⟩ := slot_val (i := i) (d := d) S (by rw [hs] at h ⊢; exact h); exact ⟨v, h1, .inl h2⟩
theorem ve_var (i : Nat) {x : Str} (hN : X.N[i]? = some x := by rfl) (hv : Vis X.env.scope x := by first | exact Or.inl rfl | exact Or.inr (Or.inl rfl) | exact Or.inr (Or.inr rfl)) (hd : (x == ("__debug__" : Str)) = false := by decide)
    (hcd : (x == ("__classdict__" : Str)) = false := by decide) : VE .val X (.Name x pos) (tVar i) (qVar i) :=
  ⟨pe_var hN hv hd hcd, fun H0 F H ρ σ P Q S ⟨d, h, p⟩ k => by
    obtain ⟨v, h1, h2⟩ := slot_val S h
    exact ⟨v, h1, k v d F H (Grow.refl _ _) S.fh h2 p⟩⟩
theorem ve_varL (i : Nat) {x : Str} (hN : X.N[i]? = some x := by rfl) (hv : Vis X.env.scope x := by first | exact Or.inl rfl | exact Or.inr (Or.inl rfl) | exact Or.inr (Or.inr rfl)) (hd : (x == ("__debug__" : Str)) = false := by decide)
    (hcd : (x == ("__classdict__" : Str)) = false := by decide) : VE .look X (.Name x pos) (tVar i) (qVarL i) :=
  ⟨pe_var hN hv hd hcd, fun H0 F H ρ σ P Q S ⟨d, h, p⟩ k => by
    obtain ⟨v, h1, h2⟩ := slot_look S h
    exact ⟨v, h1, k v d F H (Grow.refl _ _) S.fh h2 p⟩⟩
theorem sndC {K : PySem.W.Frag} {d : D} {v : V} (h : ∀ F : Hp, Rp K F d v) : Snd K .val (tC v) (qC d) := fun H0 F H ρ σ P Q S p k => k v d F H (Grow.refl _ _) S.fh (h F) p
theorem ve_int {i j} : VE .val X (.Constant (.int i) j pos) (tC (.int i)) (qC (.int i)) := ⟨pe_int, sndC fun _ => rfl⟩
theorem ve_bl {i j} : VE .val X (.Constant (.bool i) j pos) (tC (.bl i)) (qC (.bool i)) := ⟨pe_bl, sndC fun _ => rfl⟩
theorem ve_non {j} : VE .val X (.Constant .none j pos) (tC .non) (qC .none) := ⟨pe_non, sndC fun _ => rfl⟩
theorem ve_str {i j} : VE .val X (.Constant (.str i) j pos) (tC (.str i)) (qC (.str i)) := ⟨pe_str, sndC fun _ => rfl⟩
theorem ve_globI {x : Str} {i : Int} {u : Tok} (hg : Gl X x) (hm : X.mg x = some (.int i u)) (hd : (x == ("__debug__" : Str)) = false := by decide) : VE .val X (.Name x pos) (tC (.int i)) (qC (.int i)) := ⟨pe_glob hg hm ⟨_, rfl⟩ hd, sndC fun _ => rfl⟩
theorem ve_globS {x : Str} {i : Str} {u : Tok} (hg : Gl X x) (hm : X.mg x = some (.str i u)) (hd : (x == ("__debug__" : Str)) = false := by decide) : VE .val X (.Name x pos) (tC (.str i)) (qC (.str i)) := ⟨pe_glob hg hm ⟨_, rfl⟩ hd, sndC fun _ => rfl⟩

/-! operators -/
def Op2 (K : PySem.W.Frag) (md : Md) (f : D → D → Option D) (r : R2) : Prop :=
  ∀ (F H : Hp) (dx dy z : D) (x y : V) (Q : VK), Sub F H → Lk K F H dx x → Lk K F H dy y → f dx dy = some z →
    (∀ v F' H', Grow F H F' H' → Sub F' H' → Res K H F' H' z v md → Q v H') → r x y H Q
def q2 (f : D → D → Option D) (qa qb : QE) : QE := fun ρ P => qa ρ fun x => qb ρ fun y => ∃ z, f x y = some z ∧ P z
theorem snd2 {K : PySem.W.Frag} {f : D → D → Option D} {r : R2} (ho : Op2 K md f r) (ha : Snd K .look ta qa) (hb : Snd K .look tb qb) : Snd K md (tOp r ta tb) (q2 f qa qb) := by
  intro H0 F H ρ σ P Q S hq k
  refine ha H0 F H ρ σ _ _ S hq fun x dx F1 H1 g1 s1 r1 h1 => ?_
  refine hb H0 F1 H1 ρ σ _ _ (S.grow g1 s1) h1 fun y dy F2 H2 g2 s2 r2 ⟨z, e, p⟩ => ?_
  refine ho F2 H2 dx dy z x y _ s2 (Lk.grow r1 g2) r2 e fun v F3 H3 g3 s3 r3 => ?_
  refine k v z F3 H3 ((g1.trans g2).trans g3) s3 ?_ p
  cases md with
  | val => exact r3
  | look => exact r3
  | own =>
    rcases r3 with r3 | ⟨a, e1, h0, f0, o⟩
    · exact .inl r3
    · exact .inr ⟨a, e1, g1.h.none (g2.h.none h0), f0, o⟩
theorem ve_op2 {op : Operator} {f : D → D → Option D} {r : R2} (hr : OpR X (binaryOp op) r) (ho : Op2 X.K md f r) (ha : VE .look X a ta qa) (hb : VE .look X b tb qb) : VE md X (.BinOp a op b pos) (tOp r ta tb) (q2 f qa qb) :=
  ⟨pe_op hr ha.pe hb.pe, snd2 ho ha.sd hb.sd⟩
theorem ve_cmp {op : CmpOp} {f : D → D → Option D} {r : R2} (hr : OpR X (compareOp op) r) (ho : Op2 X.K .val f r) (hm : behindInMarks op b = false) (ha : VE .look X a ta qa) (hb : VE .look X b tb qb) : VE .val X (.Compare a [op] [b] pos) (tOp r ta tb) (q2 f qa qb) :=
  ⟨pe_cmpR hr ha.pe hb.pe hm, snd2 ho ha.sd hb.sd⟩
def qTst (q : QE) : QT := fun ρ P => q ρ fun d => ∃ b, d = .bool b ∧ P b
theorem sndTst {K : PySem.W.Frag} (h : Snd K .val t q) : SndT K (tTest t) (qTst q) := by
  intro H0 F H ρ σ P Q S hq k
  refine h H0 F H ρ σ _ _ S hq fun v d F1 H1 g1 s1 r1 ⟨b, e, p⟩ => ?_
  subst e
  exact ⟨b, r1, k b F1 H1 g1 s1 p⟩
theorem vt_cmp {op : CmpOp} {f : D → D → Option D} {r : R2} (hr : OpR X (compareOp op) r) (ho : Op2 X.K .val f r) (hm : behindInMarks op b = false) (ha : VE .look X a ta qa) (hb : VE .look X b tb qb) : VT X (.Compare a [op] [b] pos) (tTest (tOp r ta tb)) (qTst (q2 f qa qb)) :=
  ⟨pt_cmpR hr ha.pe hb.pe hm, sndTst (snd2 ho ha.sd hb.sd)⟩
theorem vt_val (h : VE .val X e t q) (he : ∀ whole, isTrue e X.env whole = (do let v ← whole; standAt e.pos; holding [v] (truthy v)) := by intro _; rfl) : VT X e (tB t) (qTst q) :=
  ⟨pt_val h.pe he, sndTst h.sd⟩
/-- a < b < c -/
def qChain (f g : D → D → Option D) (qa qb qc : QE) : QE := fun ρ P => qa ρ fun x => qb ρ fun y => ∃ k, f x y = some (.bool k) ∧ (if k = true then qc ρ fun z => ∃ w, g y z = some w ∧ P w else P (.bool false))
variable {c : Expr} {tc : TE} {qc : QE}
theorem sndChain {K : PySem.W.Frag} {f g : D → D → Option D} {r r' : R2} (ho : Op2 K .val f r) (ho' : Op2 K .val g r') (ha : Snd K .look ta qa) (hb : Snd K .look tb qb) (hc : Snd K .look tc qc) : Snd K .val (tChain r r' ta tb tc) (qChain f g qa qb qc) := by
  intro H0 F H ρ σ P Q S hq k
  refine ha H0 F H ρ σ _ _ S hq fun x dx F1 H1 g1 s1 r1 h1 => ?_
  refine hb H0 F1 H1 ρ σ _ _ (S.grow g1 s1) h1 fun y dy F2 H2 g2 s2 r2 ⟨b, e, p⟩ => ?_
  refine ho F2 H2 dx dy _ x y _ s2 (Lk.grow r1 g2) r2 e fun v F3 H3 g3 s3 r3 => ?_
  refine ⟨b, r3, ?_⟩
  cases b with
  | false => exact k _ (.bool false) F3 H3 ((g1.trans g2).trans g3) s3 rfl p
  | true =>
    have S3 := ((S.grow g1 s1).grow g2 s2).grow g3 s3
    refine hc H0 F3 H3 ρ σ _ _ S3 p fun z dz F4 H4 g4 s4 r4 ⟨w, e', p'⟩ => ?_
    refine ho' F4 H4 dy dz w y z _ s4 (Lk.grow (Lk.grow r2 g3) g4) r4 e' fun v' F5 H5 g5 s5 r5 => ?_
    exact k _ _ F5 H5 ((((g1.trans g2).trans g3).trans g4).trans g5) s5 r5 p'
theorem ve_chain {op op' : CmpOp} {f g : D → D → Option D} {r r' : R2} (hr : OpR X (compareOp op) r) (hr' : OpR X (compareOp op') r') (ho : Op2 X.K .val f r) (ho' : Op2 X.K .val g r') (ha : VE .look X a ta qa) (hb : VE .look X b tb qb) (hc : VE .look X c tc qc) (hm : lastMarks [op, op'] [b, c] = false := by with_unfolding_all rfl) :
    VE .val X (.Compare a [op, op'] [b, c] pos) (tChain r r' ta tb tc) (qChain f g qa qb qc) := ⟨pe_chain hr hr' ha.pe hb.pe hc.pe hm, sndChain ho ho' ha.sd hb.sd hc.sd⟩
theorem vt_chain {op op' : CmpOp} {f g : D → D → Option D} {r r' : R2} (hr : OpR X (compareOp op) r) (hr' : OpR X (compareOp op') r') (ho : Op2 X.K .val f r) (ho' : Op2 X.K .val g r') (ha : VE .look X a ta qa) (hb : VE .look X b tb qb) (hc : VE .look X c tc qc) (hm : lastMarks [op, op'] [b, c] = false := by with_unfolding_all rfl) :
    VT X (.Compare a [op, op'] [b, c] pos) (tTest (tChain r r' ta tb tc)) (qTst (qChain f g qa qb qc)) := ⟨pt_chain hr hr' ha.pe hb.pe hc.pe hm, sndTst (sndChain ho ho' ha.sd hb.sd hc.sd)⟩
/-! unary -/
def Op1 (K : PySem.W.Frag) (f : D → Option D) (r : V → Hp → VK → Prop) : Prop :=
  ∀ (F H : Hp) (dx z : D) (x : V) (Q : VK), Sub F H → Lk K F H dx x → f dx = some z → (∀ v F' H', Grow F H F' H' → Sub F' H' → Rp K F' z v → Q v H') → r x H Q
def q1 (f : D → Option D) (qa : QE) : QE := fun ρ P => qa ρ fun x => ∃ z, f x = some z ∧ P z
theorem ve_un {op : UnaryOp} {f : D → Option D} {r : V → Hp → VK → Prop} (hr : UnR X (unaryOp op) r) (ho : Op1 X.K f r) (ha : VE .look X a ta qa) : VE .val X (.UnaryOp op a pos) (tUn r ta) (q1 f qa) := by
  refine ⟨pe_un hr ha.pe, fun H0 F H ρ σ P Q S hq k => ?_⟩
  refine ha.sd H0 F H ρ σ _ _ S hq fun x dx F1 H1 g1 s1 r1 ⟨z, e, p⟩ => ?_
  exact ho F1 H1 dx z x _ s1 r1 e fun v F2 H2 g2 s2 r2 => k v z F2 H2 (g1.trans g2) s2 r2 p
/-! and, or, not -/
variable {tA' tB' : TT} {qA' qB' : QT} {rest : List Expr}
def qAnd (qa qb : QT) : QT := fun ρ P => qa ρ fun b => if b = true then qb ρ P else P false
def qOr (qa qb : QT) : QT := fun ρ P => qa ρ fun b => if b = true then P true else qb ρ P
def qNot (qa : QT) : QT := fun ρ P => qa ρ fun b => P (!b)
theorem vw_and1 (h : VT X a tA' qA') : VW X (.BoolOp .And [a] pos) tA' qA' := ⟨pw_and1 h.pt, h.sd⟩
theorem vw_or1 (h : VT X a tA' qA') : VW X (.BoolOp .Or [a] pos) tA' qA' := ⟨pw_or1 h.pt, h.sd⟩
theorem vw_and (ha : VT X a tA' qA') (hb : VW X (.BoolOp .And (b :: rest) pos) tB' qB') : VW X (.BoolOp .And (a :: b :: rest) pos) (tAnd tA' tB') (qAnd qA' qB') := by
  refine ⟨pw_and ha.pt hb.pw, fun H0 F H ρ σ P Q S hq k => ?_⟩
  refine ha.sd H0 F H ρ σ _ _ S hq fun x F1 H1 g1 s1 p => ?_
  cases x with
  | true => exact hb.sd H0 F1 H1 ρ σ _ _ (S.grow g1 s1) p fun y F2 H2 g2 s2 p2 => k y F2 H2 (g1.trans g2) s2 p2
  | false => exact k false F1 H1 g1 s1 p
theorem vw_or (ha : VT X a tA' qA') (hb : VW X (.BoolOp .Or (b :: rest) pos) tB' qB') : VW X (.BoolOp .Or (a :: b :: rest) pos) (tOr tA' tB') (qOr qA' qB') := by
  refine ⟨pw_or ha.pt hb.pw, fun H0 F H ρ σ P Q S hq k => ?_⟩
  refine ha.sd H0 F H ρ σ _ _ S hq fun x F1 H1 g1 s1 p => ?_
  cases x with
  | false => exact hb.sd H0 F1 H1 ρ σ _ _ (S.grow g1 s1) p fun y F2 H2 g2 s2 p2 => k y F2 H2 (g1.trans g2) s2 p2
  | true => exact k true F1 H1 g1 s1 p
theorem VW.vt (h : VW X e tA' qA') : VT X e tA' qA' := ⟨h.pw.pt, h.sd⟩
theorem vt_not (ha : VT X a tA' qA') : VT X (.UnaryOp .Not a pos) (tNot tA') (qNot qA') :=
  ⟨pt_not ha.pt, fun H0 F H ρ σ P Q S hq k => ha.sd H0 F H ρ σ _ _ S hq fun x F1 H1 g1 s1 p => k (!x) F1 H1 g1 s1 p⟩
/-- .. as values -/
def qAndV (qa qb : QE) : QE := fun ρ P => qa ρ fun d => ∃ b, d = .bool b ∧ if b = true then qb ρ P else P (.bool false)
def qOrV (qa qb : QE) : QE := fun ρ P => qa ρ fun d => ∃ b, d = .bool b ∧ if b = true then P (.bool true) else qb ρ P
def qNotV (qa : QE) : QE := fun ρ P => qa ρ fun d => ∃ b, d = .bool b ∧ P (.bool !b)
theorem ve_one {op} (h : VE .val X a t q) : VE .val X (.BoolOp op [a] pos) t q := ⟨pe_one h.pe, h.sd⟩
theorem ve_and (ha : VE .val X a ta qa) (hb : VE .val X (.BoolOp .And (b :: rest) pos) tb qb) : VE .val X (.BoolOp .And (a :: b :: rest) pos) (tAndV ta tb) (qAndV qa qb) := by
  refine ⟨pe_and ha.pe hb.pe, fun H0 F H ρ σ P Q S hq k => ?_⟩
  refine ha.sd H0 F H ρ σ _ _ S hq fun x dx F1 H1 g1 s1 r1 ⟨b, e, p⟩ => ?_
  subst e
  refine ⟨b, r1, ?_⟩
  cases b with
  | true => exact hb.sd H0 F1 H1 ρ σ _ _ (S.grow g1 s1) p fun y dy F2 H2 g2 s2 r2 p2 => k y dy F2 H2 (g1.trans g2) s2 r2 p2
  | false => exact k _ (.bool false) F1 H1 g1 s1 rfl p
theorem ve_or (ha : VE .val X a ta qa) (hb : VE .val X (.BoolOp .Or (b :: rest) pos) tb qb) : VE .val X (.BoolOp .Or (a :: b :: rest) pos) (tOrV ta tb) (qOrV qa qb) := by
  refine ⟨pe_or ha.pe hb.pe, fun H0 F H ρ σ P Q S hq k => ?_⟩
  refine ha.sd H0 F H ρ σ _ _ S hq fun x dx F1 H1 g1 s1 r1 ⟨b, e, p⟩ => ?_
  subst e
  refine ⟨b, r1, ?_⟩
  cases b with
  | false => exact hb.sd H0 F1 H1 ρ σ _ _ (S.grow g1 s1) p fun y dy F2 H2 g2 s2 r2 p2 => k y dy F2 H2 (g1.trans g2) s2 r2 p2
  | true => exact k _ (.bool true) F1 H1 g1 s1 rfl p
theorem ve_not (ha : VE .val X a ta qa) : VE .val X (.UnaryOp .Not a pos) (tNotV ta) (qNotV qa) :=
  ⟨pe_not ha.pe, fun H0 F H ρ σ P Q S hq k => ha.sd H0 F H ρ σ _ _ S hq fun x dx F1 H1 g1 s1 r1 ⟨b, e, p⟩ => by
    subst e
    exact ⟨b, r1, k _ (.bool !b) F1 H1 g1 s1 rfl p⟩⟩
def qIf (qt : QT) (qa qb : QE) : QE := fun ρ P => qt ρ fun b => if b = true then qa ρ P else qb ρ P
theorem ve_if (hc : VT X c tA' qA') (ha : VE md X a ta qa) (hb : VE md X b tb qb) : VE md X (.IfExp c a b pos) (tIf tA' ta tb) (qIf qA' qa qb) := by
  refine ⟨pe_ifExp hc.pt ha.pe hb.pe, fun H0 F H ρ σ P Q S hq k => ?_⟩
  refine hc.sd H0 F H ρ σ _ _ S hq fun x F1 H1 g1 s1 p => ?_
  have fix : ∀ v d F' H', Res X.K H1 F' H' d v md → Res X.K H F' H' d v md := fun v d F' H' r => by
    cases md with
    | val => exact r
    | look => exact r
    | own =>
      rcases r with r | ⟨a, e1, h0, f0, o⟩
      · exact .inl r
      · exact .inr ⟨a, e1, g1.h.none h0, f0, o⟩
  cases x with
  | true => exact ha.sd H0 F1 H1 ρ σ _ _ (S.grow g1 s1) p fun y dy F2 H2 g2 s2 r2 p2 => k y dy F2 H2 (g1.trans g2) s2 (fix _ _ _ _ r2) p2
  | false => exact hb.sd H0 F1 H1 ρ σ _ _ (S.grow g1 s1) p fun y dy F2 H2 g2 s2 r2 p2 => k y dy F2 H2 (g1.trans g2) s2 (fix _ _ _ _ r2) p2

/-! arguments -/
def qNil : QA := fun _ P => P []
def qCons (qa : QE) (qr : QA) : QA := fun ρ P => qa ρ fun x => qr ρ fun xs => P (x :: xs)
theorem va_nil : VA md X [] tNil qNil := ⟨pa_nil, fun H0 F H ρ σ P Q S p k => k [] [] F H (Grow.refl _ _) S.fh rfl rfl p⟩
def MdA : Md → Prop
  | .own => False
  | _ => True
theorem va_cons (ha : VE md X e ta qa) (hr : VA md X es tA qA) (hs : starEach (e :: es) X.env = (false, eval e X.env) :: starEach es X.env := by rfl) (hm : MdA md := by exact True.intro) : VA md X (e :: es) (tCons ta tA) (qCons qa qA) := by
  refine ⟨pa_cons ha.pe hr.pa hs, fun H0 F H ρ σ P Q S hq k => ?_⟩
  refine ha.sd H0 F H ρ σ _ _ S hq fun x dx F1 H1 g1 s1 r1 h1 => ?_
  refine hr.sd H0 F1 H1 ρ σ _ _ (S.grow g1 s1) h1 fun vs ds F2 H2 g2 s2 ln r2 p => ?_
  refine k (x :: vs) (dx :: ds) F2 H2 (g1.trans g2) s2 (by simp [ln]) ⟨x, vs, rfl, ?_, r2⟩ p
  cases md with
  | own => exact hm.elim
  | val => exact r1.mono g2.f
  | look => exact Lk.grow r1 g2
theorem ResA.vals {K : PySem.W.Frag} {F H : Hp} : ∀ {ds : List D} {vs : List V}, ResA K F H ds vs .val → RpA K F ds vs
  | [], _, h => h
  | _ :: _, _, ⟨x, r, e, h, q⟩ => ⟨x, r, e, h, ResA.vals q⟩
/-! displays -/
def qLst (qA : QA) : QE := fun ρ P => qA ρ fun ds => P (.list ds)
def qTup (qA : QA) : QE := fun ρ P => qA ρ fun ds => P (.tuple ds)
theorem ve_lst (h : VA .val X es tA qA) (hl : es.length ≤ sizeLine := by decide) : VE .own X (.List es pos) (tLst tA) (qLst qA) := by
  refine ⟨pe_lst h.pa, fun H0 F H ρ σ P Q S hq k => ?_⟩
  refine h.sd H0 F H ρ σ _ _ S hq fun vs ds F1 H1 g1 s1 ln r1 p => ?_
  have r := r1.vals
  refine ⟨by rw [r.len, ln]; exact hl, fun p' hp => ?_⟩
  refine k _ _ F1 _ (g1.trans (Grow.newO hp)) (s1.trans (Sub.upd hp)) (.inr ⟨p', rfl, g1.h.none hp, s1.none hp, (show OwnAt X.K F1 _ p' (.list ds) from ⟨vs, upd_same, r⟩)⟩) p
theorem ve_tup {x1} (h : VA .val X es tA qA) (hl : es.length ≤ sizeLine := by decide) : VE .val X (.Tuple es x1 pos) (tTup tA) (qTup qA) := by
  refine ⟨pe_tup h.pa, fun H0 F H ρ σ P Q S hq k => ?_⟩
  refine h.sd H0 F H ρ σ _ _ S hq fun vs ds F1 H1 g1 s1 ln r1 p => ?_
  have r := r1.vals
  refine ⟨by rw [r.len, ln]; exact hl, fun p' hp => ?_⟩
  have g := Grow.new (o := .tup vs) s1 hp
  exact k _ (.tuple ds) _ _ (g1.trans g) s1.upd2 (show Rp X.K _ (.tuple ds) _ from ⟨p', vs, rfl, .inl (.inl upd_same), r.mono g.f⟩) p
/-! built-ins by values -/
def OpN (K : PySem.W.Frag) (md : Md) (f : List D → Option D) (r : List V → Hp → VK → Prop) : Prop :=
  ∀ (F H : Hp) (ds : List D) (z : D) (vs : List V) (Q : VK), Sub F H → ResA K F H ds vs .look → f ds = some z →
    (∀ v F' H', Grow F H F' H' → Sub F' H' → Res K H F' H' z v md → Q v H') → r vs H Q
def qN (f : List D → Option D) (qA : QA) : QE := fun ρ P => qA ρ fun ds => ∃ z, f ds = some z ∧ P z
theorem sndN {K : PySem.W.Frag} {n : Nat} {f : List D → Option D} {r : List V → Hp → VK → Prop} (ho : OpN K md f r) (ha : SndA K .look n tA qA) : Snd K md (tCB r tA) (qN f qA) := by
  intro H0 F H ρ σ P Q S hq k
  refine ha H0 F H ρ σ _ _ S hq fun vs ds F1 H1 g1 s1 ln r1 ⟨z, e, p⟩ => ?_
  refine ho F1 H1 ds z vs _ s1 r1 e fun v F2 H2 g2 s2 r2 => k v z F2 H2 (g1.trans g2) s2 ?_ p
  cases md with
  | val => exact r2
  | look => exact r2
  | own =>
    rcases r2 with r2 | ⟨a, e1, h0, f0, o⟩
    · exact .inl r2
    · exact .inr ⟨a, e1, g1.h.none h0, f0, o⟩
theorem ve_callB {x : Str} {p : Pos} {id : String} {f : List D → Option D} {r : List V → Hp → VK → Prop} (hc : CallR X (.builtin id) r) (ho : OpN X.K md f r) (hg : Gl X x) (hm : X.mg x = none) (hv : bootBuiltins x = some (.builtin id)) (ha : VA .look X (e :: es) tA qA) (hn : x ≠ "__name__" := by decide) (hdb : (x == ("__debug__" : Str)) = false := by decide) (he : starEach (e :: es) X.env = (false, eval e X.env) :: starEach es X.env := by rfl) (hpl : (backTo pos (starEach es X.env)).any (·.1) = false := by rfl) :
    VE md X (.Call (.Name x p) (e :: es) [] pos) (tCB r tA) (qN f qA) := ⟨pe_callB hc hg hm hv ha.pa hn hdb he hpl, sndN ho ha.sd⟩
theorem ve_callTy {x : Str} {p : Pos} {T : String} {f : List D → Option D} {r : List V → Hp → VK → Prop} (hc : CallR X (.type T) r) (ho : OpN X.K md f r) (hg : Gl X x) (hm : X.mg x = none) (hv : bootBuiltins x = some (.type T)) (ha : VA .look X (e :: es) tA qA) (hn : x ≠ "__name__" := by decide) (hdb : (x == ("__debug__" : Str)) = false := by decide) (he : starEach (e :: es) X.env = (false, eval e X.env) :: starEach es X.env := by rfl) (hpl : (backTo pos (starEach es X.env)).any (·.1) = false := by rfl) :
    VE md X (.Call (.Name x p) (e :: es) [] pos) (tCB r tA) (qN f qA) := ⟨pe_callTy hc hg hm hv ha.pa hn hdb he hpl, sndN ho ha.sd⟩
/-! subscripts -/
theorem ve_ix {f : D → D → Option D} {r : R2} (hr : IxR X r) (ho : Op2 X.K md f r) (ha : VE .look X a ta qa) (hb : VE .look X b tb qb) (hs : PlainIx b := by exact fun _ _ => rfl) : VE md X (.Subscript a b pos) (tOp r ta tb) (q2 f qa qb) :=
  ⟨pe_ix hr ha.pe hb.pe hs, snd2 ho ha.sd hb.sd⟩
def QO := Env → (Option Int → Prop) → Prop
def SndO (K : PySem.W.Frag) (t : TO) (q : QO) : Prop :=
  ∀ (H0 F H : Hp) (ρ : Env) (σ : St) (P : Option Int → Prop) (Q : Option Int → Hp → Prop), Slots K H0 F H ρ σ → q ρ P → (∀ i F' H', Grow F H F' H' → Sub F' H' → P i → Q i H') → t σ H Q
structure VO (X : Cx) (e : Option Expr) (t : TO) (q : QO) : Prop where
  po : PO X e t
  sd : SndO X.K t q
def qNone : QO := fun _ P => P none
def qSome (q : QE) : QO := fun ρ P => q ρ fun d => ∃ i, d = .int i ∧ P (some i)
theorem vo_none : VO X none tNoPart qNone := ⟨po_none, fun H0 F H ρ σ P Q S p k => k none F H (Grow.refl _ _) S.fh p⟩
theorem vo_some (h : VE .val X e t q) : VO X (some e) (tPart t) (qSome q) := ⟨po_some h.pe, fun H0 F H ρ σ P Q S hq k => h.sd H0 F H ρ σ _ _ S hq fun v d F1 H1 g1 s1 r1 ⟨i, e1, p⟩ => by
  subst e1
  exact ⟨i, r1, k (some i) F1 H1 g1 s1 p⟩⟩
def OpS (K : PySem.W.Frag) (md : Md) (f : D → Option Int → Option Int → Option D) (r : V → Option Int → Option Int → Hp → VK → Prop) : Prop :=
  ∀ (F H : Hp) (d z : D) (lo hi : Option Int) (v : V) (Q : VK), Sub F H → Lk K F H d v → f d lo hi = some z → (∀ v F' H', Grow F H F' H' → Sub F' H' → Res K H F' H' z v md → Q v H') → r v lo hi H Q
def qSl (f : D → Option Int → Option Int → Option D) (q : QE) (ql qh : QO) : QE := fun ρ P => q ρ fun d => ql ρ fun lo => qh ρ fun hi => ∃ z, f d lo hi = some z ∧ P z
theorem ve_slice {lo hi : Option Expr} {tl th : TO} {ql qh : QO} {p2 : Pos} {f : D → Option Int → Option Int → Option D} {r : V → Option Int → Option Int → Hp → VK → Prop} (hr : SlR X r) (ho : OpS X.K md f r) (he : VE .look X e t q) (hl : VO X lo tl ql) (hu : VO X hi th qh) :
    VE md X (.Subscript e (.Slice lo hi none p2) pos) (tSl r t tl th) (qSl f q ql qh) := by
  refine ⟨pe_slice hr he.pe hl.po hu.po, fun H0 F H ρ σ P Q S hq k => ?_⟩
  refine he.sd H0 F H ρ σ _ _ S hq fun v d F1 H1 g1 s1 r1 h1 => ?_
  refine hl.sd H0 F1 H1 ρ σ _ _ (S.grow g1 s1) h1 fun lo F2 H2 g2 s2 h2 => ?_
  refine hu.sd H0 F2 H2 ρ σ _ _ ((S.grow g1 s1).grow g2 s2) h2 fun hi F3 H3 g3 s3 ⟨z, e1, p⟩ => ?_
  refine ho F3 H3 d z lo hi v _ s3 (Lk.grow (Lk.grow r1 g2) g3) e1 fun v F4 H4 g4 s4 r4 => ?_
  refine k v z F4 H4 (((g1.trans g2).trans g3).trans g4) s4 ?_ p
  cases md with
  | val => exact r4
  | look => exact r4
  | own =>
    rcases r4 with r4 | ⟨a, e1, h0, f0, o⟩
    · exact .inl r4
    · exact .inr ⟨a, e1, g1.h.none (g2.h.none (g3.h.none h0)), f0, o⟩
end
end VL
namespace VL
open PySem PySem.Spec PyProof.Rows L2

/-! what the values read as -/
section
variable {X : Cx} {pins : List (Addr × Obj)} {σ : St} {F H : Hp} {s : Shared}
mutual
theorem Rp.reads (I : Inv X pins σ H s) (sb : Sub F H) : ∀ {d : D} {v : V} {u : Value}, d.plain = true → Rp X.K F d v → RelV v u → ∃ as, Reads s.heap u d as
  | .none, _, _, _, h, r => by cases h; cases r; exact ⟨_, .none⟩
  | .bool b, _, _, _, h, r => by cases h; cases r; exact ⟨_, .bool b⟩
  | .int i, _, _, _, h, r => by cases h; obtain ⟨t, rfl⟩ := r; exact ⟨_, .int i t⟩
  | .str x, _, _, _, h, r => by cases h; obtain ⟨t, rfl⟩ := r; exact ⟨_, .str x t⟩
  | .list ds, _, _, p, ⟨a, xs, e, h, q⟩, r => by
    subst e
    cases r
    obtain ⟨its, rv, ⟨o, n, ho, hc, _, hd⟩, _⟩ := I.list (SqL.of (sb _ _ h))
    obtain ⟨as, hr⟩ := RpA.reads I sb (by simpa [PyData.plain] using p) q rv
    exact ⟨_, .list ho hc hd hr⟩
  | .tuple ds, _, _, p, ⟨a, xs, e, h, q⟩, r => by
    subst e
    cases r
    obtain ⟨its, rv, ⟨o, ho, hc, n, hd⟩, _⟩ := I.tuple (sb.sqT h)
    obtain ⟨as, hr⟩ := RpA.reads I sb (by simpa [PyData.plain] using p) q rv
    exact ⟨_, .tuple ho hc hd hr⟩
  | .dict es, _, _, p, _, _ => by simp [PyData.plain] at p
theorem RpA.reads (I : Inv X pins σ H s) (sb : Sub F H) : ∀ {ds : List D} {xs : List V} {us : List Value}, PyData.plainAll ds = true → RpA X.K F ds xs → Vals xs us → ∃ as, ReadsAll s.heap us ds as
  | [], _, _, _, h, r => by cases h; cases r; exact ⟨_, .nil⟩
  | d :: ds, _, _, p, ⟨x, r0, e, h, q⟩, r => by
    subst e
    have p' : d.plain = true ∧ PyData.plainAll ds = true := by simpa [PyData.plainAll] using p
    cases r with
    | cons r1 r2 =>
      obtain ⟨as, q1⟩ := Rp.reads I sb p'.1 h r1
      obtain ⟨bs, q2⟩ := RpA.reads I sb p'.2 q r2
      exact ⟨_, .cons q1 q2⟩
end
theorem Lk.reads (I : Inv X pins σ H s) (sb : Sub F H) {d : D} {v : V} {u : Value} (p : d.plain = true) (h : Lk X.K F H d v) (r : RelV v u) : ∃ as, Reads s.heap u d as := by
  rcases h with h | ⟨a, e, o⟩
  · exact h.reads I sb p r
  · subst e
    cases r
    cases d with
    | list ds =>
      obtain ⟨xs, h, q⟩ := o
      obtain ⟨its, rv, ⟨o, n, ho, hc, _, hd⟩, _⟩ := I.list (SqL.of h)
      obtain ⟨as, hr⟩ := RpA.reads I sb (by simpa [PyData.plain] using p) q rv
      exact ⟨_, .list ho hc hd hr⟩
    | dict es => simp [PyData.plain] at p
    | _ => exact o.elim
end
section
variable {K : PySem.W.Frag} {F H : Hp}
/-- a list that is looked at -/
theorem Lk.lst {ds : List D} {v : V} (sb : Sub F H) (h : Lk K F H (.list ds) v) : ∃ a xs, v = .ref a ∧ H a = some (.lst xs) ∧ RpA K F ds xs := by
  rcases h with ⟨a, xs, e, h, r⟩ | ⟨a, e, xs, h, r⟩
  · exact ⟨a, xs, e, sb _ _ h, r⟩
  · exact ⟨a, xs, e, h, r⟩
theorem Lk.tup {ds : List D} {v : V} (sb : Sub F H) (h : Lk K F H (.tuple ds) v) : ∃ a xs, v = .ref a ∧ SqT K F a xs ∧ RpA K F ds xs := by
  rcases h with ⟨a, xs, e, h, r⟩ | ⟨a, e, z⟩
  · exact ⟨a, xs, e, h, r⟩
  · exact z.elim
theorem Lk.int {i : Int} {v : V} (h : Lk K F H (.int i) v) : v = .int i := by
  rcases h with h | ⟨_, _, z⟩
  · exact h
  · exact z.elim
theorem Lk.str {i : Str} {v : V} (h : Lk K F H (.str i) v) : v = .str i := by
  rcases h with h | ⟨_, _, z⟩
  · exact h
  · exact z.elim
theorem Lk.bool {i : Bool} {v : V} (h : Lk K F H (.bool i) v) : v = .bl i := by
  rcases h with h | ⟨_, _, z⟩
  · exact h
  · exact z.elim
theorem Lk.none {v : V} (h : Lk K F H .none v) : v = .non := by
  rcases h with h | ⟨_, _, z⟩
  · exact h
  · exact z.elim
/-- a new list of frozen items -/
theorem newL {xs : List V} {ds : List D} {p : Addr} (sb : Sub F H) (hp : H p = none) (r : RpA K F ds xs) (md : Md) : ∃ F', Grow F H F' (upd H p (.lst xs)) ∧ Sub F' (upd H p (.lst xs)) ∧ Res K H F' (upd H p (.lst xs)) (.list ds) (.ref p) md := by
  cases md with
  | val => exact ⟨_, Grow.new sb hp, sb.upd2, (show Rp K _ (.list ds) _ from ⟨p, xs, rfl, upd_same, r.mono (Sub.upd (sb.none hp))⟩)⟩
  | look => exact ⟨_, Grow.new sb hp, sb.upd2, .inl (show Rp K _ (.list ds) _ from ⟨p, xs, rfl, upd_same, r.mono (Sub.upd (sb.none hp))⟩)⟩
  | own => exact ⟨F, Grow.newO hp, sb.trans (Sub.upd hp), .inr ⟨p, rfl, hp, sb.none hp, (show OwnAt K F _ p (.list ds) from ⟨xs, upd_same, r⟩)⟩⟩
theorem resSc {F' H' H0 : Hp} {d : D} {v : V} {md : Md} (hs : isSc d = true) (r : Rp K F' d v) : Res K H0 F' H' d v md := by
  cases md with
  | val => exact r
  | look => exact .inl r
  | own => exact .inl ⟨hs, r⟩
end

/-! ### operators -/
def oArith (f : Int → Int → Option Int) : D → D → Option D
  | .int i, .int j => (f i j).map .int
  | _, _ => none
theorem op2_int {K : PySem.W.Frag} {f : Int → Int → Option Int} {C : Int → Int → Prop} {g : Int → Int → Int} (h : ∀ i j z, f i j = some z → C i j ∧ z = g i j) : Op2 K .val (oArith f) (rI C fun i j => .int (g i j)) := by
  intro F H dx dy z x y Q sb hx hy e k
  cases dx with
  | int i =>
    cases dy with
    | int j =>
      cases e1 : f i j with
      | none => simp [oArith, e1] at e
      | some w =>
        simp [oArith, e1] at e
        subst e
        obtain ⟨c, ez⟩ := h i j w e1
        subst ez
        exact ⟨i, j, hx.int, hy.int, c, k _ F H (Grow.refl _ _) sb rfl⟩
    | _ => simp [oArith] at e
  | _ => simp [oArith] at e
def fMul (i j : Int) : Option Int := if (-18446744073709551616 < i ∧ i < 18446744073709551616) ∨ (-18446744073709551616 < j ∧ j < 18446744073709551616) then some (i * j) else none
def fDiv (i j : Int) : Option Int := if 0 < j ∧ j < 1073741824 then some (i / j) else none
def fMod (i j : Int) : Option Int := if 0 < j then some (i % j) else none
def fPow (i j : Int) : Option Int := if 0 ≤ j ∧ j ≤ 1000000 ∧ i.natAbs < 2 ^ 64 then some (i ^ j.toNat) else none
def fShl (i j : Int) : Option Int := if 0 ≤ j ∧ j ≤ 1000000 ∧ i.natAbs < 2 ^ 64 then some (i * 2 ^ j.toNat) else none
def fShr (i j : Int) : Option Int := if 0 ≤ j then some (i / 2 ^ j.toNat) else none
abbrev oSub := oArith fun i j => some (i - j)
abbrev oDiv := oArith fDiv
abbrev oMod := oArith fMod
abbrev oPow := oArith fPow
abbrev oShl := oArith fShl
abbrev oShr := oArith fShr
abbrev oAnd := oArith fun i j => some (Builtin.bitAnd i j)
theorem op2_div {K : PySem.W.Frag} : Op2 K .val oDiv (rI CDiv fun i j => .int (i / j)) := op2_int fun i j z h => by
  unfold fDiv at h; split at h
  · rename_i q; cases h; exact ⟨q, rfl⟩
  · cases h
theorem op2_mod {K : PySem.W.Frag} : Op2 K .val oMod (rI (fun _ j => 0 < j) fun i j => .int (i % j)) := op2_int fun i j z h => by
  unfold fMod at h; split at h
  · rename_i q; cases h; exact ⟨q, rfl⟩
  · cases h
theorem op2_pow {K : PySem.W.Frag} : Op2 K .val oPow (rI CPow fun i j => .int (i ^ j.toNat)) := op2_int fun i j z h => by
  unfold fPow at h; split at h
  · rename_i q; cases h; exact ⟨q, rfl⟩
  · cases h
theorem op2_shl {K : PySem.W.Frag} : Op2 K .val oShl (rI CPow fun i j => .int (i * 2 ^ j.toNat)) := op2_int fun i j z h => by
  unfold fShl at h; split at h
  · rename_i q; cases h; exact ⟨q, rfl⟩
  · cases h
theorem op2_shr {K : PySem.W.Frag} : Op2 K .val oShr (rI (fun _ j => 0 ≤ j) fun i j => .int (i / 2 ^ j.toNat)) := op2_int fun i j z h => by
  unfold fShr at h; split at h
  · rename_i q; cases h; exact ⟨q, rfl⟩
  · cases h
theorem op2_int0 {K : PySem.W.Frag} {g : Int → Int → Int} : Op2 K .val (oArith fun i j => some (g i j)) (rI0 fun i j => .int (g i j)) := by
  intro F H dx dy z x y Q sb hx hy e k
  cases dx with
  | int i =>
    cases dy with
    | int j =>
      simp [oArith] at e
      subst e
      exact ⟨i, j, hx.int, hy.int, k _ F H (Grow.refl _ _) sb rfl⟩
    | _ => simp [oArith] at e
  | _ => simp [oArith] at e
/-- + : ints, texts, lists -/
def oAdd : D → D → Option D
  | .int i, .int j => some (.int (i + j))
  | .str i, .str j => if i.length + j.length ≤ sizeLine then some (.str (i ++ j)) else none
  | .list i, .list j => if i.length + j.length ≤ sizeLine then some (.list (i ++ j)) else none
  | _, _ => none
def rAddA : R2 := fun x y H Q => rI0 (fun i j => .int (i + j)) x y H Q ∨ ((∃ i j, x = .str i ∧ y = .str j ∧ i.length + j.length ≤ sizeLine ∧ Q (.str (i ++ j)) H) ∨ rCat x y H Q)
theorem or_addA {X : Cx} : OpR X (binaryOp .Add) rAddA := op_add.or (op_add_str.or op_cat)
theorem op2_add {K : PySem.W.Frag} {md : Md} : Op2 K md oAdd rAddA := by
  intro F H dx dy z x y Q sb hx hy e k
  cases dx with
  | int i =>
    cases dy with
    | int j =>
      simp [oAdd] at e; subst e
      exact .inl ⟨i, j, hx.int, hy.int, k _ F H (Grow.refl _ _) sb (resSc rfl rfl)⟩
    | _ => simp [oAdd] at e
  | str i =>
    cases dy with
    | str j =>
      simp [oAdd] at e
      obtain ⟨h1, e⟩ := e
      subst e
      exact .inr (.inl ⟨i, j, hx.str, hy.str, h1, k _ F H (Grow.refl _ _) sb (resSc rfl rfl)⟩)
    | _ => simp [oAdd] at e
  | list i =>
    cases dy with
    | list j =>
      simp [oAdd] at e
      obtain ⟨h1, e⟩ := e
      subst e
      obtain ⟨a, xs, ea, ha, ra⟩ := hx.lst sb
      obtain ⟨b, ys, eb, hb, rb⟩ := hy.lst sb
      refine .inr (.inr ⟨a, b, xs, ys, ea, eb, ha, hb, by rw [ra.len, rb.len]; exact h1, fun p hp => ?_⟩)
      obtain ⟨F', g, s', r⟩ := newL sb hp (ra.append rb) md
      exact k _ F' _ g s' r
    | _ => simp [oAdd] at e
  | _ => simp [oAdd] at e
/-- * : ints, a list and an int -/
def oMul : D → D → Option D
  | .int i, .int j => (fMul i j).map .int
  | .list i, .int j => if -9223372036854775808 ≤ j ∧ j < 9223372036854775808 ∧ i.length * j.toNat ≤ sizeLine then some (.list (List.replicate j.toNat i).flatten) else none
  | _, _ => none
def rMulA : R2 := fun x y H Q => rI CMul (fun i j => .int (i * j)) x y H Q ∨ rRep x y H Q
theorem or_mulA {X : Cx} : OpR X (binaryOp .Mult) rMulA := op_mul.or op_rep
theorem RpA.rep {K : PySem.W.Frag} {F : Hp} {ds : List D} {xs : List V} (r : RpA K F ds xs) : ∀ n : Nat, RpA K F (List.replicate n ds).flatten (List.replicate n xs).flatten
  | 0 => rfl
  | n + 1 => by rw [List.replicate_succ, List.replicate_succ, List.flatten_cons, List.flatten_cons]; exact r.append (RpA.rep r n)
theorem op2_mul {K : PySem.W.Frag} {md : Md} : Op2 K md oMul rMulA := by
  intro F H dx dy z x y Q sb hx hy e k
  cases dx with
  | int i =>
    cases dy with
    | int j =>
      simp only [oMul, fMul] at e
      split at e
      · rename_i hc
        simp at e; subst e
        exact .inl ⟨i, j, hx.int, hy.int, hc, k _ F H (Grow.refl _ _) sb (resSc rfl rfl)⟩
      · simp at e
    | _ => simp [oMul] at e
  | list i =>
    cases dy with
    | int j =>
      simp only [oMul] at e
      split at e
      · rename_i hc
        simp at e; subst e
        obtain ⟨a, xs, ea, ha, ra⟩ := hx.lst sb
        refine .inr ⟨a, j, xs, ea, hy.int, ha, hc.1, hc.2.1, by rw [ra.len]; exact hc.2.2, fun p hp => ?_⟩
        obtain ⟨F', g, s', r⟩ := newL sb hp (ra.rep j.toNat) md
        exact k _ F' _ g s' r
      · simp at e
    | _ => simp [oMul] at e
  | _ => simp [oMul] at e
/-! comparisons -/
def rD (f : D → D → Option D) (K : PySem.W.Frag) : R2 := fun x y H Q => ∃ F d e b, Sub F H ∧ Lk K F H d x ∧ Lk K F H e y ∧ f d e = some (.bool b) ∧ Q (.bl b) H
theorem op2_rD {K : PySem.W.Frag} {f : D → D → Option D} (hf : ∀ d e z, f d e = some z → ∃ b, z = .bool b) : Op2 K .val f (rD f K) := by
  intro F H dx dy z x y Q sb hx hy e k
  obtain ⟨b, rfl⟩ := hf _ _ _ e
  exact ⟨F, dx, dy, b, sb, hx, hy, e, k _ F H (Grow.refl _ _) sb rfl⟩
def flatD (d : D) : Bool := d.plain && decide (d.depth ≤ 60)
def oEq (d e : D) : Option D := if flatD d = true ∧ flatD e = true then some (.bool (PyData.eqv d e)) else none
def oNe (d e : D) : Option D := if flatD d = true ∧ flatD e = true then some (.bool (!PyData.eqv d e)) else none
theorem flatD_iff {d : D} : flatD d = true ↔ d.plain = true ∧ d.depth ≤ 60 := by simp [flatD]
variable {X : Cx}
theorem or_eq (hu : X.A.units + 64 < cLine) : OpR X (compareOp .Eq) (rD oEq X.K) := by
  intro pins s σ H x y v u Q I rx ry ⟨F, d, e, b, sb, hd, he, ef, q⟩
  unfold oEq at ef
  split at ef
  · rename_i hp
    obtain ⟨⟨p1, d1⟩, p2, d2⟩ := And.imp flatD_iff.mp flatD_iff.mp hp
    cases ef
    obtain ⟨as, r1⟩ := hd.reads I sb p1 rx
    obtain ⟨bs, r2⟩ := he.reads I sb p2 ry
    exact SeqAt.eq_plain r1 r2 p1 p2 (by have := Nat.min_le_left d.depth e.depth; omega) ⟨.bl _, H, I, rfl, q⟩
  · simp at ef
theorem or_ne (hu : X.A.units + 64 < cLine) : OpR X (compareOp .NotEq) (rD oNe X.K) := by
  intro pins s σ H x y v u Q I rx ry ⟨F, d, e, b, sb, hd, he, ef, q⟩
  unfold oNe at ef
  split at ef
  · rename_i hp
    obtain ⟨⟨p1, d1⟩, p2, d2⟩ := And.imp flatD_iff.mp flatD_iff.mp hp
    cases ef
    obtain ⟨as, r1⟩ := hd.reads I sb p1 rx
    obtain ⟨bs, r2⟩ := he.reads I sb p2 ry
    exact SeqAt.ne_plain r1 r2 p1 p2 (by have := Nat.min_le_left d.depth e.depth; omega) ⟨.bl _, H, I, rfl, q⟩
  · simp at ef
theorem oEq_b : ∀ d e z, oEq d e = some z → ∃ b, z = .bool b := fun d e z h => by
  unfold oEq at h; split at h
  · cases h; exact ⟨_, rfl⟩
  · cases h
theorem oNe_b : ∀ d e z, oNe d e = some z → ∃ b, z = .bool b := fun d e z h => by
  unfold oNe at h; split at h
  · cases h; exact ⟨_, rfl⟩
  · cases h
/-- data that can be ordered -/
def ordD (d e : D) : Bool := PySem.W.alike d e && !(match d with | .none => true | _ => false) && decide (d.depth ≤ 60)
def oLt (d e : D) : Option D := if ordD d e = true ∧ flatD d = true ∧ flatD e = true then some (.bool (PySem.W.dataLt d e)) else none
def oGt (d e : D) : Option D := if ordD d e = true ∧ flatD d = true ∧ flatD e = true then some (.bool (PySem.W.dataLt e d)) else none
def oLe (d e : D) : Option D := if ordD d e = true ∧ flatD d = true ∧ flatD e = true then some (.bool (!PySem.W.dataLt e d)) else none
def oGe (d e : D) : Option D := if ordD d e = true ∧ flatD d = true ∧ flatD e = true then some (.bool (!PySem.W.dataLt d e)) else none
theorem ordD_iff {d e : D} : ordD d e = true → PySem.W.alike d e = true ∧ d ≠ .none ∧ d.depth ≤ 60 := by
  unfold ordD
  intro h
  simp only [Bool.and_eq_true, decide_eq_true_eq] at h
  refine ⟨h.1.1, fun z => ?_, h.2⟩
  subst z
  exact absurd h.1.2 (by decide)
theorem or_ord {op : CmpOp} {f : D → D → Option D} {g : D → D → Bool} (hf : ∀ d e, f d e = if ordD d e = true ∧ flatD d = true ∧ flatD e = true then some (.bool (g d e)) else none)
    (hr : ∀ {A : Around} {s : Shared} {a b : Value} {d e : D} {as bs : List Addr} {Q E : Value → Shared → Prop}, Reads s.heap a d as → Reads s.heap b e bs → PySem.W.alike d e = true → d ≠ .none → A.units + min d.depth e.depth < cLine → Q (.bool (g d e)) s → wpAny (model X.prog X.w) A (compareOp op a b) Q E s)
    (hu : X.A.units + 64 < cLine) : OpR X (compareOp op) (rD f X.K) := by
  intro pins s σ H x y v u Q I rx ry ⟨F, d, e, b, sb, hd, he, ef, q⟩
  rw [hf] at ef
  split at ef
  · rename_i hp
    obtain ⟨h1, h2, h3⟩ := ordD_iff hp.1
    cases ef
    obtain ⟨as, r1⟩ := hd.reads I sb (flatD_iff.mp hp.2.1).1 rx
    obtain ⟨bs, r2⟩ := he.reads I sb (flatD_iff.mp hp.2.2).1 ry
    exact hr r1 r2 h1 h2 (by have := Nat.min_le_left d.depth e.depth; omega) ⟨.bl _, H, I, rfl, q⟩
  · simp at ef
theorem or_lt (hu : X.A.units + 64 < cLine) : OpR X (compareOp .Lt) (rD oLt X.K) := or_ord (fun _ _ => rfl) (fun r1 r2 h1 h2 h3 q => PySem.W.lt_data r1 r2 h1 h2 h3 q) hu
theorem or_gt (hu : X.A.units + 64 < cLine) : OpR X (compareOp .Gt) (rD oGt X.K) := or_ord (fun _ _ => rfl) (fun r1 r2 h1 h2 h3 q => PySem.W.gt_data r1 r2 h1 h2 h3 q) hu
theorem or_le (hu : X.A.units + 64 < cLine) : OpR X (compareOp .LtE) (rD oLe X.K) := or_ord (fun _ _ => rfl) (fun r1 r2 h1 h2 h3 q => PySem.W.le_data r1 r2 h1 h2 h3 q) hu
theorem or_ge (hu : X.A.units + 64 < cLine) : OpR X (compareOp .GtE) (rD oGe X.K) := or_ord (fun _ _ => rfl) (fun r1 r2 h1 h2 h3 q => PySem.W.ge_data r1 r2 h1 h2 h3 q) hu
theorem ord_b {f : D → D → Option D} {g : D → D → Bool} (hf : ∀ d e, f d e = if ordD d e = true ∧ flatD d = true ∧ flatD e = true then some (.bool (g d e)) else none) : ∀ d e z, f d e = some z → ∃ b, z = .bool b := fun d e z h => by
  rw [hf] at h; split at h
  · cases h; exact ⟨_, rfl⟩
  · cases h
theorem oLt_b : ∀ d e z, oLt d e = some z → ∃ b, z = .bool b := ord_b (f := oLt) fun _ _ => rfl
theorem oGt_b : ∀ d e z, oGt d e = some z → ∃ b, z = .bool b := ord_b (f := oGt) fun _ _ => rfl
theorem oLe_b : ∀ d e z, oLe d e = some z → ∃ b, z = .bool b := ord_b (f := oLe) fun _ _ => rfl
theorem oGe_b : ∀ d e z, oGe d e = some z → ∃ b, z = .bool b := ord_b (f := oGe) fun _ _ => rfl
/-- in a list -/
def oIn : D → D → Option D
  | d, .list ds => if flatD d = true ∧ flatD (.list ds) = true then some (.bool (ds.any fun z => PyData.eqv z d)) else none
  | d, .tuple ds => if flatD d = true ∧ flatD (.list ds) = true then some (.bool (ds.any fun z => PyData.eqv z d)) else none
  | _, _ => none
def oNotIn : D → D → Option D
  | d, .list ds => if flatD d = true ∧ flatD (.list ds) = true then some (.bool (!ds.any fun z => PyData.eqv z d)) else none
  | d, .tuple ds => if flatD d = true ∧ flatD (.list ds) = true then some (.bool (!ds.any fun z => PyData.eqv z d)) else none
  | _, _ => none
theorem oIn_b : ∀ d e z, oIn d e = some z → ∃ b, z = .bool b := fun d e z h => by
  unfold oIn at h
  split at h <;> (try split at h) <;> cases h <;> exact ⟨_, rfl⟩
theorem oNotIn_b : ∀ d e z, oNotIn d e = some z → ∃ b, z = .bool b := fun d e z h => by
  unfold oNotIn at h
  split at h <;> (try split at h) <;> cases h <;> exact ⟨_, rfl⟩
theorem or_in (hu : X.A.units + 64 < cLine) : OpR X (compareOp .In) (rD oIn X.K) := by
  intro pins s σ H x y v u Q I rx ry ⟨F, d, e, b, sb, hd, he, ef, q⟩
  cases e with
  | list ds =>
    simp only [oIn] at ef
    split at ef
    · rename_i hp
      obtain ⟨⟨p1, d1⟩, p2, d2⟩ := And.imp flatD_iff.mp flatD_iff.mp hp
      cases ef
      obtain ⟨as, r1⟩ := hd.reads I sb p1 rx
      obtain ⟨bs, r2⟩ := he.reads I sb p2 ry
      exact SeqAt.in_list_data r2 r1 (by simpa [PyData.plain] using p2) p1 (by have := Nat.min_le_right (PyData.depthAll ds) d.depth; omega) ⟨.bl _, H, I, rfl, q⟩
    · simp at ef
  | tuple ds =>
    simp only [oIn] at ef
    split at ef
    · rename_i hp
      obtain ⟨⟨p1, d1⟩, p2, d2⟩ := And.imp flatD_iff.mp flatD_iff.mp hp
      cases ef
      obtain ⟨as, r1⟩ := hd.reads I sb p1 rx
      have p3 : (PyData.tuple ds).plain = true := by simpa [PyData.plain] using p2
      obtain ⟨bs, r2⟩ := he.reads I sb p3 ry
      exact SeqAt.in_tuple_data r2 r1 (by simpa [PyData.plain] using p2) p1 (by have := Nat.min_le_right (PyData.depthAll ds) d.depth; omega) ⟨.bl _, H, I, rfl, q⟩
    · simp at ef
  | _ => simp [oIn] at ef
theorem or_notIn (hu : X.A.units + 64 < cLine) : OpR X (compareOp .NotIn) (rD oNotIn X.K) := by
  intro pins s σ H x y v u Q I rx ry ⟨F, d, e, b, sb, hd, he, ef, q⟩
  cases e with
  | list ds =>
    simp only [oNotIn] at ef
    split at ef
    · rename_i hp
      obtain ⟨⟨p1, d1⟩, p2, d2⟩ := And.imp flatD_iff.mp flatD_iff.mp hp
      cases ef
      obtain ⟨as, r1⟩ := hd.reads I sb p1 rx
      obtain ⟨bs, r2⟩ := he.reads I sb p2 ry
      exact SeqAt.notIn_list_data r2 r1 (by simpa [PyData.plain] using p2) p1 (by have := Nat.min_le_right (PyData.depthAll ds) d.depth; omega) ⟨.bl _, H, I, rfl, q⟩
    · simp at ef
  | tuple ds =>
    simp only [oNotIn] at ef
    split at ef
    · rename_i hp
      obtain ⟨⟨p1, d1⟩, p2, d2⟩ := And.imp flatD_iff.mp flatD_iff.mp hp
      cases ef
      obtain ⟨as, r1⟩ := hd.reads I sb p1 rx
      have p3 : (PyData.tuple ds).plain = true := by simpa [PyData.plain] using p2
      obtain ⟨bs, r2⟩ := he.reads I sb p3 ry
      exact SeqAt.notIn_tuple_data r2 r1 (by simpa [PyData.plain] using p2) p1 (by have := Nat.min_le_right (PyData.depthAll ds) d.depth; omega) ⟨.bl _, H, I, rfl, q⟩
    · simp at ef
  | _ => simp [oNotIn] at ef
/-- is None -/
def isN : D → Bool
  | .none => true
  | _ => false
def oIs : D → D → Option D
  | d, .none => some (.bool (isN d))
  | _, _ => none
def oIsNot : D → D → Option D
  | d, .none => some (.bool (!isN d))
  | _, _ => none
theorem Lk.isNone {K : PySem.W.Frag} {F H : Hp} {d : D} {v : V} (h : Lk K F H d v) : decide (v = .non) = isN d := by
  rcases h with h | ⟨a, e, o⟩
  · cases d with
    | none => cases h; rfl
    | bool b => cases h; rfl
    | int b => cases h; rfl
    | str b => cases h; rfl
    | list b => obtain ⟨a, xs, e, _⟩ := h; subst e; rfl
    | tuple b => obtain ⟨a, xs, e, _⟩ := h; subst e; rfl
    | dict b => obtain ⟨a, xs, e, _⟩ := h; subst e; rfl
  · subst e
    cases d with
    | none => exact o.elim
    | _ => rfl
theorem op2_is {K : PySem.W.Frag} : Op2 K .val oIs (fun x y H Q => y = .non ∧ Q (.bl (decide (x = .non))) H) := by
  intro F H dx dy z x y Q sb hx hy e k
  cases dy with
  | none =>
    simp [oIs] at e; subst e
    refine ⟨hy.none, ?_⟩
    rw [hx.isNone]
    exact k _ F H (Grow.refl _ _) sb rfl
  | _ => simp [oIs] at e
theorem op2_isNot {K : PySem.W.Frag} : Op2 K .val oIsNot (fun x y H Q => y = .non ∧ Q (.bl (!decide (x = .non))) H) := by
  intro F H dx dy z x y Q sb hx hy e k
  cases dy with
  | none =>
    simp [oIsNot] at e; subst e
    refine ⟨hy.none, ?_⟩
    rw [hx.isNone]
    exact k _ F H (Grow.refl _ _) sb rfl
  | _ => simp [oIsNot] at e
/-- unary minus -/
def oNeg : D → Option D
  | .int i => some (.int (-i))
  | _ => none
theorem op1_neg {K : PySem.W.Frag} : Op1 K oNeg (rU fun i => .int (-i)) := by
  intro F H dx z x Q sb hx e k
  cases dx with
  | int i => simp [oNeg] at e; subst e; exact ⟨i, hx.int, k _ F H (Grow.refl _ _) sb rfl⟩
  | _ => simp [oNeg] at e
end VL
namespace VL
open PySem PySem.Spec PyProof.Rows L2

section
variable {K : PySem.W.Frag} {F H : Hp}
/-! ### subscripts -/
def oIx : D → D → Option D
  | .list ds, .int i => atI ds i
  | .tuple ds, .int i => atI ds i
  | .str z, .int i => if z.length ≤ sizeLine then (atI z.cps.toList i).map fun c => .str ⟨#[c]⟩ else none
  | _, _ => none
theorem atI_rp {ds : List D} {xs : List V} {i : Int} {d : D} (r : RpA K F ds xs) (h : atI ds i = some d) : ∃ x, atI xs i = some x ∧ Rp K F d x := by
  unfold atI at h ⊢
  rw [r.len]
  cases e : ixN ds.length i with
  | none => rw [e] at h; simp at h
  | some j =>
    rw [e] at h
    simpa using r.get (by simpa using h)
theorem op2_ix : Op2 K .val oIx (rIx K) := by
  intro F H dx dy z x y Q sb hx hy e k
  cases dy with
  | int i =>
    have ey := hy.int
    cases dx with
    | list ds =>
      obtain ⟨a, xs, ea, ha, ra⟩ := hx.lst sb
      obtain ⟨v, h1, h2⟩ := atI_rp ra e
      exact .inl ⟨a, xs, i, v, ea, ey, SqL.of ha, h1, k _ F H (Grow.refl _ _) sb h2⟩
    | tuple ds =>
      obtain ⟨a, xs, ea, ha, ra⟩ := hx.tup sb
      obtain ⟨v, h1, h2⟩ := atI_rp ra e
      exact .inr (.inl ⟨a, xs, i, v, ea, ey, sb.sqT ha, h1, k _ F H (Grow.refl _ _) sb h2⟩)
    | str s =>
      simp only [oIx] at e
      split at e
      · rename_i hz
        cases e1 : atI s.cps.toList i with
        | none => rw [e1] at e; simp at e
        | some c =>
          rw [e1] at e
          simp at e; subst e
          exact .inr (.inr ⟨s, i, c, hx.str, ey, hz, e1, k _ F H (Grow.refl _ _) sb rfl⟩)
      · simp at e
    | _ => simp [oIx] at e
  | _ => cases dx <;> simp [oIx] at e
def cutL {α : Type} (xs : List α) (lo hi : Option Int) : List α := (xs.drop (HT.sIx xs.length 0 lo)).take (HT.sIx xs.length xs.length hi - HT.sIx xs.length 0 lo)
theorem RpA.cut {ds : List D} {xs : List V} (r : RpA K F ds xs) (lo hi : Option Int) : RpA K F (cutL ds lo hi) (cutV xs lo hi) := by
  unfold cutL cutV
  rw [r.len]
  exact (r.drop _).take _
/-- a list's slice -/
def oSlice : D → Option Int → Option Int → Option D
  | .list ds, lo, hi => some (.list (cutL ds lo hi))
  | _, _, _ => none
theorem opS_list {md : Md} : OpS K md oSlice (rSlL K) := by
  intro F H d z lo hi v Q sb hv e k
  cases d with
  | list ds =>
    simp [oSlice] at e; subst e
    obtain ⟨a, xs, ea, ha, ra⟩ := hv.lst sb
    refine ⟨a, xs, ea, SqL.of ha, fun p hp => ?_⟩
    obtain ⟨F', g, s', r⟩ := newL sb hp (ra.cut lo hi) md
    exact k _ F' _ g s' r
  | _ => simp [oSlice] at e
/-! ### built-ins -/
theorem ResA.one {d : D} {vs : List V} {md : Md} (h : ResA K F H [d] vs md) : ∃ v, vs = [v] ∧ Res K H F H d v md := by
  obtain ⟨x, r, e, h, q⟩ := h
  cases q
  exact ⟨x, e, h⟩
theorem ResA.two {d d2 : D} {vs : List V} {md : Md} (h : ResA K F H [d, d2] vs md) : ∃ v w, vs = [v, w] ∧ Res K H F H d v md ∧ Res K H F H d2 w md := by
  obtain ⟨x, r, e, h, q⟩ := h
  obtain ⟨w, e2, h2⟩ := ResA.one q
  subst e2
  exact ⟨x, w, e, h, h2⟩
def oLen : List D → Option D
  | [.list ds] => some (.int ds.length)
  | [.tuple ds] => some (.int ds.length)
  | [.str s] => if s.length ≤ sizeLine then some (.int s.length) else none
  | _ => none
theorem opN_len : OpN K .val oLen (fun xs H Q => ∃ x n, xs = [x] ∧ LenV K x H n ∧ Q (.int n) H) := by
  intro F H ds z vs Q sb hv e k
  match ds, hv, e with
  | [.list ds], hv, e =>
    obtain ⟨v, ev, h⟩ := hv.one
    simp [oLen] at e; subst e
    obtain ⟨a, xs, ea, ha, ra⟩ := Lk.lst sb h
    subst ea
    exact ⟨_, ds.length, ev, .inl ⟨xs, SqL.of ha, ra.len.symm⟩, k _ F H (Grow.refl _ _) sb rfl⟩
  | [.tuple ds], hv, e =>
    obtain ⟨v, ev, h⟩ := hv.one
    simp [oLen] at e; subst e
    obtain ⟨a, xs, ea, ha, ra⟩ := Lk.tup sb h
    subst ea
    exact ⟨_, ds.length, ev, .inr ⟨xs, sb.sqT ha, ra.len.symm⟩, k _ F H (Grow.refl _ _) sb rfl⟩
  | [.str s], hv, e =>
    obtain ⟨v, ev, h⟩ := hv.one
    simp [oLen] at e
    obtain ⟨e1, e⟩ := e
    subst e
    have := Lk.str h
    subst this
    exact ⟨_, s.length, ev, ⟨e1, rfl⟩, k _ F H (Grow.refl _ _) sb rfl⟩
  | [], _, e => simp [oLen] at e
  | [.none], _, e => simp [oLen] at e
  | [.bool _], _, e => simp [oLen] at e
  | [.int _], _, e => simp [oLen] at e
  | [.dict _], _, e => simp [oLen] at e
  | _ :: _ :: _, _, e => simp [oLen] at e
def oAbs : List D → Option D
  | [.int i] => some (.int (if i < 0 then -i else i))
  | _ => none
theorem opN_abs : OpN K .val oAbs (fun xs H Q => ∃ i, xs = [.int i] ∧ Q (.int (if i < 0 then -i else i)) H) := by
  intro F H ds z vs Q sb hv e k
  unfold oAbs at e
  split at e
  · obtain ⟨v, ev, h⟩ := hv.one
    cases e
    have := Lk.int h
    subst this
    exact ⟨_, ev, k _ F H (Grow.refl _ _) sb rfl⟩
  · cases e
def oInt : List D → Option D
  | [.int i] => some (.int i)
  | [.bool b] => some (.int (if b then 1 else 0))
  | _ => none
theorem opN_int : OpN K .val oInt (fun xs H Q => (∃ i, xs = [.int i] ∧ Q (.int i) H) ∨ ∃ k, xs = [.bl k] ∧ Q (.int (if k then 1 else 0)) H) := by
  intro F H ds z vs Q sb hv e k
  unfold oInt at e
  split at e
  · obtain ⟨v, ev, h⟩ := hv.one
    cases e
    have := Lk.int h
    subst this
    exact .inl ⟨_, ev, k _ F H (Grow.refl _ _) sb rfl⟩
  · obtain ⟨v, ev, h⟩ := hv.one
    cases e
    have := Lk.bool h
    subst this
    exact .inr ⟨_, ev, k _ F H (Grow.refl _ _) sb rfl⟩
  · cases e
def oMax2 : List D → Option D
  | [.int i, .int j] => some (.int (if j > i then j else i))
  | _ => none
def oMin2 : List D → Option D
  | [.int i, .int j] => some (.int (if j < i then j else i))
  | _ => none
theorem opN_max2 : OpN K .val oMax2 (fun xs H Q => ∃ i j, xs = [.int i, .int j] ∧ Q (.int (if j > i then j else i)) H) := by
  intro F H ds z vs Q sb hv e k
  unfold oMax2 at e
  split at e
  · obtain ⟨v, w, ev, h, h2⟩ := hv.two
    cases e
    have := Lk.int h
    subst this
    have := Lk.int h2
    subst this
    exact ⟨_, _, ev, k _ F H (Grow.refl _ _) sb rfl⟩
  · cases e
theorem opN_min2 : OpN K .val oMin2 (fun xs H Q => ∃ i j, xs = [.int i, .int j] ∧ Q (.int (if j < i then j else i)) H) := by
  intro F H ds z vs Q sb hv e k
  unfold oMin2 at e
  split at e
  · obtain ⟨v, w, ev, h, h2⟩ := hv.two
    cases e
    have := Lk.int h
    subst this
    have := Lk.int h2
    subst this
    exact ⟨_, _, ev, k _ F H (Grow.refl _ _) sb rfl⟩
  · cases e
/-- all ints, all truths -/
def intsD : List D → Option (List Int)
  | [] => some []
  | .int i :: r => (intsD r).map (i :: ·)
  | _ :: _ => none
def boolsD : List D → Option (List Bool)
  | [] => some []
  | .bool i :: r => (boolsD r).map (i :: ·)
  | _ :: _ => none
theorem intsD_of : ∀ {ds : List D} {ns : List Int}, intsD ds = some ns → ds = ns.map .int
  | [], ns, h => by simp [intsD] at h; subst h; rfl
  | .int i :: r, ns, h => by
    simp only [intsD] at h
    cases e : intsD r with
    | none => rw [e] at h; cases h
    | some ms =>
      rw [e] at h
      simp only [Option.map_some, Option.some.injEq] at h
      subst h
      rw [intsD_of e]
      rfl
  | .none :: _, _, h => by simp [intsD] at h
  | .bool _ :: _, _, h => by simp [intsD] at h
  | .str _ :: _, _, h => by simp [intsD] at h
  | .list _ :: _, _, h => by simp [intsD] at h
  | .tuple _ :: _, _, h => by simp [intsD] at h
  | .dict _ :: _, _, h => by simp [intsD] at h
@[simp] theorem intsD_map : ∀ ns : List Int, intsD (ns.map .int) = some ns
  | [] => rfl
  | n :: ns => by simp [intsD, intsD_map ns]
theorem boolsD_of : ∀ {ds : List D} {ns : List Bool}, boolsD ds = some ns → ds = ns.map .bool
  | [], ns, h => by simp [boolsD] at h; subst h; rfl
  | .bool i :: r, ns, h => by
    simp only [boolsD] at h
    cases e : boolsD r with
    | none => rw [e] at h; cases h
    | some ms =>
      rw [e] at h
      simp only [Option.map_some, Option.some.injEq] at h
      subst h
      rw [boolsD_of e]
      rfl
  | .none :: _, _, h => by simp [boolsD] at h
  | .int _ :: _, _, h => by simp [boolsD] at h
  | .str _ :: _, _, h => by simp [boolsD] at h
  | .list _ :: _, _, h => by simp [boolsD] at h
  | .tuple _ :: _, _, h => by simp [boolsD] at h
  | .dict _ :: _, _, h => by simp [boolsD] at h
@[simp] theorem boolsD_map : ∀ ns : List Bool, boolsD (ns.map .bool) = some ns
  | [] => rfl
  | n :: ns => by simp [boolsD, boolsD_map ns]
def oSum : List D → Option D
  | [.list ds] => (intsD ds).map fun ns => .int ns.sum
  | _ => none
theorem opN_sum : OpN K .val oSum (rSum K) := by
  intro F H ds z vs Q sb hv e k
  unfold oSum at e
  split at e
  · rename_i ds
    obtain ⟨v, ev, h⟩ := hv.one
    cases e1 : intsD ds with
    | none => rw [e1] at e; cases e
    | some ns =>
      rw [e1] at e
      cases e
      obtain ⟨a, xs, ea, ha, ra⟩ := Lk.lst sb h
      subst ea
      rw [intsD_of e1] at ra
      rw [ra.ints] at ha
      exact ⟨a, ns, ev, SqL.of ha, k _ F H (Grow.refl _ _) sb rfl⟩
  · cases e
def oAny : List D → Option D
  | [.list ds] => (boolsD ds).map fun ns => .bool (ns.any id)
  | _ => none
def oAll : List D → Option D
  | [.list ds] => (boolsD ds).map fun ns => .bool (ns.all id)
  | _ => none
theorem opN_any : OpN K .val oAny (rAny K) := by
  intro F H ds z vs Q sb hv e k
  unfold oAny at e
  split at e
  · rename_i ds
    obtain ⟨v, ev, h⟩ := hv.one
    cases e1 : boolsD ds with
    | none => rw [e1] at e; cases e
    | some ns =>
      rw [e1] at e
      cases e
      obtain ⟨a, xs, ea, ha, ra⟩ := Lk.lst sb h
      subst ea
      rw [boolsD_of e1] at ra
      rw [ra.bools] at ha
      exact ⟨a, ns, ev, SqL.of ha, k _ F H (Grow.refl _ _) sb rfl⟩
  · cases e
theorem opN_all : OpN K .val oAll (rAll K) := by
  intro F H ds z vs Q sb hv e k
  unfold oAll at e
  split at e
  · rename_i ds
    obtain ⟨v, ev, h⟩ := hv.one
    cases e1 : boolsD ds with
    | none => rw [e1] at e; cases e
    | some ns =>
      rw [e1] at e
      cases e
      obtain ⟨a, xs, ea, ha, ra⟩ := Lk.lst sb h
      subst ea
      rw [boolsD_of e1] at ra
      rw [ra.bools] at ha
      exact ⟨a, ns, ev, SqL.of ha, k _ F H (Grow.refl _ _) sb rfl⟩
  · cases e
/-- list(xs) of a list or a tuple -/
def oList : List D → Option D
  | [.list ds] => some (.list ds)
  | [.tuple ds] => some (.list ds)
  | _ => none
theorem opN_list {md : Md} : OpN K md oList (fun xs H Q => ∃ p ys, xs = [.ref p] ∧ (SqL K H p ys ∨ SqT K H p ys) ∧ ∀ l, H l = none → Q (.ref l) (upd H l (.lst ys))) := by
  intro F H ds z vs Q sb hv e k
  unfold oList at e
  split at e
  · obtain ⟨v, ev, h⟩ := hv.one
    cases e
    obtain ⟨a, xs, ea, ha, ra⟩ := Lk.lst sb h
    subst ea
    refine ⟨a, xs, ev, .inl (SqL.of ha), fun p hp => ?_⟩
    obtain ⟨F', g, s', r⟩ := newL sb hp ra md
    exact k _ F' _ g s' r
  · obtain ⟨v, ev, h⟩ := hv.one
    cases e
    obtain ⟨a, xs, ea, ha, ra⟩ := Lk.tup sb h
    subst ea
    refine ⟨a, xs, ev, .inr (sb.sqT ha), fun p hp => ?_⟩
    obtain ⟨F', g, s', r⟩ := newL sb hp ra md
    exact k _ F' _ g s' r
  · cases e
/-- tuple(xs) -/
def oTuple : List D → Option D
  | [.list ds] => some (.tuple ds)
  | [.tuple ds] => some (.tuple ds)
  | _ => none
theorem opN_tuple : OpN K .val oTuple (fun xs H Q => ∃ p ys, xs = [.ref p] ∧ ((SqL K H p ys ∧ ∀ l, H l = none → Q (.ref l) (upd H l (.tup ys))) ∨ (SqT K H p ys ∧ Q (.ref p) H))) := by
  intro F H ds z vs Q sb hv e k
  unfold oTuple at e
  split at e
  · rename_i ds
    obtain ⟨v, ev, h⟩ := hv.one
    cases e
    obtain ⟨a, xs, ea, ha, ra⟩ := Lk.lst sb h
    subst ea
    refine ⟨a, xs, ev, .inl ⟨SqL.of ha, fun p hp => ?_⟩⟩
    have g := Grow.new (o := .tup xs) sb hp
    exact k _ _ _ g sb.upd2 (show Rp K _ (.tuple ds) _ from ⟨p, xs, rfl, .inl (.inl upd_same), ra.mono g.f⟩)
  · rename_i ds
    obtain ⟨v, ev, h⟩ := hv.one
    cases e
    obtain ⟨a, xs, ea, ha, ra⟩ := Lk.tup sb h
    subst ea
    exact ⟨a, xs, ev, .inr ⟨sb.sqT ha, k _ F H (Grow.refl _ _) sb (show Rp K _ (.tuple ds) _ from ⟨a, xs, rfl, ha, ra⟩)⟩⟩
  · cases e
end

/-! ### sorted, min, max, repr of data -/
section
variable {X : Cx}
open PySem.W (alike dataLt AllAlike Sortable dataLe EachIs)
open PySem.W (minD maxD AlikeAll min_list_data max_list_data)
def alikesB (ds : List D) : Bool := ds.all fun d => ds.all fun e => alike d e
def sortableB (ds : List D) : Bool := (ds.all fun d => match d with | .tuple (_ :: _) => true | _ => false) || (ds.all fun d => match d with | .none => false | .tuple _ => false | _ => true)
theorem alikesB_iff {ds : List D} (h : alikesB ds = true) : AllAlike ds := fun d hd e he => by
  unfold alikesB at h
  rw [List.all_eq_true] at h
  have := h d hd
  rw [List.all_eq_true] at this
  exact this e he
theorem sortableB_iff {ds : List D} (h : sortableB ds = true) : Sortable ds := by
  unfold sortableB at h
  rw [Bool.or_eq_true, List.all_eq_true, List.all_eq_true] at h
  rcases h with h | h
  · refine .inl fun d hd => ?_
    have := h d hd
    revert this
    cases d with
    | tuple xs =>
      cases xs with
      | nil => intro z; cases z
      | cons x r => intro _; exact ⟨x, r, rfl⟩
    | _ => intro z; cases z
  · refine .inr fun d hd => ?_
    have := h d hd
    revert this
    cases d with
    | tuple xs => intro z; cases z
    | none => intro z; cases z
    | _ => intro _; exact ⟨(fun z => nomatch z), fun xs z => nomatch z⟩
def sortD (ds : List D) : List D := ds.mergeSort (dataLe false id)
def oSorted : List D → Option D
  | [.list ds] => if flatD (.list ds) = true ∧ alikesB ds = true ∧ sortableB ds = true ∧ ds.length ≤ sizeLine then some (.list (sortD ds)) else none
  | _ => none
def rData (f : List D → Option D) (md : Md) (K : PySem.W.Frag) : List V → Hp → VK → Prop := fun vs H Q => ∃ F ds z, Sub F H ∧ ResA K F H ds vs .look ∧ f ds = some z ∧ ∀ v F' H', Grow F H F' H' → Sub F' H' → Res K H F' H' z v md → Q v H'
theorem opN_data {f : List D → Option D} {md : Md} {K : PySem.W.Frag} : OpN K md f (rData f md K) := fun F H ds z vs Q sb hv e k => ⟨F, ds, z, sb, hv, e, k⟩
theorem each_rel {K : PySem.W.Frag} {F : Hp} : ∀ {ds : List D} {xs : List V} {us : List Value}, RpA K F ds xs → Vals xs us → EachIs (fun u d => ∃ x, RelV x u ∧ Rp K F d x) us ds
  | [], _, _, h, r => by cases h; cases r; exact .nil
  | d :: ds, _, _, ⟨x, r0, e, h, q⟩, r => by
    subst e
    cases r with
    | cons r1 r2 => exact .cons ⟨x, r1, h⟩ (each_rel q r2)
theorem rel_each {K : PySem.W.Frag} {F : Hp} : ∀ {ds : List D} {us : List Value}, EachIs (fun u d => ∃ x, RelV x u ∧ Rp K F d x) us ds → ∃ xs, RpA K F ds xs ∧ Vals xs us
  | _, _, .nil => ⟨[], rfl, .nil⟩
  | _, _, .cons ⟨x, r1, h⟩ t => by
    obtain ⟨xs, q, r⟩ := rel_each t
    exact ⟨x :: xs, ⟨x, xs, rfl, h, q⟩, .cons r1 r⟩
theorem depth_mem : ∀ {ds : List D} {d : D}, d ∈ ds → d.depth ≤ PyData.depthAll ds
  | [], _, h => nomatch h
  | x :: ds, d, h => by
    rcases List.mem_cons.mp h with rfl | h
    · rw [PyData.depthAll]; exact Nat.le_max_left _ _
    · rw [PyData.depthAll]; exact Nat.le_trans (depth_mem h) (Nat.le_max_right _ _)
theorem cr_sortedD {md : Md} (hu : X.A.units + 100 < cLine) : CallR X (.builtin "sorted") (rData oSorted md X.K) := by
  intro pins s σ H vs us Q I r ⟨F, ds0, z, sb, hv, e, k⟩
  unfold oSorted at e
  split at e
  · rename_i ds
    split at e
    · rename_i hc
      cases e
      obtain ⟨v, ev, h⟩ := hv.one
      subst ev
      obtain ⟨a, xs, ea, ha, ra⟩ := Lk.lst sb h
      subst ea
      rw [Vals.ref1 r]
      obtain ⟨hp, hdp⟩ := flatD_iff.mp hc.1
      obtain ⟨its, rv, hl, hz⟩ := I.list (SqL.of ha)
      obtain ⟨as, hr⟩ := RpA.reads I sb (by simpa [PyData.plain] using hp) ra rv
      have er := each_rel ra rv
      have eR : EachIs (fun v d => ∃ as, Reads s.heap v (id d) as) its ds := PySem.W.readsAll_each id (by rw [List.map_id]; exact hr)
      refine PySem.W.sorted_data hl.isList er eR (by rw [List.map_id]; exact alikesB_iff hc.2.1) (by rw [List.map_id]; exact sortableB_iff hc.2.2.1) hc.2.2.2 (fun b hb => ?_) fun out ho eo => ?_
      · have h1 := depth_mem hb
        have h2 : (PyData.list ds).depth = PyData.depthAll ds + 1 := by simp [PyData.depth]
        show X.A.units + 2 + b.depth < cLine
        omega
      · obtain ⟨ys, rq, rw'⟩ := rel_each eo
        obtain ⟨ep, he'⟩ := PyProof.Rows.sortedAll_at s.heap its (List.toArray out)
        have hlen : ys.length ≤ sizeLine := by
          rw [rw'.length, ho]; exact hc.2.2.2
        have hn := I.hok.fresh (Nat.le_succ s.heap.objs.size)
        obtain ⟨F', g, s', rr⟩ := newL sb hn rq md
        exact ⟨.ref _, upd H (s.heap.objs.size + 1) (.lst ys), I.laid (t' := s.toks) (fun _ _ => PyProof.Rows.sortedAll_old) (Nat.le_succ _) ⟨hlen, out, ep, rw', he'⟩, rfl, k _ F' _ g s' rr⟩
    · cases e
  · cases e
/-- min(xs), max(xs) of a list -/
def oMinL : List D → Option D
  | [.list (x :: xs)] => if flatD (.list (x :: xs)) = true ∧ alikesB (x :: xs) = true ∧ ((x :: xs).all fun d => !isN d) = true then some (minD x xs) else none
  | _ => none
def oMaxL : List D → Option D
  | [.list (x :: xs)] => if flatD (.list (x :: xs)) = true ∧ alikesB (x :: xs) = true ∧ ((x :: xs).all fun d => !isN d) = true then some (maxD x xs) else none
  | _ => none
theorem alikeAll_of {ds : List D} (h : alikesB ds = true) (h2 : (ds.all fun d => !isN d) = true) : AlikeAll ds := ⟨fun x hx y hy => alikesB_iff h x hx y hy, fun x hx z => by
  rw [List.all_eq_true] at h2
  have := h2 x hx
  subst z
  exact absurd this (by decide)⟩
theorem alike_self {ds : List D} (h : alikesB ds = true) {d e : D} (hd : d ∈ ds) (he : e ∈ ds) : alike d e = true := alikesB_iff h d hd e he
theorem minD_mem (x : D) : ∀ (xs : List D) , minD x xs ∈ x :: xs := by
  intro xs
  unfold minD
  induction xs generalizing x with
  | nil => exact List.mem_cons_self
  | cons y ys ih =>
    rw [List.foldl_cons]
    rcases List.mem_cons.mp (ih (if dataLt y x then y else x)) with h | h
    · rw [h]; split
      · exact List.mem_cons_of_mem _ List.mem_cons_self
      · exact List.mem_cons_self
    · exact List.mem_cons_of_mem _ (List.mem_cons_of_mem _ h)
theorem maxD_mem (x : D) : ∀ (xs : List D) , maxD x xs ∈ x :: xs := by
  intro xs
  unfold maxD
  induction xs generalizing x with
  | nil => exact List.mem_cons_self
  | cons y ys ih =>
    rw [List.foldl_cons]
    rcases List.mem_cons.mp (ih (if dataLt x y then y else x)) with h | h
    · rw [h]; split
      · exact List.mem_cons_of_mem _ List.mem_cons_self
      · exact List.mem_cons_self
    · exact List.mem_cons_of_mem _ (List.mem_cons_of_mem _ h)
theorem readsAll_get {h : Heap} : ∀ {vs : List Value} {ds : List D} {as : List Addr} {i : Nat} {v : Value} {d : D}, ReadsAll h vs ds as → vs[i]? = some v → ds[i]? = some d → ∃ bs, Reads h v d bs
  | _, _, _, _, _, _, .nil, hv, _ => by simp at hv
  | _, _, _, 0, _, _, .cons r _, hv, hd => by simp at hv hd; subst hv; subst hd; exact ⟨_, r⟩
  | _, _, _, i + 1, _, _, .cons _ rs, hv, hd => readsAll_get (i := i) rs (by simpa using hv) (by simpa using hd)
theorem minmax_res {K : PySem.W.Frag} {F : Hp} {x w : D} {xs : List D} {ys : List V} {its : List Value} {as bs : List Addr} {h h' : Heap} {i : Nat} {v : Value} (ra : RpA K F (x :: xs) ys) (rv : Vals ys its) (hr : ReadsAll h its (x :: xs) as) (hal : alikesB (x :: xs) = true) (hm : w ∈ x :: xs)
    (hi : its[i]? = some v) (hw : Reads h' v w bs) (hk : ∀ b o, h.get? b = some o → h'.get? b = some o) : ∃ y, RelV y v ∧ Rp K F w y := by
  have hl := rv.length
  have hlt : i < its.length := (List.getElem?_eq_some_iff.mp hi).1
  have hd : (x :: xs)[i]? = some ((x :: xs)[i]'(by rw [← ra.len, hl]; exact hlt)) := List.getElem?_eq_getElem _
  obtain ⟨y, hy, rp⟩ := ra.get hd
  obtain ⟨u, hu, ru⟩ := rv.get hy
  rw [hi] at hu
  cases hu
  obtain ⟨cs, r1⟩ := readsAll_get hr hi hd
  have e := PySem.W.alike_unique _ _ _ _ _ (alike_self hal (List.getElem_mem _) hm) (PyProof.Rows.Reads.keeps hk r1) hw
  rw [e] at rp
  exact ⟨y, ru, rp⟩
theorem cr_minD (hu : X.A.units + 100 < cLine) (hc : X.calm = true) : CallR X (.builtin "min") (rData oMinL .val X.K) := by
  intro pins s σ H vs us Q I r ⟨F, ds0, z, sb, hv, e, k⟩
  unfold oMinL at e
  split at e
  · rename_i x xs
    split at e
    · rename_i hcn
      cases e
      obtain ⟨v, ev, h⟩ := hv.one
      subst ev
      obtain ⟨a, ys, ea, ha, ra⟩ := Lk.lst sb h
      subst ea
      rw [Vals.ref1 r]
      obtain ⟨hp, hdp⟩ := flatD_iff.mp hcn.1
      obtain ⟨its, rv, hl, hz⟩ := I.list (SqL.of ha)
      obtain ⟨as, hr⟩ := RpA.reads I sb (by simpa [PyData.plain] using hp) ra rv
      have h2 : (PyData.list (x :: xs)).depth = PyData.depthAll (x :: xs) + 1 := by simp [PyData.depth]
      refine min_list_data (I.ok.hd hc) hl.isList hr (alikeAll_of hcn.2.1 hcn.2.2) (by omega) fun i v h' tk bs hi hw hk => ?_
      obtain ⟨y, ry, rp⟩ := minmax_res ra rv hr hcn.2.1 (minD_mem x xs) (by simpa using hi) hw hk
      exact ⟨y, H, I.kept hk, ry, k _ F H (Grow.refl _ _) sb rp⟩
    · cases e
  · cases e
theorem cr_maxD (hu : X.A.units + 100 < cLine) (hc : X.calm = true) : CallR X (.builtin "max") (rData oMaxL .val X.K) := by
  intro pins s σ H vs us Q I r ⟨F, ds0, z, sb, hv, e, k⟩
  unfold oMaxL at e
  split at e
  · rename_i x xs
    split at e
    · rename_i hcn
      cases e
      obtain ⟨v, ev, h⟩ := hv.one
      subst ev
      obtain ⟨a, ys, ea, ha, ra⟩ := Lk.lst sb h
      subst ea
      rw [Vals.ref1 r]
      obtain ⟨hp, hdp⟩ := flatD_iff.mp hcn.1
      obtain ⟨its, rv, hl, hz⟩ := I.list (SqL.of ha)
      obtain ⟨as, hr⟩ := RpA.reads I sb (by simpa [PyData.plain] using hp) ra rv
      have h2 : (PyData.list (x :: xs)).depth = PyData.depthAll (x :: xs) + 1 := by simp [PyData.depth]
      refine max_list_data (I.ok.hd hc) hl.isList hr (alikeAll_of hcn.2.1 hcn.2.2) (by omega) fun i v h' tk bs hi hw hk => ?_
      obtain ⟨y, ry, rp⟩ := minmax_res ra rv hr hcn.2.1 (maxD_mem x xs) (by simpa using hi) hw hk
      exact ⟨y, H, I.kept hk, ry, k _ F H (Grow.refl _ _) sb rp⟩
    · cases e
  · cases e
/-- repr -/
def oRepr : List D → Option D
  | [d] => if flatD d = true ∧ d.showable = true ∧ d.shown.length ≤ sizeLine then some (.str d.shown) else none
  | _ => none
mutual
theorem plain_noDict : ∀ {d : D}, d.plain = true → d.hasDict = false
  | .none, _ => by simp [PyData.hasDict]
  | .bool _, _ => by simp [PyData.hasDict]
  | .int _, _ => by simp [PyData.hasDict]
  | .str _, _ => by simp [PyData.hasDict]
  | .list ds, p => by rw [PyData.hasDict]; exact plain_noDictAll (by simpa [PyData.plain] using p)
  | .tuple ds, p => by rw [PyData.hasDict]; exact plain_noDictAll (by simpa [PyData.plain] using p)
  | .dict _, p => by simp [PyData.plain] at p
theorem plain_noDictAll : ∀ {ds : List D}, PyData.plainAll ds = true → PyData.hasDictAll ds = false
  | [], _ => by simp [PyData.hasDictAll]
  | d :: ds, p => by
    have p' : d.plain = true ∧ PyData.plainAll ds = true := by simpa [PyData.plainAll] using p
    rw [PyData.hasDictAll, plain_noDict p'.1, plain_noDictAll p'.2]; rfl
end
theorem cr_repr (hu : X.A.units + 100 < cLine) (hg : X.A.guards = some []) : CallR X (.builtin "repr") (rData oRepr .val X.K) := by
  intro pins s σ H vs us Q I r ⟨F, ds0, z, sb, hv, e, k⟩
  unfold oRepr at e
  split at e
  · rename_i d
    split at e
    · rename_i hc
      cases e
      obtain ⟨v, ev, h⟩ := hv.one
      subst ev
      obtain ⟨u, eu, ru⟩ := vals1 r
      subst eu
      obtain ⟨hp, hdp⟩ := flatD_iff.mp hc.1
      obtain ⟨as, hr⟩ := Lk.reads I sb hp h ru
      have fin : ∀ h' (u' : Tok) (tk : Nat), (∀ b o, s.heap.get? b = some o → h'.get? b = some o) → EP X pins σ Q (.str d.shown u') { s with heap := h', toks := tk } := fun h' u' tk hk =>
        ⟨.str d.shown, H, I.kept hk, ⟨u', rfl⟩, k _ F H (Grow.refl _ _) sb rfl⟩
      cases hr with
      | none => exact PySem.P.repr_of_none (fin _ _ _ fun _ _ q => q)
      | bool b => exact PySem.P.repr_of_bool (fin _ _ _ fun _ _ q => q)
      | int i t => exact PySem.P.repr_of_int (by simpa [PyData.showable] using hc.2.1) (fin _ _ _ fun _ _ q => q)
      | str x t => exact PySem.P.repr_of_str (fin _ _ _ fun _ _ q => q) (by simpa [PyData.shown] using hc.2.2)
      | list h1 h2 h3 h4 => exact repr_of_reads' (Reads.list h1 h2 h3 h4) hc.2.1 (fun z => by rw [plain_noDict hp] at z; cases z) hg (by omega) (fun _ _ q => q) (fun h' u' tk hk => fin h' u' tk hk) hc.2.2
      | tuple h1 h2 h3 h4 => exact repr_of_reads' (Reads.tuple h1 h2 h3 h4) hc.2.1 (fun z => by rw [plain_noDict hp] at z; cases z) hg (by omega) (fun _ _ q => q) (fun h' u' tk hk => fin h' u' tk hk) hc.2.2
      | dict h1 h2 h3 h4 h5 => simp [PyData.plain] at hp
    · cases e
  · cases e
end
end VL
namespace VL
open PySem PySem.Spec PyProof.Rows L2

/-! ### what is walked -/
abbrev QI := Env → (List D → Prop) → Prop
def ItOk (K : PySem.W.Frag) (J : It) (G F1 : Hp) (ds : List D) : Prop :=
  ∀ (i : Nat) (F2 H2 : Hp), Sub F1 F2 → Sub F2 H2 → Sub G H2 →
    (i = ds.length → J.stop i H2) ∧ ∀ d, ds[i]? = some d → J.go i H2 ∧ ∀ x H3, J.yld i H2 x H3 → ∃ F3, Grow F2 H2 F3 H3 ∧ Sub F3 H3 ∧ Rp K F3 d x
def gOf : Md → Hp → Hp → Hp
  | .val, F1, _ => F1
  | _, _, H1 => H1
def SndI (K : PySem.W.Frag) (md : Md) (w : TI) (q : QI) : Prop :=
  ∀ (H0 F H : Hp) (ρ : Env) (σ : St) (P : List D → Prop) (R : It → Hp → Prop), Slots K H0 F H ρ σ → q ρ P →
    (∀ J ds F1 H1, Grow F H F1 H1 → Sub F1 H1 → ItOk K J (gOf md F1 H1) F1 ds → P ds → R J H1) → w σ H R
structure VI (md : Md) (X : Cx) (tg e : Expr) (w : TI) (q : QI) : Prop where
  pi : PI X tg e w
  sd : SndI X.K md w q
section
variable {X : Cx} {md : Md} {tg e e2 a b : Expr} {t ta tb : TE} {q qa qb : QE} {tA : TA} {qA : QA} {pos p : Pos}
/-- a list as it is read: where it stands, and that it stands as long as G does -/
theorem look_list {K : PySem.W.Frag} {F1 H1 : Hp} {ds : List D} {v : V} (sb : Sub F1 H1) (r : Res K H1 F1 H1 (.list ds) v md) (hm : MdA md) : ∃ a xs, v = .ref a ∧ H1 a = some (.lst xs) ∧ RpA K F1 ds xs ∧ ∀ F2 H2, Sub F1 F2 → Sub F2 H2 → Sub (gOf md F1 H1) H2 → H2 a = some (.lst xs) := by
  cases md with
  | own => exact hm.elim
  | val =>
    obtain ⟨a, xs, e, h, q⟩ := r
    exact ⟨a, xs, e, sb _ _ h, q, fun F2 H2 s1 s2 _ => s2 _ _ (s1 _ _ h)⟩
  | look =>
    obtain ⟨a, xs, e, h, q⟩ := Lk.lst sb r
    exact ⟨a, xs, e, h, q, fun F2 H2 _ _ s3 => s3 _ _ h⟩
def qIList (q : QE) : QI := fun ρ P => q ρ fun d => ∃ ds, d = .list ds ∧ P ds
theorem vi_list (h : VE md X e t q) (hm : MdA md := by exact True.intro) : VI md X tg e (iList X.K t) (qIList q) := by
  refine ⟨pi_list h.pe, fun H0 F H ρ σ P R S hq k => ?_⟩
  refine h.sd H0 F H ρ σ _ _ S hq fun v d F1 H1 g1 s1 r1 ⟨ds, ed, p⟩ => ?_
  subst ed
  have r1' : Res X.K H1 F1 H1 (.list ds) v md := by
    cases md with
    | own => exact hm.elim
    | val => exact r1
    | look => exact r1
  obtain ⟨a, xs, ev, ha, ra, st⟩ := look_list s1 r1' hm
  refine ⟨a, ev, ⟨xs, SqL.of ha⟩, k _ ds F1 H1 g1 s1 (fun i F2 H2 h1 h2 h3 => ?_) p⟩
  have hx := SqL.of (K := X.K) (st F2 H2 h1 h2 h3)
  refine ⟨fun hi => ⟨xs, hx, by rw [ra.len]; omega⟩, fun d hd => ?_⟩
  obtain ⟨x, hx1, hr⟩ := ra.get hd
  refine ⟨⟨xs, x, hx, hx1⟩, fun y H3 ⟨e3, hy⟩ => ?_⟩
  subst e3
  have := hy xs hx
  rw [hx1] at this
  cases this
  exact ⟨F2, Grow.refl _ _, h2, hr.mono h1⟩
def rangeD (lo : Int) (n : Nat) : List D := (List.range n).map fun i => .int (lo + (i : Nat))
theorem itr_ok {K : PySem.W.Frag} {G F1 : Hp} {lo : Int} {n : Nat} : ItOk K (Itr lo n) G F1 (rangeD lo n) := fun i F2 H2 h1 h2 h3 => by
  refine ⟨fun hi => ?_, fun d hd => ?_⟩
  · show n ≤ i
    unfold rangeD at hi
    rw [List.length_map, List.length_range] at hi
    omega
  · unfold rangeD at hd
    rw [List.getElem?_map] at hd
    have hi : i < n := by
      rcases Nat.lt_or_ge i n with h | h
      · exact h
      · rw [List.getElem?_eq_none (by simpa using h)] at hd; cases hd
    rw [List.getElem?_range hi] at hd
    cases hd
    refine ⟨hi, fun x H3 ⟨e3, ex⟩ => ?_⟩
    subst e3 ex
    exact ⟨F2, Grow.refl _ _, h2, rfl⟩
def qIRng1 (qA : QA) : QI := fun ρ P => qA ρ fun ds => ∃ j, ds = [.int j] ∧ (-4611686018427387904 ≤ j ∧ j < 4611686018427387904) ∧ P (rangeD 0 j.toNat)
def qIRng2 (qA : QA) : QI := fun ρ P => qA ρ fun ds => ∃ i j, ds = [.int i, .int j] ∧ (-4611686018427387904 ≤ i ∧ i < 4611686018427387904 ∧ -4611686018427387904 ≤ j ∧ j < 4611686018427387904) ∧ P (rangeD i (j - i).toNat)
theorem vi_range1 (hg : Gl X "range") (hm : X.mg "range" = none) (ha : VA .look X [a] tA qA) (hs : starEach [a] X.env = [(false, eval a X.env)] := by rfl) : VI .val X tg (.Call (.Name "range" p) [a] [] pos) (iRng1 tA) (qIRng1 qA) := by
  refine ⟨pi_range1 hg hm ha.pa hs, fun H0 F H ρ σ P R S hq k => ?_⟩
  refine ha.sd H0 F H ρ σ _ _ S hq fun vs ds F1 H1 g1 s1 ln r1 ⟨j, ed, hj, pp⟩ => ?_
  subst ed
  obtain ⟨v, ev, h⟩ := r1.one
  have := Lk.int h
  subst this
  exact ⟨j, ev, hj.1, hj.2, k _ _ F1 H1 g1 s1 itr_ok pp⟩
theorem vi_range2 (hg : Gl X "range") (hm : X.mg "range" = none) (ha : VA .look X [a, b] tA qA) (hs : starEach [a, b] X.env = [(false, eval a X.env), (false, eval b X.env)] := by rfl) (hs2 : starEach [b] X.env = [(false, eval b X.env)] := by rfl) :
    VI .val X tg (.Call (.Name "range" p) [a, b] [] pos) (iRng2 tA) (qIRng2 qA) := by
  refine ⟨pi_range2 hg hm ha.pa hs hs2, fun H0 F H ρ σ P R S hq k => ?_⟩
  refine ha.sd H0 F H ρ σ _ _ S hq fun vs ds F1 H1 g1 s1 ln r1 ⟨i, j, ed, hj, pp⟩ => ?_
  subst ed
  obtain ⟨v, w, ev, h, h2⟩ := r1.two
  have := Lk.int h
  subst this
  have := Lk.int h2
  subst this
  exact ⟨i, j, ev, hj, k _ _ F1 H1 g1 s1 itr_ok pp⟩
def enumD (n : Nat) : List D → List D
  | [] => []
  | d :: r => .tuple [.int (n : Nat), d] :: enumD (n + 1) r
theorem enumD_get : ∀ (ds : List D) (n i : Nat), (enumD n ds)[i]? = (ds[i]?).map fun d => .tuple [.int ((n + i : Nat) : Int), d]
  | [], n, i => by simp [enumD]
  | d :: r, n, 0 => by simp [enumD]
  | d :: r, n, i + 1 => by
    have h := enumD_get r (n + 1) i
    simp only [enumD, List.getElem?_cons_succ]
    rw [h, show n + 1 + i = n + (i + 1) by omega]
theorem enumD_len : ∀ (ds : List D) (n : Nat), (enumD n ds).length = ds.length
  | [], _ => rfl
  | d :: r, n => by simp [enumD, enumD_len r]
theorem newT {K : PySem.W.Frag} {F H : Hp} {T : Addr} {xs : List V} {ds : List D} (sb : Sub F H) (hT : H T = none) (r : RpA K F ds xs) : ∃ F', Grow F H F' (upd H T (.tup xs)) ∧ Sub F' (upd H T (.tup xs)) ∧ Rp K F' (.tuple ds) (.ref T) := by
  have g := Grow.new (o := .tup xs) sb hT
  exact ⟨_, g, sb.upd2, (show Rp K _ (.tuple ds) _ from ⟨T, xs, rfl, .inl (.inl upd_same), r.mono g.f⟩)⟩
def qIEnum (qA : QA) : QI := fun ρ P => qA ρ fun ds => ∃ xs, ds = [.list xs] ∧ P (enumD 0 xs)
theorem vi_enum {elts : List Expr} {kk : Nat} {tpos : Pos} (hg : Gl X "enumerate") (hm : X.mg "enumerate" = none) (ha : VA md X [e] tA qA) (hmd : MdA md := by exact True.intro) (hs : starEach [e] X.env = [(false, eval e X.env)] := by rfl) :
    VI md X (.Tuple elts kk tpos) (.Call (.Name "enumerate" p) [e] [] pos) (iEnum X.K tA) (qIEnum qA) := by
  refine ⟨pi_enum hg hm ha.pa hs, fun H0 F H ρ σ P R S hq k => ?_⟩
  refine ha.sd H0 F H ρ σ _ _ S hq fun vs ds F1 H1 g1 s1 ln r1 ⟨ls, ed, pp⟩ => ?_
  subst ed
  obtain ⟨v, ev, h⟩ := r1.one
  obtain ⟨a, xs, ea, hA, ra, st⟩ := look_list s1 h hmd
  subst ea
  refine ⟨a, xs, ev, SqL.of hA, k _ _ F1 H1 g1 s1 (fun i F2 H2 h1 h2 h3 => ?_) pp⟩
  have hx := SqL.of (K := X.K) (st F2 H2 h1 h2 h3)
  refine ⟨fun hi => ⟨xs, hx, by rw [ra.len]; rw [enumD_len] at hi; omega⟩, fun d hd => ?_⟩
  rw [enumD_get] at hd
  cases hl : ls[i]? with
  | none => rw [hl] at hd; cases hd
  | some d0 =>
    rw [hl] at hd
    cases hd
    obtain ⟨x, hx1, hr⟩ := ra.get hl
    refine ⟨⟨xs, x, hx, hx1⟩, fun y H3 ⟨T, x2, ey, nT, e3, hy⟩ => ?_⟩
    subst e3 ey
    have := hy xs hx
    rw [hx1] at this
    cases this
    exact newT h2 nT ⟨_, _, rfl, (show V.int (i : Nat) = V.int ((0 + i : Nat) : Int) by rw [Nat.zero_add]), _, _, rfl, hr.mono h1, rfl⟩
def zipD (xs ys : List D) : List D := List.zipWith (fun x y => .tuple [x, y]) xs ys
def qIZip (qA : QA) : QI := fun ρ P => qA ρ fun ds => ∃ xs ys, ds = [.list xs, .list ys] ∧ P (zipD xs ys)
theorem vi_zip {elts : List Expr} {kk : Nat} {tpos : Pos} (hg : Gl X "zip") (hm : X.mg "zip" = none) (ha : VA md X [e, e2] tA qA) (hmd : MdA md := by exact True.intro)
    (hs : starEach [e, e2] X.env = (false, eval e X.env) :: starEach [e2] X.env := by rfl) (hpl : (backTo pos (starEach [e2] X.env)).any (·.1) = false := by rfl) :
    VI md X (.Tuple elts kk tpos) (.Call (.Name "zip" p) [e, e2] [] pos) (iZip X.K tA) (qIZip qA) := by
  refine ⟨pi_zip hg hm ha.pa hs hpl, fun H0 F H ρ σ P R S hq k => ?_⟩
  refine ha.sd H0 F H ρ σ _ _ S hq fun vs ds F1 H1 g1 s1 ln r1 ⟨ls, ms, ed, pp⟩ => ?_
  subst ed
  obtain ⟨v, w, ev, h, h2⟩ := r1.two
  obtain ⟨a, xs, ea, hA, ra, st⟩ := look_list s1 h hmd
  obtain ⟨b, ys, eb, hB, rb, st2⟩ := look_list s1 h2 hmd
  subst ea eb
  refine ⟨a, b, xs, ys, ev, SqL.of hA, SqL.of hB, k _ _ F1 H1 g1 s1 (fun i F2 H2 h1 h2 h3 => ?_) pp⟩
  have hx := SqL.of (K := X.K) (st F2 H2 h1 h2 h3)
  have hy := SqL.of (K := X.K) (st2 F2 H2 h1 h2 h3)
  refine ⟨fun hi => ⟨xs, ys, hx, hy, ?_⟩, fun d hd => ?_⟩
  · rw [ra.len, rb.len]
    unfold zipD at hi
    rw [List.length_zipWith] at hi
    omega
  · unfold zipD at hd
    rw [List.getElem?_zipWith] at hd
    cases hl : ls[i]? with
    | none => rw [hl] at hd; cases hd
    | some d0 =>
      cases hm2 : ms[i]? with
      | none => rw [hl, hm2] at hd; cases hd
      | some d1 =>
        rw [hl, hm2] at hd
        cases hd
        obtain ⟨x, hx1, hr⟩ := ra.get hl
        obtain ⟨y, hy1, hr2⟩ := rb.get hm2
        refine ⟨⟨xs, ys, x, y, hx, hy, hx1, hy1⟩, fun z H3 ⟨T, x2, y2, ez, nT, e3, hz, hz2⟩ => ?_⟩
        subst e3 ez
        have e1 := hz xs hx
        rw [hx1] at e1
        cases e1
        have e2 := hz2 ys hy
        rw [hy1] at e2
        cases e2
        exact newT h2 nT ⟨_, _, rfl, hr.mono h1, _, _, rfl, hr2.mono h1, rfl⟩
end

/-! ### targets -/
abbrev QG := D → Env → (Env → Prop) → Prop
abbrev QGs := List D → Env → (Env → Prop) → Prop
def SndG (K : PySem.W.Frag) (ts : List Nat) (g : TG) (q : QG) : Prop :=
  ∀ (H0 B F H : Hp) (ρ : Env) (σ : St) (d : D) (v : V) (P : Env → Prop) (Q : St → Hp → Prop), SlotsB K H0 B F H ρ σ → Rp K F d v → q d ρ P →
    (∀ ρ' σ', SlotsB K H0 B F H ρ' σ' → (∀ vs, (∀ i ∈ ts, i ∈ vs) → wipe σ' vs = wipe σ vs) → P ρ' → Q σ' H) → g v σ H Q
def SndGs (K : PySem.W.Frag) (ts : List Nat) (g : TGs) (q : QGs) : Prop :=
  ∀ (H0 B F H : Hp) (ρ : Env) (σ : St) (ds : List D) (xs : List V) (P : Env → Prop) (Q : St → Hp → Prop), SlotsB K H0 B F H ρ σ → RpA K F ds xs → q ds ρ P →
    (∀ ρ' σ', SlotsB K H0 B F H ρ' σ' → (∀ vs, (∀ i ∈ ts, i ∈ vs) → wipe σ' vs = wipe σ vs) → P ρ' → Q σ' H) → g xs σ H Q
structure VG (X : Cx) (tg : Expr) (ts : List Nat) (g : TG) (q : QG) : Prop where
  pg : PG X tg g
  sd : SndG X.K ts g q
structure VGs (X : Cx) (tg : List Expr) (ts : List Nat) (g : TGs) (q : QGs) : Prop where
  pgs : PGs X tg g
  sd : SndGs X.K ts g q
theorem wipe_get {σ : St} {i : Nat} : ∀ {vs : List Nat}, i ∈ vs → i < σ.length → (wipe σ vs)[i]? = some none
  | v :: vs, h, hl => by
    unfold wipe
    by_cases e : v = i
    · subst e
      rw [List.getElem?_set_self (by rw [wipe_length]; exact hl)]
    · rw [List.getElem?_set_ne e]
      rcases List.mem_cons.mp h with z | z
      · exact absurd z.symm e
      · exact wipe_get z hl
theorem wipe_set {σ : St} {i : Nat} {x : Option V} {vs : List Nat} (h : i ∈ vs) : wipe (σ.set i x) vs = wipe σ vs := by
  refine List.ext_getElem? fun j => ?_
  by_cases hj : j ∈ vs
  · by_cases hl : j < σ.length
    · rw [wipe_get hj (by rw [List.length_set]; exact hl), wipe_get hj hl]
    · rw [List.getElem?_eq_none (by rw [wipe_length, List.length_set]; omega), List.getElem?_eq_none (by rw [wipe_length]; omega)]
  · rw [wipe_out hj, wipe_out hj, List.getElem?_set_ne (fun (e : i = j) => hj (e ▸ h))]
theorem wipe_wipe {σ : St} {vs : List Nat} : wipe (wipe σ vs) vs = wipe σ vs := by
  refine List.ext_getElem? fun j => ?_
  by_cases hj : j ∈ vs
  · by_cases hl : j < σ.length
    · rw [wipe_get hj (by rw [wipe_length]; exact hl), wipe_get hj hl]
    · rw [List.getElem?_eq_none (by rw [wipe_length, wipe_length]; omega), List.getElem?_eq_none (by rw [wipe_length]; omega)]
  · rw [wipe_out hj]
section
variable {X : Cx} {tg : Expr} {es : List Expr} {ts us : List Nat} {g : TG} {gs : TGs} {q : QG} {qs : QGs} {pos : Pos}
def qName (i : Nat) : QG := fun d ρ P => P (ρ.set i (.val d))
theorem vg_name (i : Nat) {x : Str} (hN : X.N.Nodup) (hi : X.N[i]? = some x) (hx : Loc X.env.scope x) (hf : X.fn x = true ∨ X.env.scope.names.lookup x = some .local := by first | exact .inl rfl | exact .inr rfl | assumption) : VG X (.Name x pos) [i] (gName i) (qName i) :=
  ⟨pg_name hN hi hx hf, fun H0 B F H ρ σ d v P Q S r hq k => k _ _ (S.set r) (fun vs h => wipe_set (h i List.mem_cons_self)) hq⟩
def qGNil : QGs := fun ds ρ P => ds = [] ∧ P ρ
def qGCons (q : QG) (qs : QGs) : QGs := fun ds ρ P => ∃ d r, ds = d :: r ∧ q d ρ fun ρ' => qs r ρ' P
theorem vgs_nil : VGs X [] [] gNil qGNil := ⟨pgs_nil, fun H0 B F H ρ σ ds xs P Q S r ⟨e, hq⟩ k => by
  subst e
  exact ⟨r, k ρ σ S (fun _ _ => rfl) hq⟩⟩
theorem vgs_cons (h1 : VG X tg ts g q) (h2 : VGs X es us gs qs) (hs : (assignEach (tg :: es) X.env).map (·.2) = assign tg X.env :: (assignEach es X.env).map (·.2) := by rfl) : VGs X (tg :: es) (ts ++ us) (gCons g gs) (qGCons q qs) := by
  refine ⟨pgs_cons h1.pg h2.pgs hs, fun H0 B F H ρ σ ds xs P Q S r ⟨d, ds', e, hq⟩ k => ?_⟩
  subst e
  obtain ⟨x, r', ex, rx, rr⟩ := r
  refine ⟨x, r', ex, h1.sd H0 B F H ρ σ d x _ _ S rx hq fun ρ1 σ1 S1 w1 q1 => ?_⟩
  refine h2.sd H0 B F H ρ1 σ1 ds' r' _ _ S1 rr q1 fun ρ2 σ2 S2 w2 q2 => ?_
  exact k ρ2 σ2 S2 (fun vs h => (w2 vs fun i hi => h i (List.mem_append_right _ hi)).trans (w1 vs fun i hi => h i (List.mem_append_left _ hi))) q2
def qGTup (n : Nat) (qs : QGs) : QG := fun d ρ P => ∃ ds, d = .tuple ds ∧ ds.length = n ∧ qs ds ρ P
theorem vg_tup {k n : Nat} (hc : X.calm = true) (h : VGs X es ts gs qs) (hn : (assignEach es X.env).length = n := by rfl) (hst : (assignEach es X.env).findIdx? (·.1) = none := by rfl) : VG X (.Tuple es k pos) ts (gTup X.K n gs) (qGTup n qs) := by
  refine ⟨pg_tup hc h.pgs hn hst, fun H0 B F H ρ σ d v P Q S r ⟨ds, e, hl, hq⟩ kk => ?_⟩
  subst e
  obtain ⟨a, xs, ev, hT, ra⟩ := r
  refine ⟨a, xs, ev, S.fh.sqT hT, by rw [ra.len]; exact hl, h.sd H0 B F H ρ σ ds xs _ _ S ra hq kk⟩
end

/-! ### comprehensions -/
def wipeR (ρ : Env) : List Nat → Env
  | [] => ρ
  | v :: vs => (wipeR ρ vs).set v .no
theorem SlotsB.wipe {K : PySem.W.Frag} {H0 B F H : Hp} {ρ : Env} {σ : St} (S : SlotsB K H0 B F H ρ σ) : ∀ vs : List Nat, SlotsB K H0 B F H (wipeR ρ vs) (L2.wipe σ vs)
  | [] => S
  | v :: vs => (SlotsB.wipe S vs).setNo
def lcRun (step : D → (Option D → Prop) → Prop) : List D → List D → (List D → Prop) → Prop
  | [], acc, P => P acc
  | d :: ds, acc, P => step d fun o => lcRun step ds (acc ++ o.toList) P
structure VTs (X : Cx) (ifs : List Expr) (t : TT) (q : QT) : Prop where
  pts : PTs X ifs t
  sd : SndT X.K t q
def qYes : QT := fun _ P => P true
theorem vts_nil {X : Cx} : VTs X [] tYes qYes := ⟨pts_nil, fun H0 F H ρ σ P Q S p k => k true F H (Grow.refl _ _) S.fh p⟩
theorem vts_one {X : Cx} {c : Expr} {t : TT} {q : QT} (h : VT X c t q) : VTs X [c] t q := ⟨pts_one h.pt, h.sd⟩
def qLc (qi : QI) (qg : QG) (qt : QT) (qe : QE) (vs : List Nat) : QE := fun ρ P => qi ρ fun ds => ds.length ≤ sizeLine ∧ lcRun (fun d k => qg d (wipeR ρ vs) fun ρ2 => qt ρ2 fun b => if b = true then qe ρ2 fun y => k (some y) else k none) ds [] fun out => P (.list out)
theorem sndLc {K : PySem.W.Frag} {md : Md} {wi : TI} {g : TG} {tt : TT} {te : TE} {qi : QI} {qg : QG} {qt : QT} {qe : QE} {ts vs : List Nat} (hi : SndI K md wi qi) (hg : SndG K ts g qg) (ht : SndT K tt qt) (he : Snd K .val te qe) (hts : ∀ i ∈ ts, i ∈ vs) :
    Snd K .own (tLc wi g tt te vs) (qLc qi qg qt qe vs) := by
  intro H0 F H ρ σ P Q S hq k
  refine hi H0 F H ρ σ _ _ S hq fun J ds F1 H1 g1 s1 ok ⟨hl, hrun⟩ => ?_
  intro D nD
  have S1 := S.grow g1 s1
  refine ⟨fun i m H' => ∃ F' acc accD, m = ds.length - i ∧ i ≤ ds.length ∧ H' D = some (.lst acc) ∧ Grow F1 H1 F' H' ∧ F' D = none ∧ Sub F' H' ∧ RpA K F' accD acc ∧ acc.length ≤ i ∧
      lcRun (fun d k => qg d (wipeR ρ vs) fun ρ2 => qt ρ2 fun b => if b = true then qe ρ2 fun y => k (some y) else k none) (ds.drop i) accD fun out => P (.list out),
    ⟨ds.length, F1, [], [], by simp, Nat.zero_le _, upd_same, Grow.newO nD, s1.none nD, s1.trans (Sub.upd nD), rfl, Nat.le_refl _, hrun⟩, ?_⟩
  rintro i m H' ⟨F', acc, accD, rfl, hi', hD, gF, fD, sF, ra, hacc, run⟩
  have hG : Sub (gOf md F1 H1) H' := by
    cases md with
    | val => exact gF.f.trans sF
    | look => exact gF.h
    | own => exact gF.h
  obtain ⟨stop, go⟩ := ok i F' H' gF.f sF hG
  rcases Nat.lt_or_ge i ds.length with hlt | hge
  · have hd : ds[i]? = some ds[i] := List.getElem?_eq_getElem hlt
    obtain ⟨go1, yl⟩ := go _ hd
    rw [List.drop_eq_getElem_cons hlt] at run
    refine .inr ⟨go1, fun H2 => ∃ F2 acc2 accD2, H2 D = some (.lst acc2) ∧ Grow F1 H1 F2 H2 ∧ F2 D = none ∧ Sub F2 H2 ∧ RpA K F2 accD2 acc2 ∧ acc2.length ≤ i + 1 ∧
      lcRun (fun d k => qg d (wipeR ρ vs) fun ρ2 => qt ρ2 fun b => if b = true then qe ρ2 fun y => k (some y) else k none) (ds.drop (i + 1)) accD2 (fun out => P (.list out)),
      fun H2 ⟨F2, acc2, accD2, a1, a2, a3, a4, a5, a6, a7⟩ => ⟨ds.length - (i + 1), by omega, F2, acc2, accD2, rfl, hlt, a1, a2, a3, a4, a5, a6, a7⟩, fun x H3 hy => ?_⟩
    obtain ⟨F3, g3, s3, rx⟩ := yl x H3 hy
    have keepD : ∀ {Fa Ha Fb Hb : Hp}, Grow Fa Ha Fb Hb → Fa D = none → Ha D = some (.lst acc) → Fb D = none ∧ Hb D = some (.lst acc) := fun {Fa Ha Fb Hb} gg f h => by
      refine ⟨?_, gg.h _ _ h⟩
      cases z : Fb D with
      | none => rfl
      | some u =>
        rcases gg.n D (by rw [z]; simp) with y | y
        · exact absurd f y
        · rw [h] at y; cases y
    obtain ⟨f3, h3⟩ := keepD g3 fD hD
    obtain ⟨B, SB⟩ := (S1.grow gF sF).grow g3 s3
    refine hg H0 B F3 H3 (wipeR ρ vs) (L2.wipe σ vs) _ x _ _ (SB.wipe vs) rx run fun ρ2 σ2 S2 w2 q2 => ?_
    refine ⟨(w2 vs hts).trans wipe_wipe, ?_⟩
    refine ht H0 F3 H3 ρ2 σ2 _ _ S2.ex q2 fun b F4 H4 g4 s4 q4 => ?_
    obtain ⟨f4, h4⟩ := keepD g4 f3 h3
    have gall := (gF.trans g3).trans g4
    cases b with
    | false =>
      simp only [Bool.false_eq_true, if_false] at q4 ⊢
      exact ⟨F4, acc, accD, h4, gall, f4, s4, ra.mono (g3.f.trans g4.f), Nat.le_succ_of_le hacc, by simpa using q4⟩
    | true =>
      simp only [if_true] at q4 ⊢
      refine he H0 F4 H4 ρ2 σ2 _ _ (S2.ex.grow g4 s4) q4 fun y d F5 H5 g5 s5 r5 q5 => ?_
      obtain ⟨f5, h5⟩ := keepD g5 f4 h4
      have g15 := gall.trans g5
      refine ⟨acc, h5, by omega, F5, acc ++ [y], accD ++ [d], upd_same, ⟨g15.f, g15.h.updR nD, fun a ha => g15.n a ha⟩, f5, s5.updR f5, ?_, by simp; omega, by simpa using q5⟩
      exact (ra.mono ((g3.f.trans g4.f).trans g5.f)).snoc r5
  · have e : i = ds.length := by omega
    refine .inl ⟨stop e, ?_⟩
    rw [e, List.drop_length] at run
    have gg := g1.trans gF
    exact k (.ref D) (.list accD) F' H' gg sF (.inr ⟨D, rfl, g1.h.none nD, fD, (show OwnAt K F' H' D (.list accD) from ⟨acc, hD, ra⟩)⟩) run
section
variable {X : Cx} {md : Md} {elt tg iter : Expr} {ifs : List Expr} {scope : Scope} {own : List (Str × Nat)} {pos spos : Pos} {wi : TI} {g : TG} {tt : TT} {te : TE} {qi : QI} {qg : QG} {qt : QT} {qe : QE} {ts : List Nat}
theorem ve_lc (hc : X.calm = true) (hN : X.N.Nodup) (hi : VI md X tg iter wi qi) (ok : BlkOk X.N X.env.scope scope own)
    (hg : ∀ (s : Shared) (H : Hp) (C : Addr) (cl : List (Str × Addr)) (fp : List Addr), VG (X.blk s H scope (compEnvC scope cl C X.env) fp) tg ts g qg)
    (ht : ∀ (s : Shared) (H : Hp) (C : Addr) (cl : List (Str × Addr)) (fp : List Addr), VTs (X.blk s H scope (compEnvC scope cl C X.env) fp) ifs tt qt)
    (he : ∀ (s : Shared) (H : Hp) (C : Addr) (cl : List (Str × Addr)) (fp : List Addr), VE .val (X.blk s H scope (compEnvC scope cl C X.env) fp) elt te qe) (hts : ∀ i ∈ ts, i ∈ own.map (·.2) := by decide) (hs : ∀ x, foldedSetIterable iter X.env x = pure x := by intro _; rfl) :
    VE .own X (.ListComp elt [⟨tg, iter, ifs, 0⟩] scope pos) (tLc wi g tt te (own.map (·.2))) (qLc qi qg qt qe (own.map (·.2))) :=
  ⟨pe_lc hc hN hi.pi ok (fun s H C cl fp => (hg s H C cl fp).pg) (fun s H C cl fp => (ht s H C cl fp).pts) (fun s H C cl fp => (he s H C cl fp).pe) hs, sndLc hi.sd (hg X.s_0 X.H_0 0 [] []).sd (ht X.s_0 X.H_0 0 [] []).sd (he X.s_0 X.H_0 0 [] []).sd hts⟩
end
end VL
namespace VL
open PySem PySem.Spec PyProof.Rows L2

/-! ### statements -/
structure VEnds where
  nx : Env → Prop
  rt : D → Prop
  bk : Env → Prop := fun _ => False
  ct : Env → Prop := fun _ => False
abbrev QS := VEnds → Env → Prop
def rMd : Bool → Md
  | true => .own
  | false => .val
/-- what is behind a statement that began at F -/
structure Post (K : PySem.W.Frag) (fr : Bool) (F0 H0 B F : Hp) (Dv : VEnds) (Dh : Ends) : Prop where
  nx : ∀ F' H' ρ' σ', SlotsB K H0 B F' H' ρ' σ' → Grow F0 H0 F' H' → Sub F F' → Dv.nx ρ' → Dh.nx σ' H'
  bk : ∀ F' H' ρ' σ', SlotsB K H0 B F' H' ρ' σ' → Grow F0 H0 F' H' → Sub F F' → Dv.bk ρ' → Dh.bk σ' H'
  ct : ∀ F' H' ρ' σ', SlotsB K H0 B F' H' ρ' σ' → Grow F0 H0 F' H' → Sub F F' → Dv.ct ρ' → Dh.ct σ' H'
  rt : ∀ d v F' H', Sub F' H' → Grow F0 H0 F' H' → Res K H0 F' H' d v (rMd fr) → Dv.rt d → Dh.rt v H'
theorem Post.weak {K : PySem.W.Frag} {fr : Bool} {F0 H0 B F F1 : Hp} {Dv : VEnds} {Dh : Ends} (p : Post K fr F0 H0 B F Dv Dh) (s : Sub F F1) : Post K fr F0 H0 B F1 Dv Dh :=
  ⟨fun F' H' ρ' σ' S g s' => p.nx F' H' ρ' σ' S g (s.trans s'), fun F' H' ρ' σ' S g s' => p.bk F' H' ρ' σ' S g (s.trans s'), fun F' H' ρ' σ' S g s' => p.ct F' H' ρ' σ' S g (s.trans s'), p.rt⟩
def SndS (K : PySem.W.Frag) (fr : Bool) (t : TS) (q : QS) : Prop :=
  ∀ (F0 H0 B F H : Hp) (ρ : Env) (σ : St) (Dv : VEnds) (Dh : Ends), SlotsB K H0 B F H ρ σ → Grow F0 H0 F H → q Dv ρ → Post K fr F0 H0 B F Dv Dh → t Dh σ H
structure VS (fr : Bool) (X : Cx) (st : Stmt) (t : TS) (q : QS) : Prop where
  ps : PS X st t
  sd : SndS X.K fr t q
structure VSs (fr : Bool) (X : Cx) (st : List Stmt) (t : TS) (q : QS) : Prop where
  ps : PSs X st t
  sd : SndS X.K fr t q
section
variable {X : Cx} {fr : Bool} {md : Md} {st : Stmt} {rest a b : List Stmt} {t u : TS} {qs qr : QS} {e : Expr} {te : TE} {q : QE} {pos : Pos}
def qNext : QS := fun Dv ρ => Dv.nx ρ
def qSeq (q r : QS) : QS := fun Dv ρ => q { Dv with nx := r Dv } ρ
theorem sndNext {K : PySem.W.Frag} : SndS K fr tNext qNext := fun F0 H0 B F H ρ σ Dv Dh S g q p => p.nx F H ρ σ S g (Sub.refl _) q
theorem vss_nil : VSs fr X [] tNext qNext := ⟨pss_nil, sndNext⟩
theorem sndSeq {K : PySem.W.Frag} (h1 : SndS K fr t qs) (h2 : SndS K fr u qr) : SndS K fr (tSeq t u) (qSeq qs qr) := by
  intro F0 H0 B F H ρ σ Dv Dh S g q p
  refine h1 F0 H0 B F H ρ σ _ _ S g q ⟨fun F' H' ρ' σ' S' g' s' q' => ?_, p.bk, p.ct, p.rt⟩
  exact h2 F0 H0 B F' H' ρ' σ' Dv Dh S' g' q' (p.weak s')
theorem vss_cons (h1 : VS fr X st t qs) (h2 : VSs fr X rest u qr) : VSs fr X (st :: rest) (tSeq t u) (qSeq qs qr) := ⟨pss_cons h1.ps h2.ps, sndSeq h1.sd h2.sd⟩
theorem vss_one (h1 : VS fr X st t qs) : VSs fr X [st] t qs := ⟨pss_one h1.ps, h1.sd⟩
theorem vs_pass : VS fr X (.Pass pos) tNext qNext := ⟨ps_pass, sndNext⟩
def qBreak : QS := fun Dv ρ => Dv.bk ρ
def qCont : QS := fun Dv ρ => Dv.ct ρ
theorem vs_break : VS fr X (.Break pos) tBreak qBreak := ⟨ps_break, fun F0 H0 B F H ρ σ Dv Dh S g q p => p.bk F H ρ σ S g (Sub.refl _) q⟩
theorem vs_continue : VS fr X (.Continue pos) tCont qCont := ⟨ps_continue, fun F0 H0 B F H ρ σ Dv Dh S g q p => p.ct F H ρ σ S g (Sub.refl _) q⟩
/-- an expression as a statement -/
def qDrop (q : QE) : QS := fun Dv ρ => q ρ fun _ => Dv.nx ρ
theorem vs_expr (he : VE md X e te q) (hs : swapsWith e none pos.line X.env = pure false := by rfl) : VS fr X (.Expr e pos) (tDrop te) (qDrop q) :=
  ⟨ps_expr he.pe hs, fun F0 H0 B F H ρ σ Dv Dh S g hq p => he.sd H0 F H ρ σ _ _ S.ex hq fun v d F1 H1 g1 s1 r1 q1 => p.nx F1 H1 ρ σ (S.grow g1 s1) (g.trans g1) g1.f q1⟩
/-- name = e -/
def qSet (i : Nat) (q : QE) : QS := fun Dv ρ => q ρ fun d => Dv.nx (ρ.set i (.val d))
theorem sndSet {K : PySem.W.Frag} {i : Nat} (he : Snd K .val te q) : SndS K fr (tAsg te (gName i)) (qSet i q) := fun F0 H0 B F H ρ σ Dv Dh S g hq p =>
  he H0 F H ρ σ _ _ S.ex hq fun v d F1 H1 g1 s1 r1 q1 => p.nx F1 H1 _ _ ((S.grow g1 s1).set r1) (g.trans g1) g1.f q1
theorem vs_set (i : Nat) {x : Str} {pos' : Pos} (hN : X.N.Nodup) (hi : X.N[i]? = some x) (hx : Loc X.env.scope x) (he : VE .val X e te q) (hs : swapsWith e (some (.Name x pos')) pos.line X.env = pure false := by rfl) (hf : X.fn x = true ∨ X.env.scope.names.lookup x = some .local := by first | exact .inl rfl | exact .inr rfl | assumption) :
    VS fr X (.Assign [.Name x pos'] e pos) (tAsg te (gName i)) (qSet i q) := ⟨ps_set hN hi hx he.pe hs hf, sndSet he.sd⟩
/-- name = a new thing of one's own -/
def ownSl (d : D) : Sl := if isSc d = true then .val d else .own d
def qSetO (i : Nat) (q : QE) : QS := fun Dv ρ => q ρ fun d => Dv.nx (ρ.set i (ownSl d))
theorem SlotsB.setNew {K : PySem.W.Frag} {H0 B F0 F H F1 H1 : Hp} {ρ : Env} {σ : St} {i : Nat} {d : D} {v : V} (S : SlotsB K H0 B F H ρ σ) (g : Grow F0 H0 F H) (g1 : Grow F H F1 H1) (s1 : Sub F1 H1) (r : Res K H F1 H1 d v .own) : SlotsB K H0 B F1 H1 (ρ.set i (ownSl d)) (σ.set i (some v)) := by
  have S1 := S.grow g1 s1
  have key : ∀ a, H a = none → ∀ (j : Nat) (e : D), j ≠ i → ρ[j]? = some (.own e) → σ[j]? ≠ some (some (.ref a)) := fun a ha j e _ h1 h2 => by
    obtain ⟨b, e1, _, _, o⟩ := S.ok j _ _ h1 h2
    cases e1
    obtain ⟨u, hu⟩ := o.there
    rw [ha] at hu; cases hu
  rcases r with ⟨sc, r⟩ | ⟨a, ev, h0, f, o⟩
  · unfold ownSl
    rw [if_pos sc]
    exact S1.set r
  · subst ev
    have ns : ¬ isSc d = true := fun z => by
      cases d with
      | list => cases z
      | dict => cases z
      | tuple => cases z
      | none => exact o.elim
      | bool => exact o.elim
      | int => exact o.elim
      | str => exact o.elim
    unfold ownSl
    rw [if_neg ns]
    exact S1.setOwn f (g.h.none h0) o (key a h0)
theorem sndSetO {K : PySem.W.Frag} {i : Nat} (he : Snd K .own te q) : SndS K fr (tAsg te (gName i)) (qSetO i q) := fun F0 H0 B F H ρ σ Dv Dh S g hq p =>
  he H0 F H ρ σ _ _ S.ex hq fun v d F1 H1 g1 s1 r1 q1 => p.nx F1 H1 _ _ (S.setNew g g1 s1 r1) (g.trans g1) g1.f q1
theorem vs_setO (i : Nat) {x : Str} {pos' : Pos} (hN : X.N.Nodup) (hi : X.N[i]? = some x) (hx : Loc X.env.scope x) (he : VE .own X e te q) (hs : swapsWith e (some (.Name x pos')) pos.line X.env = pure false := by rfl) (hf : X.fn x = true ∨ X.env.scope.names.lookup x = some .local := by first | exact .inl rfl | exact .inr rfl | assumption) :
    VS fr X (.Assign [.Name x pos'] e pos) (tAsg te (gName i)) (qSetO i q) := ⟨ps_set hN hi hx he.pe hs hf, sndSetO he.sd⟩
section
variable {elt tg iter : Expr} {ifs : List Expr} {scope : Scope} {own : List (Str × Nat)} {spos : Pos} {wi : TI} {g : TG} {tt : TT} {qi : QI} {qg : QG} {qt : QT} {ts : List Nat}
theorem Res.own_val {K : PySem.W.Frag} (h : Snd K .own te q) : Snd K .val te q := fun H0 F H ρ σ P Q S hq k => h H0 F H ρ σ P Q S hq fun v d F' H' g s r p => by
  obtain ⟨F2, g2, s2, _, r2⟩ := r.frz g s
  exact k v d F2 H' g2 s2 r2 p
theorem ps_lc (i : Nat) {y : Str} {py : Pos} (hc : X.calm = true) (hN : X.N.Nodup) (hy : X.N[i]? = some y) (hyl : X.env.scope.names.lookup y = some .local)
    (hsw : swapsWith (.ListComp elt [⟨tg, iter, ifs, 0⟩] scope pos) (some (.Name y py)) spos.line X.env = pure true) (hi : VI md X tg iter wi qi) (ok : BlkOk X.N X.env.scope scope own)
    (hg : ∀ (s : Shared) (H : Hp) (C : Addr) (cl : List (Str × Addr)) (fp : List Addr), VG (X.blk s H scope (compEnvC scope cl C X.env) fp) tg ts g qg)
    (ht : ∀ (s : Shared) (H : Hp) (C : Addr) (cl : List (Str × Addr)) (fp : List Addr), VTs (X.blk s H scope (compEnvC scope cl C X.env) fp) ifs tt qt)
    (he : ∀ (s : Shared) (H : Hp) (C : Addr) (cl : List (Str × Addr)) (fp : List Addr), VE .val (X.blk s H scope (compEnvC scope cl C X.env) fp) elt te q) (hts : ∀ i ∈ ts, i ∈ own.map (·.2) := by decide) (hs : ∀ x, foldedSetIterable iter X.env x = pure x := by intro _; rfl) :
    PS X (.Assign [.Name y py] (.ListComp elt [⟨tg, iter, ifs, 0⟩] scope pos) spos) (tAsg (tLc wi g tt te (own.map (·.2))) (gName i)) ∧ Snd X.K .own (tLc wi g tt te (own.map (·.2))) (qLc qi qg qt q (own.map (·.2))) :=
  ⟨ps_setLc hc hN hy hyl hsw hi.pi ok (fun s H C cl fp => (hg s H C cl fp).pg) (fun s H C cl fp => (ht s H C cl fp).pts) (fun s H C cl fp => (he s H C cl fp).pe) hs, sndLc hi.sd (hg X.s_0 X.H_0 0 [] []).sd (ht X.s_0 X.H_0 0 [] []).sd (he X.s_0 X.H_0 0 [] []).sd hts⟩
end
theorem vs_setLc {i : Nat} (h : PS X st (tAsg te (gName i)) ∧ Snd X.K .own te q) : VS fr X st (tAsg te (gName i)) (qSet i q) := ⟨h.1, sndSet (Res.own_val h.2)⟩
theorem vs_setLcO {i : Nat} (h : PS X st (tAsg te (gName i)) ∧ Snd X.K .own te q) : VS fr X st (tAsg te (gName i)) (qSetO i q) := ⟨h.1, sndSetO h.2⟩
/-- a target that is no name -/
def qAsg (q : QE) (qg : QG) : QS := fun Dv ρ => q ρ fun d => qg d ρ Dv.nx
theorem vs_asg {tg : Expr} {g : TG} {qg : QG} {ts : List Nat} (he : VE .val X e te q) (hg : VG X tg ts g qg) (hs : swapsWithSole [tg] e pos.line X.env = pure false := by rfl) (hw : swappedStores [tg] e X.env = pure none := by rfl)
    (h1 : (assignEach [tg] X.env).map (·.2) = [assign tg X.env] := by rfl) : VS fr X (.Assign [tg] e pos) (tAsg te g) (qAsg q qg) :=
  ⟨ps_asg he.pe hg.pg hs hw h1, fun F0 H0 B F H ρ σ Dv Dh S g hq p => he.sd H0 F H ρ σ _ _ S.ex hq fun v d F1 H1 g1 s1 r1 q1 =>
    hg.sd H0 B F1 H1 ρ σ d v _ _ (S.grow g1 s1) r1 q1 fun ρ2 σ2 S2 _ q2 => p.nx F1 H1 ρ2 σ2 S2 (g.trans g1) g1.f q2⟩
/-- a, b = x, y -/
def qPar (i j : Nat) (qA : QA) : QS := fun Dv ρ => qA ρ fun ds => ∃ d e, ds = [d, e] ∧ Dv.nx ((ρ.set i (.val d)).set j (.val e))
theorem vs_par {i j : Nat} {x y : Str} {e1 e2 : Expr} {tA : TA} {qA : QA} {px py pt : Pos} {kt k2 pt2} (hc : X.calm = true) (hN : X.N.Nodup) (hi : X.N[i]? = some x) (hj : X.N[j]? = some y) (hij : i ≠ j)
    (hx : X.env.scope.names.lookup x = some .local) (hy : X.env.scope.names.lookup y = some .local) (ha : VA .val X [e1, e2] tA qA)
    (hw : swappedStores [.Tuple [.Name x px, .Name y py] kt pt] (.Tuple [e1, e2] k2 pt2) X.env = pure (some [x, y]))
    (hs : swapsWithSole [.Tuple [.Name x px, .Name y py] kt pt] (.Tuple [e1, e2] k2 pt2) pos.line X.env = pure false := by rfl) :
    VS fr X (.Assign [.Tuple [.Name x px, .Name y py] kt pt] (.Tuple [e1, e2] k2 pt2) pos) (tPar i j tA) (qPar i j qA) := by
  refine ⟨ps_par hc hN hi hj hij hx hy ha.pa hw hs, fun F0 H0 B F H ρ σ Dv Dh S g hq p => ?_⟩
  refine ha.sd H0 F H ρ σ _ _ S.ex hq fun vs ds F1 H1 g1 s1 ln r1 ⟨d, e, ed, q1⟩ => ?_
  subst ed
  obtain ⟨v, w, ev, r, r2⟩ := r1.two
  exact ⟨v, w, ev, p.nx F1 H1 _ _ (((S.grow g1 s1).set r).set r2) (g.trans g1) g1.f q1⟩
/-- if -/
def qIfS (qc : QT) (qa qb : QS) : QS := fun Dv ρ => qc ρ fun b => if b = true then qa Dv ρ else qb Dv ρ
theorem vs_if {c : Expr} {tc : TT} {qc : QT} (hc : VT X c tc qc) (ha : VSs fr X a t qs) (hb : VSs fr X b u qr) : VS fr X (.If c a b pos) (tIfS tc t u) (qIfS qc qs qr) := by
  refine ⟨ps_if hc.pt ha.ps hb.ps, fun F0 H0 B F H ρ σ Dv Dh S g hq p => ?_⟩
  refine hc.sd H0 F H ρ σ _ _ S.ex hq fun x F1 H1 g1 s1 q1 => ?_
  cases x with
  | true => exact ha.sd F0 H0 B F1 H1 ρ σ Dv Dh (S.grow g1 s1) (g.trans g1) q1 (p.weak g1.f)
  | false => exact hb.sd F0 H0 B F1 H1 ρ σ Dv Dh (S.grow g1 s1) (g.trans g1) q1 (p.weak g1.f)
/-- return -/
def qRet (q : QE) : QS := fun Dv ρ => q ρ Dv.rt
def qRetN : QS := fun Dv _ => Dv.rt .none
theorem vs_ret (he : VE .val X e te q) : VS false X (.Return (some e) pos) (tRet te) (qRet q) :=
  ⟨ps_ret he.pe, fun F0 H0 B F H ρ σ Dv Dh S g hq p => he.sd H0 F H ρ σ _ _ S.ex hq fun v d F1 H1 g1 s1 r1 q1 => p.rt d v F1 H1 s1 (g.trans g1) r1 q1⟩
theorem vs_retO (he : VE .own X e te q) : VS true X (.Return (some e) pos) (tRet te) (qRet q) :=
  ⟨ps_ret he.pe, fun F0 H0 B F H ρ σ Dv Dh S g hq p => he.sd H0 F H ρ σ _ _ S.ex hq fun v d F1 H1 g1 s1 r1 q1 => p.rt d v F1 H1 s1 (g.trans g1) (by
    rcases r1 with r1 | ⟨a, ev, h0, f, o⟩
    · exact .inl r1
    · exact .inr ⟨a, ev, g.h.none h0, f, o⟩) q1⟩
/-- return name, the name one's own -/
def qRetV (i : Nat) : QS := fun Dv ρ => ∃ d, ρ[i]? = some (.own d) ∧ Dv.rt d
theorem slot_own {K : PySem.W.Frag} {H0 B F H : Hp} {ρ : Env} {σ : St} {i : Nat} {d : D} (S : SlotsB K H0 B F H ρ σ) (h : ρ[i]? = some (.own d)) : ∃ a, σ[i]? = some (some (.ref a)) ∧ F a = none ∧ H0 a = none ∧ OwnAt K F H a d := by
  obtain ⟨x, hx⟩ := slot_at S.len h
  obtain ⟨a, e, f, h0, o⟩ := S.ok i _ x h hx
  subst e
  exact ⟨a, hx, f, h0, o⟩
theorem vs_retV (i : Nat) {x : Str} {pos' : Pos} (hN : X.N[i]? = some x := by rfl) (hv : Vis X.env.scope x := by first | exact Or.inl rfl | exact Or.inr (Or.inl rfl) | exact Or.inr (Or.inr rfl)) (hd : (x == ("__debug__" : Str)) = false := by decide)
    (hcd : (x == ("__classdict__" : Str)) = false := by decide) : VS true X (.Return (some (.Name x pos')) pos) (tRet (tVar i)) (qRetV i) :=
  ⟨ps_ret (pe_var hN hv hd hcd), fun F0 H0 B F H ρ σ Dv Dh S g ⟨d, h, q1⟩ p => by
    obtain ⟨a, hx, f, h0, o⟩ := slot_own S h
    exact ⟨_, hx, p.rt d _ F H S.fh g (.inr ⟨a, rfl, h0, f, o⟩) q1⟩⟩
theorem vs_retN : VS fr X (.Return none pos) tRetN qRetN := ⟨ps_retN, fun F0 H0 B F H ρ σ Dv Dh S g hq p => p.rt .none .non F H S.fh g (by cases fr; exact rfl; exact .inl ⟨rfl, rfl⟩) hq⟩
theorem vs_retNone {j} {pos' : Pos} : VS fr X (.Return (some (.Constant .none j pos')) pos) (tRet (tC .non)) qRetN := ⟨ps_ret pe_non, fun F0 H0 B F H ρ σ Dv Dh S g hq p => p.rt .none .non F H S.fh g (by cases fr; exact rfl; exact .inl ⟨rfl, rfl⟩) hq⟩
/-- never reached -/
def qNever : QS := fun _ _ => False
theorem vs_never : VS fr X st tNever qNever := ⟨ps_never, fun F0 H0 B F H ρ σ Dv Dh S g hq p => hq.elim⟩
theorem vss_never : VSs fr X a tNever qNever := ⟨pss_never, fun F0 H0 B F H ρ σ Dv Dh S g hq p => hq.elim⟩
/-- for -/
def forRun (qg : QG) (qb : QS) : List D → VEnds → Env → Prop
  | [], Dv, ρ => Dv.nx ρ
  | d :: ds, Dv, ρ => qg d ρ fun ρ' => qb { Dv with nx := forRun qg qb ds Dv, ct := forRun qg qb ds Dv, bk := Dv.nx } ρ'
def qFor (qi : QI) (qg : QG) (qb : QS) : QS := fun Dv ρ => qi ρ fun ds => forRun qg qb ds Dv ρ
theorem vs_for {tg iter : Expr} {body : List Stmt} {wi : TI} {g : TG} {tb : TS} {qi : QI} {qg : QG} {qb : QS} {ts : List Nat} (hp : PassesOwn (model X.prog X.w) X.A X.env X.xe) (hc : X.calm = true) (hi : VI .val X tg iter wi qi) (hg : VG X tg ts g qg) (hb : VSs fr X body tb qb)
    (hs : ∀ x, foldedSetIterable iter X.env x = pure x := by intro _; rfl) : VS fr X (.For tg iter body [] pos) (tFor wi g tb) (qFor qi qg qb) := by
  refine ⟨ps_for hp hc hi.pi hg.pg hb.ps hs, fun F0 H0 B F H ρ σ Dv Dh S g hq p => ?_⟩
  refine hi.sd H0 F H ρ σ _ _ S.ex hq fun J ds F1 H1 g1 s1 ok run => ?_
  refine ⟨fun i m σ' H' => ∃ F' ρ', m = ds.length - i ∧ i ≤ ds.length ∧ SlotsB X.K H0 B F' H' ρ' σ' ∧ Grow F0 H0 F' H' ∧ Sub F1 F' ∧ forRun qg qb (ds.drop i) Dv ρ',
    ⟨ds.length, F1, ρ, by simp, Nat.zero_le _, S.grow g1 s1, g.trans g1, Sub.refl _, run⟩, ?_⟩
  rintro i m σ' H' ⟨F', ρ', rfl, hi', S', g', f', run'⟩
  obtain ⟨stop, go⟩ := ok i F' H' f' S'.fh (f'.trans S'.fh)
  rcases Nat.lt_or_ge i ds.length with hlt | hge
  · have hd : ds[i]? = some ds[i] := List.getElem?_eq_getElem hlt
    obtain ⟨go1, yl⟩ := go _ hd
    rw [List.drop_eq_getElem_cons hlt] at run'
    refine .inr ⟨go1, fun σ2 H2 => ∃ F2 ρ2, SlotsB X.K H0 B F2 H2 ρ2 σ2 ∧ Grow F0 H0 F2 H2 ∧ Sub F1 F2 ∧ forRun qg qb (ds.drop (i + 1)) Dv ρ2,
      fun σ2 H2 ⟨F2, ρ2, a1, a2, a3, a4⟩ => ⟨ds.length - (i + 1), by omega, F2, ρ2, rfl, hlt, a1, a2, a3, a4⟩, fun x H3 hy => ?_⟩
    obtain ⟨F3, g3, s3, rx⟩ := yl x H3 hy
    refine hg.sd H0 B F3 H3 ρ' σ' _ x _ _ (S'.grow g3 s3) rx run' fun ρ4 σ4 S4 _ q4 => ?_
    refine hb.sd F0 H0 B F3 H3 ρ4 σ4 _ _ S4 (g'.trans g3) q4 ⟨fun F5 H5 ρ5 σ5 S5 g5 s5 q5 => ?_, fun F5 H5 ρ5 σ5 S5 g5 s5 q5 => ?_, fun F5 H5 ρ5 σ5 S5 g5 s5 q5 => ?_, p.rt⟩
    · exact ⟨F5, ρ5, S5, g5, (f'.trans g3.f).trans s5, q5⟩
    · exact p.nx F5 H5 ρ5 σ5 S5 g5 (((g1.f.trans f').trans g3.f).trans s5) q5
    · exact ⟨F5, ρ5, S5, g5, (f'.trans g3.f).trans s5, q5⟩
  · have e : i = ds.length := by omega
    refine .inl ⟨stop e, ?_⟩
    rw [e, List.drop_length] at run'
    exact p.nx F' H' ρ' σ' S' g' (g1.f.trans f') run'
/-- while -/
def whRun (qc : QT) (qb : QS) (Dv : VEnds) : Nat → Env → Prop
  | 0, _ => False
  | n + 1, ρ => qc ρ fun b => if b = true then qb { Dv with nx := whRun qc qb Dv n, ct := whRun qc qb Dv n, bk := Dv.nx } ρ else Dv.nx ρ
def qWhile (qc : QT) (qb : QS) : QS := fun Dv ρ => ∃ n, whRun qc qb Dv n ρ
theorem vs_while {c : Expr} {body : List Stmt} {tc : TT} {tb : TS} {qc : QT} {qb : QS} (hp : PassesOwn (model X.prog X.w) X.A X.env X.xe) (hc : VT X c tc qc) (hb : VSs fr X body tb qb) : VS fr X (.While c body [] pos) (tWhile tc tb) (qWhile qc qb) := by
  refine ⟨ps_while hp hc.pt hb.ps, fun F0 H0 B F H ρ σ Dv Dh S g ⟨n, run⟩ p => ?_⟩
  refine ⟨fun m σ' H' => ∃ F' ρ', SlotsB X.K H0 B F' H' ρ' σ' ∧ Grow F0 H0 F' H' ∧ Sub F F' ∧ whRun qc qb Dv m ρ', ⟨n, F, ρ, S, g, Sub.refl _, run⟩, ?_⟩
  rintro m σ' H' ⟨F', ρ', S', g', f', run'⟩
  cases m with
  | zero => exact run'.elim
  | succ m =>
    refine hc.sd H0 F' H' ρ' σ' _ _ S'.ex run' fun x F1 H1 g1 s1 q1 => ?_
    cases x with
    | false => exact p.nx F1 H1 ρ' σ' (S'.grow g1 s1) (g'.trans g1) (f'.trans g1.f) q1
    | true =>
      refine ⟨fun σ2 H2 => ∃ F2 ρ2, SlotsB X.K H0 B F2 H2 ρ2 σ2 ∧ Grow F0 H0 F2 H2 ∧ Sub F F2 ∧ whRun qc qb Dv m ρ2, fun σ2 H2 ⟨F2, ρ2, a1, a2, a3, a4⟩ => ⟨m, Nat.lt_succ_self _, F2, ρ2, a1, a2, a3, a4⟩, ?_⟩
      refine hb.sd F0 H0 B F1 H1 ρ' σ' _ _ (S'.grow g1 s1) (g'.trans g1) q1 ⟨fun F5 H5 ρ5 σ5 S5 g5 s5 q5 => ?_, fun F5 H5 ρ5 σ5 S5 g5 s5 q5 => ?_, fun F5 H5 ρ5 σ5 S5 g5 s5 q5 => ?_, p.rt⟩
      · exact ⟨F5, ρ5, S5, g5, (f'.trans g1.f).trans s5, q5⟩
      · exact p.nx F5 H5 ρ5 σ5 S5 g5 ((f'.trans g1.f).trans s5) q5
      · exact ⟨F5, ρ5, S5, g5, (f'.trans g1.f).trans s5, q5⟩

/-! ### what one's own list is done to -/
/-- xs[i] = e -/
def qSetIx (x : Nat) (qi qe : QE) : QS := fun Dv ρ => qe ρ fun d => ∃ ds, ρ[x]? = some (.own (.list ds)) ∧ qi ρ fun di => ∃ k j, di = .int k ∧ ixN ds.length k = some j ∧ Dv.nx (ρ.set x (.own (.list (ds.set j d))))
theorem vs_setIx (x : Nat) {n : Str} {ei : Expr} {ti : TE} {qi : QE} {tp p2 : Pos} (hN : X.N[x]? = some n) (hv : Vis X.env.scope n) (hi : VE .val X ei ti qi) (he : VE .val X e te q) (hd : (n == ("__debug__" : Str)) = false := by decide) (hcd : (n == ("__classdict__" : Str)) = false := by decide)
    (ha : ∀ v, assign (.Subscript (.Name n tp) ei p2) X.env v = (do
      let ov ← holding [v] (eval (.Name n tp) X.env)
      let iv ← holding [v, ov] (eval ei X.env)
      standAt p2
      holding [v, ov, iv] (setItem ov iv v)
      release [v, ov, iv] []) := by intro _; rfl)
    (hs : swapsWithSole [.Subscript (.Name n tp) ei p2] e pos.line X.env = pure false := by rfl) (hw : swappedStores [.Subscript (.Name n tp) ei p2] e X.env = pure none := by rfl)
    (h1 : (assignEach [.Subscript (.Name n tp) ei p2] X.env).map (·.2) = [assign (.Subscript (.Name n tp) ei p2) X.env] := by rfl) :
    VS fr X (.Assign [.Subscript (.Name n tp) ei p2] e pos) (tAsg te (gSub (tVar x) ti rSetL)) (qSetIx x qi q) := by
  refine ⟨ps_asg he.pe (pg_sub (pe_var hN hv hd hcd) hi.pe set_list ha) hs hw h1, fun F0 H0 B F H ρ σ Dv Dh S g hq p => ?_⟩
  refine he.sd H0 F H ρ σ _ _ S.ex hq fun v d F1 H1 g1 s1 r1 ⟨ds, h1, q1⟩ => ?_
  have S1 := S.grow g1 s1
  obtain ⟨a, hx, _⟩ := slot_own S1 h1
  refine ⟨.ref a, hx, hi.sd H0 F1 H1 ρ σ _ _ S1.ex q1 fun v2 di F2 H2 g2 s2 r2 ⟨k, j, e2, hj, q2⟩ => ?_⟩
  subst e2
  have S2 := S1.grow g2 s2
  obtain ⟨a', hx', f, h0, xs, hA, ra⟩ := slot_own S2 h1
  rw [hx] at hx'
  cases hx'
  refine ⟨a, xs, k, j, rfl, r2, hA, by rw [ra.len]; exact hj, ?_⟩
  have gg := (g.trans g1).trans g2
  exact p.nx F2 _ _ _ (S2.mut (o := .lst (xs.set j v)) h1 hx (show OwnAt X.K F2 _ a (.list (ds.set j d)) from ⟨_, upd_same, ra.set j (r1.mono g2.f)⟩)) ⟨gg.f, gg.h.updR h0, gg.n⟩ (g1.f.trans g2.f) q2
/-- a method of one's own list, as a statement: f tells the new items -/
def OpM (X : Cx) (id : String) (f : List D → List D → Option (List D)) (r : V → List V → Hp → VK → Prop) : Prop :=
  ∀ (F H : Hp) (a : Addr) (ds as ds' : List D) (xs vs : List V) (Q : VK), Sub F H → H a = some (.lst xs) → RpA X.K F ds xs → RpA X.K F as vs → f ds as = some ds' →
    (∀ xs' v, RpA X.K F ds' xs' → Q v (upd H a (.lst xs'))) → r (.ref a) vs H Q
def qMeth (x : Nat) (f : List D → List D → Option (List D)) (qA : QA) : QS := fun Dv ρ => ∃ ds, ρ[x]? = some (.own (.list ds)) ∧ qA ρ fun as => ∃ ds', f ds as = some ds' ∧ Dv.nx (ρ.set x (.own (.list ds')))
theorem vs_meth (x : Nat) {n name : Str} {id : String} {es : List Expr} {tA : TA} {qA : QA} {r : V → List V → Hp → VK → Prop} {f : List D → List D → Option (List D)} {tp apos cpos : Pos} (hN : X.N[x]? = some n) (hv : Vis X.env.scope n) (slot : Slot "list" name id) (hty : typeOf (.builtin id) = pure (.type "method_descriptor"))
    (hm : MtR X id r) (ho : OpM X id f r) (ha : VA .val X (e :: es) tA qA) (hd : (n == ("__debug__" : Str)) = false := by decide) (hcd : (n == ("__classdict__" : Str)) = false := by decide)
    (hbase : attributeBase (.Name n tp) name X.env (eval (.Name n tp) X.env) = eval (.Name n tp) X.env := by rfl)
    (hfew : ((backTo cpos (starEach (e :: es) X.env)).all (fun x => !x.1) && (backToKw cpos (keywordEach [] X.env)).all (fun x => x.1.isSome)
      && decide ((e :: es).length + ([] : List Keyword).length + (if ([] : List Keyword).isEmpty then 0 else 1) < 30)) = true := by rfl)
    (hline : (apos.endLine == cpos.line) = true := by rfl) (hs : starEach (e :: es) X.env = (false, eval e X.env) :: starEach es X.env := by rfl) (hplain : (backTo cpos (starEach es X.env)).any (·.1) = false := by rfl)
    (hsw : swapsWith (.Call (.Attribute (.Name n tp) name apos) (e :: es) [] cpos) none pos.line X.env = pure false := by rfl) :
    VS fr X (.Expr (.Call (.Attribute (.Name n tp) name apos) (e :: es) [] cpos) pos) (tDrop (tBM X.K "list" r (tVar x) tA)) (qMeth x f qA) := by
  refine ⟨ps_expr (pe_bm PySem.F.plainAttrs_list slot hty hm (pe_var hN hv hd hcd) ha.pa hbase hfew hline hs hplain) hsw, fun F0 H0 B F H ρ σ Dv Dh S g ⟨ds, h1, hq⟩ p => ?_⟩
  obtain ⟨a, hx, f0, h0, xs0, hA0, ra0⟩ := slot_own S h1
  refine ⟨.ref a, hx, .inl ⟨rfl, xs0, SqL.of hA0⟩, ?_⟩
  refine ha.sd H0 F H ρ σ _ _ S.ex hq fun vs as F1 H1 g1 s1 ln r1 ⟨ds', e1, q1⟩ => ?_
  have S1 := S.grow g1 s1
  obtain ⟨a', hx', f, hh0, xs, hA, ra⟩ := slot_own S1 h1
  rw [hx] at hx'
  cases hx'
  refine ho F1 H1 a ds as ds' xs vs _ s1 hA ra r1.vals e1 fun xs' v r' => ?_
  have gg := g.trans g1
  exact p.nx F1 _ _ _ (S1.mut (o := .lst xs') h1 hx (show OwnAt X.K F1 _ a (.list ds') from ⟨_, upd_same, r'⟩)) ⟨gg.f, gg.h.updR hh0, gg.n⟩ g1.f q1
def fAppend (ds as : List D) : Option (List D) := match as with
  | [d] => if ds.length < sizeLine then some (ds ++ [d]) else none
  | _ => none
theorem opM_append : OpM X "list.append" fAppend rAppend := by
  intro F H a ds as ds' xs vs Q sb hA ra rb e k
  unfold fAppend at e
  split at e
  · rename_i d
    split at e
    · rename_i hl
      cases e
      obtain ⟨x, r, ev, rx, rr⟩ := rb
      cases rr
      exact ⟨a, xs, x, rfl, ev, hA, by rw [ra.len]; exact hl, k _ _ (ra.snoc rx)⟩
    · cases e
  · cases e
/-- remove(d) of data without dicts -/
def fRemove (ds as : List D) : Option (List D) := match as with
  | [d] => if flatD d = true ∧ flatD (.list ds) = true ∧ ds.length ≤ sizeLine then (PySem.SeqAt.dataPlace ds d).map ds.eraseIdx else none
  | _ => none
def rRemD (K : PySem.W.Frag) : V → List V → Hp → VK → Prop := fun x vs H Q => ∃ F a ds as ds' xs, x = .ref a ∧ Sub F H ∧ H a = some (.lst xs) ∧ RpA K F ds xs ∧ RpA K F as vs ∧ fRemove ds as = some ds' ∧ ∀ xs' v, RpA K F ds' xs' → Q v (upd H a (.lst xs'))
theorem opM_remove : OpM X "list.remove" fRemove (rRemD X.K) := fun F H a ds as ds' xs vs Q sb hA ra rb e k => ⟨F, a, ds, as, ds', xs, rfl, sb, hA, ra, rb, e, k⟩
theorem mt_remD (hu : X.A.units + 100 < cLine) : MtR X "list.remove" (rRemD X.K) := by
  intro pins s σ H x vs v us Q I rx rvs ⟨F, a, ds, as, ds', xs, ex, sb, hA, ra, rb, e, k⟩
  subst ex
  unfold fRemove at e
  split at e
  · rename_i d
    split at e
    · rename_i hc
      obtain ⟨p1, d1⟩ := flatD_iff.mp hc.1
      obtain ⟨p2, d2⟩ := flatD_iff.mp hc.2.1
      cases ej : PySem.SeqAt.dataPlace ds d with
      | none => rw [ej] at e; cases e
      | some j =>
        rw [ej] at e
        cases e
        obtain ⟨y, r, ev, ry, rr⟩ := rb
        cases rr
        subst ev
        cases rx
        obtain ⟨u, eu, ru⟩ := vals1 rvs
        subst eu
        obtain ⟨z, its, n, rv, hl, ho⟩ := I.lstM hA
        obtain ⟨as1, hr⟩ := RpA.reads I sb (by simpa [PyData.plain] using p2) ra rv
        obtain ⟨as2, hr2⟩ := Rp.reads I sb p1 ry ru
        have hdp : PyData.depth (.list ds) = PyData.depthAll ds + 1 := by simp [PyData.depth]
        refine PySem.SeqAt.remove_list_data (vs := its.toArray) ⟨_, ho, rfl, n, rfl⟩ (by simpa using hr) hr2 (by simpa [PyData.plain] using p2) p1 (by have := Nat.min_le_right (PyData.depthAll ds) d.depth; omega) ej (by rw [List.size_toArray]; omega) ?_
        refine ⟨.non, _, I.lset (t' := s.toks) (its' := its.eraseIdx j) (ys := xs.eraseIdx j) (f := fun ys => ys.eraseIdxIfInBounds j) hA ho ?_ (rv.eraseIdx j) ?_, rfl, k _ _ (ra.erase j)⟩
        · simp
        · exact Nat.le_trans (List.length_eraseIdx_le _ _) z
    · cases e
  · cases e
/-! ### what one's own is frozen, lent -/
def qFrz (i : Nat) (q : QS) : QS := fun Dv ρ => ∃ d, ρ[i]? = some (.own d) ∧ q Dv (ρ.set i (.val d))
theorem sndFrz {K : PySem.W.Frag} {i : Nat} (h : SndS K fr t qs) : SndS K fr t (qFrz i qs) := by
  intro F0 H0 B F H ρ σ Dv Dh S g ⟨d, h1, hq⟩ p
  obtain ⟨a, hx, f, h0, o⟩ := slot_own S h1
  obtain ⟨u, hu⟩ := o.there
  have sF : Sub F (upd F a u) := Sub.upd f
  have sH : Sub (upd F a u) H := fun b w q => by
    by_cases hb : b = a
    · subst hb; rw [upd_same] at q; cases q; exact hu
    · rw [upd_ne hb] at q; exact S.fh _ _ q
  have gg : Grow F0 H0 (upd F a u) H := ⟨g.f.trans sF, g.h, fun b q => by
    by_cases hb : b = a
    · subst hb; exact .inr h0
    · rw [upd_ne hb] at q; exact g.n b q⟩
  refine h F0 H0 B (upd F a u) H (ρ.set i (.val d)) σ Dv Dh ⟨S.h0, S.bf.trans sF, sH, by simp [S.len], fun j s x q1 q2 => ?_, fun j k d1 e1 a1 q1 q2 q3 q4 => ?_⟩ gg hq (p.weak sF)
  · rcases nth_set q1 with ⟨rfl, rfl, _⟩ | ⟨n1, q1⟩
    · rw [hx] at q2; cases q2
      exact ⟨_, rfl, o.frz sF fun w hw => by rw [hu] at hw; cases hw; exact upd_same⟩
    · have q := S.ok j s x q1 q2
      cases s with
      | no => trivial
      | scr ns => exact q
      | val d => obtain ⟨v, e, r⟩ := q; exact ⟨v, e, r.mono sF⟩
      | old d => exact q
      | own d1 =>
        obtain ⟨b, e, f', h0', o1⟩ := q
        subst e
        have ne : b ≠ a := fun z => by
          subst z
          exact n1 (S.sep i j d d1 b h1 q1 hx q2)
        exact ⟨b, rfl, by rw [upd_ne ne]; exact f', h0', o1.mono sF fun _ q => q⟩
      | bor d1 =>
        obtain ⟨b, e, f', h0', fe, o1⟩ := q
        have ne : b ≠ a := fun z => by
          subst z
          obtain ⟨w, hw⟩ := o1.there
          rw [f, hw] at fe
          cases fe
        exact ⟨b, e, f', h0', by rw [upd_ne ne]; exact fe, o1⟩
  · rcases nth_set q1 with ⟨_, e2, _⟩ | ⟨n1, q1⟩
    · cases e2
    · rcases nth_set q2 with ⟨_, e3, _⟩ | ⟨n2, q2⟩
      · cases e3
      · exact S.sep j k d1 e1 a1 q1 q2 q3 q4
/-- from here on name i is frozen -/
theorem vss_frz (i : Nat) (h : VSs fr X a t qs) : VSs fr X a t (qFrz i qs) := ⟨h.ps, sndFrz h.sd⟩
theorem vs_frz (i : Nat) (h : VS fr X st t qs) : VS fr X st t (qFrz i qs) := ⟨h.ps, sndFrz h.sd⟩
/-- name i is lent for a statement: it is frozen within, and one's own again behind; what came meanwhile is forgotten, unless it is no object -/
def lend (i : Nat) (d : D) (ρ : Env) : Env := (ρ.map fun s => match s with | .val d => .old d | s => s).set i (.bor d)
def unlend (ρ : Env) : Env := ρ.map fun s => match s with | .old d => .val d | .bor d => .own d | .val d => if isSc d = true then .val d else .no | .scr ns => .scr ns | _ => .no
/-- no other thing of one's own, nothing lent -/
def lendOk (i : Nat) (ρ : Env) : Bool := (List.range ρ.length).all fun j => j == i || (match ρ[j]? with | some (.own _) => false | some (.bor _) => false | some (.old _) => false | _ => true)
def borOk (i : Nat) (ρ : Env) : Bool := (List.range ρ.length).all fun j => j == i || (match ρ[j]? with | some (.bor _) => false | _ => true)
def qLend (i : Nat) (q : QS) : QS := fun Dv ρ => ∃ d, ρ[i]? = some (.own d) ∧ lendOk i ρ = true ∧ q { nx := fun ρ' => borOk i ρ' = true ∧ Dv.nx (unlend ρ'), rt := Dv.rt } (lend i d ρ)
theorem sndLend {K : PySem.W.Frag} {i : Nat} (h : SndS K fr t qs) : SndS K fr t (qLend i qs) := by
  intro F0 H0 B F H ρ σ Dv Dh S g ⟨d, h1, hok, hq⟩ p
  obtain ⟨a, hx, f, h0, o⟩ := slot_own S h1
  obtain ⟨u, hu⟩ := o.there
  have others : ∀ (j : Nat) s, j ≠ i → ρ[j]? = some s → (∀ e, s ≠ .own e) ∧ (∀ e, s ≠ .bor e) ∧ ∀ e, s ≠ .old e := fun j s hj hs => by
    unfold lendOk at hok
    rw [List.all_eq_true] at hok
    have hl : j < ρ.length := (List.getElem?_eq_some_iff.mp hs).1
    have := hok j (List.mem_range.mpr hl)
    rw [hs] at this
    have nj : (j == i) = false := beq_eq_false_iff_ne.mpr hj
    rw [nj, Bool.false_or] at this
    refine ⟨fun e z => ?_, fun e z => ?_, fun e z => ?_⟩ <;> (subst z; cases this)
  have sF : Sub F (upd F a u) := Sub.upd f
  have sH : Sub (upd F a u) H := fun b w q => by
    by_cases hb : b = a
    · subst hb; rw [upd_same] at q; cases q; exact hu
    · rw [upd_ne hb] at q; exact S.fh _ _ q
  have gg : Grow F0 H0 (upd F a u) H := ⟨g.f.trans sF, g.h, fun b q => by
    by_cases hb : b = a
    · subst hb; exact .inr h0
    · rw [upd_ne hb] at q; exact g.n b q⟩
  have hgetL : ∀ (j : Nat) s, (lend i d ρ)[j]? = some s → (j = i ∧ s = .bor d) ∨ (j ≠ i ∧ ∃ s0, ρ[j]? = some s0 ∧ s = (match s0 with | .val d => Sl.old d | s => s)) := fun j s hs => by
    unfold lend at hs
    rcases nth_set hs with ⟨e, e2, _⟩ | ⟨n1, hs⟩
    · exact .inl ⟨e.symm, e2⟩
    · rw [List.getElem?_map] at hs
      cases z : ρ[j]? with
      | none => rw [z] at hs; cases hs
      | some s0 => rw [z] at hs; cases hs; exact .inr ⟨Ne.symm n1, s0, rfl, rfl⟩
  refine h F0 H0 F (upd F a u) H (lend i d ρ) σ _ Dh ⟨S.h0, sF, sH, by unfold lend; simp [S.len], fun j s x q1 q2 => ?_, fun j k d1 e1 a1 q1 q2 q3 q4 => ?_⟩ gg hq ⟨fun F' H' ρ' σ' S' g' s' q' => ?_, fun _ _ _ _ _ _ _ z => z.elim, fun _ _ _ _ _ _ _ z => z.elim, fun d2 v F' H' s' g' r' q' => p.rt d2 v F' H' s' g' r' q'⟩
  · rcases hgetL j s q1 with ⟨rfl, rfl⟩ | ⟨nj, s0, e0, rfl⟩
    · rw [hx] at q2; cases q2
      exact ⟨a, rfl, f, h0, by rw [upd_same, hu], o⟩
    · have q := S.ok j s0 x e0 q2
      obtain ⟨n1, n2, n3⟩ := others j s0 nj e0
      cases s0 with
      | no => trivial
      | scr ns => exact q
      | val d => exact q
      | old d => exact absurd rfl (n3 d)
      | own d => exact absurd rfl (n1 d)
      | bor d => exact absurd rfl (n2 d)
  · rcases hgetL j _ q1 with ⟨_, z⟩ | ⟨nj, s0, e0, z⟩
    · cases z
    · obtain ⟨n1, n2, n3⟩ := others j s0 nj e0
      cases s0 with
      | own d => exact absurd rfl (n1 d)
      | _ => cases z
  · -- the way back
    have hgetU : ∀ (j : Nat) s, (unlend ρ')[j]? = some s → ∃ s0, ρ'[j]? = some s0 ∧ s = (match s0 with | .old d => Sl.val d | .bor d => .own d | .val d => if isSc d = true then .val d else .no | .scr ns => .scr ns | _ => .no) := fun j s hs => by
      unfold unlend at hs
      rw [List.getElem?_map] at hs
      cases z : ρ'[j]? with
      | none => rw [z] at hs; cases hs
      | some s0 => rw [z] at hs; cases hs; exact ⟨s0, rfl, rfl⟩
    obtain ⟨bk, q'⟩ := q'
    have one : ∀ (j : Nat) e, ρ'[j]? = some (.bor e) → j = i := fun j e hs => by
      unfold borOk at bk
      rw [List.all_eq_true] at bk
      have hl : j < ρ'.length := (List.getElem?_eq_some_iff.mp hs).1
      have := bk j (List.mem_range.mpr hl)
      rw [hs, Bool.or_false] at this
      exact beq_iff_eq.mp this
    refine p.nx F H' (unlend ρ') σ' ⟨S'.h0, S.bf, S'.bf.trans S'.fh, by unfold unlend; simp [S'.len], fun j s x q1 q2 => ?_, fun j k d1 e1 a1 q1 q2 q3 q4 => ?_⟩ ⟨g.f, g'.h, g.n⟩ (Sub.refl _) q'
    · obtain ⟨s0, e0, rfl⟩ := hgetU j s q1
      have q := S'.ok j s0 x e0 q2
      cases s0 with
      | no => trivial
      | scr ns => exact q
      | val d =>
        dsimp only
        by_cases sc : isSc d = true
        · rw [if_pos sc]
          obtain ⟨v, e, r⟩ := q
          exact ⟨v, e, isSc.any sc r⟩
        · rw [if_neg sc]; trivial
      | old d => exact q
      | own d => trivial
      | bor d =>
        obtain ⟨b, e, f', h0', fe, o1⟩ := q
        exact ⟨b, e, f', h0', o1⟩
    · have bor : ∀ (j : Nat) d, (unlend ρ')[j]? = some (.own d) → j = i := fun j d hs => by
        obtain ⟨s0, e0, z⟩ := hgetU j _ hs
        cases s0 with
        | bor d => exact one j d e0
        | no => cases z
        | scr ns => cases z
        | val d => dsimp only at z; split at z <;> cases z
        | old d => cases z
        | own d => cases z
      rw [bor j d1 q1, bor k e1 q2]
theorem vs_lend (i : Nat) (h : VS fr X st t qs) : VS fr X st t (qLend i qs) := ⟨h.ps, sndLend h.sd⟩
end
end VL
namespace VL
open PySem PySem.Spec PyProof.Rows L2

/-! ### a def's promise over data: S tells which answer which data have -/
abbrev Spec := List D → D → Prop
def SpV (K : PySem.W.Frag) (fr : Bool) (S : Spec) : Sp := fun vs H Q _ => ∃ F ds d, Sub F H ∧ RpA K F ds vs ∧ S ds d ∧ ∀ v F' H', Grow F H F' H' → Sub F' H' → Res K H F' H' d v (rMd fr) → Q v H'
section
variable {X : Cx} {fr : Bool} {CX : CXT} {E : XK} {e : Expr} {es : List Expr} {tA : TA} {qA : QA} {pos p : Pos} {x : Str} {k : Nat} {f : Addr} {fd : FuncData} {ps : List Str} {S : Spec}
def qCall (S : Spec) (qA : QA) : QE := fun ρ P => qA ρ fun ds => ∃ d, S ds d ∧ P d
theorem ve_call (F : FnOk X.prog X.w X.K X.mg X.base CX k f fd ps (SpV X.K fr S)) (hr : Room k X.A) (hg : Gl X x) (hm : X.mg x = some (.ref f)) (hk : PySem.W.keepIn X.K (.ref f) = true) (hb : Binds X.K fd ps []) (hx : Passes CX X E)
    (ha : VA .val X (e :: es) tA qA) (hdb : (x == ("__debug__" : Str)) = false := by decide) (he : starEach (e :: es) X.env = (false, eval e X.env) :: starEach es X.env := by rfl) (hpl : (backTo pos (starEach es X.env)).any (·.1) = false := by rfl) :
    VE (rMd fr) X (.Call (.Name x p) (e :: es) [] pos) (tCall (SpV X.K fr S) [] E tA) (qCall S qA) := by
  refine ⟨pe_call F hr hg hm hk hb .nil hx ha.pa hdb he hpl, fun H0 F H ρ σ P Q S' hq kk => ?_⟩
  refine ha.sd H0 F H ρ σ _ _ S' hq fun vs ds F1 H1 g1 s1 ln r1 ⟨d, hs, pd⟩ => ?_
  refine ⟨F1, ds, d, s1, by rw [List.append_nil]; exact r1.vals, hs, fun v F2 H2 g2 s2 r2 => kk v d F2 H2 (g1.trans g2) s2 ?_ pd⟩
  cases fr with
  | false => exact r2
  | true =>
    rcases r2 with r2 | ⟨a, ev, h0, f, o⟩
    · exact .inl r2
    · exact .inr ⟨a, ev, g1.h.none h0, f, o⟩
/-- arguments that are only looked at: what comes back holds no objects but itself -/
def scD : Bool → D → Bool
  | true, .list ds => ds.all isSc
  | _, d => isSc d
def qCallL (fr : Bool) (S : Spec) (qA : QA) : QE := fun ρ P => qA ρ fun ds => ∃ d, S ds d ∧ scD fr d = true ∧ P d
theorem ResA.full {K : PySem.W.Frag} {F H : Hp} (sb : Sub F H) : ∀ {ds : List D} {vs : List V}, ResA K F H ds vs .look → RpA K H ds vs
  | [], _, h => h
  | _ :: _, _, ⟨x, r, e, h, q⟩ => ⟨x, r, e, by
      rcases h with h | ⟨a, ev, o⟩
      · exact h.mono sb
      · subst ev; exact o.frz sb fun _ q => q, ResA.full sb q⟩
theorem RpA.sc {K : PySem.W.Frag} {F G : Hp} : ∀ {ds : List D} {xs : List V}, ds.all isSc = true → RpA K F ds xs → RpA K G ds xs
  | [], _, _, h => h
  | d :: ds, _, c, ⟨x, r, e, h, q⟩ => by
    rw [List.all_cons, Bool.and_eq_true] at c
    exact ⟨x, r, e, isSc.any c.1 h, RpA.sc c.2 q⟩
theorem ve_callL (F : FnOk X.prog X.w X.K X.mg X.base CX k f fd ps (SpV X.K fr S)) (hr : Room k X.A) (hg : Gl X x) (hm : X.mg x = some (.ref f)) (hk : PySem.W.keepIn X.K (.ref f) = true) (hb : Binds X.K fd ps []) (hx : Passes CX X E)
    (ha : VA .look X (e :: es) tA qA) (hdb : (x == ("__debug__" : Str)) = false := by decide) (he : starEach (e :: es) X.env = (false, eval e X.env) :: starEach es X.env := by rfl) (hpl : (backTo pos (starEach es X.env)).any (·.1) = false := by rfl) :
    VE (rMd fr) X (.Call (.Name x p) (e :: es) [] pos) (tCall (SpV X.K fr S) [] E tA) (qCallL fr S qA) := by
  refine ⟨pe_call F hr hg hm hk hb .nil hx ha.pa hdb he hpl, fun H0 F H ρ σ P Q S' hq kk => ?_⟩
  refine ha.sd H0 F H ρ σ _ _ S' hq fun vs ds F1 H1 g1 s1 ln r1 ⟨d, hs, sc, pd⟩ => ?_
  refine ⟨H1, ds, d, Sub.refl _, by rw [List.append_nil]; exact r1.full s1, hs, fun v F2 H2 g2 s2 r2 => kk v d F1 H2 (g1.trans ⟨Sub.refl _, g2.h, fun _ z => .inl z⟩) (s1.trans g2.h) ?_ pd⟩
  cases fr with
  | false =>
    have sc' : isSc d = true := by cases d <;> exact sc
    exact isSc.any sc' r2
  | true =>
    rcases r2 with ⟨sc', r2⟩ | ⟨a, ev, h0, f, o⟩
    · exact .inl ⟨sc', isSc.any sc' r2⟩
    · refine .inr ⟨a, ev, g1.h.none h0, s1.none h0, ?_⟩
      cases d with
      | list ds =>
        obtain ⟨xs, h, q⟩ := o
        exact ⟨xs, h, RpA.sc sc q⟩
      | dict es => cases sc
      | none => exact o.elim
      | bool => exact o.elim
      | int => exact o.elim
      | str => exact o.elim
      | tuple => exact o.elim
end

/-! ### a def keeps its promise -/
def startV (N : List Str) (ds : List D) : Env := ds.map .val ++ List.replicate (N.length - ds.length) .no
theorem RpA.at_ {K : PySem.W.Frag} {F : Hp} : ∀ {ds : List D} {xs : List V} {i : Nat} {x : V}, RpA K F ds xs → xs[i]? = some x → ∃ d, ds[i]? = some d ∧ Rp K F d x
  | [], _, _, _, h, e => by cases h; simp at e
  | d :: _, _, 0, _, ⟨x, r, e, h, q⟩, e2 => by subst e; simp at e2; subst e2; exact ⟨d, by simp, h⟩
  | _ :: _, _, i + 1, _, ⟨x, r, e, h, q⟩, e2 => by
    subst e
    obtain ⟨d, h1, h2⟩ := RpA.at_ (i := i) q (by simpa using e2)
    exact ⟨d, by simpa using h1, h2⟩
theorem slots_start {K : PySem.W.Frag} {F H : Hp} {N : List Str} {ds : List D} {vs : List V} (sb : Sub F H) (r : RpA K F ds vs) : SlotsB K H F F H (startV N ds) (L2.start N vs) := by
  have hl := r.len
  have noOwn : ∀ (i : Nat) d, (startV N ds)[i]? ≠ some (.own d) := fun i d h => by
    unfold startV at h
    rcases Nat.lt_or_ge i ds.length with q | q
    · rw [List.getElem?_append_left (by simpa using q), List.getElem?_map] at h
      cases z : ds[i]? with
      | none => rw [z] at h; cases h
      | some w => rw [z] at h; cases h
    · rw [List.getElem?_append_right (by simpa using q)] at h
      have := List.mem_of_getElem? h
      have := List.eq_of_mem_replicate this
      cases this
  refine ⟨Sub.refl _, Sub.refl _, sb, by unfold startV L2.start; simp [hl], fun i s x h1 h2 => ?_, fun i j d e a h1 => absurd h1 (noOwn i d)⟩
  unfold startV at h1
  rcases Nat.lt_or_ge i ds.length with q | q
  · rw [List.getElem?_append_left (by simpa using q), List.getElem?_map] at h1
    cases z : ds[i]? with
    | none => rw [z] at h1; cases h1
    | some w =>
      rw [z] at h1
      cases h1
      obtain ⟨v, hv, rv⟩ := r.get z
      unfold L2.start at h2
      rw [List.getElem?_append_left (by simpa [hl] using q), List.getElem?_map, hv] at h2
      cases h2
      exact ⟨v, rfl, rv⟩
  · rw [List.getElem?_append_right (by simpa using q)] at h1
    have := List.mem_of_getElem? h1
    have := List.eq_of_mem_replicate this
    subst this
    trivial
/-- what the reading of a body has to give for the promise -/
def Keeps (q : QS) (N : List Str) (n : Nat) (S : Spec) : Prop := ∀ ds d, S ds d → ds.length = n ∧ q { nx := fun _ => d = .none, rt := fun r => r = d } (startV N ds)
theorem sp_start {K : PySem.W.Frag} {fr : Bool} {S : Spec} {N : List Str} {n : Nat} {q : QS} {t : TS} (hk : Keeps q N n S) (sd : SndS K fr t q) {vs : List V} {H : Hp} {Q : VK} {E : XK} (h : SpV K fr S vs H Q E) : t { nx := fun _ H' => Q .non H', rt := Q } (L2.start N vs) H := by
  obtain ⟨F, ds, d, sb, r, hs, k⟩ := h
  obtain ⟨_, hq⟩ := hk ds d hs
  refine sd F H F F H (startV N ds) (L2.start N vs) _ _ (slots_start sb r) (Grow.refl _ _) hq ⟨fun F' H' ρ' σ' S' g' s' e => ?_, fun _ _ _ _ _ _ _ z => z.elim, fun _ _ _ _ _ _ _ z => z.elim, fun d2 v F' H' s' g' r' e => ?_⟩
  · subst e
    exact k .non F' H' g' S'.fh (resSc rfl rfl)
  · subst e
    exact k v F' H' g' s' r'
section
variable {P : Program} {w : World} {K : PySem.W.Frag} {mg : Str → Option Value} {base : Heap} {x qual : Str} {params : Arguments} {body : List Stmt} {scope : Scope} {dvs : List V} {kws : List (Str × V)} {f : Addr} {fd : FuncData}
theorem fnV {fr : Bool} {S : Spec} {N ps : List Str} {k : Nat} {q : QS} (F : FunD K x qual params body scope dvs kws f fd) (Sc : FnScope N ps scope) (hk : Keeps q N ps.length S)
    (hb : ∀ (cdv : Value) (A : Around) (outer : List PySem.Env) (s : Shared) (H : Hp) (E : XK), Room k (A.deeper (envOfC qual scope s.heap.objs.size f cdv)) → ∃ t, VSs fr (cxOf CX0 P w K mg base N qual scope f cdv A outer s H E).nox body t q) :
    FnOk P w K mg base CX0 (k + 1) f fd ps (SpV K fr S) := by
  refine F.ok Sc (fun vs H Q E ⟨F, ds, d, sb, r, hs, _⟩ => by rw [r.len]; exact (hk ds d hs).1) fun cdv A outer s H vs Q E hr h => ?_
  obtain ⟨t, b⟩ := hb cdv A outer s H E hr
  exact ⟨t, b.ps.nox, sp_start hk b.sd h⟩
end

/-! ### the script: read by its length and its items -/
section
variable {X : Cx} {md : Md} {fr : Bool} {CX : CXT} {E : XK} {e b : Expr} {tb : TE} {qb : QE} {pos p pp : Pos} {x n : Str} {k : Nat} {f : Addr} {fd : FuncData} {ps : List Str}
theorem slot_scr {K : PySem.W.Frag} {H0 F H : Hp} {ρ : Env} {σ : St} {i : Nat} {ns : List Int} (S : Slots K H0 F H ρ σ) (h : ρ[i]? = some (.scr ns)) : ∃ a, σ[i]? = some (some (.ref a)) ∧ SqL K H a (ns.map V.int) := by
  obtain ⟨B, S⟩ := S
  obtain ⟨x, hx⟩ := slot_at S.len h
  obtain ⟨a, e, q⟩ := S.ok i _ x h hx
  subst e
  refine ⟨a, hx, ?_⟩
  rcases q with q | q
  · exact .inl (S.h0.rd q)
  · exact .inr q
def qLenS (i : Nat) : QE := fun ρ P => ∃ ns : List Int, ρ[i]? = some (.scr ns) ∧ P (.int ns.length)
theorem ve_lenS (i : Nat) (hN : X.N[i]? = some n) (hv : Vis X.env.scope n) (hg : Gl X x) (hm : X.mg x = none) (hb : bootBuiltins x = some (.builtin "len")) (hd : (n == ("__debug__" : Str)) = false := by decide) (hcd : (n == ("__classdict__" : Str)) = false := by decide) (hn : x ≠ "__name__" := by decide) (hdb : (x == ("__debug__" : Str)) = false := by decide)
    (he : starEach [.Name n pp] X.env = (false, eval (.Name n pp) X.env) :: starEach [] X.env := by rfl) (hpl : (backTo pos (starEach [] X.env)).any (·.1) = false := by rfl) :
    VE .val X (.Call (.Name x p) [.Name n pp] [] pos) (tCB (fun xs H Q => ∃ x n, xs = [x] ∧ LenV X.K x H n ∧ Q (.int n) H) (tCons (tVar i) tNil)) (qLenS i) :=
  ⟨pe_callB call_len hg hm hb (pa_cons (pe_var hN hv hd hcd) pa_nil he) hn hdb he hpl, fun H0 F H ρ σ P Q S ⟨ns, h, q⟩ kk => by
    obtain ⟨a, hx, hs⟩ := slot_scr S h
    exact ⟨.ref a, hx, .ref a, ns.length, rfl, .inl ⟨_, hs, by simp⟩, kk _ (.int ns.length) F H (Grow.refl _ _) S.fh rfl q⟩⟩
def qIxS (i : Nat) (qb : QE) : QE := fun ρ P => ∃ ns : List Int, ρ[i]? = some (.scr ns) ∧ qb ρ fun d => ∃ j z, d = .int j ∧ atI ns j = some z ∧ P (.int z)
theorem atI_map {α β : Type} {f : α → β} {xs : List α} {i : Int} {v : α} (h : atI xs i = some v) : atI (xs.map f) i = some (f v) := by
  unfold atI at h ⊢
  rw [List.length_map]
  cases e : ixN xs.length i with
  | none => rw [e] at h; cases h
  | some j =>
    rw [e] at h
    simp only [Option.bind_some] at h ⊢
    rw [List.getElem?_map, h]; rfl
theorem ve_ixS (i : Nat) (hN : X.N[i]? = some n) (hv : Vis X.env.scope n) (hb : VE .val X b tb qb) (hs : PlainIx b := by exact fun _ _ => rfl) (hd : (n == ("__debug__" : Str)) = false := by decide) (hcd : (n == ("__classdict__" : Str)) = false := by decide) :
    VE .val X (.Subscript (.Name n pp) b pos) (tOp (rIxL X.K) (tVar i) tb) (qIxS i qb) :=
  ⟨pe_ix ix_list (pe_var hN hv hd hcd) hb.pe hs, fun H0 F H ρ σ P Q S ⟨ns, h, q⟩ kk => by
    obtain ⟨a, hx, hsq⟩ := slot_scr S h
    refine ⟨.ref a, hx, hb.sd H0 F H ρ σ _ _ S q fun v d F1 H1 g1 s1 r1 ⟨j, z, ed, hz, pz⟩ => ?_⟩
    subst ed
    have hs1 : SqL X.K H1 a (ns.map V.int) := by
      rcases hsq with q | q
      · exact .inl (g1.h.rd q)
      · exact .inr q
    exact ⟨a, _, j, .int z, rfl, r1, hs1, atI_map hz, kk _ (.int z) F1 H1 g1 s1 rfl pz⟩⟩
/-- a def of the script alone -/
def SpScr (K : PySem.W.Frag) (fr : Bool) (S : List Int → D → Prop) : Sp := fun vs H Q _ => ∃ F a ns d, Sub F H ∧ vs = [.ref a] ∧ SqL K H a (ns.map V.int) ∧ S ns d ∧ ∀ v F' H', Grow F H F' H' → Sub F' H' → Res K H F' H' d v (rMd fr) → Q v H'
def qCallS (i : Nat) (S : List Int → D → Prop) : QE := fun ρ P => ∃ ns : List Int, ρ[i]? = some (.scr ns) ∧ ∃ d, S ns d ∧ P d
theorem ve_callS (i : Nat) {S : List Int → D → Prop} (F : FnOk X.prog X.w X.K X.mg X.base CX k f fd ps (SpScr X.K fr S)) (hN : X.N[i]? = some n) (hv : Vis X.env.scope n) (hr : Room k X.A) (hg : Gl X x) (hm : X.mg x = some (.ref f)) (hk : PySem.W.keepIn X.K (.ref f) = true) (hb : Binds X.K fd ps []) (hx : Passes CX X E)
    (hd : (n == ("__debug__" : Str)) = false := by decide) (hcd : (n == ("__classdict__" : Str)) = false := by decide) (hdb : (x == ("__debug__" : Str)) = false := by decide)
    (he : starEach [.Name n pp] X.env = (false, eval (.Name n pp) X.env) :: starEach [] X.env := by rfl) (hpl : (backTo pos (starEach [] X.env)).any (·.1) = false := by rfl) :
    VE (rMd fr) X (.Call (.Name x p) [.Name n pp] [] pos) (tCall (SpScr X.K fr S) [] E (tCons (tVar i) tNil)) (qCallS i S) :=
  ⟨pe_call F hr hg hm hk hb .nil hx (pa_cons (pe_var hN hv hd hcd) pa_nil he) hdb he hpl, fun H0 F H ρ σ P Q S' ⟨ns, h, d, hs, pd⟩ kk => by
    obtain ⟨a, hx, hsq⟩ := slot_scr S' h
    exact ⟨.ref a, hx, F, a, ns, d, S'.fh, rfl, hsq, hs, fun v F2 H2 g2 s2 r2 => kk v d F2 H2 g2 s2 r2 pd⟩⟩
end
def startS (N : List Str) (ns : List Int) : Env := .scr ns :: List.replicate (N.length - 1) .no
theorem slots_startS {K : PySem.W.Frag} {F H : Hp} {N : List Str} {a : Addr} {ns : List Int} (sb : Sub F H) (r : SqL K H a (ns.map V.int)) (hN : 1 ≤ N.length) : SlotsB K H F F H (startS N ns) (L2.start N [.ref a]) := by
  have cases' : ∀ (i : Nat) s, (startS N ns)[i]? = some s → (i = 0 ∧ s = .scr ns) ∨ s = .no := fun i s h => by
    unfold startS at h
    cases i with
    | zero => simp at h; exact .inl ⟨rfl, h.symm⟩
    | succ i =>
      rw [List.getElem?_cons_succ] at h
      have := List.mem_of_getElem? h
      exact .inr (List.eq_of_mem_replicate this)
  refine ⟨Sub.refl _, Sub.refl _, sb, by unfold startS L2.start; simp, fun i s x h1 h2 => ?_, fun i j d e b h1 => ?_⟩
  · rcases cases' i s h1 with ⟨rfl, rfl⟩ | rfl
    · unfold L2.start at h2
      simp at h2
      subst h2
      exact ⟨a, rfl, r⟩
    · trivial
  · rcases cases' i _ h1 with ⟨_, z⟩ | z <;> cases z
def KeepsS (q : QS) (N : List Str) (S : List Int → D → Prop) : Prop := ∀ ns d, S ns d → q { nx := fun _ => d = .none, rt := fun r => r = d } (startS N ns)
theorem sp_startS {K : PySem.W.Frag} {fr : Bool} {S : List Int → D → Prop} {N : List Str} {q : QS} {t : TS} (hN : 1 ≤ N.length) (hk : KeepsS q N S) (sd : SndS K fr t q) {vs : List V} {H : Hp} {Q : VK} {E : XK} (h : SpScr K fr S vs H Q E) : t { nx := fun _ H' => Q .non H', rt := Q } (L2.start N vs) H := by
  obtain ⟨F, a, ns, d, sb, ev, hsq, hs, k⟩ := h
  subst ev
  refine sd F H F F H (startS N ns) _ _ _ (slots_startS sb hsq hN) (Grow.refl _ _) (hk ns d hs) ⟨fun F' H' ρ' σ' S' g' s' e => ?_, fun _ _ _ _ _ _ _ z => z.elim, fun _ _ _ _ _ _ _ z => z.elim, fun d2 v F' H' s' g' r' e => ?_⟩
  · subst e
    exact k .non F' H' g' S'.fh (resSc rfl rfl)
  · subst e
    exact k v F' H' g' s' r'
section
variable {P : Program} {w : World} {K : PySem.W.Frag} {mg : Str → Option Value} {base : Heap} {x qual : Str} {params : Arguments} {body : List Stmt} {scope : Scope} {dvs : List V} {kws : List (Str × V)} {f : Addr} {fd : FuncData}
theorem fnS {fr : Bool} {S : List Int → D → Prop} {N : List Str} {s : Str} {k : Nat} {q : QS} (F : FunD K x qual params body scope dvs kws f fd) (Sc : FnScope N [s] scope) (hN : 1 ≤ N.length) (hk : KeepsS q N S)
    (hb : ∀ (cdv : Value) (A : Around) (outer : List PySem.Env) (s : Shared) (H : Hp) (E : XK), Room k (A.deeper (envOfC qual scope s.heap.objs.size f cdv)) → ∃ t, VSs fr (cxOf CX0 P w K mg base N qual scope f cdv A outer s H E).nox body t q) :
    FnOk P w K mg base CX0 (k + 1) f fd [s] (SpScr K fr S) := by
  refine F.ok Sc (fun vs H Q E ⟨F, a, ns, d, sb, ev, _⟩ => by rw [ev]; rfl) fun cdv A outer s H vs Q E hr h => ?_
  obtain ⟨t, b⟩ := hb cdv A outer s H E hr
  exact ⟨t, b.ps.nox, sp_startS hN hk b.sd h⟩
end
/-- a def that may be called: where it stands, what it promises -/
structure Callee (P : Program) (w : World) (K : PySem.W.Frag) (mg : Str → Option Value) (base : Heap) (k : Nat) (x : Str) (ps : List Str) (sp : Sp) (f : Addr) (fd : FuncData) : Prop where
  ok : FnOk P w K mg base CX0 k f fd ps sp
  mg : mg x = some (.ref f)
  kp : PySem.W.keepIn K (.ref f) = true
  bd : Binds K fd ps []
theorem Callee.mono {P : Program} {w : World} {K : PySem.W.Frag} {mg : Str → Option Value} {base : Heap} {j k : Nat} {x : Str} {ps : List Str} {sp : Sp} {f : Addr} {fd : FuncData} (c : Callee P w K mg base j x ps sp f fd) (h : j ≤ k) : Callee P w K mg base k x ps sp f fd := ⟨c.ok.mono h, c.mg, c.kp, c.bd⟩
end VL
namespace VL
open PySem PySem.Spec PyProof.Rows L2

/-! ### a def called by the harness itself: what runs around it is known -/
/-- FnOk's promise at one Around alone -/
def RunAt (P : Program) (w : World) (K : PySem.W.Frag) (mg : Str → Option Value) (base : Heap) (A : Around) (f : Addr) (fd : FuncData) (ps : List Str) (sp : Sp) : Prop :=
  ∀ (fr0 : List PySem.Env) (z : Shared) (H : Hp) (args : Args) (us : List Value) (vs : List V) (Q : VK) (E : XK), Env0 P w K mg base A fr0 z H → BindsTo z fd args (ps.zip us) → Vals vs us → sp vs H Q E →
    codeAny (model P w) A (.call (.ref f) args) (CR CX0 fr0 P w H z Q E) z
theorem runAt_of {P : Program} {w : World} {K : PySem.W.Frag} {mg : Str → Option Value} {base : Heap} {x qual : Str} {params : Arguments} {body : List Stmt} {scope : Scope} {dvs : List V} {kws : List (Str × V)} {f : Addr} {fd : FuncData} {N ps : List Str} {k : Nat} {sp : Sp} {A : Around}
    (F : FunD K x qual params body scope dvs kws f fd) (Sc : FnScope N ps scope) (room : Room (k + 1) A) (few : ∀ vs H Q E, sp vs H Q E → vs.length = ps.length)
    (hb : ∀ (cdv : Value) (fr0 : List PySem.Env) (z : Shared) (H : Hp) (vs : List V) (Q : VK) (E : XK), Room k (A.deeper (envOfC qual scope z.heap.objs.size f cdv)) → sp vs H Q E →
      ∃ t, PSs (cxOf CX0 P w K mg base N qual scope f cdv A fr0 z H E) body t ∧ t { nx := fun _ H' => Q .non H', rt := Q } (L2.start N vs) H) : RunAt P w K mg base A f fd ps sp := by
  obtain ⟨oc, od, dV, kV, doc, pm, an, cdv, ct, osl, efd, hfd, hcode, _, _⟩ := F.ex
  subst efd
  intro fr0 z H args us vs Q E env bind rel want
  have kz : K.In z.heap := env.mod.kin.keeps fun c o q => (env.bs c o q).1
  have binds : ∀ y ∈ ps.zip us, scope.names.lookup y.1 = some .local ∨ (scope.names.lookup y.1 = some .cell ∧ ((cellsFrom (z.heap.objs.size + 1) scope.names []).lookup y.1).isSome = true) := by
    rintro ⟨n, v⟩ hy
    cases Sc.par n (List.of_mem_zip hy).1 with
    | inl q => exact .inl q
    | inr q => exact .inr ⟨q, PySem.W.cellsFrom_some _ _ _ (.inl q)⟩
  refine codeAny_call_function room.depth (kz _ _ hfd) rfl Sc.co Sc.gen rfl (PySem.W.codeRec_of kz hcode) (bind _ _ _ _ ?_)
  refine wpAny_newFunctionEnv_cells Sc.kind binds fun en hen z1 xin => ?_
  subst hen
  refine ⟨(env.mod.nolimit.keeps fun c o q => (env.bs c o q).1).keeps xin.toInCall.keep, codeAny_func ?_⟩
  obtain ⟨t, pt, rt⟩ := hb cdv fr0 z H vs Q E (room.deeper _) want
  have inv := inv_start (CX := CX0) (P := P) (w := w) (K := K) (mg := mg) (base := base) (qual := qual) (f := f) (cd := cdv) (E := E) Sc room.hd env (few _ _ _ _ want) rel xin
  refine wpAny_mono (pt.run [] z1 (L2.start N vs) H _ inv rt) (fun fl z2 h2 => ?_) fun e z2 h2 => h2
  cases fl with
  | brk => exact h2.elim fun _ h => h.elim fun _ h => h.2.elim
  | cont => exact h2.elim fun _ h => h.elim fun _ h => h.2.elim
  | next =>
    obtain ⟨σ2, H2, J, q⟩ := h2
    exact ⟨V.non, H2, J.os, J.bare, J.base, J.hok, (rfl : Value.none = Value.none), q⟩
  | ret u =>
    obtain ⟨v, σ2, H2, J, rv, q⟩ := h2
    exact ⟨v, H2, J.os, J.bare, J.base, J.hok, rv, q⟩
/-- the law's call at the heap behind the top -/
theorem law_at {P : Program} {w : World} {K : PySem.W.Frag} {mg mb : Str → Option Value} {f a : Addr} {fd : FuncData} {x : Str} {sp : Sp} {z : Shared} {us : List Value} {ns : List Int}
    (kz : K.In z.heap) (gz : z.heap.Ns mainGlobals mg) (bz : z.heap.Ns builtinsNs mb) (bb : ∀ x : Str, x ≠ "__name__" → mb x = bootBuiltins x) (nl : z.heap.NoLimit) (gn : z.gens = #[])
    (ha : z.heap.get? a = some { cls := .type "list", data := .seq us.toArray }) (hints : IntsAre us ns) (short : ns.length ≤ sizeLine)
    (F : ∀ base : Heap, K.In base → base.Ns mainGlobals mg → RunAt P w K mg base callerA f fd [x] sp) (bind : ∀ (s : Shared) (u : Value), BindsTo s fd ⟨[u], []⟩ [(x, u)])
    (want : ∀ H : Hp, Only H → SqL K H a (ns.map V.int) → sp [.ref a] H (fun v _ => v = .bl true) fun _ _ _ => False) :
    codeAny (model P w) callerA (.call (.ref f) ⟨[.ref a], []⟩) (fun r z' => r = .ok (.ret (.bool true)) ∧ OldK z.heap z'.heap ∧ z'.os = z.os ∧ AllBare z'.gens) z := by
  have rel := vals_ints hints
  have len := hints.length
  have main : ∀ H : Hp, Only H → SqL K H a (ns.map V.int) → HOk P w H z.heap → (∀ c, H c ≠ none → c = a) → (H a ≠ none → K.lookup a = none) →
      codeAny (model P w) callerA (.call (.ref f) ⟨[.ref a], []⟩) (fun r z' => r = .ok (.ret (.bool true)) ∧ OldK z.heap z'.heap ∧ z'.os = z.os ∧ AllBare z'.gens) z := by
    intro H only sq hok alone apart
    have noDict : ∀ {c : Addr} {o : Obj} {es : Array DictEntry} {ep : Nat}, z.heap.get? c = some o → o.data = .dict es ep → H c = none := by
      intro c o es ep hc hd
      cases hHc : H c with
      | none => rfl
      | some u =>
        have ec := alone c (by rw [hHc]; exact Option.some_ne_none _)
        subst ec
        rw [ha] at hc
        cases hc
        exact absurd (show Data.seq us.toArray _ = Data.dict es ep from hd) (fun q => by cases q)
    have ns' : ∀ {c : Addr} {m : Str → Option Value}, z.heap.Ns c m → (hidT z.heap H).Ns c m := by
      rintro c m ⟨o, es, ep, hc, hd, more⟩
      exact ⟨o, es, ep, hidT_get hc (noDict hc hd), hd, more⟩
    have kb : K.In (hidT z.heap H) := fun c o hc => by
      refine hidT_get (kz c o hc) ?_
      cases hHc : H c with
      | none => rfl
      | some u =>
        have ec := alone c (by rw [hHc]; exact Option.some_ne_none _)
        subst ec
        have := apart (by rw [hHc]; exact Option.some_ne_none _)
        rw [this] at hc
        cases hc
    obtain ⟨mc, l1, l2⟩ := nl
    have env : Env0 P w K mg (hidT z.heap H) callerA [] z H := {
      frames := rfl
      mod := ⟨kb, ns' gz, ⟨mb, ns' bz, bb⟩, ⟨mc, ns' l1, l2⟩⟩
      bs := fun c o hc => of_hidT hc
      bsz := Nat.le_of_eq (hidT_size _ _)
      funs := trivial
      frf := fun c hc => absurd (show c ∈ ([] : List Addr) from hc) (by simp)
      hok := hok
      bare := .of_eq gn }
    refine codeAny_mono (F _ kb (ns' gz) [] z H ⟨[.ref a], []⟩ [.ref a] [.ref a] _ _ env (bind z (.ref a)) (.cons rfl .nil) (want H only sq)) fun r z' h => ?_
    cases r with
    | error e => exact False.elim h
    | ok fl =>
      cases fl with
      | next => exact False.elim h
      | brk => exact False.elim h
      | cont => exact False.elim h
      | ret u =>
        obtain ⟨v, H', eos, ebare, eun, ehok, erel, ev⟩ := h
        have ev' : v = .bl true := ev
        subst ev'
        have eu : u = Value.bool true := erel
        subst eu
        refine ⟨rfl, OldK.of_keep fun c o hc => ?_, eos, ebare⟩
        cases hHc : H c with
        | none => exact eun.keep c o hc hHc (fun q => by cases (show c ∈ ([] : List Addr) from q)) (by simp)
        | some u =>
          cases only c with
          | inl q => rw [hHc] at q; cases q
          | inr q =>
            obtain ⟨ob, xs, q⟩ := q
            have q2 := eun.frzs c ob _ q
            obtain ⟨p1, _⟩ := hok c _ q
            obtain ⟨p2, _⟩ := ehok c _ q2
            rw [hc] at p1
            cases p1
            exact p2
  cases hK : K.lookup a with
  | some o =>
    have q := kz a o hK
    rw [ha] at q
    cases q
    exact main (fun _ => none) (fun _ => .inl rfl) (.inr ⟨_, us.toArray, _, hK, rfl, rfl, rfl, by rw [List.size_toArray, len]; exact short, by simpa using rel⟩) (fun c u q => by cases (show (none : Option HO) = some u from q)) (fun c q => absurd rfl q) (fun q => absurd rfl q)
  | none =>
    refine main (fun c => if c = a then some (.frz { cls := .type "list", data := .seq us.toArray } (.lst (ns.map V.int))) else none) ?_ (.inl (.inr ⟨_, if_pos rfl⟩)) ?_ ?_ fun _ => hK
    · intro c
      by_cases hc : c = a
      · exact .inr ⟨_, _, if_pos hc⟩
      · exact .inl (if_neg hc)
    · intro c u q
      by_cases hc : c = a
      · have q2 := (if_pos hc).symm.trans q
        cases q2
        subst hc
        exact ⟨ha, by rw [List.length_map]; exact short, us, _, rel, ha⟩
      · have q2 := (if_neg hc).symm.trans q
        cases q2
    · intro c q
      by_cases hc : c = a
      · exact hc
      · exact absurd (if_neg hc) q
/-- the end of a law: F gives the written part, the def's object and its promise over every base -/
theorem walk_law {l : PySem.W.OpenLaw} {n : Nat} {q : Program} {loose : List Str} {XP : (Str → Option Value) → Heap → Prop} {YP : World → Heap → Prop} {d : DefRec} {x : Str}
    (hn : l.most = some n) (hn2 : n ≤ sizeLine) (hdf : d.params.defaults = [])
    (F : ∀ (w : World) (mg : Str → Option Value) (f : Addr) (h : Heap), YP w h → h.Ns mainGlobals mg → mg d.name = some (.ref f) →
      ∃ (K : PySem.W.Frag) (fd : FuncData) (sp : Sp), K.In h ∧ (∀ (s : Shared) (u : Value), BindsTo s fd ⟨[u], []⟩ [(x, u)]) ∧
        (∀ (H : Hp) (a : Addr) (ns : List Int), ns.length ≤ n → Only H → SqL K H a (ns.map V.int) → sp [.ref a] H (fun v _ => v = .bl true) fun _ _ _ => False) ∧
        ∀ base : Heap, K.In base → base.Ns mainGlobals mg → RunAt l.prog w K mg base callerA f fd [x] sp) :
    PySem.W.WalkO q loose XP YP l.row.toRowW d [] (fun f vs => PySem.call f vs) := by
  refine Att.attach_call hn hdf fun w z0 z mg mb f o pm cd doc a us ns G Y _ _ _ hmg hobj hints hlen hgens => ?_
  obtain ⟨K, fd, sp, kz, bind, want, run⟩ := F w mg f _ Y G.T.g hmg
  exact law_at kz G.T.g G.T.b G.T.builtins G.T.nolimit hgens hobj hints (Nat.le_trans hlen hn2) run bind fun H only sq => want H a ns hlen only sq
section
variable {P : Program} {w : World} {K : PySem.W.Frag} {mg : Str → Option Value} {base : Heap} {x qual : Str} {params : Arguments} {body : List Stmt} {scope : Scope} {dvs : List V} {kws : List (Str × V)} {f : Addr} {fd : FuncData}
/-- the law's def -/
theorem lawV {N : List Str} {s : Str} {k : Nat} {q : QS} {S : List Int → D → Prop} (F : FunD K x qual params body scope dvs kws f fd) (Sc : FnScope N [s] scope) (hN : 1 ≤ N.length) (hk : KeepsS q N S) (room : Room (k + 1) callerA)
    (hb : ∀ (cdv : Value) (fr0 : List PySem.Env) (z : Shared) (H : Hp) (E : XK), Room k (callerA.deeper (envOfC qual scope z.heap.objs.size f cdv)) → ∃ t, VSs false (cxOf CX0 P w K mg base N qual scope f cdv callerA fr0 z H E).nox body t q) :
    RunAt P w K mg base callerA f fd [s] (SpScr K false S) :=
  runAt_of F Sc room (fun vs H Q E ⟨F, a, ns, d, sb, ev, _⟩ => by rw [ev]; rfl) fun cdv fr0 z H vs Q E hr h => by
    obtain ⟨t, b⟩ := hb cdv fr0 z H E hr
    exact ⟨t, b.ps.nox, sp_startS hN hk b.sd h⟩
end
/-- what the harness wants of the law -/
theorem want_law {K : PySem.W.Frag} {S : List Int → D → Prop} {n : Nat} (hS : ∀ ns : List Int, ns.length ≤ n → S ns (.bool true)) (H : Hp) (a : Addr) (ns : List Int) (hl : ns.length ≤ n) (_ : Only H) (sq : SqL K H a (ns.map V.int)) :
    SpScr K false S [.ref a] H (fun v _ => v = .bl true) fun _ _ _ => False :=
  ⟨H, a, ns, .bool true, Sub.refl _, rfl, sq, hS ns hl, fun v F' H' _ _ r => r⟩
end VL
namespace VL
open PySem PySem.Spec PyProof.Rows L2
theorem op2_sub {K : PySem.W.Frag} : Op2 K .val oSub (rI0 fun i j => .int (i - j)) := op2_int0 (g := fun i j => i - j)
theorem op2_and {K : PySem.W.Frag} : Op2 K .val oAnd (rI0 fun i j => .int (Builtin.bitAnd i j)) := op2_int0 (g := fun i j => Builtin.bitAnd i j)
theorem Room_u100 {k : Nat} {A : Around} (r : Room k A) : A.units + 100 < cLine := by have := r.un; omega
section
variable {X : Cx} {md : Md} {e a b : Expr} {t ta tb : TE} {q qa qb : QE} {pos p : Pos}
/-- xs[::-1] -/
def oRev : D → Option D
  | .list ds => some (.list ds.reverse)
  | _ => none
theorem RpA.reverse {K : PySem.W.Frag} {F : Hp} : ∀ {ds : List D} {xs : List V}, RpA K F ds xs → RpA K F ds.reverse xs.reverse
  | [], _, h => by cases h; exact rfl
  | d :: ds, _, ⟨x, r, e, h, q⟩ => by
    subst e
    rw [List.reverse_cons, List.reverse_cons]
    exact (RpA.reverse q).snoc h
theorem ve_rev {k : Nat} {p1 p2 p3 : Pos} (he : VE .look X e t q) : VE .own X (.Subscript e (.Slice none none (some (.UnaryOp .USub (.Constant (.int 1) k p1) p2)) p3) pos) (tRevL X.K t) (q1 oRev q) := by
  refine ⟨pe_revL he.pe, fun H0 F H ρ σ P Q S hq kk => ?_⟩
  refine he.sd H0 F H ρ σ _ _ S hq fun v d F1 H1 g1 s1 r1 ⟨z, ez, pz⟩ => ?_
  cases d with
  | list ds =>
    simp [oRev] at ez; subst ez
    obtain ⟨a, xs, ea, ha, ra⟩ := Lk.lst s1 r1
    refine ⟨a, xs, ea, SqL.of ha, fun p' hp => ?_⟩
    exact kk _ (.list ds.reverse) F1 _ (g1.trans (Grow.newO hp)) (s1.trans (Sub.upd hp)) (.inr ⟨p', rfl, g1.h.none hp, s1.none hp, (show OwnAt X.K F1 _ p' (.list ds.reverse) from ⟨_, upd_same, ra.reverse⟩)⟩) pz
  | _ => simp [oRev] at ez
/-- list(range(n)), list(range(a, b)) -/
theorem rg_rp {K : PySem.W.Frag} {F : Hp} (a b : Int) : RpA K F (rangeD a (b - a).toNat) (rgV a b) := by
  unfold rangeD rgV
  induction (List.range (b - a).toNat) with
  | nil => exact rfl
  | cons i r ih => exact ⟨_, _, rfl, rfl, ih⟩
def rgOk (a b : Int) : Prop := -4611686018427387904 ≤ a ∧ a < 4611686018427387904 ∧ -4611686018427387904 ≤ b ∧ b < 4611686018427387904 ∧ (b - a).toNat ≤ 16777216
def qListRg1 (q : QE) : QE := fun ρ P => q ρ fun d => ∃ n, d = .int n ∧ rgOk 0 n ∧ P (.list (rangeD 0 (n - 0).toNat))
def qListRg2 (q q' : QE) : QE := fun ρ P => q ρ fun d => q' ρ fun e => ∃ n m, d = .int n ∧ e = .int m ∧ rgOk n m ∧ P (.list (rangeD n (m - n).toNat))
theorem ve_listRg1 {pl pr : Pos} (hc : X.calm = true) (hg : Gl X "list") (hm : X.mg "list" = none) (hg2 : Gl X "range") (hm2 : X.mg "range" = none) (ha : VE .look X a ta qa)
    (na : starEach [a] X.env = (false, eval a X.env) :: starEach [] X.env := by rfl) (na2 : starEach [.Call (.Name "range" pr) [a] [] p] X.env = (false, eval (.Call (.Name "range" pr) [a] [] p) X.env) :: starEach [] X.env := by rfl) :
    VE .own X (.Call (.Name "list" pl) [.Call (.Name "range" pr) [a] [] p] [] pos) (tLstRg (tRg1 ta)) (qListRg1 qa) := by
  refine ⟨pe_listRg hc hg hm (prg_1 hg2 hm2 ha.pe na) na2, fun H0 F H ρ σ P Q S hq kk => ?_⟩
  refine ha.sd H0 F H ρ σ _ _ S hq fun v d F1 H1 g1 s1 r1 ⟨n, ed, ok, pz⟩ => ?_
  subst ed
  have := Lk.int r1
  subst this
  refine ⟨n, rfl, ok, fun p' hp => ?_⟩
  exact kk _ (.list (rangeD 0 (n - 0).toNat)) F1 _ (g1.trans (Grow.newO hp)) (s1.trans (Sub.upd hp)) (.inr ⟨p', rfl, g1.h.none hp, s1.none hp, (show OwnAt X.K F1 _ p' (.list _) from ⟨_, upd_same, rg_rp 0 n⟩)⟩) pz
theorem ve_listRg2 {pl pr : Pos} (hc : X.calm = true) (hg : Gl X "list") (hm : X.mg "list" = none) (hg2 : Gl X "range") (hm2 : X.mg "range" = none) (ha : VE .look X a ta qa) (hb : VE .look X b tb qb)
    (na : starEach [a, b] X.env = (false, eval a X.env) :: starEach [b] X.env := by rfl) (nb : starEach [b] X.env = (false, eval b X.env) :: starEach [] X.env := by rfl) (hp : (backTo p (starEach [b] X.env)).any (·.1) = false := by rfl)
    (na2 : starEach [.Call (.Name "range" pr) [a, b] [] p] X.env = (false, eval (.Call (.Name "range" pr) [a, b] [] p) X.env) :: starEach [] X.env := by rfl) :
    VE .own X (.Call (.Name "list" pl) [.Call (.Name "range" pr) [a, b] [] p] [] pos) (tLstRg (tRg2 ta tb)) (qListRg2 qa qb) := by
  refine ⟨pe_listRg hc hg hm (prg_2 hg2 hm2 ha.pe hb.pe na nb hp) na2, fun H0 F H ρ σ P Q S hq kk => ?_⟩
  refine ha.sd H0 F H ρ σ _ _ S hq fun v d F1 H1 g1 s1 r1 h1 => ?_
  refine hb.sd H0 F1 H1 ρ σ _ _ (S.grow g1 s1) h1 fun v2 d2 F2 H2 g2 s2 r2 ⟨n, m, ed, ed2, ok, pz⟩ => ?_
  subst ed ed2
  have := Lk.int r1
  subst this
  have := Lk.int r2
  subst this
  refine ⟨n, m, rfl, rfl, ok, fun p' hp => ?_⟩
  have gg := g1.trans g2
  exact kk _ (.list (rangeD n (m - n).toNat)) F2 _ (gg.trans (Grow.newO hp)) (s2.trans (Sub.upd hp)) (.inr ⟨p', rfl, gg.h.none hp, s2.none hp, (show OwnAt X.K F2 _ p' (.list _) from ⟨_, upd_same, rg_rp n m⟩)⟩) pz
end
/-! the same rules with the written part named (for the blocks of comprehensions) -/
section
variable {X : Cx} {md : Md} {fr : Bool} {CX : CXT} {E : XK} {tg e e2 : Expr} {es : List Expr} {t : TE} {q : QE} {tA : TA} {qA : QA} {pos p : Pos} {x : Str} {k : Nat} {f : Addr} {fd : FuncData} {ps : List Str} {S : VL.Spec}
def rLenK (K : PySem.W.Frag) : List V → Hp → VK → Prop := fun xs H Q => ∃ x n, xs = [x] ∧ LenV K x H n ∧ Q (.int n) H
def rListK (K : PySem.W.Frag) : List V → Hp → VK → Prop := fun xs H Q => ∃ p ys, xs = [.ref p] ∧ (SqL K H p ys ∨ SqT K H p ys) ∧ ∀ l, H l = none → Q (.ref l) (upd H l (.lst ys))
def rTupleK (K : PySem.W.Frag) : List V → Hp → VK → Prop := fun xs H Q => ∃ p ys, xs = [.ref p] ∧ ((SqL K H p ys ∧ ∀ l, H l = none → Q (.ref l) (upd H l (.tup ys))) ∨ (SqT K H p ys ∧ Q (.ref p) H))
def rAbsK (_ : PySem.W.Frag) : List V → Hp → VK → Prop := fun xs H Q => ∃ i, xs = [.int i] ∧ Q (.int (if i < 0 then -i else i)) H
def rIntK (_ : PySem.W.Frag) : List V → Hp → VK → Prop := fun xs H Q => (∃ i, xs = [.int i] ∧ Q (.int i) H) ∨ ∃ k, xs = [.bl k] ∧ Q (.int (if k then 1 else 0)) H
def rMax2K (_ : PySem.W.Frag) : List V → Hp → VK → Prop := fun xs H Q => ∃ i j, xs = [.int i, .int j] ∧ Q (.int (if j > i then j else i)) H
def rMin2K (_ : PySem.W.Frag) : List V → Hp → VK → Prop := fun xs H Q => ∃ i j, xs = [.int i, .int j] ∧ Q (.int (if j < i then j else i)) H
theorem vi_listK (K : PySem.W.Frag) (hK : X.K = K) (h : VE md X e t q) (hm : MdA md := by exact True.intro) : VI md X tg e (iList K t) (qIList q) := by subst hK; exact vi_list h hm
theorem vi_enumK (K : PySem.W.Frag) (hK : X.K = K) {elts : List Expr} {kk : Nat} {tpos : Pos} (hg : Gl X "enumerate") (hm : X.mg "enumerate" = none) (ha : VA md X [e] tA qA) (hmd : MdA md := by exact True.intro) (hs : starEach [e] X.env = [(false, eval e X.env)] := by rfl) :
    VI md X (.Tuple elts kk tpos) (.Call (.Name "enumerate" p) [e] [] pos) (iEnum K tA) (qIEnum qA) := by subst hK; exact vi_enum hg hm ha hmd hs
theorem vi_zipK (K : PySem.W.Frag) (hK : X.K = K) {elts : List Expr} {kk : Nat} {tpos : Pos} (hg : Gl X "zip") (hm : X.mg "zip" = none) (ha : VA md X [e, e2] tA qA) (hmd : MdA md := by exact True.intro)
    (hs : starEach [e, e2] X.env = (false, eval e X.env) :: starEach [e2] X.env := by rfl) (hpl : (backTo pos (starEach [e2] X.env)).any (·.1) = false := by rfl) :
    VI md X (.Tuple elts kk tpos) (.Call (.Name "zip" p) [e, e2] [] pos) (iZip K tA) (qIZip qA) := by subst hK; exact vi_zip hg hm ha hmd hs hpl
theorem vg_tupK (K : PySem.W.Frag) (hK : X.K = K) {ts : List Nat} {gs : TGs} {qs : QGs} {k n : Nat} (hc : X.calm = true) (h : VGs X es ts gs qs) (hn : (assignEach es X.env).length = n := by rfl) (hst : (assignEach es X.env).findIdx? (·.1) = none := by rfl) :
    VG X (.Tuple es k pos) ts (gTup K n gs) (qGTup n qs) := by subst hK; exact vg_tup hc h hn hst
theorem ve_revK (K : PySem.W.Frag) (hK : X.K = K) {k : Nat} {p1 p2 p3 : Pos} (he : VE .look X e t q) : VE .own X (.Subscript e (.Slice none none (some (.UnaryOp .USub (.Constant (.int 1) k p1) p2)) p3) pos) (tRevL K t) (q1 oRev q) := by subst hK; exact ve_rev he
theorem ve_callK (K : PySem.W.Frag) (hK : X.K = K) (F : FnOk X.prog X.w X.K X.mg X.base CX k f fd ps (SpV K fr S)) (hr : Room k X.A) (hg : Gl X x) (hm : X.mg x = some (.ref f)) (hk : PySem.W.keepIn X.K (.ref f) = true) (hb : Binds X.K fd ps []) (hx : Passes CX X E)
    (ha : VA .val X (e :: es) tA qA) (hdb : (x == ("__debug__" : Str)) = false := by decide) (he : starEach (e :: es) X.env = (false, eval e X.env) :: starEach es X.env := by rfl) (hpl : (backTo pos (starEach es X.env)).any (·.1) = false := by rfl) :
    VE (rMd fr) X (.Call (.Name x p) (e :: es) [] pos) (tCall (SpV K fr S) [] E tA) (qCall S qA) := by subst hK; exact ve_call F hr hg hm hk hb hx ha hdb he hpl
theorem ve_callLK (K : PySem.W.Frag) (hK : X.K = K) (F : FnOk X.prog X.w X.K X.mg X.base CX k f fd ps (SpV K fr S)) (hr : Room k X.A) (hg : Gl X x) (hm : X.mg x = some (.ref f)) (hk : PySem.W.keepIn X.K (.ref f) = true) (hb : Binds X.K fd ps []) (hx : Passes CX X E)
    (ha : VA .look X (e :: es) tA qA) (hdb : (x == ("__debug__" : Str)) = false := by decide) (he : starEach (e :: es) X.env = (false, eval e X.env) :: starEach es X.env := by rfl) (hpl : (backTo pos (starEach es X.env)).any (·.1) = false := by rfl) :
    VE (rMd fr) X (.Call (.Name x p) (e :: es) [] pos) (tCall (SpV K fr S) [] E tA) (qCallL fr S qA) := by subst hK; exact ve_callL F hr hg hm hk hb hx ha hdb he hpl
end
end VL
set_option exponentiation.threshold 4000
namespace VL
open PySem PySem.Spec PyProof.Rows L2
open PySem.W (Datum DatumOrd)
/-! readings read -/
section
variable {Dv : VEnds} {ρ : Env} {P : D → Prop} {PT : Bool → Prop} {PA : List D → Prop} {PG : Env → Prop} {q r qa qb qc : QE} {qA : QA} {qt qt2 : QT} {s t : QS} {i j : Nat} {d : D} {qi : QI} {qg : QG} {qgs : QGs} {S : VL.Spec} {f g : D → D → Option D}
@[simp] theorem e_seq : qSeq s t Dv ρ = s { Dv with nx := t Dv } ρ := rfl
@[simp] theorem e_next : qNext Dv ρ = Dv.nx ρ := rfl
@[simp] theorem e_break : qBreak Dv ρ = Dv.bk ρ := rfl
@[simp] theorem e_cont : qCont Dv ρ = Dv.ct ρ := rfl
@[simp] theorem e_never : qNever Dv ρ = False := rfl
@[simp] theorem e_drop : qDrop q Dv ρ = q ρ (fun _ => Dv.nx ρ) := rfl
@[simp] theorem e_set : qSet i q Dv ρ = q ρ (fun d => Dv.nx (ρ.set i (.val d))) := rfl
@[simp] theorem e_setO : qSetO i q Dv ρ = q ρ (fun d => Dv.nx (ρ.set i (ownSl d))) := rfl
@[simp] theorem e_asg : qAsg q qg Dv ρ = q ρ (fun d => qg d ρ Dv.nx) := rfl
theorem prop_ext {p q : Prop} (h : p ↔ q) : p = q := propext h
@[simp] theorem e_par : qPar i j (qCons qa (qCons qb qNil)) Dv ρ = qa ρ (fun d => qb ρ fun e => Dv.nx ((ρ.set i (.val d)).set j (.val e))) := by
  show qa ρ _ = qa ρ _
  congr 1; funext x
  show qb ρ _ = qb ρ _
  congr 1; funext y
  exact propext ⟨fun ⟨d, e, h, p⟩ => by cases h; exact p, fun p => ⟨x, y, rfl, p⟩⟩
@[simp] theorem e_ifS : qIfS qt s t Dv ρ = qt ρ (fun b => if b = true then s Dv ρ else t Dv ρ) := rfl
@[simp] theorem e_ret : qRet q Dv ρ = q ρ Dv.rt := rfl
@[simp] theorem e_retN : qRetN Dv ρ = Dv.rt .none := rfl
@[simp] theorem e_retV : qRetV i Dv ρ = ∃ d, ρ[i]? = some (.own d) ∧ Dv.rt d := rfl
@[simp] theorem e_for : qFor qi qg s Dv ρ = qi ρ (fun ds => forRun qg s ds Dv ρ) := rfl
@[simp] theorem e_setIx : qSetIx i q r Dv ρ = r ρ (fun d => ∃ ds, ρ[i]? = some (.own (.list ds)) ∧ q ρ fun di => ∃ k, di = .int k ∧ ∃ j, ixN ds.length k = some j ∧ Dv.nx (ρ.set i (.own (.list (ds.set j d))))) := by
  unfold qSetIx
  simp only [exists_and_left]
@[simp] theorem e_meth {fm} : qMeth i fm qA Dv ρ = ∃ ds, ρ[i]? = some (.own (.list ds)) ∧ qA ρ fun as => ∃ ds', fm ds as = some ds' ∧ Dv.nx (ρ.set i (.own (.list ds'))) := rfl
@[simp] theorem e_lend : qLend i s Dv ρ = ∃ d, ρ[i]? = some (.own d) ∧ lendOk i ρ = true ∧ s { nx := fun ρ' => borOk i ρ' = true ∧ Dv.nx (unlend ρ'), rt := Dv.rt } (lend i d ρ) := rfl
@[simp] theorem e_frz : qFrz i s Dv ρ = ∃ d, ρ[i]? = some (.own d) ∧ s Dv (ρ.set i (.val d)) := rfl
@[simp] theorem e_var : qVar i ρ P = ∃ d, (ρ[i]?).bind getV = some d ∧ P d := rfl
@[simp] theorem e_varL : qVarL i ρ P = ∃ d, (ρ[i]?).bind getL = some d ∧ P d := rfl
@[simp] theorem e_c : qC d ρ P = P d := rfl
@[simp] theorem e_2 : q2 f qa qb ρ P = qa ρ (fun x => qb ρ fun y => ∃ z, f x y = some z ∧ P z) := rfl
@[simp] theorem e_1 {h : D → Option D} : q1 h qa ρ P = qa ρ (fun x => ∃ z, h x = some z ∧ P z) := rfl
@[simp] theorem e_tst : qTst q ρ PT = q ρ (fun d => ∃ b, d = .bool b ∧ PT b) := rfl
@[simp] theorem e_chain : qChain f g qa qb qc ρ P = qa ρ (fun x => qb ρ fun y => ∃ k, f x y = some (.bool k) ∧ (if k = true then qc ρ fun z => ∃ w, g y z = some w ∧ P w else P (.bool false))) := rfl
@[simp] theorem e_and : qAnd qt qt2 ρ PT = qt ρ (fun b => if b = true then qt2 ρ PT else PT false) := rfl
@[simp] theorem e_or : qOr qt qt2 ρ PT = qt ρ (fun b => if b = true then PT true else qt2 ρ PT) := rfl
@[simp] theorem e_not : qNot qt ρ PT = qt ρ (fun b => PT (!b)) := rfl
@[simp] theorem e_andV : qAndV qa qb ρ P = qa ρ (fun d => ∃ b, d = .bool b ∧ if b = true then qb ρ P else P (.bool false)) := rfl
@[simp] theorem e_orV : qOrV qa qb ρ P = qa ρ (fun d => ∃ b, d = .bool b ∧ if b = true then P (.bool true) else qb ρ P) := rfl
@[simp] theorem e_notV : qNotV qa ρ P = qa ρ (fun d => ∃ b, d = .bool b ∧ P (.bool !b)) := rfl
@[simp] theorem e_if : qIf qt qa qb ρ P = qt ρ (fun b => if b = true then qa ρ P else qb ρ P) := rfl
@[simp] theorem e_nil : qNil ρ PA = PA [] := rfl
@[simp] theorem e_cons : qCons qa qA ρ PA = qa ρ (fun x => qA ρ fun xs => PA (x :: xs)) := rfl
@[simp] theorem e_lst : qLst qA ρ P = qA ρ (fun ds => P (.list ds)) := rfl
@[simp] theorem e_tup : qTup qA ρ P = qA ρ (fun ds => P (.tuple ds)) := rfl
@[simp] theorem e_N {h : List D → Option D} : qN h qA ρ P = qA ρ (fun ds => ∃ z, h ds = some z ∧ P z) := rfl
@[simp] theorem e_call : qCall S qA ρ P = qA ρ (fun ds => ∃ d, S ds d ∧ P d) := rfl
@[simp] theorem e_callL {fr} : qCallL fr S qA ρ P = qA ρ (fun ds => ∃ d, S ds d ∧ scD fr d = true ∧ P d) := rfl
@[simp] theorem e_callS {S : List Int → D → Prop} : qCallS i S ρ P = ∃ ns : List Int, ρ[i]? = some (.scr ns) ∧ ∃ d, S ns d ∧ P d := rfl
@[simp] theorem e_lenS : qLenS i ρ P = ∃ ns : List Int, ρ[i]? = some (.scr ns) ∧ P (.int ns.length) := rfl
@[simp] theorem e_ixS : qIxS i q ρ P = ∃ ns : List Int, ρ[i]? = some (.scr ns) ∧ q ρ fun d => ∃ j, d = .int j ∧ ∃ z, atI ns j = some z ∧ P (.int z) := by
  unfold qIxS
  simp only [exists_and_left]
@[simp] theorem e_iList : qIList q ρ PA = q ρ (fun d => ∃ ds, d = .list ds ∧ PA ds) := rfl
@[simp] theorem e_iRng1 : qIRng1 qA ρ PA = qA ρ (fun ds => ∃ j, ds = [.int j] ∧ (-4611686018427387904 ≤ j ∧ j < 4611686018427387904) ∧ PA (rangeD 0 j.toNat)) := rfl
@[simp] theorem e_iRng2 : qIRng2 (qCons qa (qCons qb qNil)) ρ PA = qa ρ (fun x => qb ρ fun y => ∃ i, x = .int i ∧ ∃ j, y = .int j ∧ (-4611686018427387904 ≤ i ∧ i < 4611686018427387904 ∧ -4611686018427387904 ≤ j ∧ j < 4611686018427387904) ∧ PA (rangeD i (j - i).toNat)) := by
  show qa ρ _ = qa ρ _
  congr 1; funext x
  show qb ρ _ = qb ρ _
  congr 1; funext y
  exact propext ⟨fun ⟨d, e, h, p⟩ => by cases h; exact ⟨d, rfl, e, rfl, p⟩, fun ⟨d, h1, e, h2, p⟩ => by subst h1 h2; exact ⟨d, e, rfl, p⟩⟩
@[simp] theorem e_iEnum : qIEnum qA ρ PA = qA ρ (fun ds => ∃ xs, ds = [.list xs] ∧ PA (enumD 0 xs)) := rfl
@[simp] theorem e_iZip : qIZip (qCons qa (qCons qb qNil)) ρ PA = qa ρ (fun x => qb ρ fun y => ∃ xs, x = .list xs ∧ ∃ ys, y = .list ys ∧ PA (zipD xs ys)) := by
  show qa ρ _ = qa ρ _
  congr 1; funext x
  show qb ρ _ = qb ρ _
  congr 1; funext y
  exact propext ⟨fun ⟨d, e, h, p⟩ => by cases h; exact ⟨d, rfl, e, rfl, p⟩, fun ⟨d, h1, e, h2, p⟩ => by subst h1 h2; exact ⟨d, e, rfl, p⟩⟩
@[simp] theorem e_name : qName i d ρ PG = PG (ρ.set i (.val d)) := rfl
@[simp] theorem e_gNil {ds} : qGNil ds ρ PG = (ds = [] ∧ PG ρ) := rfl
@[simp] theorem e_gCons {ds} : qGCons qg qgs (d :: ds) ρ PG = qg d ρ (fun ρ' => qgs ds ρ' PG) :=
  propext ⟨fun ⟨d', r, h, p⟩ => by cases h; exact p, fun p => ⟨d, ds, rfl, p⟩⟩
@[simp] theorem e_gTup {ds} : qGTup i qgs (.tuple ds) ρ PG = (ds.length = i ∧ qgs ds ρ PG) :=
  propext ⟨fun ⟨r, h, p⟩ => by cases h; exact p, fun p => ⟨ds, rfl, p⟩⟩
@[simp] theorem e_lc {vs} : qLc qi qg qt q vs ρ P = qi ρ (fun ds => ds.length ≤ sizeLine ∧ lcRun (fun d k => qg d (wipeR ρ vs) fun ρ2 => qt ρ2 fun b => if b = true then q ρ2 fun y => k (some y) else k none) ds [] fun out => P (.list out)) := rfl
@[simp] theorem e_listRg1 : qListRg1 q ρ P = q ρ (fun d => ∃ n, d = .int n ∧ rgOk 0 n ∧ P (.list (rangeD 0 (n - 0).toNat))) := rfl
@[simp] theorem e_yes : qYes ρ PT = PT true := rfl
@[simp] theorem e_wipe0 : wipeR ρ [] = ρ := rfl
@[simp] theorem e_wipe1 {vs} : wipeR ρ (i :: vs) = (wipeR ρ vs).set i .no := rfl
@[simp] theorem e_getV : getV (.val d) = some d := rfl
@[simp] theorem e_getVo : getV (.old d) = some d := rfl
@[simp] theorem e_getVb : getV (.bor d) = some d := rfl
@[simp] theorem e_getL : getL (.val d) = some d := rfl
@[simp] theorem e_getLo : getL (.old d) = some d := rfl
@[simp] theorem e_getLb : getL (.bor d) = some d := rfl
@[simp] theorem e_getLw : getL (.own d) = some d := rfl
@[simp] theorem e_ownL {ds : List D} : ownSl (.list ds) = .own (.list ds) := rfl
end
/-! walks -/
theorem lcRun_go {α : Type} {step : D → (Option D → Prop) → Prop} {e : α → D} {g : α → Option D} : ∀ (xs : List α) {acc : List D} {P : List D → Prop}, (∀ x ∈ xs, ∀ k : Option D → Prop, k (g x) → step (e x) k) → P (acc ++ xs.filterMap g) → lcRun step (xs.map e) acc P
  | [], acc, P, _, h => by simpa [lcRun] using h
  | x :: xs, acc, P, hs, h => by
    show step (e x) fun o => lcRun step (xs.map e) (acc ++ o.toList) P
    refine hs x List.mem_cons_self _ (lcRun_go xs (fun y hy => hs y (List.mem_cons_of_mem _ hy)) ?_)
    rw [List.filterMap_cons] at h
    cases q : g x with
    | none => rw [q] at h; simpa using h
    | some y => rw [q] at h; simpa using h
theorem lcRun_map {α : Type} {step : D → (Option D → Prop) → Prop} {e : α → D} (g : α → D) (xs : List α) {acc : List D} {P : List D → Prop} (hs : ∀ x ∈ xs, ∀ k : Option D → Prop, k (some (g x)) → step (e x) k) (h : P (acc ++ xs.map g)) : lcRun step (xs.map e) acc P :=
  lcRun_go (g := fun x => some (g x)) xs hs (by rw [List.filterMap_eq_map']; exact h)
theorem lcRun_filter {α : Type} {step : D → (Option D → Prop) → Prop} {e : α → D} (g : α → D) (p : α → Bool) (xs : List α) {acc : List D} {P : List D → Prop} (hs : ∀ x ∈ xs, ∀ k : Option D → Prop, k (if p x = true then some (g x) else none) → step (e x) k) (h : P (acc ++ (xs.filter p).map g)) : lcRun step (xs.map e) acc P := by
  refine lcRun_go (g := fun x => if p x = true then some (g x) else none) xs hs ?_
  have : xs.filterMap (fun x => if p x = true then some (g x) else none) = (xs.filter p).map g := by
    clear hs h
    induction xs with
    | nil => rfl
    | cons x xs ih =>
      rw [List.filterMap_cons, List.filter_cons]
      cases p x <;> simp [ih]
  rw [this]; exact h
theorem forRun_go {α : Type} {qg : QG} {qb : QS} {Dv : VEnds} {e : α → D} (I : Nat → Env → Prop) : ∀ (xs : List α) (n : Nat) {ρ : Env},
    (∀ i x ρ, xs[i]? = some x → I (n + i) ρ → ∀ K : Env → Prop, (∀ ρ', I (n + i + 1) ρ' → K ρ') → qg (e x) ρ fun ρ' => qb { Dv with nx := K, ct := K, bk := Dv.nx } ρ') →
    I n ρ → (∀ ρ, I (n + xs.length) ρ → Dv.nx ρ) → forRun qg qb (xs.map e) Dv ρ
  | [], n, ρ, _, h, fin => fin ρ h
  | x :: xs, n, ρ, hs, h, fin => by
    refine hs 0 x ρ rfl h _ fun ρ' h' => ?_
    exact forRun_go I xs (n + 1) (fun i y ρ2 hy h2 K hK => by
      have := hs (i + 1) y ρ2 (by simpa using hy) (by rw [show n + (i + 1) = n + 1 + i from by omega]; exact h2) K (fun ρ3 h3 => hK ρ3 (by rw [show n + 1 + i + 1 = n + (i + 1) + 1 from by omega]; exact h3))
      exact this) h' (fun ρ2 h2 => fin ρ2 (by rw [List.length_cons, show n + (xs.length + 1) = n + 1 + xs.length from by omega]; exact h2))
/-- for x in xs (the Lean list behind it) -/
theorem forRun_inv {α : Type} {qg : QG} {qb : QS} {Dv : VEnds} {e : α → D} (I : Nat → Env → Prop) (xs : List α) {ρ : Env} (h0 : I 0 ρ)
    (hs : ∀ i x ρ, xs[i]? = some x → I i ρ → ∀ K : Env → Prop, (∀ ρ', I (i + 1) ρ' → K ρ') → qg (e x) ρ fun ρ' => qb { Dv with nx := K, ct := K, bk := Dv.nx } ρ')
    (fin : ∀ ρ, I xs.length ρ → Dv.nx ρ) : forRun qg qb (xs.map e) Dv ρ :=
  forRun_go I xs 0 (fun i x ρ hx h K hK => hs i x ρ hx (by simpa using h) K (by simpa using hK)) h0 (by simpa using fin)
/-- for i in range(n) -/
theorem forRun_rng {qg : QG} {qb : QS} {Dv : VEnds} (I : Nat → Env → Prop) (n : Nat) {ρ : Env} (h0 : I 0 ρ)
    (hs : ∀ i ρ, i < n → I i ρ → ∀ K : Env → Prop, (∀ ρ', I (i + 1) ρ' → K ρ') → qg (.int (i : Nat)) ρ fun ρ' => qb { Dv with nx := K, ct := K, bk := Dv.nx } ρ')
    (fin : ∀ ρ, I n ρ → Dv.nx ρ) : forRun qg qb (rangeD 0 n) Dv ρ := by
  have e : rangeD 0 n = (List.range n).map fun i : Nat => (.int (i : Nat) : D) := by unfold rangeD; congr 1; funext i; simp
  rw [e]
  refine forRun_inv I (List.range n) h0 (fun i x ρ hx h K hK => ?_) (by simpa using fin)
  obtain ⟨h1, h2⟩ := List.getElem?_eq_some_iff.mp hx
  rw [List.getElem_range] at h2
  subst h2
  exact hs i ρ (by simpa using h1) h K hK
theorem rangeD0 (n : Nat) : rangeD 0 n = (List.range n).map fun i : Nat => (.int (i : Nat) : D) := by unfold rangeD; congr 1; funext i; simp
/-! data with a Lean type -/
abbrev tD {α : Type} [DecidableEq α] [Datum α] (a : α) : D := Datum.toD a
instance : Datum Nat where
  toD n := .int (n : Int)
  plain _ := rfl
  eqv a b := by simp only [PyData.eqv]; rw [PySem.W.beq_decide]; exact decide_eq_decide.mpr Int.ofNat_inj
  depth := 0
  depth_le _ := Nat.le_refl _
instance : DatumOrd Nat where
  lt a b := decide (a < b)
  alike a b := by show PySem.W.alike (.int a) (.int b) = true; simp only [PySem.W.alike]
  notNone a := fun e => by cases e
  lt_eq a b := (PySem.W.dataLt_int a b).trans (decide_eq_decide.mpr Int.ofNat_lt)
section
variable {α β γ : Type} [DecidableEq α] [DecidableEq β] [DecidableEq γ]
theorem tD_list [Datum α] (xs : List α) : tD xs = .list (xs.map tD) := rfl
theorem tD_nat (n : Nat) : tD n = .int (n : Int) := rfl
theorem tD_int (n : Int) : tD n = .int n := rfl
theorem tD_pair [Datum α] [Datum β] (a : α) (b : β) : tD (a, b) = .tuple [tD a, tD b] := rfl
theorem flat_tD [Datum α] (hd : Datum.depth α ≤ 60 := by decide) (a : α) : flatD (tD a) = true := by
  unfold flatD
  have := Datum.depth_le a
  simp [Datum.plain, show (tD a).depth ≤ 60 from by unfold tD; omega]
theorem eq_tD [Datum α] (a b : α) (hd : Datum.depth α ≤ 60 := by decide) : oEq (tD a) (tD b) = some (.bool (decide (a = b))) := by
  unfold oEq
  rw [if_pos ⟨flat_tD hd a, flat_tD hd b⟩, Datum.eqv]
theorem ne_tD [Datum α] (a b : α) (hd : Datum.depth α ≤ 60 := by decide) : oNe (tD a) (tD b) = some (.bool (!decide (a = b))) := by
  unfold oNe
  rw [if_pos ⟨flat_tD hd a, flat_tD hd b⟩, Datum.eqv]
theorem ord_tD [DatumOrd α] (a b : α) (hd : Datum.depth α ≤ 60 := by decide) : ordD (tD a) (tD b) = true := by
  have h1 := Datum.depth_le a
  have h2 := DatumOrd.notNone a
  have h3 := DatumOrd.alike a b
  unfold ordD tD
  rw [h3]
  generalize Datum.toD a = d at h1 h2
  have h4 : d.depth ≤ 60 := by omega
  cases d <;> simp_all
theorem lt_tD [DatumOrd α] (a b : α) (hd : Datum.depth α ≤ 60 := by decide) : oLt (tD a) (tD b) = some (PyData.bool (DatumOrd.lt a b)) := by
  unfold oLt
  rw [if_pos ⟨ord_tD a b hd, flat_tD hd a, flat_tD hd b⟩, DatumOrd.lt_eq]
theorem flat_map [Datum α] (xs : List α) (hd : Datum.depth α + 1 ≤ 60 := by decide) : flatD (.list (xs.map tD)) = true := flat_tD (α := List α) hd xs
theorem oIn_tD [Datum α] (x : α) (xs : List α) (hd : Datum.depth α + 1 ≤ 60 := by decide) : oIn (tD x) (.list (xs.map tD)) = some (.bool (decide (x ∈ xs))) := by
  show (if flatD (tD x) = true ∧ flatD (.list (xs.map tD)) = true then some (PyData.bool ((xs.map tD).any fun z => PyData.eqv z (tD x))) else none) = _
  rw [if_pos ⟨flat_tD (by omega) x, flat_map xs hd⟩]
  congr 2
  rw [Bool.eq_iff_iff, List.any_eq_true, decide_eq_true_eq]
  constructor
  · rintro ⟨y, hy, h⟩
    obtain ⟨z, hz, rfl⟩ := List.mem_map.mp hy
    rw [Datum.eqv, decide_eq_true_eq] at h
    exact h ▸ hz
  · intro h
    exact ⟨tD x, List.mem_map.mpr ⟨x, h, rfl⟩, by rw [Datum.eqv]; simp⟩
theorem oNotIn_tD [Datum α] (x : α) (xs : List α) (hd : Datum.depth α + 1 ≤ 60 := by decide) : oNotIn (tD x) (.list (xs.map tD)) = some (.bool (!decide (x ∈ xs))) := by
  have h := oIn_tD x xs hd
  change (if flatD (tD x) = true ∧ flatD (.list (xs.map tD)) = true then some (PyData.bool ((xs.map tD).any fun z => PyData.eqv z (tD x))) else none) = _ at h
  show (if flatD (tD x) = true ∧ flatD (.list (xs.map tD)) = true then some (PyData.bool (!(xs.map tD).any fun z => PyData.eqv z (tD x))) else none) = _
  rw [if_pos ⟨flat_tD (by omega) x, flat_map xs hd⟩] at h ⊢
  simp only [Option.some.injEq, PyData.bool.injEq] at h ⊢
  rw [h]
theorem alikesB_tD [DatumOrd α] (xs : List α) : alikesB (xs.map tD) = true := by
  unfold alikesB
  simp only [List.all_eq_true, List.mem_map]
  rintro _ ⟨a, _, rfl⟩ _ ⟨b, _, rfl⟩
  exact DatumOrd.alike a b
/-- a sort's answer, typed -/
def srt [DatumOrd α] (xs : List α) : List α := xs.mergeSort fun a b => !DatumOrd.lt b a
theorem sortD_tD [DatumOrd α] (xs : List α) : sortD (xs.map tD) = (srt xs).map tD := by
  unfold sortD srt
  refine (List.map_mergeSort fun a _ b _ => ?_).symm
  show (!DatumOrd.lt b a) = (!PySem.W.dataLt (tD b) (tD a))
  rw [DatumOrd.lt_eq]
theorem oSorted_tD [DatumOrd α] (xs : List α) (hs : sortableB (xs.map tD) = true) (hl : xs.length ≤ sizeLine) (hd : Datum.depth α + 1 ≤ 60 := by decide) : oSorted [.list (xs.map tD)] = some (.list ((srt xs).map tD)) := by
  show (if flatD (.list (xs.map tD)) = true ∧ alikesB (xs.map tD) = true ∧ sortableB (xs.map tD) = true ∧ (xs.map tD).length ≤ sizeLine then some (PyData.list (sortD (xs.map tD))) else none) = _
  rw [if_pos ⟨flat_map xs hd, alikesB_tD xs, hs, by simpa using hl⟩, sortD_tD]
theorem sortable_nat (xs : List Nat) : sortableB (xs.map tD) = true := by
  unfold sortableB
  rw [Bool.or_eq_true]
  right
  simp only [List.all_eq_true, List.mem_map]
  rintro _ ⟨a, _, rfl⟩
  rfl
theorem sortable_int (xs : List Int) : sortableB (xs.map tD) = true := by
  unfold sortableB
  rw [Bool.or_eq_true]
  right
  simp only [List.all_eq_true, List.mem_map]
  rintro _ ⟨a, _, rfl⟩
  rfl
theorem sortable_pair [Datum α] [Datum β] (xs : List (α × β)) : sortableB (xs.map tD) = true := by
  unfold sortableB
  rw [Bool.or_eq_true]
  left
  simp only [List.all_eq_true, List.mem_map]
  rintro _ ⟨a, _, rfl⟩
  rfl
theorem srt_perm [DatumOrd α] (xs : List α) : (srt xs).Perm xs := List.mergeSort_perm _ _
theorem srt_nat {xs : List Nat} {n : Nat} (h : xs.Perm (List.range n)) : srt xs = List.range n := by
  have e : (fun a b : Nat => !DatumOrd.lt b a) = fun a b : Nat => decide (a ≤ b) := by
    funext a b
    show (!decide (b < a)) = _
    rw [Bool.eq_iff_iff]; simp
  unfold srt
  rw [e]
  refine List.Perm.eq_of_pairwise (le := fun a b => a ≤ b) (fun a b _ _ h1 h2 => Nat.le_antisymm h1 h2) ?_ ?_ ((List.mergeSort_perm _ _).trans h)
  · exact (List.pairwise_mergeSort (le := fun a b : Nat => decide (a ≤ b)) (fun a b c h1 h2 => by simp at *; omega) (fun a b => by simp; omega) xs).imp (by simp)
  · exact List.pairwise_lt_range.imp Nat.le_of_lt
/-! subscripts -/
theorem ixN_nat {n i : Nat} (h : i < n) : ixN n (i : Int) = some i := by
  unfold ixN
  rw [if_pos (by omega), if_pos (by omega)]
  simp
theorem ix_nat {ds : List D} {i : Nat} {d : D} (h : ds[i]? = some d) : oIx (.list ds) (.int (i : Int)) = some d := by
  have := (List.getElem?_eq_some_iff.mp h).1
  show atI ds (i : Int) = _
  unfold atI
  rw [ixN_nat this]
  exact h
theorem ix_map {xs : List α} {i : Nat} {x : α} {f : α → D} (h : xs[i]? = some x) : oIx (.list (xs.map f)) (.int (i : Int)) = some (f x) := ix_nat (by rw [List.getElem?_map, h]; rfl)
@[simp] theorem ix_t0 {d : D} {ds : List D} : oIx (.tuple (d :: ds)) (.int 0) = some d := by
  have := ix_nat (ds := d :: ds) (i := 0) rfl
  exact this
@[simp] theorem ix_l0 {d : D} {ds : List D} : oIx (.list (d :: ds)) (.int 0) = some d := ix_nat (ds := d :: ds) (i := 0) rfl
@[simp] theorem ix_l1 {d e : D} {ds : List D} : oIx (.list (d :: e :: ds)) (.int 1) = some e := ix_nat (ds := d :: e :: ds) (i := 1) rfl
@[simp] theorem ix_l2 {d e f : D} {ds : List D} : oIx (.list (d :: e :: f :: ds)) (.int 2) = some f := ix_nat (ds := d :: e :: f :: ds) (i := 2) rfl
@[simp] theorem ix_t1 {d e : D} {ds : List D} : oIx (.tuple (d :: e :: ds)) (.int 1) = some e := by
  have := ix_nat (ds := d :: e :: ds) (i := 1) rfl
  exact this
@[simp] theorem ix_t2 {d e f : D} {ds : List D} : oIx (.tuple (d :: e :: f :: ds)) (.int 2) = some f := by
  have := ix_nat (ds := d :: e :: f :: ds) (i := 2) rfl
  exact this
end
/-! whole numbers -/
@[simp] theorem add_int (i j : Int) : oAdd (.int i) (.int j) = some (.int (i + j)) := rfl
@[simp] theorem sub_int (i j : Int) : oSub (.int i) (.int j) = some (.int (i - j)) := rfl
theorem mul_int {i j : Int} (h : (-18446744073709551616 < i ∧ i < 18446744073709551616) ∨ (-18446744073709551616 < j ∧ j < 18446744073709551616)) : oMul (.int i) (.int j) = some (.int (i * j)) := by
  show (fMul i j).map PyData.int = _
  unfold fMul
  rw [if_pos h]; rfl
theorem div_int {i j : Int} (h : 0 < j ∧ j < 1073741824) : oDiv (.int i) (.int j) = some (.int (i / j)) := by
  show (fDiv i j).map PyData.int = _
  unfold fDiv
  rw [if_pos h]; rfl
theorem mod_int {i j : Int} (h : 0 < j) : oMod (.int i) (.int j) = some (.int (i % j)) := by
  show (fMod i j).map PyData.int = _
  unfold fMod
  rw [if_pos h]; rfl
@[simp] theorem eq_int (i j : Int) : oEq (.int i) (.int j) = some (.bool (decide (i = j))) := eq_tD (α := Int) i j
@[simp] theorem ne_int (i j : Int) : oNe (.int i) (.int j) = some (.bool (!decide (i = j))) := ne_tD (α := Int) i j
@[simp] theorem eq_bool (i j : Bool) : oEq (.bool i) (.bool j) = some (.bool (decide (i = j))) := eq_tD (α := Bool) i j
@[simp] theorem ne_bool (i j : Bool) : oNe (.bool i) (.bool j) = some (.bool (!decide (i = j))) := ne_tD (α := Bool) i j
@[simp] theorem ne_str (i j : Str) : oNe (.str i) (.str j) = some (.bool (!decide (i = j))) := ne_tD (α := Str) i j
@[simp] theorem eq_str (i j : Str) : oEq (.str i) (.str j) = some (.bool (decide (i = j))) := eq_tD (α := Str) i j
@[simp] theorem lt_int (i j : Int) : oLt (.int i) (.int j) = some (.bool (decide (i < j))) := lt_tD (α := Int) i j
@[simp] theorem gt_int (i j : Int) : oGt (.int i) (.int j) = some (.bool (decide (j < i))) := lt_tD (α := Int) j i
@[simp] theorem le_int (i j : Int) : oLe (.int i) (.int j) = some (.bool (decide (i ≤ j))) := by
  unfold oLe
  rw [if_pos ⟨ord_tD (α := Int) i j, flat_tD (α := Int) (by decide) i, flat_tD (α := Int) (by decide) j⟩, PySem.W.dataLt_int, PySem.W.not_lt_int]
@[simp] theorem ge_int (i j : Int) : oGe (.int i) (.int j) = some (.bool (decide (j ≤ i))) := by
  unfold oGe
  rw [if_pos ⟨ord_tD (α := Int) i j, flat_tD (α := Int) (by decide) i, flat_tD (α := Int) (by decide) j⟩, PySem.W.dataLt_int, PySem.W.not_lt_int]
theorem intsD_mapf {α : Type} (f : α → Int) : ∀ xs : List α, intsD (xs.map fun x => (.int (f x) : D)) = some (xs.map f)
  | [] => rfl
  | x :: xs => by rw [List.map_cons]; show (intsD _).map _ = _; rw [intsD_mapf f xs]; rfl
theorem boolsD_mapf {α : Type} (f : α → Bool) : ∀ xs : List α, boolsD (xs.map fun x => (.bool (f x) : D)) = some (xs.map f)
  | [] => rfl
  | x :: xs => by rw [List.map_cons]; show (boolsD _).map _ = _; rw [boolsD_mapf f xs]; rfl
theorem sum_map {α : Type} (f : α → Int) (xs : List α) : oSum [.list (xs.map fun x => (.int (f x) : D))] = some (.int (xs.map f).sum) := by
  show (intsD _).map _ = _
  rw [intsD_mapf]; rfl
theorem any_map {α : Type} (f : α → Bool) (xs : List α) : oAny [.list (xs.map fun x => (.bool (f x) : D))] = some (.bool (xs.any f)) := by
  show (boolsD _).map _ = _
  rw [boolsD_mapf]; simp [List.any_map, Function.comp_def]
theorem all_map {α : Type} (f : α → Bool) (xs : List α) : oAll [.list (xs.map fun x => (.bool (f x) : D))] = some (.bool (xs.all f)) := by
  show (boolsD _).map _ = _
  rw [boolsD_mapf]; simp [List.all_map, Function.comp_def]
@[simp] theorem len_list (ds : List D) : oLen [.list ds] = some (.int ds.length) := rfl
@[simp] theorem len_tuple (ds : List D) : oLen [.tuple ds] = some (.int ds.length) := rfl
@[simp] theorem list_list (ds : List D) : oList [.list ds] = some (.list ds) := rfl
@[simp] theorem int_int (i : Int) : oInt [.int i] = some (.int i) := rfl
@[simp] theorem rev_list (ds : List D) : oRev (.list ds) = some (.list ds.reverse) := rfl
theorem append_ok {ds : List D} {d : D} (h : ds.length < sizeLine) : fAppend ds [d] = some (ds ++ [d]) := by
  unfold fAppend; simp [h]
theorem cat_ok {xs ys : List D} (h : xs.length + ys.length ≤ sizeLine) : oAdd (.list xs) (.list ys) = some (.list (xs ++ ys)) := by
  show (if _ then _ else _) = _
  rw [if_pos h]
theorem big : (16777216 : Nat) ≤ sizeLine := by rw [sizeLine_eq]; decide
theorem mul_list {ds : List D} {n : Nat} (h : n < 9223372036854775808) (h2 : ds.length * n ≤ 16777216) : oMul (.list ds) (.int (n : Int)) = some (.list (List.replicate n ds).flatten) := by
  have h3 : ds.length * n ≤ sizeLine := Nat.le_trans h2 big
  unfold oMul
  simp only [Int.toNat_natCast]
  rw [if_pos ⟨by omega, by omega, h3⟩]
theorem mul_list1 {d : D} {n : Nat} (h : n ≤ 16777216) : oMul (.list [d]) (.int (n : Int)) = some (.list (List.replicate n d)) := by
  rw [mul_list (by omega) (by simpa using h)]
  simp
/-! repr -/
theorem shown_list_le {B : Nat} {ds : List D} (h : ∀ d ∈ ds, d.shown.length ≤ B) : (PyData.list ds).shown.length ≤ ds.length * (B + 2) + 3 := by
  have e0 : (PyData.list ds).shown = listText (PyData.shownAll ds) := by first | rfl | simp only [PyData.shown]
  rw [e0]
  have h1 := listText_len_le (PyData.shownAll ds)
  have h2 : ∀ ds : List D, (∀ d ∈ ds, d.shown.length ≤ B) → ((PyData.shownAll ds).map (·.length)).sum + 2 * (PyData.shownAll ds).length ≤ ds.length * (B + 2) := by
    intro ds
    induction ds with
    | nil => intro _; simp [PyData.shownAll]
    | cons d ds ih =>
      intro h
      have a := ih fun x hx => h x (List.mem_cons_of_mem _ hx)
      have b := h d List.mem_cons_self
      simp only [PyData.shownAll, List.map_cons, List.sum_cons, List.length_cons, Nat.add_mul, Nat.one_mul] at a ⊢
      omega
  have := h2 ds h
  omega
theorem shown_tuple_le {B : Nat} {ds : List D} (h : ∀ d ∈ ds, d.shown.length ≤ B) : (PyData.tuple ds).shown.length ≤ ds.length * (B + 2) + 3 := by
  have e0 : (PyData.tuple ds).shown = tupleText (PyData.shownAll ds) := by first | rfl | simp only [PyData.shown]
  rw [e0]
  have h1 := tupleText_len_le (PyData.shownAll ds)
  have h2 : ∀ ds : List D, (∀ d ∈ ds, d.shown.length ≤ B) → ((PyData.shownAll ds).map (·.length)).sum + 2 * (PyData.shownAll ds).length ≤ ds.length * (B + 2) := by
    intro ds
    induction ds with
    | nil => intro _; simp [PyData.shownAll]
    | cons d ds ih =>
      intro h
      have a := ih fun x hx => h x (List.mem_cons_of_mem _ hx)
      have b := h d List.mem_cons_self
      simp only [PyData.shownAll, List.map_cons, List.sum_cons, List.length_cons, Nat.add_mul, Nat.one_mul] at a ⊢
      omega
  have := h2 ds h
  omega
theorem showAll_of {ds : List D} : (∀ d ∈ ds, d.showable = true) → PyData.showableAll ds = true := by
  induction ds with
  | nil => intro _; simp [PyData.showableAll]
  | cons d ds ih =>
    intro h
    simp only [PyData.showableAll, h d List.mem_cons_self, ih fun x hx => h x (List.mem_cons_of_mem _ hx), Bool.and_self]
theorem showable_int {i : Int} (h : i.natAbs < 10 ^ 12) : (PyData.int i).showable = true := by
  simp only [PyData.showable, decide_eq_true_eq]
  have h2 : i.natAbs < 2 ^ 1920 := Nat.lt_of_lt_of_le h (by decide)
  by_cases h0 : i.natAbs = 0
  · rw [h0]; decide
  · exact (Nat.log2_lt h0).mpr h2
theorem repr_ok {d : D} (h1 : flatD d = true) (h2 : d.showable = true) (h3 : d.shown.length ≤ sizeLine) : oRepr [d] = some (.str d.shown) := by
  unfold oRepr
  simp [h1, h2, h3]
theorem repr_int {i : Int} (h : i.natAbs < 10 ^ 12) : oRepr [.int i] = some (.str (PyData.int i).shown) :=
  repr_ok (flat_tD (α := Int) (by decide) i) (showable_int h) (Nat.le_trans (PyData.shown_int_le h) (Nat.le_trans (by decide) big))
theorem repr_none : oRepr [.none] = some (.str (PyData.none).shown) :=
  repr_ok (by decide) (by simp [PyData.showable]) (Nat.le_trans (show (PyData.shown .none).length ≤ 4 from by decide) (Nat.le_trans (by decide) big))
theorem repr_list {xs : List D} {B : Nat} (h1 : flatD (.list xs) = true) (h2 : ∀ d ∈ xs, d.showable = true) (h3 : ∀ d ∈ xs, d.shown.length ≤ B) (h4 : xs.length * (B + 2) + 3 ≤ 16777216) : oRepr [.list xs] = some (.str (PyData.list xs).shown) :=
  repr_ok h1 (by simp only [PyData.showable]; exact showAll_of h2) (Nat.le_trans (shown_list_le h3) (Nat.le_trans h4 big))
theorem repr_ints {xs : List Int} (h : ∀ i ∈ xs, i.natAbs < 10 ^ 12) (hl : xs.length ≤ 1000000) : oRepr [.list (xs.map .int)] = some (.str (PyData.list (xs.map .int)).shown) := by
  refine repr_list (B := 13) (flat_tD (α := List Int) (by decide) xs) ?_ ?_ (by rw [List.length_map]; omega)
  · simp only [List.mem_map]; rintro _ ⟨i, hi, rfl⟩; exact showable_int (h i hi)
  · simp only [List.mem_map]; rintro _ ⟨i, hi, rfl⟩; exact PyData.shown_int_le (h i hi)
theorem enumD_eq {α : Type} (f : α → D) : ∀ (xs : List α) (n : Nat), enumD n (xs.map f) = (xs.zipIdx n).map fun p => .tuple [.int (p.2 : Nat), f p.1]
  | [], n => rfl
  | x :: xs, n => by rw [List.map_cons, enumD, enumD_eq f xs (n + 1), List.zipIdx_cons, List.map_cons]
end VL
namespace VL
open PySem PySem.Spec PyProof.Rows L2
open PySem.W (Datum DatumOrd)
theorem srt_total {α : Type} [DecidableEq α] [DatumOrd α] : PySem.W.TotalLe (fun a b : α => !DatumOrd.lt b a) := by
  have t := PySem.W.sortLe_total (PyProof.Rows.listOrd PyProof.Rows.itemOrd) false (fun a : α => PySem.W.keyToks (tD a))
  have e : PySem.W.sortLe (PyProof.Rows.listOrd PyProof.Rows.itemOrd) false (fun a : α => PySem.W.keyToks (tD a)) = (fun a b : α => !DatumOrd.lt b a) := by
    funext a b
    show (!PySem.W.dataLt (tD b) (tD a)) = _
    rw [DatumOrd.lt_eq]
  rw [← e]; exact t
theorem srt_pairwise {α : Type} [DecidableEq α] [DatumOrd α] (xs : List α) : (srt xs).Pairwise fun a b => DatumOrd.lt b a = false :=
  (PySem.W.sort_pairwise srt_total xs).imp fun {a b} h => by simpa using h
/-- the least of the sorted -/
theorem srt_head {α : Type} [DecidableEq α] [DatumOrd α] {xs : List α} {y : α} {r : List α} (e : srt xs = y :: r) : y ∈ xs ∧ ∀ x ∈ xs, x ≠ y → DatumOrd.lt x y = false := by
  have h1 := srt_perm xs
  have h2 := srt_pairwise xs
  rw [e] at h1 h2
  refine ⟨h1.subset List.mem_cons_self, fun x hx hne => ?_⟩
  have := h1.symm.subset hx
  rcases List.mem_cons.mp this with q | q
  · exact absurd q hne
  · exact (List.pairwise_cons.mp h2).1 x q
theorem perm_sum {xs ys : List Int} (h : xs.Perm ys) : xs.sum = ys.sum := by
  induction h with
  | nil => rfl
  | cons x _ ih => simp [ih]
  | swap x y l => simp; omega
  | trans _ _ a b => exact a.trans b
theorem place_tD {α : Type} [DecidableEq α] [Datum α] (x : α) : ∀ xs : List α, x ∈ xs → ∃ j, (xs.map tD).findIdx? (fun y => PyData.eqv y (tD x)) = some j ∧ (xs.map tD).eraseIdx j = (xs.erase x).map tD
  | [], h => by simp at h
  | y :: ys, h => by
    rw [List.map_cons, List.findIdx?_cons, Datum.eqv]
    by_cases e : y = x
    · subst e
      exact ⟨0, by simp, by simp⟩
    · have hx : x ∈ ys := by
        rcases List.mem_cons.mp h with q | q
        · exact absurd q.symm e
        · exact q
      obtain ⟨j, h1, h2⟩ := place_tD x ys hx
      refine ⟨j + 1, by simp [e, h1], ?_⟩
      rw [List.eraseIdx_cons_succ, h2, List.erase_cons_tail (by simpa using e), List.map_cons]
theorem remove_tD {α : Type} [DecidableEq α] [Datum α] {xs : List α} {x : α} (hl : xs.length ≤ 16777216) (hx : x ∈ xs) (hd : Datum.depth α + 1 ≤ 60 := by decide) : fRemove (xs.map tD) [tD x] = some ((xs.erase x).map tD) := by
  obtain ⟨j, h1, h2⟩ := place_tD x xs hx
  have := big
  show (if flatD (tD x) = true ∧ flatD (.list (xs.map tD)) = true ∧ (xs.map tD).length ≤ sizeLine then (PySem.SeqAt.dataPlace (xs.map tD) (tD x)).map (xs.map tD).eraseIdx else none) = _
  rw [if_pos ⟨flat_tD (by omega) x, flat_map xs hd, by rw [List.length_map]; omega⟩]
  unfold PySem.SeqAt.dataPlace
  rw [h1, Option.map_some, h2]
@[simp] theorem e_sl {f : D → Option Int → Option Int → Option D} {q : QE} {ql qh : QO} {ρ : Env} {P : D → Prop} : qSl f q ql qh ρ P = q ρ (fun d => ql ρ fun lo => qh ρ fun hi => ∃ z, f d lo hi = some z ∧ P z) := rfl
@[simp] theorem e_none {ρ : Env} {P : Option Int → Prop} : qNone ρ P = P none := rfl
@[simp] theorem e_some {q : QE} {ρ : Env} {P : Option Int → Prop} : qSome q ρ P = q ρ (fun d => ∃ i, d = .int i ∧ P (some i)) := rfl
theorem slice_to {ds : List D} {i : Nat} : oSlice (.list ds) none (some (i : Int)) = some (.list (ds.take i)) := by
  show some (PyData.list (cutL ds none (some (i : Int)))) = _
  unfold cutL
  rw [HT.sIx_none, HT.sIx_nat, List.drop_zero, Nat.sub_zero]
  congr 2
  by_cases h : i ≤ ds.length
  · rw [Nat.min_eq_left h]
  · rw [Nat.min_eq_right (by omega), List.take_of_length_le (by omega), List.take_of_length_le (by omega)]
theorem slice_from {ds : List D} {i : Nat} : oSlice (.list ds) (some (i : Int)) none = some (.list (ds.drop i)) := by
  show some (PyData.list (cutL ds (some (i : Int)) none)) = _
  unfold cutL
  rw [HT.sIx_none, HT.sIx_nat]
  congr 2
  by_cases h : i ≤ ds.length
  · rw [Nat.min_eq_left h, List.take_of_length_le (by simp)]
  · rw [Nat.min_eq_right (by omega), Nat.sub_self, List.take_zero, List.drop_of_length_le (by omega)]
theorem slice_last {ds : List D} {d : D} : oSlice (.list (ds ++ [d])) none (some (-1)) = some (.list ds) := by
  show some (PyData.list (cutL (ds ++ [d]) none (some (-1)))) = _
  unfold cutL
  have e : HT.sIx (ds ++ [d]).length (ds ++ [d]).length (some (-1)) = ds.length := by
    simp [HT.sIx]; omega
  rw [HT.sIx_none, e]
  simp
/-! lending, slot by slot -/
def lendS : Sl → Sl
  | .val d => .old d
  | s => s
def unlendS : Sl → Sl
  | .old d => .val d
  | .bor d => .own d
  | .val d => if isSc d = true then .val d else .no
  | .scr ns => .scr ns
  | _ => .no
def okS : Sl → Bool
  | .own _ => false
  | .bor _ => false
  | .old _ => false
  | _ => true
def nbS : Sl → Bool
  | .bor _ => false
  | _ => true
@[simp] theorem okS_no : okS .no = true := rfl
@[simp] theorem okS_val {d : D} : okS (.val d) = true := rfl
@[simp] theorem okS_scr {ns : List Int} : okS (.scr ns) = true := rfl
@[simp] theorem nbS_no : nbS .no = true := rfl
@[simp] theorem nbS_val {d : D} : nbS (.val d) = true := rfl
@[simp] theorem nbS_old {d : D} : nbS (.old d) = true := rfl
@[simp] theorem nbS_own {d : D} : nbS (.own d) = true := rfl
@[simp] theorem nbS_scr {ns : List Int} : nbS (.scr ns) = true := rfl
@[simp] theorem lendS_val {d : D} : lendS (.val d) = .old d := rfl
@[simp] theorem lendS_scr {ns : List Int} : lendS (.scr ns) = .scr ns := rfl
theorem lend_eq (i : Nat) (d : D) (ρ : Env) : lend i d ρ = (ρ.map lendS).set i (.bor d) := by
  unfold lend
  congr 2
theorem unlend_eq (ρ : Env) : unlend ρ = ρ.map unlendS := by
  unfold unlend
  congr 1
def lendOkR : Nat → Env → Bool
  | _, [] => true
  | 0, _ :: r => r.all okS
  | i + 1, s :: r => okS s && lendOkR i r
def borOkR : Nat → Env → Bool
  | _, [] => true
  | 0, _ :: r => r.all nbS
  | i + 1, s :: r => nbS s && borOkR i r
theorem all_at {p : Sl → Bool} : ∀ {r : Env} {j : Nat} {s : Sl}, r.all p = true → r[j]? = some s → p s = true := fun h e => List.all_eq_true.mp h _ (List.mem_of_getElem? e)
theorem lendOkR_at : ∀ (i : Nat) (ρ : Env) (j : Nat) (s : Sl), lendOkR i ρ = true → ρ[j]? = some s → j ≠ i → okS s = true
  | _, [], j, s, _, e, _ => by simp at e
  | 0, _ :: r, 0, s, _, _, n => (n rfl).elim
  | 0, _ :: r, j + 1, s, h, e, _ => all_at (r := r) (j := j) h (by simpa using e)
  | i + 1, x :: r, 0, s, h, e, _ => by
    simp only [lendOkR, Bool.and_eq_true] at h
    simp at e; subst e; exact h.1
  | i + 1, x :: r, j + 1, s, h, e, n => by
    simp only [lendOkR, Bool.and_eq_true] at h
    exact lendOkR_at i r j s h.2 (by simpa using e) (by omega)
theorem borOkR_at : ∀ (i : Nat) (ρ : Env) (j : Nat) (s : Sl), borOkR i ρ = true → ρ[j]? = some s → j ≠ i → nbS s = true
  | _, [], j, s, _, e, _ => by simp at e
  | 0, _ :: r, 0, s, _, _, n => (n rfl).elim
  | 0, _ :: r, j + 1, s, h, e, _ => all_at (r := r) (j := j) h (by simpa using e)
  | i + 1, x :: r, 0, s, h, e, _ => by
    simp only [borOkR, Bool.and_eq_true] at h
    simp at e; subst e; exact h.1
  | i + 1, x :: r, j + 1, s, h, e, n => by
    simp only [borOkR, Bool.and_eq_true] at h
    exact borOkR_at i r j s h.2 (by simpa using e) (by omega)
theorem lendOk_of {i : Nat} {ρ : Env} (h : lendOkR i ρ = true) : lendOk i ρ = true := by
  unfold lendOk
  rw [List.all_eq_true]
  intro j hj
  by_cases e : j = i
  · simp [e]
  · have hl : j < ρ.length := List.mem_range.mp hj
    have := lendOkR_at i ρ j ρ[j] h (List.getElem?_eq_getElem hl) e
    rw [List.getElem?_eq_getElem hl, Bool.or_eq_true]
    right
    revert this
    generalize ρ[j] = s
    cases s <;> simp [okS]
theorem borOk_of {i : Nat} {ρ : Env} (h : borOkR i ρ = true) : borOk i ρ = true := by
  unfold borOk
  rw [List.all_eq_true]
  intro j hj
  by_cases e : j = i
  · simp [e]
  · have hl : j < ρ.length := List.mem_range.mp hj
    have := borOkR_at i ρ j ρ[j] h (List.getElem?_eq_getElem hl) e
    rw [List.getElem?_eq_getElem hl, Bool.or_eq_true]
    right
    revert this
    generalize ρ[j] = s
    cases s <;> simp [nbS]
theorem nb_lend {s : Sl} (h : okS s = true) : nbS (lendS s) = true := by cases s <;> simp [okS] at h <;> rfl
theorem ok_unlend {s : Sl} (h : nbS s = true) : okS (unlendS s) = true := by
  cases s with
  | bor d => simp [nbS] at h
  | val d => simp only [unlendS]; split <;> rfl
  | _ => rfl
theorem sum_bound {xs : List Int} {B : Int} (h : ∀ x ∈ xs, 0 ≤ x ∧ x ≤ B) : 0 ≤ xs.sum ∧ xs.sum ≤ B * xs.length := by
  induction xs with
  | nil => simp
  | cons x xs ih =>
    have a := ih fun y hy => h y (List.mem_cons_of_mem _ hy)
    have b := h x List.mem_cons_self
    rw [List.sum_cons, List.length_cons]
    have : B * ((xs.length + 1 : Nat) : Int) = B * xs.length + B := by rw [Int.natCast_add, Int.mul_add]; simp
    omega
end VL
namespace P32
open PySem VL L2
/- is_job
N: 0:job 1:pages 2:weight 3:date -/
def N_is_job : List Str := ["job", "pages", "weight", "date"]
def q_is_job  : QS :=
  (qSeq (qAsg (qVar 0) (qGTup 3 (qGCons (qName 1) (qGCons (qName 2) (qGCons (qName 3) qGNil)))))
 (qRet (qAndV (qChain oLe oLe (qC (.int 1)) (qVar 1) (qC (.int 100))) (qAndV (qChain oLe oLe (qC (.int 0)) (qVar 2) (qC (.int 100))) (qChain oLe oLe (qC (.int 0)) (qVar 3) (qC (.int 1000)))))))
/- check_jobs
N: 0:jobs 1:k 2:job -/
def N_check_jobs : List Str := ["jobs", "k", "job"]
def q_check_jobs (S_is_job : VL.Spec) : QS :=
  (qSeq (qIfS (qNot (qTst (qChain oLe oLe (qC (.int 1)) (qN oLen (qCons (qVar 0) qNil)) (qC (.int 10))))) qNever
 qNext)
 (qFor (qIEnum (qCons (qVar 0) qNil)) (qGTup 2 (qGCons (qName 1) (qGCons (qName 2) qGNil)))
  (qIfS (qNot (qTst (qCall S_is_job (qCons (qVar 2) qNil)))) qNever
  qNext)))
/- check_order
N: 0:many 1:order -/
def N_check_order : List Str := ["many", "order"]
def q_check_order  : QS :=
  (qIfS (qTst (q2 oNe (qN oSorted (qCons (qVar 1) qNil)) (qListRg1 (qVar 0)))) qNever
 qNext)
/- ends_of
N: 0:jobs 1:order 2:found* 3:beat 4:k -/
def N_ends_of : List Str := ["jobs", "order", "found", "beat", "k"]
def q_ends_of  : QS :=
  (qSeq (qSetO 2 (q2 oMul (qLst (qCons (qC (.int 0)) qNil)) (qN oLen (qCons (qVar 0) qNil))))
 (qSeq (qSet 3 (qC (.int 0)))
 (qSeq (qFor (qIList (qVar 1)) (qName 4)
  (qSeq (qSet 3 (q2 oAdd (qVar 3) (q2 oIx (q2 oIx (qVar 0) (qVar 4)) (qC (.int 0)))))
  (qSetIx 2 (qVar 4) (qVar 3))))
 (qRetV 2))))
/- ends
N: 0:jobs 1:order -/
def N_ends : List Str := ["jobs", "order"]
def q_ends (S_check_jobs : VL.Spec) (S_check_order : VL.Spec) (S_ends_of : VL.Spec) : QS :=
  (qSeq (qDrop (qCall S_check_jobs (qCons (qVar 0) qNil)))
 (qSeq (qDrop (qCall S_check_order (qCons (qN oLen (qCons (qVar 0) qNil)) (qCons (qVar 1) qNil))))
 (qRet (qCall S_ends_of (qCons (qVar 0) (qCons (qVar 1) qNil))))))
/- weighted
N: 0:jobs 1:order 2:end 3:job -/
def N_weighted : List Str := ["jobs", "order", "end", "job"]
def q_weighted (S_check_jobs : VL.Spec) (S_check_order : VL.Spec) (S_ends_of : VL.Spec) : QS :=
  (qSeq (qDrop (qCall S_check_jobs (qCons (qVar 0) qNil)))
 (qSeq (qDrop (qCall S_check_order (qCons (qN oLen (qCons (qVar 0) qNil)) (qCons (qVar 1) qNil))))
 (qRet (qN oSum (qCons (qLc (qIZip (qCons (qCall S_ends_of (qCons (qVar 0) (qCons (qVar 1) qNil))) (qCons (qVar 0) qNil))) (qGTup 2 (qGCons (qName 2) (qGCons (qName 3) qGNil))) qYes (q2 oMul (qVar 2) (q2 oIx (qVar 3) (qC (.int 1)))) [2, 3]) qNil)))))
/- is_wrong
N: 0:one 1:two -/
def N_is_wrong : List Str := ["one", "two"]
def q_is_wrong  : QS :=
  (qRet (q2 oLt (q2 oMul (q2 oIx (qVar 0) (qC (.int 1))) (q2 oIx (qVar 1) (qC (.int 0)))) (q2 oMul (q2 oIx (qVar 1) (qC (.int 1))) (q2 oIx (qVar 0) (qC (.int 0))))))
/- swap
N: 0:jobs 1:order 2:place -/
def N_swap : List Str := ["jobs", "order", "place"]
def q_swap (S_check_jobs : VL.Spec) (S_check_order : VL.Spec) (S_is_wrong : VL.Spec) : QS :=
  (qSeq (qDrop (qCall S_check_jobs (qCons (qVar 0) qNil)))
 (qSeq (qDrop (qCall S_check_order (qCons (qN oLen (qCons (qVar 0) qNil)) (qCons (qVar 1) qNil))))
 (qSeq (qFor (qIRng1 (qCons (q2 oSub (qN oLen (qCons (qVar 1) qNil)) (qC (.int 1))) qNil)) (qName 2)
  (qIfS (qTst (qCall S_is_wrong (qCons (q2 oIx (qVar 0) (q2 oIx (qVar 1) (qVar 2))) (qCons (q2 oIx (qVar 0) (q2 oIx (qVar 1) (q2 oAdd (qVar 2) (qC (.int 1))))) qNil)))) (qRet (qVar 2))
  qNext))
 qRetN)))
/- least_order
N: 0:jobs 1:left* 2:found* 3:able 4:k 5:other -/
def N_least_order : List Str := ["jobs", "left", "found", "able", "k", "other"]
def q_least_order (S_check_jobs : VL.Spec) (S_is_wrong : VL.Spec) : QS :=
  (qSeq (qDrop (qCall S_check_jobs (qCons (qVar 0) qNil)))
 (qSeq (qSetO 1 (qListRg1 (qN oLen (qCons (qVar 0) qNil))))
 (qSeq (qSetO 2 (qLst qNil))
 (qSeq (qWhile (qTst (q2 oGt (qN oLen (qCons (qVarL 1) qNil)) (qC (.int 0))))
  (qSeq (qSet 3 (qLc (qIList (qVarL 1)) (qName 4) (qNot (qTst (qN oAny (qCons (qLc (qIList (qVarL 1)) (qName 5) qYes (qCall S_is_wrong (qCons (q2 oIx (qVar 0) (qVar 4)) (qCons (q2 oIx (qVar 0) (qVar 5)) qNil))) [5]) qNil)))) (qVar 4) [4]))
  (qSeq (qMeth 2 fAppend (qCons (q2 oIx (qVar 3) (qC (.int 0))) qNil))
  (qMeth 1 fRemove (qCons (q2 oIx (qVar 3) (qC (.int 0))) qNil)))))
 (qRetV 2)))))
/- _law_draws
N: 0:script 1:draws* 2:k 3:rest 4:turn 5:mixed -/
def N__law_draws : List Str := ["script", "draws", "k", "rest", "turn", "mixed"]
def q__law_draws  : QS :=
  (qSeq (qSetO 1 (qLst qNil))
 (qSeq (qFor (qIRng1 (qCons (qN oMin2 (qCons (qC (.int 63)) (qCons (qLenS 0) qNil))) qNil)) (qName 2)
  (qSeq (qSet 3 (qN oAbs (qCons (qIxS 0 (qVar 2)) qNil)))
  (qIfS (qTst (q2 oGe (qVar 3) (q2 oPow (qC (.int 10)) (qC (.int 18))))) (qFor (qIRng1 (qCons (qC (.int 60)) qNil)) (qName 4)
    (qIfS (qTst (q2 oGt (qVar 3) (qC (.int 0)))) (qSeq (qMeth 1 fAppend (qCons (q2 oMod (qN oInt (qCons (qVar 3) qNil)) (qC (.int 65536))) qNil))
     (qSet 3 (q2 oDiv (qVar 3) (qC (.int 65536)))))
    qNext))
  (qSeq (qSet 5 (q2 oMod (qN oInt (qCons (q2 oAdd (q2 oMul (qVar 3) (qC (.int 48271))) (q2 oMul (q2 oAdd (qVar 2) (qC (.int 1))) (qC (.int 69621)))) qNil)) (qC (.int 2147483647))))
   (qSeq (qSet 5 (q2 oMod (qN oInt (qCons (q2 oAdd (q2 oAdd (q2 oMul (qVar 5) (qC (.int 16807))) (q2 oMul (qC (.int 11)) (qVar 2))) (qC (.int 5))) qNil)) (qC (.int 2147483629))))
   (qSeq (qMeth 1 fAppend (qCons (q2 oMod (qN oInt (qCons (qVar 5) qNil)) (qC (.int 65536))) qNil))
   (qMeth 1 fAppend (qCons (q2 oMod (qN oInt (qCons (q2 oDiv (qVar 5) (qC (.int 65536))) qNil)) (qC (.int 32768))) qNil))))))))
 (qRetV 1)))
/- _law_mix
N: 0:draws 1:k 2:many 3:value -/
def N__law_mix : List Str := ["draws", "k", "many", "value"]
def q__law_mix  : QS :=
  (qSeq (qSet 3 (qC (.int 0)))
 (qSeq (qIfS (qTst (q2 oGt (qN oLen (qCons (qVar 0) qNil)) (qC (.int 0)))) (qSet 3 (q2 oIx (qVar 0) (q2 oMod (qN oInt (qCons (qVar 1) qNil)) (qN oLen (qCons (qVar 0) qNil)))))
 qNext)
 (qSeq (qIfS (qTst (q2 oLt (qVar 1) (qN oLen (qCons (qVar 0) qNil)))) (qRet (q2 oMod (qN oInt (qCons (qVar 3) qNil)) (qVar 2)))
 qNext)
 (qRet (q2 oMod (qN oInt (qCons (q2 oDiv (qN oInt (qCons (q2 oAdd (q2 oMul (qVar 3) (qC (.int 7919))) (q2 oMul (qVar 1) (qC (.int 104729)))) qNil)) (qC (.int 3))) qNil)) (qVar 2))))))
/- _law_jobs
N: 0:draws 1:k 2:most 3:wide 4:found* 5:t 6:pages 7:weight -/
def N__law_jobs : List Str := ["draws", "k", "most", "wide", "found", "t", "pages", "weight"]
def q__law_jobs (S__law_mix : VL.Spec) : QS :=
  (qSeq (qSet 3 (q2 oIx (qLst (qCons (qC (.int 4)) (qCons (qC (.int 30)) (qCons (qC (.int 100)) qNil)))) (qCall S__law_mix (qCons (qVar 0) (qCons (qVar 1) (qCons (qC (.int 3)) qNil))))))
 (qSeq (qSetO 4 (qLst qNil))
 (qSeq (qFor (qIRng1 (qCons (q2 oAdd (qC (.int 1)) (qCall S__law_mix (qCons (qVar 0) (qCons (q2 oAdd (qVar 1) (qC (.int 1))) (qCons (qVar 2) qNil))))) qNil)) (qName 5)
  (qSeq (qPar 6 7 (qCons (q2 oAdd (qC (.int 1)) (qCall S__law_mix (qCons (qVar 0) (qCons (q2 oAdd (q2 oAdd (qVar 1) (qC (.int 2))) (q2 oMul (qC (.int 3)) (qVar 5))) (qCons (qVar 3) qNil))))) (qCons (qCall S__law_mix (qCons (qVar 0) (qCons (q2 oAdd (q2 oAdd (qVar 1) (qC (.int 3))) (q2 oMul (qC (.int 3)) (qVar 5))) (qCons (q2 oAdd (qVar 3) (qC (.int 1))) qNil)))) qNil)))
  (qMeth 4 fAppend (qCons (qTup (qCons (qVar 6) (qCons (qVar 7) (qCons (qCall S__law_mix (qCons (qVar 0) (qCons (q2 oAdd (q2 oAdd (qVar 1) (qC (.int 4))) (q2 oMul (qC (.int 3)) (qVar 5))) (qCons (q2 oMul (qC (.int 4)) (qVar 3)) qNil)))) qNil)))) qNil))))
 (qRetV 4))))
/- _law_orders
N: 0:many 1:found 2:turn 3:longer 4:told 5:k -/
def N__law_orders : List Str := ["many", "found", "turn", "longer", "told", "k"]
def q__law_orders  : QS :=
  (qSeq (qSet 1 (qLst (qCons (qLst qNil) qNil)))
 (qSeq (qFor (qIRng1 (qCons (qVar 0) qNil)) (qName 2)
  (qSeq (qSet 3 (qLst qNil))
  (qSeq (qFor (qIList (qVar 1)) (qName 4)
   (qSet 3 (q2 oAdd (qVar 3) (qLc (qIRng1 (qCons (qVar 0) qNil)) (qName 5) (qTst (q2 oNotIn (qVar 5) (qVar 4))) (q2 oAdd (qVar 4) (qLst (qCons (qVar 5) qNil))) [5]))))
  (qSet 1 (qVar 3)))))
 (qRet (qVar 1))))
/- _law_ends
N: 0:jobs 1:order 2:found* 3:place 4:k -/
def N__law_ends : List Str := ["jobs", "order", "found", "place", "k"]
def q__law_ends  : QS :=
  (qSeq (qSetO 2 (qN oList (qCons (qVar 1) qNil)))
 (qSeq (qFor (qIRng1 (qCons (qN oLen (qCons (qVar 1) qNil)) qNil)) (qName 3)
  (qSetIx 2 (q2 oIx (qVar 1) (qVar 3)) (qN oSum (qCons (qLc (qIList (qSl oSlice (qVar 1) qNone (qSome (q2 oAdd (qVar 3) (qC (.int 1)))))) (qName 4) qYes (q2 oIx (q2 oIx (qVar 0) (qVar 4)) (qC (.int 0))) [4]) qNil))))
 (qRetV 2)))
/- _law_drawn_order
N: 0:draws 1:k 2:many 3:rank 4:job -/
def N__law_drawn_order : List Str := ["draws", "k", "many", "rank", "job"]
def q__law_drawn_order (S__law_mix : VL.Spec) : QS :=
  (qRet (qLc (qIList (qN oSorted (qCons (qLc (qIRng1 (qCons (qVar 2) qNil)) (qName 4) qYes (qTup (qCons (qCall S__law_mix (qCons (qVar 0) (qCons (q2 oAdd (qVar 1) (qVar 4)) (qCons (qC (.int 97)) qNil)))) (qCons (qVar 4) qNil))) [4]) qNil))) (qGTup 2 (qGCons (qName 3) (qGCons (qName 4) qGNil))) qYes (qVar 4) [3, 4]))
/- _law_sum
N: 0:jobs 1:order 2:told 3:k -/
def N__law_sum : List Str := ["jobs", "order", "told", "k"]
def q__law_sum (S__law_ends : VL.Spec) : QS :=
  (qSeq (qSet 2 (qCall S__law_ends (qCons (qVar 0) (qCons (qVar 1) qNil))))
 (qRet (qN oSum (qCons (qLc (qIRng1 (qCons (qN oLen (qCons (qVar 0) qNil)) qNil)) (qName 3) qYes (q2 oMul (q2 oIx (qVar 2) (qVar 3)) (q2 oIx (q2 oIx (qVar 0) (qVar 3)) (qC (.int 1)))) [3]) qNil))))
/- law
N: 0:script 1:draws 2:turn 3:jobs 4:kept 5:best* 6:least 7:again 8:every 9:order 10:told* 11:whole 12:sums* 13:place 14:good 15:other -/
def N_law : List Str := ["script", "draws", "turn", "jobs", "kept", "best", "least", "again", "every", "order", "told", "whole", "sums", "place", "good", "other"]
def q_law (S__law_draws : List Int → D → Prop) (S__law_jobs : VL.Spec) (S_least_order : VL.Spec) (S__law_sum : VL.Spec) (S_ends : VL.Spec) (S__law_mix : VL.Spec) (S__law_drawn_order : VL.Spec) (S__law_orders : VL.Spec) (S__law_ends : VL.Spec) (S_weighted : VL.Spec) (S_swap : VL.Spec) : QS :=
  (qSeq (qSet 1 (qCallS 0 S__law_draws))
 (qSeq (qFor (qIRng1 (qCons (qC (.int 2)) qNil)) (qName 2)
  (qSeq (qSet 3 (qCall S__law_jobs (qCons (qVar 1) (qCons (q2 oAdd (qC (.int 10)) (q2 oMul (qC (.int 40)) (qVar 2))) (qCons (q2 oIx (qLst (qCons (qC (.int 5)) (qCons (qC (.int 10)) qNil))) (qVar 2)) qNil)))))
  (qSeq (qSet 4 (qN oRepr (qCons (qVar 3) qNil)))
  (qSeq (qSetO 5 (qCall S_least_order (qCons (qVar 3) qNil)))
  (qSeq (qIfS (qTst (q2 oNe (qN oSorted (qCons (qVarL 5) qNil)) (qListRg1 (qN oLen (qCons (qVar 3) qNil))))) (qRet (qC (.bool false)))
  qNext)
  (qSeq (qSet 6 (qCallL false S__law_sum (qCons (qVar 3) (qCons (qVarL 5) qNil))))
  (qSeq (qLend 5 (qIfS (qTst (q2 oLt (qN oLen (qCons (qVar 3) qNil)) (qC (.int 6)))) (qSeq (qSet 8 (qN oSorted (qCons (qLc (qIList (qCall S__law_orders (qCons (qN oLen (qCons (qVar 3) qNil)) qNil))) (qName 9) qYes (qTup (qCons (qCall S__law_sum (qCons (qVar 3) (qCons (qVar 9) qNil))) (qCons (qVar 9) qNil))) [9]) qNil)))
   (qIfS (qTst (q2 oNe (qTup (qCons (qVar 6) (qCons (qVar 5) qNil))) (q2 oIx (qVar 8) (qC (.int 0))))) (qRet (qC (.bool false)))
   qNext))
  qNext))
  (qSeq (qLend 5 (qFor (qIRng1 (qCons (qC (.int 5)) qNil)) (qName 7)
   (qSeq (qSet 9 (q2 oIx (qLst (qCons (qCall S__law_drawn_order (qCons (qVar 1) (qCons (q2 oAdd (q2 oAdd (qC (.int 100)) (q2 oMul (qC (.int 60)) (qVar 2))) (q2 oMul (qC (.int 11)) (qVar 7))) (qCons (qN oLen (qCons (qVar 3) qNil)) qNil)))) (qCons (qVar 5) (qCons (q1 oRev (qVar 5)) (qCons (qVar 5) (qCons (qVar 5) qNil)))))) (qVar 7)))
   (qSeq (qIfS (qAnd (qTst (q2 oGt (qVar 7) (qC (.int 2)))) (qTst (q2 oGt (qN oLen (qCons (qVar 9) qNil)) (qC (.int 1))))) (qSeq (qSet 13 (qCall S__law_mix (qCons (qVar 1) (qCons (q2 oAdd (q2 oAdd (qC (.int 230)) (qVar 7)) (q2 oMul (qC (.int 5)) (qVar 2))) (qCons (q2 oSub (qN oLen (qCons (qVar 9) qNil)) (qC (.int 1))) qNil)))))
    (qSet 9 (q2 oAdd (q2 oAdd (qSl oSlice (qVar 9) qNone (qSome (qVar 13))) (qLst (qCons (q2 oIx (qVar 9) (q2 oAdd (qVar 13) (qC (.int 1)))) (qCons (q2 oIx (qVar 9) (qVar 13)) qNil)))) (qSl oSlice (qVar 9) (qSome (q2 oAdd (qVar 13) (qC (.int 2)))) qNone))))
   qNext)
   (qSeq (qSetO 10 (qCall S_ends (qCons (qVar 3) (qCons (qVar 9) qNil))))
   (qSeq (qSet 11 (qCall S__law_sum (qCons (qVar 3) (qCons (qVar 9) qNil))))
   (qSeq (qIfS (qOr (qTst (q2 oNe (qN oRepr (qCons (qVarL 10) qNil)) (qN oRepr (qCons (qCall S__law_ends (qCons (qVar 3) (qCons (qVar 9) qNil))) qNil)))) (qOr (qTst (q2 oNe (qN oRepr (qCons (qCall S_weighted (qCons (qVar 3) (qCons (qVar 9) qNil))) qNil)) (qN oRepr (qCons (qVar 11) qNil)))) (qTst (q2 oLt (qVar 11) (qVar 6))))) (qRet (qC (.bool false)))
   qNext)
   (qSeq (qSetO 12 (qLst qNil))
   (qSeq (qFor (qIRng1 (qCons (q2 oSub (qN oLen (qCons (qVar 9) qNil)) (qC (.int 1))) qNil)) (qName 13)
    (qSeq (qSet 15 (q2 oAdd (q2 oAdd (qSl oSlice (qVar 9) qNone (qSome (qVar 13))) (qLst (qCons (q2 oIx (qVar 9) (q2 oAdd (qVar 13) (qC (.int 1)))) (qCons (q2 oIx (qVar 9) (qVar 13)) qNil)))) (qSl oSlice (qVar 9) (qSome (q2 oAdd (qVar 13) (qC (.int 2)))) qNone)))
    (qMeth 12 fAppend (qCons (qCall S__law_sum (qCons (qVar 3) (qCons (qVar 15) qNil))) qNil))))
   (qSeq (qSet 14 (qLc (qIRng1 (qCons (qN oLen (qCons (qVarL 12) qNil)) qNil)) (qName 13) (qTst (q2 oLt (q2 oIx (qVarL 12) (qVar 13)) (qVar 11))) (qVar 13) [13]))
   (qSeq (qIfS (qOr (qTst (q2 oNe (qN oRepr (qCons (qCall S_swap (qCons (qVar 3) (qCons (qVar 9) qNil))) qNil)) (qN oRepr (qCons (q2 oIx (q2 oAdd (qVar 14) (qLst (qCons (qC .none) qNil))) (qC (.int 0))) qNil)))) (qTst (q2 oNe (q2 oEq (qVar 14) (qLst qNil)) (q2 oEq (qVar 11) (qVar 6))))) (qRet (qC (.bool false)))
   qNext)
   (qMeth 10 fAppend (qCons (qC (.int 0)) qNil)))))))))))))
  (qSeq (qMeth 5 fAppend (qCons (qC (.int 99)) qNil))
  (qIfS (qOr (qTst (q2 oNe (qCall S_least_order (qCons (qVar 3) qNil)) (qSl oSlice (qVarL 5) qNone (qSome (q1 oNeg (qC (.int 1))))))) (qTst (q2 oNe (qN oRepr (qCons (qVar 3) qNil)) (qVar 4)))) (qRet (qC (.bool false)))
  qNext))))))))))
 (qRet (qC (.bool true)))))
end P32
namespace P32
open PySem VL
open PySem.W (Datum DatumOrd T3)
abbrev Jb := T3 Int Int Int
def OkJ (j : Jb) : Prop := (1 ≤ j.a ∧ j.a ≤ 100) ∧ (0 ≤ j.b ∧ j.b ≤ 100) ∧ (0 ≤ j.c ∧ j.c ≤ 1000)
def OkJs (js : List Jb) : Prop := 1 ≤ js.length ∧ js.length ≤ 10 ∧ ∀ j ∈ js, OkJ j
def J (js : List Jb) (k : Nat) : Jb := (js[k]?).getD ⟨1, 0, 0⟩
def pg (js : List Jb) (k : Nat) : Int := (J js k).a
def wt (js : List Jb) (k : Nat) : Int := (J js k).b
theorem J_ok {js : List Jb} (h : ∀ j ∈ js, OkJ j) (k : Nat) : OkJ (J js k) := by
  unfold J
  cases e : js[k]? with
  | none => exact ⟨by decide, by decide, by decide⟩
  | some j => exact h j (List.mem_of_getElem? e)
theorem J_at {js : List Jb} {k : Nat} (h : k < js.length) : js[k]? = some (J js k) := by
  unfold J; rw [List.getElem?_eq_getElem h]; rfl
def Pos (js : List Jb) : Prop := ∀ k, 1 ≤ pg js k ∧ 0 ≤ wt js k
theorem pos_of {js : List Jb} (h : ∀ j ∈ js, OkJ j) : Pos js := fun k => ⟨(J_ok h k).1.1, (J_ok h k).2.1.1⟩
def cost (js : List Jb) : Int → List Nat → Int
  | _, [] => 0
  | b, k :: o => (b + pg js k) * wt js k + cost js (b + pg js k) o
def pgs (js : List Jb) (o : List Nat) : Int := (o.map (pg js)).sum
def bt (js : List Jb) (o : List Nat) (i : Nat) : Int := pgs js (o.take (i + 1))
def endsL (js : List Jb) (o : List Nat) : List Int := (List.range js.length).map fun k => bt js o (o.idxOf k)
def wsum (js : List Jb) (o : List Nat) : Int := ((List.range js.length).map fun k => bt js o (o.idxOf k) * wt js k).sum
theorem cost_append (js : List Jb) : ∀ (u v : List Nat) (b : Int), cost js b (u ++ v) = cost js b u + cost js (b + pgs js u) v
  | [], v, b => by simp [cost, pgs]
  | k :: u, v, b => by
    rw [List.cons_append, cost, cost, cost_append js u v]
    have : b + pgs js (k :: u) = b + pg js k + pgs js u := by simp [pgs]; omega
    rw [this]; omega
theorem cost_swap (js : List Jb) (b : Int) (x y : Nat) (r : List Nat) : cost js b (x :: y :: r) - cost js b (y :: x :: r) = pg js x * wt js y - pg js y * wt js x := by
  simp only [cost]
  have e : b + pg js y + pg js x = b + pg js x + pg js y := by omega
  rw [e]
  generalize cost js (b + pg js x + pg js y) r = c
  generalize pg js x = a1
  generalize pg js y = a2
  generalize wt js x = a3
  generalize wt js y = a4
  grind
def wr (js : List Jb) (a b : Nat) : Bool := decide (wt js a * pg js b < wt js b * pg js a)
def LE (js : List Jb) (a b : Nat) : Prop := wt js b * pg js a ≤ wt js a * pg js b
theorem wr_false {js : List Jb} {a b : Nat} : wr js a b = false ↔ LE js a b := by
  unfold wr LE
  rw [decide_eq_false_iff_not, Int.not_lt]
theorem LE_trans {js : List Jb} (hp : Pos js) {a b c : Nat} (h1 : LE js a b) (h2 : LE js b c) : LE js a c := by
  unfold LE at *
  have p1 := (hp a).1
  have p2 := (hp b).1
  have p3 := (hp c).1
  generalize pg js a = pa at *
  generalize pg js b = pb at *
  generalize pg js c = pc at *
  generalize wt js a = wa at *
  generalize wt js b = wb at *
  generalize wt js c = wc at *
  have e1 := Int.mul_le_mul_of_nonneg_right h1 (c := pc) (by omega)
  have e2 := Int.mul_le_mul_of_nonneg_right h2 (c := pa) (by omega)
  refine Int.le_of_mul_le_mul_left (a := pb) ?_ (by omega)
  have q1 : wb * pc * pa = wb * pa * pc := by grind
  have q2 : pb * (wc * pa) = wc * pb * pa := by grind
  have q3 : pb * (wa * pc) = wa * pb * pc := by grind
  omega
theorem LE_refl {js : List Jb} (a : Nat) : LE js a a := Int.le_refl _
theorem LE_total {js : List Jb} (a b : Nat) : LE js a b ∨ LE js b a := by
  unfold LE; omega
/-- to the front -/
theorem front (js : List Jb) (h : Nat) : ∀ (pre post : List Nat) (b : Int), (∀ x ∈ pre, LE js h x) → cost js b (h :: (pre ++ post)) ≤ cost js b (pre ++ h :: post)
  | [], post, b, _ => Int.le_refl _
  | x :: pre, post, b, hx => by
    have ih := front js h pre post (b + pg js x) fun y hy => hx y (List.mem_cons_of_mem _ hy)
    have s := cost_swap js b h x (pre ++ post)
    have l := hx x List.mem_cons_self
    unfold LE at l
    have e : cost js b (x :: h :: (pre ++ post)) = (b + pg js x) * wt js x + cost js (b + pg js x) (h :: (pre ++ post)) := rfl
    have e2 : cost js b (x :: (pre ++ h :: post)) = (b + pg js x) * wt js x + cost js (b + pg js x) (pre ++ h :: post) := rfl
    have c1 : pg js h * wt js x = wt js x * pg js h := Int.mul_comm _ _
    have c2 : pg js x * wt js h = wt js h * pg js x := Int.mul_comm _ _
    rw [List.cons_append, List.cons_append, e2]
    omega
theorem best (js : List Jb) : ∀ (o o2 : List Nat) (b : Int), o.Pairwise (LE js) → o2.Perm o → cost js b o ≤ cost js b o2
  | [], o2, b, _, hp => by rw [List.Perm.eq_nil hp]; exact Int.le_refl _
  | h :: t, o2, b, hs, hp => by
    obtain ⟨hh, ht⟩ := List.pairwise_cons.mp hs
    have hm : h ∈ o2 := hp.symm.subset List.mem_cons_self
    obtain ⟨pre, post, rfl⟩ := List.append_of_mem hm
    have p2 : (pre ++ post).Perm t := (List.perm_cons h).mp (List.perm_middle.symm.trans hp)
    have h1 := front js h pre post b fun x hx => hh x (p2.subset (List.mem_append_left _ hx))
    have ih := best js t (pre ++ post) (b + pg js h) ht p2
    have e : cost js b (h :: t) = (b + pg js h) * wt js h + cost js (b + pg js h) t := rfl
    have e2 : cost js b (h :: (pre ++ post)) = (b + pg js h) * wt js h + cost js (b + pg js h) (pre ++ post) := rfl
    omega
theorem chain {js : List Jb} (hp : Pos js) : ∀ (o : List Nat), (∀ i x y, o[i]? = some x → o[i + 1]? = some y → LE js x y) → o.Pairwise (LE js)
  | [], _ => .nil
  | x :: t, h => by
    have ih := chain hp t fun i a b ha hb => h (i + 1) a b (by simpa using ha) (by simpa using hb)
    refine List.pairwise_cons.mpr ⟨?_, ih⟩
    cases t with
    | nil => simp
    | cons y r =>
      have h0 := h 0 x y rfl rfl
      intro z hz
      rcases List.mem_cons.mp hz with rfl | hz
      · exact h0
      · exact LE_trans hp h0 ((List.pairwise_cons.mp ih).1 z hz)
/-- two neighbours changed -/
def swapAt (o : List Nat) (i : Nat) : List Nat := o.take i ++ [o[i + 1]?.getD 0, o[i]?.getD 0] ++ o.drop (i + 2)
theorem split_at {o : List Nat} {i x y : Nat} (hx : o[i]? = some x) (hy : o[i + 1]? = some y) : o = o.take i ++ x :: y :: o.drop (i + 2) := by
  obtain ⟨h1, e1⟩ := List.getElem?_eq_some_iff.mp hx
  obtain ⟨h2, e2⟩ := List.getElem?_eq_some_iff.mp hy
  have a1 := List.drop_eq_getElem_cons h1
  have a2 := List.drop_eq_getElem_cons h2
  rw [← e1, ← e2, ← a2, ← a1, List.take_append_drop]
theorem swapAt_eq {o : List Nat} {i x y : Nat} (hx : o[i]? = some x) (hy : o[i + 1]? = some y) : swapAt o i = o.take i ++ y :: x :: o.drop (i + 2) := by
  unfold swapAt; rw [hx, hy]; simp
theorem swapAt_perm {o : List Nat} {i x y : Nat} (hx : o[i]? = some x) (hy : o[i + 1]? = some y) : (swapAt o i).Perm o := by
  rw [swapAt_eq hx hy]
  conv => rhs; rw [split_at hx hy]
  exact (List.Perm.swap x y _).append_left _
theorem swapAt_cost {js : List Jb} {o : List Nat} {i x y : Nat} (hx : o[i]? = some x) (hy : o[i + 1]? = some y) (b : Int) : cost js b (swapAt o i) < cost js b o ↔ wr js x y = true := by
  rw [swapAt_eq hx hy]
  have e : cost js b o = cost js b (o.take i ++ x :: y :: o.drop (i + 2)) := congrArg _ (split_at hx hy)
  rw [e, cost_append, cost_append]
  have s := cost_swap js (b + pgs js (o.take i)) x y (o.drop (i + 2))
  unfold wr
  rw [decide_eq_true_eq]
  have c1 : pg js x * wt js y = wt js y * pg js x := Int.mul_comm _ _
  have c2 : pg js y * wt js x = wt js x * pg js y := Int.mul_comm _ _
  omega
/-! the first order -/
def able (js : List Jb) (left : List Nat) : List Nat := left.filter fun k => !left.any fun other => wr js k other
def greedy (js : List Jb) : Nat → List Nat → List Nat
  | 0, _ => []
  | n + 1, left => match able js left with
    | [] => []
    | k :: _ => k :: greedy js n (left.erase k)
theorem able_iff {js : List Jb} {left : List Nat} {k : Nat} : k ∈ able js left ↔ k ∈ left ∧ ∀ x ∈ left, LE js k x := by
  unfold able
  rw [List.mem_filter]
  refine and_congr_right fun _ => ?_
  rw [Bool.not_eq_true', List.any_eq_false]
  refine forall_congr' fun x => forall_congr' fun _ => ?_
  rw [← wr_false]; simp
theorem least_in {js : List Jb} (hp : Pos js) : ∀ left : List Nat, left ≠ [] → ∃ k ∈ left, ∀ x ∈ left, LE js k x
  | [], h => (h rfl).elim
  | [k], _ => ⟨k, List.mem_cons_self, fun x hx => by rcases List.mem_cons.mp hx with rfl | q; exact LE_refl _; exact absurd q (by simp)⟩
  | k :: m :: r, _ => by
    obtain ⟨z, hz, hl⟩ := least_in hp (m :: r) (by simp)
    rcases LE_total (js := js) k z with q | q
    · refine ⟨k, List.mem_cons_self, fun x hx => ?_⟩
      rcases List.mem_cons.mp hx with rfl | hx
      · exact LE_refl _
      · exact LE_trans hp q (hl x hx)
    · refine ⟨z, List.mem_cons_of_mem _ hz, fun x hx => ?_⟩
      rcases List.mem_cons.mp hx with rfl | hx
      · exact q
      · exact hl x hx
theorem able_ne {js : List Jb} (hp : Pos js) {left : List Nat} (h : left ≠ []) : ∃ k r, able js left = k :: r := by
  obtain ⟨k, hk, hl⟩ := least_in hp left h
  have := able_iff.mpr ⟨hk, hl⟩
  cases e : able js left with
  | nil => rw [e] at this; simp at this
  | cons a r => exact ⟨a, r, rfl⟩
theorem greedy_all {js : List Jb} (hp : Pos js) : ∀ (n : Nat) (left : List Nat), left.length = n → (greedy js n left).Perm left ∧ (greedy js n left).Pairwise (LE js)
  | 0, left, h => by
    have : left = [] := List.eq_nil_of_length_eq_zero h
    subst this
    exact ⟨.nil, .nil⟩
  | n + 1, left, h => by
    obtain ⟨k, r, e⟩ := able_ne hp (left := left) (by intro q; subst q; simp at h)
    have hk := able_iff.mp (show k ∈ able js left by rw [e]; exact List.mem_cons_self)
    have hl : (left.erase k).length = n := by rw [List.length_erase_of_mem hk.1]; omega
    obtain ⟨i1, i2⟩ := greedy_all hp n (left.erase k) hl
    have eg : greedy js (n + 1) left = k :: greedy js n (left.erase k) := by simp [greedy, e]
    rw [eg]
    refine ⟨(i1.cons k).trans (List.perm_cons_erase hk.1).symm, List.pairwise_cons.mpr ⟨fun x hx => ?_, i2⟩⟩
    exact hk.2 x (List.mem_of_mem_erase (i1.subset hx))
theorem greedy_first {js : List Jb} (hp : Pos js) : ∀ (n : Nat) (left o : List Nat), left.length = n → left.Pairwise (· < ·) → o.Perm left → o.Pairwise (LE js) → greedy js n left = o ∨ PySem.W.listLt (greedy js n left) o = true
  | 0, left, o, h, _, ho, _ => by
    have : left = [] := List.eq_nil_of_length_eq_zero h
    subst this
    rw [List.Perm.eq_nil ho]
    exact .inl rfl
  | n + 1, left, o, h, hi, ho, hs => by
    obtain ⟨k, r, e⟩ := able_ne hp (left := left) (by intro q; subst q; simp at h)
    have hk := able_iff.mp (show k ∈ able js left by rw [e]; exact List.mem_cons_self)
    have hl : (left.erase k).length = n := by rw [List.length_erase_of_mem hk.1]; omega
    have eg : greedy js (n + 1) left = k :: greedy js n (left.erase k) := by simp [greedy, e]
    rw [eg]
    cases o with
    | nil => have := ho.length_eq; simp at this; omega
    | cons m t =>
      obtain ⟨s1, s2⟩ := List.pairwise_cons.mp hs
      have hm : m ∈ able js left := able_iff.mpr ⟨ho.subset List.mem_cons_self, fun x hx => by
        rcases List.mem_cons.mp (ho.symm.subset hx) with rfl | q
        · exact LE_refl _
        · exact s1 x q⟩
      have hkm : k = m ∨ k < m := by
        have : (able js left).Pairwise (· < ·) := hi.filter _
        rw [e] at this hm
        rcases List.mem_cons.mp hm with q | q
        · exact .inl q.symm
        · exact .inr ((List.pairwise_cons.mp this).1 m q)
      rcases hkm with rfl | lt
      · have ht : t.Perm (left.erase k) := (List.perm_cons k).mp (ho.trans (List.perm_cons_erase hk.1))
        rcases greedy_first hp n (left.erase k) t hl (hi.sublist List.erase_sublist) ht s2 with q | q
        · exact .inl (by rw [q])
        · exact .inr (by show (if k = k then _ else _) = true; rw [if_pos rfl]; exact q)
      · right
        show (if k = m then _ else DatumOrd.lt k m) = true
        rw [if_neg (by omega)]
        exact decide_eq_true lt
/-! the sum two ways -/
theorem pgs_snoc (js : List Jb) (u : List Nat) (k : Nat) : pgs js (u ++ [k]) = pgs js u + pg js k := by simp [pgs]
theorem idx_mid {pre suf : List Nat} {k : Nat} (h : (pre ++ k :: suf).Nodup) : (pre ++ k :: suf).idxOf k = pre.length := by
  have hk : k ∉ pre := fun q => by
    have := (List.nodup_append.mp h).2.2 k q k List.mem_cons_self
    exact this rfl
  rw [List.idxOf_append, if_neg hk, List.idxOf_cons_self]
  simp
theorem bt_mid (js : List Jb) {pre suf : List Nat} {k : Nat} (h : (pre ++ k :: suf).Nodup) : bt js (pre ++ k :: suf) ((pre ++ k :: suf).idxOf k) = pgs js pre + pg js k := by
  rw [idx_mid h]
  unfold bt
  have : (pre ++ k :: suf).take (pre.length + 1) = pre ++ [k] := by
    rw [List.take_append, List.take_of_length_le (by omega)]; simp
  rw [this, pgs_snoc]
theorem sum_cost (js : List Jb) (o : List Nat) (h : o.Nodup) : ∀ (suf pre : List Nat), o = pre ++ suf → (suf.map fun k => bt js o (o.idxOf k) * wt js k).sum = cost js (pgs js pre) suf
  | [], pre, _ => rfl
  | k :: suf, pre, e => by
    have ih := sum_cost js o h suf (pre ++ [k]) (by rw [e]; simp)
    rw [List.map_cons, List.sum_cons, ih, cost, pgs_snoc]
    have : bt js o (o.idxOf k) = pgs js pre + pg js k := by
      rw [e]; exact bt_mid js (by rw [← e]; exact h)
    rw [this]
theorem nodup_of {o : List Nat} {n : Nat} (h : o.Perm (List.range n)) : o.Nodup := h.symm.nodup List.nodup_range
theorem wsum_cost {js : List Jb} {o : List Nat} (h : o.Perm (List.range js.length)) : wsum js o = cost js 0 o := by
  unfold wsum
  rw [perm_sum (h.symm.map _), sum_cost js o (nodup_of h) o [] rfl]
  rfl
/-- no wrong neighbours: the least; else not -/
def noWrong (js : List Jb) (o : List Nat) : Prop := ∀ i x y, o[i]? = some x → o[i + 1]? = some y → wr js x y = false
theorem least_iff {js : List Jb} (hp : Pos js) {o g : List Nat} (hg : g.Pairwise (LE js)) (h : o.Perm g) : noWrong js o ↔ cost js 0 o = cost js 0 g := by
  constructor
  · intro hn
    have a := best js o g 0 (chain hp o fun i x y hx hy => wr_false.mp (hn i x y hx hy)) h.symm
    have b := best js g o 0 hg h
    omega
  · intro e i x y hx hy
    cases q : wr js x y with
    | false => rfl
    | true =>
      have a := (swapAt_cost hx hy 0).mpr q
      have b := best js g (swapAt o i) 0 hg ((swapAt_perm hx hy).trans h)
      omega
theorem first_is {js : List Jb} (hp : Pos js) {o : List Nat} {n : Nat} (h : o.Perm (List.range n)) (hc : cost js 0 o ≤ cost js 0 (greedy js n (List.range n))) (hl : PySem.W.listLt (greedy js n (List.range n)) o = false) : o = greedy js n (List.range n) := by
  obtain ⟨g1, g2⟩ := greedy_all hp n (List.range n) List.length_range
  have hb := best js _ o 0 g2 (h.trans g1.symm)
  have hn := (least_iff hp g2 (h.trans g1.symm)).mpr (by omega)
  rcases greedy_first hp n (List.range n) o List.length_range List.pairwise_lt_range h (chain hp o fun i x y hx hy => wr_false.mp (hn i x y hx hy)) with q | q
  · exact q.symm
  · rw [q] at hl; cases hl
/-! all orders -/
def step (n : Nat) (xs : List (List Nat)) : List (List Nat) := xs.flatMap fun t => ((List.range n).filter fun k => !decide (k ∈ t)).map fun k => t ++ [k]
def orders (n : Nat) : Nat → List (List Nat)
  | 0 => [[]]
  | t + 1 => step n (orders n t)
theorem orders_mem (n : Nat) : ∀ (t : Nat) (l : List Nat), l ∈ orders n t ↔ l.length = t ∧ l.Nodup ∧ ∀ x ∈ l, x < n
  | 0, l => by
    constructor
    · intro h
      have : l = [] := by simpa [orders] using h
      subst this; simp
    · rintro ⟨h, _⟩
      have : l = [] := List.eq_nil_of_length_eq_zero h
      subst this; simp [orders]
  | t + 1, l => by
    show l ∈ step n (orders n t) ↔ _
    unfold step
    simp only [List.mem_flatMap, List.mem_map, List.mem_filter, List.mem_range]
    constructor
    · rintro ⟨u, hu, k, ⟨hk, hn⟩, rfl⟩
      obtain ⟨h1, h2, h3⟩ := (orders_mem n t u).mp hu
      have hn' : k ∉ u := by simpa using hn
      refine ⟨by simp [h1], ?_, fun x hx => ?_⟩
      · rw [List.nodup_append]
        exact ⟨h2, by simp, fun a ha b hb => by simp at hb; subst hb; intro e; subst e; exact hn' ha⟩
      · rcases List.mem_append.mp hx with q | q
        · exact h3 x q
        · simp at q; omega
    · rintro ⟨h1, h2, h3⟩
      have hne : l ≠ [] := by intro e; subst e; simp at h1
      have hd := List.dropLast_concat_getLast hne
      rw [← hd] at h1 h2 h3
      obtain ⟨a1, a2, a3⟩ := List.nodup_append.mp h2
      refine ⟨l.dropLast, (orders_mem n t _).mpr ⟨by simp at h1; simp; omega, a1, fun x hx => h3 x (List.mem_append_left _ hx)⟩, l.getLast hne, ⟨h3 _ (List.mem_append_right _ (by simp)), ?_⟩, hd⟩
      rw [Bool.not_eq_true', decide_eq_false_iff_not]
      intro q
      exact a3 _ q _ List.mem_cons_self rfl
theorem orders_len (n : Nat) : ∀ t, (orders n t).length ≤ n ^ t
  | 0 => by simp [orders]
  | t + 1 => by
    show (step n (orders n t)).length ≤ _
    have : ∀ xs : List (List Nat), (step n xs).length ≤ xs.length * n := by
      intro xs
      induction xs with
      | nil => simp [step]
      | cons x xs ih =>
        unfold step at ih ⊢
        rw [List.flatMap_cons, List.length_append, List.length_map, List.length_cons, Nat.add_mul]
        have := List.length_filter_le (fun k => !decide (k ∈ x)) (List.range n)
        rw [List.length_range] at this
        omega
    rw [Nat.pow_succ]
    exact Nat.le_trans (this _) (Nat.mul_le_mul_right _ (orders_len n t))
theorem perm_sub : ∀ (l m : List Nat), l.Nodup → (∀ x ∈ l, x ∈ m) → m.length ≤ l.length → l.Perm m
  | [], m, _, _, h => by rw [List.eq_nil_of_length_eq_zero (Nat.le_zero.mp h)]
  | a :: t, m, hn, hs, h => by
    obtain ⟨h1, h2⟩ := List.nodup_cons.mp hn
    have ha := hs a List.mem_cons_self
    have ih := perm_sub t (m.erase a) h2 (fun x hx => (List.mem_erase_of_ne (by intro e; subst e; exact h1 hx)).mpr (hs x (List.mem_cons_of_mem _ hx))) (by
      rw [List.length_erase_of_mem ha]; simp at h; omega)
    exact (ih.cons a).trans (List.perm_cons_erase ha).symm
theorem perm_range {l : List Nat} {n : Nat} (h1 : l.length = n) (h2 : l.Nodup) (h3 : ∀ x ∈ l, x < n) : l.Perm (List.range n) :=
  perm_sub l _ h2 (fun x hx => List.mem_range.mpr (h3 x hx)) (by rw [List.length_range]; omega)
theorem orders_perm {n : Nat} {l : List Nat} : l ∈ orders n n ↔ l.Perm (List.range n) := by
  rw [orders_mem]
  constructor
  · rintro ⟨h1, h2, h3⟩
    exact perm_range h1 h2 h3
  · intro h
    exact ⟨by rw [h.length_eq, List.length_range], nodup_of h, fun x hx => List.mem_range.mp (h.subset hx)⟩
end P32
namespace P32
open PySem VL L2
open PySem.W (Datum DatumOrd T3)
theorem tD_jb (j : Jb) : tD j = .tuple [.int j.a, .int j.b, .int j.c] := rfl
def S_is_job : VL.Spec := fun ds d => ∃ j : Jb, OkJ j ∧ ds = [tD j] ∧ d = .bool true
theorem keeps_is_job : Keeps q_is_job N_is_job 1 S_is_job := by
  rintro ds d ⟨j, h, rfl, rfl⟩
  obtain ⟨⟨a1, a2⟩, ⟨b1, b2⟩, c1, c2⟩ := h
  refine ⟨rfl, ?_⟩
  simp [q_is_job, startV, N_is_job, tD_jb, a1, a2, b1, b2, c1, c2]
def S_check_jobs : VL.Spec := fun ds d => ∃ js : List Jb, OkJs js ∧ ds = [tD js] ∧ d = .none
theorem keeps_check_jobs : Keeps (q_check_jobs S_is_job) N_check_jobs 1 S_check_jobs := by
  rintro ds d ⟨js, ⟨h1, h2, h3⟩, rfl, rfl⟩
  refine ⟨rfl, ?_⟩
  have e1 : (1 : Int) ≤ js.length := by omega
  have e2 : (js.length : Int) ≤ 10 := by omega
  simp [q_check_jobs, startV, N_check_jobs, tD_list, e1, e2]
  rw [enumD_eq]
  refine forRun_inv (fun _ ρ => ∃ a b, ρ = [.val (tD js), a, b]) _ ⟨_, _, rfl⟩ ?_ (by intros; trivial)
  rintro i ⟨x, n⟩ ρ hx ⟨a, b, rfl⟩ K hK
  have hm : x ∈ js := by
    have := List.mem_of_getElem? hx
    exact (List.mem_zipIdx this).2.2 ▸ List.getElem_mem _
  simp [tD_list]
  exact ⟨_, ⟨x, h3 x hm, rfl, rfl⟩, by simp; exact hK _ ⟨_, _, rfl⟩⟩
end P32
namespace P32
open PySem VL L2
open PySem.W (Datum DatumOrd T3)
def OkO (js : List Jb) (o : List Nat) : Prop := o.Perm (List.range js.length)
theorem rgOk_n {n : Nat} (h : n ≤ 1000) : rgOk 0 (n : Int) := by unfold rgOk; omega
def S_check_order : VL.Spec := fun ds d => ∃ (n : Nat) (o : List Nat), o.Perm (List.range n) ∧ n ≤ 10 ∧ ds = [tD n, tD o] ∧ d = .none
theorem keeps_check_order : Keeps q_check_order N_check_order 2 S_check_order := by
  rintro ds d ⟨n, o, h, hn, rfl, rfl⟩
  refine ⟨rfl, ?_⟩
  have hl : o.length = n := by rw [h.length_eq, List.length_range]
  have e1 : oSorted [.list (o.map tD)] = some (.list ((List.range n).map tD)) := by
    rw [oSorted_tD o (sortable_nat o) (Nat.le_trans (by omega) big), srt_nat h]
  have e2 : oNe (.list ((List.range n).map tD)) (.list ((List.range n).map tD)) = some (.bool false) := by
    have := ne_tD (List.range n) (List.range n)
    rw [tD_list] at this; simpa using this
  have e3 : rangeD 0 n = (List.range n).map tD := rangeD0 n
  simp [q_check_order, startV, N_check_order, tD_list, tD_nat n, e1, rgOk_n (show n ≤ 1000 by omega), e3, e2]
theorem ixpg {js : List Jb} {k : Nat} (h : k < js.length) : oIx (.list (js.map tD)) (.int (k : Int)) = some (tD (J js k)) := ix_map (J_at h)
theorem tD_at (js : List Jb) (k : Nat) : tD (J js k) = .tuple [.int (pg js k), .int (wt js k), .int (J js k).c] := rfl
theorem bt_succ {js : List Jb} {o : List Nat} {i k : Nat} (h : o[i]? = some k) : pgs js (o.take i) + pg js k = bt js o i := by
  obtain ⟨h1, h2⟩ := List.getElem?_eq_some_iff.mp h
  unfold bt
  rw [List.take_succ_eq_append_getElem h1, h2, pgs_snoc]
/-- what holds of the list of ends after i turns -/
def Ends (js : List Jb) (o : List Nat) (i : Nat) (f : List Int) : Prop := f.length = js.length ∧ ∀ j k, j < i → o[j]? = some k → f[k]? = some (bt js o j)
theorem ends_all {js : List Jb} {o : List Nat} {f : List Int} (ho : OkO js o) (h : Ends js o o.length f) : f = endsL js o := by
  refine List.ext_getElem? fun k => ?_
  unfold endsL
  rw [List.getElem?_map]
  by_cases hk : k < js.length
  · have hm : k ∈ o := ho.symm.subset (List.mem_range.mpr hk)
    have hi := List.idxOf_lt_length_of_mem hm
    rw [h.2 (o.idxOf k) k hi (by rw [List.getElem?_eq_getElem hi, List.getElem_idxOf]), List.getElem?_range hk]
    rfl
  · rw [List.getElem?_eq_none (by rw [h.1]; omega), List.getElem?_eq_none (by simp; omega)]
    rfl
theorem ends_step {js : List Jb} {o : List Nat} {f : List Int} {i k : Nat} (ho : OkO js o) (h : Ends js o i f) (hk : o[i]? = some k) : Ends js o (i + 1) (f.set k (bt js o i)) := by
  refine ⟨by rw [List.length_set]; exact h.1, fun j m hj hm => ?_⟩
  have hkl : k < js.length := List.mem_range.mp (ho.subset (List.mem_of_getElem? hk))
  by_cases e : j = i
  · subst e
    rw [hk] at hm; cases hm
    rw [List.getElem?_set_self (by rw [h.1]; exact hkl)]
  · have hne : k ≠ m := by
      intro q; subst q
      obtain ⟨a1, a2⟩ := List.getElem?_eq_some_iff.mp hk
      obtain ⟨b1, b2⟩ := List.getElem?_eq_some_iff.mp hm
      exact e ((List.getElem?_inj b1 (nodup_of ho)).mp (hm.trans hk.symm))
    rw [List.getElem?_set_ne hne]
    exact h.2 j m (by omega) hm
theorem mapset (f : List Int) (k : Nat) (x : Int) : (f.map (.int · : Int → D)).set k (.int x) = (f.set k x).map .int := by
  rw [List.map_set]
theorem ok_lt {js : List Jb} {o : List Nat} {i k : Nat} (ho : OkO js o) (hk : o[i]? = some k) : k < js.length := List.mem_range.mp (ho.subset (List.mem_of_getElem? hk))
def S_ends_of : VL.Spec := fun ds d => ∃ js o, OkJs js ∧ OkO js o ∧ ds = [tD js, tD o] ∧ d = tD (endsL js o)
theorem keeps_ends_of : Keeps q_ends_of N_ends_of 2 S_ends_of := by
  rintro ds d ⟨js, o, ⟨h1, h2, h3⟩, ho, rfl, rfl⟩
  refine ⟨rfl, ?_⟩
  have e1 : oMul (.list [.int 0]) (.int (js.length : Int)) = some (.list ((List.replicate js.length (0 : Int)).map .int)) := by
    rw [mul_list1 (by omega)]
    simp
  simp [q_ends_of, startV, N_ends_of, tD_list, e1]
  refine forRun_inv (fun i ρ => ∃ f a, Ends js o i f ∧ ρ = [.val (tD js), .val (tD o), .own (.list (f.map .int)), .val (.int (pgs js (o.take i))), a]) o ⟨List.replicate js.length 0, _, ⟨by simp, by omega⟩, by simp [tD_list, pgs]; rfl⟩ ?_ ?_
  · rintro i k ρ hk ⟨f, a, hf, rfl⟩ K hK
    have hkl := ok_lt ho hk
    simp [tD_list, tD_nat k, ixpg hkl, tD_at, ixN_nat (show k < f.length by rw [hf.1]; exact hkl), bt_succ hk]
    refine hK _ ⟨_, .val (.int (k : Int)), ends_step ho hf hk, ?_⟩
    rw [List.map_set]; rfl
  · rintro ρ ⟨f, a, hf, rfl⟩
    simp [tD_list, ends_all ho hf]
    intros; rfl
def S_ends : VL.Spec := S_ends_of
theorem ck {js : List Jb} (h : OkJs js) : S_check_jobs [tD js] .none := ⟨js, h, rfl, rfl⟩
theorem co {js : List Jb} {o : List Nat} (h : OkJs js) (ho : OkO js o) : S_check_order [.int (js.length : Int), tD o] .none := ⟨_, o, ho, h.2.1, rfl, rfl⟩
theorem keeps_ends : Keeps (q_ends S_check_jobs S_check_order S_ends_of) N_ends 2 S_ends := by
  rintro ds d ⟨js, o, h, ho, rfl, rfl⟩
  refine ⟨rfl, ?_⟩
  simp [q_ends, startV, N_ends]
  refine ⟨⟨_, ck h⟩, ?_⟩
  simp [tD_list]
  exact ⟨⟨_, co h ho⟩, ⟨js, o, h, ho, rfl, rfl⟩⟩
def S_weighted : VL.Spec := fun ds d => ∃ js o, OkJs js ∧ OkO js o ∧ ds = [tD js, tD o] ∧ d = .int (wsum js o)
theorem zip_ends (js : List Jb) (o : List Nat) : zipD ((endsL js o).map .int) (js.map tD) = (List.range js.length).map fun k => .tuple [.int (bt js o (o.idxOf k)), tD (J js k)] := by
  have : js.map tD = (List.range js.length).map fun k => tD (J js k) := by
    refine List.ext_getElem? fun k => ?_
    by_cases hk : k < js.length
    · simp [J_at hk, List.getElem?_range hk]
    · simp [List.getElem?_eq_none (show js.length ≤ k by omega), List.getElem?_eq_none (show (List.range js.length).length ≤ k by simp; omega)]
  rw [this]
  unfold zipD endsL
  rw [List.map_map, List.zipWith_map, List.zipWith_self]
  rfl
theorem keeps_weighted : Keeps (q_weighted S_check_jobs S_check_order S_ends_of) N_weighted 2 S_weighted := by
  rintro ds d ⟨js, o, h, ho, rfl, rfl⟩
  refine ⟨rfl, ?_⟩
  simp [q_weighted, startV, N_weighted]
  refine ⟨⟨_, ck h⟩, ?_⟩
  simp [tD_list]
  refine ⟨⟨_, co h ho⟩, _, ⟨js, o, h, ho, rfl, rfl⟩, ?_⟩
  have z := zip_ends js o
  have := big
  have hl := h.2.1
  simp [tD_list] 
  have z2 : zipD ((endsL js o).map tD) (js.map tD) = _ := z
  rw [z2]
  refine ⟨by simp; omega, ?_⟩
  refine lcRun_map (fun k => .int (bt js o (o.idxOf k) * wt js k)) _ ?_ ?_
  · intro k hk P hP
    have hw := (J_ok h.2.2 k).2.1
    simp [tD_at, mul_int (i := bt js o (o.idxOf k)) (j := wt js k) (.inr (by unfold wt; omega)), hP]
  · rw [List.nil_append, sum_map]
    rfl
def S_is_wrong : VL.Spec := fun ds d => ∃ x y : Jb, OkJ x ∧ OkJ y ∧ ds = [tD x, tD y] ∧ d = .bool (decide (x.b * y.a < y.b * x.a))
theorem keeps_is_wrong : Keeps q_is_wrong N_is_wrong 2 S_is_wrong := by
  rintro ds d ⟨x, y, hx, hy, rfl, rfl⟩
  refine ⟨rfl, ?_⟩
  unfold OkJ at hx hy
  simp [q_is_wrong, startV, N_is_wrong, tD_jb, mul_int (i := x.b) (j := y.a) (.inr (by omega)), mul_int (i := y.b) (j := x.a) (.inr (by omega))]
theorem iw {js : List Jb} (h : OkJs js) (a b : Nat) : S_is_wrong [tD (J js a), tD (J js b)] (.bool (wr js a b)) := ⟨_, _, J_ok h.2.2 a, J_ok h.2.2 b, rfl, rfl⟩
def wrAt (js : List Jb) (o : List Nat) (i : Nat) : Bool := wr js (o[i]?.getD 0) (o[i + 1]?.getD 0)
def oNat : Option Nat → D
  | none => .none
  | some i => tD i
def swapD (js : List Jb) (o : List Nat) : D := oNat ((List.range (o.length - 1)).find? (wrAt js o))
def S_swap : VL.Spec := fun ds d => ∃ js o, OkJs js ∧ OkO js o ∧ ds = [tD js, tD o] ∧ d = swapD js o
theorem find_first {n i : Nat} {p : Nat → Bool} (hi : i < n) (hp : p i = true) (hn : ∀ j, j < i → p j = false) : (List.range n).find? p = some i := by
  rw [List.find?_range_eq_some]
  exact ⟨hp, List.mem_range.mpr hi, fun j hj => by simpa using hn j hj⟩
theorem keeps_swap : Keeps (q_swap S_check_jobs S_check_order S_is_wrong) N_swap 2 S_swap := by
  rintro ds d ⟨js, o, h, ho, rfl, rfl⟩
  refine ⟨rfl, ?_⟩
  have hol : o.length = js.length := by rw [ho.length_eq, List.length_range]
  obtain ⟨h1, h2, h3⟩ := id h
  simp [q_swap, startV, N_swap]
  refine ⟨⟨_, ck h⟩, ?_⟩
  simp [tD_list]
  refine ⟨⟨_, co h ho⟩, by omega, ?_⟩
  refine forRun_rng (fun i ρ => ∃ a, (∀ j, j < i → wrAt js o j = false) ∧ ρ = [.val (tD js), .val (tD o), a]) _ ⟨_, by omega, rfl⟩ ?_ ?_
  · rintro i ρ hi ⟨a, hn, rfl⟩ K hK
    have g1 : o[i]? = some (o[i]?.getD 0) := by rw [List.getElem?_eq_getElem (show i < o.length by omega)]; rfl
    have g2 : o[i + 1]? = some (o[i + 1]?.getD 0) := by rw [List.getElem?_eq_getElem (show i + 1 < o.length by omega)]; rfl
    have k1 := ok_lt ho g1
    have k2 := ok_lt ho g2
    have x1 : oIx (.list (o.map tD)) (.int (i : Int)) = some (.int ((o[i]?.getD 0 : Nat) : Int)) := ix_map g1
    have x2 : oIx (.list (o.map tD)) (.int ((i : Int) + 1)) = some (.int ((o[i + 1]?.getD 0 : Nat) : Int)) := ix_map g2
    simp only [tD_list, e_ifS, e_tst, e_call, e_cons, e_2, e_var, e_nil, e_c, e_name, e_ret, e_next, List.set_cons_succ, List.set_cons_zero, List.getElem?_cons_succ, List.getElem?_cons_zero, Option.bind_some, e_getV, Option.some.injEq, exists_eq_left', x1, x2, ixpg k1, ixpg k2, add_int]
    refine ⟨_, iw h _ _, _, rfl, ?_⟩
    split
    · rename_i hw
      show _ = swapD js o
      unfold swapD
      rw [find_first hi hw hn]; rfl
    · rename_i hw
      refine hK _ ⟨_, fun j hj => ?_, rfl⟩
      by_cases e : j = i
      · subst e; simpa [wrAt] using hw
      · exact hn j (by omega)
  · rintro ρ ⟨a, hn, rfl⟩
    show PyData.none = swapD js o
    unfold swapD
    have : (List.range (o.length - 1)).find? (wrAt js o) = none := by
      rw [List.find?_eq_none]
      intro x hx
      simp [hn x (List.mem_range.mp hx)]
    rw [this]; rfl
end P32
namespace P32
open PySem VL L2
open PySem.W (Datum DatumOrd T3)
def S_least_order : VL.Spec := fun ds d => ∃ js, OkJs js ∧ ds = [tD js] ∧ d = tD (greedy js js.length (List.range js.length))
theorem keeps_least_order : Keeps (q_least_order S_check_jobs S_is_wrong) N_least_order 1 S_least_order := by
  rintro ds d ⟨js, h, rfl, rfl⟩
  refine ⟨rfl, ?_⟩
  obtain ⟨h1, h2, h3⟩ := id h
  have e3 : rangeD 0 js.length = (List.range js.length).map tD := rangeD0 _
  simp [q_least_order, startV, N_least_order]
  refine ⟨⟨_, ck h⟩, ?_⟩
  simp [tD_list, rgOk_n (show js.length ≤ 1000 by omega), e3]
  refine ⟨js.length + 1, ?_⟩
  have key : ∀ (n : Nat) (left fd : List Nat) (a b c : Sl), left.length = n → fd.length + n ≤ 10 → (∀ x ∈ left, x < js.length) → fd ++ greedy js n left = greedy js js.length (List.range js.length) →
      whRun (qTst (q2 oGt (qN oLen (qCons (qVarL 1) qNil)) (qC (.int 0)))) (qSeq (qSet 3 (qLc (qIList (qVarL 1)) (qName 4) (qNot (qTst (qN oAny (qCons (qLc (qIList (qVarL 1)) (qName 5) qYes (qCall S_is_wrong (qCons (q2 oIx (qVar 0) (qVar 4)) (qCons (q2 oIx (qVar 0) (qVar 5)) qNil))) [5]) qNil)))) (qVar 4) [4]))
  (qSeq (qMeth 2 fAppend (qCons (q2 oIx (qVar 3) (qC (.int 0))) qNil))
  (qMeth 1 fRemove (qCons (q2 oIx (qVar 3) (qC (.int 0))) qNil)))) { nx := qRetV 2 { nx := fun x => False, rt := fun r => r = tD (greedy js js.length (List.range js.length)) }, rt := fun r => r = tD (greedy js js.length (List.range js.length)) } (n + 1) [.val (tD js), .own (.list (left.map tD)), .own (.list (fd.map tD)), a, b, c] := by
    intro n
    induction n with
    | zero =>
      intro left fd a b c hl hf hm hg
      have : left = [] := List.eq_nil_of_length_eq_zero hl
      subst this
      simp [whRun, tD_list]
      simp [greedy] at hg
      rw [hg]
    | succ n ih =>
      intro left fd a b c hl hf hm hg
      obtain ⟨k, r, e⟩ := able_ne (pos_of h3) (left := left) (by intro q; subst q; simp at hl)
      have hk := able_iff.mp (show k ∈ able js left by rw [e]; exact List.mem_cons_self)
      have eg : greedy js (n + 1) left = k :: greedy js n (left.erase k) := by simp [greedy, e]
      rw [whRun]
      have bg := big
      have z : (0 : Int) < left.length := by omega
      simp [z]
      refine .inr ⟨by omega, by omega, ?_⟩
      refine lcRun_filter (fun k => tD k) (fun k => !left.any fun o => wr js k o) left ?_ ?_
      · intro x hx P hP
        refine ⟨by omega, lcRun_map (fun o => .bool (wr js x o)) left ?_ ?_⟩
        · intro y hy P2 hP2
          simp [tD_list, tD_nat x, tD_nat y, ixpg (hm x hx), ixpg (hm y hy)]
          exact ⟨_, iw h x y, hP2⟩
        · rw [List.nil_append, any_map]
          generalize (left.any fun o => wr js x o) = v at hP ⊢
          cases v <;> simpa using hP
      · have e4 : (left.filter fun k => !left.any fun o => wr js k o) = k :: r := e
        rw [e4]
        have := remove_tD (xs := left) (x := k) (by omega) hk.1
        simp [append_ok (ds := fd.map tD) (d := tD k) (by simp; omega), this]
        have := ih (left.erase k) (fd ++ [k]) (.val (.list (tD k :: r.map tD))) b c (by rw [List.length_erase_of_mem hk.1]; omega) (by simp; omega) (fun x hx => hm x (List.mem_of_mem_erase hx)) (by rw [List.append_assoc, ← hg, eg]; rfl)
        simpa [tD_list] using this
  have := key js.length (List.range js.length) [] .no .no .no List.length_range (by simp; omega) (fun x hx => List.mem_range.mp hx) rfl
  simpa [tD_list] using this
end P32
namespace P32
open PySem VL L2
open PySem.W (Datum DatumOrd T3)
def big60 : Nat → Int → List Int
  | 0, _ => []
  | n + 1, r => if 0 < r then r % 65536 :: big60 n (r / 65536) else big60 n r
def absI (i : Int) : Int := if i < 0 then -i else i
def piece (k : Nat) (x : Int) : List Int :=
  if 1000000000000000000 ≤ absI x then big60 60 (absI x)
  else [((absI x * 48271 + ((k : Int) + 1) * 69621) % 2147483647 * 16807 + 11 * (k : Int) + 5) % 2147483629 % 65536, ((absI x * 48271 + ((k : Int) + 1) * 69621) % 2147483647 * 16807 + 11 * (k : Int) + 5) % 2147483629 / 65536 % 32768]
def drawsL (ns : List Int) : List Int := (List.range (min 63 ns.length)).flatMap fun k => piece k ((ns[k]?).getD 0)
theorem big60_len : ∀ (n : Nat) (r : Int), (big60 n r).length ≤ n
  | 0, _ => Nat.le_refl _
  | n + 1, r => by
    unfold big60
    have a := big60_len n (r / 65536)
    have b := big60_len n r
    split
    · rw [List.length_cons]; omega
    · omega
theorem piece_len (k : Nat) (x : Int) : (piece k x).length ≤ 60 := by
  unfold piece
  split
  · exact big60_len 60 _
  · simp
def S__law_draws : List Int → D → Prop := fun ns d => d = tD (drawsL ns)
theorem pow18 : oPow (.int 10) (.int 18) = some (.int 1000000000000000000) := rfl
theorem keeps__law_draws : KeepsS q__law_draws N__law_draws S__law_draws := by
  rintro ns d rfl
  have bg := big
  have em : oMin2 [.int 63, .int (ns.length : Int)] = some (.int ((min 63 ns.length : Nat) : Int)) := by
    show some (PyData.int _) = _
    congr 2
    split <;> omega
  simp [q__law_draws, startS, N__law_draws, em]
  refine ⟨by omega, ?_⟩
  refine forRun_rng (fun i ρ => ∃ a b c e, ρ = [.scr ns, .own (.list (((List.range i).flatMap fun k => piece k ((ns[k]?).getD 0)).map .int)), a, b, c, e]) _ ⟨_, _, _, _, rfl⟩ ?_ ?_
  · rintro i ρ hi ⟨a, b, c, e, rfl⟩ K hK
    have hlen : ((List.range i).flatMap fun k => piece k ((ns[k]?).getD 0)).length ≤ 60 * i := by
      clear hK hi
      induction i with
      | zero => simp
      | succ i ih =>
        rw [List.range_succ, List.flatMap_append, List.length_append]
        have := piece_len i ((ns[i]?).getD 0)
        have e : [i].flatMap (fun k => piece k ((ns[k]?).getD 0)) = piece i ((ns[i]?).getD 0) := by simp
        rw [e]; omega
    have hn : (List.range (i + 1)).flatMap (fun k => piece k ((ns[k]?).getD 0)) = (List.range i).flatMap (fun k => piece k ((ns[k]?).getD 0)) ++ piece i ((ns[i]?).getD 0) := by
      rw [List.range_succ, List.flatMap_append]; simp
    rw [hn] at hK
    generalize ((List.range i).flatMap fun k => piece k ((ns[k]?).getD 0)) = acc at hlen hK ⊢
    have hx : atI ns (i : Int) = some ((ns[i]?).getD 0) := by
      unfold atI
      rw [ixN_nat (show i < ns.length by omega)]
      simp [List.getElem?_eq_getElem (show i < ns.length by omega)]
    have ha : oAbs [.int ((ns[i]?).getD 0)] = some (.int (absI ((ns[i]?).getD 0))) := rfl
    simp [hx, ha, pow18]
    unfold piece at hK
    generalize (ns[i]?).getD 0 = x at hx ha hK ⊢
    by_cases hb : 1000000000000000000 ≤ absI x
    · rw [if_pos hb] at hK
      simp [hb]
      refine .inr ?_
      refine forRun_rng (fun t ρ => ∃ l r a b, l.length ≤ t ∧ l ++ big60 (60 - t) r = big60 60 (absI x) ∧ ρ = [.scr ns, .own (.list ((acc ++ l).map .int)), .val (.int (i : Int)), .val (.int r), a, b]) 60 ⟨[], _, c, e, by simp, rfl, by simp⟩ ?_ ?_
      · rintro t ρ ht ⟨l, r, a, b, h1, h2, rfl⟩ K2 hK2
        have hu : 60 - t = (60 - (t + 1)) + 1 := by omega
        rw [hu, big60] at h2
        by_cases hr : 0 < r
        · rw [if_pos hr] at h2
          simp [hr, mod_int, div_int]
          rw [← List.map_append, append_ok (by simp; omega)]
          refine ⟨_, rfl, ?_⟩
          exact hK2 _ ⟨l ++ [r % 65536], r / 65536, .val (.int (t : Int)), b, by simp; omega, by simpa using h2, by simp⟩
        · rw [if_neg hr] at h2
          simp [hr]
          exact hK2 _ ⟨l, r, .val (.int (t : Int)), b, by omega, h2, by simp⟩
      · rintro ρ ⟨l, r, a, b, h1, h2, rfl⟩
        have : l = big60 60 (absI x) := by rw [← h2]; simp [big60]
        subst this
        exact hK _ ⟨_, _, _, _, rfl⟩
    · rw [if_neg hb] at hK
      have q1 : ∀ y : Int, oMul (.int y) (.int 48271) = some (.int (y * 48271)) := fun y => mul_int (.inr (by omega))
      have q2 : ∀ y : Int, oMul (.int y) (.int 69621) = some (.int (y * 69621)) := fun y => mul_int (.inr (by omega))
      have q3 : ∀ y : Int, oMul (.int y) (.int 16807) = some (.int (y * 16807)) := fun y => mul_int (.inr (by omega))
      have q4 : ∀ y : Int, oMul (.int 11) (.int y) = some (.int (11 * y)) := fun y => mul_int (.inl (by omega))
      simp only [Int.not_le] at hb
      simp [hb, q1, q2, q3, q4, mod_int, div_int]
      refine .inl ⟨_, append_ok (by simp; omega), _, append_ok (by simp; omega), ?_⟩
      refine hK _ ⟨.val (.int (i : Int)), .val (.int (absI x)), c, .val (.int (((absI x * 48271 + ((i : Int) + 1) * 69621) % 2147483647 * 16807 + 11 * (i : Int) + 5) % 2147483629)), by simp⟩
  · rintro ρ ⟨a, b, c, e, rfl⟩
    simp [tD_list, drawsL]
    intros; rfl
def mixL (ds : List Int) (k many : Int) : Int :=
  let v := if 0 < ds.length then (ds[(k % (ds.length : Int)).toNat]?).getD 0 else 0
  if k < ds.length then v % many else (v * 7919 + k * 104729) / 3 % many
theorem mixL_range {ds : List Int} {k many : Int} (h : 0 < many) : 0 ≤ mixL ds k many ∧ mixL ds k many < many := by
  unfold mixL
  dsimp only
  split
  · exact ⟨Int.emod_nonneg _ (by omega), Int.emod_lt_of_pos _ h⟩
  · exact ⟨Int.emod_nonneg _ (by omega), Int.emod_lt_of_pos _ h⟩
def S__law_mix : VL.Spec := fun ds d => ∃ (xs : List Int) (k many : Int), 0 < many ∧ ds = [tD xs, .int k, .int many] ∧ d = .int (mixL xs k many)
theorem mx {xs : List Int} {k many : Int} (h : 0 < many) : S__law_mix [tD xs, .int k, .int many] (.int (mixL xs k many)) := ⟨xs, k, many, h, rfl, rfl⟩
theorem keeps__law_mix : Keeps q__law_mix N__law_mix 3 S__law_mix := by
  rintro ds d ⟨xs, k, many, hm, rfl, rfl⟩
  refine ⟨rfl, ?_⟩
  have q1 : ∀ y : Int, oMul (.int y) (.int 7919) = some (.int (y * 7919)) := fun y => mul_int (.inr (by omega))
  have q2 : ∀ y : Int, oMul (.int y) (.int 104729) = some (.int (y * 104729)) := fun y => mul_int (.inr (by omega))
  simp [q__law_mix, startV, N__law_mix, tD_list]
  by_cases h0 : 0 < xs.length
  · have hi := Int.emod_nonneg k (show (xs.length : Int) ≠ 0 by omega)
    have hj := Int.emod_lt_of_pos k (show 0 < (xs.length : Int) by omega)
    have e1 : oIx (.list (xs.map tD)) (.int (k % (xs.length : Int))) = some (.int ((xs[(k % (xs.length : Int)).toNat]?).getD 0)) := by
      obtain ⟨m, hm2⟩ : ∃ m : Nat, k % (xs.length : Int) = (m : Int) := ⟨(k % (xs.length : Int)).toNat, by omega⟩
      rw [hm2] at hj ⊢
      refine ix_map ?_
      have h2 : m < xs.length := by omega
      simp [List.getElem?_eq_getElem h2]
    have p0 : (0 : Int) < xs.length := by omega
    simp [h0, p0, mod_int p0, e1]
    unfold mixL
    rw [if_pos h0]
    by_cases hk : k < xs.length
    · simp [hk, mod_int hm]
    · simp [hk, mod_int hm, q1, q2, div_int]
      exact .inr (by omega)
  · have e : xs = [] := by
      cases xs with
      | nil => rfl
      | cons _ _ => simp at h0
    subst e
    simp
    unfold mixL
    by_cases hk : k < 0
    · simp [hk, mod_int hm]
    · simp [hk, mod_int hm, q1, q2, div_int]
      omega
end P32
namespace P32
open PySem VL L2
open PySem.W (Datum DatumOrd T3)
def wideL (ds : List Int) (k : Int) : Int := if mixL ds k 3 = 0 then 4 else if mixL ds k 3 = 1 then 30 else 100
def jobAt (ds : List Int) (k : Int) (t : Nat) : Jb :=
  ⟨1 + mixL ds (k + 2 + 3 * (t : Int)) (wideL ds k), mixL ds (k + 3 + 3 * (t : Int)) (wideL ds k + 1), mixL ds (k + 4 + 3 * (t : Int)) (4 * wideL ds k)⟩
def jobsL (ds : List Int) (k most : Int) : List Jb := (List.range (1 + mixL ds (k + 1) most).toNat).map (jobAt ds k)
theorem wide_range (ds : List Int) (k : Int) : 4 ≤ wideL ds k ∧ wideL ds k ≤ 100 := by
  unfold wideL; split; omega; split <;> omega
theorem jobs_ok {ds : List Int} {k most : Int} (h : 1 ≤ most ∧ most ≤ 10) : OkJs (jobsL ds k most) := by
  have a := mixL_range (ds := ds) (k := k + 1) (show 0 < most by omega)
  have w := wide_range ds k
  unfold jobsL
  refine ⟨by simp; omega, by simp; omega, fun j hj => ?_⟩
  obtain ⟨t, _, rfl⟩ := List.mem_map.mp hj
  have b1 := mixL_range (ds := ds) (k := k + 2 + 3 * (t : Int)) (show 0 < wideL ds k by omega)
  have b2 := mixL_range (ds := ds) (k := k + 3 + 3 * (t : Int)) (show 0 < wideL ds k + 1 by omega)
  have b3 := mixL_range (ds := ds) (k := k + 4 + 3 * (t : Int)) (show 0 < 4 * wideL ds k by omega)
  unfold OkJ jobAt
  dsimp only
  omega
def S__law_jobs : VL.Spec := fun ds d => ∃ (xs : List Int) (k most : Int), (1 ≤ most ∧ most ≤ 10) ∧ ds = [tD xs, .int k, .int most] ∧ d = tD (jobsL xs k most)
theorem keeps__law_jobs : Keeps (q__law_jobs S__law_mix) N__law_jobs 3 S__law_jobs := by
  rintro ds d ⟨xs, k, most, hm, rfl, rfl⟩
  refine ⟨rfl, ?_⟩
  have bg := big
  have a := mixL_range (ds := xs) (k := k + 1) (show 0 < most by omega)
  have w := wide_range xs k
  have m3 := mixL_range (ds := xs) (k := k) (show (0 : Int) < 3 by omega)
  simp [q__law_jobs, startV, N__law_jobs]
  refine ⟨_, mx (by omega), ?_⟩
  have ew : oIx (.list [.int 4, .int 30, .int 100]) (.int (mixL xs k 3)) = some (.int (wideL xs k)) := by
    unfold wideL
    generalize mixL xs k 3 = m at m3
    have : m = 0 ∨ m = 1 ∨ m = 2 := by omega
    rcases this with rfl | rfl | rfl <;> simp
  refine ⟨_, ew, _, mx (by omega), _, rfl, ?_⟩
  refine ⟨_, rfl, by omega, ?_⟩
  refine forRun_rng (fun i ρ => ∃ a b c, ρ = [.val (tD xs), .val (.int k), .val (.int most), .val (.int (wideL xs k)), .own (.list ((List.range i).map fun t => tD (jobAt xs k t))), a, b, c]) _ ⟨_, _, _, rfl⟩ ?_ ?_
  · rintro i ρ hi ⟨x, y, z, rfl⟩ K hK
    have q1 : oMul (.int 3) (.int (i : Int)) = some (.int (3 * (i : Int))) := mul_int (.inl (by omega))
    have q2 : oMul (.int 4) (.int (wideL xs k)) = some (.int (4 * wideL xs k)) := mul_int (.inl (by omega))
    simp [q1, q2]
    refine ⟨_, mx (by omega), _, rfl, _, mx (by omega), _, mx (by omega), _, append_ok (by simp; omega), ?_⟩
    refine hK _ ⟨.val (.int (i : Int)), .val (.int (1 + mixL xs (k + 2 + 3 * (i : Int)) (wideL xs k))), .val (.int (mixL xs (k + 3 + 3 * (i : Int)) (wideL xs k + 1))), ?_⟩
    rw [List.range_succ, List.map_append]
    rfl
  · rintro ρ ⟨x, y, z, rfl⟩
    refine ⟨_, rfl, ?_⟩
    unfold jobsL
    rw [tD_list, List.map_map]
    rfl
def S__law_orders : VL.Spec := fun ds d => ∃ n : Nat, n ≤ 5 ∧ ds = [tD n] ∧ d = tD (orders n n)
theorem step_append (n : Nat) (xs : List (List Nat)) (t : List Nat) : step n (xs ++ [t]) = step n xs ++ ((List.range n).filter fun k => !decide (k ∈ t)).map fun k => t ++ [k] := by
  unfold step; rw [List.flatMap_append]; simp
theorem pow_le5 {n t : Nat} (hn : n ≤ 5) (ht : t ≤ 5) : n ^ t ≤ 3125 := by
  have a : n ^ t ≤ 5 ^ t := Nat.pow_le_pow_left hn t
  have b : 5 ^ t ≤ 5 ^ 5 := Nat.pow_le_pow_right (by omega) ht
  omega
theorem keeps__law_orders : Keeps q__law_orders N__law_orders 1 S__law_orders := by
  rintro ds d ⟨n, hn, rfl, rfl⟩
  refine ⟨rfl, ?_⟩
  have bg := big
  simp [q__law_orders, startV, N__law_orders, tD_nat n]
  refine ⟨by omega, ?_⟩
  refine forRun_rng (fun t ρ => ∃ a b c e, ρ = [.val (.int (n : Int)), .val (tD (orders n t)), a, b, c, e]) _ ⟨_, _, _, _, rfl⟩ ?_ ?_
  · rintro t ρ ht ⟨a, b, c, e, rfl⟩ K hK
    have hlen := Nat.le_trans (orders_len n t) (pow_le5 hn (show t ≤ 5 by omega))
    have hmem := fun l hl => (orders_mem n t l).mp hl
    have hst : orders n (t + 1) = step n (orders n t) := rfl
    rw [hst] at hK
    generalize orders n t = os at *
    simp [tD_list]
    refine forRun_inv (fun i ρ => ∃ c e, ρ = [.val (.int (n : Int)), .val (tD os), .val (.int (t : Int)), .val (tD (step n (os.take i))), c, e]) os ⟨c, e, by simp [step, tD_list]⟩ ?_ ?_
    · rintro i x ρ hx ⟨c, e, rfl⟩ K2 hK2
      have hi := (List.getElem?_eq_some_iff.mp hx).1
      have hxl := hmem x (List.mem_of_getElem? hx)
      have hs : (step n (os.take i)).length ≤ 16000 := by
        have : ∀ ys : List (List Nat), (step n ys).length ≤ ys.length * n := by
          intro ys
          induction ys with
          | nil => simp [step]
          | cons y ys ih =>
            unfold step at ih ⊢
            rw [List.flatMap_cons, List.length_append, List.length_map, List.length_cons, Nat.add_mul]
            have := List.length_filter_le (fun k => !decide (k ∈ y)) (List.range n)
            rw [List.length_range] at this
            omega
        have h1 := this (os.take i)
        have h2 : (os.take i).length * n ≤ 3125 * 5 := Nat.mul_le_mul (by simp; omega) hn
        omega
      simp [tD_list]
      refine ⟨by omega, by simp [rangeD]; omega, ?_⟩
      rw [rangeD0]
      refine lcRun_filter (fun k : Nat => tD (x ++ [k])) (fun k => !decide (k ∈ x)) _ ?_ ?_
      · intro m hm P hP
        have e1 : oNotIn (.int (m : Int)) (.list (x.map tD)) = some (.bool (!decide (m ∈ x))) := oNotIn_tD m x
        have e2 : oAdd (.list (x.map tD)) (.list [.int (m : Int)]) = some (.list ((x ++ [m]).map tD)) := by
          rw [cat_ok (by simp; omega), List.map_append]; rfl
        simp [e1, e2]
        by_cases hq : m ∈ x
        · simp [hq] at hP ⊢; exact hP
        · simp [hq] at hP ⊢; simpa [tD_list] using hP
      · have e3 := step_append n (os.take i) x
        have hl2 : (((List.range n).filter fun k => !decide (k ∈ x)).map fun k : Nat => tD (x ++ [k])).length ≤ 5 := by
          rw [List.length_map]
          have := List.length_filter_le (fun k => !decide (k ∈ x)) (List.range n)
          rw [List.length_range] at this
          omega
        refine ⟨_, cat_ok (by simp at hl2 ⊢; omega), ?_⟩
        refine hK2 _ ⟨.val (tD x), e, ?_⟩
        have e4 : os.take (i + 1) = os.take i ++ [x] := by
          rw [List.take_succ_eq_append_getElem hi, (List.getElem?_eq_some_iff.mp hx).2]
        rw [e4, e3]
        simp [tD_list]
    · rintro ρ ⟨c, e, rfl⟩
      rw [List.take_length]
      simp
      exact hK _ ⟨_, _, _, _, rfl⟩
  · rintro ρ ⟨a, b, c, e, rfl⟩
    simp
def S__law_ends : VL.Spec := S_ends_of
theorem keeps__law_ends : Keeps q__law_ends N__law_ends 2 S__law_ends := by
  rintro ds d ⟨js, o, ⟨h1, h2, h3⟩, ho, rfl, rfl⟩
  refine ⟨rfl, ?_⟩
  have bg := big
  have hol : o.length = js.length := by rw [ho.length_eq, List.length_range]
  simp [q__law_ends, startV, N__law_ends, tD_list]
  refine ⟨by omega, ?_⟩
  refine forRun_rng (fun i ρ => ∃ f a b, Ends js o i f ∧ ρ = [.val (tD js), .val (tD o), .own (.list (f.map .int)), a, b]) o.length ⟨o.map fun k : Nat => (k : Int), .no, .no, ⟨by simpa using hol, by omega⟩, by simp [tD_list]; intros; rfl⟩ ?_ ?_
  · rintro i ρ hi ⟨f, a, b, hf, rfl⟩ K hK
    have hk : o[i]? = some (o[i]'hi) := List.getElem?_eq_getElem hi
    generalize o[i]'hi = k at hk
    have hkl := ok_lt ho hk
    have x1 : oIx (.list (o.map tD)) (.int (i : Int)) = some (.int (k : Int)) := ix_map hk
    have x2 : oSlice (.list (o.map tD)) none (some ((i : Int) + 1)) = some (.list ((o.map tD).take (i + 1))) := slice_to
    simp [tD_list, x1, x2]
    refine ⟨by (first | omega | (simp; omega)), ?_⟩
    rw [← List.map_take]
    refine lcRun_map (fun m => .int (pg js m)) _ ?_ ?_
    · intro m hm P hP
      have hml : m < js.length := List.mem_range.mp (ho.subset (List.mem_of_mem_take hm))
      simp [tD_nat m, ixpg hml, tD_at, hP]
    · rw [List.nil_append, sum_map]
      refine ⟨_, rfl, _, ixN_nat (by simp [hf.1]; exact hkl), ?_⟩
      refine hK _ ⟨f.set k (bt js o i), .val (.int (i : Int)), b, ends_step ho hf hk, ?_⟩
      rw [List.map_set]; rfl
  · rintro ρ ⟨f, a, b, hf, rfl⟩
    simp [tD_list, ends_all ho hf]
    intros; rfl
end P32
namespace P32
open PySem VL L2
open PySem.W (Datum DatumOrd T3)
def drawnL (ds : List Int) (k : Int) (n : Nat) : List Nat := (srt ((List.range n).map fun j : Nat => (mixL ds (k + (j : Int)) 97, j))).map (·.2)
theorem drawn_perm (ds : List Int) (k : Int) (n : Nat) : (drawnL ds k n).Perm (List.range n) := by
  have h := (srt_perm ((List.range n).map fun j : Nat => (mixL ds (k + (j : Int)) 97, j))).map (·.2)
  rw [List.map_map] at h
  have e : (List.range n).map ((fun x : Int × Nat => x.2) ∘ fun j : Nat => (mixL ds (k + (j : Int)) 97, j)) = List.range n := by
    show (List.range n).map (fun j => j) = _
    simp
  rw [e] at h
  exact h
def S__law_drawn_order : VL.Spec := fun ds d => ∃ (xs : List Int) (k : Int) (n : Nat), n ≤ 10 ∧ ds = [tD xs, .int k, tD n] ∧ d = tD (drawnL xs k n)
theorem keeps__law_drawn_order : Keeps (q__law_drawn_order S__law_mix) N__law_drawn_order 3 S__law_drawn_order := by
  rintro ds d ⟨xs, k, n, hn, rfl, rfl⟩
  refine ⟨rfl, ?_⟩
  have bg := big
  simp [q__law_drawn_order, startV, N__law_drawn_order, tD_nat n]
  refine ⟨by omega, by simp [rangeD]; omega, ?_⟩
  rw [rangeD0]
  refine lcRun_map (fun j : Nat => tD ((mixL xs (k + (j : Int)) 97, j) : Int × Nat)) _ ?_ ?_
  · intro j hj P hP
    exact ⟨_, rfl, _, mx (by omega), hP⟩
  · rw [List.nil_append]
    have e : (List.range n).map (fun j : Nat => tD ((mixL xs (k + (j : Int)) 97, j) : Int × Nat)) = ((List.range n).map fun j : Nat => (mixL xs (k + (j : Int)) 97, j)).map tD := by rw [List.map_map]; rfl
    rw [e, oSorted_tD _ (sortable_pair _) (by simp; omega)]
    refine ⟨_, rfl, ?_⟩
    have hl := (srt_perm ((List.range n).map fun j : Nat => (mixL xs (k + (j : Int)) 97, j))).length_eq
    simp at hl
    refine ⟨_, rfl, by rw [List.length_map, hl]; omega, ?_⟩
    refine lcRun_map (fun p : Int × Nat => tD p.2) _ ?_ ?_
    · intro p hp P hP
      obtain ⟨a, b⟩ := p
      simp [tD_pair]
      exact hP
    · rw [List.nil_append, tD_list]
      unfold drawnL
      rw [List.map_map]
      rfl
def S__law_sum : VL.Spec := S_weighted
theorem keeps__law_sum : Keeps (q__law_sum S__law_ends) N__law_sum 2 S__law_sum := by
  rintro ds d ⟨js, o, h, ho, rfl, rfl⟩
  refine ⟨rfl, ?_⟩
  have bg := big
  obtain ⟨h1, h2, h3⟩ := id h
  simp [q__law_sum, startV, N__law_sum]
  refine ⟨_, ⟨js, o, h, ho, rfl, rfl⟩, ?_⟩
  refine ⟨_, rfl, ?_⟩
  refine ⟨_, rfl, ⟨by simp, by simp; omega⟩, ?_⟩
  simp
  rw [rangeD0]
  refine ⟨by simp; omega, ?_⟩
  refine lcRun_map (fun k => .int (bt js o (o.idxOf k) * wt js k)) _ ?_ ?_
  · intro k hk P hP
    have hkl : k < js.length := List.mem_range.mp hk
    have hw := (J_ok h3 k).2.1
    have e1 : oIx (tD (endsL js o)) (.int (k : Int)) = some (.int (bt js o (o.idxOf k))) := ix_map (by unfold endsL; rw [List.getElem?_map, List.getElem?_range hkl]; rfl)
    have e2 : oIx (tD js) (.int (k : Int)) = some (tD (J js k)) := ixpg hkl
    simp [e1, e2, tD_at, mul_int (i := bt js o (o.idxOf k)) (j := wt js k) (.inr (by unfold wt; omega)), hP]
  · rw [List.nil_append, sum_map]
    rfl
end P32
namespace P32
open PySem VL L2
open PySem.W (Datum DatumOrd T3)
def q_in2 : QS :=
  (qSeq (qSetO 10 (qCall S_ends (qCons (qVar 3) (qCons (qVar 9) qNil))))
   (qSeq (qSet 11 (qCall S__law_sum (qCons (qVar 3) (qCons (qVar 9) qNil))))
   (qSeq (qIfS (qOr (qTst (q2 oNe (qN oRepr (qCons (qVarL 10) qNil)) (qN oRepr (qCons (qCall S__law_ends (qCons (qVar 3) (qCons (qVar 9) qNil))) qNil)))) (qOr (qTst (q2 oNe (qN oRepr (qCons (qCall S_weighted (qCons (qVar 3) (qCons (qVar 9) qNil))) qNil)) (qN oRepr (qCons (qVar 11) qNil)))) (qTst (q2 oLt (qVar 11) (qVar 6))))) (qRet (qC (.bool false)))
   qNext)
   (qSeq (qSetO 12 (qLst qNil))
   (qSeq (qFor (qIRng1 (qCons (q2 oSub (qN oLen (qCons (qVar 9) qNil)) (qC (.int 1))) qNil)) (qName 13)
    (qSeq (qSet 15 (q2 oAdd (q2 oAdd (qSl oSlice (qVar 9) qNone (qSome (qVar 13))) (qLst (qCons (q2 oIx (qVar 9) (q2 oAdd (qVar 13) (qC (.int 1)))) (qCons (q2 oIx (qVar 9) (qVar 13)) qNil)))) (qSl oSlice (qVar 9) (qSome (q2 oAdd (qVar 13) (qC (.int 2)))) qNone)))
    (qMeth 12 fAppend (qCons (qCall S__law_sum (qCons (qVar 3) (qCons (qVar 15) qNil))) qNil))))
   (qSeq (qSet 14 (qLc (qIRng1 (qCons (qN oLen (qCons (qVarL 12) qNil)) qNil)) (qName 13) (qTst (q2 oLt (q2 oIx (qVarL 12) (qVar 13)) (qVar 11))) (qVar 13) [13]))
   (qSeq (qIfS (qOr (qTst (q2 oNe (qN oRepr (qCons (qCall S_swap (qCons (qVar 3) (qCons (qVar 9) qNil))) qNil)) (qN oRepr (qCons (q2 oIx (q2 oAdd (qVar 14) (qLst (qCons (qC .none) qNil))) (qC (.int 0))) qNil)))) (qTst (q2 oNe (q2 oEq (qVar 14) (qLst qNil)) (q2 oEq (qVar 11) (qVar 6))))) (qRet (qC (.bool false)))
   qNext)
   (qMeth 10 fAppend (qCons (qC (.int 0)) qNil)))))))))
def q_in : QS :=
  (qSeq (qSet 9 (q2 oIx (qLst (qCons (qCall S__law_drawn_order (qCons (qVar 1) (qCons (q2 oAdd (q2 oAdd (qC (.int 100)) (q2 oMul (qC (.int 60)) (qVar 2))) (q2 oMul (qC (.int 11)) (qVar 7))) (qCons (qN oLen (qCons (qVar 3) qNil)) qNil)))) (qCons (qVar 5) (qCons (q1 oRev (qVar 5)) (qCons (qVar 5) (qCons (qVar 5) qNil)))))) (qVar 7)))
   (qSeq (qIfS (qAnd (qTst (q2 oGt (qVar 7) (qC (.int 2)))) (qTst (q2 oGt (qN oLen (qCons (qVar 9) qNil)) (qC (.int 1))))) (qSeq (qSet 13 (qCall S__law_mix (qCons (qVar 1) (qCons (q2 oAdd (q2 oAdd (qC (.int 230)) (qVar 7)) (q2 oMul (qC (.int 5)) (qVar 2))) (qCons (q2 oSub (qN oLen (qCons (qVar 9) qNil)) (qC (.int 1))) qNil)))))
    (qSet 9 (q2 oAdd (q2 oAdd (qSl oSlice (qVar 9) qNone (qSome (qVar 13))) (qLst (qCons (q2 oIx (qVar 9) (q2 oAdd (qVar 13) (qC (.int 1)))) (qCons (q2 oIx (qVar 9) (qVar 13)) qNil)))) (qSl oSlice (qVar 9) (qSome (q2 oAdd (qVar 13) (qC (.int 2)))) qNone))))
   qNext)
   q_in2))
def q_small : QS :=
  (qIfS (qTst (q2 oLt (qN oLen (qCons (qVar 3) qNil)) (qC (.int 6)))) (qSeq (qSet 8 (qN oSorted (qCons (qLc (qIList (qCall S__law_orders (qCons (qN oLen (qCons (qVar 3) qNil)) qNil))) (qName 9) qYes (qTup (qCons (qCall S__law_sum (qCons (qVar 3) (qCons (qVar 9) qNil))) (qCons (qVar 9) qNil))) [9]) qNil)))
   (qIfS (qTst (q2 oNe (qTup (qCons (qVar 6) (qCons (qVar 5) qNil))) (q2 oIx (qVar 8) (qC (.int 0))))) (qRet (qC (.bool false)))
   qNext))
  qNext)
def q_sm : QS := qLend 5 q_small
def q_lp : QS :=
  (qLend 5 (qFor (qIRng1 (qCons (qC (.int 5)) qNil)) (qName 7)
   q_in))
def q_end : QS :=
  (qSeq (qMeth 5 fAppend (qCons (qC (.int 99)) qNil))
  (qIfS (qOr (qTst (q2 oNe (qCall S_least_order (qCons (qVar 3) qNil)) (qSl oSlice (qVarL 5) qNone (qSome (q1 oNeg (qC (.int 1))))))) (qTst (q2 oNe (qN oRepr (qCons (qVar 3) qNil)) (qVar 4)))) (qRet (qC (.bool false)))
  qNext))
def q_out : QS :=
  (qSeq (qSet 3 (qCall S__law_jobs (qCons (qVar 1) (qCons (q2 oAdd (qC (.int 10)) (q2 oMul (qC (.int 40)) (qVar 2))) (qCons (q2 oIx (qLst (qCons (qC (.int 5)) (qCons (qC (.int 10)) qNil))) (qVar 2)) qNil)))))
  (qSeq (qSet 4 (qN oRepr (qCons (qVar 3) qNil)))
  (qSeq (qSetO 5 (qCall S_least_order (qCons (qVar 3) qNil)))
  (qSeq (qIfS (qTst (q2 oNe (qN oSorted (qCons (qVarL 5) qNil)) (qListRg1 (qN oLen (qCons (qVar 3) qNil))))) (qRet (qC (.bool false)))
  qNext)
  (qSeq (qSet 6 (qCallL false S__law_sum (qCons (qVar 3) (qCons (qVarL 5) qNil))))
  (qSeq q_sm
  (qSeq q_lp
  q_end)))))))
def q_law2 : QS :=
  (qSeq (qSet 1 (qCallS 0 S__law_draws))
 (qSeq (qFor (qIRng1 (qCons (qC (.int 2)) qNil)) (qName 2)
  q_out)
 (qRet (qC (.bool true)))))
theorem pg_le {js : List Jb} (h : ∀ j ∈ js, OkJ j) (k : Nat) : 0 ≤ pg js k ∧ pg js k ≤ 100 := by
  have := (J_ok h k).1
  unfold pg; omega
theorem wt_le {js : List Jb} (h : ∀ j ∈ js, OkJ j) (k : Nat) : 0 ≤ wt js k ∧ wt js k ≤ 100 := (J_ok h k).2.1
theorem bt_le {js : List Jb} {o : List Nat} (h : OkJs js) (ho : OkO js o) (i : Nat) : 0 ≤ bt js o i ∧ bt js o i ≤ 1000 := by
  have hol : o.length = js.length := by rw [ho.length_eq, List.length_range]
  obtain ⟨h1, h2, h3⟩ := h
  unfold bt pgs
  have := sum_bound (xs := (o.take (i + 1)).map (pg js)) (B := 100) (by
    intro x hx
    obtain ⟨k, _, rfl⟩ := List.mem_map.mp hx
    exact pg_le h3 k)
  have hl : ((o.take (i + 1)).map (pg js)).length ≤ 10 := by simp; omega
  omega
theorem wsum_le {js : List Jb} {o : List Nat} (h : OkJs js) (ho : OkO js o) : 0 ≤ wsum js o ∧ wsum js o ≤ 1000000 := by
  obtain ⟨h1, h2, h3⟩ := id h
  unfold wsum
  have := sum_bound (xs := (List.range js.length).map fun k => bt js o (o.idxOf k) * wt js k) (B := 100000) (by
    intro x hx
    obtain ⟨k, _, rfl⟩ := List.mem_map.mp hx
    have a := bt_le h ho (o.idxOf k)
    have b := wt_le h3 k
    refine ⟨Int.mul_nonneg a.1 b.1, ?_⟩
    have := Int.mul_le_mul a.2 b.2 b.1 (by omega)
    omega)
  have hl : ((List.range js.length).map fun k => bt js o (o.idxOf k) * wt js k).length ≤ 10 := by simp; omega
  omega
theorem rep_ends {js : List Jb} {o : List Nat} (h : OkJs js) (ho : OkO js o) : oRepr [tD (endsL js o)] = some (.str (tD (endsL js o)).shown) := by
  refine repr_ints (xs := endsL js o) ?_ ?_
  · intro x hx
    unfold endsL at hx
    obtain ⟨k, _, rfl⟩ := List.mem_map.mp hx
    have := bt_le h ho (o.idxOf k)
    omega
  · have := h.2.1
    unfold endsL
    simp; omega
theorem rep_sum {js : List Jb} {o : List Nat} (h : OkJs js) (ho : OkO js o) : oRepr [.int (wsum js o)] = some (.str (PyData.int (wsum js o)).shown) := by
  have := wsum_le h ho
  exact repr_int (by omega)
theorem okO_swap {js : List Jb} {o : List Nat} {i : Nat} (ho : OkO js o) (hi : i + 1 < o.length) : OkO js (swapAt o i) :=
  (swapAt_perm (List.getElem?_eq_getElem (show i < o.length by omega)) (List.getElem?_eq_getElem hi)).trans ho
theorem sw1 {o : List Nat} {i : Nat} : oSlice (.list (o.map tD)) none (some (i : Int)) = some (.list ((o.take i).map tD)) := by
  rw [slice_to, List.map_take]
theorem sw2 {o : List Nat} {i : Nat} : oSlice (.list (o.map tD)) (some ((i : Int) + 2)) none = some (.list ((o.drop (i + 2)).map tD)) := by
  have := slice_from (ds := o.map tD) (i := i + 2)
  rw [List.map_drop]
  exact this
theorem sw3 {o : List Nat} {i : Nat} (hi : i + 1 < o.length) : oIx (.list (o.map tD)) (.int ((i : Int) + 1)) = some (tD (o[i + 1]?.getD 0)) :=
  ix_map (i := i + 1) (by rw [List.getElem?_eq_getElem hi]; rfl)
theorem sw4 {o : List Nat} {i : Nat} (hi : i + 1 < o.length) : oIx (.list (o.map tD)) (.int (i : Int)) = some (tD (o[i]?.getD 0)) :=
  ix_map (i := i) (by rw [List.getElem?_eq_getElem (show i < o.length by omega)]; rfl)
theorem sw5 {o : List Nat} {i : Nat} (hl : o.length ≤ 10) : oAdd (.list ((o.take i).map tD)) (.list [tD (o[i + 1]?.getD 0), tD (o[i]?.getD 0)]) = some (.list ((o.take i ++ [o[i + 1]?.getD 0, o[i]?.getD 0]).map tD)) := by
  have := big
  rw [cat_ok (by simp; omega), List.map_append]; rfl
theorem sw6 {o : List Nat} {i : Nat} (hl : o.length ≤ 10) : oAdd (.list ((o.take i ++ [o[i + 1]?.getD 0, o[i]?.getD 0]).map tD)) (.list ((o.drop (i + 2)).map tD)) = some (tD (swapAt o i)) := by
  have := big
  rw [cat_ok (by simp; omega), ← List.map_append]; rfl
theorem wr_at {js : List Jb} {o : List Nat} {i : Nat} (ho : OkO js o) (hi : i + 1 < o.length) : wsum js (swapAt o i) < wsum js o ↔ wrAt js o i = true := by
  rw [wsum_cost ho, wsum_cost (okO_swap ho hi)]
  have h1 := List.getElem?_eq_getElem (show i < o.length by omega)
  have h2 := List.getElem?_eq_getElem hi
  have := swapAt_cost (js := js) h1 h2 0
  rw [this]
  unfold wrAt
  rw [h1, h2]
  rfl
theorem nowrong_iff {js : List Jb} {o : List Nat} (ho : OkO js o) : noWrong js o ↔ (List.range (o.length - 1)).filter (wrAt js o) = [] := by
  rw [List.filter_eq_nil_iff]
  constructor
  · intro h i hi
    have hi := List.mem_range.mp hi
    have h1 := List.getElem?_eq_getElem (show i < o.length by omega)
    have h2 := List.getElem?_eq_getElem (show i + 1 < o.length by omega)
    have := h i _ _ h1 h2
    unfold wrAt
    rw [h1, h2]
    simpa using this
  · intro h i x y hx hy
    have hi := (List.getElem?_eq_some_iff.mp hy).1
    have := h i (List.mem_range.mpr (by omega))
    unfold wrAt at this
    rw [hx, hy] at this
    simpa using this
theorem rep_nat {n : Nat} (h : n ≤ 1000) : oRepr [tD n] = some (.str (tD n).shown) := repr_int (by omega)
theorem swap_rep {js : List Jb} {o : List Nat} (hl : o.length ≤ 10) : oRepr [swapD js o] = some (.str (swapD js o).shown) := by
  unfold swapD
  cases e : (List.range (o.length - 1)).find? (wrAt js o) with
  | none => exact repr_none
  | some i =>
    have := List.mem_range.mp (List.mem_of_find?_eq_some e)
    exact rep_nat (by omega)
theorem good_head {js : List Jb} {o : List Nat} (hl : o.length ≤ 10) : ∃ z, oAdd (.list (((List.range (o.length - 1)).filter (wrAt js o)).map tD)) (.list [.none]) = some z ∧ oIx z (.int 0) = some (swapD js o) := by
  have := big
  have h2 := List.length_filter_le (wrAt js o) (List.range (o.length - 1))
  rw [List.length_range] at h2
  refine ⟨_, cat_ok (by simp; omega), ?_⟩
  unfold swapD
  rw [← List.head?_filter]
  cases (List.range (o.length - 1)).filter (wrAt js o) with
  | nil => simp [oNat]
  | cons x r => simp [oNat]
theorem in2_ok {js : List Jb} {o g : List Nat} (h : OkJs js) (ho : OkO js o) (hg : g.Pairwise (LE js)) (hgo : OkO js g) {s0 s1 s2 s4 s5 s7 s8 s10 s11 s12 s13 s14 s15 : Sl} {Dv : VEnds}
    (hK : ∀ t10 t11 t12 t13 t14 t15, nbS t10 = true → nbS t11 = true → nbS t12 = true → nbS t13 = true → nbS t14 = true → nbS t15 = true → Dv.nx [s0, s1, s2, .old (tD js), s4, s5, .old (.int (wsum js g)), s7, s8, .val (tD o), t10, t11, t12, t13, t14, t15])
    (h13 : nbS s13 = true) (h15 : nbS s15 = true) :
    q_in2 Dv [s0, s1, s2, .old (tD js), s4, s5, .old (.int (wsum js g)), s7, s8, .val (tD o), s10, s11, s12, s13, s14, s15] := by
  have bg := big
  have hol : o.length = js.length := by rw [ho.length_eq, List.length_range]
  obtain ⟨h1, h2, h3⟩ := id h
  have hp := pos_of h3
  have hbest := best js g o 0 hg (ho.trans hgo.symm)
  rw [← wsum_cost ho, ← wsum_cost hgo] at hbest
  have hlt : ¬ wsum js o < wsum js g := by omega
  simp [q_in2]
  refine ⟨_, ⟨js, o, h, ho, rfl, rfl⟩, _, ⟨js, o, h, ho, rfl, rfl⟩, ?_⟩
  have e1 : ownSl (tD (endsL js o)) = .own (tD (endsL js o)) := rfl
  simp [e1, rep_ends h ho]
  refine ⟨_, ⟨js, o, h, ho, rfl, rfl⟩, _, rep_ends h ho, ?_⟩
  refine ⟨_, ne_str _ _, ?_⟩
  simp
  refine ⟨_, ⟨js, o, h, ho, rfl, rfl⟩, ?_⟩
  simp [rep_sum h ho, hlt]
  refine ⟨hbest, _, rfl, _, rfl, _, rfl, by simp; omega, ?_⟩
  have ej : ((((o.map tD).length : Nat) : Int) - 1).toNat = o.length - 1 := by simp
  rw [ej]
  refine forRun_rng (fun i ρ => ∃ a b, nbS a = true ∧ nbS b = true ∧ ρ = [s0, s1, s2, .old (tD js), s4, s5, .old (.int (wsum js g)), s7, s8, .val (tD o), .own (tD (endsL js o)), .val (.int (wsum js o)), .own (.list ((List.range i).map fun p => .int (wsum js (swapAt o p)))), a, s14, b]) _ ⟨s13, s15, h13, h15, rfl⟩ ?_ ?_
  · rintro i ρ hi ⟨a, b, ha, hb, rfl⟩ K hK2
    have hi1 : i + 1 < o.length := by omega
    simp only [e_seq, e_next, e_break, e_cont, e_drop, e_set, e_setO, e_asg, e_par, e_ifS, e_ret, e_retN, e_retV, e_for, e_setIx, e_meth, e_lend, e_frz, e_var, e_varL, e_c, e_2, e_1, e_tst, e_chain, e_and, e_or, e_not, e_andV, e_orV, e_notV, e_if, e_nil, e_cons, e_lst, e_tup, e_N, e_call, e_callL, e_callS, e_lenS, e_ixS, e_iList, e_iRng1, e_iRng2, e_iEnum, e_iZip, e_name, e_gNil, e_gCons, e_gTup, e_lc, e_listRg1, e_yes, e_wipe0, e_wipe1, e_getV, e_getVo, e_getVb, e_getL, e_getLo, e_getLb, e_getLw, e_ownL, e_sl, e_none, e_some, add_int, sub_int, eq_int, ne_int, eq_bool, ne_bool, ne_str, eq_str, lt_int, gt_int, le_int, ge_int, len_list, len_tuple, list_list, int_int, rev_list, ix_t0, ix_t1, ix_t2, ix_l0, ix_l1, ix_l2, List.set_cons_succ, List.set_cons_zero, List.getElem?_cons_succ, List.getElem?_cons_zero, Option.bind_some, Option.some.injEq, exists_eq_left', exists_eq_left, PyData.bool.injEq, PyData.int.injEq, PyData.list.injEq, Sl.own.injEq, List.cons.injEq, and_true, decide_eq_true_eq, Bool.false_eq_true, if_false, if_true, decide_true, decide_false, Bool.not_true, Bool.not_false, tD_list o, sw1, sw2, sw3 hi1, sw4 hi1, sw5 (show o.length ≤ 10 by omega), sw6 (show o.length ≤ 10 by omega)]
    refine ⟨_, ⟨js, swapAt o i, h, okO_swap ho hi1, rfl, rfl⟩, _, append_ok (by simp; omega), ?_⟩
    refine hK2 _ ⟨.val (.int (i : Int)), .val (tD (swapAt o i)), rfl, rfl, ?_⟩
    rw [List.range_succ, List.map_append]
    rfl
  · rintro ρ ⟨a, b, ha, hb, rfl⟩
    simp
    refine ⟨by omega, by simp [rangeD]; omega, ?_⟩
    rw [rangeD0]
    refine lcRun_filter (fun i : Nat => tD i) (fun i => decide (wsum js (swapAt o i) < wsum js o)) _ ?_ ?_
    · intro i hi P hP
      have e2 : oIx (.list ((List.range (o.length - 1)).map fun p => .int (wsum js (swapAt o p)))) (.int (i : Int)) = some (.int (wsum js (swapAt o i))) := ix_map (List.getElem?_range (List.mem_range.mp hi))
      simp [e2]
      by_cases hq : wsum js (swapAt o i) < wsum js o
      · simp [hq] at hP ⊢; exact .inr hP
      · simp [hq] at hP ⊢; exact ⟨by omega, hP⟩
    · have e3 : ((List.range (o.length - 1)).filter fun i => decide (wsum js (swapAt o i) < wsum js o)) = (List.range (o.length - 1)).filter (wrAt js o) := by
        refine List.filter_congr fun i hi => ?_
        have := wr_at (js := js) ho (i := i) (by have := List.mem_range.mp hi; omega)
        rw [Bool.eq_iff_iff, decide_eq_true_eq]
        exact this
      rw [e3, List.nil_append]
      obtain ⟨z, hz1, hz2⟩ := good_head (js := js) (o := o) (by omega)
      have e5 : oEq (.list (((List.range (o.length - 1)).filter (wrAt js o)).map tD)) (.list []) = some (.bool (decide ((List.range (o.length - 1)).filter (wrAt js o) = []))) := eq_tD (α := List Nat) _ []
      have e6 : decide ((List.range (o.length - 1)).filter (wrAt js o) = []) = decide (wsum js o = wsum js g) := by
        have a := nowrong_iff (js := js) ho
        have b := least_iff hp hg (ho.trans hgo.symm)
        rw [wsum_cost ho, wsum_cost hgo]
        exact decide_eq_decide.mpr (a.symm.trans b)
      have hz1' : oAdd (.list (((List.range (o.length - 1)).filter (wrAt js o)).map fun i => tD i)) (.list [.none]) = some z := hz1
      have e5' : oEq (.list (((List.range (o.length - 1)).filter (wrAt js o)).map fun i => tD i)) (.list []) = _ := e5
      simp only [e_seq, e_next, e_break, e_cont, e_drop, e_set, e_setO, e_asg, e_par, e_ifS, e_ret, e_retN, e_retV, e_for, e_setIx, e_meth, e_lend, e_frz, e_var, e_varL, e_c, e_2, e_1, e_tst, e_chain, e_and, e_or, e_not, e_andV, e_orV, e_notV, e_if, e_nil, e_cons, e_lst, e_tup, e_N, e_call, e_callL, e_callS, e_lenS, e_ixS, e_iList, e_iRng1, e_iRng2, e_iEnum, e_iZip, e_name, e_gNil, e_gCons, e_gTup, e_lc, e_listRg1, e_yes, e_wipe0, e_wipe1, e_getV, e_getVo, e_getVb, e_getL, e_getLo, e_getLb, e_getLw, e_ownL, e_sl, e_none, e_some, add_int, sub_int, eq_int, ne_int, eq_bool, ne_bool, ne_str, eq_str, lt_int, gt_int, le_int, ge_int, len_list, len_tuple, list_list, int_int, rev_list, ix_t0, ix_t1, ix_t2, ix_l0, ix_l1, ix_l2, List.set_cons_succ, List.set_cons_zero, List.getElem?_cons_succ, List.getElem?_cons_zero, Option.bind_some, Option.some.injEq, exists_eq_left', exists_eq_left, PyData.bool.injEq, PyData.int.injEq, PyData.list.injEq, Sl.own.injEq, List.cons.injEq, and_true, decide_eq_true_eq, Bool.false_eq_true, if_false, if_true, decide_true, decide_false, Bool.not_true, Bool.not_false, hz1', hz2, e5', e6, eq_int, ne_bool, ne_str]
      refine ⟨_, ⟨js, o, h, ho, rfl, rfl⟩, _, swap_rep (by omega), _, swap_rep (by omega), _, ne_str _ _, .inl ⟨by simp, .inl ⟨trivial, _, rfl, _, append_ok (by simp [endsL]; omega), ?_⟩⟩⟩
      exact hK _ _ _ _ _ _ rfl rfl rfl ha rfl hb
theorem choose {js : List Jb} {dr g : List Nat} (hd : OkO js dr) (hg : OkO js g) {i : Nat} (hi : i < 5) : ∃ o, OkO js o ∧ oIx (.list [tD dr, tD g, .list (g.map tD).reverse, tD g, tD g]) (.int (i : Int)) = some (tD o) := by
  have hr : OkO js g.reverse := (List.reverse_perm g).trans hg
  have e : (PyData.list (g.map tD).reverse) = tD g.reverse := by rw [tD_list, List.map_reverse]
  rw [e]
  have : i = 0 ∨ i = 1 ∨ i = 2 ∨ i = 3 ∨ i = 4 := by omega
  rcases this with rfl | rfl | rfl | rfl | rfl
  · exact ⟨dr, hd, ix_nat rfl⟩
  · exact ⟨g, hg, ix_nat rfl⟩
  · exact ⟨_, hr, ix_nat rfl⟩
  · exact ⟨g, hg, ix_nat rfl⟩
  · exact ⟨g, hg, ix_nat rfl⟩
theorem in_ok {js : List Jb} {g : List Nat} {xs : List Int} (h : OkJs js) (hg : g.Pairwise (LE js)) (hgo : OkO js g) {t i : Nat} (ht : t < 2) (hi : i < 5) {s0 s4 s8 s9 s10 s11 s12 s13 s14 s15 : Sl} {Dv : VEnds}
    (hK : ∀ t9 t10 t11 t12 t13 t14 t15, nbS t9 = true → nbS t10 = true → nbS t11 = true → nbS t12 = true → nbS t13 = true → nbS t14 = true → nbS t15 = true → Dv.nx [s0, .old (tD xs), .old (.int (t : Int)), .old (tD js), s4, .bor (tD g), .old (.int (wsum js g)), .val (.int (i : Int)), s8, t9, t10, t11, t12, t13, t14, t15])
    (h13 : nbS s13 = true) (h15 : nbS s15 = true) :
    q_in Dv [s0, .old (tD xs), .old (.int (t : Int)), .old (tD js), s4, .bor (tD g), .old (.int (wsum js g)), .val (.int (i : Int)), s8, s9, s10, s11, s12, s13, s14, s15] := by
  have bg := big
  obtain ⟨h1, h2, h3⟩ := id h
  have q60 : oMul (.int 60) (.int (t : Int)) = some (.int (60 * (t : Int))) := mul_int (.inl (by omega))
  have q11 : oMul (.int 11) (.int (i : Int)) = some (.int (11 * (i : Int))) := mul_int (.inl (by omega))
  have q5 : oMul (.int 5) (.int (t : Int)) = some (.int (5 * (t : Int))) := mul_int (.inl (by omega))
  have el : (PyData.list (js.map tD)) = tD js := rfl
  have ln : oLen [tD js] = some (.int (js.length : Int)) := by rw [tD_list, len_list, List.length_map]
  have lr : oRev (tD g) = some (.list (g.map tD).reverse) := rfl
  unfold q_in
  simp only [e_seq, e_next, e_break, e_cont, e_drop, e_set, e_setO, e_asg, e_par, e_ifS, e_ret, e_retN, e_retV, e_for, e_setIx, e_meth, e_lend, e_frz, e_var, e_varL, e_c, e_2, e_1, e_tst, e_chain, e_and, e_or, e_not, e_andV, e_orV, e_notV, e_if, e_nil, e_cons, e_lst, e_tup, e_N, e_call, e_callL, e_callS, e_lenS, e_ixS, e_iList, e_iRng1, e_iRng2, e_iEnum, e_iZip, e_name, e_gNil, e_gCons, e_gTup, e_lc, e_listRg1, e_yes, e_wipe0, e_wipe1, e_getV, e_getVo, e_getVb, e_getL, e_getLo, e_getLb, e_getLw, e_ownL, e_sl, e_none, e_some, add_int, sub_int, eq_int, ne_int, eq_bool, ne_bool, ne_str, eq_str, lt_int, gt_int, le_int, ge_int, len_list, len_tuple, list_list, int_int, rev_list, ix_t0, ix_t1, ix_t2, ix_l0, ix_l1, ix_l2, List.set_cons_succ, List.set_cons_zero, List.getElem?_cons_succ, List.getElem?_cons_zero, Option.bind_some, Option.some.injEq, exists_eq_left', exists_eq_left, PyData.bool.injEq, PyData.int.injEq, PyData.list.injEq, Sl.own.injEq, List.cons.injEq, and_true, decide_eq_true_eq, Bool.false_eq_true, if_false, if_true, decide_true, decide_false, Bool.not_true, Bool.not_false, q60, q11, ln, lr]
  refine ⟨_, ⟨xs, _, js.length, h2, rfl, rfl⟩, ?_⟩
  obtain ⟨o, ho, eo⟩ := choose (drawn_perm xs (100 + 60 * (t : Int) + 11 * (i : Int)) js.length) hgo hi
  have hol : o.length = js.length := by rw [ho.length_eq, List.length_range]
  have lo : oLen [tD o] = some (.int (o.length : Int)) := by rw [tD_list, len_list, List.length_map]
  simp only [e_seq, e_next, e_break, e_cont, e_drop, e_set, e_setO, e_asg, e_par, e_ifS, e_ret, e_retN, e_retV, e_for, e_setIx, e_meth, e_lend, e_frz, e_var, e_varL, e_c, e_2, e_1, e_tst, e_chain, e_and, e_or, e_not, e_andV, e_orV, e_notV, e_if, e_nil, e_cons, e_lst, e_tup, e_N, e_call, e_callL, e_callS, e_lenS, e_ixS, e_iList, e_iRng1, e_iRng2, e_iEnum, e_iZip, e_name, e_gNil, e_gCons, e_gTup, e_lc, e_listRg1, e_yes, e_wipe0, e_wipe1, e_getV, e_getVo, e_getVb, e_getL, e_getLo, e_getLb, e_getLw, e_ownL, e_sl, e_none, e_some, add_int, sub_int, eq_int, ne_int, eq_bool, ne_bool, ne_str, eq_str, lt_int, gt_int, le_int, ge_int, len_list, len_tuple, list_list, int_int, rev_list, ix_t0, ix_t1, ix_t2, ix_l0, ix_l1, ix_l2, List.set_cons_succ, List.set_cons_zero, List.getElem?_cons_succ, List.getElem?_cons_zero, Option.bind_some, Option.some.injEq, exists_eq_left', exists_eq_left, PyData.bool.injEq, PyData.int.injEq, PyData.list.injEq, Sl.own.injEq, List.cons.injEq, and_true, decide_eq_true_eq, Bool.false_eq_true, if_false, if_true, decide_true, decide_false, Bool.not_true, Bool.not_false, eo, lo]
  have fin : ∀ o s13, OkO js o → nbS s13 = true → q_in2 Dv [s0, .old (tD xs), .old (.int (t : Int)), .old (tD js), s4, .bor (tD g), .old (.int (wsum js g)), .val (.int (i : Int)), s8, .val (tD o), s10, s11, s12, s13, s14, s15] := fun o s13 ho h13 =>
    in2_ok h ho hg hgo (fun t10 t11 t12 t13 t14 t15 a b c d e f => hK _ _ _ _ _ _ _ rfl a b c d e f) h13 h15
  by_cases c1 : (2 : Int) < (i : Int)
  · by_cases c2 : (1 : Int) < (o.length : Int)
    · simp only [e_seq, e_next, e_break, e_cont, e_drop, e_set, e_setO, e_asg, e_par, e_ifS, e_ret, e_retN, e_retV, e_for, e_setIx, e_meth, e_lend, e_frz, e_var, e_varL, e_c, e_2, e_1, e_tst, e_chain, e_and, e_or, e_not, e_andV, e_orV, e_notV, e_if, e_nil, e_cons, e_lst, e_tup, e_N, e_call, e_callL, e_callS, e_lenS, e_ixS, e_iList, e_iRng1, e_iRng2, e_iEnum, e_iZip, e_name, e_gNil, e_gCons, e_gTup, e_lc, e_listRg1, e_yes, e_wipe0, e_wipe1, e_getV, e_getVo, e_getVb, e_getL, e_getLo, e_getLb, e_getLw, e_ownL, e_sl, e_none, e_some, add_int, sub_int, eq_int, ne_int, eq_bool, ne_bool, ne_str, eq_str, lt_int, gt_int, le_int, ge_int, len_list, len_tuple, list_list, int_int, rev_list, ix_t0, ix_t1, ix_t2, ix_l0, ix_l1, ix_l2, List.set_cons_succ, List.set_cons_zero, List.getElem?_cons_succ, List.getElem?_cons_zero, Option.bind_some, Option.some.injEq, exists_eq_left', exists_eq_left, PyData.bool.injEq, PyData.int.injEq, PyData.list.injEq, Sl.own.injEq, List.cons.injEq, and_true, decide_eq_true_eq, Bool.false_eq_true, if_false, if_true, decide_true, decide_false, Bool.not_true, Bool.not_false, c1, c2, q5, lo]
      refine ⟨_, mx (by omega), ?_⟩
      obtain ⟨m, hm, hm2⟩ : ∃ m : Nat, mixL xs (230 + (i : Int) + 5 * (t : Int)) ((o.length : Int) - 1) = (m : Int) ∧ m + 1 < o.length := by
        have := mixL_range (ds := xs) (k := 230 + (i : Int) + 5 * (t : Int)) (many := (o.length : Int) - 1) (by omega)
        exact ⟨(mixL xs (230 + (i : Int) + 5 * (t : Int)) ((o.length : Int) - 1)).toNat, by omega, by omega⟩
      rw [hm]
      simp only [e_seq, e_next, e_break, e_cont, e_drop, e_set, e_setO, e_asg, e_par, e_ifS, e_ret, e_retN, e_retV, e_for, e_setIx, e_meth, e_lend, e_frz, e_var, e_varL, e_c, e_2, e_1, e_tst, e_chain, e_and, e_or, e_not, e_andV, e_orV, e_notV, e_if, e_nil, e_cons, e_lst, e_tup, e_N, e_call, e_callL, e_callS, e_lenS, e_ixS, e_iList, e_iRng1, e_iRng2, e_iEnum, e_iZip, e_name, e_gNil, e_gCons, e_gTup, e_lc, e_listRg1, e_yes, e_wipe0, e_wipe1, e_getV, e_getVo, e_getVb, e_getL, e_getLo, e_getLb, e_getLw, e_ownL, e_sl, e_none, e_some, add_int, sub_int, eq_int, ne_int, eq_bool, ne_bool, ne_str, eq_str, lt_int, gt_int, le_int, ge_int, len_list, len_tuple, list_list, int_int, rev_list, ix_t0, ix_t1, ix_t2, ix_l0, ix_l1, ix_l2, List.set_cons_succ, List.set_cons_zero, List.getElem?_cons_succ, List.getElem?_cons_zero, Option.bind_some, Option.some.injEq, exists_eq_left', exists_eq_left, PyData.bool.injEq, PyData.int.injEq, PyData.list.injEq, Sl.own.injEq, List.cons.injEq, and_true, decide_eq_true_eq, Bool.false_eq_true, if_false, if_true, decide_true, decide_false, Bool.not_true, Bool.not_false, tD_list o, sw1, sw2, sw3 hm2, sw4 hm2, sw5 (show o.length ≤ 10 by omega), sw6 (show o.length ≤ 10 by omega)]
      exact fin _ (.val (.int (m : Int))) (okO_swap ho hm2) rfl
    · simp only [e_seq, e_next, e_break, e_cont, e_drop, e_set, e_setO, e_asg, e_par, e_ifS, e_ret, e_retN, e_retV, e_for, e_setIx, e_meth, e_lend, e_frz, e_var, e_varL, e_c, e_2, e_1, e_tst, e_chain, e_and, e_or, e_not, e_andV, e_orV, e_notV, e_if, e_nil, e_cons, e_lst, e_tup, e_N, e_call, e_callL, e_callS, e_lenS, e_ixS, e_iList, e_iRng1, e_iRng2, e_iEnum, e_iZip, e_name, e_gNil, e_gCons, e_gTup, e_lc, e_listRg1, e_yes, e_wipe0, e_wipe1, e_getV, e_getVo, e_getVb, e_getL, e_getLo, e_getLb, e_getLw, e_ownL, e_sl, e_none, e_some, add_int, sub_int, eq_int, ne_int, eq_bool, ne_bool, ne_str, eq_str, lt_int, gt_int, le_int, ge_int, len_list, len_tuple, list_list, int_int, rev_list, ix_t0, ix_t1, ix_t2, ix_l0, ix_l1, ix_l2, List.set_cons_succ, List.set_cons_zero, List.getElem?_cons_succ, List.getElem?_cons_zero, Option.bind_some, Option.some.injEq, exists_eq_left', exists_eq_left, PyData.bool.injEq, PyData.int.injEq, PyData.list.injEq, Sl.own.injEq, List.cons.injEq, and_true, decide_eq_true_eq, Bool.false_eq_true, if_false, if_true, decide_true, decide_false, Bool.not_true, Bool.not_false, c1, c2]
      exact fin _ _ ho h13
  · simp only [e_seq, e_next, e_break, e_cont, e_drop, e_set, e_setO, e_asg, e_par, e_ifS, e_ret, e_retN, e_retV, e_for, e_setIx, e_meth, e_lend, e_frz, e_var, e_varL, e_c, e_2, e_1, e_tst, e_chain, e_and, e_or, e_not, e_andV, e_orV, e_notV, e_if, e_nil, e_cons, e_lst, e_tup, e_N, e_call, e_callL, e_callS, e_lenS, e_ixS, e_iList, e_iRng1, e_iRng2, e_iEnum, e_iZip, e_name, e_gNil, e_gCons, e_gTup, e_lc, e_listRg1, e_yes, e_wipe0, e_wipe1, e_getV, e_getVo, e_getVb, e_getL, e_getLo, e_getLb, e_getLw, e_ownL, e_sl, e_none, e_some, add_int, sub_int, eq_int, ne_int, eq_bool, ne_bool, ne_str, eq_str, lt_int, gt_int, le_int, ge_int, len_list, len_tuple, list_list, int_int, rev_list, ix_t0, ix_t1, ix_t2, ix_l0, ix_l1, ix_l2, List.set_cons_succ, List.set_cons_zero, List.getElem?_cons_succ, List.getElem?_cons_zero, Option.bind_some, Option.some.injEq, exists_eq_left', exists_eq_left, PyData.bool.injEq, PyData.int.injEq, PyData.list.injEq, Sl.own.injEq, List.cons.injEq, and_true, decide_eq_true_eq, Bool.false_eq_true, if_false, if_true, decide_true, decide_false, Bool.not_true, Bool.not_false, c1]
    exact fin _ _ ho h13
def gr (js : List Jb) : List Nat := greedy js js.length (List.range js.length)
theorem gr_ok {js : List Jb} (h : OkJs js) : OkO js (gr js) ∧ (gr js).Pairwise (LE js) := greedy_all (pos_of h.2.2) js.length _ List.length_range
theorem every_head {js : List Jb} (h : OkJs js) : ∃ r, srt ((orders js.length js.length).map fun o => (wsum js o, o)) = (wsum js (gr js), gr js) :: r := by
  obtain ⟨go, gp⟩ := gr_ok h
  have hm : (wsum js (gr js), gr js) ∈ (orders js.length js.length).map fun o => (wsum js o, o) := List.mem_map.mpr ⟨gr js, orders_perm.mpr go, rfl⟩
  cases e : srt ((orders js.length js.length).map fun o => (wsum js o, o)) with
  | nil =>
    have := (srt_perm ((orders js.length js.length).map fun o => (wsum js o, o))).symm.subset hm
    rw [e] at this; simp at this
  | cons y r =>
    obtain ⟨h1, h2⟩ := srt_head e
    obtain ⟨o, ho, rfl⟩ := List.mem_map.mp h1
    have hop : OkO js o := orders_perm.mp ho
    by_cases q : (wsum js (gr js), gr js) = (wsum js o, o)
    · exact ⟨r, by rw [q]⟩
    · have l := h2 _ hm q
      have hb := best js (gr js) o 0 gp (hop.trans go.symm)
      rw [← wsum_cost hop, ← wsum_cost go] at hb
      have l2 : (if wsum js (gr js) = wsum js o then PySem.W.listLt (gr js) o else decide (wsum js (gr js) < wsum js o)) = false := l
      by_cases q2 : wsum js (gr js) = wsum js o
      · rw [if_pos q2] at l2
        have : o = gr js := first_is (pos_of h.2.2) hop (by rw [← wsum_cost hop]; have := wsum_cost go; unfold gr at this q2; rw [← this]; omega) l2
        subst this
        exact (q rfl).elim
      · rw [if_neg q2, decide_eq_false_iff_not] at l2
        omega
theorem small_ok {js : List Jb} (h : OkJs js) {s0 s1 s2 s4 s7 s8 s9 s10 s11 s12 s13 s14 s15 : Sl} {Dv : VEnds}
    (hK : ∀ t8, nbS t8 = true → Dv.nx [s0, s1, s2, .old (tD js), s4, .bor (tD (gr js)), .old (.int (wsum js (gr js))), s7, t8, s9, s10, s11, s12, s13, s14, s15]) (h8 : nbS s8 = true) :
    q_small Dv [s0, s1, s2, .old (tD js), s4, .bor (tD (gr js)), .old (.int (wsum js (gr js))), s7, s8, s9, s10, s11, s12, s13, s14, s15] := by
  have bg := big
  have ln : oLen [tD js] = some (.int (js.length : Int)) := by rw [tD_list, len_list, List.length_map]
  unfold q_small
  simp only [e_seq, e_next, e_break, e_cont, e_drop, e_set, e_setO, e_asg, e_par, e_ifS, e_ret, e_retN, e_retV, e_for, e_setIx, e_meth, e_lend, e_frz, e_var, e_varL, e_c, e_2, e_1, e_tst, e_chain, e_and, e_or, e_not, e_andV, e_orV, e_notV, e_if, e_nil, e_cons, e_lst, e_tup, e_N, e_call, e_callL, e_callS, e_lenS, e_ixS, e_iList, e_iRng1, e_iRng2, e_iEnum, e_iZip, e_name, e_gNil, e_gCons, e_gTup, e_lc, e_listRg1, e_yes, e_wipe0, e_wipe1, e_getV, e_getVo, e_getVb, e_getL, e_getLo, e_getLb, e_getLw, e_ownL, e_sl, e_none, e_some, add_int, sub_int, eq_int, ne_int, eq_bool, ne_bool, ne_str, eq_str, lt_int, gt_int, le_int, ge_int, len_list, len_tuple, list_list, int_int, rev_list, ix_t0, ix_t1, ix_t2, ix_l0, ix_l1, ix_l2, List.set_cons_succ, List.set_cons_zero, List.getElem?_cons_succ, List.getElem?_cons_zero, Option.bind_some, Option.some.injEq, exists_eq_left', exists_eq_left, PyData.bool.injEq, PyData.int.injEq, PyData.list.injEq, Sl.own.injEq, List.cons.injEq, and_true, decide_eq_true_eq, Bool.false_eq_true, if_false, if_true, decide_true, decide_false, Bool.not_true, Bool.not_false, ln]
  by_cases c : (js.length : Int) < 6
  · simp only [e_seq, e_next, e_break, e_cont, e_drop, e_set, e_setO, e_asg, e_par, e_ifS, e_ret, e_retN, e_retV, e_for, e_setIx, e_meth, e_lend, e_frz, e_var, e_varL, e_c, e_2, e_1, e_tst, e_chain, e_and, e_or, e_not, e_andV, e_orV, e_notV, e_if, e_nil, e_cons, e_lst, e_tup, e_N, e_call, e_callL, e_callS, e_lenS, e_ixS, e_iList, e_iRng1, e_iRng2, e_iEnum, e_iZip, e_name, e_gNil, e_gCons, e_gTup, e_lc, e_listRg1, e_yes, e_wipe0, e_wipe1, e_getV, e_getVo, e_getVb, e_getL, e_getLo, e_getLb, e_getLw, e_ownL, e_sl, e_none, e_some, add_int, sub_int, eq_int, ne_int, eq_bool, ne_bool, ne_str, eq_str, lt_int, gt_int, le_int, ge_int, len_list, len_tuple, list_list, int_int, rev_list, ix_t0, ix_t1, ix_t2, ix_l0, ix_l1, ix_l2, List.set_cons_succ, List.set_cons_zero, List.getElem?_cons_succ, List.getElem?_cons_zero, Option.bind_some, Option.some.injEq, exists_eq_left', exists_eq_left, PyData.bool.injEq, PyData.int.injEq, PyData.list.injEq, Sl.own.injEq, List.cons.injEq, and_true, decide_eq_true_eq, Bool.false_eq_true, if_false, if_true, decide_true, decide_false, Bool.not_true, Bool.not_false, c]
    refine ⟨_, ⟨js.length, by omega, rfl, rfl⟩, ?_⟩
    have hlen := Nat.le_trans (orders_len js.length js.length) (pow_le5 (n := js.length) (t := js.length) (by omega) (by omega))
    refine ⟨_, rfl, by simp; omega, ?_⟩
    refine lcRun_map (fun o => tD ((wsum js o, o) : Int × List Nat)) _ ?_ ?_
    · intro o ho P hP
      exact ⟨_, ⟨js, o, h, orders_perm.mp ho, rfl, rfl⟩, hP⟩
    · rw [List.nil_append]
      have e : (orders js.length js.length).map (fun o => tD ((wsum js o, o) : Int × List Nat)) = ((orders js.length js.length).map fun o => (wsum js o, o)).map tD := by rw [List.map_map]; rfl
      rw [e, oSorted_tD _ (sortable_pair _) (by simp; omega)]
      obtain ⟨r, er⟩ := every_head h
      rw [er]
      refine ⟨_, rfl, ?_⟩
      rw [List.map_cons]
      have e7 : oNe (.tuple [.int (wsum js (gr js)), tD (gr js)]) (tD ((wsum js (gr js), gr js) : Int × List Nat)) = some (.bool false) := by
        have := ne_tD ((wsum js (gr js), gr js) : Int × List Nat) (wsum js (gr js), gr js)
        simp only [decide_true, Bool.not_true] at this
        exact this
      simp only [e_seq, e_next, e_break, e_cont, e_drop, e_set, e_setO, e_asg, e_par, e_ifS, e_ret, e_retN, e_retV, e_for, e_setIx, e_meth, e_lend, e_frz, e_var, e_varL, e_c, e_2, e_1, e_tst, e_chain, e_and, e_or, e_not, e_andV, e_orV, e_notV, e_if, e_nil, e_cons, e_lst, e_tup, e_N, e_call, e_callL, e_callS, e_lenS, e_ixS, e_iList, e_iRng1, e_iRng2, e_iEnum, e_iZip, e_name, e_gNil, e_gCons, e_gTup, e_lc, e_listRg1, e_yes, e_wipe0, e_wipe1, e_getV, e_getVo, e_getVb, e_getL, e_getLo, e_getLb, e_getLw, e_ownL, e_sl, e_none, e_some, add_int, sub_int, eq_int, ne_int, eq_bool, ne_bool, ne_str, eq_str, lt_int, gt_int, le_int, ge_int, len_list, len_tuple, list_list, int_int, rev_list, ix_t0, ix_t1, ix_t2, ix_l0, ix_l1, ix_l2, List.set_cons_succ, List.set_cons_zero, List.getElem?_cons_succ, List.getElem?_cons_zero, Option.bind_some, Option.some.injEq, exists_eq_left', exists_eq_left, PyData.bool.injEq, PyData.int.injEq, PyData.list.injEq, Sl.own.injEq, List.cons.injEq, and_true, decide_eq_true_eq, Bool.false_eq_true, if_false, if_true, decide_true, decide_false, Bool.not_true, Bool.not_false, e7]
      exact hK _ rfl
  · simp only [e_seq, e_next, e_break, e_cont, e_drop, e_set, e_setO, e_asg, e_par, e_ifS, e_ret, e_retN, e_retV, e_for, e_setIx, e_meth, e_lend, e_frz, e_var, e_varL, e_c, e_2, e_1, e_tst, e_chain, e_and, e_or, e_not, e_andV, e_orV, e_notV, e_if, e_nil, e_cons, e_lst, e_tup, e_N, e_call, e_callL, e_callS, e_lenS, e_ixS, e_iList, e_iRng1, e_iRng2, e_iEnum, e_iZip, e_name, e_gNil, e_gCons, e_gTup, e_lc, e_listRg1, e_yes, e_wipe0, e_wipe1, e_getV, e_getVo, e_getVb, e_getL, e_getLo, e_getLb, e_getLw, e_ownL, e_sl, e_none, e_some, add_int, sub_int, eq_int, ne_int, eq_bool, ne_bool, ne_str, eq_str, lt_int, gt_int, le_int, ge_int, len_list, len_tuple, list_list, int_int, rev_list, ix_t0, ix_t1, ix_t2, ix_l0, ix_l1, ix_l2, List.set_cons_succ, List.set_cons_zero, List.getElem?_cons_succ, List.getElem?_cons_zero, Option.bind_some, Option.some.injEq, exists_eq_left', exists_eq_left, PyData.bool.injEq, PyData.int.injEq, PyData.list.injEq, Sl.own.injEq, List.cons.injEq, and_true, decide_eq_true_eq, Bool.false_eq_true, if_false, if_true, decide_true, decide_false, Bool.not_true, Bool.not_false, c]
    exact hK _ h8
theorem sm_ok {js : List Jb} {xs ns : List Int} (h : OkJs js) {t : Nat} {d4 : D} {s7 s8 s9 s10 s11 s12 s13 s14 s15 : Sl} {Dv : VEnds}
    (o7 : okS s7 = true) (o8 : okS s8 = true) (o9 : okS s9 = true) (o10 : okS s10 = true) (o11 : okS s11 = true) (o12 : okS s12 = true) (o13 : okS s13 = true) (o14 : okS s14 = true) (o15 : okS s15 = true)
    (hK : ∀ t7 t8 t9 t10 t11 t12 t13 t14 t15, okS t7 = true → okS t8 = true → okS t9 = true → okS t10 = true → okS t11 = true → okS t12 = true → okS t13 = true → okS t14 = true → okS t15 = true → Dv.nx [.scr ns, .val (tD xs), .val (.int (t : Int)), .val (tD js), .val d4, .own (tD (gr js)), .val (.int (wsum js (gr js))), t7, t8, t9, t10, t11, t12, t13, t14, t15]) :
    q_sm Dv [.scr ns, .val (tD xs), .val (.int (t : Int)), .val (tD js), .val d4, .own (tD (gr js)), .val (.int (wsum js (gr js))), s7, s8, s9, s10, s11, s12, s13, s14, s15] := by
  refine ⟨tD (gr js), rfl, lendOk_of (by simp [lendOkR, o7, o8, o9, o10, o11, o12, o13, o14, o15]), ?_⟩
  rw [lend_eq]
  refine small_ok (s0 := .scr ns) (s1 := .old (tD xs)) (s2 := .old (.int (t : Int))) (s4 := .old d4) (s7 := lendS s7) (s8 := lendS s8) (s9 := lendS s9) (s10 := lendS s10) (s11 := lendS s11) (s12 := lendS s12) (s13 := lendS s13) (s14 := lendS s14) (s15 := lendS s15) h (fun t8 ht8 => ⟨borOk_of ?_, ?_⟩) (nb_lend o8)
  · simp [borOkR, ht8, nb_lend o7, nb_lend o9, nb_lend o10, nb_lend o11, nb_lend o12, nb_lend o13, nb_lend o14, nb_lend o15]
  · rw [unlend_eq]
    exact hK _ _ _ _ _ _ _ _ _ (ok_unlend (nb_lend o7)) (ok_unlend ht8) (ok_unlend (nb_lend o9)) (ok_unlend (nb_lend o10)) (ok_unlend (nb_lend o11)) (ok_unlend (nb_lend o12)) (ok_unlend (nb_lend o13)) (ok_unlend (nb_lend o14)) (ok_unlend (nb_lend o15))
theorem lp_ok {js : List Jb} {xs ns : List Int} (h : OkJs js) {t : Nat} (ht : t < 2) {d4 : D} {s7 s8 s9 s10 s11 s12 s13 s14 s15 : Sl} {Dv : VEnds}
    (o7 : okS s7 = true) (o8 : okS s8 = true) (o9 : okS s9 = true) (o10 : okS s10 = true) (o11 : okS s11 = true) (o12 : okS s12 = true) (o13 : okS s13 = true) (o14 : okS s14 = true) (o15 : okS s15 = true)
    (hK : ∀ t7 t8 t9 t10 t11 t12 t13 t14 t15, okS t7 = true → okS t8 = true → okS t9 = true → okS t10 = true → okS t11 = true → okS t12 = true → okS t13 = true → okS t14 = true → okS t15 = true → Dv.nx [.scr ns, .val (tD xs), .val (.int (t : Int)), .val (tD js), .val d4, .own (tD (gr js)), .val (.int (wsum js (gr js))), t7, t8, t9, t10, t11, t12, t13, t14, t15]) :
    q_lp Dv [.scr ns, .val (tD xs), .val (.int (t : Int)), .val (tD js), .val d4, .own (tD (gr js)), .val (.int (wsum js (gr js))), s7, s8, s9, s10, s11, s12, s13, s14, s15] := by
  obtain ⟨go, gp⟩ := gr_ok h
  refine ⟨tD (gr js), rfl, lendOk_of (by simp [lendOkR, o7, o8, o9, o10, o11, o12, o13, o14, o15]), ?_⟩
  rw [lend_eq]
  simp only [e_seq, e_next, e_break, e_cont, e_drop, e_set, e_setO, e_asg, e_par, e_ifS, e_ret, e_retN, e_retV, e_for, e_setIx, e_meth, e_lend, e_frz, e_var, e_varL, e_c, e_2, e_1, e_tst, e_chain, e_and, e_or, e_not, e_andV, e_orV, e_notV, e_if, e_nil, e_cons, e_lst, e_tup, e_N, e_call, e_callL, e_callS, e_lenS, e_ixS, e_iList, e_iRng1, e_iRng2, e_iEnum, e_iZip, e_name, e_gNil, e_gCons, e_gTup, e_lc, e_listRg1, e_yes, e_wipe0, e_wipe1, e_getV, e_getVo, e_getVb, e_getL, e_getLo, e_getLb, e_getLw, e_ownL, e_sl, e_none, e_some, add_int, sub_int, eq_int, ne_int, eq_bool, ne_bool, ne_str, eq_str, lt_int, gt_int, le_int, ge_int, len_list, len_tuple, list_list, int_int, rev_list, ix_t0, ix_t1, ix_t2, ix_l0, ix_l1, ix_l2, List.set_cons_succ, List.set_cons_zero, List.getElem?_cons_succ, List.getElem?_cons_zero, Option.bind_some, Option.some.injEq, exists_eq_left', exists_eq_left, PyData.bool.injEq, PyData.int.injEq, PyData.list.injEq, Sl.own.injEq, List.cons.injEq, and_true, decide_eq_true_eq, Bool.false_eq_true, if_false, if_true, decide_true, decide_false, Bool.not_true, Bool.not_false]
  refine ⟨⟨by omega, by omega⟩, ?_⟩
  refine forRun_rng (fun i ρ => ∃ t7 t8 t9 t10 t11 t12 t13 t14 t15, nbS t7 = true ∧ nbS t8 = true ∧ nbS t9 = true ∧ nbS t10 = true ∧ nbS t11 = true ∧ nbS t12 = true ∧ nbS t13 = true ∧ nbS t14 = true ∧ nbS t15 = true ∧ ρ = [.scr ns, .old (tD xs), .old (.int (t : Int)), .old (tD js), .old d4, .bor (tD (gr js)), .old (.int (wsum js (gr js))), t7, t8, t9, t10, t11, t12, t13, t14, t15]) 5 ⟨_, _, _, _, _, _, _, _, _, nb_lend o7, nb_lend o8, nb_lend o9, nb_lend o10, nb_lend o11, nb_lend o12, nb_lend o13, nb_lend o14, nb_lend o15, rfl⟩ ?_ ?_
  · rintro i ρ hi ⟨t7, t8, t9, t10, t11, t12, t13, t14, t15, n7, n8, n9, n10, n11, n12, n13, n14, n15, rfl⟩ K hK2
    exact in_ok h gp go ht hi (fun t9 t10 t11 t12 t13 t14 t15 a9 a10 a11 a12 a13 a14 a15 => hK2 _ ⟨_, _, _, _, _, _, _, _, _, rfl, n8, a9, a10, a11, a12, a13, a14, a15, rfl⟩) n13 n15
  · rintro ρ ⟨t7, t8, t9, t10, t11, t12, t13, t14, t15, n7, n8, n9, n10, n11, n12, n13, n14, n15, rfl⟩
    refine ⟨borOk_of (by simp [borOkR, n7, n8, n9, n10, n11, n12, n13, n14, n15]), ?_⟩
    rw [unlend_eq]
    exact hK _ _ _ _ _ _ _ _ _ (ok_unlend n7) (ok_unlend n8) (ok_unlend n9) (ok_unlend n10) (ok_unlend n11) (ok_unlend n12) (ok_unlend n13) (ok_unlend n14) (ok_unlend n15)
theorem rep_jobs {js : List Jb} (h : OkJs js) : oRepr [tD js] = some (.str (tD js).shown) := by
  refine repr_list (xs := js.map tD) (B := 100) (flat_tD (α := List Jb) (by decide) js) ?_ ?_ (by have := h.2.1; simp; omega)
  · intro d hd
    obtain ⟨j, hj, rfl⟩ := List.mem_map.mp hd
    have := h.2.2 j hj
    unfold OkJ at this
    rw [tD_jb]
    simp only [PyData.showable, PyData.showableAll]
    have a := showable_int (i := j.a) (by omega)
    have b := showable_int (i := j.b) (by omega)
    have c := showable_int (i := j.c) (by omega)
    simp only [PyData.showable] at a b c
    simp [a, b, c]
  · intro d hd
    obtain ⟨j, hj, rfl⟩ := List.mem_map.mp hd
    have := h.2.2 j hj
    unfold OkJ at this
    rw [tD_jb]
    refine Nat.le_trans (shown_tuple_le (B := 13) ?_) (by simp)
    intro x hx
    simp at hx
    rcases hx with rfl | rfl | rfl
    · exact PyData.shown_int_le (by omega)
    · exact PyData.shown_int_le (by omega)
    · exact PyData.shown_int_le (by omega)
def S_law : List Int → D → Prop := fun _ d => d = .bool true
theorem keeps_law : KeepsS (q_law S__law_draws S__law_jobs S_least_order S__law_sum S_ends S__law_mix S__law_drawn_order S__law_orders S__law_ends S_weighted S_swap) N_law S_law := by
  rintro ns d rfl
  have bg := big
  change q_law2 _ _
  unfold q_law2
  change (qSeq _ _) _ [.scr ns, .no, .no, .no, .no, .no, .no, .no, .no, .no, .no, .no, .no, .no, .no, .no]
  simp only [e_seq, e_next, e_break, e_cont, e_drop, e_set, e_setO, e_asg, e_par, e_ifS, e_ret, e_retN, e_retV, e_for, e_setIx, e_meth, e_lend, e_frz, e_var, e_varL, e_c, e_2, e_1, e_tst, e_chain, e_and, e_or, e_not, e_andV, e_orV, e_notV, e_if, e_nil, e_cons, e_lst, e_tup, e_N, e_call, e_callL, e_callS, e_lenS, e_ixS, e_iList, e_iRng1, e_iRng2, e_iEnum, e_iZip, e_name, e_gNil, e_gCons, e_gTup, e_lc, e_listRg1, e_yes, e_wipe0, e_wipe1, e_getV, e_getVo, e_getVb, e_getL, e_getLo, e_getLb, e_getLw, e_ownL, e_sl, e_none, e_some, add_int, sub_int, eq_int, ne_int, eq_bool, ne_bool, ne_str, eq_str, lt_int, gt_int, le_int, ge_int, len_list, len_tuple, list_list, int_int, rev_list, ix_t0, ix_t1, ix_t2, ix_l0, ix_l1, ix_l2, List.set_cons_succ, List.set_cons_zero, List.getElem?_cons_succ, List.getElem?_cons_zero, Option.bind_some, Option.some.injEq, exists_eq_left', exists_eq_left, PyData.bool.injEq, PyData.int.injEq, PyData.list.injEq, Sl.own.injEq, List.cons.injEq, and_true, decide_eq_true_eq, Bool.false_eq_true, if_false, if_true, decide_true, decide_false, Bool.not_true, Bool.not_false]
  refine ⟨ns, rfl, _, rfl, ?_⟩
  refine ⟨⟨by omega, by omega⟩, ?_⟩
  refine forRun_rng (fun i ρ => ∃ s2 s3 s4 s5 s6 s7 s8 s9 s10 s11 s12 s13 s14 s15, (okS s7 && okS s8 && okS s9 && okS s10 && okS s11 && okS s12 && okS s13 && okS s14 && okS s15) = true ∧ ρ = [.scr ns, .val (tD (drawsL ns)), s2, s3, s4, s5, s6, s7, s8, s9, s10, s11, s12, s13, s14, s15]) 2 ⟨.no, .no, .no, .no, .no, .no, .no, .no, .no, .no, .no, .no, .no, .no, rfl, rfl⟩ ?_ ?_
  · rintro t ρ ht ⟨s2, s3, s4, s5, s6, s7, s8, s9, s10, s11, s12, s13, s14, s15, hs, rfl⟩ K hK
    simp only [Bool.and_eq_true] at hs
    obtain ⟨⟨⟨⟨⟨⟨⟨⟨o7, o8⟩, o9⟩, o10⟩, o11⟩, o12⟩, o13⟩, o14⟩, o15⟩ := hs
    have q40 : oMul (.int 40) (.int (t : Int)) = some (.int (40 * (t : Int))) := mul_int (.inl (by omega))
    obtain ⟨most, hmost, em⟩ : ∃ m : Int, (1 ≤ m ∧ m ≤ 10) ∧ oIx (.list [.int 5, .int 10]) (.int (t : Int)) = some (.int m) := by
      have : t = 0 ∨ t = 1 := by omega
      rcases this with rfl | rfl
      · exact ⟨5, by omega, ix_nat rfl⟩
      · exact ⟨10, by omega, ix_nat rfl⟩
    change q_out _ _
    unfold q_out
    simp only [e_seq, e_next, e_break, e_cont, e_drop, e_set, e_setO, e_asg, e_par, e_ifS, e_ret, e_retN, e_retV, e_for, e_setIx, e_meth, e_lend, e_frz, e_var, e_varL, e_c, e_2, e_1, e_tst, e_chain, e_and, e_or, e_not, e_andV, e_orV, e_notV, e_if, e_nil, e_cons, e_lst, e_tup, e_N, e_call, e_callL, e_callS, e_lenS, e_ixS, e_iList, e_iRng1, e_iRng2, e_iEnum, e_iZip, e_name, e_gNil, e_gCons, e_gTup, e_lc, e_listRg1, e_yes, e_wipe0, e_wipe1, e_getV, e_getVo, e_getVb, e_getL, e_getLo, e_getLb, e_getLw, e_ownL, e_sl, e_none, e_some, add_int, sub_int, eq_int, ne_int, eq_bool, ne_bool, ne_str, eq_str, lt_int, gt_int, le_int, ge_int, len_list, len_tuple, list_list, int_int, rev_list, ix_t0, ix_t1, ix_t2, ix_l0, ix_l1, ix_l2, List.set_cons_succ, List.set_cons_zero, List.getElem?_cons_succ, List.getElem?_cons_zero, Option.bind_some, Option.some.injEq, exists_eq_left', exists_eq_left, PyData.bool.injEq, PyData.int.injEq, PyData.list.injEq, Sl.own.injEq, List.cons.injEq, and_true, decide_eq_true_eq, Bool.false_eq_true, if_false, if_true, decide_true, decide_false, Bool.not_true, Bool.not_false, q40, em]
    refine ⟨_, ⟨drawsL ns, _, most, hmost, rfl, rfl⟩, ?_⟩
    have h := jobs_ok (ds := drawsL ns) (k := 10 + 40 * (t : Int)) hmost
    generalize jobsL (drawsL ns) (10 + 40 * (t : Int)) most = js at h ⊢
    obtain ⟨go, gp⟩ := gr_ok h
    obtain ⟨h1, h2, h3⟩ := id h
    have rj : oRepr [tD js] = some (.str (tD js).shown) := rep_jobs h
    simp only [e_seq, e_next, e_break, e_cont, e_drop, e_set, e_setO, e_asg, e_par, e_ifS, e_ret, e_retN, e_retV, e_for, e_setIx, e_meth, e_lend, e_frz, e_var, e_varL, e_c, e_2, e_1, e_tst, e_chain, e_and, e_or, e_not, e_andV, e_orV, e_notV, e_if, e_nil, e_cons, e_lst, e_tup, e_N, e_call, e_callL, e_callS, e_lenS, e_ixS, e_iList, e_iRng1, e_iRng2, e_iEnum, e_iZip, e_name, e_gNil, e_gCons, e_gTup, e_lc, e_listRg1, e_yes, e_wipe0, e_wipe1, e_getV, e_getVo, e_getVb, e_getL, e_getLo, e_getLb, e_getLw, e_ownL, e_sl, e_none, e_some, add_int, sub_int, eq_int, ne_int, eq_bool, ne_bool, ne_str, eq_str, lt_int, gt_int, le_int, ge_int, len_list, len_tuple, list_list, int_int, rev_list, ix_t0, ix_t1, ix_t2, ix_l0, ix_l1, ix_l2, List.set_cons_succ, List.set_cons_zero, List.getElem?_cons_succ, List.getElem?_cons_zero, Option.bind_some, Option.some.injEq, exists_eq_left', exists_eq_left, PyData.bool.injEq, PyData.int.injEq, PyData.list.injEq, Sl.own.injEq, List.cons.injEq, and_true, decide_eq_true_eq, Bool.false_eq_true, if_false, if_true, decide_true, decide_false, Bool.not_true, Bool.not_false, rj]
    refine ⟨tD (gr js), ⟨js, h, rfl, rfl⟩, ?_⟩
    have eo : ownSl (tD (gr js)) = .own (tD (gr js)) := rfl
    have ln : oLen [tD js] = some (.int (js.length : Int)) := by rw [tD_list, len_list, List.length_map]
    have e1 : oSorted [tD (gr js)] = some (.list ((List.range js.length).map tD)) := by
      have := oSorted_tD (gr js) (sortable_nat _) (by have := go.length_eq; simp at this; omega)
      rw [srt_nat go] at this
      exact this
    have e2 : oNe (.list ((List.range js.length).map tD)) (.list ((List.range js.length).map tD)) = some (.bool false) := by
      have := ne_tD (List.range js.length) (List.range js.length)
      simp only [decide_true, Bool.not_true] at this
      exact this
    have e3 : rangeD 0 js.length = (List.range js.length).map tD := rangeD0 _
    have e4 : ((js.length : Int) - 0).toNat = js.length := by omega
    simp only [e_seq, e_next, e_break, e_cont, e_drop, e_set, e_setO, e_asg, e_par, e_ifS, e_ret, e_retN, e_retV, e_for, e_setIx, e_meth, e_lend, e_frz, e_var, e_varL, e_c, e_2, e_1, e_tst, e_chain, e_and, e_or, e_not, e_andV, e_orV, e_notV, e_if, e_nil, e_cons, e_lst, e_tup, e_N, e_call, e_callL, e_callS, e_lenS, e_ixS, e_iList, e_iRng1, e_iRng2, e_iEnum, e_iZip, e_name, e_gNil, e_gCons, e_gTup, e_lc, e_listRg1, e_yes, e_wipe0, e_wipe1, e_getV, e_getVo, e_getVb, e_getL, e_getLo, e_getLb, e_getLw, e_ownL, e_sl, e_none, e_some, add_int, sub_int, eq_int, ne_int, eq_bool, ne_bool, ne_str, eq_str, lt_int, gt_int, le_int, ge_int, len_list, len_tuple, list_list, int_int, rev_list, ix_t0, ix_t1, ix_t2, ix_l0, ix_l1, ix_l2, List.set_cons_succ, List.set_cons_zero, List.getElem?_cons_succ, List.getElem?_cons_zero, Option.bind_some, Option.some.injEq, exists_eq_left', exists_eq_left, PyData.bool.injEq, PyData.int.injEq, PyData.list.injEq, Sl.own.injEq, List.cons.injEq, and_true, decide_eq_true_eq, Bool.false_eq_true, if_false, if_true, decide_true, decide_false, Bool.not_true, Bool.not_false, eo, e1, ln]
    refine ⟨rgOk_n (by omega), ?_⟩
    rw [e4, e3]
    simp only [e_seq, e_next, e_break, e_cont, e_drop, e_set, e_setO, e_asg, e_par, e_ifS, e_ret, e_retN, e_retV, e_for, e_setIx, e_meth, e_lend, e_frz, e_var, e_varL, e_c, e_2, e_1, e_tst, e_chain, e_and, e_or, e_not, e_andV, e_orV, e_notV, e_if, e_nil, e_cons, e_lst, e_tup, e_N, e_call, e_callL, e_callS, e_lenS, e_ixS, e_iList, e_iRng1, e_iRng2, e_iEnum, e_iZip, e_name, e_gNil, e_gCons, e_gTup, e_lc, e_listRg1, e_yes, e_wipe0, e_wipe1, e_getV, e_getVo, e_getVb, e_getL, e_getLo, e_getLb, e_getLw, e_ownL, e_sl, e_none, e_some, add_int, sub_int, eq_int, ne_int, eq_bool, ne_bool, ne_str, eq_str, lt_int, gt_int, le_int, ge_int, len_list, len_tuple, list_list, int_int, rev_list, ix_t0, ix_t1, ix_t2, ix_l0, ix_l1, ix_l2, List.set_cons_succ, List.set_cons_zero, List.getElem?_cons_succ, List.getElem?_cons_zero, Option.bind_some, Option.some.injEq, exists_eq_left', exists_eq_left, PyData.bool.injEq, PyData.int.injEq, PyData.list.injEq, Sl.own.injEq, List.cons.injEq, and_true, decide_eq_true_eq, Bool.false_eq_true, if_false, if_true, decide_true, decide_false, Bool.not_true, Bool.not_false, e2]
    refine ⟨.int (wsum js (gr js)), ⟨js, gr js, h, go, rfl, rfl⟩, rfl, ?_⟩
    refine sm_ok h o7 o8 o9 o10 o11 o12 o13 o14 o15 fun t7 t8 t9 t10 t11 t12 t13 t14 t15 a7 a8 a9 a10 a11 a12 a13 a14 a15 => ?_
    show q_lp _ _
    refine lp_ok h ht a7 a8 a9 a10 a11 a12 a13 a14 a15 fun t7 t8 t9 t10 t11 t12 t13 t14 t15 a7 a8 a9 a10 a11 a12 a13 a14 a15 => ?_
    show q_end _ _
    have hl := go.length_eq
    simp at hl
    have e5 : oNe (tD (gr js)) (.list ((gr js).map tD)) = some (.bool false) := by
      have := ne_tD (gr js) (gr js)
      simp only [decide_true, Bool.not_true] at this
      exact this
    have e6 : oNeg (.int 1) = some (.int (-1)) := rfl
    unfold q_end
    simp only [e_seq, e_next, e_break, e_cont, e_drop, e_set, e_setO, e_asg, e_par, e_ifS, e_ret, e_retN, e_retV, e_for, e_setIx, e_meth, e_lend, e_frz, e_var, e_varL, e_c, e_2, e_1, e_tst, e_chain, e_and, e_or, e_not, e_andV, e_orV, e_notV, e_if, e_nil, e_cons, e_lst, e_tup, e_N, e_call, e_callL, e_callS, e_lenS, e_ixS, e_iList, e_iRng1, e_iRng2, e_iEnum, e_iZip, e_name, e_gNil, e_gCons, e_gTup, e_lc, e_listRg1, e_yes, e_wipe0, e_wipe1, e_getV, e_getVo, e_getVb, e_getL, e_getLo, e_getLb, e_getLw, e_ownL, e_sl, e_none, e_some, add_int, sub_int, eq_int, ne_int, eq_bool, ne_bool, ne_str, eq_str, lt_int, gt_int, le_int, ge_int, len_list, len_tuple, list_list, int_int, rev_list, ix_t0, ix_t1, ix_t2, ix_l0, ix_l1, ix_l2, List.set_cons_succ, List.set_cons_zero, List.getElem?_cons_succ, List.getElem?_cons_zero, Option.bind_some, Option.some.injEq, exists_eq_left', exists_eq_left, PyData.bool.injEq, PyData.int.injEq, PyData.list.injEq, Sl.own.injEq, List.cons.injEq, and_true, decide_eq_true_eq, Bool.false_eq_true, if_false, if_true, decide_true, decide_false, Bool.not_true, Bool.not_false, rj]
    refine ⟨_, rfl, _, append_ok (by simp; omega), ?_⟩
    simp only [e_seq, e_next, e_break, e_cont, e_drop, e_set, e_setO, e_asg, e_par, e_ifS, e_ret, e_retN, e_retV, e_for, e_setIx, e_meth, e_lend, e_frz, e_var, e_varL, e_c, e_2, e_1, e_tst, e_chain, e_and, e_or, e_not, e_andV, e_orV, e_notV, e_if, e_nil, e_cons, e_lst, e_tup, e_N, e_call, e_callL, e_callS, e_lenS, e_ixS, e_iList, e_iRng1, e_iRng2, e_iEnum, e_iZip, e_name, e_gNil, e_gCons, e_gTup, e_lc, e_listRg1, e_yes, e_wipe0, e_wipe1, e_getV, e_getVo, e_getVb, e_getL, e_getLo, e_getLb, e_getLw, e_ownL, e_sl, e_none, e_some, add_int, sub_int, eq_int, ne_int, eq_bool, ne_bool, ne_str, eq_str, lt_int, gt_int, le_int, ge_int, len_list, len_tuple, list_list, int_int, rev_list, ix_t0, ix_t1, ix_t2, ix_l0, ix_l1, ix_l2, List.set_cons_succ, List.set_cons_zero, List.getElem?_cons_succ, List.getElem?_cons_zero, Option.bind_some, Option.some.injEq, exists_eq_left', exists_eq_left, PyData.bool.injEq, PyData.int.injEq, PyData.list.injEq, Sl.own.injEq, List.cons.injEq, and_true, decide_eq_true_eq, Bool.false_eq_true, if_false, if_true, decide_true, decide_false, Bool.not_true, Bool.not_false, e6, slice_last]
    refine ⟨_, ⟨js, h, rfl, rfl⟩, _, e5, _, rfl, ?_⟩
    simp only [e_seq, e_next, e_break, e_cont, e_drop, e_set, e_setO, e_asg, e_par, e_ifS, e_ret, e_retN, e_retV, e_for, e_setIx, e_meth, e_lend, e_frz, e_var, e_varL, e_c, e_2, e_1, e_tst, e_chain, e_and, e_or, e_not, e_andV, e_orV, e_notV, e_if, e_nil, e_cons, e_lst, e_tup, e_N, e_call, e_callL, e_callS, e_lenS, e_ixS, e_iList, e_iRng1, e_iRng2, e_iEnum, e_iZip, e_name, e_gNil, e_gCons, e_gTup, e_lc, e_listRg1, e_yes, e_wipe0, e_wipe1, e_getV, e_getVo, e_getVb, e_getL, e_getLo, e_getLb, e_getLw, e_ownL, e_sl, e_none, e_some, add_int, sub_int, eq_int, ne_int, eq_bool, ne_bool, ne_str, eq_str, lt_int, gt_int, le_int, ge_int, len_list, len_tuple, list_list, int_int, rev_list, ix_t0, ix_t1, ix_t2, ix_l0, ix_l1, ix_l2, List.set_cons_succ, List.set_cons_zero, List.getElem?_cons_succ, List.getElem?_cons_zero, Option.bind_some, Option.some.injEq, exists_eq_left', exists_eq_left, PyData.bool.injEq, PyData.int.injEq, PyData.list.injEq, Sl.own.injEq, List.cons.injEq, and_true, decide_eq_true_eq, Bool.false_eq_true, if_false, if_true, decide_true, decide_false, Bool.not_true, Bool.not_false]
    exact hK _ ⟨_, _, _, _, _, _, _, _, _, _, _, _, _, _, by simp [a7, a8, a9, a10, a11, a12, a13, a14, a15], rfl⟩
  · rintro ρ ⟨s2, s3, s4, s5, s6, s7, s8, s9, s10, s11, s12, s13, s14, s15, hs, rfl⟩
    simp only [e_seq, e_next, e_break, e_cont, e_drop, e_set, e_setO, e_asg, e_par, e_ifS, e_ret, e_retN, e_retV, e_for, e_setIx, e_meth, e_lend, e_frz, e_var, e_varL, e_c, e_2, e_1, e_tst, e_chain, e_and, e_or, e_not, e_andV, e_orV, e_notV, e_if, e_nil, e_cons, e_lst, e_tup, e_N, e_call, e_callL, e_callS, e_lenS, e_ixS, e_iList, e_iRng1, e_iRng2, e_iEnum, e_iZip, e_name, e_gNil, e_gCons, e_gTup, e_lc, e_listRg1, e_yes, e_wipe0, e_wipe1, e_getV, e_getVo, e_getVb, e_getL, e_getLo, e_getLb, e_getLw, e_ownL, e_sl, e_none, e_some, add_int, sub_int, eq_int, ne_int, eq_bool, ne_bool, ne_str, eq_str, lt_int, gt_int, le_int, ge_int, len_list, len_tuple, list_list, int_int, rev_list, ix_t0, ix_t1, ix_t2, ix_l0, ix_l1, ix_l2, List.set_cons_succ, List.set_cons_zero, List.getElem?_cons_succ, List.getElem?_cons_zero, Option.bind_some, Option.some.injEq, exists_eq_left', exists_eq_left, PyData.bool.injEq, PyData.int.injEq, PyData.list.injEq, Sl.own.injEq, List.cons.injEq, and_true, decide_eq_true_eq, Bool.false_eq_true, if_false, if_true, decide_true, decide_false, Bool.not_true, Bool.not_false]
theorem law_true : ∀ ns : List Int, ns.length ≤ 63 → S_law ns (.bool true) := fun _ _ => rfl
end P32
set_option maxHeartbeats 0
namespace P32
open PySem PySem.Spec PyProof.Rows L2 VL
def top (i : Nat) : Stmt := PySem.Challenge.pw_printstack_k32_whole_orders_by_weights.main.body.getD i (.Pass ⟨0, 0, 0, 0⟩)
abbrev s_is_job : Stmt := top 10
theorem sc_is_job : FnScope N_is_job ["job"] (defScope s_is_job) := ⟨rfl, rfl, rfl, by decide +kernel, rfl, by decide +kernel, by decide +kernel⟩
abbrev s_check_jobs : Stmt := top 11
theorem sc_check_jobs : FnScope N_check_jobs ["jobs"] (defScope s_check_jobs) := ⟨rfl, rfl, rfl, by decide +kernel, rfl, by decide +kernel, by decide +kernel⟩
abbrev s_check_order : Stmt := top 12
theorem sc_check_order : FnScope N_check_order ["many", "order"] (defScope s_check_order) := ⟨rfl, rfl, rfl, by decide +kernel, rfl, by decide +kernel, by decide +kernel⟩
abbrev s_ends_of : Stmt := top 13
theorem sc_ends_of : FnScope N_ends_of ["jobs", "order"] (defScope s_ends_of) := ⟨rfl, rfl, rfl, by decide +kernel, rfl, by decide +kernel, by decide +kernel⟩
abbrev s_ends : Stmt := top 14
theorem sc_ends : FnScope N_ends ["jobs", "order"] (defScope s_ends) := ⟨rfl, rfl, rfl, by decide +kernel, rfl, by decide +kernel, by decide +kernel⟩
abbrev s_weighted : Stmt := top 15
theorem sc_weighted : FnScope N_weighted ["jobs", "order"] (defScope s_weighted) := ⟨rfl, rfl, rfl, by decide +kernel, rfl, by decide +kernel, by decide +kernel⟩
abbrev s_is_wrong : Stmt := top 16
theorem sc_is_wrong : FnScope N_is_wrong ["one", "two"] (defScope s_is_wrong) := ⟨rfl, rfl, rfl, by decide +kernel, rfl, by decide +kernel, by decide +kernel⟩
abbrev s_swap : Stmt := top 17
theorem sc_swap : FnScope N_swap ["jobs", "order"] (defScope s_swap) := ⟨rfl, rfl, rfl, by decide +kernel, rfl, by decide +kernel, by decide +kernel⟩
abbrev s_least_order : Stmt := top 18
theorem sc_least_order : FnScope N_least_order ["jobs"] (defScope s_least_order) := ⟨rfl, rfl, rfl, by decide +kernel, rfl, by decide +kernel, by decide +kernel⟩
abbrev s__law_draws : Stmt := top 20
theorem sc__law_draws : FnScope N__law_draws ["script"] (defScope s__law_draws) := ⟨rfl, rfl, rfl, by decide +kernel, rfl, by decide +kernel, by decide +kernel⟩
abbrev s__law_mix : Stmt := top 21
theorem sc__law_mix : FnScope N__law_mix ["draws", "k", "many"] (defScope s__law_mix) := ⟨rfl, rfl, rfl, by decide +kernel, rfl, by decide +kernel, by decide +kernel⟩
abbrev s__law_jobs : Stmt := top 22
theorem sc__law_jobs : FnScope N__law_jobs ["draws", "k", "most"] (defScope s__law_jobs) := ⟨rfl, rfl, rfl, by decide +kernel, rfl, by decide +kernel, by decide +kernel⟩
abbrev s__law_orders : Stmt := top 23
theorem sc__law_orders : FnScope N__law_orders ["many"] (defScope s__law_orders) := ⟨rfl, rfl, rfl, by decide +kernel, rfl, by decide +kernel, by decide +kernel⟩
abbrev s__law_ends : Stmt := top 24
theorem sc__law_ends : FnScope N__law_ends ["jobs", "order"] (defScope s__law_ends) := ⟨rfl, rfl, rfl, by decide +kernel, rfl, by decide +kernel, by decide +kernel⟩
abbrev s__law_drawn_order : Stmt := top 25
theorem sc__law_drawn_order : FnScope N__law_drawn_order ["draws", "k", "many"] (defScope s__law_drawn_order) := ⟨rfl, rfl, rfl, by decide +kernel, rfl, by decide +kernel, by decide +kernel⟩
abbrev s__law_sum : Stmt := top 26
theorem sc__law_sum : FnScope N__law_sum ["jobs", "order"] (defScope s__law_sum) := ⟨rfl, rfl, rfl, by decide +kernel, rfl, by decide +kernel, by decide +kernel⟩
abbrev s_law : Stmt := top 27
theorem sc_law : FnScope N_law ["script"] (defScope s_law) := ⟨rfl, rfl, rfl, by decide +kernel, rfl, by decide +kernel, by decide +kernel⟩
section
variable {P : Program} {w : World} {K : PySem.W.Frag} {mg : Str → Option Value} {base : Heap}
theorem ok_is_job {f : Addr} {fd : FuncData} (F : FunD K "is_job" "is_job" (defArgs s_is_job) (defBody s_is_job) (defScope s_is_job) [] [] f fd) {u_MOST_PAGES : Tok} (g_MOST_PAGES : mg "MOST_PAGES" = some (.int 100 u_MOST_PAGES)) {u_MOST_WEIGHT : Tok} (g_MOST_WEIGHT : mg "MOST_WEIGHT" = some (.int 100 u_MOST_WEIGHT)) {u_MOST_DATE : Tok} (g_MOST_DATE : mg "MOST_DATE" = some (.int 1000 u_MOST_DATE)) : FnOk P w K mg base CX0 1 f fd ["job"] (SpV K false S_is_job) :=
  by
  have nd := sc_is_job.nd
  exact fnV (fr := false) (q := q_is_job) F sc_is_job keeps_is_job (fun cdv A outer s H E hr => ⟨_,
 (vss_cons (vs_asg (ve_var 0) (vg_tupK K rfl rfl (vgs_cons (vg_name 1 nd rfl (by first | exact .inl rfl | exact .inr rfl)) (vgs_cons (vg_name 2 nd rfl (by first | exact .inl rfl | exact .inr rfl)) (vgs_cons (vg_name 3 nd rfl (by first | exact .inl rfl | exact .inr rfl)) vgs_nil)))))
 (vss_one (vs_ret (ve_and (ve_chain (r := rD oLe K) (r' := rD oLe K) (or_le hr.units) (or_le hr.units) (op2_rD oLe_b) (op2_rD oLe_b) (VE.look ve_int) (VE.look (ve_var 1)) (VE.look (ve_globI rfl g_MOST_PAGES))) (ve_and (ve_chain (r := rD oLe K) (r' := rD oLe K) (or_le hr.units) (or_le hr.units) (op2_rD oLe_b) (op2_rD oLe_b) (VE.look ve_int) (VE.look (ve_var 2)) (VE.look (ve_globI rfl g_MOST_WEIGHT))) (ve_one (ve_chain (r := rD oLe K) (r' := rD oLe K) (or_le hr.units) (or_le hr.units) (op2_rD oLe_b) (op2_rD oLe_b) (VE.look ve_int) (VE.look (ve_var 3)) (VE.look (ve_globI rfl g_MOST_DATE)))))))))⟩)
theorem ok_check_jobs {f : Addr} {fd : FuncData} (F : FunD K "check_jobs" "check_jobs" (defArgs s_check_jobs) (defBody s_check_jobs) (defScope s_check_jobs) [] [] f fd) {f_is_job : Addr} {fd_is_job : FuncData} (C_is_job : Callee P w K mg base 1 "is_job" ["job"] (SpV K false S_is_job) f_is_job fd_is_job) {u_MOST_JOBS : Tok} (g_MOST_JOBS : mg "MOST_JOBS" = some (.int 10 u_MOST_JOBS)) (m_enumerate : mg "enumerate" = none) (m_len : mg "len" = none) : FnOk P w K mg base CX0 2 f fd ["jobs"] (SpV K false S_check_jobs) :=
  by
  have nd := sc_check_jobs.nd
  exact fnV (fr := false) (q := (q_check_jobs S_is_job)) F sc_check_jobs keeps_check_jobs (fun cdv A outer s H E hr => ⟨_,
 (vss_cons (vs_if (vt_not (vt_chain (r := rD oLe K) (r' := rD oLe K) (or_le hr.units) (or_le hr.units) (op2_rD oLe_b) (op2_rD oLe_b) (VE.look ve_int) (VE.look (ve_callB (md := .val) (r := (rLenK K)) call_len opN_len rfl m_len (by decide +kernel) (va_cons (VE.look (ve_var 0)) va_nil))) (VE.look (ve_globI rfl g_MOST_JOBS)))) (vss_one vs_never)
 vss_nil)
 (vss_one (vs_for PassesOwn.never rfl (vi_enumK K rfl (md := .val) rfl m_enumerate (va_cons (ve_var 0) va_nil)) (vg_tupK K rfl rfl (vgs_cons (vg_name 1 nd rfl (by first | exact .inl rfl | exact .inr rfl)) (vgs_cons (vg_name 2 nd rfl (by first | exact .inl rfl | exact .inr rfl)) vgs_nil)))
  (vss_one (vs_if (vt_not (vt_val (ve_callK K rfl (fr := false) C_is_job.ok hr rfl C_is_job.mg C_is_job.kp C_is_job.bd pass0 (va_cons (ve_var 2) va_nil)))) (vss_one vs_never)
  vss_nil)))))⟩)
theorem ok_check_order {f : Addr} {fd : FuncData} (F : FunD K "check_order" "check_order" (defArgs s_check_order) (defBody s_check_order) (defScope s_check_order) [] [] f fd) (m_sorted : mg "sorted" = none) (m_list : mg "list" = none) (m_range : mg "range" = none) : FnOk P w K mg base CX0 1 f fd ["many", "order"] (SpV K false S_check_order) :=
  by
  have nd := sc_check_order.nd
  exact fnV (fr := false) (q := q_check_order) F sc_check_order keeps_check_order (fun cdv A outer s H E hr => ⟨_,
 (vss_one (vs_if (vt_cmp (r := rD oNe K) (or_ne hr.units) (op2_rD oNe_b) (nomark _) (VE.look (VE.frz (ve_callB (md := .own) (r := (rData oSorted .own K)) (cr_sortedD (Room_u100 hr)) opN_data rfl m_sorted (by decide +kernel) (va_cons (VE.look (ve_var 1)) va_nil)))) (VE.look (VE.frz (ve_listRg1 rfl rfl m_list rfl m_range (VE.look (ve_var 0)))))) (vss_one vs_never)
 vss_nil))⟩)
theorem ok_ends_of {f : Addr} {fd : FuncData} (F : FunD K "ends_of" "ends_of" (defArgs s_ends_of) (defBody s_ends_of) (defScope s_ends_of) [] [] f fd) (m_len : mg "len" = none) : FnOk P w K mg base CX0 1 f fd ["jobs", "order"] (SpV K true S_ends_of) :=
  by
  have nd := sc_ends_of.nd
  exact fnV (fr := true) (q := q_ends_of) F sc_ends_of keeps_ends_of (fun cdv A outer s H E hr => ⟨_,
 (vss_cons (vs_setO 2 nd rfl (by first | exact .inl rfl | exact .inr rfl) (ve_op2 (md := .own) or_mulA op2_mul (VE.look (VE.frz (ve_lst (va_cons ve_int va_nil)))) (VE.look (ve_callB (md := .val) (r := (rLenK K)) call_len opN_len rfl m_len (by decide +kernel) (va_cons (VE.look (ve_var 0)) va_nil)))))
 (vss_cons (vs_set 3 nd rfl (by first | exact .inl rfl | exact .inr rfl) ve_int)
 (vss_cons (vs_for PassesOwn.never rfl (vi_listK K rfl (md := .val) (ve_var 1)) (vg_name 4 nd rfl (by first | exact .inl rfl | exact .inr rfl))
  (vss_cons (vs_set 3 nd rfl (by first | exact .inl rfl | exact .inr rfl) (ve_op2 (md := .val) or_addA op2_add (VE.look (ve_var 3)) (VE.look (ve_ix (r := rIx K) ix_seq op2_ix (VE.look (ve_ix (r := rIx K) ix_seq op2_ix (VE.look (ve_var 0)) (VE.look (ve_var 4)))) (VE.look ve_int)))))
  (vss_one (vs_setIx 2 rfl (by first | exact Or.inl rfl | exact Or.inr (Or.inl rfl)) (ve_var 4) (ve_var 3)))))
 (vss_one (vs_retV 2)))))⟩)
theorem ok_ends {f : Addr} {fd : FuncData} (F : FunD K "ends" "ends" (defArgs s_ends) (defBody s_ends) (defScope s_ends) [] [] f fd) {f_check_jobs : Addr} {fd_check_jobs : FuncData} (C_check_jobs : Callee P w K mg base 2 "check_jobs" ["jobs"] (SpV K false S_check_jobs) f_check_jobs fd_check_jobs) {f_check_order : Addr} {fd_check_order : FuncData} (C_check_order : Callee P w K mg base 2 "check_order" ["many", "order"] (SpV K false S_check_order) f_check_order fd_check_order) {f_ends_of : Addr} {fd_ends_of : FuncData} (C_ends_of : Callee P w K mg base 2 "ends_of" ["jobs", "order"] (SpV K true S_ends_of) f_ends_of fd_ends_of) (m_len : mg "len" = none) : FnOk P w K mg base CX0 3 f fd ["jobs", "order"] (SpV K true S_ends) :=
  by
  have nd := sc_ends.nd
  exact fnV (fr := true) (q := (q_ends S_check_jobs S_check_order S_ends_of)) F sc_ends keeps_ends (fun cdv A outer s H E hr => ⟨_,
 (vss_cons (vs_expr (ve_callK K rfl (fr := false) C_check_jobs.ok hr rfl C_check_jobs.mg C_check_jobs.kp C_check_jobs.bd pass0 (va_cons (ve_var 0) va_nil)))
 (vss_cons (vs_expr (ve_callK K rfl (fr := false) C_check_order.ok hr rfl C_check_order.mg C_check_order.kp C_check_order.bd pass0 (va_cons (ve_callB (md := .val) (r := (rLenK K)) call_len opN_len rfl m_len (by decide +kernel) (va_cons (VE.look (ve_var 0)) va_nil)) (va_cons (ve_var 1) va_nil))))
 (vss_one (vs_retO (ve_callK K rfl (fr := true) C_ends_of.ok hr rfl C_ends_of.mg C_ends_of.kp C_ends_of.bd pass0 (va_cons (ve_var 0) (va_cons (ve_var 1) va_nil)))))))⟩)
theorem ok_weighted {f : Addr} {fd : FuncData} (F : FunD K "weighted" "weighted" (defArgs s_weighted) (defBody s_weighted) (defScope s_weighted) [] [] f fd) {f_check_jobs : Addr} {fd_check_jobs : FuncData} (C_check_jobs : Callee P w K mg base 2 "check_jobs" ["jobs"] (SpV K false S_check_jobs) f_check_jobs fd_check_jobs) {f_check_order : Addr} {fd_check_order : FuncData} (C_check_order : Callee P w K mg base 2 "check_order" ["many", "order"] (SpV K false S_check_order) f_check_order fd_check_order) {f_ends_of : Addr} {fd_ends_of : FuncData} (C_ends_of : Callee P w K mg base 2 "ends_of" ["jobs", "order"] (SpV K true S_ends_of) f_ends_of fd_ends_of) (m_sum : mg "sum" = none) (m_len : mg "len" = none) (m_zip : mg "zip" = none) : FnOk P w K mg base CX0 3 f fd ["jobs", "order"] (SpV K false S_weighted) :=
  by
  have nd := sc_weighted.nd
  exact fnV (fr := false) (q := (q_weighted S_check_jobs S_check_order S_ends_of)) F sc_weighted keeps_weighted (fun cdv A outer s H E hr => ⟨_,
 (vss_cons (vs_expr (ve_callK K rfl (fr := false) C_check_jobs.ok hr rfl C_check_jobs.mg C_check_jobs.kp C_check_jobs.bd pass0 (va_cons (ve_var 0) va_nil)))
 (vss_cons (vs_expr (ve_callK K rfl (fr := false) C_check_order.ok hr rfl C_check_order.mg C_check_order.kp C_check_order.bd pass0 (va_cons (ve_callB (md := .val) (r := (rLenK K)) call_len opN_len rfl m_len (by decide +kernel) (va_cons (VE.look (ve_var 0)) va_nil)) (va_cons (ve_var 1) va_nil))))
 (vss_one (vs_ret (ve_callB (md := .val) (r := (rSum K)) (cr_sum rfl) opN_sum rfl m_sum (by decide +kernel) (va_cons (VE.look (VE.frz (ve_lc (own := [("end", 2), ("job", 3)]) rfl nd (vi_zipK K rfl (md := .val) rfl m_zip (va_cons (VE.frz (ve_callK K rfl (fr := true) C_ends_of.ok hr rfl C_ends_of.mg C_ends_of.kp C_ends_of.bd pass0 (va_cons (ve_var 0) (va_cons (ve_var 1) va_nil)))) (va_cons (ve_var 0) va_nil))) (blkOk_by (own := [("end", 2), ("job", 3)]) (N := N_weighted) (sc := defScope s_weighted) (by decide +kernel)) (fun _ _ _ _ _ => (vg_tupK K rfl rfl (vgs_cons (vg_name 2 nd rfl (by first | exact .inl rfl | exact .inr rfl)) (vgs_cons (vg_name 3 nd rfl (by first | exact .inl rfl | exact .inr rfl)) vgs_nil)))) (fun _ _ _ _ _ => vts_nil) (fun _ _ _ _ _ => (ve_op2 (md := .val) or_mulA op2_mul (VE.look (ve_var 2)) (VE.look (ve_ix (r := rIx K) ix_seq op2_ix (VE.look (ve_var 3)) (VE.look ve_int)))))))) va_nil))))))⟩)
theorem ok_is_wrong {f : Addr} {fd : FuncData} (F : FunD K "is_wrong" "is_wrong" (defArgs s_is_wrong) (defBody s_is_wrong) (defScope s_is_wrong) [] [] f fd) : FnOk P w K mg base CX0 1 f fd ["one", "two"] (SpV K false S_is_wrong) :=
  by
  have nd := sc_is_wrong.nd
  exact fnV (fr := false) (q := q_is_wrong) F sc_is_wrong keeps_is_wrong (fun cdv A outer s H E hr => ⟨_,
 (vss_one (vs_ret (ve_cmp (r := rD oLt K) (or_lt hr.units) (op2_rD oLt_b) (nomark _) (VE.look (ve_op2 (md := .val) or_mulA op2_mul (VE.look (ve_ix (r := rIx K) ix_seq op2_ix (VE.look (ve_var 0)) (VE.look ve_int))) (VE.look (ve_ix (r := rIx K) ix_seq op2_ix (VE.look (ve_var 1)) (VE.look ve_int))))) (VE.look (ve_op2 (md := .val) or_mulA op2_mul (VE.look (ve_ix (r := rIx K) ix_seq op2_ix (VE.look (ve_var 1)) (VE.look ve_int))) (VE.look (ve_ix (r := rIx K) ix_seq op2_ix (VE.look (ve_var 0)) (VE.look ve_int))))))))⟩)
theorem ok_swap {f : Addr} {fd : FuncData} (F : FunD K "swap" "swap" (defArgs s_swap) (defBody s_swap) (defScope s_swap) [] [] f fd) {f_check_jobs : Addr} {fd_check_jobs : FuncData} (C_check_jobs : Callee P w K mg base 2 "check_jobs" ["jobs"] (SpV K false S_check_jobs) f_check_jobs fd_check_jobs) {f_check_order : Addr} {fd_check_order : FuncData} (C_check_order : Callee P w K mg base 2 "check_order" ["many", "order"] (SpV K false S_check_order) f_check_order fd_check_order) {f_is_wrong : Addr} {fd_is_wrong : FuncData} (C_is_wrong : Callee P w K mg base 2 "is_wrong" ["one", "two"] (SpV K false S_is_wrong) f_is_wrong fd_is_wrong) (m_range : mg "range" = none) (m_len : mg "len" = none) : FnOk P w K mg base CX0 3 f fd ["jobs", "order"] (SpV K false S_swap) :=
  by
  have nd := sc_swap.nd
  exact fnV (fr := false) (q := (q_swap S_check_jobs S_check_order S_is_wrong)) F sc_swap keeps_swap (fun cdv A outer s H E hr => ⟨_,
 (vss_cons (vs_expr (ve_callK K rfl (fr := false) C_check_jobs.ok hr rfl C_check_jobs.mg C_check_jobs.kp C_check_jobs.bd pass0 (va_cons (ve_var 0) va_nil)))
 (vss_cons (vs_expr (ve_callK K rfl (fr := false) C_check_order.ok hr rfl C_check_order.mg C_check_order.kp C_check_order.bd pass0 (va_cons (ve_callB (md := .val) (r := (rLenK K)) call_len opN_len rfl m_len (by decide +kernel) (va_cons (VE.look (ve_var 0)) va_nil)) (va_cons (ve_var 1) va_nil))))
 (vss_cons (vs_for PassesOwn.never rfl (vi_range1 rfl m_range (va_cons (VE.look (ve_op2 (md := .val) op_sub op2_sub (VE.look (ve_callB (md := .val) (r := (rLenK K)) call_len opN_len rfl m_len (by decide +kernel) (va_cons (VE.look (ve_var 1)) va_nil))) (VE.look ve_int))) va_nil)) (vg_name 2 nd rfl (by first | exact .inl rfl | exact .inr rfl))
  (vss_one (vs_if (vt_val (ve_callK K rfl (fr := false) C_is_wrong.ok hr rfl C_is_wrong.mg C_is_wrong.kp C_is_wrong.bd pass0 (va_cons (ve_ix (r := rIx K) ix_seq op2_ix (VE.look (ve_var 0)) (VE.look (ve_ix (r := rIx K) ix_seq op2_ix (VE.look (ve_var 1)) (VE.look (ve_var 2))))) (va_cons (ve_ix (r := rIx K) ix_seq op2_ix (VE.look (ve_var 0)) (VE.look (ve_ix (r := rIx K) ix_seq op2_ix (VE.look (ve_var 1)) (VE.look (ve_op2 (md := .val) or_addA op2_add (VE.look (ve_var 2)) (VE.look ve_int)))))) va_nil)))) (vss_one (vs_ret (ve_var 2)))
  vss_nil)))
 (vss_one vs_retNone))))⟩)
theorem ok_least_order {f : Addr} {fd : FuncData} (F : FunD K "least_order" "least_order" (defArgs s_least_order) (defBody s_least_order) (defScope s_least_order) [] [] f fd) {f_check_jobs : Addr} {fd_check_jobs : FuncData} (C_check_jobs : Callee P w K mg base 2 "check_jobs" ["jobs"] (SpV K false S_check_jobs) f_check_jobs fd_check_jobs) {f_is_wrong : Addr} {fd_is_wrong : FuncData} (C_is_wrong : Callee P w K mg base 2 "is_wrong" ["one", "two"] (SpV K false S_is_wrong) f_is_wrong fd_is_wrong) (m_list : mg "list" = none) (m_range : mg "range" = none) (m_len : mg "len" = none) (m_any : mg "any" = none) : FnOk P w K mg base CX0 3 f fd ["jobs"] (SpV K true S_least_order) :=
  by
  have nd := sc_least_order.nd
  exact fnV (fr := true) (q := (q_least_order S_check_jobs S_is_wrong)) F sc_least_order keeps_least_order (fun cdv A outer s H E hr => ⟨_,
 (vss_cons (vs_expr (ve_callK K rfl (fr := false) C_check_jobs.ok hr rfl C_check_jobs.mg C_check_jobs.kp C_check_jobs.bd pass0 (va_cons (ve_var 0) va_nil)))
 (vss_cons (vs_setO 1 nd rfl (by first | exact .inl rfl | exact .inr rfl) (ve_listRg1 rfl rfl m_list rfl m_range (VE.look (ve_callB (md := .val) (r := (rLenK K)) call_len opN_len rfl m_len (by decide +kernel) (va_cons (VE.look (ve_var 0)) va_nil)))))
 (vss_cons (vs_setO 2 nd rfl (by first | exact .inl rfl | exact .inr rfl) (ve_lst va_nil))
 (vss_cons (vs_while PassesOwn.never (vt_cmp (r := rD oGt K) (or_gt hr.units) (op2_rD oGt_b) (nomark _) (VE.look (ve_callB (md := .val) (r := (rLenK K)) call_len opN_len rfl m_len (by decide +kernel) (va_cons (ve_varL 1) va_nil))) (VE.look ve_int))
  (vss_cons (vs_setLc (ps_lc (own := [("k", 4)]) 3 rfl nd rfl rfl (sw_true rfl rfl rfl (by decide +kernel)) (vi_listK K rfl (md := .look) (ve_varL 1)) (blkOk_by (own := [("k", 4)]) (N := N_least_order) (sc := defScope s_least_order) (by decide +kernel)) (fun _ _ _ _ _ => (vg_name 4 nd rfl (by first | exact .inl rfl | exact .inr rfl))) (fun _ _ _ _ _ => (vts_one (vt_not (vt_val (ve_callB (md := .val) (r := (rAny K)) (cr_any rfl) opN_any rfl m_any (by decide +kernel) (va_cons (VE.look (VE.frz (ve_lc (own := [("other", 5)]) rfl nd (vi_listK K rfl (md := .look) (ve_varL 1)) (blkOk_by (own := [("other", 5)]) (N := N_least_order) (by kernel_rfl)) (fun _ _ _ _ _ => (vg_name 5 nd rfl (by first | exact .inl rfl | exact .inr rfl))) (fun _ _ _ _ _ => vts_nil) (fun _ _ _ _ _ => (ve_callK K rfl (fr := false) C_is_wrong.ok hr rfl C_is_wrong.mg C_is_wrong.kp C_is_wrong.bd pass0 (va_cons (ve_ix (r := rIx K) ix_seq op2_ix (VE.look (ve_var 0)) (VE.look (ve_var 4))) (va_cons (ve_ix (r := rIx K) ix_seq op2_ix (VE.look (ve_var 0)) (VE.look (ve_var 5))) va_nil))))))) va_nil)))))) (fun _ _ _ _ _ => (ve_var 4))))
  (vss_cons (vs_meth 2 rfl (by first | exact Or.inl rfl | exact Or.inr (Or.inl rfl)) PySem.F.slot_list_append PySem.F.type_list_append mt_append opM_append (va_cons (ve_ix (r := rIx K) ix_seq op2_ix (VE.look (ve_var 3)) (VE.look ve_int)) va_nil))
  (vss_one (vs_meth 1 rfl (by first | exact Or.inl rfl | exact Or.inr (Or.inl rfl)) PySem.F.slot_list_remove PySem.F.type_list_remove (mt_remD (Room_u100 hr)) opM_remove (va_cons (ve_ix (r := rIx K) ix_seq op2_ix (VE.look (ve_var 3)) (VE.look ve_int)) va_nil))))))
 (vss_one (vs_retV 2))))))⟩)
theorem ok__law_draws {f : Addr} {fd : FuncData} (F : FunD K "_law_draws" "_law_draws" (defArgs s__law_draws) (defBody s__law_draws) (defScope s__law_draws) [] [] f fd) (m_range : mg "range" = none) (m_min : mg "min" = none) (m_abs : mg "abs" = none) (m_len : mg "len" = none) (m_int : mg "int" = none) : FnOk P w K mg base CX0 1 f fd ["script"] (SpScr K true S__law_draws) :=
  by
  have nd := sc__law_draws.nd
  exact fnS (fr := true) (q := q__law_draws) F sc__law_draws (by decide) keeps__law_draws (fun cdv A outer s H E hr => ⟨_,
 (vss_cons (vs_setO 1 nd rfl (by first | exact .inl rfl | exact .inr rfl) (ve_lst va_nil))
 (vss_cons (vs_for PassesOwn.never rfl (vi_range1 rfl m_range (va_cons (VE.look (ve_callB (md := .val) (r := rMin2K K) (call_min2 rfl) opN_min2 rfl m_min (by decide +kernel) (va_cons (VE.look ve_int) (va_cons (VE.look (ve_lenS 0 rfl (by first | exact Or.inl rfl | exact Or.inr (Or.inl rfl)) rfl m_len (by decide +kernel))) va_nil)))) va_nil)) (vg_name 2 nd rfl (by first | exact .inl rfl | exact .inr rfl))
  (vss_cons (vs_set 3 nd rfl (by first | exact .inl rfl | exact .inr rfl) (ve_callB (md := .val) (r := (rAbsK K)) call_abs opN_abs rfl m_abs (by decide +kernel) (va_cons (VE.look (ve_ixS 0 rfl (by first | exact Or.inl rfl | exact Or.inr (Or.inl rfl)) (ve_var 2))) va_nil)))
  (vss_one (vs_if (vt_cmp (r := rD oGe K) (or_ge hr.units) (op2_rD oGe_b) (nomark _) (VE.look (ve_var 3)) (VE.look (ve_op2 (md := .val) op_pow op2_pow (VE.look ve_int) (VE.look ve_int)))) (vss_one (vs_for PassesOwn.never rfl (vi_range1 rfl m_range (va_cons (VE.look ve_int) va_nil)) (vg_name 4 nd rfl (by first | exact .inl rfl | exact .inr rfl))
    (vss_one (vs_if (vt_cmp (r := rD oGt K) (or_gt hr.units) (op2_rD oGt_b) (nomark _) (VE.look (ve_var 3)) (VE.look ve_int)) (vss_cons (vs_meth 1 rfl (by first | exact Or.inl rfl | exact Or.inr (Or.inl rfl)) PySem.F.slot_list_append PySem.F.type_list_append mt_append opM_append (va_cons (ve_op2 (md := .val) op_mod op2_mod (VE.look (ve_callTy (md := .val) (r := (rIntK K)) call_int1 opN_int rfl m_int (by decide +kernel) (va_cons (VE.look (ve_var 3)) va_nil))) (VE.look ve_int)) va_nil))
     (vss_one (vs_set 3 nd rfl (by first | exact .inl rfl | exact .inr rfl) (ve_op2 (md := .val) op_fdiv op2_div (VE.look (ve_var 3)) (VE.look ve_int)))))
    vss_nil))))
  (vss_cons (vs_set 5 nd rfl (by first | exact .inl rfl | exact .inr rfl) (ve_op2 (md := .val) op_mod op2_mod (VE.look (ve_callTy (md := .val) (r := (rIntK K)) call_int1 opN_int rfl m_int (by decide +kernel) (va_cons (VE.look (ve_op2 (md := .val) or_addA op2_add (VE.look (ve_op2 (md := .val) or_mulA op2_mul (VE.look (ve_var 3)) (VE.look ve_int))) (VE.look (ve_op2 (md := .val) or_mulA op2_mul (VE.look (ve_op2 (md := .val) or_addA op2_add (VE.look (ve_var 2)) (VE.look ve_int))) (VE.look ve_int))))) va_nil))) (VE.look ve_int)))
   (vss_cons (vs_set 5 nd rfl (by first | exact .inl rfl | exact .inr rfl) (ve_op2 (md := .val) op_mod op2_mod (VE.look (ve_callTy (md := .val) (r := (rIntK K)) call_int1 opN_int rfl m_int (by decide +kernel) (va_cons (VE.look (ve_op2 (md := .val) or_addA op2_add (VE.look (ve_op2 (md := .val) or_addA op2_add (VE.look (ve_op2 (md := .val) or_mulA op2_mul (VE.look (ve_var 5)) (VE.look ve_int))) (VE.look (ve_op2 (md := .val) or_mulA op2_mul (VE.look ve_int) (VE.look (ve_var 2)))))) (VE.look ve_int))) va_nil))) (VE.look ve_int)))
   (vss_cons (vs_meth 1 rfl (by first | exact Or.inl rfl | exact Or.inr (Or.inl rfl)) PySem.F.slot_list_append PySem.F.type_list_append mt_append opM_append (va_cons (ve_op2 (md := .val) op_mod op2_mod (VE.look (ve_callTy (md := .val) (r := (rIntK K)) call_int1 opN_int rfl m_int (by decide +kernel) (va_cons (VE.look (ve_var 5)) va_nil))) (VE.look ve_int)) va_nil))
   (vss_one (vs_meth 1 rfl (by first | exact Or.inl rfl | exact Or.inr (Or.inl rfl)) PySem.F.slot_list_append PySem.F.type_list_append mt_append opM_append (va_cons (ve_op2 (md := .val) op_mod op2_mod (VE.look (ve_callTy (md := .val) (r := (rIntK K)) call_int1 opN_int rfl m_int (by decide +kernel) (va_cons (VE.look (ve_op2 (md := .val) op_fdiv op2_div (VE.look (ve_var 5)) (VE.look ve_int))) va_nil))) (VE.look ve_int)) va_nil))))))))))
 (vss_one (vs_retV 1))))⟩)
theorem ok__law_mix {f : Addr} {fd : FuncData} (F : FunD K "_law_mix" "_law_mix" (defArgs s__law_mix) (defBody s__law_mix) (defScope s__law_mix) [] [] f fd) (m_len : mg "len" = none) (m_int : mg "int" = none) : FnOk P w K mg base CX0 1 f fd ["draws", "k", "many"] (SpV K false S__law_mix) :=
  by
  have nd := sc__law_mix.nd
  exact fnV (fr := false) (q := q__law_mix) F sc__law_mix keeps__law_mix (fun cdv A outer s H E hr => ⟨_,
 (vss_cons (vs_set 3 nd rfl (by first | exact .inl rfl | exact .inr rfl) ve_int)
 (vss_cons (vs_if (vt_cmp (r := rD oGt K) (or_gt hr.units) (op2_rD oGt_b) (nomark _) (VE.look (ve_callB (md := .val) (r := (rLenK K)) call_len opN_len rfl m_len (by decide +kernel) (va_cons (VE.look (ve_var 0)) va_nil))) (VE.look ve_int)) (vss_one (vs_set 3 nd rfl (by first | exact .inl rfl | exact .inr rfl) (ve_ix (r := rIx K) ix_seq op2_ix (VE.look (ve_var 0)) (VE.look (ve_op2 (md := .val) op_mod op2_mod (VE.look (ve_callTy (md := .val) (r := (rIntK K)) call_int1 opN_int rfl m_int (by decide +kernel) (va_cons (VE.look (ve_var 1)) va_nil))) (VE.look (ve_callB (md := .val) (r := (rLenK K)) call_len opN_len rfl m_len (by decide +kernel) (va_cons (VE.look (ve_var 0)) va_nil))))))))
 vss_nil)
 (vss_cons (vs_if (vt_cmp (r := rD oLt K) (or_lt hr.units) (op2_rD oLt_b) (nomark _) (VE.look (ve_var 1)) (VE.look (ve_callB (md := .val) (r := (rLenK K)) call_len opN_len rfl m_len (by decide +kernel) (va_cons (VE.look (ve_var 0)) va_nil)))) (vss_one (vs_ret (ve_op2 (md := .val) op_mod op2_mod (VE.look (ve_callTy (md := .val) (r := (rIntK K)) call_int1 opN_int rfl m_int (by decide +kernel) (va_cons (VE.look (ve_var 3)) va_nil))) (VE.look (ve_var 2)))))
 vss_nil)
 (vss_one (vs_ret (ve_op2 (md := .val) op_mod op2_mod (VE.look (ve_callTy (md := .val) (r := (rIntK K)) call_int1 opN_int rfl m_int (by decide +kernel) (va_cons (VE.look (ve_op2 (md := .val) op_fdiv op2_div (VE.look (ve_callTy (md := .val) (r := (rIntK K)) call_int1 opN_int rfl m_int (by decide +kernel) (va_cons (VE.look (ve_op2 (md := .val) or_addA op2_add (VE.look (ve_op2 (md := .val) or_mulA op2_mul (VE.look (ve_var 3)) (VE.look ve_int))) (VE.look (ve_op2 (md := .val) or_mulA op2_mul (VE.look (ve_var 1)) (VE.look ve_int))))) va_nil))) (VE.look ve_int))) va_nil))) (VE.look (ve_var 2))))))))⟩)
theorem ok__law_jobs {f : Addr} {fd : FuncData} (F : FunD K "_law_jobs" "_law_jobs" (defArgs s__law_jobs) (defBody s__law_jobs) (defScope s__law_jobs) [] [] f fd) {f__law_mix : Addr} {fd__law_mix : FuncData} (C__law_mix : Callee P w K mg base 1 "_law_mix" ["draws", "k", "many"] (SpV K false S__law_mix) f__law_mix fd__law_mix) (m_range : mg "range" = none) : FnOk P w K mg base CX0 2 f fd ["draws", "k", "most"] (SpV K true S__law_jobs) :=
  by
  have nd := sc__law_jobs.nd
  exact fnV (fr := true) (q := (q__law_jobs S__law_mix)) F sc__law_jobs keeps__law_jobs (fun cdv A outer s H E hr => ⟨_,
 (vss_cons (vs_set 3 nd rfl (by first | exact .inl rfl | exact .inr rfl) (ve_ix (r := rIx K) ix_seq op2_ix (VE.look (VE.frz (ve_lst (va_cons ve_int (va_cons ve_int (va_cons ve_int va_nil)))))) (VE.look (ve_callK K rfl (fr := false) C__law_mix.ok hr rfl C__law_mix.mg C__law_mix.kp C__law_mix.bd pass0 (va_cons (ve_var 0) (va_cons (ve_var 1) (va_cons ve_int va_nil)))))))
 (vss_cons (vs_setO 4 nd rfl (by first | exact .inl rfl | exact .inr rfl) (ve_lst va_nil))
 (vss_cons (vs_for PassesOwn.never rfl (vi_range1 rfl m_range (va_cons (VE.look (ve_op2 (md := .val) or_addA op2_add (VE.look ve_int) (VE.look (ve_callK K rfl (fr := false) C__law_mix.ok hr rfl C__law_mix.mg C__law_mix.kp C__law_mix.bd pass0 (va_cons (ve_var 0) (va_cons (ve_op2 (md := .val) or_addA op2_add (VE.look (ve_var 1)) (VE.look ve_int)) (va_cons (ve_var 2) va_nil))))))) va_nil)) (vg_name 5 nd rfl (by first | exact .inl rfl | exact .inr rfl))
  (vss_cons (vs_par rfl nd rfl rfl (by decide) rfl rfl (va_cons (ve_op2 (md := .val) or_addA op2_add (VE.look ve_int) (VE.look (ve_callK K rfl (fr := false) C__law_mix.ok hr rfl C__law_mix.mg C__law_mix.kp C__law_mix.bd pass0 (va_cons (ve_var 0) (va_cons (ve_op2 (md := .val) or_addA op2_add (VE.look (ve_op2 (md := .val) or_addA op2_add (VE.look (ve_var 1)) (VE.look ve_int))) (VE.look (ve_op2 (md := .val) or_mulA op2_mul (VE.look ve_int) (VE.look (ve_var 5))))) (va_cons (ve_var 3) va_nil)))))) (va_cons (ve_callK K rfl (fr := false) C__law_mix.ok hr rfl C__law_mix.mg C__law_mix.kp C__law_mix.bd pass0 (va_cons (ve_var 0) (va_cons (ve_op2 (md := .val) or_addA op2_add (VE.look (ve_op2 (md := .val) or_addA op2_add (VE.look (ve_var 1)) (VE.look ve_int))) (VE.look (ve_op2 (md := .val) or_mulA op2_mul (VE.look ve_int) (VE.look (ve_var 5))))) (va_cons (ve_op2 (md := .val) or_addA op2_add (VE.look (ve_var 3)) (VE.look ve_int)) va_nil)))) va_nil)) rfl)
  (vss_one (vs_meth 4 rfl (by first | exact Or.inl rfl | exact Or.inr (Or.inl rfl)) PySem.F.slot_list_append PySem.F.type_list_append mt_append opM_append (va_cons (ve_tup (va_cons (ve_var 6) (va_cons (ve_var 7) (va_cons (ve_callK K rfl (fr := false) C__law_mix.ok hr rfl C__law_mix.mg C__law_mix.kp C__law_mix.bd pass0 (va_cons (ve_var 0) (va_cons (ve_op2 (md := .val) or_addA op2_add (VE.look (ve_op2 (md := .val) or_addA op2_add (VE.look (ve_var 1)) (VE.look ve_int))) (VE.look (ve_op2 (md := .val) or_mulA op2_mul (VE.look ve_int) (VE.look (ve_var 5))))) (va_cons (ve_op2 (md := .val) or_mulA op2_mul (VE.look ve_int) (VE.look (ve_var 3))) va_nil)))) va_nil)))) va_nil)))))
 (vss_one (vs_retV 4)))))⟩)
theorem ok__law_orders {f : Addr} {fd : FuncData} (F : FunD K "_law_orders" "_law_orders" (defArgs s__law_orders) (defBody s__law_orders) (defScope s__law_orders) [] [] f fd) (m_range : mg "range" = none) : FnOk P w K mg base CX0 1 f fd ["many"] (SpV K false S__law_orders) :=
  by
  have nd := sc__law_orders.nd
  exact fnV (fr := false) (q := q__law_orders) F sc__law_orders keeps__law_orders (fun cdv A outer s H E hr => ⟨_,
 (vss_cons (vs_set 1 nd rfl (by first | exact .inl rfl | exact .inr rfl) (VE.frz (ve_lst (va_cons (VE.frz (ve_lst va_nil)) va_nil))))
 (vss_cons (vs_for PassesOwn.never rfl (vi_range1 rfl m_range (va_cons (VE.look (ve_var 0)) va_nil)) (vg_name 2 nd rfl (by first | exact .inl rfl | exact .inr rfl))
  (vss_cons (vs_set 3 nd rfl (by first | exact .inl rfl | exact .inr rfl) (VE.frz (ve_lst va_nil)))
  (vss_cons (vs_for PassesOwn.never rfl (vi_listK K rfl (md := .val) (ve_var 1)) (vg_name 4 nd rfl (by first | exact .inl rfl | exact .inr rfl))
   (vss_one (vs_set 3 nd rfl (by first | exact .inl rfl | exact .inr rfl) (ve_op2 (md := .val) or_addA op2_add (VE.look (ve_var 3)) (VE.look (VE.frz (ve_lc (own := [("k", 5)]) rfl nd (vi_range1 rfl m_range (va_cons (VE.look (ve_var 0)) va_nil)) (blkOk_by (own := [("k", 5)]) (N := N__law_orders) (sc := defScope s__law_orders) (by decide +kernel)) (fun _ _ _ _ _ => (vg_name 5 nd rfl (by first | exact .inl rfl | exact .inr rfl))) (fun _ _ _ _ _ => (vts_one (vt_cmp (r := rD oNotIn K) (or_notIn hr.units) (op2_rD oNotIn_b) (by rfl) (VE.look (ve_var 5)) (VE.look (ve_var 4))))) (fun _ _ _ _ _ => (ve_op2 (md := .val) or_addA op2_add (VE.look (ve_var 4)) (VE.look (VE.frz (ve_lst (va_cons (ve_var 5) va_nil)))))))))))))
  (vss_one (vs_set 1 nd rfl (by first | exact .inl rfl | exact .inr rfl) (ve_var 3))))))
 (vss_one (vs_ret (ve_var 1)))))⟩)
theorem ok__law_ends {f : Addr} {fd : FuncData} (F : FunD K "_law_ends" "_law_ends" (defArgs s__law_ends) (defBody s__law_ends) (defScope s__law_ends) [] [] f fd) (m_list : mg "list" = none) (m_range : mg "range" = none) (m_len : mg "len" = none) (m_sum : mg "sum" = none) : FnOk P w K mg base CX0 1 f fd ["jobs", "order"] (SpV K true S__law_ends) :=
  by
  have nd := sc__law_ends.nd
  exact fnV (fr := true) (q := q__law_ends) F sc__law_ends keeps__law_ends (fun cdv A outer s H E hr => ⟨_,
 (vss_cons (vs_setO 2 nd rfl (by first | exact .inl rfl | exact .inr rfl) (ve_callTy (md := .own) (r := (rListK K)) call_list_of opN_list rfl m_list (by decide +kernel) (va_cons (VE.look (ve_var 1)) va_nil)))
 (vss_cons (vs_for PassesOwn.never rfl (vi_range1 rfl m_range (va_cons (VE.look (ve_callB (md := .val) (r := (rLenK K)) call_len opN_len rfl m_len (by decide +kernel) (va_cons (VE.look (ve_var 1)) va_nil))) va_nil)) (vg_name 3 nd rfl (by first | exact .inl rfl | exact .inr rfl))
  (vss_one (vs_setIx 2 rfl (by first | exact Or.inl rfl | exact Or.inr (Or.inl rfl)) (ve_ix (r := rIx K) ix_seq op2_ix (VE.look (ve_var 1)) (VE.look (ve_var 3))) (ve_callB (md := .val) (r := (rSum K)) (cr_sum rfl) opN_sum rfl m_sum (by decide +kernel) (va_cons (VE.look (VE.frz (ve_lc (own := [("k", 4)]) rfl nd (vi_listK K rfl (md := .val) (ve_slice (md := .val) (r := rSlL K) sl_list opS_list (VE.look (ve_var 1)) vo_none (vo_some (ve_op2 (md := .val) or_addA op2_add (VE.look (ve_var 3)) (VE.look ve_int))))) (blkOk_by (own := [("k", 4)]) (N := N__law_ends) (sc := defScope s__law_ends) (by decide +kernel)) (fun _ _ _ _ _ => (vg_name 4 nd rfl (by first | exact .inl rfl | exact .inr rfl))) (fun _ _ _ _ _ => vts_nil) (fun _ _ _ _ _ => (ve_ix (r := rIx K) ix_seq op2_ix (VE.look (ve_ix (r := rIx K) ix_seq op2_ix (VE.look (ve_var 0)) (VE.look (ve_var 4)))) (VE.look ve_int)))))) va_nil)))))
 (vss_one (vs_retV 2))))⟩)
theorem ok__law_drawn_order {f : Addr} {fd : FuncData} (F : FunD K "_law_drawn_order" "_law_drawn_order" (defArgs s__law_drawn_order) (defBody s__law_drawn_order) (defScope s__law_drawn_order) [] [] f fd) {f__law_mix : Addr} {fd__law_mix : FuncData} (C__law_mix : Callee P w K mg base 1 "_law_mix" ["draws", "k", "many"] (SpV K false S__law_mix) f__law_mix fd__law_mix) (m_sorted : mg "sorted" = none) (m_range : mg "range" = none) : FnOk P w K mg base CX0 2 f fd ["draws", "k", "many"] (SpV K true S__law_drawn_order) :=
  by
  have nd := sc__law_drawn_order.nd
  exact fnV (fr := true) (q := (q__law_drawn_order S__law_mix)) F sc__law_drawn_order keeps__law_drawn_order (fun cdv A outer s H E hr => ⟨_,
 (vss_one (vs_retO (ve_lc (own := [("rank", 3), ("job", 4)]) rfl nd (vi_listK K rfl (md := .val) (VE.frz (ve_callB (md := .own) (r := (rData oSorted .own K)) (cr_sortedD (Room_u100 hr)) opN_data rfl m_sorted (by decide +kernel) (va_cons (VE.look (VE.frz (ve_lc (own := [("job", 4)]) rfl nd (vi_range1 rfl m_range (va_cons (VE.look (ve_var 2)) va_nil)) (blkOk_by (own := [("job", 4)]) (N := N__law_drawn_order) (sc := defScope s__law_drawn_order) (by decide +kernel)) (fun _ _ _ _ _ => (vg_name 4 nd rfl (by first | exact .inl rfl | exact .inr rfl))) (fun _ _ _ _ _ => vts_nil) (fun _ _ _ _ _ => (ve_tup (va_cons (ve_callK K rfl (fr := false) C__law_mix.ok hr rfl C__law_mix.mg C__law_mix.kp C__law_mix.bd pass0 (va_cons (ve_var 0) (va_cons (ve_op2 (md := .val) or_addA op2_add (VE.look (ve_var 1)) (VE.look (ve_var 4))) (va_cons ve_int va_nil)))) (va_cons (ve_var 4) va_nil))))))) va_nil)))) (blkOk_by (own := [("rank", 3), ("job", 4)]) (N := N__law_drawn_order) (sc := defScope s__law_drawn_order) (by decide +kernel)) (fun _ _ _ _ _ => (vg_tupK K rfl rfl (vgs_cons (vg_name 3 nd rfl (by first | exact .inl rfl | exact .inr rfl)) (vgs_cons (vg_name 4 nd rfl (by first | exact .inl rfl | exact .inr rfl)) vgs_nil)))) (fun _ _ _ _ _ => vts_nil) (fun _ _ _ _ _ => (ve_var 4)))))⟩)
theorem ok__law_sum {f : Addr} {fd : FuncData} (F : FunD K "_law_sum" "_law_sum" (defArgs s__law_sum) (defBody s__law_sum) (defScope s__law_sum) [] [] f fd) {f__law_ends : Addr} {fd__law_ends : FuncData} (C__law_ends : Callee P w K mg base 1 "_law_ends" ["jobs", "order"] (SpV K true S__law_ends) f__law_ends fd__law_ends) (m_sum : mg "sum" = none) (m_range : mg "range" = none) (m_len : mg "len" = none) : FnOk P w K mg base CX0 2 f fd ["jobs", "order"] (SpV K false S__law_sum) :=
  by
  have nd := sc__law_sum.nd
  exact fnV (fr := false) (q := (q__law_sum S__law_ends)) F sc__law_sum keeps__law_sum (fun cdv A outer s H E hr => ⟨_,
 (vss_cons (vs_set 2 nd rfl (by first | exact .inl rfl | exact .inr rfl) (VE.frz (ve_callK K rfl (fr := true) C__law_ends.ok hr rfl C__law_ends.mg C__law_ends.kp C__law_ends.bd pass0 (va_cons (ve_var 0) (va_cons (ve_var 1) va_nil)))))
 (vss_one (vs_ret (ve_callB (md := .val) (r := (rSum K)) (cr_sum rfl) opN_sum rfl m_sum (by decide +kernel) (va_cons (VE.look (VE.frz (ve_lc (own := [("k", 3)]) rfl nd (vi_range1 rfl m_range (va_cons (VE.look (ve_callB (md := .val) (r := (rLenK K)) call_len opN_len rfl m_len (by decide +kernel) (va_cons (VE.look (ve_var 0)) va_nil))) va_nil)) (blkOk_by (own := [("k", 3)]) (N := N__law_sum) (sc := defScope s__law_sum) (by decide +kernel)) (fun _ _ _ _ _ => (vg_name 3 nd rfl (by first | exact .inl rfl | exact .inr rfl))) (fun _ _ _ _ _ => vts_nil) (fun _ _ _ _ _ => (ve_op2 (md := .val) or_mulA op2_mul (VE.look (ve_ix (r := rIx K) ix_seq op2_ix (VE.look (ve_var 2)) (VE.look (ve_var 3)))) (VE.look (ve_ix (r := rIx K) ix_seq op2_ix (VE.look (ve_ix (r := rIx K) ix_seq op2_ix (VE.look (ve_var 0)) (VE.look (ve_var 3)))) (VE.look ve_int)))))))) va_nil)))))⟩)
theorem ok_law {f : Addr} {fd : FuncData} (F : FunD K "law" "law" (defArgs s_law) (defBody s_law) (defScope s_law) [] [] f fd) {f__law_draws : Addr} {fd__law_draws : FuncData} (C__law_draws : Callee P w K mg base 3 "_law_draws" ["script"] (SpScr K true S__law_draws) f__law_draws fd__law_draws) {f__law_jobs : Addr} {fd__law_jobs : FuncData} (C__law_jobs : Callee P w K mg base 3 "_law_jobs" ["draws", "k", "most"] (SpV K true S__law_jobs) f__law_jobs fd__law_jobs) {f_least_order : Addr} {fd_least_order : FuncData} (C_least_order : Callee P w K mg base 3 "least_order" ["jobs"] (SpV K true S_least_order) f_least_order fd_least_order) {f__law_sum : Addr} {fd__law_sum : FuncData} (C__law_sum : Callee P w K mg base 3 "_law_sum" ["jobs", "order"] (SpV K false S__law_sum) f__law_sum fd__law_sum) {f_ends : Addr} {fd_ends : FuncData} (C_ends : Callee P w K mg base 3 "ends" ["jobs", "order"] (SpV K true S_ends) f_ends fd_ends) {f__law_mix : Addr} {fd__law_mix : FuncData} (C__law_mix : Callee P w K mg base 3 "_law_mix" ["draws", "k", "many"] (SpV K false S__law_mix) f__law_mix fd__law_mix) {f__law_drawn_order : Addr} {fd__law_drawn_order : FuncData} (C__law_drawn_order : Callee P w K mg base 3 "_law_drawn_order" ["draws", "k", "many"] (SpV K true S__law_drawn_order) f__law_drawn_order fd__law_drawn_order) {f__law_orders : Addr} {fd__law_orders : FuncData} (C__law_orders : Callee P w K mg base 3 "_law_orders" ["many"] (SpV K false S__law_orders) f__law_orders fd__law_orders) {f__law_ends : Addr} {fd__law_ends : FuncData} (C__law_ends : Callee P w K mg base 3 "_law_ends" ["jobs", "order"] (SpV K true S__law_ends) f__law_ends fd__law_ends) {f_weighted : Addr} {fd_weighted : FuncData} (C_weighted : Callee P w K mg base 3 "weighted" ["jobs", "order"] (SpV K false S_weighted) f_weighted fd_weighted) {f_swap : Addr} {fd_swap : FuncData} (C_swap : Callee P w K mg base 3 "swap" ["jobs", "order"] (SpV K false S_swap) f_swap fd_swap) (m_range : mg "range" = none) (m_repr : mg "repr" = none) (m_sorted : mg "sorted" = none) (m_list : mg "list" = none) (m_len : mg "len" = none) (room : Room 4 callerA) : RunAt P w K mg base callerA f fd ["script"] (SpScr K false S_law) :=
  by
  have hg : (callerA).guards = some [] := rfl
  have nd := sc_law.nd
  exact lawV (q := (q_law S__law_draws S__law_jobs S_least_order S__law_sum S_ends S__law_mix S__law_drawn_order S__law_orders S__law_ends S_weighted S_swap)) F sc_law (by decide) keeps_law room (fun cdv fr0 z H E hr => ⟨_,
 (vss_cons (vs_set 1 nd rfl (by first | exact .inl rfl | exact .inr rfl) (VE.frz (ve_callS (fr := true) 0 C__law_draws.ok rfl (by first | exact Or.inl rfl | exact Or.inr (Or.inl rfl)) hr rfl C__law_draws.mg C__law_draws.kp C__law_draws.bd pass0)))
 (vss_cons (vs_for PassesOwn.never rfl (vi_range1 rfl m_range (va_cons (VE.look ve_int) va_nil)) (vg_name 2 nd rfl (by first | exact .inl rfl | exact .inr rfl))
  (vss_cons (vs_set 3 nd rfl (by first | exact .inl rfl | exact .inr rfl) (VE.frz (ve_callK K rfl (fr := true) C__law_jobs.ok hr rfl C__law_jobs.mg C__law_jobs.kp C__law_jobs.bd pass0 (va_cons (ve_var 1) (va_cons (ve_op2 (md := .val) or_addA op2_add (VE.look ve_int) (VE.look (ve_op2 (md := .val) or_mulA op2_mul (VE.look ve_int) (VE.look (ve_var 2))))) (va_cons (ve_ix (r := rIx K) ix_seq op2_ix (VE.look (VE.frz (ve_lst (va_cons ve_int (va_cons ve_int va_nil))))) (VE.look (ve_var 2))) va_nil))))))
  (vss_cons (vs_set 4 nd rfl (by first | exact .inl rfl | exact .inr rfl) (ve_callB (md := .val) (r := (rData oRepr .val K)) (cr_repr (Room_u100 hr) hg) opN_data rfl m_repr (by decide +kernel) (va_cons (VE.look (ve_var 3)) va_nil)))
  (vss_cons (vs_setO 5 nd rfl (by first | exact .inl rfl | exact .inr rfl) (ve_callK K rfl (fr := true) C_least_order.ok hr rfl C_least_order.mg C_least_order.kp C_least_order.bd pass0 (va_cons (ve_var 3) va_nil)))
  (vss_cons (vs_if (vt_cmp (r := rD oNe K) (or_ne hr.units) (op2_rD oNe_b) (nomark _) (VE.look (VE.frz (ve_callB (md := .own) (r := (rData oSorted .own K)) (cr_sortedD (Room_u100 hr)) opN_data rfl m_sorted (by decide +kernel) (va_cons (ve_varL 5) va_nil)))) (VE.look (VE.frz (ve_listRg1 rfl rfl m_list rfl m_range (VE.look (ve_callB (md := .val) (r := (rLenK K)) call_len opN_len rfl m_len (by decide +kernel) (va_cons (VE.look (ve_var 3)) va_nil))))))) (vss_one (vs_ret ve_bl))
  vss_nil)
  (vss_cons (vs_set 6 nd rfl (by first | exact .inl rfl | exact .inr rfl) (ve_callLK K rfl (fr := false) C__law_sum.ok hr rfl C__law_sum.mg C__law_sum.kp C__law_sum.bd pass0 (va_cons (VE.look (ve_var 3)) (va_cons (ve_varL 5) va_nil))))
  (vss_cons (vs_lend 5 (vs_if (vt_cmp (r := rD oLt K) (or_lt hr.units) (op2_rD oLt_b) (nomark _) (VE.look (ve_callB (md := .val) (r := (rLenK K)) call_len opN_len rfl m_len (by decide +kernel) (va_cons (VE.look (ve_var 3)) va_nil))) (VE.look ve_int)) (vss_cons (vs_set 8 nd rfl (by first | exact .inl rfl | exact .inr rfl) (VE.frz (ve_callB (md := .own) (r := (rData oSorted .own K)) (cr_sortedD (Room_u100 hr)) opN_data rfl m_sorted (by decide +kernel) (va_cons (VE.look (VE.frz (ve_lc (own := [("order", 9)]) rfl nd (vi_listK K rfl (md := .val) (ve_callK K rfl (fr := false) C__law_orders.ok hr rfl C__law_orders.mg C__law_orders.kp C__law_orders.bd pass0 (va_cons (ve_callB (md := .val) (r := (rLenK K)) call_len opN_len rfl m_len (by decide +kernel) (va_cons (VE.look (ve_var 3)) va_nil)) va_nil))) (blkOk_by (own := [("order", 9)]) (N := N_law) (sc := defScope s_law) (by decide +kernel)) (fun _ _ _ _ _ => (vg_name 9 nd rfl (by first | exact .inl rfl | exact .inr rfl))) (fun _ _ _ _ _ => vts_nil) (fun _ _ _ _ _ => (ve_tup (va_cons (ve_callK K rfl (fr := false) C__law_sum.ok hr rfl C__law_sum.mg C__law_sum.kp C__law_sum.bd pass0 (va_cons (ve_var 3) (va_cons (ve_var 9) va_nil))) (va_cons (ve_var 9) va_nil))))))) va_nil))))
   (vss_one (vs_if (vt_cmp (r := rD oNe K) (or_ne hr.units) (op2_rD oNe_b) (nomark _) (VE.look (ve_tup (va_cons (ve_var 6) (va_cons (ve_var 5) va_nil)))) (VE.look (ve_ix (r := rIx K) ix_seq op2_ix (VE.look (ve_var 8)) (VE.look ve_int)))) (vss_one (vs_ret ve_bl))
   vss_nil)))
  vss_nil))
  (vss_cons (vs_lend 5 (vs_for PassesOwn.never rfl (vi_range1 rfl m_range (va_cons (VE.look ve_int) va_nil)) (vg_name 7 nd rfl (by first | exact .inl rfl | exact .inr rfl))
   (vss_cons (vs_set 9 nd rfl (by first | exact .inl rfl | exact .inr rfl) (ve_ix (r := rIx K) ix_seq op2_ix (VE.look (VE.frz (ve_lst (va_cons (VE.frz (ve_callK K rfl (fr := true) C__law_drawn_order.ok hr rfl C__law_drawn_order.mg C__law_drawn_order.kp C__law_drawn_order.bd pass0 (va_cons (ve_var 1) (va_cons (ve_op2 (md := .val) or_addA op2_add (VE.look (ve_op2 (md := .val) or_addA op2_add (VE.look ve_int) (VE.look (ve_op2 (md := .val) or_mulA op2_mul (VE.look ve_int) (VE.look (ve_var 2)))))) (VE.look (ve_op2 (md := .val) or_mulA op2_mul (VE.look ve_int) (VE.look (ve_var 7))))) (va_cons (ve_callB (md := .val) (r := (rLenK K)) call_len opN_len rfl m_len (by decide +kernel) (va_cons (VE.look (ve_var 3)) va_nil)) va_nil))))) (va_cons (ve_var 5) (va_cons (VE.frz (ve_revK K rfl (VE.look (ve_var 5)))) (va_cons (ve_var 5) (va_cons (ve_var 5) va_nil)))))))) (VE.look (ve_var 7))))
   (vss_cons (vs_if (VW.vt (vw_and (vt_cmp (r := rD oGt K) (or_gt hr.units) (op2_rD oGt_b) (nomark _) (VE.look (ve_var 7)) (VE.look ve_int)) (vw_and1 (vt_cmp (r := rD oGt K) (or_gt hr.units) (op2_rD oGt_b) (nomark _) (VE.look (ve_callB (md := .val) (r := (rLenK K)) call_len opN_len rfl m_len (by decide +kernel) (va_cons (VE.look (ve_var 9)) va_nil))) (VE.look ve_int))))) (vss_cons (vs_set 13 nd rfl (by first | exact .inl rfl | exact .inr rfl) (ve_callK K rfl (fr := false) C__law_mix.ok hr rfl C__law_mix.mg C__law_mix.kp C__law_mix.bd pass0 (va_cons (ve_var 1) (va_cons (ve_op2 (md := .val) or_addA op2_add (VE.look (ve_op2 (md := .val) or_addA op2_add (VE.look ve_int) (VE.look (ve_var 7)))) (VE.look (ve_op2 (md := .val) or_mulA op2_mul (VE.look ve_int) (VE.look (ve_var 2))))) (va_cons (ve_op2 (md := .val) op_sub op2_sub (VE.look (ve_callB (md := .val) (r := (rLenK K)) call_len opN_len rfl m_len (by decide +kernel) (va_cons (VE.look (ve_var 9)) va_nil))) (VE.look ve_int)) va_nil)))))
    (vss_one (vs_set 9 nd rfl (by first | exact .inl rfl | exact .inr rfl) (ve_op2 (md := .val) or_addA op2_add (VE.look (ve_op2 (md := .val) or_addA op2_add (VE.look (ve_slice (md := .val) (r := rSlL K) sl_list opS_list (VE.look (ve_var 9)) vo_none (vo_some (ve_var 13)))) (VE.look (VE.frz (ve_lst (va_cons (ve_ix (r := rIx K) ix_seq op2_ix (VE.look (ve_var 9)) (VE.look (ve_op2 (md := .val) or_addA op2_add (VE.look (ve_var 13)) (VE.look ve_int)))) (va_cons (ve_ix (r := rIx K) ix_seq op2_ix (VE.look (ve_var 9)) (VE.look (ve_var 13))) va_nil))))))) (VE.look (ve_slice (md := .val) (r := rSlL K) sl_list opS_list (VE.look (ve_var 9)) (vo_some (ve_op2 (md := .val) or_addA op2_add (VE.look (ve_var 13)) (VE.look ve_int))) vo_none))))))
   vss_nil)
   (vss_cons (vs_setO 10 nd rfl (by first | exact .inl rfl | exact .inr rfl) (ve_callK K rfl (fr := true) C_ends.ok hr rfl C_ends.mg C_ends.kp C_ends.bd pass0 (va_cons (ve_var 3) (va_cons (ve_var 9) va_nil))))
   (vss_cons (vs_set 11 nd rfl (by first | exact .inl rfl | exact .inr rfl) (ve_callK K rfl (fr := false) C__law_sum.ok hr rfl C__law_sum.mg C__law_sum.kp C__law_sum.bd pass0 (va_cons (ve_var 3) (va_cons (ve_var 9) va_nil))))
   (vss_cons (vs_if (VW.vt (vw_or (vt_cmp (r := rD oNe K) (or_ne hr.units) (op2_rD oNe_b) (nomark _) (VE.look (ve_callB (md := .val) (r := (rData oRepr .val K)) (cr_repr (Room_u100 hr) hg) opN_data rfl m_repr (by decide +kernel) (va_cons (ve_varL 10) va_nil))) (VE.look (ve_callB (md := .val) (r := (rData oRepr .val K)) (cr_repr (Room_u100 hr) hg) opN_data rfl m_repr (by decide +kernel) (va_cons (VE.look (VE.frz (ve_callK K rfl (fr := true) C__law_ends.ok hr rfl C__law_ends.mg C__law_ends.kp C__law_ends.bd pass0 (va_cons (ve_var 3) (va_cons (ve_var 9) va_nil))))) va_nil)))) (vw_or (vt_cmp (r := rD oNe K) (or_ne hr.units) (op2_rD oNe_b) (nomark _) (VE.look (ve_callB (md := .val) (r := (rData oRepr .val K)) (cr_repr (Room_u100 hr) hg) opN_data rfl m_repr (by decide +kernel) (va_cons (VE.look (ve_callK K rfl (fr := false) C_weighted.ok hr rfl C_weighted.mg C_weighted.kp C_weighted.bd pass0 (va_cons (ve_var 3) (va_cons (ve_var 9) va_nil)))) va_nil))) (VE.look (ve_callB (md := .val) (r := (rData oRepr .val K)) (cr_repr (Room_u100 hr) hg) opN_data rfl m_repr (by decide +kernel) (va_cons (VE.look (ve_var 11)) va_nil)))) (vw_or1 (vt_cmp (r := rD oLt K) (or_lt hr.units) (op2_rD oLt_b) (nomark _) (VE.look (ve_var 11)) (VE.look (ve_var 6))))))) (vss_one (vs_ret ve_bl))
   vss_nil)
   (vss_cons (vs_setO 12 nd rfl (by first | exact .inl rfl | exact .inr rfl) (ve_lst va_nil))
   (vss_cons (vs_for PassesOwn.never rfl (vi_range1 rfl m_range (va_cons (VE.look (ve_op2 (md := .val) op_sub op2_sub (VE.look (ve_callB (md := .val) (r := (rLenK K)) call_len opN_len rfl m_len (by decide +kernel) (va_cons (VE.look (ve_var 9)) va_nil))) (VE.look ve_int))) va_nil)) (vg_name 13 nd rfl (by first | exact .inl rfl | exact .inr rfl))
    (vss_cons (vs_set 15 nd rfl (by first | exact .inl rfl | exact .inr rfl) (ve_op2 (md := .val) or_addA op2_add (VE.look (ve_op2 (md := .val) or_addA op2_add (VE.look (ve_slice (md := .val) (r := rSlL K) sl_list opS_list (VE.look (ve_var 9)) vo_none (vo_some (ve_var 13)))) (VE.look (VE.frz (ve_lst (va_cons (ve_ix (r := rIx K) ix_seq op2_ix (VE.look (ve_var 9)) (VE.look (ve_op2 (md := .val) or_addA op2_add (VE.look (ve_var 13)) (VE.look ve_int)))) (va_cons (ve_ix (r := rIx K) ix_seq op2_ix (VE.look (ve_var 9)) (VE.look (ve_var 13))) va_nil))))))) (VE.look (ve_slice (md := .val) (r := rSlL K) sl_list opS_list (VE.look (ve_var 9)) (vo_some (ve_op2 (md := .val) or_addA op2_add (VE.look (ve_var 13)) (VE.look ve_int))) vo_none))))
    (vss_one (vs_meth 12 rfl (by first | exact Or.inl rfl | exact Or.inr (Or.inl rfl)) PySem.F.slot_list_append PySem.F.type_list_append mt_append opM_append (va_cons (ve_callK K rfl (fr := false) C__law_sum.ok hr rfl C__law_sum.mg C__law_sum.kp C__law_sum.bd pass0 (va_cons (ve_var 3) (va_cons (ve_var 15) va_nil))) va_nil)))))
   (vss_cons (vs_setLc (ps_lc (own := [("place", 13)]) 14 rfl nd rfl rfl (sw_true rfl rfl rfl (by decide +kernel)) (vi_range1 rfl m_range (va_cons (VE.look (ve_callB (md := .val) (r := (rLenK K)) call_len opN_len rfl m_len (by decide +kernel) (va_cons (ve_varL 12) va_nil))) va_nil)) (blkOk_by (own := [("place", 13)]) (N := N_law) (sc := defScope s_law) (by decide +kernel)) (fun _ _ _ _ _ => (vg_name 13 nd rfl (by first | exact .inl rfl | exact .inr rfl))) (fun _ _ _ _ _ => (vts_one (vt_cmp (r := rD oLt K) (or_lt hr.units) (op2_rD oLt_b) (nomark _) (VE.look (ve_ix (r := rIx K) ix_seq op2_ix (ve_varL 12) (VE.look (ve_var 13)))) (VE.look (ve_var 11))))) (fun _ _ _ _ _ => (ve_var 13))))
   (vss_cons (vs_if (VW.vt (vw_or (vt_cmp (r := rD oNe K) (or_ne hr.units) (op2_rD oNe_b) (nomark _) (VE.look (ve_callB (md := .val) (r := (rData oRepr .val K)) (cr_repr (Room_u100 hr) hg) opN_data rfl m_repr (by decide +kernel) (va_cons (VE.look (ve_callK K rfl (fr := false) C_swap.ok hr rfl C_swap.mg C_swap.kp C_swap.bd pass0 (va_cons (ve_var 3) (va_cons (ve_var 9) va_nil)))) va_nil))) (VE.look (ve_callB (md := .val) (r := (rData oRepr .val K)) (cr_repr (Room_u100 hr) hg) opN_data rfl m_repr (by decide +kernel) (va_cons (VE.look (ve_ix (r := rIx K) ix_seq op2_ix (VE.look (ve_op2 (md := .val) or_addA op2_add (VE.look (ve_var 14)) (VE.look (VE.frz (ve_lst (va_cons ve_non va_nil)))))) (VE.look ve_int))) va_nil)))) (vw_or1 (vt_cmp (r := rD oNe K) (or_ne hr.units) (op2_rD oNe_b) (nomark _) (VE.look (ve_cmp (r := rD oEq K) (or_eq hr.units) (op2_rD oEq_b) (nomark _) (VE.look (ve_var 14)) (VE.look (VE.frz (ve_lst va_nil))))) (VE.look (ve_cmp (r := rD oEq K) (or_eq hr.units) (op2_rD oEq_b) (nomark _) (VE.look (ve_var 11)) (VE.look (ve_var 6)))))))) (vss_one (vs_ret ve_bl))
   vss_nil)
   (vss_one (vs_meth 10 rfl (by first | exact Or.inl rfl | exact Or.inr (Or.inl rfl)) PySem.F.slot_list_append PySem.F.type_list_append mt_append opM_append (va_cons ve_int va_nil))))))))))))))
  (vss_cons (vs_meth 5 rfl (by first | exact Or.inl rfl | exact Or.inr (Or.inl rfl)) PySem.F.slot_list_append PySem.F.type_list_append mt_append opM_append (va_cons ve_int va_nil))
  (vss_one (vs_if (VW.vt (vw_or (vt_cmp (r := rD oNe K) (or_ne hr.units) (op2_rD oNe_b) (nomark _) (VE.look (VE.frz (ve_callK K rfl (fr := true) C_least_order.ok hr rfl C_least_order.mg C_least_order.kp C_least_order.bd pass0 (va_cons (ve_var 3) va_nil)))) (VE.look (ve_slice (md := .val) (r := rSlL K) sl_list opS_list (ve_varL 5) vo_none (vo_some (ve_un un_neg op1_neg (VE.look ve_int)))))) (vw_or1 (vt_cmp (r := rD oNe K) (or_ne hr.units) (op2_rD oNe_b) (nomark _) (VE.look (ve_callB (md := .val) (r := (rData oRepr .val K)) (cr_repr (Room_u100 hr) hg) opN_data rfl m_repr (by decide +kernel) (va_cons (VE.look (ve_var 3)) va_nil))) (VE.look (ve_var 4)))))) (vss_one (vs_ret ve_bl))
  vss_nil)))))))))))
 (vss_one (vs_ret ve_bl))))⟩)
end
/-! the head -/
def d_is_job : He.DefD := ⟨("is_job", none), "is_job", "is_job", defArgs s_is_job, defBody s_is_job, defScope s_is_job, [], []⟩
def d_check_jobs : He.DefD := ⟨("check_jobs", none), "check_jobs", "check_jobs", defArgs s_check_jobs, defBody s_check_jobs, defScope s_check_jobs, [], []⟩
def d_check_order : He.DefD := ⟨("check_order", none), "check_order", "check_order", defArgs s_check_order, defBody s_check_order, defScope s_check_order, [], []⟩
def d_ends_of : He.DefD := ⟨("ends_of", none), "ends_of", "ends_of", defArgs s_ends_of, defBody s_ends_of, defScope s_ends_of, [], []⟩
def d_ends : He.DefD := ⟨("ends", none), "ends", "ends", defArgs s_ends, defBody s_ends, defScope s_ends, [], []⟩
def d_weighted : He.DefD := ⟨("weighted", none), "weighted", "weighted", defArgs s_weighted, defBody s_weighted, defScope s_weighted, [], []⟩
def d_is_wrong : He.DefD := ⟨("is_wrong", none), "is_wrong", "is_wrong", defArgs s_is_wrong, defBody s_is_wrong, defScope s_is_wrong, [], []⟩
def d_swap : He.DefD := ⟨("swap", none), "swap", "swap", defArgs s_swap, defBody s_swap, defScope s_swap, [], []⟩
def d_least_order : He.DefD := ⟨("least_order", none), "least_order", "least_order", defArgs s_least_order, defBody s_least_order, defScope s_least_order, [], []⟩
def d__law_draws : He.DefD := ⟨("_law_draws", none), "_law_draws", "_law_draws", defArgs s__law_draws, defBody s__law_draws, defScope s__law_draws, [], []⟩
def d__law_mix : He.DefD := ⟨("_law_mix", none), "_law_mix", "_law_mix", defArgs s__law_mix, defBody s__law_mix, defScope s__law_mix, [], []⟩
def d__law_jobs : He.DefD := ⟨("_law_jobs", none), "_law_jobs", "_law_jobs", defArgs s__law_jobs, defBody s__law_jobs, defScope s__law_jobs, [], []⟩
def d__law_orders : He.DefD := ⟨("_law_orders", none), "_law_orders", "_law_orders", defArgs s__law_orders, defBody s__law_orders, defScope s__law_orders, [], []⟩
def d__law_ends : He.DefD := ⟨("_law_ends", none), "_law_ends", "_law_ends", defArgs s__law_ends, defBody s__law_ends, defScope s__law_ends, [], []⟩
def d__law_drawn_order : He.DefD := ⟨("_law_drawn_order", none), "_law_drawn_order", "_law_drawn_order", defArgs s__law_drawn_order, defBody s__law_drawn_order, defScope s__law_drawn_order, [], []⟩
def d__law_sum : He.DefD := ⟨("_law_sum", none), "_law_sum", "_law_sum", defArgs s__law_sum, defBody s__law_sum, defScope s__law_sum, [], []⟩
def d_law : He.DefD := ⟨("law", none), "law", "law", defArgs s_law, defBody s_law, defScope s_law, [], []⟩
def fn : List He.DefD := [d_is_job, d_check_jobs, d_check_order, d_ends_of, d_ends, d_weighted, d_is_wrong, d_swap, d_least_order, d__law_draws, d__law_mix, d__law_jobs, d__law_orders, d__law_ends, d__law_drawn_order, d__law_sum, d_law]
def fa : List He.Fa := [.glo "is_job", .int "MOST_PAGES" 100, .int "MOST_WEIGHT" 100, .int "MOST_DATE" 1000, .glo "check_jobs", .int "MOST_JOBS" 10, .free "enumerate", .free "len", .glo "check_order", .free "sorted", .free "list", .free "range", .glo "ends_of", .glo "ends", .glo "weighted", .free "sum", .free "zip", .glo "is_wrong", .glo "swap", .glo "least_order", .free "any", .glo "_law_draws", .free "min", .free "abs", .free "int", .glo "_law_mix", .glo "_law_jobs", .glo "_law_orders", .glo "_law_ends", .glo "_law_drawn_order", .glo "_law_sum", .glo "law", .free "repr"]
def loose : List Str := (["PageError", "WrongSize", "BadJob", "BadOrder", "MOST_JOBS", "MOST_PAGES", "MOST_WEIGHT", "MOST_DATE", "is_job", "check_jobs", "check_order", "ends_of", "ends", "weighted", "is_wrong", "swap", "least_order", "_law_draws", "_law_mix", "_law_jobs", "_law_orders", "_law_ends", "_law_drawn_order", "_law_sum"] : List Str)
abbrev R : PySem.W.OpenRow := PySem.W.OpenLaw.row PySem.Challenge.rw_printstack_k32_whole_orders_by_weights
abbrev hk : PySem.W.Hook := He.hookD 4 fa fn
def ob (s : PySem.W.SharedT) : He.AlD := He.obsDG 4 fa fn (HandSHeadRun.getT s)
theorem ob_eq (s : PySem.W.SharedT) : ob s = hk.obs s.abs := He.obsDG_eq (HandSHeadRun.getT_eq s)
theorem run (w : World) : HandSHeadRun.RunEq R (PySem.W.view R.prog [27]) hk ob 4000 loose w := by
  intro os
  kernel_rfl
theorem facts {P : Program} {w : World} {K : PySem.W.Frag} {h : Heap} {mg : Str → Option Value} {f : Addr} (X : K.In h) (G : h.Ns mainGlobals mg) (hfa : mg ("law" : Str) = some (.ref f)) (c : He.SaysD fa fn K) :
    ∃ fd : FuncData, (∀ (s : Shared) (v : Value), BindsTo s fd ⟨[v], []⟩ [("script", v)]) ∧ ∀ base : Heap, K.In base → base.Ns mainGlobals mg → RunAt P w K mg base callerA f fd ["script"] (SpScr K false S_law) := by
  obtain ⟨fd_is_job, F_is_job⟩ := c.def_ 0 (d := d_is_job) rfl
  obtain ⟨fd_check_jobs, F_check_jobs⟩ := c.def_ 1 (d := d_check_jobs) rfl
  obtain ⟨fd_check_order, F_check_order⟩ := c.def_ 2 (d := d_check_order) rfl
  obtain ⟨fd_ends_of, F_ends_of⟩ := c.def_ 3 (d := d_ends_of) rfl
  obtain ⟨fd_ends, F_ends⟩ := c.def_ 4 (d := d_ends) rfl
  obtain ⟨fd_weighted, F_weighted⟩ := c.def_ 5 (d := d_weighted) rfl
  obtain ⟨fd_is_wrong, F_is_wrong⟩ := c.def_ 6 (d := d_is_wrong) rfl
  obtain ⟨fd_swap, F_swap⟩ := c.def_ 7 (d := d_swap) rfl
  obtain ⟨fd_least_order, F_least_order⟩ := c.def_ 8 (d := d_least_order) rfl
  obtain ⟨fd__law_draws, F__law_draws⟩ := c.def_ 9 (d := d__law_draws) rfl
  obtain ⟨fd__law_mix, F__law_mix⟩ := c.def_ 10 (d := d__law_mix) rfl
  obtain ⟨fd__law_jobs, F__law_jobs⟩ := c.def_ 11 (d := d__law_jobs) rfl
  obtain ⟨fd__law_orders, F__law_orders⟩ := c.def_ 12 (d := d__law_orders) rfl
  obtain ⟨fd__law_ends, F__law_ends⟩ := c.def_ 13 (d := d__law_ends) rfl
  obtain ⟨fd__law_drawn_order, F__law_drawn_order⟩ := c.def_ 14 (d := d__law_drawn_order) rfl
  obtain ⟨fd__law_sum, F__law_sum⟩ := c.def_ 15 (d := d__law_sum) rfl
  obtain ⟨fd_law, F_law⟩ := c.def_ 16 (d := d_law) rfl
  have G_is_job := He.glo_ok X G (c.fact 0 (f := .glo "is_job") rfl)
  obtain ⟨u_MOST_PAGES, g_MOST_PAGES⟩ := He.int_ok X G (c.fact 1 (f := .int "MOST_PAGES" 100) rfl)
  obtain ⟨u_MOST_WEIGHT, g_MOST_WEIGHT⟩ := He.int_ok X G (c.fact 2 (f := .int "MOST_WEIGHT" 100) rfl)
  obtain ⟨u_MOST_DATE, g_MOST_DATE⟩ := He.int_ok X G (c.fact 3 (f := .int "MOST_DATE" 1000) rfl)
  have G_check_jobs := He.glo_ok X G (c.fact 4 (f := .glo "check_jobs") rfl)
  obtain ⟨u_MOST_JOBS, g_MOST_JOBS⟩ := He.int_ok X G (c.fact 5 (f := .int "MOST_JOBS" 10) rfl)
  have m_enumerate := He.free_ok X G (c.fact 6 (f := .free "enumerate") rfl)
  have m_len := He.free_ok X G (c.fact 7 (f := .free "len") rfl)
  have G_check_order := He.glo_ok X G (c.fact 8 (f := .glo "check_order") rfl)
  have m_sorted := He.free_ok X G (c.fact 9 (f := .free "sorted") rfl)
  have m_list := He.free_ok X G (c.fact 10 (f := .free "list") rfl)
  have m_range := He.free_ok X G (c.fact 11 (f := .free "range") rfl)
  have G_ends_of := He.glo_ok X G (c.fact 12 (f := .glo "ends_of") rfl)
  have G_ends := He.glo_ok X G (c.fact 13 (f := .glo "ends") rfl)
  have G_weighted := He.glo_ok X G (c.fact 14 (f := .glo "weighted") rfl)
  have m_sum := He.free_ok X G (c.fact 15 (f := .free "sum") rfl)
  have m_zip := He.free_ok X G (c.fact 16 (f := .free "zip") rfl)
  have G_is_wrong := He.glo_ok X G (c.fact 17 (f := .glo "is_wrong") rfl)
  have G_swap := He.glo_ok X G (c.fact 18 (f := .glo "swap") rfl)
  have G_least_order := He.glo_ok X G (c.fact 19 (f := .glo "least_order") rfl)
  have m_any := He.free_ok X G (c.fact 20 (f := .free "any") rfl)
  have G__law_draws := He.glo_ok X G (c.fact 21 (f := .glo "_law_draws") rfl)
  have m_min := He.free_ok X G (c.fact 22 (f := .free "min") rfl)
  have m_abs := He.free_ok X G (c.fact 23 (f := .free "abs") rfl)
  have m_int := He.free_ok X G (c.fact 24 (f := .free "int") rfl)
  have G__law_mix := He.glo_ok X G (c.fact 25 (f := .glo "_law_mix") rfl)
  have G__law_jobs := He.glo_ok X G (c.fact 26 (f := .glo "_law_jobs") rfl)
  have G__law_orders := He.glo_ok X G (c.fact 27 (f := .glo "_law_orders") rfl)
  have G__law_ends := He.glo_ok X G (c.fact 28 (f := .glo "_law_ends") rfl)
  have G__law_drawn_order := He.glo_ok X G (c.fact 29 (f := .glo "_law_drawn_order") rfl)
  have G__law_sum := He.glo_ok X G (c.fact 30 (f := .glo "_law_sum") rfl)
  have G_law := He.glo_ok X G (c.fact 31 (f := .glo "law") rfl)
  have m_repr := He.free_ok X G (c.fact 32 (f := .free "repr") rfl)
  have e := hfa.symm.trans G_law
  cases e
  have b_is_job := FunD.bindsN (ps := ["job"]) F_is_job fun _ _ _ _ _ _ us hl => match us, hl with | [_], _ => rfl
  have b_check_jobs := FunD.bindsN (ps := ["jobs"]) F_check_jobs fun _ _ _ _ _ _ us hl => match us, hl with | [_], _ => rfl
  have b_check_order := FunD.bindsN (ps := ["many", "order"]) F_check_order fun _ _ _ _ _ _ us hl => match us, hl with | [_, _], _ => rfl
  have b_ends_of := FunD.bindsN (ps := ["jobs", "order"]) F_ends_of fun _ _ _ _ _ _ us hl => match us, hl with | [_, _], _ => rfl
  have b_ends := FunD.bindsN (ps := ["jobs", "order"]) F_ends fun _ _ _ _ _ _ us hl => match us, hl with | [_, _], _ => rfl
  have b_weighted := FunD.bindsN (ps := ["jobs", "order"]) F_weighted fun _ _ _ _ _ _ us hl => match us, hl with | [_, _], _ => rfl
  have b_is_wrong := FunD.bindsN (ps := ["one", "two"]) F_is_wrong fun _ _ _ _ _ _ us hl => match us, hl with | [_, _], _ => rfl
  have b_swap := FunD.bindsN (ps := ["jobs", "order"]) F_swap fun _ _ _ _ _ _ us hl => match us, hl with | [_, _], _ => rfl
  have b_least_order := FunD.bindsN (ps := ["jobs"]) F_least_order fun _ _ _ _ _ _ us hl => match us, hl with | [_], _ => rfl
  have b__law_draws := FunD.bindsN (ps := ["script"]) F__law_draws fun _ _ _ _ _ _ us hl => match us, hl with | [_], _ => rfl
  have b__law_mix := FunD.bindsN (ps := ["draws", "k", "many"]) F__law_mix fun _ _ _ _ _ _ us hl => match us, hl with | [_, _, _], _ => rfl
  have b__law_jobs := FunD.bindsN (ps := ["draws", "k", "most"]) F__law_jobs fun _ _ _ _ _ _ us hl => match us, hl with | [_, _, _], _ => rfl
  have b__law_orders := FunD.bindsN (ps := ["many"]) F__law_orders fun _ _ _ _ _ _ us hl => match us, hl with | [_], _ => rfl
  have b__law_ends := FunD.bindsN (ps := ["jobs", "order"]) F__law_ends fun _ _ _ _ _ _ us hl => match us, hl with | [_, _], _ => rfl
  have b__law_drawn_order := FunD.bindsN (ps := ["draws", "k", "many"]) F__law_drawn_order fun _ _ _ _ _ _ us hl => match us, hl with | [_, _, _], _ => rfl
  have b__law_sum := FunD.bindsN (ps := ["jobs", "order"]) F__law_sum fun _ _ _ _ _ _ us hl => match us, hl with | [_, _], _ => rfl
  have b_law := FunD.bindsA (ps := ["script"]) F_law fun _ _ _ _ _ _ us hl => match us, hl with | [_], _ => rfl
  refine ⟨fd_law, fun s v => b_law s [v] rfl, fun base _ _ => ?_⟩
  have C_is_job : Callee P w K mg base 1 "is_job" ["job"] (SpV K false S_is_job) _ fd_is_job := ⟨ok_is_job F_is_job g_MOST_PAGES g_MOST_WEIGHT g_MOST_DATE, G_is_job, F_is_job.kp, b_is_job⟩
  have C_check_jobs : Callee P w K mg base 2 "check_jobs" ["jobs"] (SpV K false S_check_jobs) _ fd_check_jobs := ⟨ok_check_jobs F_check_jobs (C_is_job.mono (by decide)) g_MOST_JOBS m_enumerate m_len, G_check_jobs, F_check_jobs.kp, b_check_jobs⟩
  have C_check_order : Callee P w K mg base 1 "check_order" ["many", "order"] (SpV K false S_check_order) _ fd_check_order := ⟨ok_check_order F_check_order m_sorted m_list m_range, G_check_order, F_check_order.kp, b_check_order⟩
  have C_ends_of : Callee P w K mg base 1 "ends_of" ["jobs", "order"] (SpV K true S_ends_of) _ fd_ends_of := ⟨ok_ends_of F_ends_of m_len, G_ends_of, F_ends_of.kp, b_ends_of⟩
  have C_ends : Callee P w K mg base 3 "ends" ["jobs", "order"] (SpV K true S_ends) _ fd_ends := ⟨ok_ends F_ends (C_check_jobs.mono (by decide)) (C_check_order.mono (by decide)) (C_ends_of.mono (by decide)) m_len, G_ends, F_ends.kp, b_ends⟩
  have C_weighted : Callee P w K mg base 3 "weighted" ["jobs", "order"] (SpV K false S_weighted) _ fd_weighted := ⟨ok_weighted F_weighted (C_check_jobs.mono (by decide)) (C_check_order.mono (by decide)) (C_ends_of.mono (by decide)) m_sum m_len m_zip, G_weighted, F_weighted.kp, b_weighted⟩
  have C_is_wrong : Callee P w K mg base 1 "is_wrong" ["one", "two"] (SpV K false S_is_wrong) _ fd_is_wrong := ⟨ok_is_wrong F_is_wrong, G_is_wrong, F_is_wrong.kp, b_is_wrong⟩
  have C_swap : Callee P w K mg base 3 "swap" ["jobs", "order"] (SpV K false S_swap) _ fd_swap := ⟨ok_swap F_swap (C_check_jobs.mono (by decide)) (C_check_order.mono (by decide)) (C_is_wrong.mono (by decide)) m_range m_len, G_swap, F_swap.kp, b_swap⟩
  have C_least_order : Callee P w K mg base 3 "least_order" ["jobs"] (SpV K true S_least_order) _ fd_least_order := ⟨ok_least_order F_least_order (C_check_jobs.mono (by decide)) (C_is_wrong.mono (by decide)) m_list m_range m_len m_any, G_least_order, F_least_order.kp, b_least_order⟩
  have C__law_draws : Callee P w K mg base 1 "_law_draws" ["script"] (SpScr K true S__law_draws) _ fd__law_draws := ⟨ok__law_draws F__law_draws m_range m_min m_abs m_len m_int, G__law_draws, F__law_draws.kp, b__law_draws⟩
  have C__law_mix : Callee P w K mg base 1 "_law_mix" ["draws", "k", "many"] (SpV K false S__law_mix) _ fd__law_mix := ⟨ok__law_mix F__law_mix m_len m_int, G__law_mix, F__law_mix.kp, b__law_mix⟩
  have C__law_jobs : Callee P w K mg base 2 "_law_jobs" ["draws", "k", "most"] (SpV K true S__law_jobs) _ fd__law_jobs := ⟨ok__law_jobs F__law_jobs (C__law_mix.mono (by decide)) m_range, G__law_jobs, F__law_jobs.kp, b__law_jobs⟩
  have C__law_orders : Callee P w K mg base 1 "_law_orders" ["many"] (SpV K false S__law_orders) _ fd__law_orders := ⟨ok__law_orders F__law_orders m_range, G__law_orders, F__law_orders.kp, b__law_orders⟩
  have C__law_ends : Callee P w K mg base 1 "_law_ends" ["jobs", "order"] (SpV K true S__law_ends) _ fd__law_ends := ⟨ok__law_ends F__law_ends m_list m_range m_len m_sum, G__law_ends, F__law_ends.kp, b__law_ends⟩
  have C__law_drawn_order : Callee P w K mg base 2 "_law_drawn_order" ["draws", "k", "many"] (SpV K true S__law_drawn_order) _ fd__law_drawn_order := ⟨ok__law_drawn_order F__law_drawn_order (C__law_mix.mono (by decide)) m_sorted m_range, G__law_drawn_order, F__law_drawn_order.kp, b__law_drawn_order⟩
  have C__law_sum : Callee P w K mg base 2 "_law_sum" ["jobs", "order"] (SpV K false S__law_sum) _ fd__law_sum := ⟨ok__law_sum F__law_sum (C__law_ends.mono (by decide)) m_sum m_range m_len, G__law_sum, F__law_sum.kp, b__law_sum⟩
  exact ok_law F_law (C__law_draws.mono (by decide)) (C__law_jobs.mono (by decide)) (C_least_order.mono (by decide)) (C__law_sum.mono (by decide)) (C_ends.mono (by decide)) (C__law_mix.mono (by decide)) (C__law_drawn_order.mono (by decide)) (C__law_orders.mono (by decide)) (C__law_ends.mono (by decide)) (C_weighted.mono (by decide)) (C_swap.mono (by decide)) m_range m_repr m_sorted m_list m_len ⟨rfl, by decide, by decide⟩
end P32
open PySem PySem.W PySem.Calls PyProof.Rows
theorem PySem.Challenge.cw_printstack_k32_whole_orders_by_weights_holds : PySem.Challenge.rw_printstack_k32_whole_orders_by_weights.Holds := by
  w_on; o_law
  refine HandSHeadRun.head_any (r := OpenLaw.row PySem.Challenge.rw_printstack_k32_whole_orders_by_weights) (q := view (OpenLaw.row PySem.Challenge.rw_printstack_k32_whole_orders_by_weights).prog [27]) (H := P32.hk) (ob := P32.ob) (M := 4000) (loose := P32.loose) (d := HandSHeadRun.topDef (OpenLaw.row PySem.Challenge.rw_printstack_k32_whole_orders_by_weights).prog 27) (kwd := []) P32.ob_eq
    (by kernel_rfl) (fun s => by kernel_rfl) P32.run (by kernel_rfl) (by kernel_rfl) (by kernel_rfl) (by rfl) (by first | assumption | decide +kernel) (by decide +kernel) ⟨rfl, rfl, rfl, rfl, rfl, by decide +kernel⟩ ?hw ?hc
  case hw => w_witness2
  case hc =>
    refine VL.walk_law (l := PySem.Challenge.rw_printstack_k32_whole_orders_by_weights) (n := 63) (x := "script") rfl (by decide) (by kernel_rfl) ?F
    intro w mg fa h Y G hmg0
    obtain ⟨K, KX, c⟩ := Y
    have hmg : mg ("law" : PySem.Str) = some (.ref fa) := by
      have e : (HandSHeadRun.topDef (OpenLaw.row PySem.Challenge.rw_printstack_k32_whole_orders_by_weights).prog 27).name = ("law" : PySem.Str) := by kernel_rfl
      rw [← e]
      exact hmg0
    obtain ⟨fd, hb, hF⟩ := P32.facts (P := (PySem.Challenge.rw_printstack_k32_whole_orders_by_weights).prog) (w := w) KX G hmg c
    exact ⟨K, fd, VL.SpScr K false P32.S_law, KX, hb, fun H a ns hl ho hS => VL.want_law P32.law_true H a ns hl ho hS, hF⟩
