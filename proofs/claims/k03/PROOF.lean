import PyProof.Rows.All
import Wide.All
import OpenK.AllK
import Wide.FinOn
import HandS.ForMost
import HandS.ForExc
import HandS.Defaults
import HandS.Wide
import HandS.IsInst
import HandS.Zip
import HandS.Evl
import HandS.Head0
import HandS.Head1
import HandS.Head2
import HandS.HeadEnd
import HandS.HeadHook1
import HandS.HeadHook2
import HandS.TupAny
import HandS.TupMul
import HandS.NoneIn
import KE.GoesEnum
import KE.GoesMore
import HandS.ExcOwn
import PySem.Challenge.RW_gridbases_k03_whole_vectors
set_option Elab.async false
set_option linter.all false
set_option maxRecDepth 100000
set_option maxHeartbeats 0
namespace ZL
open PySem PySem.Spec PyProof.Rows L2
/-! ### data without a heap -/
inductive D where
  | non | bl (b : Bool) | int (i : Int) | str (s : Str) | tup (xs : List D) | lst (xs : List D) | obj (a : Addr)
/-- what a mutable object holds -/
inductive Ob where
  | lst (xs : List D)
  | ins (C : Addr) (fs : List (Str × D))
abbrev Rho := List (Option D)
abbrev Mu := Addr → Option Ob
def mupd (μ : Mu) (a : Addr) (o : Ob) : Mu := fun b => if b = a then some o else μ b
@[simp] theorem mupd_same {μ : Mu} {a : Addr} {o : Ob} : mupd μ a o a = some o := by unfold mupd; rw [if_pos rfl]
theorem mupd_ne {μ : Mu} {a b : Addr} {o : Ob} (h : b ≠ a) : mupd μ a o b = μ b := by unfold mupd; rw [if_neg h]
@[simp] theorem mupd_mupd {μ : Mu} {a : Addr} {o u : Ob} : mupd (mupd μ a o) a u = mupd μ a u := by
  funext b; unfold mupd; split <;> rfl
theorem mupd_self {μ : Mu} {a : Addr} {o : Ob} (h : μ a = some o) : mupd μ a o = μ := by
  funext b
  by_cases e : b = a
  · subst e; rw [mupd_same, h]
  · rw [mupd_ne e]
def merase (μ : Mu) (a : Addr) : Mu := fun b => if b = a then none else μ b
theorem merase_new {μ : Mu} {a : Addr} {o : Ob} (h : μ a = none) : merase (mupd μ a o) a = μ := by
  funext b
  unfold merase mupd
  by_cases e : b = a
  · subst e; rw [if_pos rfl, h]
  · rw [if_neg e, if_neg e]
def Sub (μ ν : Mu) : Prop := ∀ a o, μ a = some o → ν a = some o
theorem Sub.refl (μ : Mu) : Sub μ μ := fun _ _ h => h
theorem Sub.trans {a b c : Mu} (h : Sub a b) (g : Sub b c) : Sub a c := fun x o e => g x o (h x o e)
theorem Sub.new {μ : Mu} {a : Addr} {o : Ob} (h : μ a = none) : Sub μ (mupd μ a o) := fun x u e => by
  rw [mupd_ne]
  · exact e
  · intro z; subst z; rw [h] at e; cases e
mutual
inductive Is (K : PySem.W.Frag) (G : Hp) : V → D → Prop
  | non : Is K G .non .non
  | bl (b : Bool) : Is K G (.bl b) (.bl b)
  | int (i : Int) : Is K G (.int i) (.int i)
  | str (s : Str) : Is K G (.str s) (.str s)
  | tup {a : Addr} {xs : List V} {ds : List D} : SqT K G a xs → xs.length ≤ sizeLine → IsAll K G xs ds → Is K G (.ref a) (.tup ds)
  | lst {a : Addr} {xs : List V} {ds : List D} : SqL K G a xs → xs.length ≤ sizeLine → IsAll K G xs ds → Is K G (.ref a) (.lst ds)
  | obj (a : Addr) : Is K G (.ref a) (.obj a)
inductive IsAll (K : PySem.W.Frag) (G : Hp) : List V → List D → Prop
  | nil : IsAll K G [] []
  | cons {v : V} {vs : List V} {d : D} {ds : List D} : Is K G v d → IsAll K G vs ds → IsAll K G (v :: vs) (d :: ds)
end
abbrev Ex := Evl.Ex
section
variable {K : PySem.W.Frag} {G G' H H' : Hp}
mutual
theorem Is.mono (e : Ex G G') : ∀ {v : V} {d : D}, Is K G v d → Is K G' v d
  | _, _, .non => .non
  | _, _, .bl b => .bl b
  | _, _, .int i => .int i
  | _, _, .str s => .str s
  | _, _, .tup h z t => .tup (Evl.ex_t e h) z (IsAll.mono e t)
  | _, _, .lst h z t => .lst (Evl.ex_l e h) z (IsAll.mono e t)
  | _, _, .obj a => .obj a
theorem IsAll.mono (e : Ex G G') : ∀ {vs : List V} {ds : List D}, IsAll K G vs ds → IsAll K G' vs ds
  | _, _, .nil => .nil
  | _, _, .cons h t => .cons (Is.mono e h) (IsAll.mono e t)
end
theorem IsAll.length : ∀ {vs : List V} {ds : List D}, IsAll K G vs ds → vs.length = ds.length
  | _, _, .nil => rfl
  | _, _, .cons _ t => by rw [List.length_cons, List.length_cons, IsAll.length t]
theorem IsAll.get : ∀ {vs : List V} {ds : List D} {i : Nat} {d : D}, IsAll K G vs ds → ds[i]? = some d → ∃ v, vs[i]? = some v ∧ Is K G v d
  | _, _, i, d, .nil, e => by simp at e
  | _, _, 0, d, .cons h _, e => by simp at e; subst e; exact ⟨_, rfl, h⟩
  | _, _, i + 1, d, .cons _ t, e => by
    obtain ⟨v, h1, h2⟩ := IsAll.get (i := i) (d := d) t (by simpa using e)
    exact ⟨v, by simpa using h1, h2⟩
theorem IsAll.append : ∀ {vs ws : List V} {ds es : List D}, IsAll K G vs ds → IsAll K G ws es → IsAll K G (vs ++ ws) (ds ++ es)
  | _, _, _, _, .nil, s => s
  | _, _, _, _, .cons h t, s => .cons h (IsAll.append t s)
theorem IsAll.take : ∀ {vs : List V} {ds : List D} (n : Nat), IsAll K G vs ds → IsAll K G (vs.take n) (ds.take n)
  | _, _, 0, _ => .nil
  | _, _, _ + 1, .nil => .nil
  | _, _, n + 1, .cons h t => .cons h (IsAll.take n t)
theorem IsAll.drop : ∀ {vs : List V} {ds : List D} (n : Nat), IsAll K G vs ds → IsAll K G (vs.drop n) (ds.drop n)
  | _, _, 0, t => t
  | _, _, _ + 1, .nil => .nil
  | _, _, n + 1, .cons _ t => IsAll.drop n t
theorem IsAll.set {x : V} {d : D} (h : Is K G x d) : ∀ {vs : List V} {ds : List D} (i : Nat), IsAll K G vs ds → IsAll K G (vs.set i x) (ds.set i d)
  | _, _, _, .nil => .nil
  | _, _, 0, .cons _ t => .cons h t
  | _, _, i + 1, .cons g t => .cons g (IsAll.set h i t)
theorem IsAll.one {x : V} {d : D} (h : Is K G x d) : IsAll K G [x] [d] := .cons h .nil
theorem IsAll.reverse : ∀ {vs : List V} {ds : List D}, IsAll K G vs ds → IsAll K G vs.reverse ds.reverse
  | _, _, .nil => .nil
  | _, _, .cons h t => by
    rw [List.reverse_cons, List.reverse_cons]
    exact IsAll.append (IsAll.reverse t) (IsAll.one h)
theorem IsAll.rep {vs : List V} {ds : List D} (h : IsAll K G vs ds) : ∀ k : Nat, IsAll K G (List.replicate k vs).flatten (List.replicate k ds).flatten
  | 0 => .nil
  | k + 1 => by
    rw [List.replicate_succ, List.replicate_succ, List.flatten_cons, List.flatten_cons]
    exact IsAll.append h (IsAll.rep h k)
theorem IsAll.ints : ∀ {vs : List V} {ns : List Int}, IsAll K G vs (ns.map D.int) → vs = ns.map V.int
  | _, [], .nil => rfl
  | _, n :: ns, .cons (.int _) t => by rw [List.map_cons, IsAll.ints t]
theorem IsAll.bls : ∀ {vs : List V} {ns : List Bool}, IsAll K G vs (ns.map D.bl) → vs = ns.map V.bl
  | _, [], .nil => rfl
  | _, n :: ns, .cons (.bl _) t => by rw [List.map_cons, IsAll.bls t]
theorem IsAll.strs : ∀ {vs : List V} {ns : List Str}, IsAll K G vs (ns.map D.str) → vs = ns.map V.str
  | _, [], .nil => rfl
  | _, n :: ns, .cons (.str _) t => by rw [List.map_cons, IsAll.strs t]
theorem isAll_ints : ∀ (ns : List Int), IsAll K G (ns.map V.int) (ns.map D.int)
  | [] => .nil
  | n :: ns => .cons (.int n) (isAll_ints ns)
end
/-! ### the state -/
inductive ObIs (K : PySem.W.Frag) (G H : Hp) (a : Addr) : Ob → Prop
  | lst {xs : List V} {ds : List D} : H a = some (.lst xs) → xs.length ≤ sizeLine → IsAll K G xs ds → ObIs K G H a (.lst ds)
  | ins {C dx : Addr} {ks : List Str} {xs : List V} {ds : List D} : H a = some (.ins C dx (ks.zip xs)) → ks.length = xs.length → IsAll K G xs ds → ObIs K G H a (.ins C (ks.zip ds))
/-- what must last: a heap, and objects that may change elsewhere but are left alone here -/
structure Bs where
  hp : Hp
  fr : Mu
structure Rep (K : PySem.W.Frag) (B : Bs) (μ : Mu) (G H : Hp) : Prop where
  ba : Ex B.hp G
  ex : Ex G H
  mu : ∀ a o, μ a = some o → (G a = none ∧ B.fr a = none) ∧ ObIs K G H a o
  fr : ∀ a o, B.fr a = some o → G a = none ∧ ObIs K G H a o
structure RepS (K : PySem.W.Frag) (ρ : Rho) (σ : L2.St) (G : Hp) : Prop where
  len : ρ.length = σ.length
  at_ : ∀ (i : Nat) (d : D), ρ[i]? = some (some d) → ∃ v, σ[i]? = some (some v) ∧ Is K G v d
section
variable {K : PySem.W.Frag} {B : Bs} {G G' H H' : Hp} {μ ν : Mu} {ρ : Rho} {σ : L2.St}
theorem ObIs.there {a : Addr} {o : Ob} (h : ObIs K G H a o) : ∃ u, H a = some u := by
  cases h with
  | lst h _ _ => exact ⟨_, h⟩
  | ins h _ _ => exact ⟨_, h⟩
theorem ObIs.mono {a : Addr} {o : Ob} (e : Ex G G') (k : H' a = H a) (h : ObIs K G H a o) : ObIs K G' H' a o := by
  cases h with
  | lst h z t => exact .lst (k.trans h) z (t.mono e)
  | ins h z t => exact .ins (k.trans h) z (t.mono e)
theorem RepS.mono (e : Ex G G') (h : RepS K ρ σ G) : RepS K ρ σ G' := ⟨h.len, fun i d q => let ⟨v, h1, h2⟩ := h.at_ i d q; ⟨v, h1, h2.mono e⟩⟩
theorem RepS.set {d : D} {v : V} (i : Nat) (h : RepS K ρ σ G) (r : Is K G v d) : RepS K (ρ.set i (some d)) (σ.set i (some v)) G := by
  refine ⟨by rw [List.length_set, List.length_set]; exact h.len, fun j e q => ?_⟩
  by_cases hj : i = j
  · subst hj
    by_cases hl : i < ρ.length
    · rw [List.getElem?_set_self hl] at q
      cases q
      exact ⟨v, List.getElem?_set_self (by rw [← h.len]; exact hl), r⟩
    · rw [List.getElem?_eq_none (by rw [List.length_set]; omega)] at q
      cases q
  · rw [List.getElem?_set_ne hj] at q
    obtain ⟨w, h1, h2⟩ := h.at_ j e q
    exact ⟨w, by rw [List.getElem?_set_ne hj]; exact h1, h2⟩
@[simp] def zwipe (ρ : Rho) : List Nat → Rho
  | [] => ρ
  | i :: is => (zwipe ρ is).set i none
theorem RepS.wipe (h : RepS K ρ σ G) : ∀ vs : List Nat, RepS K (zwipe ρ vs) (L2.wipe σ vs) G
  | [] => h
  | i :: is => by
    have ih := RepS.wipe h is
    refine ⟨by unfold zwipe L2.wipe; rw [List.length_set, List.length_set]; exact ih.len, fun j e q => ?_⟩
    unfold zwipe at q
    unfold L2.wipe
    by_cases hj : i = j
    · subst hj
      by_cases hl : i < (zwipe ρ is).length
      · rw [List.getElem?_set_self hl] at q
        cases q
      · rw [List.getElem?_eq_none (by rw [List.length_set]; omega)] at q
        cases q
    · rw [List.getElem?_set_ne hj] at q
      obtain ⟨w, h1, h2⟩ := ih.at_ j e q
      exact ⟨w, by rw [List.getElem?_set_ne hj]; exact h1, h2⟩
theorem Rep.fresh (h : Rep K B μ G H) {p : Addr} (n : H p = none) : G p = none ∧ μ p = none ∧ B.fr p = none := by
  refine ⟨Evl.fresh_back h.ex n, ?_, ?_⟩
  · cases q : μ p with
    | none => rfl
    | some o =>
      obtain ⟨u, e⟩ := (h.mu p o q).2.there
      rw [e] at n; cases n
  · cases q : B.fr p with
    | none => rfl
    | some o =>
      obtain ⟨u, e⟩ := (h.fr p o q).2.there
      rw [e] at n; cases n
/-- a new object that never changes -/
theorem Rep.val (h : Rep K B μ G H) {p : Addr} {o : HO} (n : H p = none) : Rep K B μ (upd G p o) (upd H p o) ∧ Ex G (upd G p o) := by
  have e : Ex G (upd G p o) := Evl.Ex.new (h.fresh n).1
  refine ⟨⟨h.ba.trans e, fun a u q => ?_, fun a u q => ?_, fun a u q => ?_⟩, e⟩
  · by_cases z : a = p
    · subst z; rw [upd_same] at q ⊢; exact q
    · rw [upd_ne z] at q ⊢; exact h.ex a u q
  · obtain ⟨⟨h1, h3⟩, h2⟩ := h.mu a u q
    have z : a ≠ p := fun z => by subst z; rw [(h.fresh n).2.1] at q; cases q
    exact ⟨⟨by rw [upd_ne z]; exact h1, h3⟩, h2.mono e (upd_ne z)⟩
  · obtain ⟨h1, h2⟩ := h.fr a u q
    have z : a ≠ p := fun z => by subst z; rw [(h.fresh n).2.2] at q; cases q
    exact ⟨by rw [upd_ne z]; exact h1, h2.mono e (upd_ne z)⟩
/-- a new object that may change -/
theorem Rep.newM (h : Rep K B μ G H) {p : Addr} {xs : List V} {ds : List D} (n : H p = none) (hz : xs.length ≤ sizeLine) (t : IsAll K G xs ds) : Rep K B (mupd μ p (.lst ds)) G (upd H p (.lst xs)) := by
  refine ⟨h.ba, fun a u q => ?_, fun a u q => ?_, fun a u q => ?_⟩
  · rw [upd_ne (ne_of_none (h.ex a u q) n)]; exact h.ex a u q
  · by_cases z : a = p
    · subst z; rw [mupd_same] at q; cases q
      exact ⟨⟨(h.fresh n).1, (h.fresh n).2.2⟩, .lst upd_same hz t⟩
    · rw [mupd_ne z] at q
      obtain ⟨h1, h2⟩ := h.mu a u q
      exact ⟨h1, h2.mono (Evl.Ex.refl G) (upd_ne z)⟩
  · obtain ⟨h1, h2⟩ := h.fr a u q
    have z : a ≠ p := fun z => by subst z; rw [(h.fresh n).2.2] at q; cases q
    exact ⟨h1, h2.mono (Evl.Ex.refl G) (upd_ne z)⟩
/-- an object that may change is written -/
theorem Rep.write (h : Rep K B μ G H) {p : Addr} {o : Ob} {xs : List V} {ds : List D} (n : μ p = some o) (hz : xs.length ≤ sizeLine) (t : IsAll K G xs ds) : Rep K B (mupd μ p (.lst ds)) G (upd H p (.lst xs)) := by
  obtain ⟨⟨g, gf⟩, _⟩ := h.mu p o n
  refine ⟨h.ba, fun a u q => ?_, fun a u q => ?_, fun a u q => ?_⟩
  · have z : a ≠ p := fun z => by subst z; rw [g] at q; cases q
    rw [upd_ne z]; exact h.ex a u q
  · by_cases z : a = p
    · subst z; rw [mupd_same] at q; cases q
      exact ⟨⟨g, gf⟩, .lst upd_same hz t⟩
    · rw [mupd_ne z] at q
      obtain ⟨h1, h2⟩ := h.mu a u q
      exact ⟨h1, h2.mono (Evl.Ex.refl G) (upd_ne z)⟩
  · obtain ⟨h1, h2⟩ := h.fr a u q
    have z : a ≠ p := fun z => by subst z; rw [gf] at q; cases q
    exact ⟨h1, h2.mono (Evl.Ex.refl G) (upd_ne z)⟩
theorem Rep.sub (h : Rep K B μ G H) (s : Sub ν μ) : Rep K B ν G H := ⟨h.ba, h.ex, fun a o q => h.mu a o (s a o q), h.fr⟩
/-- an object that may change is so no more -/
theorem Rep.freeze (h : Rep K B μ G H) {p : Addr} {ds : List D} (n : μ p = some (.lst ds)) : ∃ G', Rep K B (merase μ p) G' H ∧ Ex G G' ∧ Is K G' (.ref p) (.lst ds) := by
  obtain ⟨⟨g, gf⟩, o⟩ := h.mu p _ n
  cases o with
  | @lst xs _ hp hz t =>
    have e : Ex G (upd G p (.lst xs)) := Evl.Ex.new g
    refine ⟨upd G p (.lst xs), ⟨h.ba.trans e, fun a u q => ?_, fun a u q => ?_, fun a u q => ?_⟩, e, .lst (Evl.sq_of upd_same) hz (t.mono e)⟩
    · by_cases z : a = p
      · subst z; rw [upd_same] at q; cases q; exact hp
      · rw [upd_ne z] at q; exact h.ex a u q
    · have z : a ≠ p := fun z => by unfold merase at q; rw [if_pos z] at q; cases q
      unfold merase at q
      rw [if_neg z] at q
      obtain ⟨⟨h1, h3⟩, h2⟩ := h.mu a u q
      exact ⟨⟨by rw [upd_ne z]; exact h1, h3⟩, h2.mono e rfl⟩
    · obtain ⟨h1, h2⟩ := h.fr a u q
      have z : a ≠ p := fun z => by subst z; rw [gf] at q; cases q
      exact ⟨by rw [upd_ne z]; exact h1, h2.mono e rfl⟩
/-- what is left alone is taken back, as a value or as an object that may change -/
def Bs.with (B : Bs) (p : Addr) (ds : List D) : Bs := { B with fr := mupd B.fr p (.lst ds) }
theorem Rep.hide (h : Rep K B μ G H) {p : Addr} {xs : List V} {ds : List D} (n : H p = none) (hz : xs.length ≤ sizeLine) (t : IsAll K G xs ds) : Rep K (B.with p ds) μ G (upd H p (.lst xs)) := by
  refine ⟨h.ba, fun a u q => ?_, fun a u q => ?_, fun a u q => ?_⟩
  · rw [upd_ne (ne_of_none (h.ex a u q) n)]; exact h.ex a u q
  · obtain ⟨⟨h1, h3⟩, h2⟩ := h.mu a u q
    have z : a ≠ p := fun z => by subst z; rw [(h.fresh n).2.1] at q; cases q
    exact ⟨⟨h1, by show mupd B.fr p _ a = none; rw [mupd_ne z]; exact h3⟩, h2.mono (Evl.Ex.refl G) (upd_ne z)⟩
  · by_cases z : a = p
    · subst z
      have q : mupd B.fr a (.lst ds) a = some u := q
      rw [mupd_same] at q; cases q
      exact ⟨(h.fresh n).1, .lst upd_same hz t⟩
    · have q : mupd B.fr p (.lst ds) a = some u := q
      rw [mupd_ne z] at q
      obtain ⟨h1, h2⟩ := h.fr a u q
      exact ⟨h1, h2.mono (Evl.Ex.refl G) (upd_ne z)⟩
theorem Rep.hidden {p : Addr} {ds : List D} (h : Rep K (B.with p ds) μ G H) : ∃ xs, H p = some (.lst xs) ∧ xs.length ≤ sizeLine ∧ IsAll K G xs ds ∧ G p = none ∧ μ p = none := by
  obtain ⟨g, o⟩ := h.fr p (.lst ds) mupd_same
  cases o with
  | lst e z t =>
    refine ⟨_, e, z, t, g, ?_⟩
    cases q : μ p with
    | none => rfl
    | some o =>
      have h3 : mupd B.fr p (.lst ds) p = none := (h.mu p o q).1.2
      rw [mupd_same] at h3; cases h3
theorem Rep.hideSet {p : Addr} {ds es : List D} {ys : List V} (h : Rep K (B.with p ds) μ G H) (hz : ys.length ≤ sizeLine) (t : IsAll K G ys es) : Rep K (B.with p es) μ G (upd H p (.lst ys)) := by
  obtain ⟨xs, e, _, _, g, gm⟩ := h.hidden
  refine ⟨h.ba, fun a u q => ?_, fun a u q => ?_, fun a u q => ?_⟩
  · have z : a ≠ p := fun z => by subst z; rw [g] at q; cases q
    rw [upd_ne z]; exact h.ex a u q
  · obtain ⟨⟨h1, h3⟩, h2⟩ := h.mu a u q
    have z : a ≠ p := fun z => by subst z; rw [gm] at q; cases q
    have h3 : mupd B.fr p (.lst ds) a = none := h3
    rw [mupd_ne z] at h3
    exact ⟨⟨h1, by show mupd B.fr p _ a = none; rw [mupd_ne z]; exact h3⟩, h2.mono (Evl.Ex.refl G) (upd_ne z)⟩
  · by_cases z : a = p
    · subst z
      have q : mupd B.fr a (.lst es) a = some u := q
      rw [mupd_same] at q; cases q
      exact ⟨g, .lst upd_same hz t⟩
    · have q : mupd B.fr p (.lst es) a = some u := q
      rw [mupd_ne z] at q
      obtain ⟨h1, h2⟩ := h.fr a u (by show mupd B.fr p _ a = some u; rw [mupd_ne z]; exact q)
      exact ⟨h1, h2.mono (Evl.Ex.refl G) (upd_ne z)⟩
/-- told again: fn was none of B's -/
theorem Rep.showV {p : Addr} {ds : List D} (n : B.fr p = none) (h : Rep K (B.with p ds) μ G H) : ∃ G', Rep K B μ G' H ∧ Ex G G' ∧ Is K G' (.ref p) (.lst ds) := by
  obtain ⟨xs, e, hz, t, g, gm⟩ := h.hidden
  have ex : Ex G (upd G p (.lst xs)) := Evl.Ex.new g
  refine ⟨upd G p (.lst xs), ⟨h.ba.trans ex, fun a u q => ?_, fun a u q => ?_, fun a u q => ?_⟩, ex, .lst (Evl.sq_of upd_same) hz (t.mono ex)⟩
  · by_cases z : a = p
    · subst z; rw [upd_same] at q; cases q; exact e
    · rw [upd_ne z] at q; exact h.ex a u q
  · obtain ⟨⟨h1, h3⟩, h2⟩ := h.mu a u q
    have z : a ≠ p := fun z => by subst z; rw [gm] at q; cases q
    have h3 : mupd B.fr p (.lst ds) a = none := h3
    rw [mupd_ne z] at h3
    exact ⟨⟨by rw [upd_ne z]; exact h1, h3⟩, h2.mono ex rfl⟩
  · have z : a ≠ p := fun z => by subst z; rw [n] at q; cases q
    obtain ⟨h1, h2⟩ := h.fr a u (by show mupd B.fr p _ a = some u; rw [mupd_ne z]; exact q)
    exact ⟨by rw [upd_ne z]; exact h1, h2.mono ex rfl⟩
theorem Rep.showM {p : Addr} {ds : List D} (n : B.fr p = none) (h : Rep K (B.with p ds) μ G H) : μ p = none ∧ Rep K B (mupd μ p (.lst ds)) G H := by
  obtain ⟨xs, e, hz, t, g, gm⟩ := h.hidden
  refine ⟨gm, h.ba, h.ex, fun a u q => ?_, fun a u q => ?_⟩
  · by_cases z : a = p
    · subst z
      rw [mupd_same] at q; cases q
      exact ⟨⟨g, n⟩, .lst e hz t⟩
    · rw [mupd_ne z] at q
      obtain ⟨⟨h1, h3⟩, h2⟩ := h.mu a u q
      have h3 : mupd B.fr p (.lst ds) a = none := h3
      rw [mupd_ne z] at h3
      exact ⟨⟨h1, h3⟩, h2⟩
  · have z : a ≠ p := fun z => by subst z; rw [n] at q; cases q
    exact h.fr a u (by show mupd B.fr p _ a = some u; rw [mupd_ne z]; exact q)
end
/-! ### readings without a heap -/
abbrev ZQ := D → Mu → Prop
abbrev ZT := Rho → Mu → ZQ → Prop
abbrev ZB := Rho → Mu → (Bool → Mu → Prop) → Prop
abbrev ZA := Rho → Mu → (List D → Mu → Prop) → Prop
structure ZE where
  nx : Rho → Mu → Prop
  rt : ZQ
  bk : Rho → Mu → Prop := fun _ _ => False
  ct : Rho → Mu → Prop := fun _ _ => False
abbrev ZS := ZE → Rho → Mu → Prop
abbrev ZX := Str → Mu → Prop
section
variable (K : PySem.W.Frag) (B : Bs)
def low (G : Hp) (Q : ZQ) : VK := fun v H => ∃ d μ G', Ex G G' ∧ Rep K B μ G' H ∧ Is K G' v d ∧ Q d μ
def lowB (G : Hp) (Q : Bool → Mu → Prop) : Bool → Hp → Prop := fun b H => ∃ μ G', Ex G G' ∧ Rep K B μ G' H ∧ Q b μ
def lowA (G : Hp) (Q : List D → Mu → Prop) : List V → Hp → Prop := fun vs H => ∃ ds μ G', Ex G G' ∧ Rep K B μ G' H ∧ IsAll K G' vs ds ∧ Q ds μ
def lowS (G : Hp) (Q : Rho → Mu → Prop) : L2.St → Hp → Prop := fun σ H => ∃ ρ μ G', Ex G G' ∧ RepS K ρ σ G' ∧ Rep K B μ G' H ∧ Q ρ μ
def lowX (E : ZX) : XK := fun cls d H => d = none ∧ ∃ x μ G', cls = .ref (He.ga K x) ∧ Rep K B μ G' H ∧ E x μ
def zl (t : ZT) : TE := fun σ H Q' => ∃ ρ μ G Q, RepS K ρ σ G ∧ Rep K B μ G H ∧ t ρ μ Q ∧ ∀ v H', low K B G Q v H' → Q' v H'
def zb (t : ZB) : TT := fun σ H Q' => ∃ ρ μ G Q, RepS K ρ σ G ∧ Rep K B μ G H ∧ t ρ μ Q ∧ ∀ v H', lowB K B G Q v H' → Q' v H'
def za (t : ZA) : TA := fun σ H Q' => ∃ ρ μ G Q, RepS K ρ σ G ∧ Rep K B μ G H ∧ t ρ μ Q ∧ ∀ v H', lowA K B G Q v H' → Q' v H'
structure EndsOk (G : Hp) (Z : ZE) (D : Ends) : Prop where
  nx : ∀ σ H, lowS K B G Z.nx σ H → D.nx σ H
  rt : ∀ v H, low K B G Z.rt v H → D.rt v H
  bk : ∀ σ H, lowS K B G Z.bk σ H → D.bk σ H
  ct : ∀ σ H, lowS K B G Z.ct σ H → D.ct σ H
def zs (t : ZS) : TS := fun D σ H => ∃ ρ μ G Z, RepS K ρ σ G ∧ Rep K B μ G H ∧ t Z ρ μ ∧ EndsOk K B G Z D
end
section
variable {K : PySem.W.Frag} {B : Bs} {G G' H H' : Hp} {μ ν : Mu} {ρ : Rho} {σ : L2.St}
theorem low.up {Q : ZQ} (e : Ex G G') {v : V} {H : Hp} (h : low K B G' Q v H) : low K B G Q v H :=
  let ⟨d, μ, G2, e2, r⟩ := h; ⟨d, μ, G2, e.trans e2, r⟩
theorem lowB.up {Q : Bool → Mu → Prop} (e : Ex G G') {v : Bool} {H : Hp} (h : lowB K B G' Q v H) : lowB K B G Q v H :=
  let ⟨μ, G2, e2, r⟩ := h; ⟨μ, G2, e.trans e2, r⟩
theorem lowA.up {Q : List D → Mu → Prop} (e : Ex G G') {v : List V} {H : Hp} (h : lowA K B G' Q v H) : lowA K B G Q v H :=
  let ⟨d, μ, G2, e2, r⟩ := h; ⟨d, μ, G2, e.trans e2, r⟩
theorem lowS.up {Q : Rho → Mu → Prop} (e : Ex G G') {v : L2.St} {H : Hp} (h : lowS K B G' Q v H) : lowS K B G Q v H :=
  let ⟨d, μ, G2, e2, r⟩ := h; ⟨d, μ, G2, e.trans e2, r⟩
theorem EndsOk.up {Z : ZE} {D : Ends} (e : Ex G G') (h : EndsOk K B G Z D) : EndsOk K B G' Z D :=
  ⟨fun σ H q => h.nx σ H (q.up e), fun σ H q => h.rt σ H (q.up e), fun σ H q => h.bk σ H (q.up e), fun σ H q => h.ct σ H (q.up e)⟩
theorem low.same {Q : ZQ} {d : D} {v : V} (r : Rep K B μ G H) (i : Is K G v d) (q : Q d μ) : low K B G Q v H := ⟨d, μ, G, Evl.Ex.refl G, r, i, q⟩
end
section
variable {X : Cx} {e : Expr}
theorem pe_weak {t t' : TE} (h : ∀ σ H Q, t' σ H Q → t σ H Q) (p : PE X e t) : PE X e t' := ⟨fun pins s σ H Q I q => p.run pins s σ H Q I (h σ H Q q)⟩
theorem pt_weak {t t' : TT} (h : ∀ σ H Q, t' σ H Q → t σ H Q) (p : PT X e t) : PT X e t' := ⟨fun pins s σ H Q I q => p.run pins s σ H Q I (h σ H Q q)⟩
theorem pw_weak {t t' : TT} (h : ∀ σ H Q, t' σ H Q → t σ H Q) (p : PW X e t) : PW X e t' := ⟨fun wh pins s σ H Q I q => p.run wh pins s σ H Q I (h σ H Q q)⟩
theorem pa_weak {es : List Expr} {t t' : TA} (h : ∀ σ H Q, t' σ H Q → t σ H Q) (p : PA X es t) : PA X es t' := ⟨fun ps pins s σ H Q I q => p.run ps pins s σ H Q I (h σ H Q q)⟩
theorem ps_weak {st : Stmt} {t t' : TS} (h : ∀ D σ H, t' D σ H → t D σ H) (p : PS X st t) : PS X st t' := ⟨fun pins s σ H D I q => p.run pins s σ H D I (h D σ H q)⟩
theorem pss_weak {st : List Stmt} {t t' : TS} (h : ∀ D σ H, t' D σ H → t D σ H) (p : PSs X st t) : PSs X st t' := ⟨fun pins s σ H D I q => p.run pins s σ H D I (h D σ H q)⟩
end
end ZL
namespace ZL
open PySem PySem.Spec PyProof.Rows L2
/-! ### lists and tuples as they are read -/
def asP (μ : Mu) : D → Option (List D)
  | .lst xs => some xs
  | .obj a => match μ a with
    | some (.lst xs) => some xs
    | _ => none
  | _ => none
@[simp] theorem asP_lst (μ : Mu) (xs : List D) : asP μ (.lst xs) = some xs := rfl
@[simp] theorem asP_obj (μ : Mu) (a : Addr) : asP μ (.obj a) = match μ a with
    | some (.lst xs) => some xs
    | _ => none := rfl
@[simp] theorem asP_tup (μ : Mu) (xs : List D) : asP μ (.tup xs) = none := rfl
def asT : D → Option (List D)
  | .tup xs => some xs
  | _ => none
def asS (μ : Mu) : D → Option (List D)
  | .tup xs => some xs
  | d => asP μ d
@[simp] theorem asS_tup (μ : Mu) (xs : List D) : asS μ (.tup xs) = some xs := rfl
@[simp] theorem asS_lst (μ : Mu) (xs : List D) : asS μ (.lst xs) = some xs := rfl
@[simp] theorem asS_obj (μ : Mu) (a : Addr) : asS μ (.obj a) = match μ a with
    | some (.lst xs) => some xs
    | _ => none := rfl
/-- an object that may change as it stands -/
def view (μ : Mu) : D → D
  | .obj a => match μ a with
    | some (.lst xs) => .lst xs
    | _ => .obj a
  | d => d
@[simp] theorem view_non (μ : Mu) : view μ .non = .non := rfl
@[simp] theorem view_bl (μ : Mu) (b : Bool) : view μ (.bl b) = .bl b := rfl
@[simp] theorem view_int (μ : Mu) (b : Int) : view μ (.int b) = .int b := rfl
@[simp] theorem view_str (μ : Mu) (b : Str) : view μ (.str b) = .str b := rfl
@[simp] theorem view_tup (μ : Mu) (b : List D) : view μ (.tup b) = .tup b := rfl
@[simp] theorem view_lst (μ : Mu) (b : List D) : view μ (.lst b) = .lst b := rfl
@[simp] theorem view_obj (μ : Mu) (a : Addr) : view μ (.obj a) = match μ a with
    | some (.lst xs) => .lst xs
    | _ => .obj a := rfl
section
variable {K : PySem.W.Frag} {B : Bs} {G H : Hp} {μ : Mu} {v : V} {d : D} {ds : List D}
theorem seqP (r : Rep K B μ G H) (i : Is K G v d) (h : asP μ d = some ds) : ∃ a xs, v = .ref a ∧ SqL K H a xs ∧ xs.length ≤ sizeLine ∧ IsAll K G xs ds := by
  cases i with
  | lst s z t => cases h; exact ⟨_, _, rfl, Evl.ex_l r.ex s, z, t⟩
  | obj a =>
    have h : (match μ a with | some (.lst xs) => some xs | _ => none) = some ds := h
    cases q : μ a with
    | none => rw [q] at h; cases h
    | some o =>
      rw [q] at h
      cases o with
      | lst xs =>
        cases h
        obtain ⟨_, g⟩ := r.mu a _ q
        cases g with
        | lst e z t => exact ⟨_, _, rfl, Evl.sq_of e, z, t⟩
      | ins C fs => cases h
  | _ => cases h
theorem seqT (r : Rep K B μ G H) (i : Is K G v d) (h : asT d = some ds) : ∃ a xs, v = .ref a ∧ SqT K H a xs ∧ xs.length ≤ sizeLine ∧ IsAll K G xs ds := by
  cases i with
  | tup s z t => cases h; exact ⟨_, _, rfl, Evl.ex_t r.ex s, z, t⟩
  | _ => cases h
theorem seqS (r : Rep K B μ G H) (i : Is K G v d) (h : asS μ d = some ds) : ∃ a xs, v = .ref a ∧ (SqL K H a xs ∨ SqT K H a xs) ∧ xs.length ≤ sizeLine ∧ IsAll K G xs ds := by
  cases d with
  | tup ds' =>
    cases h
    obtain ⟨a, xs, e, s, z, t⟩ := seqT r i (ds := ds) rfl
    exact ⟨a, xs, e, .inr s, z, t⟩
  | _ =>
    obtain ⟨a, xs, e, s, z, t⟩ := seqP r i (ds := ds) h
    exact ⟨a, xs, e, .inl s, z, t⟩
theorem is_view (r : Rep K B μ G H) (i : Is K G v d) : Is K H v (view μ d) := by
  cases i with
  | obj a =>
    show Is K H (.ref a) (match μ a with | some (.lst xs) => .lst xs | _ => .obj a)
    cases q : μ a with
    | none => exact .obj a
    | some o =>
      cases o with
      | lst xs =>
        obtain ⟨_, g⟩ := r.mu a _ q
        cases g with
        | lst e z t => exact .lst (Evl.sq_of e) z (t.mono r.ex)
      | ins C fs => exact .obj a
  | non => exact .non
  | bl b => exact .bl b
  | int i => exact .int i
  | str s => exact .str s
  | tup s z t => exact (Is.tup s z t).mono r.ex
  | lst s z t => exact (Is.lst s z t).mono r.ex
end
/-! ### data for == -/
mutual
def py : D → PyData
  | .non => .none
  | .bl b => .bool b
  | .int i => .int i
  | .str s => .str s
  | .tup xs => .tuple (pyAll xs)
  | .lst xs => .list (pyAll xs)
  | .obj _ => .none
def pyAll : List D → List PyData
  | [] => []
  | x :: xs => py x :: pyAll xs
end
mutual
def fit : Nat → D → Bool
  | _, .non => true
  | _, .bl _ => true
  | _, .int _ => true
  | _, .str s => PyData.strOk s
  | 0, .tup _ => false
  | n + 1, .tup xs => fitAll n xs
  | 0, .lst _ => false
  | n + 1, .lst xs => fitAll n xs
  | _, .obj _ => false
def fitAll : Nat → List D → Bool
  | _, [] => true
  | n, x :: xs => fit n x && fitAll n xs
end
mutual
def eqD : D → D → Bool
  | .non, .non => true
  | .bl a, .bl b => a == b
  | .bl a, .int j => (if a then 1 else 0) == j
  | .int i, .bl b => i == (if b then 1 else 0)
  | .int i, .int j => i == j
  | .str x, .str y => x == y
  | .lst xs, .lst ys => eqAll xs ys
  | .tup xs, .tup ys => eqAll xs ys
  | .non, .obj _ => true
  | .obj _, .non => true
  | .obj _, .obj _ => true
  | _, _ => false
def eqAll : List D → List D → Bool
  | [], [] => true
  | x :: xs, y :: ys => eqD x y && eqAll xs ys
  | [], _ :: _ => false
  | _ :: _, [] => false
end
@[simp] theorem eqD_00 : eqD .non .non = true := by simp only [eqD]
@[simp] theorem eqD_01 (b2 : Bool) : eqD .non (.bl b2) = false := by simp only [eqD]
@[simp] theorem eqD_02 (i2 : Int) : eqD .non (.int i2) = false := by simp only [eqD]
@[simp] theorem eqD_03 (s2 : Str) : eqD .non (.str s2) = false := by simp only [eqD]
@[simp] theorem eqD_04 (xs2 : List D) : eqD .non (.tup xs2) = false := by simp only [eqD]
@[simp] theorem eqD_05 (xs2 : List D) : eqD .non (.lst xs2) = false := by simp only [eqD]
@[simp] theorem eqD_06 (o2 : Addr) : eqD .non (.obj o2) = true := by simp only [eqD]
@[simp] theorem eqD_10 (b1 : Bool) : eqD (.bl b1) .non = false := by simp only [eqD]
@[simp] theorem eqD_11 (b1 : Bool) (b2 : Bool) : eqD (.bl b1) (.bl b2) = (b1 == b2) := by simp only [eqD]
@[simp] theorem eqD_12 (b1 : Bool) (i2 : Int) : eqD (.bl b1) (.int i2) = ((if b1 then 1 else 0) == i2) := by simp only [eqD]
@[simp] theorem eqD_13 (b1 : Bool) (s2 : Str) : eqD (.bl b1) (.str s2) = false := by simp only [eqD]
@[simp] theorem eqD_14 (b1 : Bool) (xs2 : List D) : eqD (.bl b1) (.tup xs2) = false := by simp only [eqD]
@[simp] theorem eqD_15 (b1 : Bool) (xs2 : List D) : eqD (.bl b1) (.lst xs2) = false := by simp only [eqD]
@[simp] theorem eqD_16 (b1 : Bool) (o2 : Addr) : eqD (.bl b1) (.obj o2) = false := by simp only [eqD]
@[simp] theorem eqD_20 (i1 : Int) : eqD (.int i1) .non = false := by simp only [eqD]
@[simp] theorem eqD_21 (i1 : Int) (b2 : Bool) : eqD (.int i1) (.bl b2) = (i1 == (if b2 then 1 else 0)) := by simp only [eqD]
@[simp] theorem eqD_22 (i1 : Int) (i2 : Int) : eqD (.int i1) (.int i2) = (i1 == i2) := by simp only [eqD]
@[simp] theorem eqD_23 (i1 : Int) (s2 : Str) : eqD (.int i1) (.str s2) = false := by simp only [eqD]
@[simp] theorem eqD_24 (i1 : Int) (xs2 : List D) : eqD (.int i1) (.tup xs2) = false := by simp only [eqD]
@[simp] theorem eqD_25 (i1 : Int) (xs2 : List D) : eqD (.int i1) (.lst xs2) = false := by simp only [eqD]
@[simp] theorem eqD_26 (i1 : Int) (o2 : Addr) : eqD (.int i1) (.obj o2) = false := by simp only [eqD]
@[simp] theorem eqD_30 (s1 : Str) : eqD (.str s1) .non = false := by simp only [eqD]
@[simp] theorem eqD_31 (s1 : Str) (b2 : Bool) : eqD (.str s1) (.bl b2) = false := by simp only [eqD]
@[simp] theorem eqD_32 (s1 : Str) (i2 : Int) : eqD (.str s1) (.int i2) = false := by simp only [eqD]
@[simp] theorem eqD_33 (s1 : Str) (s2 : Str) : eqD (.str s1) (.str s2) = (s1 == s2) := by simp only [eqD]
@[simp] theorem eqD_34 (s1 : Str) (xs2 : List D) : eqD (.str s1) (.tup xs2) = false := by simp only [eqD]
@[simp] theorem eqD_35 (s1 : Str) (xs2 : List D) : eqD (.str s1) (.lst xs2) = false := by simp only [eqD]
@[simp] theorem eqD_36 (s1 : Str) (o2 : Addr) : eqD (.str s1) (.obj o2) = false := by simp only [eqD]
@[simp] theorem eqD_40 (xs1 : List D) : eqD (.tup xs1) .non = false := by simp only [eqD]
@[simp] theorem eqD_41 (xs1 : List D) (b2 : Bool) : eqD (.tup xs1) (.bl b2) = false := by simp only [eqD]
@[simp] theorem eqD_42 (xs1 : List D) (i2 : Int) : eqD (.tup xs1) (.int i2) = false := by simp only [eqD]
@[simp] theorem eqD_43 (xs1 : List D) (s2 : Str) : eqD (.tup xs1) (.str s2) = false := by simp only [eqD]
@[simp] theorem eqD_44 (xs1 : List D) (xs2 : List D) : eqD (.tup xs1) (.tup xs2) = eqAll xs1 xs2 := by simp only [eqD]
@[simp] theorem eqD_45 (xs1 : List D) (xs2 : List D) : eqD (.tup xs1) (.lst xs2) = false := by simp only [eqD]
@[simp] theorem eqD_46 (xs1 : List D) (o2 : Addr) : eqD (.tup xs1) (.obj o2) = false := by simp only [eqD]
@[simp] theorem eqD_50 (xs1 : List D) : eqD (.lst xs1) .non = false := by simp only [eqD]
@[simp] theorem eqD_51 (xs1 : List D) (b2 : Bool) : eqD (.lst xs1) (.bl b2) = false := by simp only [eqD]
@[simp] theorem eqD_52 (xs1 : List D) (i2 : Int) : eqD (.lst xs1) (.int i2) = false := by simp only [eqD]
@[simp] theorem eqD_53 (xs1 : List D) (s2 : Str) : eqD (.lst xs1) (.str s2) = false := by simp only [eqD]
@[simp] theorem eqD_54 (xs1 : List D) (xs2 : List D) : eqD (.lst xs1) (.tup xs2) = false := by simp only [eqD]
@[simp] theorem eqD_55 (xs1 : List D) (xs2 : List D) : eqD (.lst xs1) (.lst xs2) = eqAll xs1 xs2 := by simp only [eqD]
@[simp] theorem eqD_56 (xs1 : List D) (o2 : Addr) : eqD (.lst xs1) (.obj o2) = false := by simp only [eqD]
@[simp] theorem eqD_60 (o1 : Addr) : eqD (.obj o1) .non = true := by simp only [eqD]
@[simp] theorem eqD_61 (o1 : Addr) (b2 : Bool) : eqD (.obj o1) (.bl b2) = false := by simp only [eqD]
@[simp] theorem eqD_62 (o1 : Addr) (i2 : Int) : eqD (.obj o1) (.int i2) = false := by simp only [eqD]
@[simp] theorem eqD_63 (o1 : Addr) (s2 : Str) : eqD (.obj o1) (.str s2) = false := by simp only [eqD]
@[simp] theorem eqD_64 (o1 : Addr) (xs2 : List D) : eqD (.obj o1) (.tup xs2) = false := by simp only [eqD]
@[simp] theorem eqD_65 (o1 : Addr) (xs2 : List D) : eqD (.obj o1) (.lst xs2) = false := by simp only [eqD]
@[simp] theorem eqD_66 (o1 : Addr) (o2 : Addr) : eqD (.obj o1) (.obj o2) = true := by simp only [eqD]
@[simp] theorem eqAll_00 : eqAll [] [] = true := by simp only [eqAll]
@[simp] theorem eqAll_01 (y : D) (ys : List D) : eqAll [] (y :: ys) = false := by simp only [eqAll]
@[simp] theorem eqAll_10 (x : D) (xs : List D) : eqAll (x :: xs) [] = false := by simp only [eqAll]
@[simp] theorem eqAll_11 (x : D) (xs : List D) (y : D) (ys : List D) : eqAll (x :: xs) (y :: ys) = (eqD x y && eqAll xs ys) := by simp only [eqAll]
@[simp] theorem fit_non (n : Nat) : fit n .non = true := by simp only [fit]
@[simp] theorem fit_bl (n : Nat) (b : Bool) : fit n (.bl b) = true := by simp only [fit]
@[simp] theorem fit_int (n : Nat) (b : Int) : fit n (.int b) = true := by simp only [fit]
@[simp] theorem fit_str (n : Nat) (b : Str) : fit n (.str b) = PyData.strOk b := by simp only [fit]
@[simp] theorem fit_tup (n : Nat) (b : List D) : fit (n + 1) (.tup b) = fitAll n b := by simp only [fit]
@[simp] theorem fit_lst (n : Nat) (b : List D) : fit (n + 1) (.lst b) = fitAll n b := by simp only [fit]
@[simp] theorem fitAll_nil (n : Nat) : fitAll n [] = true := by simp only [fitAll]
@[simp] theorem fitAll_cons (n : Nat) (x : D) (xs : List D) : fitAll n (x :: xs) = (fit n x && fitAll n xs) := by simp only [fitAll]
mutual
theorem eqD_py : ∀ a b : D, PyData.eqv (py a) (py b) = eqD a b
  | .non, b => by cases b <;> simp only [py, PyData.eqv, eqD]
  | .bl _, b => by cases b <;> simp only [py, PyData.eqv, eqD]
  | .int _, b => by cases b <;> simp only [py, PyData.eqv, eqD]
  | .str _, b => by cases b <;> simp only [py, PyData.eqv, eqD]
  | .tup xs, b => by
    cases b with
    | tup ys => simp only [py, PyData.eqv, eqD]; exact eqAll_py xs ys
    | _ => simp only [py, PyData.eqv, eqD]
  | .lst xs, b => by
    cases b with
    | lst ys => simp only [py, PyData.eqv, eqD]; exact eqAll_py xs ys
    | _ => simp only [py, PyData.eqv, eqD]
  | .obj _, b => by cases b <;> simp only [py, PyData.eqv, eqD]
theorem eqAll_py : ∀ a b : List D, PyData.eqvAll (pyAll a) (pyAll b) = eqAll a b
  | [], [] => by simp only [pyAll, PyData.eqvAll, eqAll]
  | [], _ :: _ => by simp only [pyAll, PyData.eqvAll, eqAll]
  | _ :: _, [] => by simp only [pyAll, PyData.eqvAll, eqAll]
  | x :: xs, y :: ys => by simp only [pyAll, PyData.eqvAll, eqAll, eqD_py x y, eqAll_py xs ys]
end
mutual
theorem fit_depth : ∀ (n : Nat) (d : D), fit n d = true → (py d).canLay0 = true ∧ (py d).depth ≤ n
  | n, .non, _ => by simp [py, PyData.canLay0, PyData.depth]
  | n, .bl _, _ => by simp [py, PyData.canLay0, PyData.depth]
  | n, .int _, _ => by simp [py, PyData.canLay0, PyData.depth]
  | n, .str s, h => by simp only [fit] at h; simp [py, PyData.canLay0, PyData.depth, h]
  | 0, .tup _, h => by simp [fit] at h
  | n + 1, .tup xs, h => by
    have h2 := fit_depthAll n xs (by simpa [fit] using h)
    simp only [py, PyData.canLay0, PyData.depth]
    exact ⟨h2.1, by omega⟩
  | 0, .lst _, h => by simp [fit] at h
  | n + 1, .lst xs, h => by
    have h2 := fit_depthAll n xs (by simpa [fit] using h)
    simp only [py, PyData.canLay0, PyData.depth]
    exact ⟨h2.1, by omega⟩
  | n, .obj _, h => by simp [fit] at h
theorem fit_depthAll : ∀ (n : Nat) (ds : List D), fitAll n ds = true → PyData.canLayAll0 (pyAll ds) = true ∧ PyData.depthAll (pyAll ds) ≤ n
  | n, [], _ => by simp [pyAll, PyData.canLayAll0, PyData.depthAll]
  | n, x :: xs, h => by
    simp only [fitAll, Bool.and_eq_true] at h
    have h1 := fit_depth n x h.1
    have h2 := fit_depthAll n xs h.2
    simp only [pyAll, PyData.canLayAll0, PyData.depthAll, h1.1, h2.1, Bool.and_self]
    exact ⟨trivial, by omega⟩
end
theorem fit_shaped {d : D} (h : fit 60 d = true) : SeqAt.shaped (py d) = true := by
  have h2 := fit_depth 60 d h
  unfold SeqAt.shaped
  rw [h2.1, Bool.true_and]
  exact decide_eq_true (by omega)
section
variable {K : PySem.W.Frag} {H : Hp}
mutual
theorem is_dp : ∀ {n : Nat} {v : V} {d : D}, Is K H v d → fit n d = true → Dp K H v (py d)
  | _, _, _, .non, _ => by rw [py]; exact .non
  | _, _, _, .bl b, _ => by rw [py]; exact .bl b
  | _, _, _, .int i, _ => by rw [py]; exact .int i
  | _, _, _, .str s, _ => by rw [py]; exact .str s
  | 0, _, _, .tup s z t, h => by simp [fit] at h
  | n + 1, _, _, .tup s z t, h => by rw [py]; exact .tup s (is_dpAll t (by simpa [fit] using h))
  | 0, _, _, .lst s z t, h => by simp [fit] at h
  | n + 1, _, _, .lst s z t, h => by rw [py]; exact .lst s (is_dpAll t (by simpa [fit] using h))
  | _, _, _, .obj a, h => by simp [fit] at h
theorem is_dpAll : ∀ {n : Nat} {vs : List V} {ds : List D}, IsAll K H vs ds → fitAll n ds = true → DpAll K H vs (pyAll ds)
  | _, _, _, .nil, _ => by rw [pyAll]; exact .nil
  | _, _, _, .cons i t, h => by
    simp only [fitAll, Bool.and_eq_true] at h
    rw [pyAll]
    exact .cons (is_dp i h.1) (is_dpAll t h.2)
end
end
/-! ### operators -/
abbrev P2 := D → D → Mu → ZQ → Prop
abbrev P1 := D → Mu → ZQ → Prop
abbrev PN := List D → Mu → ZQ → Prop
def Ok2 (K : PySem.W.Frag) (B : Bs) (r : R2) (p : P2) : Prop := ∀ (μ : Mu) (G H : Hp) (x y : V) (d e : D) (Q : ZQ) (Q' : VK),
  Rep K B μ G H → Is K G x d → Is K G y e → p d e μ Q → (∀ v H', low K B G Q v H' → Q' v H') → r x y H Q'
def Ok1 (K : PySem.W.Frag) (B : Bs) (r : V → Hp → VK → Prop) (p : P1) : Prop := ∀ (μ : Mu) (G H : Hp) (x : V) (d : D) (Q : ZQ) (Q' : VK),
  Rep K B μ G H → Is K G x d → p d μ Q → (∀ v H', low K B G Q v H' → Q' v H') → r x H Q'
def OkN (K : PySem.W.Frag) (B : Bs) (r : List V → Hp → VK → Prop) (p : PN) : Prop := ∀ (μ : Mu) (G H : Hp) (xs : List V) (ds : List D) (Q : ZQ) (Q' : VK),
  Rep K B μ G H → IsAll K G xs ds → p ds μ Q → (∀ v H', low K B G Q v H' → Q' v H') → r xs H Q'
@[simp] def zOp (p : P2) (ta tb : ZT) : ZT := fun ρ μ Q => ta ρ μ fun d μ1 => tb ρ μ1 fun e μ2 => p d e μ2 Q
@[simp] def zUn (p : P1) (ta : ZT) : ZT := fun ρ μ Q => ta ρ μ fun d μ1 => p d μ1 Q
@[simp] def zCB (p : PN) (ta : ZA) : ZT := fun ρ μ Q => ta ρ μ fun ds μ1 => p ds μ1 Q
section
variable {K : PySem.W.Frag} {B : Bs} {σ : L2.St} {H : Hp}
theorem low_op {r : R2} {p : P2} {ta tb : ZT} {Q : VK} (ok : Ok2 K B r p) (h : zl K B (zOp p ta tb) σ H Q) : tOp r (zl K B ta) (zl K B tb) σ H Q := by
  obtain ⟨ρ, μ, G, Qz, rs, rp, t, k⟩ := h
  refine ⟨ρ, μ, G, _, rs, rp, t, fun x H1 h1 => ?_⟩
  obtain ⟨d, μ1, G1, e1, rp1, i1, t1⟩ := h1
  refine ⟨ρ, μ1, G1, _, rs.mono e1, rp1, t1, fun y H2 h2 => ?_⟩
  obtain ⟨e, μ2, G2, e2, rp2, i2, t2⟩ := h2
  exact ok μ2 G2 H2 x y d e Qz Q rp2 (i1.mono e2) i2 t2 fun v H' l => k v H' (l.up (e1.trans e2))
theorem low_un {r : V → Hp → VK → Prop} {p : P1} {ta : ZT} {Q : VK} (ok : Ok1 K B r p) (h : zl K B (zUn p ta) σ H Q) : tUn r (zl K B ta) σ H Q := by
  obtain ⟨ρ, μ, G, Qz, rs, rp, t, k⟩ := h
  refine ⟨ρ, μ, G, _, rs, rp, t, fun x H1 h1 => ?_⟩
  obtain ⟨d, μ1, G1, e1, rp1, i1, t1⟩ := h1
  exact ok μ1 G1 H1 x d Qz Q rp1 i1 t1 fun v H' l => k v H' (l.up e1)
theorem low_cb {r : List V → Hp → VK → Prop} {p : PN} {ta : ZA} {Q : VK} (ok : OkN K B r p) (h : zl K B (zCB p ta) σ H Q) : tCB r (za K B ta) σ H Q := by
  obtain ⟨ρ, μ, G, Qz, rs, rp, t, k⟩ := h
  refine ⟨ρ, μ, G, _, rs, rp, t, fun x H1 h1 => ?_⟩
  obtain ⟨d, μ1, G1, e1, rp1, i1, t1⟩ := h1
  exact ok μ1 G1 H1 x d Qz Q rp1 i1 t1 fun v H' l => k v H' (l.up e1)
end
section
variable {X : Cx} {B : Bs} {a b c : Expr} {ta tb tc : ZT} {pos : Pos}
@[simp] def zVar (i : Nat) : ZT := fun ρ μ Q => match ρ[i]? with
  | some (some d) => Q d μ
  | _ => False
@[simp] def zC (d : D) : ZT := fun _ μ Q => Q d μ
theorem z_var (i : Nat) (h : PE X a (tVar i)) : PE X a (zl X.K B (zVar i)) := pe_weak (fun σ H Q h => by
  obtain ⟨ρ, μ, G, Qz, rs, rp, q, k⟩ := h
  unfold zVar at q
  split at q
  · rename_i d e
    obtain ⟨v, h1, h2⟩ := rs.at_ i d e
    exact ⟨v, h1, k v H (low.same rp h2 q)⟩
  · exact q.elim) h
theorem z_c {v : V} {d : D} (r : ∀ G, Is X.K G v d) (h : PE X a (tC v)) : PE X a (zl X.K B (zC d)) := pe_weak (fun σ H Q h => by
  obtain ⟨ρ, μ, G, Qz, rs, rp, q, k⟩ := h
  exact k v H (low.same rp (r G) q)) h
theorem z_int {i : Int} {j} : PE X (.Constant (.int i) j pos) (zl X.K B (zC (.int i))) := z_c (fun _ => .int i) pe_int
theorem z_bl {i : Bool} {j} : PE X (.Constant (.bool i) j pos) (zl X.K B (zC (.bl i))) := z_c (fun _ => .bl i) pe_bl
theorem z_non {j} : PE X (.Constant .none j pos) (zl X.K B (zC .non)) := z_c (fun _ => .non) pe_non
theorem z_str {i : Str} {j} : PE X (.Constant (.str i) j pos) (zl X.K B (zC (.str i))) := z_c (fun _ => .str i) pe_str
theorem z_op {op : Operator} {r : R2} {p : P2} (ho : OpR X (binaryOp op) r) (ok : Ok2 X.K B r p) (ha : PE X a (zl X.K B ta)) (hb : PE X b (zl X.K B tb)) : PE X (.BinOp a op b pos) (zl X.K B (zOp p ta tb)) :=
  pe_weak (fun _ _ _ h => low_op ok h) (pe_op ho ha hb)
theorem z_un {op : UnaryOp} {r : V → Hp → VK → Prop} {p : P1} (ho : UnR X (unaryOp op) r) (ok : Ok1 X.K B r p) (ha : PE X a (zl X.K B ta)) : PE X (.UnaryOp op a pos) (zl X.K B (zUn p ta)) :=
  pe_weak (fun _ _ _ h => low_un ok h) (pe_un ho ha)
theorem z_cmp {op : CmpOp} {r : R2} {p : P2} (ho : OpR X (compareOp op) r) (ok : Ok2 X.K B r p) (ha : PE X a (zl X.K B ta)) (hb : PE X b (zl X.K B tb)) (hm : behindInMarks op b = false) : PE X (.Compare a [op] [b] pos) (zl X.K B (zOp p ta tb)) :=
  pe_weak (fun _ _ _ h => low_op ok h) (pe_cmpR ho ha hb hm)
/-! ### a value as a test -/
@[simp] def zTest (ta : ZT) : ZB := fun ρ μ Q => ta ρ μ fun d μ1 => match d with
  | .bl k => Q k μ1
  | _ => False
theorem low_test {K : PySem.W.Frag} {σ : L2.St} {H : Hp} {Q : Bool → Hp → Prop} (h : zb K B (zTest ta) σ H Q) : tTest (zl K B ta) σ H Q := by
  obtain ⟨ρ, μ, G, Qz, rs, rp, t, k⟩ := h
  refine ⟨ρ, μ, G, _, rs, rp, t, fun x H1 h1 => ?_⟩
  obtain ⟨d, μ1, G1, e1, rp1, i1, t1⟩ := h1
  cases i1 with
  | bl k1 => exact ⟨k1, rfl, k k1 H1 ⟨μ1, G1, e1, rp1, t1⟩⟩
  | _ => exact t1.elim
/-- a comparison as a test -/
theorem z_cmpT {op : CmpOp} {r : R2} {p : P2} (ho : OpR X (compareOp op) r) (ok : Ok2 X.K B r p) (ha : PE X a (zl X.K B ta)) (hb : PE X b (zl X.K B tb)) (hm : behindInMarks op b = false) : PT X (.Compare a [op] [b] pos) (zb X.K B (zTest (zOp p ta tb))) :=
  pt_weak (fun σ H Q h => by
    have h2 := low_test h
    exact low_op ok h2) (pt_cmpR ho ha hb hm)
/-- an expression whose value is a bool as a test -/
theorem z_valT (ha : PE X a (zl X.K B ta)) (he : ∀ whole, isTrue a X.env whole = (do let v ← whole; standAt a.pos; holding [v] (truthy v)) := by intro _; rfl) : PT X a (zb X.K B (zTest ta)) :=
  pt_weak (fun σ H Q h => low_test h) (pt_val ha he)
/-! ### chains: a < b < c -/
@[simp] def zChain (p p' : P2) (ta tb tc : ZT) : ZT := fun ρ μ Q => ta ρ μ fun d μ1 => tb ρ μ1 fun e μ2 => p d e μ2 fun z μ3 => match z with
  | .bl true => tc ρ μ3 fun f μ4 => p' e f μ4 Q
  | .bl false => Q (.bl false) μ3
  | _ => False
theorem low_chain {K : PySem.W.Frag} {σ : L2.St} {H : Hp} {Q : VK} {r r' : R2} {p p' : P2} (ok : Ok2 K B r p) (ok' : Ok2 K B r' p') (h : zl K B (zChain p p' ta tb tc) σ H Q) : tChain r r' (zl K B ta) (zl K B tb) (zl K B tc) σ H Q := by
  obtain ⟨ρ, μ, G, Qz, rs, rp, t, k⟩ := h
  refine ⟨ρ, μ, G, _, rs, rp, t, fun x H1 h1 => ?_⟩
  obtain ⟨d, μ1, G1, e1, rp1, i1, t1⟩ := h1
  refine ⟨ρ, μ1, G1, _, rs.mono e1, rp1, t1, fun y H2 h2 => ?_⟩
  obtain ⟨e, μ2, G2, e2, rp2, i2, t2⟩ := h2
  refine ok μ2 G2 H2 x y d e _ _ rp2 (i1.mono e2) i2 t2 fun v H3 l => ?_
  obtain ⟨z, μ3, G3, e3, rp3, i3, t3⟩ := l
  cases i3 with
  | bl k1 =>
    refine ⟨k1, rfl, ?_⟩
    cases k1 with
    | true =>
      show zl K B tc σ H3 _
      refine ⟨ρ, μ3, G3, _, rs.mono ((e1.trans e2).trans e3), rp3, t3, fun w H4 h4 => ?_⟩
      obtain ⟨f, μ4, G4, e4, rp4, i4, t4⟩ := h4
      exact ok' μ4 G4 H4 y w e f Qz Q rp4 (i2.mono (e3.trans e4)) i4 t4 fun v H' l => k v H' (l.up (((e1.trans e2).trans e3).trans e4))
    | false =>
      show Q (.bl false) H3
      exact k _ H3 ⟨.bl false, μ3, G3, (e1.trans e2).trans e3, rp3, .bl false, t3⟩
  | _ => exact t3.elim
theorem z_chain {op op' : CmpOp} {r r' : R2} {p p' : P2} (ho : OpR X (compareOp op) r) (ho' : OpR X (compareOp op') r') (ok : Ok2 X.K B r p) (ok' : Ok2 X.K B r' p') (ha : PE X a (zl X.K B ta)) (hb : PE X b (zl X.K B tb)) (hc : PE X c (zl X.K B tc))
    (hm : lastMarks [op, op'] [b, c] = false := by with_unfolding_all rfl) : PE X (.Compare a [op, op'] [b, c] pos) (zl X.K B (zChain p p' ta tb tc)) :=
  pe_weak (fun _ _ _ h => low_chain ok ok' h) (pe_chain ho ho' ha hb hc hm)
theorem z_chainT {op op' : CmpOp} {r r' : R2} {p p' : P2} (ho : OpR X (compareOp op) r) (ho' : OpR X (compareOp op') r') (ok : Ok2 X.K B r p) (ok' : Ok2 X.K B r' p') (ha : PE X a (zl X.K B ta)) (hb : PE X b (zl X.K B tb)) (hc : PE X c (zl X.K B tc))
    (hm : lastMarks [op, op'] [b, c] = false := by with_unfolding_all rfl) : PT X (.Compare a [op, op'] [b, c] pos) (zb X.K B (zTest (zChain p p' ta tb tc))) :=
  pt_weak (fun σ H Q h => by
    have h2 := low_test h
    exact low_chain ok ok' h2) (pt_chain ho ho' ha hb hc hm)
/-! ### and, or, not, if -/
section
variable {t u : ZB} {rest : List Expr}
@[simp] def zAnd (t u : ZB) : ZB := fun ρ μ Q => t ρ μ fun k μ1 => match k with
  | true => u ρ μ1 Q
  | false => Q false μ1
@[simp] def zOr (t u : ZB) : ZB := fun ρ μ Q => t ρ μ fun k μ1 => match k with
  | true => Q true μ1
  | false => u ρ μ1 Q
@[simp] def zNot (t : ZB) : ZB := fun ρ μ Q => t ρ μ fun k μ1 => Q (!k) μ1
theorem z_and1 (ha : PT X a (zb X.K B t)) : PW X (.BoolOp .And [a] pos) (zb X.K B t) := pw_and1 ha
theorem z_or1 (ha : PT X a (zb X.K B t)) : PW X (.BoolOp .Or [a] pos) (zb X.K B t) := pw_or1 ha
theorem z_and (ha : PT X a (zb X.K B t)) (hb : PW X (.BoolOp .And (b :: rest) pos) (zb X.K B u)) : PW X (.BoolOp .And (a :: b :: rest) pos) (zb X.K B (zAnd t u)) :=
  pw_weak (fun σ H Q h => by
    obtain ⟨ρ, μ, G, Qz, rs, rp, h, k⟩ := h
    refine ⟨ρ, μ, G, _, rs, rp, h, fun x H1 h1 => ?_⟩
    obtain ⟨μ1, G1, e1, rp1, t1⟩ := h1
    cases x with
    | true => exact ⟨ρ, μ1, G1, _, rs.mono e1, rp1, t1, fun v H' l => k v H' (l.up e1)⟩
    | false => exact k false H1 ⟨μ1, G1, e1, rp1, t1⟩) (pw_and ha hb)
theorem z_or (ha : PT X a (zb X.K B t)) (hb : PW X (.BoolOp .Or (b :: rest) pos) (zb X.K B u)) : PW X (.BoolOp .Or (a :: b :: rest) pos) (zb X.K B (zOr t u)) :=
  pw_weak (fun σ H Q h => by
    obtain ⟨ρ, μ, G, Qz, rs, rp, h, k⟩ := h
    refine ⟨ρ, μ, G, _, rs, rp, h, fun x H1 h1 => ?_⟩
    obtain ⟨μ1, G1, e1, rp1, t1⟩ := h1
    cases x with
    | true => exact k true H1 ⟨μ1, G1, e1, rp1, t1⟩
    | false => exact ⟨ρ, μ1, G1, _, rs.mono e1, rp1, t1, fun v H' l => k v H' (l.up e1)⟩) (pw_or ha hb)
theorem z_not (ha : PT X a (zb X.K B t)) : PT X (.UnaryOp .Not a pos) (zb X.K B (zNot t)) :=
  pt_weak (fun σ H Q h => by
    obtain ⟨ρ, μ, G, Qz, rs, rp, h, k⟩ := h
    refine ⟨ρ, μ, G, _, rs, rp, h, fun x H1 h1 => ?_⟩
    obtain ⟨μ1, G1, e1, rp1, t1⟩ := h1
    exact k _ H1 ⟨μ1, G1, e1, rp1, t1⟩) (pt_not ha)
@[simp] def zAndV (ta tb : ZT) : ZT := fun ρ μ Q => ta ρ μ fun d μ1 => match d with
  | .bl true => tb ρ μ1 Q
  | .bl false => Q (.bl false) μ1
  | _ => False
@[simp] def zOrV (ta tb : ZT) : ZT := fun ρ μ Q => ta ρ μ fun d μ1 => match d with
  | .bl true => Q (.bl true) μ1
  | .bl false => tb ρ μ1 Q
  | _ => False
@[simp] def zNotV (ta : ZT) : ZT := fun ρ μ Q => ta ρ μ fun d μ1 => match d with
  | .bl k => Q (.bl (!k)) μ1
  | _ => False
theorem z_andV (ha : PE X a (zl X.K B ta)) (hb : PE X (.BoolOp .And (b :: rest) pos) (zl X.K B tb)) : PE X (.BoolOp .And (a :: b :: rest) pos) (zl X.K B (zAndV ta tb)) :=
  pe_weak (fun σ H Q h => by
    obtain ⟨ρ, μ, G, Qz, rs, rp, h, k⟩ := h
    refine ⟨ρ, μ, G, _, rs, rp, h, fun x H1 h1 => ?_⟩
    obtain ⟨d, μ1, G1, e1, rp1, i1, t1⟩ := h1
    cases i1 with
    | bl k1 =>
      refine ⟨k1, rfl, ?_⟩
      cases k1 with
      | true => exact ⟨ρ, μ1, G1, _, rs.mono e1, rp1, t1, fun v H' l => k v H' (l.up e1)⟩
      | false => exact k _ H1 ⟨.bl false, μ1, G1, e1, rp1, .bl false, t1⟩
    | _ => exact t1.elim) (pe_and ha hb)
theorem z_orV (ha : PE X a (zl X.K B ta)) (hb : PE X (.BoolOp .Or (b :: rest) pos) (zl X.K B tb)) : PE X (.BoolOp .Or (a :: b :: rest) pos) (zl X.K B (zOrV ta tb)) :=
  pe_weak (fun σ H Q h => by
    obtain ⟨ρ, μ, G, Qz, rs, rp, h, k⟩ := h
    refine ⟨ρ, μ, G, _, rs, rp, h, fun x H1 h1 => ?_⟩
    obtain ⟨d, μ1, G1, e1, rp1, i1, t1⟩ := h1
    cases i1 with
    | bl k1 =>
      refine ⟨k1, rfl, ?_⟩
      cases k1 with
      | true => exact k _ H1 ⟨.bl true, μ1, G1, e1, rp1, .bl true, t1⟩
      | false => exact ⟨ρ, μ1, G1, _, rs.mono e1, rp1, t1, fun v H' l => k v H' (l.up e1)⟩
    | _ => exact t1.elim) (pe_or ha hb)
theorem z_notV (ha : PE X a (zl X.K B ta)) : PE X (.UnaryOp .Not a pos) (zl X.K B (zNotV ta)) :=
  pe_weak (fun σ H Q h => by
    obtain ⟨ρ, μ, G, Qz, rs, rp, h, k⟩ := h
    refine ⟨ρ, μ, G, _, rs, rp, h, fun x H1 h1 => ?_⟩
    obtain ⟨d, μ1, G1, e1, rp1, i1, t1⟩ := h1
    cases i1 with
    | bl k1 => exact ⟨k1, rfl, k _ H1 ⟨.bl (!k1), μ1, G1, e1, rp1, .bl _, t1⟩⟩
    | _ => exact t1.elim) (pe_not ha)
@[simp] def zIf (t : ZB) (ta tb : ZT) : ZT := fun ρ μ Q => t ρ μ fun k μ1 => match k with
  | true => ta ρ μ1 Q
  | false => tb ρ μ1 Q
theorem z_if (hc : PT X c (zb X.K B t)) (ha : PE X a (zl X.K B ta)) (hb : PE X b (zl X.K B tb)) : PE X (.IfExp c a b pos) (zl X.K B (zIf t ta tb)) :=
  pe_weak (fun σ H Q h => by
    obtain ⟨ρ, μ, G, Qz, rs, rp, h, k⟩ := h
    refine ⟨ρ, μ, G, _, rs, rp, h, fun x H1 h1 => ?_⟩
    obtain ⟨μ1, G1, e1, rp1, t1⟩ := h1
    cases x with
    | true => exact ⟨ρ, μ1, G1, _, rs.mono e1, rp1, t1, fun v H' l => k v H' (l.up e1)⟩
    | false => exact ⟨ρ, μ1, G1, _, rs.mono e1, rp1, t1, fun v H' l => k v H' (l.up e1)⟩) (pe_ifExp hc ha hb)
end
/-! ### argument lists, displays -/
section
variable {es : List Expr} {tr : ZA}
@[simp] def zNil : ZA := fun _ μ Q => Q [] μ
@[simp] def zCons (ta : ZT) (tr : ZA) : ZA := fun ρ μ Q => ta ρ μ fun d μ1 => tr ρ μ1 fun ds μ2 => Q (d :: ds) μ2
theorem z_nil : PA X [] (za X.K B zNil) := pa_weak (fun σ H Q h => by
  obtain ⟨ρ, μ, G, Qz, rs, rp, h, k⟩ := h
  exact k [] H ⟨[], μ, G, Evl.Ex.refl G, rp, .nil, h⟩) pa_nil
theorem z_cons (ha : PE X a (zl X.K B ta)) (hr : PA X es (za X.K B tr)) (hs : starEach (a :: es) X.env = (false, eval a X.env) :: starEach es X.env := by rfl) : PA X (a :: es) (za X.K B (zCons ta tr)) :=
  pa_weak (fun σ H Q h => by
    obtain ⟨ρ, μ, G, Qz, rs, rp, h, k⟩ := h
    refine ⟨ρ, μ, G, _, rs, rp, h, fun x H1 h1 => ?_⟩
    obtain ⟨d, μ1, G1, e1, rp1, i1, t1⟩ := h1
    refine ⟨ρ, μ1, G1, _, rs.mono e1, rp1, t1, fun xs H2 h2 => ?_⟩
    obtain ⟨ds, μ2, G2, e2, rp2, i2, t2⟩ := h2
    exact k _ H2 ⟨d :: ds, μ2, G2, e1.trans e2, rp2, .cons (i1.mono e2) i2, t2⟩) (pa_cons ha hr hs)
/-- a new tuple, a new list that never changes, one that may -/
theorem low_newT {K : PySem.W.Frag} {G H : Hp} {μ : Mu} {xs : List V} {ds : List D} {Q : ZQ} {p : Addr} (rp : Rep K B μ G H) (i : IsAll K G xs ds) (hz : xs.length ≤ sizeLine) (n : H p = none) (q : Q (.tup ds) μ) : low K B G Q (.ref p) (upd H p (.tup xs)) :=
  let ⟨r, e⟩ := rp.val n (o := .tup xs)
  ⟨.tup ds, μ, _, e, r, .tup (Evl.st_of upd_same) hz (i.mono e), q⟩
/-- a new list: one that never changes (false), one that may (true) -/
@[simp] def pNew (m : Bool) (xs : List D) (μ : Mu) (Q : ZQ) : Prop := match m with
  | false => Q (.lst xs) μ
  | true => ∀ a, μ a = none → Q (.obj a) (mupd μ a (.lst xs))
theorem low_new {K : PySem.W.Frag} {G H : Hp} {μ : Mu} {xs : List V} {ds : List D} {Q : ZQ} {p : Addr} (m : Bool) (rp : Rep K B μ G H) (i : IsAll K G xs ds) (hz : xs.length ≤ sizeLine) (n : H p = none) (q : pNew m ds μ Q) : low K B G Q (.ref p) (upd H p (.lst xs)) := by
  cases m with
  | false =>
    obtain ⟨r, e⟩ := rp.val n (o := .lst xs)
    exact ⟨.lst ds, μ, _, e, r, .lst (Evl.sq_of upd_same) hz (i.mono e), q⟩
  | true => exact ⟨.obj p, _, G, Evl.Ex.refl G, rp.newM n hz i, .obj p, q p (rp.fresh n).2.1⟩
@[simp] def zTup (tr : ZA) : ZT := fun ρ μ Q => tr ρ μ fun ds μ1 => ds.length ≤ sizeLine ∧ Q (.tup ds) μ1
@[simp] def zLst (m : Bool) (tr : ZA) : ZT := fun ρ μ Q => tr ρ μ fun ds μ1 => ds.length ≤ sizeLine ∧ pNew m ds μ1 Q
theorem z_tup {x1} (h : PA X es (za X.K B tr)) : PE X (.Tuple es x1 pos) (zl X.K B (zTup tr)) := pe_weak (fun σ H Q h => by
  obtain ⟨ρ, μ, G, Qz, rs, rp, h, k⟩ := h
  refine ⟨ρ, μ, G, _, rs, rp, h, fun x H1 h1 => ?_⟩
  obtain ⟨ds, μ1, G1, e1, rp1, i1, hz, t1⟩ := h1
  have hz2 : x.length ≤ sizeLine := by rw [i1.length]; exact hz
  exact ⟨hz2, fun p n => k _ _ ((low_newT rp1 i1 hz2 n t1).up e1)⟩) (pe_tup h)
theorem z_lst (m : Bool) (h : PA X es (za X.K B tr)) : PE X (.List es pos) (zl X.K B (zLst m tr)) := pe_weak (fun σ H Q h => by
  obtain ⟨ρ, μ, G, Qz, rs, rp, h, k⟩ := h
  refine ⟨ρ, μ, G, _, rs, rp, h, fun x H1 h1 => ?_⟩
  obtain ⟨ds, μ1, G1, e1, rp1, i1, hz, t1⟩ := h1
  have hz2 : x.length ≤ sizeLine := by rw [i1.length]; exact hz
  exact ⟨hz2, fun p n => k _ _ ((low_new m rp1 i1 hz2 n t1).up e1)⟩) (pe_lst h)
end
end
end ZL
namespace ZL
open PySem PySem.Spec PyProof.Rows L2
/-- once, or of the empty tuple: the tuple itself -/
theorem mul_same (l : Addr) (items : Array Value) (n : Nat) (dd : Option Addr) (sl : Array (Option Value)) (x : Int) (u : Tok) (c0 : (decide (x < -(2 ^ 63)) || decide (x ≥ 2 ^ 63)) = false) (c1 : (items.isEmpty || x == 1) = true) :
    Meets (Builtin.«tuple.__mul__» ⟨[.ref l, .int x u], []⟩) (fun _ R s => s.heap.get? l = some { cls := .type "tuple", dict := dd, data := .seq items n, slots := sl } ∧ R (.ok (.ret (Value.ref l))) s) :=
  .of_wp fun prog w A R s h => by
    obtain ⟨hp, g, d, tk, os⟩ := s
    obtain ⟨hl, h⟩ := h
    have f1 := AutoSeq1.idx_int
    wp_walk using wpAny_loadPart' hl
    repeat (first
      | (refine wpAny_ite_false (decide_eq_false (by rw [c0]; exact Bool.false_ne_true)) ?_; wp_walk using wpAny_loadPart' hl)
      | (refine wpAny_ite_true (decide_eq_true c1) ?_; wp_walk using wpAny_loadPart' hl))
    exact ⟨_, rfl, h⟩
/-- no times: a new empty tuple -/
theorem mul_none (l : Addr) (items : Array Value) (n : Nat) (dd : Option Addr) (sl : Array (Option Value)) (x : Int) (u : Tok) (c0 : (decide (x < -(2 ^ 63)) || decide (x ≥ 2 ^ 63)) = false) (c1 : (items.isEmpty || x == 1) = false) (c2 : (decide (x ≤ 0) || items.isEmpty) = true) :
    Meets (Builtin.«tuple.__mul__» ⟨[.ref l, .int x u], []⟩) (fun _ R s => s.heap.get? l = some { cls := .type "tuple", dict := dd, data := .seq items n, slots := sl } ∧
      R (.ok (.ret (Value.ref s.heap.objs.size))) { s with heap := s.heap.push { cls := Value.type "tuple", data := Data.seq #[] }, toks := s.toks }) :=
  .of_wp fun prog w A R s h => by
    obtain ⟨hp, g, d, tk, os⟩ := s
    obtain ⟨hl, h⟩ := h
    have f1 := AutoSeq1.idx_int
    wp_walk using wpAny_loadPart' hl
    repeat (first
      | (refine wpAny_ite_false (decide_eq_false (by rw [c0]; exact Bool.false_ne_true)) ?_; wp_walk using wpAny_loadPart' hl)
      | (refine wpAny_ite_false (decide_eq_false (by rw [c1]; exact Bool.false_ne_true)) ?_; wp_walk using wpAny_loadPart' hl)
      | (refine wpAny_ite_true (decide_eq_true c2) ?_; wp_walk using wpAny_loadPart' hl))
    exact ⟨_, rfl, h⟩
theorem fills_tup_mul : fillsNumberSlot (.type "tuple") "mul" = pure false := L2.noFill_tuple_mul
section
variable {X : Cx}
/-- t * 0, t * 1, () * k -/
def rRepS (K : PySem.W.Frag) : R2 := fun x y H Q => ∃ l k xs, x = .ref l ∧ y = .int k ∧ SqT K H l xs ∧ 0 ≤ k ∧ k ≤ 1000 ∧ (xs = [] ∨ k = 1 → Q (.ref l) H) ∧ (xs ≠ [] → k = 0 → ∀ p, H p = none → Q (.ref p) (upd H p (.tup [])))
theorem op_repS (hh : True) : OpR X (binaryOp .Mult) (fun x y H Q => rRepS X.K x y H Q ∧ ∀ l k xs, x = .ref l → y = .int k → SqT X.K H l xs → xs = [] ∨ k = 0 ∨ k = 1) := by
  intro pins s σ H x y v u Q I rx ry h
  obtain ⟨⟨l, k, xs, ex, ey, hT, h1, h2, q1, q2⟩, small⟩ := h
  have sm := small l k xs ex ey hT
  subst ex; subst ey
  cases rx
  obtain ⟨t, rfl⟩ := ry
  obtain ⟨its, r, ⟨⟨cls, dd, data, sl⟩, ho, hc, n, hd⟩, hs⟩ := I.tuple hT
  simp only at hc hd
  subst hc hd
  have c0 : (decide (k < -(2 ^ 63)) || decide (k ≥ 2 ^ 63)) = false := by
    have z1 : ¬ k < -(2 ^ 63) := by omega
    have z2 : ¬ k ≥ 2 ^ 63 := by omega
    rw [decide_eq_false z1, decide_eq_false z2]
    rfl
  by_cases hz : xs = [] ∨ k = 1
  · have c1 : (its.toArray.isEmpty || k == 1) = true := by
      rcases hz with z | z
      · subst z
        cases r
        rfl
      · subst z
        rw [Bool.or_eq_true]
        exact .inr rfl
    exact wpAny_binaryOp_repeat_ref (T := "tuple") (U := "int") (by decide) ⟨_, ho, rfl⟩ (fun s' => typeIs_int s' k t) fills_tup_mul F.fills_int_mul F.slot_int_rmul L2.repeat_tuple F.slot_int_index.lookup
      (call_meets F.slot_int_rmul (typeIs_int s k t) F.entry_int_rmul (F.args_int_rmul_2 _ _) (L2.int_rmul_tuple k t l its.toArray n dd sl)
        ⟨ho, rfl, ⟨_, ho, rfl⟩, call_meets F.slot_tuple_mul ⟨_, ho, rfl⟩ F.entry_tuple_mul (F.args_tuple_mul_2 _ _) (mul_same l its.toArray n dd sl k t c0 c1) ⟨ho, ⟨.ref l, H, I, rfl, q1 hz⟩⟩⟩)
  · have hx : xs ≠ [] := fun z => hz (.inl z)
    have hk : k = 0 := by
      rcases sm with z | z | z
      · exact absurd z hx
      · exact z
      · exact absurd (.inr z) hz
    subst hk
    have hi : its.toArray.isEmpty = false := by
      cases r with
      | nil => exact absurd rfl hx
      | cons _ _ => rfl
    have c1 : (its.toArray.isEmpty || (0 : Int) == 1) = false := by rw [hi]; rfl
    have c2 : (decide ((0 : Int) ≤ 0) || its.toArray.isEmpty) = true := rfl
    refine wpAny_binaryOp_repeat_ref (T := "tuple") (U := "int") (by decide) ⟨_, ho, rfl⟩ (fun s' => typeIs_int s' 0 t) fills_tup_mul F.fills_int_mul F.slot_int_rmul L2.repeat_tuple F.slot_int_index.lookup
      (call_meets F.slot_int_rmul (typeIs_int s 0 t) F.entry_int_rmul (F.args_int_rmul_2 _ _) (L2.int_rmul_tuple 0 t l its.toArray n dd sl)
        ⟨ho, rfl, ⟨_, ho, rfl⟩, call_meets F.slot_tuple_mul ⟨_, ho, rfl⟩ F.entry_tuple_mul (F.args_tuple_mul_2 _ _) (mul_none l its.toArray n dd sl 0 t c0 c1 c2) ⟨ho, ?_⟩⟩)
    refine ⟨.ref s.heap.objs.size, _, I.laid (t' := s.toks) (o := .tup []) (fun b ob q => Heap.get?_push_of_some _ q) (Nat.le_refl _) ?_, rfl, q2 hx rfl _ (I.hok.fresh (Nat.le_refl _))⟩
    exact ⟨Nat.zero_le _, [], .nil, IsTup.new _ _⟩
/-- t * k, 0 ≤ k ≤ 1000, of any tuple below 1000 -/
def rRepA (K : PySem.W.Frag) : R2 := fun x y H Q => ∃ l k xs, x = .ref l ∧ y = .int k ∧ SqT K H l xs ∧ 0 ≤ k ∧ k ≤ 1000 ∧ xs.length ≤ 1000 ∧ (xs = [] ∨ k = 1 → Q (.ref l) H) ∧ (xs ≠ [] → k ≠ 1 → ∀ p, H p = none → Q (.ref p) (upd H p (.tup (List.replicate k.toNat xs).flatten)))
theorem op_repA : OpR X (binaryOp .Mult) (rRepA X.K) := by
  intro pins s σ H x y v u Q I rx ry h
  obtain ⟨l, k, xs, ex, ey, hT, h1, h2, hl, q1, q2⟩ := h
  by_cases hs : xs = [] ∨ k = 0 ∨ k = 1
  · refine op_repS trivial pins s σ H x y v u Q I rx ry ⟨⟨l, k, xs, ex, ey, hT, h1, h2, q1, fun z1 z2 p n => ?_⟩, fun l2 k2 xs2 e1 e2 h3 => ?_⟩
    · subst z2
      exact q2 z1 (by omega) p n
    · rw [ex] at e1; cases e1
      rw [ey] at e2; cases e2
      rw [I.tuple_inj h3 hT]
      exact hs
  · have n1 : xs ≠ [] := fun z => hs (.inl z)
    have n2 : k ≠ 0 := fun z => hs (.inr (.inl z))
    have n3 : k ≠ 1 := fun z => hs (.inr (.inr z))
    exact op_repT pins s σ H x y v u Q I rx ry ⟨l, k, xs, ex, ey, hT, n1, by omega, h2, hl, fun p n => q2 n1 n3 p n⟩
end
end ZL
namespace ZL
open PySem PySem.Spec PyProof.Rows L2
/-! ### operators on data -/
@[simp] def pAdd (m : Bool) : P2 := fun d e μ Q => match d, e with
  | .int i, .int j => Q (.int (i + j)) μ
  | .str a, .str b => a.length + b.length ≤ sizeLine ∧ Q (.str (a ++ b)) μ
  | .tup xs, .tup ys => xs.length + ys.length ≤ sizeLine ∧ Q (.tup (xs ++ ys)) μ
  | d, e => match asP μ d, asP μ e with
    | some xs, some ys => xs.length + ys.length ≤ sizeLine ∧ pNew m (xs ++ ys) μ Q
    | _, _ => False
@[simp] def pSub : P2 := fun d e μ Q => match d, e with
  | .int i, .int j => Q (.int (i - j)) μ
  | _, _ => False
/-- bits of a number, for bounds -/
def bits (i : Int) : Nat := i.natAbs.log2
@[simp] def pMul : P2 := fun d e μ Q => match d, e with
  | .int i, .int j => bits i + bits j < 1000000 ∧ Q (.int (i * j)) μ
  | .tup xs, .int k => (0 ≤ k ∧ k ≤ 1000 ∧ xs.length ≤ 1000) ∧ Q (.tup (List.replicate k.toNat xs).flatten) μ
  | _, _ => False
@[simp] def pDiv : P2 := fun d e μ Q => match d, e with
  | .int i, .int j => (j ≠ 0 ∧ j.natAbs < 1073741824 ∨ 0 < j ∧ bits j < 9000) ∧ Q (.int (i.fdiv j)) μ
  | _, _ => False
@[simp] def pMod : P2 := fun d e μ Q => match d, e with
  | .int i, .int j => j ≠ 0 ∧ Q (.int (i.fmod j)) μ
  | _, _ => False
@[simp] def pPow : P2 := fun d e μ Q => match d, e with
  | .int i, .int j => (0 ≤ j ∧ j ≤ 1000000 ∧ i.natAbs < 2 ^ 64) ∧ Q (.int (i ^ j.toNat)) μ
  | _, _ => False
@[simp] def pNeg : P1 := fun d μ Q => match d with
  | .int i => Q (.int (-i)) μ
  | _ => False
@[simp] def pCmp (p : Int → Int → Bool) : P2 := fun d e μ Q => match d, e with
  | .int i, .int j => Q (.bl (p i j)) μ
  | _, _ => False
@[simp] def pLt : P2 := pCmp fun i j => decide (i < j)
@[simp] def pLe : P2 := pCmp fun i j => decide (i ≤ j)
@[simp] def pGt : P2 := pCmp fun i j => decide (j < i)
@[simp] def pGe : P2 := pCmp fun i j => decide (j ≤ i)
@[simp] def pEq : P2 := fun d e μ Q => (fit 60 (view μ d) = true ∧ fit 60 (view μ e) = true) ∧ Q (.bl (eqD (view μ d) (view μ e))) μ
@[simp] def pNe : P2 := fun d e μ Q => (fit 60 (view μ d) = true ∧ fit 60 (view μ e) = true) ∧ Q (.bl (!eqD (view μ d) (view μ e))) μ
def isNon : D → Bool
  | .non => true
  | _ => false
@[simp] theorem isNon_non : isNon .non = true := rfl
@[simp] theorem isNon_bl (b : Bool) : isNon (.bl b) = false := rfl
@[simp] theorem isNon_int (b : Int) : isNon (.int b) = false := rfl
@[simp] theorem isNon_str (b : Str) : isNon (.str b) = false := rfl
@[simp] theorem isNon_tup (b : List D) : isNon (.tup b) = false := rfl
@[simp] theorem isNon_lst (b : List D) : isNon (.lst b) = false := rfl
@[simp] theorem isNon_obj (b : Addr) : isNon (.obj b) = false := rfl
@[simp] def pIsN : P2 := fun d e μ Q => match e with
  | .non => Q (.bl (isNon d)) μ
  | _ => False
@[simp] def pIsNotN : P2 := fun d e μ Q => match e with
  | .non => Q (.bl (!isNon d)) μ
  | _ => False
section
variable {X : Cx} {B : Bs}
/-- t + u of any two lists that may be read -/
def rCatL (K : PySem.W.Frag) : R2 := fun x y H Q => ∃ l b xs zs, x = .ref l ∧ y = .ref b ∧ SqL K H l xs ∧ SqL K H b zs ∧ xs.length + zs.length ≤ sizeLine ∧ ∀ p, H p = none → Q (.ref p) (upd H p (.lst (xs ++ zs)))
theorem op_catL : OpR X (binaryOp .Add) (rCatL X.K) := by
  intro pins s σ H x y v u Q I rx ry h
  obtain ⟨l, b, xs, zs, ex, ey, hH, hB, hz, q⟩ := h
  subst ex; subst ey
  cases rx; cases ry
  obtain ⟨its, r1, ⟨o1, n1, g1, c1, d1, k1⟩, z1⟩ := I.list hH
  obtain ⟨its2, r2, ⟨o2, n2, g2, c2, d2, k2⟩, z2⟩ := I.list hB
  obtain ⟨cls, dd, dat, sl⟩ := o1
  obtain ⟨cls2, dd2, dat2, sl2⟩ := o2
  simp only at c1 d1 k1 c2 d2 k2
  subst c1 d1 k1 c2 d2 k2
  have e1 : its.toArray ++ its2.toArray = (its ++ its2).toArray := by simp
  refine concat_meets ⟨_, g1, rfl⟩ ⟨_, g2, rfl⟩ noFill_list_add seq_list_add PySem.F.slot_list_add PySem.F.entry_list_add (PySem.F.args_list_add_2 _ _)
    (list_addW l b its.toArray its2.toArray n1 n2 none none sl sl2 (by rw [List.size_toArray, List.size_toArray, ← r1.length, ← r2.length]; exact hz)) ⟨g1, g2, ?_⟩
  rw [e1]
  exact ⟨.ref _, _, I.lnew (t' := s.toks) (r1.append r2) (by rw [List.length_append]; exact hz), rfl, q _ I.fresh⟩
/-- t * k for the k that make no new tuple -/
def rRep1 (K : PySem.W.Frag) : R2 := fun x y H Q => ∃ l xs, x = .ref l ∧ y = .int 1 ∧ SqT K H l xs ∧ Q (.ref l) H
theorem ok_add (m : Bool) : Ok2 X.K B (fun x y H Q => (rI0 fun i j => .int (i + j)) x y H Q ∨ (fun x y H Q => (fun x y H Q => ∃ i j, x = .str i ∧ y = .str j ∧ i.length + j.length ≤ sizeLine ∧ Q (.str (i ++ j)) H) x y H Q ∨ (fun x y H Q => rCatA X.K x y H Q ∨ rCatL X.K x y H Q) x y H Q) x y H Q) (pAdd m) := by
  intro μ G H x y d e Q Q' rp ix iy h k
  have lists : ∀ xs ys, asP μ d = some xs → asP μ e = some ys → xs.length + ys.length ≤ sizeLine → pNew m (xs ++ ys) μ Q → rCatL X.K x y H Q' := by
    intro xs ys h1 h2 hz q
    obtain ⟨a, vs, ea, sa, za, ta⟩ := seqP rp ix h1
    obtain ⟨b, ws, eb, sb, zb, tb⟩ := seqP rp iy h2
    have hz2 : vs.length + ws.length ≤ sizeLine := by rw [ta.length, tb.length]; exact hz
    exact ⟨a, b, vs, ws, ea, eb, sa, sb, hz2, fun p n => k _ _ (low_new m rp (ta.append tb) (by rw [List.length_append]; exact hz2) n q)⟩
  have other : (match asP μ d, asP μ e with
    | some xs, some ys => xs.length + ys.length ≤ sizeLine ∧ pNew m (xs ++ ys) μ Q
    | _, _ => False) → rCatL X.K x y H Q' := by
    intro h
    cases h1 : asP μ d with
    | none => rw [h1] at h; exact h.elim
    | some xs =>
      cases h2 : asP μ e with
      | none => rw [h1, h2] at h; exact h.elim
      | some ys =>
        rw [h1, h2] at h
        exact lists xs ys h1 h2 h.1 h.2
  unfold pAdd at h
  split at h
  · cases ix; cases iy
    exact .inl ⟨_, _, rfl, rfl, k _ _ (low.same rp (.int _) h)⟩
  · cases ix; cases iy
    exact .inr (.inl ⟨_, _, rfl, rfl, h.1, k _ _ (low.same rp (.str _) h.2)⟩)
  · rename_i xs ys
    obtain ⟨hz, q⟩ := h
    obtain ⟨a, vs, ea, sa, za, ta⟩ := seqT rp ix (ds := xs) rfl
    obtain ⟨b, ws, eb, sb, zb, tb⟩ := seqT rp iy (ds := ys) rfl
    have hz2 : vs.length + ws.length ≤ sizeLine := by rw [ta.length, tb.length]; exact hz
    refine .inr (.inr (.inl ⟨a, b, vs, ws, ea, eb, sa, sb, hz2, fun z => ?_, fun z1 z2 => ?_, fun z1 z2 p n => k _ _ (low_newT rp (ta.append tb) (by rw [List.length_append]; exact hz2) n q)⟩))
    · subst z
      cases ta
      rw [← eb]
      exact k _ _ (low.same rp iy q)
    · subst z2
      cases tb
      rw [← ea]
      rw [List.append_nil] at q
      exact k _ _ (low.same rp ix q)
  · exact .inr (.inr (.inr (other h)))
theorem z_add {a b : Expr} {ta tb : ZT} {pos : Pos} (m : Bool) (ha : PE X a (zl X.K B ta)) (hb : PE X b (zl X.K B tb)) : PE X (.BinOp a .Add b pos) (zl X.K B (zOp (pAdd m) ta tb)) :=
  z_op (OpR.or op_add (OpR.or op_add_str (OpR.or op_catA op_catL))) (ok_add m) ha hb
theorem ok_sub : Ok2 X.K B (rI0 fun i j => .int (i - j)) pSub := by
  intro μ G H x y d e Q Q' rp ix iy h k
  unfold pSub at h
  split at h
  · cases ix; cases iy
    exact ⟨_, _, rfl, rfl, k _ _ (low.same rp (.int _) h)⟩
  · exact h.elim
theorem z_sub {a b : Expr} {ta tb : ZT} {pos : Pos} (ha : PE X a (zl X.K B ta)) (hb : PE X b (zl X.K B tb)) : PE X (.BinOp a .Sub b pos) (zl X.K B (zOp pSub ta tb)) := z_op op_sub ok_sub ha hb
theorem ok_mul : Ok2 X.K B (fun x y H Q => rI CMulW (fun i j => .int (i * j)) x y H Q ∨ rRepA X.K x y H Q) pMul := by
  intro μ G H x y d e Q Q' rp ix iy h k
  unfold pMul at h
  split at h
  · cases ix; cases iy
    exact .inl ⟨_, _, rfl, rfl, h.1, k _ _ (low.same rp (.int _) h.2)⟩
  · rename_i xs n
    obtain ⟨⟨h1, h2, h3⟩, q⟩ := h
    obtain ⟨a, vs, ea, sa, za, ta⟩ := seqT rp ix (ds := xs) rfl
    cases iy
    have hl := ta.length
    refine .inr ⟨a, n, vs, ea, rfl, sa, h1, h2, by omega, fun z => ?_, fun z1 z2 p np => k _ _ (low_newT rp (ta.rep n.toNat) ?_ np q)⟩
    · have e1 : (List.replicate n.toNat xs).flatten = xs := by
        rcases z with z | z
        · subst z
          cases ta
          induction n.toNat with
          | zero => rfl
          | succ m ih => rw [List.replicate_succ, List.flatten_cons, ih]; rfl
        · subst z
          show (List.replicate 1 xs).flatten = xs
          simp
      rw [e1] at q
      rw [← ea]
      exact k _ _ (low.same rp ix q)
    · rw [PyProof.Rows.lm_len_rep_flat, sizeLine_eq]
      have a1 : n.toNat * vs.length ≤ 1000 * 1000 := Nat.mul_le_mul (by omega) (by omega)
      omega
  · exact h.elim
theorem z_mul {a b : Expr} {ta tb : ZT} {pos : Pos} (ha : PE X a (zl X.K B ta)) (hb : PE X b (zl X.K B tb)) : PE X (.BinOp a .Mult b pos) (zl X.K B (zOp pMul ta tb)) := z_op (OpR.or op_mulW op_repA) ok_mul ha hb
theorem ok_div : Ok2 X.K B (fun x y H Q => rI CDivN (fun i j => .int (i.fdiv j)) x y H Q ∨ rI CDivW (fun i j => .int (i / j)) x y H Q) pDiv := by
  intro μ G H x y d e Q Q' rp ix iy h k
  unfold pDiv at h
  split at h
  · cases ix; cases iy
    rename_i i j
    obtain ⟨c | c, q⟩ := h
    · exact .inl ⟨_, _, rfl, rfl, c, k _ _ (low.same rp (.int _) q)⟩
    · refine .inr ⟨_, _, rfl, rfl, ⟨c.1, c.2⟩, k _ _ (low.same rp (.int _) ?_)⟩
      rw [Int.fdiv_eq_ediv_of_nonneg i (by omega)] at q
      exact q
  · exact h.elim
theorem z_div {a b : Expr} {ta tb : ZT} {pos : Pos} (ha : PE X a (zl X.K B ta)) (hb : PE X b (zl X.K B tb)) : PE X (.BinOp a .FloorDiv b pos) (zl X.K B (zOp pDiv ta tb)) := z_op (OpR.or op_fdivN op_fdivW) ok_div ha hb
theorem ok_mod : Ok2 X.K B (rI (fun _ j => j ≠ 0) fun i j => .int (i.fmod j)) pMod := by
  intro μ G H x y d e Q Q' rp ix iy h k
  unfold pMod at h
  split at h
  · cases ix; cases iy
    exact ⟨_, _, rfl, rfl, h.1, k _ _ (low.same rp (.int _) h.2)⟩
  · exact h.elim
theorem z_mod {a b : Expr} {ta tb : ZT} {pos : Pos} (ha : PE X a (zl X.K B ta)) (hb : PE X b (zl X.K B tb)) : PE X (.BinOp a .Mod b pos) (zl X.K B (zOp pMod ta tb)) := z_op op_modN ok_mod ha hb
theorem ok_pow : Ok2 X.K B (rI CPow fun i j => .int (i ^ j.toNat)) pPow := by
  intro μ G H x y d e Q Q' rp ix iy h k
  unfold pPow at h
  split at h
  · cases ix; cases iy
    exact ⟨_, _, rfl, rfl, h.1, k _ _ (low.same rp (.int _) h.2)⟩
  · exact h.elim
theorem z_pow {a b : Expr} {ta tb : ZT} {pos : Pos} (ha : PE X a (zl X.K B ta)) (hb : PE X b (zl X.K B tb)) : PE X (.BinOp a .Pow b pos) (zl X.K B (zOp pPow ta tb)) := z_op op_pow ok_pow ha hb
theorem ok_neg : Ok1 X.K B (rU fun i => .int (-i)) pNeg := by
  intro μ G H x d Q Q' rp ix h k
  unfold pNeg at h
  split at h
  · cases ix
    exact ⟨_, rfl, k _ _ (low.same rp (.int _) h)⟩
  · exact h.elim
theorem z_neg {a : Expr} {ta : ZT} {pos : Pos} (ha : PE X a (zl X.K B ta)) : PE X (.UnaryOp .USub a pos) (zl X.K B (zUn pNeg ta)) := z_un un_neg ok_neg ha
theorem ok_cmp (p : Int → Int → Bool) : Ok2 X.K B (rI0 fun i j => .bl (p i j)) (pCmp p) := by
  intro μ G H x y d e Q Q' rp ix iy h k
  unfold pCmp at h
  split at h
  · cases ix; cases iy
    exact ⟨_, _, rfl, rfl, k _ _ (low.same rp (.bl _) h)⟩
  · exact h.elim
theorem ok_eq : Ok2 X.K B (rEqD X.K) pEq := by
  intro μ G H x y d e Q Q' rp ix iy h k
  obtain ⟨⟨f1, f2⟩, q⟩ := h
  refine ⟨py (view μ d), py (view μ e), is_dp (is_view rp ix) f1, is_dp (is_view rp iy) f2, fit_shaped f1, fit_shaped f2, ?_⟩
  rw [eqD_py]
  exact k _ _ (low.same rp (.bl _) q)
theorem ok_ne : Ok2 X.K B (rNeD X.K) pNe := by
  intro μ G H x y d e Q Q' rp ix iy h k
  obtain ⟨⟨f1, f2⟩, q⟩ := h
  refine ⟨py (view μ d), py (view μ e), is_dp (is_view rp ix) f1, is_dp (is_view rp iy) f2, fit_shaped f1, fit_shaped f2, ?_⟩
  rw [eqD_py]
  exact k _ _ (low.same rp (.bl _) q)
theorem ok_isN : Ok2 X.K B (fun x y H Q => y = .non ∧ Q (.bl (decide (x = .non))) H) pIsN := by
  intro μ G H x y d e Q Q' rp ix iy h k
  unfold pIsN at h
  split at h
  · cases iy
    refine ⟨rfl, ?_⟩
    have e1 : decide (x = .non) = isNon d := by cases ix <;> rfl
    rw [e1]
    exact k _ _ (low.same rp (.bl _) h)
  · exact h.elim
theorem ok_notN : Ok2 X.K B (fun x y H Q => y = .non ∧ Q (.bl (!decide (x = .non))) H) pIsNotN := by
  intro μ G H x y d e Q Q' rp ix iy h k
  unfold pIsNotN at h
  split at h
  · cases iy
    refine ⟨rfl, ?_⟩
    have e1 : decide (x = .non) = isNon d := by cases ix <;> rfl
    rw [e1]
    exact k _ _ (low.same rp (.bl _) h)
  · exact h.elim
/-- is True, is not True, is False: two bools -/
@[simp] def pIsB (neg : Bool) : P2 := fun d e μ Q => match d, e with
  | .bl a, .bl b => Q (.bl (xor neg (a == b))) μ
  | _, _ => False
def rIsB (neg : Bool) : R2 := fun x y H Q => ∃ a b, x = .bl a ∧ y = .bl b ∧ Q (.bl (xor neg (a == b))) H
theorem op_isB : OpR X (compareOp .Is) (rIsB false) := by
  intro pins s σ H x y v u Q I rx ry h
  obtain ⟨a, b, ex, ey, q⟩ := h
  subst ex; subst ey; cases rx; cases ry
  refine wpAny_is_plain (by cases a <;> cases b <;> rfl) ⟨.bl _, H, I, ?_, q⟩
  show Value.bool (Value.bool a == Value.bool b) = Value.bool (xor false (a == b))
  cases a <;> cases b <;> rfl
theorem op_isNotB : OpR X (compareOp .IsNot) (rIsB true) := by
  intro pins s σ H x y v u Q I rx ry h
  obtain ⟨a, b, ex, ey, q⟩ := h
  subst ex; subst ey; cases rx; cases ry
  refine wpAny_isNot_plain (by cases a <;> cases b <;> rfl) ⟨.bl _, H, I, ?_, q⟩
  show Value.bool (!(Value.bool a == Value.bool b)) = Value.bool (xor true (a == b))
  cases a <;> cases b <;> rfl
theorem ok_isB (neg : Bool) : Ok2 X.K B (rIsB neg) (pIsB neg) := by
  intro μ G H x y d e Q Q' rp ix iy h k
  unfold pIsB at h
  split at h
  · cases ix; cases iy
    exact ⟨_, _, rfl, rfl, k _ _ (low.same rp (.bl _) h)⟩
  · exact h.elim
/-- in, not in: flat items -/
@[simp] def flatD : D → Bool
  | .non => true
  | .bl _ => true
  | .int _ => true
  | .str _ => true
  | _ => false
@[simp] def pIn (neg : Bool) : P2 := fun d e μ Q => match asS μ e with
  | some xs => (flatD d = true ∧ xs.all flatD = true) ∧ Q (.bl (xor neg (xs.any fun y => eqD y d))) μ
  | none => False
theorem flat_of {K : PySem.W.Frag} {G : Hp} {v : V} {d : D} (i : Is K G v d) (f : flatD d = true) : flatV v = true := by
  cases i <;> first | rfl | cases f
theorem flat_all {K : PySem.W.Frag} {G : Hp} : ∀ {vs : List V} {ds : List D}, IsAll K G vs ds → ds.all flatD = true → vs.all flatV = true
  | _, _, .nil, _ => rfl
  | _, _, .cons i t, h => by
    rw [List.all_cons, Bool.and_eq_true] at h ⊢
    exact ⟨flat_of i h.1, flat_all t h.2⟩
theorem eq_flat {K : PySem.W.Frag} {G : Hp} {v w : V} {d e : D} (i : Is K G v d) (j : Is K G w e) (f : flatD d = true) (g : flatD e = true) : eqV v w = eqD d e := by
  cases i <;> cases j <;> first | rfl | exact absurd f Bool.false_ne_true | exact absurd g Bool.false_ne_true
theorem any_flat {K : PySem.W.Frag} {G : Hp} {w : V} {e : D} (j : Is K G w e) (g : flatD e = true) : ∀ {vs : List V} {ds : List D}, IsAll K G vs ds → ds.all flatD = true → inV w vs = ds.any fun y => eqD y e
  | _, _, .nil, _ => rfl
  | _, _, .cons i t, h => by
    rw [List.all_cons, Bool.and_eq_true] at h
    have ih := any_flat j g t h.2
    unfold inV at ih ⊢
    rw [List.any_cons, List.any_cons, ih, eq_flat i j h.1 g]
theorem ok_in (neg : Bool) : Ok2 X.K B (rIn X.K neg) (pIn neg) := by
  intro μ G H x y d e Q Q' rp ix iy h k
  unfold pIn at h
  cases hs : asS μ e with
  | none => rw [hs] at h; exact h.elim
  | some xs =>
    rw [hs] at h
    obtain ⟨⟨f, g⟩, q⟩ := h
    obtain ⟨a, vs, ea, sa, za, ta⟩ := seqS rp iy hs
    refine ⟨a, vs, ea, sa, flat_of ix f, flat_all ta g, ?_⟩
    have e1 := any_flat ix f ta g
    cases neg with
    | false =>
      show Q' (.bl (inV x vs)) H
      rw [e1]
      refine k _ _ (low.same rp (.bl _) ?_)
      rw [Bool.false_xor] at q
      exact q
    | true =>
      show Q' (.bl (!inV x vs)) H
      rw [e1]
      refine k _ _ (low.same rp (.bl _) ?_)
      rw [Bool.true_xor] at q
      exact q
section
variable {a b : Expr} {ta tb : ZT} {pos : Pos}
theorem z_lt (ha : PE X a (zl X.K B ta)) (hb : PE X b (zl X.K B tb)) : PE X (.Compare a [.Lt] [b] pos) (zl X.K B (zOp pLt ta tb)) := z_cmp op_lt (ok_cmp _) ha hb (nomark _)
theorem z_le (ha : PE X a (zl X.K B ta)) (hb : PE X b (zl X.K B tb)) : PE X (.Compare a [.LtE] [b] pos) (zl X.K B (zOp pLe ta tb)) := z_cmp op_le (ok_cmp _) ha hb (nomark _)
theorem z_gt (ha : PE X a (zl X.K B ta)) (hb : PE X b (zl X.K B tb)) : PE X (.Compare a [.Gt] [b] pos) (zl X.K B (zOp pGt ta tb)) := z_cmp op_gt (ok_cmp _) ha hb (nomark _)
theorem z_ge (ha : PE X a (zl X.K B ta)) (hb : PE X b (zl X.K B tb)) : PE X (.Compare a [.GtE] [b] pos) (zl X.K B (zOp pGe ta tb)) := z_cmp op_ge (ok_cmp _) ha hb (nomark _)
theorem z_eq (hu : X.A.units + 64 < cLine) (ha : PE X a (zl X.K B ta)) (hb : PE X b (zl X.K B tb)) : PE X (.Compare a [.Eq] [b] pos) (zl X.K B (zOp pEq ta tb)) := z_cmp (op_eqD hu) ok_eq ha hb (nomark _)
theorem z_ne (hu : X.A.units + 64 < cLine) (ha : PE X a (zl X.K B ta)) (hb : PE X b (zl X.K B tb)) : PE X (.Compare a [.NotEq] [b] pos) (zl X.K B (zOp pNe ta tb)) := z_cmp (op_neD hu) ok_ne ha hb (nomark _)
theorem z_isN (ha : PE X a (zl X.K B ta)) (hb : PE X b (zl X.K B tb)) : PE X (.Compare a [.Is] [b] pos) (zl X.K B (zOp pIsN ta tb)) := z_cmp op_isN ok_isN ha hb (nomark _)
theorem z_notN (ha : PE X a (zl X.K B ta)) (hb : PE X b (zl X.K B tb)) : PE X (.Compare a [.IsNot] [b] pos) (zl X.K B (zOp pIsNotN ta tb)) := z_cmp op_notN ok_notN ha hb (nomark _)
theorem z_isB (ha : PE X a (zl X.K B ta)) (hb : PE X b (zl X.K B tb)) : PE X (.Compare a [.Is] [b] pos) (zl X.K B (zOp (pIsB false) ta tb)) := z_cmp op_isB (ok_isB _) ha hb (nomark _)
theorem z_notB (ha : PE X a (zl X.K B ta)) (hb : PE X b (zl X.K B tb)) : PE X (.Compare a [.IsNot] [b] pos) (zl X.K B (zOp (pIsB true) ta tb)) := z_cmp op_isNotB (ok_isB _) ha hb (nomark _)
theorem z_in (hm : behindInMarks .In b = false) (ha : PE X a (zl X.K B ta)) (hb : PE X b (zl X.K B tb)) : PE X (.Compare a [.In] [b] pos) (zl X.K B (zOp (pIn false) ta tb)) := z_cmp op_in_seq (ok_in _) ha hb hm
theorem z_notin (hm : behindInMarks .NotIn b = false) (ha : PE X a (zl X.K B ta)) (hb : PE X b (zl X.K B tb)) : PE X (.Compare a [.NotIn] [b] pos) (zl X.K B (zOp (pIn true) ta tb)) := z_cmp op_notIn_seq (ok_in _) ha hb hm
end
end
end ZL
namespace ZL
open PySem PySem.Spec PyProof.Rows L2
/-! ### places, slices -/
def pIx : P2 := fun d e μ Q => match d, e with
  | .str z, .int i => z.length ≤ sizeLine ∧ (match atI z.cps.toList i with
    | some c => Q (.str ⟨#[c]⟩) μ
    | none => False)
  | d, .int i => (match asS μ d with
    | some xs => (match atI xs i with
      | some v => Q v μ
      | none => False)
    | none => False)
  | _, _ => False
@[simp] theorem pIx_str (z : Str) (i : Int) (μ : Mu) (Q : ZQ) : pIx (.str z) (.int i) μ Q = (z.length ≤ sizeLine ∧ (match atI z.cps.toList i with
    | some c => Q (.str ⟨#[c]⟩) μ
    | none => False)) := rfl
@[simp] theorem pIx_tup (xs : List D) (i : Int) (μ : Mu) (Q : ZQ) : pIx (.tup xs) (.int i) μ Q = (match atI xs i with
    | some v => Q v μ
    | none => False) := rfl
@[simp] theorem pIx_lst (xs : List D) (i : Int) (μ : Mu) (Q : ZQ) : pIx (.lst xs) (.int i) μ Q = (match atI xs i with
    | some v => Q v μ
    | none => False) := rfl
@[simp] theorem pIx_obj (a : Addr) (i : Int) (μ : Mu) (Q : ZQ) : pIx (.obj a) (.int i) μ Q = (match asS μ (.obj a) with
    | some xs => (match atI xs i with
      | some v => Q v μ
      | none => False)
    | none => False) := rfl
theorem at_is {K : PySem.W.Frag} {G : Hp} {vs : List V} {ds : List D} {i : Int} {d : D} (t : IsAll K G vs ds) (h : atI ds i = some d) : ∃ v, atI vs i = some v ∧ Is K G v d := by
  unfold atI at h ⊢
  rw [t.length]
  cases q : ixN ds.length i with
  | none => rw [q] at h; cases h
  | some j =>
    rw [q] at h
    obtain ⟨v, h1, h2⟩ := t.get h
    exact ⟨v, h1, h2⟩
def cutD (xs : List D) (lo hi : Option Int) : List D := (xs.drop (HT.sIx xs.length 0 lo)).take (HT.sIx xs.length xs.length hi - HT.sIx xs.length 0 lo)
theorem cut_is {K : PySem.W.Frag} {G : Hp} {vs : List V} {ds : List D} {lo hi : Option Int} (t : IsAll K G vs ds) : IsAll K G (cutV vs lo hi) (cutD ds lo hi) := by
  unfold cutV cutD
  rw [t.length]
  exact (t.drop _).take _
abbrev ZO := Rho → Mu → (Option Int → Mu → Prop) → Prop
def zo (K : PySem.W.Frag) (B : Bs) (t : ZO) : TO := fun σ H Q' => ∃ ρ μ G Q, RepS K ρ σ G ∧ Rep K B μ G H ∧ t ρ μ Q ∧ ∀ o H', (∃ μ' G', Ex G G' ∧ Rep K B μ' G' H' ∧ Q o μ') → Q' o H'
@[simp] def zNoPart : ZO := fun _ μ Q => Q none μ
@[simp] def zPart (t : ZT) : ZO := fun ρ μ Q => t ρ μ fun d μ1 => match d with
  | .int i => Q (some i) μ1
  | _ => False
def pSl (m : Bool) (d : D) (lo hi : Option Int) : Mu → ZQ → Prop := fun μ Q => match d with
  | .tup xs => Q (.tup (cutD xs lo hi)) μ
  | .str z => z.length ≤ sizeLine ∧ Q (.str (cutS z lo hi)) μ
  | d => (match asP μ d with
    | some xs => pNew m (cutD xs lo hi) μ Q
    | none => False)
@[simp] theorem pSl_tup (m : Bool) (xs : List D) (lo hi : Option Int) (μ : Mu) (Q : ZQ) : pSl m (.tup xs) lo hi μ Q = Q (.tup (cutD xs lo hi)) μ := rfl
@[simp] theorem pSl_str (m : Bool) (z : Str) (lo hi : Option Int) (μ : Mu) (Q : ZQ) : pSl m (.str z) lo hi μ Q = (z.length ≤ sizeLine ∧ Q (.str (cutS z lo hi)) μ) := rfl
@[simp] theorem pSl_lst (m : Bool) (xs : List D) (lo hi : Option Int) (μ : Mu) (Q : ZQ) : pSl m (.lst xs) lo hi μ Q = pNew m (cutD xs lo hi) μ Q := rfl
@[simp] theorem pSl_obj (m : Bool) (a : Addr) (lo hi : Option Int) (μ : Mu) (Q : ZQ) : pSl m (.obj a) lo hi μ Q = (match asP μ (.obj a) with
    | some xs => pNew m (cutD xs lo hi) μ Q
    | none => False) := rfl
@[simp] def zSl (m : Bool) (te : ZT) (tl th : ZO) : ZT := fun ρ μ Q => te ρ μ fun d μ1 => tl ρ μ1 fun l μ2 => th ρ μ2 fun u μ3 => pSl m d l u μ3 Q
section
variable {X : Cx} {B : Bs} {a b e : Expr} {ta tb te : ZT} {pos p2 : Pos} {lo hi : Option Expr} {tl th : ZO}
theorem ok_ix : Ok2 X.K B (rIx X.K) pIx := by
  intro μ G H x y d e Q Q' rp ix iy h k
  have seq : ∀ i xs v, asS μ d = some xs → atI xs i = some v → Q v μ → y = .int i → rIx X.K x y H Q' := by
    intro i xs v h1 h2 q ey
    obtain ⟨a, vs, ea, sa, za, tt⟩ := seqS rp ix h1
    obtain ⟨w, h3, h4⟩ := at_is tt h2
    rcases sa with sa | sa
    · exact .inl ⟨a, vs, i, w, ea, ey, sa, h3, k _ _ (low.same rp h4 q)⟩
    · exact .inr (.inl ⟨a, vs, i, w, ea, ey, sa, h3, k _ _ (low.same rp h4 q)⟩)
  unfold pIx at h
  split at h
  · cases ix; cases iy
    obtain ⟨hz, h⟩ := h
    split at h
    · rename_i c hc
      exact .inr (.inr ⟨_, _, c, rfl, rfl, hz, hc, k _ _ (low.same rp (.str _) h)⟩)
    · exact h.elim
  · cases iy
    split at h
    · rename_i xs hx
      split at h
      · rename_i v hv
        exact seq _ xs v hx hv h rfl
      · exact h.elim
    · exact h.elim
  · exact h.elim
theorem z_ix (ha : PE X a (zl X.K B ta)) (hb : PE X b (zl X.K B tb)) (hs : PlainIx b := by intro _ _; rfl) : PE X (.Subscript a b pos) (zl X.K B (zOp pIx ta tb)) :=
  pe_weak (fun _ _ _ h => low_op ok_ix h) (pe_ix ix_seq ha hb hs)
theorem z_nopart : PO X none (zo X.K B zNoPart) := by
  refine ⟨fun pins s σ H Q I h => po_none.run pins s σ H Q I ?_⟩
  obtain ⟨ρ, μ, G, Qz, rs, rp, h, k⟩ := h
  exact k none H ⟨μ, G, Evl.Ex.refl G, rp, h⟩
theorem z_part (he : PE X e (zl X.K B te)) : PO X (some e) (zo X.K B (zPart te)) := by
  refine ⟨fun pins s σ H Q I h => (po_some he).run pins s σ H Q I ?_⟩
  obtain ⟨ρ, μ, G, Qz, rs, rp, h, k⟩ := h
  refine ⟨ρ, μ, G, _, rs, rp, h, fun x H1 h1 => ?_⟩
  obtain ⟨d, μ1, G1, e1, rp1, i1, t1⟩ := h1
  cases i1 with
  | int i => exact ⟨i, rfl, k _ H1 ⟨μ1, G1, e1, rp1, t1⟩⟩
  | _ => exact t1.elim
theorem z_slice (m : Bool) (he : PE X e (zl X.K B te)) (hl : PO X lo (zo X.K B tl)) (hh : PO X hi (zo X.K B th)) : PE X (.Subscript e (.Slice lo hi none p2) pos) (zl X.K B (zSl m te tl th)) :=
  pe_weak (fun σ H Q h => by
    obtain ⟨ρ, μ, G, Qz, rs, rp, h, k⟩ := h
    refine ⟨ρ, μ, G, _, rs, rp, h, fun x H1 h1 => ?_⟩
    obtain ⟨d, μ1, G1, e1, rp1, i1, t1⟩ := h1
    refine ⟨ρ, μ1, G1, _, rs.mono e1, rp1, t1, fun l H2 h2 => ?_⟩
    obtain ⟨μ2, G2, e2, rp2, t2⟩ := h2
    refine ⟨ρ, μ2, G2, _, rs.mono (e1.trans e2), rp2, t2, fun u H3 h3 => ?_⟩
    obtain ⟨μ3, G3, e3, rp3, t3⟩ := h3
    have i3 := i1.mono (e2.trans e3)
    have k3 : ∀ v H', low X.K B G3 Qz v H' → Q v H' := fun v H' q => k v H' (q.up ((e1.trans e2).trans e3))
    have lists : ∀ xs, asP μ3 d = some xs → pNew m (cutD xs l u) μ3 Qz → rSlL X.K x l u H3 Q := fun xs h1 q => by
      obtain ⟨a, vs, ea, sa, za, tt⟩ := seqP rp3 i3 h1
      exact ⟨a, vs, ea, sa, fun p n => k3 _ _ (low_new m rp3 (cut_is tt) (Nat.le_trans (cutV_length _ _ _) za) n q)⟩
    show rSlL X.K x l u H3 Q ∨ (fun x lo hi H Q => rSlA X.K x lo hi H Q ∨ rSlS x lo hi H Q) x l u H3 Q
    unfold pSl at t3
    split at t3
    · rename_i xs
      obtain ⟨a, vs, ea, sa, za, tt⟩ := seqT rp3 i3 (ds := xs) rfl
      refine .inr (.inl ⟨a, vs, ea, sa, fun z => ?_, fun z p n => k3 _ _ (low_newT rp3 (cut_is tt) (Nat.le_trans (cutV_length _ _ _) za) n t3)⟩)
      have e0 : cutD xs l u = xs := by
        unfold cutD
        rw [← tt.length, z.1, z.2, List.drop_zero, Nat.sub_zero, tt.length]
        exact List.take_length
      rw [e0] at t3
      rw [← ea]
      exact k3 _ _ (low.same rp3 i3 t3)
    · cases i3
      exact .inr (.inr ⟨_, rfl, t3.1, k3 _ _ (low.same rp3 (.str _) t3.2)⟩)
    · split at t3
      · rename_i xs hx
        exact .inl (lists xs hx t3)
      · exact t3.elim) (pe_slice (SlR.or sl_list (SlR.or sl_tupA sl_str)) he hl hh)
end
end ZL
namespace ZL
open PySem PySem.Spec PyProof.Rows L2
/-! ### calls of built-in functions and classes -/
@[simp] def toInts : List D → Option (List Int)
  | [] => some []
  | .int i :: r => match toInts r with
    | some ns => some (i :: ns)
    | none => none
  | _ :: _ => none
@[simp] def toBls : List D → Option (List Bool)
  | [] => some []
  | .bl i :: r => match toBls r with
    | some ns => some (i :: ns)
    | none => none
  | _ :: _ => none
@[simp] theorem toInts_map : ∀ ns : List Int, toInts (ns.map D.int) = some ns
  | [] => rfl
  | n :: ns => by rw [List.map_cons, toInts, toInts_map ns]
@[simp] theorem toBls_map : ∀ ns : List Bool, toBls (ns.map D.bl) = some ns
  | [] => rfl
  | n :: ns => by rw [List.map_cons, toBls, toBls_map ns]
theorem toInts_eq : ∀ {xs : List D} {ns : List Int}, toInts xs = some ns → xs = ns.map D.int
  | [], _, h => by cases h; rfl
  | .int i :: r, ns, h => by
    rw [toInts] at h
    cases q : toInts r with
    | none => rw [q] at h; cases h
    | some ms => rw [q] at h; cases h; rw [toInts_eq q, List.map_cons]
  | .non :: _, _, h => by cases h
  | .bl _ :: _, _, h => by cases h
  | .str _ :: _, _, h => by cases h
  | .tup _ :: _, _, h => by cases h
  | .lst _ :: _, _, h => by cases h
  | .obj _ :: _, _, h => by cases h
theorem toBls_eq : ∀ {xs : List D} {ns : List Bool}, toBls xs = some ns → xs = ns.map D.bl
  | [], _, h => by cases h; rfl
  | .bl i :: r, ns, h => by
    rw [toBls] at h
    cases q : toBls r with
    | none => rw [q] at h; cases h
    | some ms => rw [q] at h; cases h; rw [toBls_eq q, List.map_cons]
  | .non :: _, _, h => by cases h
  | .int _ :: _, _, h => by cases h
  | .str _ :: _, _, h => by cases h
  | .tup _ :: _, _, h => by cases h
  | .lst _ :: _, _, h => by cases h
  | .obj _ :: _, _, h => by cases h
def pLen : PN := fun ds μ Q => match ds with
  | [.str s] => s.length ≤ sizeLine ∧ Q (.int s.length) μ
  | [d] => (match asS μ d with
    | some xs => Q (.int xs.length) μ
    | none => False)
  | _ => False
@[simp] theorem pLen_str (s : Str) (μ : Mu) (Q : ZQ) : pLen [.str s] μ Q = (s.length ≤ sizeLine ∧ Q (.int s.length) μ) := rfl
@[simp] theorem pLen_tup (xs : List D) (μ : Mu) (Q : ZQ) : pLen [.tup xs] μ Q = Q (.int xs.length) μ := rfl
@[simp] theorem pLen_lst (xs : List D) (μ : Mu) (Q : ZQ) : pLen [.lst xs] μ Q = Q (.int xs.length) μ := rfl
@[simp] theorem pLen_obj (a : Addr) (μ : Mu) (Q : ZQ) : pLen [.obj a] μ Q = (match asS μ (.obj a) with
    | some xs => Q (.int xs.length) μ
    | none => False) := rfl
@[simp] def pAbs : PN := fun ds μ Q => match ds with
  | [.int i] => Q (.int i.natAbs) μ
  | _ => False
@[simp] def pSum : PN := fun ds μ Q => match ds with
  | [d] => (match asP μ d with
    | some xs => (match toInts xs with
      | some ns => Q (.int ns.sum) μ
      | none => False)
    | none => False)
  | _ => False
@[simp] def pAll : PN := fun ds μ Q => match ds with
  | [d] => (match asP μ d with
    | some xs => (match toBls xs with
      | some ns => Q (.bl (ns.all id)) μ
      | none => False)
    | none => False)
  | _ => False
@[simp] def pAny : PN := fun ds μ Q => match ds with
  | [d] => (match asP μ d with
    | some xs => (match toBls xs with
      | some ns => Q (.bl (ns.any id)) μ
      | none => False)
    | none => False)
  | _ => False
def pMax : PN := fun ds μ Q => match ds with
  | [d] => (match asP μ d with
    | some xs => (match toInts xs with
      | some ns => 0 < ns.length ∧ ∀ m, m ∈ ns → (∀ y, y ∈ ns → y ≤ m) → Q (.int m) μ
      | none => False)
    | none => False)
  | [.int i, .int j] => Q (.int (if j > i then j else i)) μ
  | _ => False
def pMin : PN := fun ds μ Q => match ds with
  | [d] => (match asP μ d with
    | some xs => (match toInts xs with
      | some ns => 0 < ns.length ∧ ∀ m, m ∈ ns → (∀ y, y ∈ ns → m ≤ y) → Q (.int m) μ
      | none => False)
    | none => False)
  | [.int i, .int j] => Q (.int (if j < i then j else i)) μ
  | _ => False
def pTuple : PN := fun ds μ Q => match ds with
  | [.tup xs] => Q (.tup xs) μ
  | [d] => (match asP μ d with
    | some xs => Q (.tup xs) μ
    | none => False)
  | _ => False
@[simp] theorem pTuple_tup (xs : List D) (μ : Mu) (Q : ZQ) : pTuple [.tup xs] μ Q = Q (.tup xs) μ := rfl
@[simp] theorem pTuple_lst (xs : List D) (μ : Mu) (Q : ZQ) : pTuple [.lst xs] μ Q = Q (.tup xs) μ := rfl
@[simp] theorem pTuple_obj (a : Addr) (μ : Mu) (Q : ZQ) : pTuple [.obj a] μ Q = (match asP μ (.obj a) with
    | some xs => Q (.tup xs) μ
    | none => False) := rfl
@[simp] def pList (m : Bool) : PN := fun ds μ Q => match ds with
  | [d] => (match asS μ d with
    | some xs => pNew m xs μ Q
    | none => False)
  | _ => False
@[simp] def pInt : PN := fun ds μ Q => match ds with
  | [.int i] => Q (.int i) μ
  | [.bl b] => Q (.int (if b then 1 else 0)) μ
  | _ => False
@[simp] def pStrI : PN := fun ds μ Q => match ds with
  | [.int i] => i.natAbs.log2 < 1920 ∧ Q (.str (toString i)) μ
  | _ => False
section
variable {X : Cx} {B : Bs}
theorem one_of {K : PySem.W.Frag} {G : Hp} {vs : List V} {d : D} (i : IsAll K G vs [d]) : ∃ v, vs = [v] ∧ Is K G v d := by
  cases i with
  | cons h t => cases t; exact ⟨_, rfl, h⟩
theorem two_of {K : PySem.W.Frag} {G : Hp} {vs : List V} {d e : D} (i : IsAll K G vs [d, e]) : ∃ v w, vs = [v, w] ∧ Is K G v d ∧ Is K G w e := by
  cases i with
  | cons h t =>
    obtain ⟨w, e1, h2⟩ := one_of t
    exact ⟨_, w, by rw [e1], h, h2⟩
theorem ok_len : OkN X.K B (fun xs H Q => ∃ x n, xs = [x] ∧ LenV X.K x H n ∧ Q (.int n) H) pLen := by
  intro μ G H xs ds Q Q' rp i h k
  unfold pLen at h
  split at h
  · obtain ⟨v, e, i1⟩ := one_of i
    cases i1
    exact ⟨_, _, e, ⟨h.1, rfl⟩, k _ _ (low.same rp (.int _) h.2)⟩
  · obtain ⟨v, e, i1⟩ := one_of i
    split at h
    · rename_i ys hy
      obtain ⟨a, vs, ea, sa, za, t⟩ := seqS rp i1 hy
      subst ea
      refine ⟨.ref a, vs.length, e, ?_, ?_⟩
      · rcases sa with sa | sa
        · exact .inl ⟨vs, sa, rfl⟩
        · exact .inr ⟨vs, sa, rfl⟩
      · rw [t.length]
        exact k _ _ (low.same rp (.int _) h)
    · exact h.elim
  · exact h.elim
theorem ok_abs : OkN X.K B (fun xs H Q => ∃ i, xs = [.int i] ∧ Q (.int (if i < 0 then -i else i)) H) pAbs := by
  intro μ G H xs ds Q Q' rp i h k
  unfold pAbs at h
  split at h
  · rename_i n
    obtain ⟨v, e, i1⟩ := one_of i
    cases i1
    refine ⟨n, e, ?_⟩
    have e1 : (if n < 0 then -n else n) = (n.natAbs : Int) := by split <;> omega
    rw [e1]
    exact k _ _ (low.same rp (.int _) h)
  · exact h.elim
theorem ok_sum : OkN X.K B (rSum X.K) pSum := by
  intro μ G H xs ds Q Q' rp i h k
  unfold pSum at h
  split at h
  · obtain ⟨v, e, i1⟩ := one_of i
    split at h
    · rename_i ys hy
      split at h
      · rename_i ns hn
        obtain ⟨a, vs, ea, sa, za, t⟩ := seqP rp i1 hy
        subst ea
        rw [toInts_eq hn] at t
        rw [t.ints] at sa
        exact ⟨a, ns, e, sa, k _ _ (low.same rp (.int _) h)⟩
      · exact h.elim
    · exact h.elim
  · exact h.elim
theorem ok_all : OkN X.K B (rAll X.K) pAll := by
  intro μ G H xs ds Q Q' rp i h k
  unfold pAll at h
  split at h
  · obtain ⟨v, e, i1⟩ := one_of i
    split at h
    · rename_i ys hy
      split at h
      · rename_i ns hn
        obtain ⟨a, vs, ea, sa, za, t⟩ := seqP rp i1 hy
        subst ea
        rw [toBls_eq hn] at t
        rw [t.bls] at sa
        exact ⟨a, ns, e, sa, k _ _ (low.same rp (.bl _) h)⟩
      · exact h.elim
    · exact h.elim
  · exact h.elim
theorem ok_any : OkN X.K B (rAny X.K) pAny := by
  intro μ G H xs ds Q Q' rp i h k
  unfold pAny at h
  split at h
  · obtain ⟨v, e, i1⟩ := one_of i
    split at h
    · rename_i ys hy
      split at h
      · rename_i ns hn
        obtain ⟨a, vs, ea, sa, za, t⟩ := seqP rp i1 hy
        subst ea
        rw [toBls_eq hn] at t
        rw [t.bls] at sa
        exact ⟨a, ns, e, sa, k _ _ (low.same rp (.bl _) h)⟩
      · exact h.elim
    · exact h.elim
  · exact h.elim
theorem ok_max : OkN X.K B (fun xs H Q => rMax X.K xs H Q ∨ (fun xs H Q => ∃ i j, xs = [.int i, .int j] ∧ Q (.int (if j > i then j else i)) H) xs H Q) pMax := by
  intro μ G H xs ds Q Q' rp i h k
  unfold pMax at h
  split at h
  · obtain ⟨v, e, i1⟩ := one_of i
    split at h
    · rename_i ys hy
      split at h
      · rename_i ns hn
        obtain ⟨a, vs, ea, sa, za, t⟩ := seqP rp i1 hy
        subst ea
        rw [toInts_eq hn] at t
        rw [t.ints] at sa
        exact .inl ⟨a, ns, e, sa, h.1, fun m h1 h2 => k _ _ (low.same rp (.int _) (h.2 m h1 h2))⟩
      · exact h.elim
    · exact h.elim
  · obtain ⟨v, w, e, i1, i2⟩ := two_of i
    cases i1; cases i2
    exact .inr ⟨_, _, e, k _ _ (low.same rp (.int _) h)⟩
  · exact h.elim
theorem ok_min : OkN X.K B (fun xs H Q => rMin X.K xs H Q ∨ (fun xs H Q => ∃ i j, xs = [.int i, .int j] ∧ Q (.int (if j < i then j else i)) H) xs H Q) pMin := by
  intro μ G H xs ds Q Q' rp i h k
  unfold pMin at h
  split at h
  · obtain ⟨v, e, i1⟩ := one_of i
    split at h
    · rename_i ys hy
      split at h
      · rename_i ns hn
        obtain ⟨a, vs, ea, sa, za, t⟩ := seqP rp i1 hy
        subst ea
        rw [toInts_eq hn] at t
        rw [t.ints] at sa
        exact .inl ⟨a, ns, e, sa, h.1, fun m h1 h2 => k _ _ (low.same rp (.int _) (h.2 m h1 h2))⟩
      · exact h.elim
    · exact h.elim
  · obtain ⟨v, w, e, i1, i2⟩ := two_of i
    cases i1; cases i2
    exact .inr ⟨_, _, e, k _ _ (low.same rp (.int _) h)⟩
  · exact h.elim
theorem ok_tuple : OkN X.K B (fun xs H Q => ∃ p ys, xs = [.ref p] ∧ ((SqL X.K H p ys ∧ ∀ l, H l = none → Q (.ref l) (upd H l (.tup ys))) ∨ (SqT X.K H p ys ∧ Q (.ref p) H))) pTuple := by
  intro μ G H xs ds Q Q' rp i h k
  unfold pTuple at h
  split at h
  · rename_i ys
    obtain ⟨v, e, i1⟩ := one_of i
    obtain ⟨a, vs, ea, sa, za, t⟩ := seqT rp i1 (ds := ys) rfl
    subst ea
    exact ⟨a, vs, e, .inr ⟨sa, k _ _ (low.same rp i1 h)⟩⟩
  · obtain ⟨v, e, i1⟩ := one_of i
    split at h
    · rename_i ys hy
      obtain ⟨a, vs, ea, sa, za, t⟩ := seqP rp i1 hy
      subst ea
      exact ⟨a, vs, e, .inl ⟨sa, fun p n => k _ _ (low_newT rp t za n h)⟩⟩
    · exact h.elim
  · exact h.elim
theorem ok_list (m : Bool) : OkN X.K B (fun xs H Q => ∃ p ys, xs = [.ref p] ∧ (SqL X.K H p ys ∨ SqT X.K H p ys) ∧ ∀ l, H l = none → Q (.ref l) (upd H l (.lst ys))) (pList m) := by
  intro μ G H xs ds Q Q' rp i h k
  unfold pList at h
  split at h
  · obtain ⟨v, e, i1⟩ := one_of i
    split at h
    · rename_i ys hy
      obtain ⟨a, vs, ea, sa, za, t⟩ := seqS rp i1 hy
      subst ea
      exact ⟨a, vs, e, sa, fun p n => k _ _ (low_new m rp t za n h)⟩
    · exact h.elim
  · exact h.elim
theorem ok_int : OkN X.K B (fun xs H Q => (∃ i, xs = [.int i] ∧ Q (.int i) H) ∨ ∃ k, xs = [.bl k] ∧ Q (.int (if k then 1 else 0)) H) pInt := by
  intro μ G H xs ds Q Q' rp i h k
  unfold pInt at h
  split at h
  · obtain ⟨v, e, i1⟩ := one_of i
    cases i1
    exact .inl ⟨_, e, k _ _ (low.same rp (.int _) h)⟩
  · obtain ⟨v, e, i1⟩ := one_of i
    cases i1
    exact .inr ⟨_, e, k _ _ (low.same rp (.int _) h)⟩
  · exact h.elim
theorem ok_strI : OkN X.K B (fun xs H Q => ∃ i, xs = [.int i] ∧ i.natAbs.log2 < 1920 ∧ Q (.str (toString i)) H) pStrI := by
  intro μ G H xs ds Q Q' rp i h k
  unfold pStrI at h
  split at h
  · obtain ⟨v, e, i1⟩ := one_of i
    cases i1
    exact ⟨_, e, h.1, k _ _ (low.same rp (.str _) h.2)⟩
  · exact h.elim
/-! ### the calls -/
section
variable {x : Str} {p pos : Pos} {e : Expr} {es : List Expr} {t : ZA} {id T : String} {r : List V → Hp → VK → Prop} {q : PN}
theorem z_blt (hc : CallR X (.builtin id) r) (ok : OkN X.K B r q) (hg : Gl X x) (hm : X.mg x = none) (hv : bootBuiltins x = some (.builtin id)) (ha : PA X (e :: es) (za X.K B t)) (hn : x ≠ "__name__" := by decide) (hdb : (x == ("__debug__" : Str)) = false := by decide)
    (he : starEach (e :: es) X.env = (false, eval e X.env) :: starEach es X.env := by rfl) (hpl : (backTo pos (starEach es X.env)).any (·.1) = false := by rfl) : PE X (.Call (.Name x p) (e :: es) [] pos) (zl X.K B (zCB q t)) :=
  pe_weak (fun _ _ _ h => low_cb ok h) (pe_callB hc hg hm hv ha hn hdb he hpl)
theorem z_ty (hc : CallR X (.type T) r) (ok : OkN X.K B r q) (hg : Gl X x) (hm : X.mg x = none) (hv : bootBuiltins x = some (.type T)) (ha : PA X (e :: es) (za X.K B t)) (hn : x ≠ "__name__" := by decide) (hdb : (x == ("__debug__" : Str)) = false := by decide)
    (he : starEach (e :: es) X.env = (false, eval e X.env) :: starEach es X.env := by rfl) (hpl : (backTo pos (starEach es X.env)).any (·.1) = false := by rfl) : PE X (.Call (.Name x p) (e :: es) [] pos) (zl X.K B (zCB q t)) :=
  pe_weak (fun _ _ _ h => low_cb ok h) (pe_callTy hc hg hm hv ha hn hdb he hpl)
end
section
variable {p pos : Pos} {e : Expr} {es : List Expr} {t : ZA}
theorem boot_sum' : bootBuiltins "sum" = some (.builtin "sum") := by decide +kernel
theorem boot_all' : bootBuiltins "all" = some (.builtin "all") := by decide +kernel
theorem boot_any' : bootBuiltins "any" = some (.builtin "any") := by decide +kernel
theorem boot_abs' : bootBuiltins "abs" = some (.builtin "abs") := by decide +kernel
theorem boot_max' : bootBuiltins "max" = some (.builtin "max") := by decide +kernel
theorem boot_min' : bootBuiltins "min" = some (.builtin "min") := by decide +kernel
theorem boot_tuple' : bootBuiltins "tuple" = some (.type "tuple") := by decide +kernel
theorem boot_list' : bootBuiltins "list" = some (.type "list") := by decide +kernel
theorem boot_int' : bootBuiltins "int" = some (.type "int") := by decide +kernel
theorem boot_str' : bootBuiltins "str" = some (.type "str") := by decide +kernel
theorem boot_isi' : bootBuiltins "isinstance" = some (.builtin "isinstance") := by decide +kernel
theorem z_len (hg : Gl X "len") (hm : X.mg "len" = none) (ha : PA X (e :: es) (za X.K B t)) (he : starEach (e :: es) X.env = (false, eval e X.env) :: starEach es X.env := by rfl) (hpl : (backTo pos (starEach es X.env)).any (·.1) = false := by rfl) :
    PE X (.Call (.Name "len" p) (e :: es) [] pos) (zl X.K B (zCB pLen t)) := z_blt call_len ok_len hg hm PySem.boot_len ha (by decide) (by decide) he hpl
theorem z_abs (hg : Gl X "abs") (hm : X.mg "abs" = none) (ha : PA X (e :: es) (za X.K B t)) (he : starEach (e :: es) X.env = (false, eval e X.env) :: starEach es X.env := by rfl) (hpl : (backTo pos (starEach es X.env)).any (·.1) = false := by rfl) :
    PE X (.Call (.Name "abs" p) (e :: es) [] pos) (zl X.K B (zCB pAbs t)) := z_blt call_abs ok_abs hg hm boot_abs' ha (by decide) (by decide) he hpl
theorem z_sum (hc : X.calm = true) (hg : Gl X "sum") (hm : X.mg "sum" = none) (ha : PA X (e :: es) (za X.K B t)) (he : starEach (e :: es) X.env = (false, eval e X.env) :: starEach es X.env := by rfl) (hpl : (backTo pos (starEach es X.env)).any (·.1) = false := by rfl) :
    PE X (.Call (.Name "sum" p) (e :: es) [] pos) (zl X.K B (zCB pSum t)) := z_blt (cr_sum hc) ok_sum hg hm boot_sum' ha (by decide) (by decide) he hpl
theorem z_all (hc : X.calm = true) (hg : Gl X "all") (hm : X.mg "all" = none) (ha : PA X (e :: es) (za X.K B t)) (he : starEach (e :: es) X.env = (false, eval e X.env) :: starEach es X.env := by rfl) (hpl : (backTo pos (starEach es X.env)).any (·.1) = false := by rfl) :
    PE X (.Call (.Name "all" p) (e :: es) [] pos) (zl X.K B (zCB pAll t)) := z_blt (cr_all hc) ok_all hg hm boot_all' ha (by decide) (by decide) he hpl
theorem z_any (hc : X.calm = true) (hg : Gl X "any") (hm : X.mg "any" = none) (ha : PA X (e :: es) (za X.K B t)) (he : starEach (e :: es) X.env = (false, eval e X.env) :: starEach es X.env := by rfl) (hpl : (backTo pos (starEach es X.env)).any (·.1) = false := by rfl) :
    PE X (.Call (.Name "any" p) (e :: es) [] pos) (zl X.K B (zCB pAny t)) := z_blt (cr_any hc) ok_any hg hm boot_any' ha (by decide) (by decide) he hpl
theorem z_max (hc : X.calm = true) (hg : Gl X "max") (hm : X.mg "max" = none) (ha : PA X (e :: es) (za X.K B t)) (he : starEach (e :: es) X.env = (false, eval e X.env) :: starEach es X.env := by rfl) (hpl : (backTo pos (starEach es X.env)).any (·.1) = false := by rfl) :
    PE X (.Call (.Name "max" p) (e :: es) [] pos) (zl X.K B (zCB pMax t)) := z_blt (CallR.or (cr_max hc) (call_max2 hc)) ok_max hg hm boot_max' ha (by decide) (by decide) he hpl
theorem z_min (hc : X.calm = true) (hg : Gl X "min") (hm : X.mg "min" = none) (ha : PA X (e :: es) (za X.K B t)) (he : starEach (e :: es) X.env = (false, eval e X.env) :: starEach es X.env := by rfl) (hpl : (backTo pos (starEach es X.env)).any (·.1) = false := by rfl) :
    PE X (.Call (.Name "min" p) (e :: es) [] pos) (zl X.K B (zCB pMin t)) := z_blt (CallR.or (cr_min hc) (call_min2 hc)) ok_min hg hm boot_min' ha (by decide) (by decide) he hpl
theorem z_tuple (hg : Gl X "tuple") (hm : X.mg "tuple" = none) (ha : PA X (e :: es) (za X.K B t)) (he : starEach (e :: es) X.env = (false, eval e X.env) :: starEach es X.env := by rfl) (hpl : (backTo pos (starEach es X.env)).any (·.1) = false := by rfl) :
    PE X (.Call (.Name "tuple" p) (e :: es) [] pos) (zl X.K B (zCB pTuple t)) := z_ty call_tuple_of ok_tuple hg hm boot_tuple' ha (by decide) (by decide) he hpl
theorem z_list (m : Bool) (hg : Gl X "list") (hm : X.mg "list" = none) (ha : PA X (e :: es) (za X.K B t)) (he : starEach (e :: es) X.env = (false, eval e X.env) :: starEach es X.env := by rfl) (hpl : (backTo pos (starEach es X.env)).any (·.1) = false := by rfl) :
    PE X (.Call (.Name "list" p) (e :: es) [] pos) (zl X.K B (zCB (pList m) t)) := z_ty call_list_of (ok_list m) hg hm boot_list' ha (by decide) (by decide) he hpl
theorem z_toint (hg : Gl X "int") (hm : X.mg "int" = none) (ha : PA X (e :: es) (za X.K B t)) (he : starEach (e :: es) X.env = (false, eval e X.env) :: starEach es X.env := by rfl) (hpl : (backTo pos (starEach es X.env)).any (·.1) = false := by rfl) :
    PE X (.Call (.Name "int" p) (e :: es) [] pos) (zl X.K B (zCB pInt t)) := z_ty call_int1 ok_int hg hm boot_int' ha (by decide) (by decide) he hpl
theorem z_tostr (hg : Gl X "str") (hm : X.mg "str" = none) (ha : PA X (e :: es) (za X.K B t)) (he : starEach (e :: es) X.env = (false, eval e X.env) :: starEach es X.env := by rfl) (hpl : (backTo pos (starEach es X.env)).any (·.1) = false := by rfl) :
    PE X (.Call (.Name "str" p) (e :: es) [] pos) (zl X.K B (zCB pStrI t)) := z_ty call_str_int ok_strI hg hm boot_str' ha (by decide) (by decide) he hpl
end
/-! ### isinstance(x, T), T a built-in class -/
def tyN (μ : Mu) : D → Option String
  | .non => some "NoneType"
  | .bl _ => some "bool"
  | .int _ => some "int"
  | .str _ => some "str"
  | .tup _ => some "tuple"
  | .lst _ => some "list"
  | .obj a => match μ a with
    | some (.lst _) => some "list"
    | _ => none
@[simp] theorem tyN_non (μ : Mu) : tyN μ .non = some "NoneType" := rfl
@[simp] theorem tyN_bl (μ : Mu) (b : Bool) : tyN μ (.bl b) = some "bool" := rfl
@[simp] theorem tyN_int (μ : Mu) (b : Int) : tyN μ (.int b) = some "int" := rfl
@[simp] theorem tyN_str (μ : Mu) (b : Str) : tyN μ (.str b) = some "str" := rfl
@[simp] theorem tyN_tup (μ : Mu) (b : List D) : tyN μ (.tup b) = some "tuple" := rfl
@[simp] theorem tyN_lst (μ : Mu) (b : List D) : tyN μ (.lst b) = some "list" := rfl
@[simp] theorem tyN_obj (μ : Mu) (a : Addr) : tyN μ (.obj a) = match μ a with
    | some (.lst _) => some "list"
    | _ => none := rfl
@[simp] def isiB (a T : String) : Bool := a == T || (a == "bool" && T == "int")
@[simp] def zIsi (T : String) (ta : ZT) : ZT := fun ρ μ Q => ta ρ μ fun d μ1 => match tyN μ1 d with
  | some a => Q (.bl (isiB a T)) μ1
  | none => False
def tyOk (T : String) : Bool := ["NoneType", "bool", "int", "str", "tuple", "list"].all fun a => decide (kitB a T = some (isiB a T))
theorem kit_of_ok {K : PySem.W.Frag} {T a : String} {μ : Mu} {d : D} (h : tyOk T = true) (ha : tyN μ d = some a) : PySem.W.kitOne K (.type a) (.type T) = some (isiB a T) := by
  have hm : a ∈ ["NoneType", "bool", "int", "str", "tuple", "list"] := by
    unfold tyN at ha
    split at ha <;> first | (cases ha; decide) | skip
    split at ha
    · cases ha; decide
    · cases ha
  unfold tyOk at h
  have h2 := List.all_eq_true.mp h a hm
  exact kit_ty (of_decide_eq_true h2)
theorem tyX_of {K : PySem.W.Frag} {G H : Hp} {μ : Mu} {v : V} {d : D} {a : String} (rp : Rep K B μ G H) (i : Is K G v d) (h : tyN μ d = some a) : TyX K H v (.type a) := by
  cases i with
  | non => cases h; exact .base .non
  | bl b => cases h; exact .base (.bl b)
  | int n => cases h; exact .base (.int n)
  | str s => cases h; exact .base (.str s)
  | tup s z t =>
    cases h
    rcases Evl.ex_t rp.ex s with (s | ⟨o, s⟩) | ⟨o, its, n, e, c, _⟩
    · exact .base (.tup s)
    · exact .fTuple s
    · exact .kTuple e c
  | lst s z t =>
    cases h
    rcases Evl.ex_l rp.ex s with (s | ⟨o, s⟩) | ⟨o, its, n, e, c, _⟩
    · exact .base (.lst s)
    · exact .base (.frz s)
    · exact .kList e c
  | obj p =>
    have h2 : (match μ p with | some (.lst _) => some "list" | _ => none) = some a := h
    cases q : μ p with
    | none => rw [q] at h2; cases h2
    | some o =>
      rw [q] at h2
      cases o with
      | ins C fs => cases h2
      | lst xs =>
        cases h2
        obtain ⟨_, g⟩ := rp.mu p _ q
        cases g with
        | lst e _ _ => exact .base (.lst e)
theorem z_isi {a : Expr} {ta : ZT} {T : String} {x : Str} {p p2 pos : Pos} (hT : tyOk T = true) (hg : Gl X "isinstance") (hm : X.mg "isinstance" = none) (ha : PE X a (zl X.K B ta)) (hg2 : Gl X x) (hm2 : X.mg x = none) (hv2 : bootBuiltins x = some (.type T))
    (he : starEach [a, .Name x p2] X.env = (false, eval a X.env) :: starEach [.Name x p2] X.env := by rfl) (hn : x ≠ "__name__" := by decide) (hd : (x == ("__debug__" : Str)) = false := by decide) :
    PE X (.Call (.Name "isinstance" p) [a, .Name x p2] [] pos) (zl X.K B (zIsi T ta)) :=
  pe_weak (fun σ H Q h => by
    obtain ⟨ρ, μ, G, Qz, rs, rp, h, k⟩ := h
    refine ⟨ρ, μ, G, _, rs, rp, h, fun v H1 h1 => ?_⟩
    obtain ⟨d, μ1, G1, e1, rp1, i1, t1⟩ := h1
    split at t1
    · rename_i n hn
      exact ⟨v, .ty T, .type n, .type T, _, rfl, .ty T, tyX_of rp1 i1 hn, kit_of_ok hT hn, k _ _ ⟨.bl _, μ1, G1, e1, rp1, .bl _, t1⟩⟩
    · exact t1.elim)
  (pe_callB (t := tCons (zl X.K B ta) (tCons (tC (.ty T)) tNil)) call_isi hg hm boot_isi' (pa_cons ha (pa_cons (pe_bltn hg2 hm2 hv2 (v := .ty T) rfl hn hd) pa_nil) he) (by decide) (by decide) he rfl)
end
theorem ty_int : tyOk "int" = true := by decide +kernel
theorem ty_bool : tyOk "bool" = true := by decide +kernel
theorem ty_tuple : tyOk "tuple" = true := by decide +kernel
theorem ty_str : tyOk "str" = true := by decide +kernel
theorem ty_list : tyOk "list" = true := by decide +kernel
theorem ty_dict : tyOk "dict" = true := by decide +kernel
theorem boot_bool' : bootBuiltins "bool" = some (.type "bool") := by decide +kernel
theorem boot_dict' : bootBuiltins "dict" = some (.type "dict") := by decide +kernel
end ZL
namespace ZL
open PySem PySem.Spec PyProof.Rows L2
/-! ### statements -/
section
variable {X : Cx} {B : Bs} {a b c e : Expr} {ta tb te : ZT} {tc : ZB} {pos : Pos} {st : Stmt} {rest : List Stmt} {t u : ZS}
@[simp] def zNext : ZS := fun Z ρ μ => Z.nx ρ μ
@[simp] def zSeq (t u : ZS) : ZS := fun Z ρ μ => t { Z with nx := u Z } ρ μ
theorem zs_nil : PSs X [] (zs X.K B zNext) := pss_weak (fun D σ H h => by
  obtain ⟨ρ, μ, G, Z, rs, rp, h, k⟩ := h
  exact k.nx σ H ⟨ρ, μ, G, Evl.Ex.refl G, rs, rp, h⟩) pss_nil
theorem zs_cons (h1 : PS X st (zs X.K B t)) (h2 : PSs X rest (zs X.K B u)) : PSs X (st :: rest) (zs X.K B (zSeq t u)) := pss_weak (fun D σ H h => by
  obtain ⟨ρ, μ, G, Z, rs, rp, h, k⟩ := h
  refine ⟨ρ, μ, G, _, rs, rp, h, ⟨fun σ1 H1 h1 => ?_, k.rt, k.bk, k.ct⟩⟩
  obtain ⟨ρ1, μ1, G1, e1, rs1, rp1, t1⟩ := h1
  exact ⟨ρ1, μ1, G1, Z, rs1, rp1, t1, k.up e1⟩) (pss_cons h1 h2)
theorem zs_one (h1 : PS X st (zs X.K B t)) : PSs X [st] (zs X.K B t) := pss_one h1
@[simp] def zRet (te : ZT) : ZS := fun Z ρ μ => te ρ μ Z.rt
theorem z_ret (he : PE X e (zl X.K B te)) : PS X (.Return (some e) pos) (zs X.K B (zRet te)) := ps_weak (fun D σ H h => by
  obtain ⟨ρ, μ, G, Z, rs, rp, h, k⟩ := h
  exact ⟨ρ, μ, G, _, rs, rp, h, k.rt⟩) (ps_ret he)
@[simp] def zIfS (c : ZB) (t u : ZS) : ZS := fun Z ρ μ => c ρ μ fun b μ1 => match b with
  | true => t Z ρ μ1
  | false => u Z ρ μ1
theorem z_ifS {l1 l2 : List Stmt} (hc : PT X c (zb X.K B tc)) (ha : PSs X l1 (zs X.K B t)) (hb : PSs X l2 (zs X.K B u)) : PS X (.If c l1 l2 pos) (zs X.K B (zIfS tc t u)) := ps_weak (fun D σ H h => by
  obtain ⟨ρ, μ, G, Z, rs, rp, h, k⟩ := h
  refine ⟨ρ, μ, G, _, rs, rp, h, fun x H1 h1 => ?_⟩
  obtain ⟨μ1, G1, e1, rp1, t1⟩ := h1
  cases x with
  | true => exact ⟨ρ, μ1, G1, Z, rs.mono e1, rp1, t1, k.up e1⟩
  | false => exact ⟨ρ, μ1, G1, Z, rs.mono e1, rp1, t1, k.up e1⟩) (ps_if hc ha hb)
@[simp] def zNever : ZS := fun _ _ _ => False
theorem z_never : PS X st (zs X.K B zNever) := ps_weak (fun D σ H h => by
  obtain ⟨ρ, μ, G, Z, rs, rp, h, k⟩ := h
  exact h.elim) ps_never
theorem z_pass : PS X (.Pass pos) (zs X.K B zNext) := ps_weak (fun D σ H h => by
  obtain ⟨ρ, μ, G, Z, rs, rp, h, k⟩ := h
  exact k.nx σ H ⟨ρ, μ, G, Evl.Ex.refl G, rs, rp, h⟩) ps_pass
@[simp] def zBreak : ZS := fun Z ρ μ => Z.bk ρ μ
@[simp] def zCont : ZS := fun Z ρ μ => Z.ct ρ μ
theorem z_break : PS X (.Break pos) (zs X.K B zBreak) := ps_weak (fun D σ H h => by
  obtain ⟨ρ, μ, G, Z, rs, rp, h, k⟩ := h
  exact k.bk σ H ⟨ρ, μ, G, Evl.Ex.refl G, rs, rp, h⟩) ps_break
theorem z_continue : PS X (.Continue pos) (zs X.K B zCont) := ps_weak (fun D σ H h => by
  obtain ⟨ρ, μ, G, Z, rs, rp, h, k⟩ := h
  exact k.ct σ H ⟨ρ, μ, G, Evl.Ex.refl G, rs, rp, h⟩) ps_continue
@[simp] def zDrop (te : ZT) : ZS := fun Z ρ μ => te ρ μ fun _ μ1 => Z.nx ρ μ1
theorem z_expr (he : PE X e (zl X.K B te)) (hs : swapsWith e none pos.line X.env = pure false := by rfl) : PS X (.Expr e pos) (zs X.K B (zDrop te)) := ps_weak (fun D σ H h => by
  obtain ⟨ρ, μ, G, Z, rs, rp, h, k⟩ := h
  refine ⟨ρ, μ, G, _, rs, rp, h, fun x H1 h1 => ?_⟩
  obtain ⟨d, μ1, G1, e1, rp1, i1, t1⟩ := h1
  exact k.nx σ H1 ⟨ρ, μ1, G1, e1, rs.mono e1, rp1, t1⟩) (ps_expr he hs)
/-! ### targets -/
/-- names that take a value -/
inductive Tg where
  | one (i : Nat)
  | many (is : List Nat)
@[simp] def puts : List Nat → List D → Rho → Option Rho
  | [], [], ρ => some ρ
  | i :: is, d :: ds, ρ => puts is ds (ρ.set i (some d))
  | _, _, _ => none
@[simp] def Tg.put : Tg → D → Rho → Option Rho
  | .one i, d, ρ => some (ρ.set i (some d))
  | .many is, .tup ds, ρ => puts is ds ρ
  | .many is, .lst ds, ρ => puts is ds ρ
  | .many _, _, _ => none
/-- the same of the state with a heap -/
def gPuts : List Nat → TGs
  | [] => gNil
  | i :: is => gCons (gName i) (gPuts is)
def Tg.g (K : PySem.W.Frag) : Tg → TG
  | .one i => gName i
  | .many is => fun v σ H Q => gTup K is.length (gPuts is) v σ H Q ∨ gUnl K is.length (gPuts is) v σ H Q
def Tg.ix : Tg → List Nat
  | .one i => [i]
  | .many is => is
theorem gputs_ok {K : PySem.W.Frag} {G : Hp} {H : Hp} : ∀ {is : List Nat} {vs : List V} {ds : List D} {ρ ρ' : Rho} {σ : L2.St} {Q : L2.St → Hp → Prop}, IsAll K G vs ds → RepS K ρ σ G → puts is ds ρ = some ρ' →
    (∀ σ', RepS K ρ' σ' G → (∀ js, (∀ i ∈ is, i ∈ js) → L2.wipe σ' js = L2.wipe σ js) → Q σ' H) → gPuts is vs σ H Q
  | [], _, _, ρ, ρ', σ, Q, .nil, rs, h, q => by
    cases h
    exact ⟨rfl, q σ rs fun _ _ => rfl⟩
  | i :: is, _, _, ρ, ρ', σ, Q, .cons (v := v) (vs := vs) (d := d) hd t, rs, h, q => by
    refine ⟨v, vs, rfl, gputs_ok (Q := Q) t (rs.set i hd) h fun σ' rs' w => q σ' rs' fun js hj => ?_⟩
    rw [w js fun k hk => hj k (List.mem_cons_of_mem _ hk)]
    exact wipe_set js i _ (hj i List.mem_cons_self)
  | [], _, _, _, _, _, _, .cons _ _, _, h, _ => by cases h
  | _ :: _, _, _, _, _, _, _, .nil, _, h, _ => by cases h
where wipe_set {σ : L2.St} : ∀ (js : List Nat) (i : Nat) (v : Option V), i ∈ js → L2.wipe (σ.set i v) js = L2.wipe σ js
  | [], i, v, h => by cases h
  | j :: js, i, v, h => by
    unfold L2.wipe
    by_cases e : i ∈ js
    · rw [wipe_set js i v e]
    · have hj : i = j := by
        rcases List.mem_cons.mp h with z | z
        · exact z
        · exact absurd z e
      subst hj
      clear h
      induction js generalizing σ with
      | nil =>
        show (σ.set i v).set i none = σ.set i none
        rw [List.set_set]
      | cons k ks ih =>
        have hk : i ≠ k := fun z => e (by rw [z]; exact List.mem_cons_self)
        have ih2 := ih (σ := σ) fun z => e (List.mem_cons_of_mem _ z)
        unfold L2.wipe
        rw [List.set_comm none none (Ne.symm hk), ih2, List.set_comm none none hk]
theorem tg_ok {K : PySem.W.Frag} {B : Bs} {G H : Hp} {μ : Mu} {tg : Tg} {v : V} {d : D} {ρ ρ' : Rho} {σ : L2.St} {Q : L2.St → Hp → Prop} (rp : Rep K B μ G H) (i : Is K G v d) (rs : RepS K ρ σ G) (h : tg.put d ρ = some ρ')
    (q : ∀ σ', RepS K ρ' σ' G → (∀ js, (∀ i ∈ tg.ix, i ∈ js) → L2.wipe σ' js = L2.wipe σ js) → Q σ' H) : tg.g K v σ H Q := by
  cases tg with
  | one j =>
    cases h
    exact q _ (rs.set j i) fun js hj => gputs_ok.wipe_set js j _ (hj j List.mem_cons_self)
  | many is =>
    have len : ∀ {is : List Nat} {ds : List D} {ρ ρ' : Rho}, puts is ds ρ = some ρ' → ds.length = is.length := by
      intro is
      induction is with
      | nil => intro ds ρ ρ' h; cases ds with | nil => rfl | cons _ _ => cases h
      | cons i is ih => intro ds ρ ρ' h; cases ds with | nil => cases h | cons d ds => rw [List.length_cons, List.length_cons, ih h]
    cases d with
    | tup ds =>
      obtain ⟨a, vs, ea, sa, za, t⟩ := seqT rp i (ds := ds) rfl
      exact .inl ⟨a, vs, ea, sa, by rw [t.length]; exact len h, gputs_ok t rs h q⟩
    | lst ds =>
      obtain ⟨a, vs, ea, sa, za, t⟩ := seqP rp i (ds := ds) rfl
      exact .inr ⟨a, vs, ea, sa, by rw [t.length]; exact len h, gputs_ok t rs h q⟩
    | _ => cases h
theorem pg_or {tgt : Expr} {t u : TG} (h : PG X tgt t) (g : PG X tgt u) : PG X tgt (fun v σ H Q => t v σ H Q ∨ u v σ H Q) :=
  ⟨fun pins s σ H v u Q I r q => q.elim (h.run pins s σ H v u Q I r) (g.run pins s σ H v u Q I r)⟩
/-- (a, b, ..) = a tuple or a list -/
theorem tg_many {es : List Expr} {k : Nat} {is : List Nat} (hc : X.calm = true) (h : PGs X es (gPuts is))
    (hn : (assignEach es X.env).length = is.length := by rfl) (hst : (assignEach es X.env).findIdx? (·.1) = none := by rfl) : PG X (.Tuple es k pos) ((Tg.many is).g X.K) :=
  pg_or (pg_tup hc h hn hst) (pg_unl hc h hn hst)
theorem tgs_nil : PGs X [] (gPuts []) := pgs_nil
theorem tgs_cons {i : Nat} {is : List Nat} {e : Expr} {es : List Expr} (h1 : PG X e (gName i)) (h2 : PGs X es (gPuts is)) (hs : (assignEach (e :: es) X.env).map (·.2) = assign e X.env :: (assignEach es X.env).map (·.2) := by rfl) : PGs X (e :: es) (gPuts (i :: is)) := pgs_cons h1 h2 hs
theorem tg_one {i : Nat} {x : Str} (hN : X.N.Nodup) (hi : X.N[i]? = some x) (hx : Loc X.env.scope x) (hf : X.fn x = true ∨ X.env.scope.names.lookup x = some .local := by first | exact .inl rfl | exact .inr rfl | assumption) : PG X (.Name x pos) ((Tg.one i).g X.K) := pg_name hN hi hx hf
@[simp] def zAsg (te : ZT) (tg : Tg) : ZS := fun Z ρ μ => te ρ μ fun d μ1 => match tg.put d ρ with
  | some ρ' => Z.nx ρ' μ1
  | none => False
theorem low_asg {K : PySem.W.Frag} {tg : Tg} {D : Ends} {σ : L2.St} {H : Hp} (h : zs K B (zAsg te tg) D σ H) : tAsg (zl K B te) (tg.g K) D σ H := by
  obtain ⟨ρ, μ, G, Z, rs, rp, h, k⟩ := h
  refine ⟨ρ, μ, G, _, rs, rp, h, fun x H1 h1 => ?_⟩
  obtain ⟨d, μ1, G1, e1, rp1, i1, t1⟩ := h1
  split at t1
  · rename_i ρ' hp
    exact tg_ok rp1 i1 (rs.mono e1) hp fun σ' rs' _ => k.nx σ' H1 ⟨ρ', μ1, G1, e1, rs', rp1, t1⟩
  · exact t1.elim
/-- x = e -/
theorem z_set {i : Nat} {x : Str} {pos' : Pos} (hN : X.N.Nodup) (hi : X.N[i]? = some x) (hx : Loc X.env.scope x) (he : PE X e (zl X.K B te)) (hs : swapsWith e (some (.Name x pos')) pos.line X.env = pure false := by rfl) (hf : X.fn x = true ∨ X.env.scope.names.lookup x = some .local := by first | exact .inl rfl | exact .inr rfl | assumption) :
    PS X (.Assign [.Name x pos'] e pos) (zs X.K B (zAsg te (.one i))) := ps_weak (fun D σ H h => low_asg h) (ps_set hN hi hx he hs hf)
/-- target = e -/
theorem z_asg {tgt : Expr} {tg : Tg} (he : PE X e (zl X.K B te)) (hg : PG X tgt (tg.g X.K)) (hs : swapsWithSole [tgt] e pos.line X.env = pure false := by rfl) (hw : swappedStores [tgt] e X.env = pure none := by rfl)
    (h1 : (assignEach [tgt] X.env).map (·.2) = [assign tgt X.env] := by rfl) : PS X (.Assign [tgt] e pos) (zs X.K B (zAsg te tg)) := ps_weak (fun D σ H h => low_asg h) (ps_asg he hg hs hw h1)
/-- a, b = e1, e2 of local names -/
@[simp] def zPar (i j : Nat) (ta : ZA) : ZS := fun Z ρ μ => ta ρ μ fun ds μ1 => match ds with
  | [d, e] => Z.nx ((ρ.set i (some d)).set j (some e)) μ1
  | _ => False
theorem z_par {i j : Nat} {x y : Str} {ta : ZA} {px py pt : Pos} {kt k2 pt2} (hc : X.calm = true) (hN : X.N.Nodup) (hi : X.N[i]? = some x) (hj : X.N[j]? = some y) (hij : i ≠ j)
    (hx : X.env.scope.names.lookup x = some .local) (hy : X.env.scope.names.lookup y = some .local) (ha : PA X [a, b] (za X.K B ta))
    (hw : swappedStores [.Tuple [.Name x px, .Name y py] kt pt] (.Tuple [a, b] k2 pt2) X.env = pure (some [x, y]))
    (hs : swapsWithSole [.Tuple [.Name x px, .Name y py] kt pt] (.Tuple [a, b] k2 pt2) pos.line X.env = pure false := by rfl) :
    PS X (.Assign [.Tuple [.Name x px, .Name y py] kt pt] (.Tuple [a, b] k2 pt2) pos) (zs X.K B (zPar i j ta)) := ps_weak (fun D σ H h => by
  obtain ⟨ρ, μ, G, Z, rs, rp, h, k⟩ := h
  refine ⟨ρ, μ, G, _, rs, rp, h, fun x H1 h1 => ?_⟩
  obtain ⟨ds, μ1, G1, e1, rp1, i1, t1⟩ := h1
  split at t1
  · obtain ⟨v, w, ev, i2, i3⟩ := two_of i1
    exact ⟨v, w, ev, k.nx _ H1 ⟨_, μ1, G1, e1, ((rs.mono e1).set i i2).set j i3, rp1, t1⟩⟩
  · exact t1.elim) (ps_par hc hN hi hj hij hx hy ha hw hs)
/-! ### while -/
def zWhile (c : ZB) (t : ZS) : ZS := fun Z ρ μ => ∃ W : Nat → Rho → Mu → Prop, (∃ m, W m ρ μ) ∧ ∀ m ρ μ, W m ρ μ →
  c ρ μ fun b μ1 => match b with
    | true => t { Z with nx := fun ρ' μ' => ∃ m', m' < m ∧ W m' ρ' μ', ct := fun ρ' μ' => ∃ m', m' < m ∧ W m' ρ' μ', bk := Z.nx } ρ μ1
    | false => Z.nx ρ μ1
theorem z_while {body : List Stmt} (hp : PassesOwn (model X.prog X.w) X.A X.env X.xe) (hc : PT X c (zb X.K B tc)) (hb : PSs X body (zs X.K B t)) : PS X (.While c body [] pos) (zs X.K B (zWhile tc t)) := ps_weak (fun D σ H h => by
  obtain ⟨ρ, μ, G, Z, rs, rp, ⟨W, ⟨m0, w0⟩, turn⟩, k⟩ := h
  refine ⟨fun m σ' H' => lowS X.K B G (W m) σ' H', ⟨m0, ρ, μ, G, Evl.Ex.refl G, rs, rp, w0⟩, fun m σ1 H1 h1 => ?_⟩
  obtain ⟨ρ1, μ1, G1, e1, rs1, rp1, w1⟩ := h1
  refine ⟨ρ1, μ1, G1, _, rs1, rp1, turn m ρ1 μ1 w1, fun x H2 h2 => ?_⟩
  obtain ⟨μ2, G2, e2, rp2, t2⟩ := h2
  have k2 := k.up (e1.trans e2)
  cases x with
  | true =>
    rw [if_pos rfl]
    refine ⟨lowS X.K B G fun ρ' μ' => ∃ m', m' < m ∧ W m' ρ' μ', fun σ3 H3 h3 => ?_, ρ1, μ2, G2, _, rs1.mono e2, rp2, t2, ⟨fun σ3 H3 h3 => h3.up (e1.trans e2), k2.rt, k2.nx, fun σ3 H3 h3 => h3.up (e1.trans e2)⟩⟩
    obtain ⟨ρ3, μ3, G3, e3, rs3, rp3, m', hm, w3⟩ := h3
    exact ⟨m', hm, ρ3, μ3, G3, e3, rs3, rp3, w3⟩
  | false =>
    rw [if_neg Bool.false_ne_true]
    exact k2.nx σ1 H2 ⟨ρ1, μ2, G2, Evl.Ex.refl G2, rs1.mono e2, rp2, t2⟩) (ps_while hp hc hb)
/-! ### what is walked -/
/-- the iterator gives the items while G lasts -/
structure ItZ (K : PySem.W.Frag) (J : It) (G : Hp) (items : List D) : Prop where
  stop : ∀ H, Ex G H → J.stop items.length H
  go : ∀ i H, Ex G H → i < items.length → J.go i H
  yld : ∀ (B : Bs) i H x H' μ G1, Ex G G1 → Rep K B μ G1 H → i < items.length → J.yld i H x H' → ∃ G2 d, Ex G1 G2 ∧ Rep K B μ G2 H' ∧ items[i]? = some d ∧ Is K G2 x d
abbrev ZI := Rho → Mu → (List D → Mu → Prop) → Prop
def zi (K : PySem.W.Frag) (B : Bs) (t : ZI) : TI := fun σ H R => ∃ ρ μ G Q, RepS K ρ σ G ∧ Rep K B μ G H ∧ t ρ μ Q ∧ ∀ J items μ' G' H', Ex G G' → Rep K B μ' G' H' → ItZ K J G' items → items.length ≤ sizeLine → Q items μ' → R J H'
theorem pi_weak {tg iter : Expr} {wi wi' : TI} (h : ∀ σ H R, wi' σ H R → wi σ H R) (p : PI X tg iter wi) : PI X tg iter wi' := ⟨fun pins s σ H R I q => p.run pins s σ H R I (h σ H R q)⟩
@[simp] def zForG (tg : Tg) (t : ZS) (Z : ZE) : List D → Rho → Mu → Prop
  | [], ρ, μ => Z.nx ρ μ
  | d :: ds, ρ, μ => match tg.put d ρ with
    | some ρ' => t { Z with nx := zForG tg t Z ds, ct := zForG tg t Z ds, bk := Z.nx } ρ' μ
    | none => False
@[simp] def zFor (wi : ZI) (tg : Tg) (t : ZS) : ZS := fun Z ρ μ => wi ρ μ fun ds μ1 => zForG tg t Z ds ρ μ1
theorem z_for {tgt iter : Expr} {body : List Stmt} {wi : ZI} {tg : Tg} (hp : PassesOwn (model X.prog X.w) X.A X.env X.xe) (hc : X.calm = true) (hi : PI X tgt iter (zi X.K B wi)) (hg : PG X tgt (tg.g X.K)) (hb : PSs X body (zs X.K B t))
    (hs : ∀ x, foldedSetIterable iter X.env x = pure x := by intro _; rfl) : PS X (.For tgt iter body [] pos) (zs X.K B (zFor wi tg t)) := ps_weak (fun D σ H h => by
  obtain ⟨ρ, μ, G, Z, rs, rp, h, k⟩ := h
  refine ⟨ρ, μ, G, _, rs, rp, h, fun J items μ1 G1 H1 e1 rp1 it hz q1 => ?_⟩
  refine ⟨fun i m σ' H' => i + m = items.length ∧ ∃ ρ' μ' G', Ex G1 G' ∧ RepS X.K ρ' σ' G' ∧ Rep X.K B μ' G' H' ∧ zForG tg t Z (items.drop i) ρ' μ', ⟨items.length, by omega, ρ, μ1, G1, Evl.Ex.refl G1, rs.mono e1, rp1, q1⟩, fun i m σ' H' w => ?_⟩
  obtain ⟨em, ρ', μ', G', e', rs', rp', q'⟩ := w
  have k' := k.up (e1.trans e')
  by_cases hi : i < items.length
  · refine .inr ⟨it.go i H' (e'.trans rp'.ex) hi, fun σ2 H2 => ∃ ρ' μ' G', Ex G1 G' ∧ RepS X.K ρ' σ2 G' ∧ Rep X.K B μ' G' H2 ∧ zForG tg t Z (items.drop (i + 1)) ρ' μ', fun σ2 H2 n => ⟨m - 1, by omega, by omega, n⟩, fun x H2 hy => ?_⟩
    obtain ⟨G2, d, e2, rp2, hd, ix⟩ := it.yld B i H' x H2 μ' G' e' rp' hi hy
    have hdrop : items.drop i = d :: items.drop (i + 1) := by
      rw [List.drop_eq_getElem_cons hi]
      rw [List.getElem?_eq_getElem hi] at hd
      cases hd
      rfl
    rw [hdrop] at q'
    unfold zForG at q'
    split at q'
    · rename_i ρ2 hput
      refine tg_ok rp2 ix (rs'.mono e2) hput fun σ3 rs3 _ => ⟨ρ2, μ', G2, _, rs3, rp2, q', ?_⟩
      have k2 := k'.up e2
      refine ⟨fun σ4 H4 h4 => ?_, k2.rt, k2.nx, fun σ4 H4 h4 => ?_⟩
      · obtain ⟨ρ4, μ4, G4, e4, rs4, rp4, t4⟩ := h4
        exact ⟨ρ4, μ4, G4, (e'.trans e2).trans e4, rs4, rp4, t4⟩
      · obtain ⟨ρ4, μ4, G4, e4, rs4, rp4, t4⟩ := h4
        exact ⟨ρ4, μ4, G4, (e'.trans e2).trans e4, rs4, rp4, t4⟩
    · exact q'.elim
  · have hi2 : i = items.length := by omega
    subst hi2
    rw [List.drop_length] at q'
    exact .inl ⟨it.stop H' (e'.trans rp'.ex), k'.nx σ' H' ⟨ρ', μ', G', Evl.Ex.refl G', rs', rp', q'⟩⟩) (ps_for hp hc hi hg hb hs)
end
end ZL
namespace ZL
open PySem PySem.Spec PyProof.Rows L2
/-! ### enumerate of a tuple -/
def IteT (K : PySem.W.Frag) (a : Addr) : It :=
  ⟨fun i H => ∃ (xs : List V) (x : V), SqT K H a xs ∧ xs[i]? = some x, fun i H v H' => ∃ T x, v = .ref T ∧ H T = none ∧ H' = upd H T (.tup [.int (i : Nat), x]) ∧ (∀ xs, SqT K H a xs → xs[i]? = some x), fun i H => ∃ xs : List V, SqT K H a xs ∧ xs.length = i⟩
theorem tupIter_ne {h : Heap} {a it : Addr} {i : Nat} {its : Array Value} (h1 : h.IsTupleIter it a i) (h2 : IsTup h a its) : a ≠ it := by
  intro z
  subst z
  obtain ⟨o, e1, c1, _⟩ := h1
  obtain ⟨o2, e2, c2, _⟩ := h2
  rw [e1] at e2; cases e2
  rw [c1] at c2
  injection c2 with c3
  exact absurd c3 (by decide)
theorem enum_ne {h : Heap} {a e it : Addr} {i : Int} {old : Value} {its : Array Value} (h1 : IsEnum h e it i old) (h2 : IsTup h a its) : e ≠ a := by
  intro z
  subst z
  obtain ⟨o2, e2, c2, _⟩ := h2
  have e1 : h.get? e = _ := h1
  rw [e1] at e2; cases e2
  have c2 : Value.type "enumerate" = Value.type "tuple" := c2
  injection c2 with c3
  exact absurd c3 (by decide)
theorem turn_enumT {P : Program} {w : World} {K : PySem.W.Frag} {elts : List Expr} {kk : Nat} {tpos : Pos} (a e it : Addr) :
    Turn P w K (.Tuple elts kk tpos) (IteT K a) [e, it] e (fun i h => (∃ old, IsEnum h e it ((i : Nat) : Int) old) ∧ h.IsTupleIter it a i ∧ e ≠ it) where
  mem := List.mem_cons_self
  obj := fun i h st b hb => by
    obtain ⟨⟨old, he⟩, ⟨o, ho, hc, hd⟩, _⟩ := st
    rcases List.mem_cons.mp hb with z | z
    · subst z
      exact ⟨_, he, fun v q => nomatch q⟩
    · have z2 : b = it := by simpa using z
      exact ⟨o, by rw [z2]; exact ho, fun v q => by rw [hd] at q; cases q⟩
  keep := fun i h h' st k => by
    obtain ⟨⟨old, he⟩, hi, hn⟩ := st
    exact ⟨⟨old, k e List.mem_cons_self _ he⟩, hi.at fun o q => k it (List.mem_cons_of_mem _ List.mem_cons_self) o q, hn⟩
  item := by
    intro X e1 e2 e3 hc i pins s σ H E I hf st hg
    subst e1 e2 e3
    obtain ⟨⟨old, he⟩, hit, hne⟩ := st
    obtain ⟨xs, x, hq, hx⟩ := hg
    obtain ⟨its, rv, p, hz⟩ := I.tuple hq
    obtain ⟨u, hu, ru⟩ := rv.get hx
    have lE : e < s.heap.objs.size := Heap.lt_size he
    have lI : it < s.heap.objs.size := by obtain ⟨_, q, _⟩ := hit; exact Heap.lt_size q
    have hi : i < its.toArray.size := by
      have := (List.getElem?_eq_some_iff.mp hu).1
      rw [List.size_toArray]; exact this
    have hh : X.A.in1.handled = none := I.ok.hd hc
    have DT := Draws.tuple (prog := X.prog) (w := X.w) (A := X.A.in1) hh it a (tupIter_ne hit p) its.toArray
    refine wpAny_pyNext_enum_itemD DT he ⟨hit, show s.heap.IsTuple a its.toArray from p⟩ hi hne (fun q => ?_) fun y h' tk hy ho hst hT hsz hk => ?_
    · rcases List.mem_cons.mp q with z | z
      · exact hne z
      · exact enum_ne he p (by simpa using z)
    have ey : y = u := by
      have e1 : its.toArray[i]? = some u := by simpa using hu
      have e2 : its.toArray[i]? = some y := hy
      rw [e1] at e2; cases e2; rfl
    subst ey
    refine ⟨_, rfl, wpAny_letOwnedTupleGo_enum (s := { s with heap := h', toks := tk + 1 }) ho fun h'' he' sb => ?_⟩
    have hT2 : h''.get? s.heap.objs.size = some { cls := .type "tuple", data := .seq #[.int i tk, y] } := (sb.2 _ (Nat.ne_of_gt lE)).trans hT
    have new : ObjOk X.prog X.w (upd H s.heap.objs.size (.tup [.int (i : Nat), x])) h'' s.heap.objs.size (.tup [.int (i : Nat), x]) :=
      ⟨by show 2 ≤ sizeLine; decide, _, .cons ⟨tk, rfl⟩ (.cons ru .nil), ⟨_, hT2, rfl, _, rfl⟩⟩
    have I1 : Inv X pins σ (upd H s.heap.objs.size (.tup [.int (i : Nat), x])) { s with heap := h'', toks := tk + 1 } :=
      I.turnedNew (ch := [e, it]) (fun b ob hb q => (sb.2 b (fun z => hb (by rw [z]; exact List.mem_cons_self))).trans (hk b ob (fun z => hb (by rw [z]; exact List.mem_cons_self)) (fun z => hb (by rw [z]; exact List.mem_cons_of_mem _ List.mem_cons_self)) q)) hf (Nat.le_refl _) new
    refine ⟨.ref s.heap.objs.size, _, I1, rfl, ⟨_, x, rfl, I.hok.fresh (Nat.le_refl _), rfl, fun ys hy => by rw [I.tuple_inj hy hq]; exact hx⟩, ⟨⟨y, ?_⟩, hst.1.at fun o q => (sb.2 it (Ne.symm hne)).trans q, hne⟩, fun b hb => ?_⟩
    · have e1 : ((i + 1 : Nat) : Int) = (i : Int) + 1 := Int.natCast_add i 1
      rw [e1]; exact he'
    · have hb' : b < s.heap.objs.size := by
        rcases List.mem_cons.mp hb with z | z
        · rw [z]; exact lE
        · rw [show b = it by simpa using z]; exact lI
      rw [upd_ne (Nat.ne_of_lt hb')]
      exact (hf b hb).1
  done := by
    intro X e1 e2 e3 hc i pins s σ H E I hf st hg
    subst e1 e2 e3
    obtain ⟨⟨old, he⟩, hit, hne⟩ := st
    obtain ⟨xs, hq, hx⟩ := hg
    obtain ⟨its, rv, p, hz⟩ := I.tuple hq
    obtain ⟨f0, f1, f2, f3, f4, f5⟩ := hf it (List.mem_cons_of_mem _ List.mem_cons_self)
    have hh : X.A.in1.handled = none := I.ok.hd hc
    have hl := rv.length
    have DT := Draws.tuple (prog := X.prog) (w := X.w) (A := X.A.in1) hh it a (tupIter_ne hit p) its.toArray
    have ei : i = its.toArray.size := by rw [List.size_toArray]; omega
    subst ei
    exact wpAny_pyNext_enum_endD DT he ⟨hit, show s.heap.IsTuple a its.toArray from p⟩ fun h' eb => ⟨rfl, I.turned (t' := s.toks) (fun b o hb q => eb b o hb q) f0 f1 f3 f4 f5⟩
  self := fun A i s Q E st h => by
    obtain ⟨⟨_, he⟩, _⟩ := st
    exact wpAny_pyIter_enum he h
set_option maxHeartbeats 2000000 in
/-- enumerate(v) of anything whose iterator is one new object -/
theorem meets_enum1 {v : Value} {o : Obj} {T : Heap → Prop} (B : Begins v o T) : Meets (Builtin.«enumerate.__new__» ⟨[.type "enumerate", v], []⟩) (fun _ R s => T s.heap ∧
      R (.ok (.ret (.ref (s.heap.push o).objs.size))) { s with heap := (s.heap.push o).push { cls := .type "enumerate", data := .fields #[.none, .bool false, .ref s.heap.objs.size, rawInt 0, .none, .none] } }) :=
  .of_wp fun prog w A R s0 h => by
    obtain ⟨hp, gn, dr, tk, os⟩ := s0
    obtain ⟨hT, hR⟩ := h
    have isub := sub_enumerate
    have itr : ∀ {A' : Around} {E Q : Value → Shared → Prop}, Q (.ref hp.objs.size) ⟨hp.push o, gn, dr, tk, os⟩ → wpAny (model prog w) A' (pyIter v) Q E ⟨hp, gn, dr, tk, os⟩ :=
      fun q => B.iter prog w _ _ ⟨hp, gn, dr, tk, os⟩ _ hT q
    wp_walk using itr
    refine wpAny_stack_any fun st => wpAny_pure ?_
    split
    · rename_i k _ _ _ _ _
      cases (k == Value.type "enumerate") <;> (wp_walk using itr; exact ⟨_, rfl, hR⟩)
    · wp_walk using itr
      exact ⟨_, rfl, hR⟩
theorem call_enumB {prog : Program} {w : World} {A : Around} {E : Value → Shared → Prop} {s : Shared} {v : Value} {o : Obj} {T : Heap → Prop} {Q : Value → Shared → Prop} (B : Begins v o T) (hT : T s.heap)
    (h : ∀ h', IsEnum h' (s.heap.objs.size + 1) s.heap.objs.size 0 .none → h'.get? s.heap.objs.size = some o → h'.objs.size = s.heap.objs.size + 2 → (∀ b u, s.heap.get? b = some u → h'.get? b = some u) → Q (.ref (s.heap.objs.size + 1)) { s with heap := h' }) :
    wpAny (model prog w) A (call (.type "enumerate") [v]) Q E s := by
  refine callType_new F.called_enumerate (by decide) (F.typeCall_enumerate_1 _) (F.newCall_enumerate_1 _) (fun ob => F.args_object_init_2 ob _) F.entry_enumerate_new (meets_enum1 B) ⟨hT, ?_⟩
  have hz : (s.heap.push o).objs.size = s.heap.objs.size + 1 := Heap.size_push ..
  show _ ∧ _
  rw [hz]
  have g1 : ∀ b u, s.heap.get? b = some u → ((s.heap.push o).push { cls := .type "enumerate", data := .fields #[.none, .bool false, .ref s.heap.objs.size, rawInt 0, .none, .none] }).get? b = some u := fun b u q => Heap.get?_push_of_some _ (Heap.get?_push_of_some _ q)
  have he : IsEnum ((s.heap.push o).push { cls := .type "enumerate", data := .fields #[.none, .bool false, .ref s.heap.objs.size, rawInt 0, .none, .none] }) (s.heap.objs.size + 1) s.heap.objs.size 0 .none := by
    show Heap.get? _ _ = _
    rw [← hz]
    exact Heap.get?_push_size _ rfl
  exact ⟨⟨_, he, rfl⟩, h _ he (Heap.get?_push_of_some _ (Heap.get?_push_size _ B.free)) (by rw [Heap.size_push, hz]) g1⟩
/-! ### what is walked, by values -/
section
variable {X : Cx} {tg : Expr}
/-- a list or a tuple -/
def iAny (K : PySem.W.Frag) (tl : TE) : TI := fun σ H R => tl σ H fun x H1 => ∃ a, x = .ref a ∧ (((∃ xs, SqL K H1 a xs) ∧ R (Itl K a) H1) ∨ ((∃ xs, SqT K H1 a xs) ∧ R (Itt K a) H1))
theorem pi_any {l : Expr} {tl : TE} (hl : PE X l tl) : PI X tg l (iAny X.K tl) := by
  refine ⟨fun pins s σ H R I h => thn (hl.run pins s σ H _ I h) fun v s1 ⟨x, H1, I1, r1, q1⟩ => ?_⟩
  obtain ⟨a, ex, q1⟩ := q1
  subst ex
  cases r1
  have fresh : ∀ b ∈ [s1.heap.objs.size], FpOk X pins H1 b := fun b hb => by
    have e : b = s1.heap.objs.size := by simpa using hb
    rw [e]
    exact I1.fpOk (Nat.le_refl _) (I1.hok.fresh (Nat.le_refl _))
  rcases q1 with ⟨⟨xs, hq⟩, q⟩ | ⟨⟨xs, hq⟩, q⟩
  · obtain ⟨its, rv, p, hz⟩ := I1.list hq
    exact wpAny_pyIter_list p.isList ⟨_, _, _, _, H1, rfl, I1.kept (t' := s1.toks) fun b o e => Heap.get?_push_of_some _ e, turn_list a _, ⟨_, Heap.get?_push_size _ rfl, rfl, rfl⟩, fresh, q⟩
  · obtain ⟨its, rv, p, hz⟩ := I1.tuple hq
    exact wpAny_pyIter_tuple (show s1.heap.IsTuple a its.toArray from p) ⟨_, _, _, _, H1, rfl, I1.kept (t' := s1.toks) fun b o e => Heap.get?_push_of_some _ e, turn_tuple a _, ⟨_, Heap.get?_push_size _ rfl, rfl, rfl⟩, fresh, q⟩
/-- enumerate of a list or a tuple -/
def iEnumA (K : PySem.W.Frag) (ta : TA) : TI := fun σ H R => ta σ H fun vs H1 => ∃ a, vs = [.ref a] ∧ (((∃ xs, SqL K H1 a xs) ∧ R (Ite K a) H1) ∨ ((∃ xs, SqT K H1 a xs) ∧ R (IteT K a) H1))
theorem pi_enumA {e : Expr} {ta : TA} {p pos tpos : Pos} {elts : List Expr} {kk : Nat} (hg : Gl X "enumerate") (hm : X.mg "enumerate" = none) (ha : PA X [e] ta) (hs : starEach [e] X.env = [(false, eval e X.env)] := by rfl) :
    PI X (.Tuple elts kk tpos) (.Call (.Name "enumerate" p) [e] [] pos) (iEnumA X.K ta) := by
  refine ⟨fun pins s σ H R I h => Call_ (ld_blt I hg hm boot_enumerate (PyProof.Rows.callWith_type1 (thn (ha.run pos pins s σ H _ I h) fun us s1 ⟨vs, H1, I1, r1, q1⟩ => ?_) hs rfl))⟩
  obtain ⟨a, ex, q1⟩ := q1
  subst ex
  cases r1 with
  | cons r rr =>
    cases rr
    cases r
    have fresh : ∀ b ∈ [s1.heap.objs.size + 1, s1.heap.objs.size], FpOk X pins H1 b := fun b hb => by
      have e' : b = s1.heap.objs.size + 1 ∨ b = s1.heap.objs.size := by simpa using hb
      have hle : s1.heap.objs.size ≤ b := by omega
      exact I1.fpOk hle (I1.hok.fresh hle)
    rcases q1 with ⟨⟨xs, hq⟩, q⟩ | ⟨⟨xs, hq⟩, q⟩
    · obtain ⟨its, rv, pl, hz⟩ := I1.list hq
      exact call_enumB (begins_list a its.toArray) pl.isList fun h' he hit hsz hk => wpAny_pyIter_enum he
        ⟨_, _, _, _, H1, rfl, I1.kept (t' := s1.toks) hk, turn_enum a (s1.heap.objs.size + 1) s1.heap.objs.size, ⟨⟨.none, he⟩, ⟨_, hit, rfl, rfl⟩, Nat.succ_ne_self _⟩, fresh, q⟩
    · obtain ⟨its, rv, pl, hz⟩ := I1.tuple hq
      exact call_enumB (begins_tuple a its.toArray) (show s1.heap.IsTuple a its.toArray from pl) fun h' he hit hsz hk => wpAny_pyIter_enum he
        ⟨_, _, _, _, H1, rfl, I1.kept (t' := s1.toks) hk, turn_enumT a (s1.heap.objs.size + 1) s1.heap.objs.size, ⟨⟨.none, he⟩, ⟨_, hit, rfl, rfl⟩, Nat.succ_ne_self _⟩, fresh, q⟩
end
/-! ### the same on data -/
def rangeD (lo : Int) (n : Nat) : List D := (List.range n).map fun i => .int (lo + (i : Nat))
def enumD : Nat → List D → List D
  | _, [] => []
  | k, d :: ds => .tup [.int (k : Nat), d] :: enumD (k + 1) ds
def zipD : List D → List D → List D
  | x :: xs, y :: ys => .tup [x, y] :: zipD xs ys
  | _, _ => []
theorem enumD_get : ∀ {ds : List D} {k i : Nat} {d : D}, ds[i]? = some d → (enumD k ds)[i]? = some (.tup [.int ((k + i : Nat) : Int), d])
  | [], _, _, _, h => by simp at h
  | d :: ds, k, 0, e, h => by simp at h; subst h; rfl
  | d :: ds, k, i + 1, e, h => by
    have h2 : ds[i]? = some e := by simpa using h
    have ih := enumD_get (k := k + 1) h2
    show (enumD (k + 1) ds)[i]? = _
    rw [ih, show k + 1 + i = k + (i + 1) by omega]
theorem enumD_len : ∀ (ds : List D) (k : Nat), (enumD k ds).length = ds.length
  | [], _ => rfl
  | d :: ds, k => by show (enumD (k + 1) ds).length + 1 = _; rw [enumD_len ds]; rfl
theorem zipD_get : ∀ {xs ys : List D} {i : Nat} {x y : D}, xs[i]? = some x → ys[i]? = some y → (zipD xs ys)[i]? = some (.tup [x, y])
  | [], _, _, _, _, h, _ => by simp at h
  | _ :: _, [], _, _, _, _, h => by simp at h
  | x :: xs, y :: ys, 0, _, _, h, g => by simp at h g; subst h; subst g; rfl
  | x :: xs, y :: ys, i + 1, a, b, h, g => zipD_get (i := i) (by simpa using h) (by simpa using g)
theorem zipD_len : ∀ (xs ys : List D), (zipD xs ys).length = min xs.length ys.length
  | [], ys => by simp [zipD]
  | x :: xs, [] => by simp [zipD]
  | x :: xs, y :: ys => by show (zipD xs ys).length + 1 = _; rw [zipD_len xs ys, List.length_cons, List.length_cons]; omega
section
variable {K : PySem.W.Frag} {B : Bs} {G : Hp} {a b : Addr} {xs ys : List V} {ds es : List D}
theorem itz_list (h : SqL K G a xs) (t : IsAll K G xs ds) : ItZ K (Itl K a) G ds where
  stop := fun H e => ⟨xs, Evl.ex_l e h, by rw [t.length]; exact Nat.le_refl _⟩
  go := fun i H e hi => by
    obtain ⟨v, h1, h2⟩ := t.get (List.getElem?_eq_getElem hi)
    exact ⟨xs, v, Evl.ex_l e h, h1⟩
  yld := fun _ i H x H' μ G1 e rp hi hy => by
    obtain ⟨eH, hx⟩ := hy
    subst eH
    obtain ⟨v, h1, h2⟩ := t.get (List.getElem?_eq_getElem hi)
    have e2 := hx xs (Evl.ex_l (e.trans rp.ex) h)
    rw [h1] at e2; cases e2
    exact ⟨G1, _, Evl.Ex.refl G1, rp, List.getElem?_eq_getElem hi, h2.mono e⟩
theorem itz_tup (h : SqT K G a xs) (t : IsAll K G xs ds) : ItZ K (Itt K a) G ds where
  stop := fun H e => ⟨xs, Evl.ex_t e h, by rw [t.length]; exact Nat.le_refl _⟩
  go := fun i H e hi => by
    obtain ⟨v, h1, h2⟩ := t.get (List.getElem?_eq_getElem hi)
    exact ⟨xs, v, Evl.ex_t e h, h1⟩
  yld := fun _ i H x H' μ G1 e rp hi hy => by
    obtain ⟨eH, hx⟩ := hy
    subst eH
    obtain ⟨v, h1, h2⟩ := t.get (List.getElem?_eq_getElem hi)
    have e2 := hx xs (Evl.ex_t (e.trans rp.ex) h)
    rw [h1] at e2; cases e2
    exact ⟨G1, _, Evl.Ex.refl G1, rp, List.getElem?_eq_getElem hi, h2.mono e⟩
theorem itz_rng {lo : Int} {n : Nat} : ItZ K (Itr lo n) G (rangeD lo n) where
  stop := fun H e => by show n ≤ (rangeD lo n).length; unfold rangeD; simp
  go := fun i H e hi => by show i < n; unfold rangeD at hi; simpa using hi
  yld := fun _ i H x H' μ G1 e rp hi hy => by
    obtain ⟨eH, hx⟩ := hy
    subst eH; subst hx
    have hi2 : i < n := by unfold rangeD at hi; simpa using hi
    exact ⟨G1, .int (lo + i), Evl.Ex.refl G1, rp, by unfold rangeD; simp [hi2], .int _⟩
theorem pair_new {μ : Mu} {G1 H : Hp} {T : Addr} {x y : V} {d e : D} (rp : Rep K B μ G1 H) (n : H T = none) (i : Is K G1 x d) (j : Is K G1 y e) :
    ∃ G2, Ex G1 G2 ∧ Rep K B μ G2 (upd H T (.tup [x, y])) ∧ Is K G2 (.ref T) (.tup [d, e]) := by
  obtain ⟨r, ex⟩ := rp.val n (o := .tup [x, y])
  exact ⟨_, ex, r, .tup (Evl.st_of upd_same) (by show 2 ≤ sizeLine; decide) (.cons (i.mono ex) (.cons (j.mono ex) .nil))⟩
theorem itz_enumL (h : SqL K G a xs) (t : IsAll K G xs ds) : ItZ K (Ite K a) G (enumD 0 ds) where
  stop := fun H e => ⟨xs, Evl.ex_l e h, by rw [enumD_len, t.length]; exact Nat.le_refl _⟩
  go := fun i H e hi => by
    rw [enumD_len] at hi
    obtain ⟨v, h1, h2⟩ := t.get (List.getElem?_eq_getElem hi)
    exact ⟨xs, v, Evl.ex_l e h, h1⟩
  yld := fun _ i H x H' μ G1 e rp hi hy => by
    rw [enumD_len] at hi
    obtain ⟨T, v, ex, n, eH, hx⟩ := hy
    subst ex; subst eH
    obtain ⟨v2, h1, h2⟩ := t.get (List.getElem?_eq_getElem hi)
    have e2 := hx xs (Evl.ex_l (e.trans rp.ex) h)
    rw [h1] at e2; cases e2
    obtain ⟨G2, e3, r3, i3⟩ := pair_new rp n (.int (i : Nat)) (h2.mono e)
    exact ⟨G2, _, e3, r3, by rw [enumD_get (List.getElem?_eq_getElem hi), Nat.zero_add], i3⟩
theorem itz_enumT (h : SqT K G a xs) (t : IsAll K G xs ds) : ItZ K (IteT K a) G (enumD 0 ds) where
  stop := fun H e => ⟨xs, Evl.ex_t e h, by rw [enumD_len, t.length]⟩
  go := fun i H e hi => by
    rw [enumD_len] at hi
    obtain ⟨v, h1, h2⟩ := t.get (List.getElem?_eq_getElem hi)
    exact ⟨xs, v, Evl.ex_t e h, h1⟩
  yld := fun _ i H x H' μ G1 e rp hi hy => by
    rw [enumD_len] at hi
    obtain ⟨T, v, ex, n, eH, hx⟩ := hy
    subst ex; subst eH
    obtain ⟨v2, h1, h2⟩ := t.get (List.getElem?_eq_getElem hi)
    have e2 := hx xs (Evl.ex_t (e.trans rp.ex) h)
    rw [h1] at e2; cases e2
    obtain ⟨G2, e3, r3, i3⟩ := pair_new rp n (.int (i : Nat)) (h2.mono e)
    exact ⟨G2, _, e3, r3, by rw [enumD_get (List.getElem?_eq_getElem hi), Nat.zero_add], i3⟩
theorem itz_zipL (h : SqL K G a xs) (t : IsAll K G xs ds) (g : SqL K G b ys) (u : IsAll K G ys es) : ItZ K (Itz K a b) G (zipD ds es) where
  stop := fun H e => by
    refine ⟨xs, ys, Evl.ex_l e h, Evl.ex_l e g, ?_⟩
    rw [zipD_len, t.length, u.length]
    omega
  go := fun i H e hi => by
    rw [zipD_len] at hi
    obtain ⟨v, h1, h2⟩ := t.get (List.getElem?_eq_getElem (show i < ds.length by omega))
    obtain ⟨w, g1, g2⟩ := u.get (List.getElem?_eq_getElem (show i < es.length by omega))
    exact ⟨xs, ys, v, w, Evl.ex_l e h, Evl.ex_l e g, h1, g1⟩
  yld := fun _ i H x H' μ G1 e rp hi hy => by
    rw [zipD_len] at hi
    obtain ⟨T, v, w, ex, n, eH, hx, hw⟩ := hy
    subst ex; subst eH
    obtain ⟨v2, h1, h2⟩ := t.get (List.getElem?_eq_getElem (show i < ds.length by omega))
    obtain ⟨w2, g1, g2⟩ := u.get (List.getElem?_eq_getElem (show i < es.length by omega))
    have e2 := hx xs (Evl.ex_l (e.trans rp.ex) h)
    rw [h1] at e2; cases e2
    have e3 := hw ys (Evl.ex_l (e.trans rp.ex) g)
    rw [g1] at e3; cases e3
    obtain ⟨G2, e3, r3, i3⟩ := pair_new rp n (h2.mono e) (g2.mono e)
    exact ⟨G2, _, e3, r3, zipD_get (List.getElem?_eq_getElem (show i < ds.length by omega)) (List.getElem?_eq_getElem (show i < es.length by omega)), i3⟩
theorem itz_zipT (h : SqT K G a xs) (t : IsAll K G xs ds) (g : SqT K G b ys) (u : IsAll K G ys es) : ItZ K (RZ.ItzT K a b) G (zipD ds es) where
  stop := fun H e => by
    refine ⟨xs, ys, Evl.ex_t e h, Evl.ex_t e g, ?_⟩
    rw [zipD_len, t.length, u.length]
    omega
  go := fun i H e hi => by
    rw [zipD_len] at hi
    obtain ⟨v, h1, h2⟩ := t.get (List.getElem?_eq_getElem (show i < ds.length by omega))
    obtain ⟨w, g1, g2⟩ := u.get (List.getElem?_eq_getElem (show i < es.length by omega))
    exact ⟨xs, ys, v, w, Evl.ex_t e h, Evl.ex_t e g, h1, g1⟩
  yld := fun _ i H x H' μ G1 e rp hi hy => by
    rw [zipD_len] at hi
    obtain ⟨T, v, w, ex, n, eH, hx, hw⟩ := hy
    subst ex; subst eH
    obtain ⟨v2, h1, h2⟩ := t.get (List.getElem?_eq_getElem (show i < ds.length by omega))
    obtain ⟨w2, g1, g2⟩ := u.get (List.getElem?_eq_getElem (show i < es.length by omega))
    have e2 := hx xs (Evl.ex_t (e.trans rp.ex) h)
    rw [h1] at e2; cases e2
    have e3 := hw ys (Evl.ex_t (e.trans rp.ex) g)
    rw [g1] at e3; cases e3
    obtain ⟨G2, e3, r3, i3⟩ := pair_new rp n (h2.mono e) (g2.mono e)
    exact ⟨G2, _, e3, r3, zipD_get (List.getElem?_eq_getElem (show i < ds.length by omega)) (List.getElem?_eq_getElem (show i < es.length by omega)), i3⟩
end
def vL : D → Option (List D)
  | .lst xs => some xs
  | _ => none
def vT : D → Option (List D)
  | .tup xs => some xs
  | _ => none
def vS : D → Option (List D)
  | .lst xs => some xs
  | .tup xs => some xs
  | _ => none
@[simp] theorem vS_lst (xs : List D) : vS (.lst xs) = some xs := rfl
@[simp] theorem vS_tup (xs : List D) : vS (.tup xs) = some xs := rfl
@[simp] def zIt (ta : ZT) : ZI := fun ρ μ Q => ta ρ μ fun d μ1 => match vS d with
  | some xs => Q xs μ1
  | none => False
@[simp] def zRng1 (ta : ZA) : ZI := fun ρ μ Q => ta ρ μ fun ds μ1 => match ds with
  | [.int n] => n ≤ 16777216 ∧ -16777216 ≤ n ∧ Q (rangeD 0 n.toNat) μ1
  | _ => False
@[simp] def zRng2 (ta : ZA) : ZI := fun ρ μ Q => ta ρ μ fun ds μ1 => match ds with
  | [.int i, .int j] => (i ≤ 8000000 ∧ -8000000 ≤ i ∧ j ≤ 8000000 ∧ -8000000 ≤ j) ∧ Q (rangeD i (j - i).toNat) μ1
  | _ => False
@[simp] def zEnum (ta : ZA) : ZI := fun ρ μ Q => ta ρ μ fun ds μ1 => match ds with
  | [d] => (match vS d with
    | some xs => Q (enumD 0 xs) μ1
    | none => False)
  | _ => False
@[simp] def zZip (ta : ZA) : ZI := fun ρ μ Q => ta ρ μ fun ds μ1 => match ds with
  | [.tup xs, .tup ys] => Q (zipD xs ys) μ1
  | [.lst xs, .lst ys] => Q (zipD xs ys) μ1
  | _ => False
section
variable {X : Cx} {B : Bs} {tg l : Expr} {ta : ZT} {tr : ZA}
theorem z_it (hl : PE X l (zl X.K B ta)) : PI X tg l (zi X.K B (zIt ta)) := pi_weak (fun σ H R h => by
  obtain ⟨ρ, μ, G, Q, rs, rp, h, k⟩ := h
  refine ⟨ρ, μ, G, _, rs, rp, h, fun x H1 h1 => ?_⟩
  obtain ⟨d, μ1, G1, e1, rp1, i1, t1⟩ := h1
  cases i1 with
  | lst s z t => exact ⟨_, rfl, .inl ⟨⟨_, Evl.ex_l rp1.ex s⟩, k _ _ μ1 G1 H1 e1 rp1 (itz_list s t) (by rw [← t.length]; exact z) t1⟩⟩
  | tup s z t => exact ⟨_, rfl, .inr ⟨⟨_, Evl.ex_t rp1.ex s⟩, k _ _ μ1 G1 H1 e1 rp1 (itz_tup s t) (by rw [← t.length]; exact z) t1⟩⟩
  | _ => exact t1.elim) (pi_any hl)
theorem rangeD_len (lo : Int) (n : Nat) : (rangeD lo n).length = n := by unfold rangeD; simp
theorem z_rng1 {p pos : Pos} (hg : Gl X "range") (hm : X.mg "range" = none) (ha : PA X [l] (za X.K B tr)) (hs : starEach [l] X.env = [(false, eval l X.env)] := by rfl) : PI X tg (.Call (.Name "range" p) [l] [] pos) (zi X.K B (zRng1 tr)) := pi_weak (fun σ H R h => by
  obtain ⟨ρ, μ, G, Q, rs, rp, h, k⟩ := h
  refine ⟨ρ, μ, G, _, rs, rp, h, fun x H1 h1 => ?_⟩
  obtain ⟨ds, μ1, G1, e1, rp1, i1, t1⟩ := h1
  split at t1
  · rename_i n
    obtain ⟨v, ev, i2⟩ := one_of i1
    cases i2
    obtain ⟨t1, t2, t3⟩ := t1
    exact ⟨n, ev, by omega, by omega, k _ _ μ1 G1 H1 e1 rp1 itz_rng (by rw [rangeD_len, sizeLine_eq]; omega) t3⟩
  · exact t1.elim) (pi_range1 hg hm ha hs)
theorem z_rng2 {l2 : Expr} {p pos : Pos} (hg : Gl X "range") (hm : X.mg "range" = none) (ha : PA X [l, l2] (za X.K B tr)) (hs : starEach [l, l2] X.env = [(false, eval l X.env), (false, eval l2 X.env)] := by rfl) (hs2 : starEach [l2] X.env = [(false, eval l2 X.env)] := by rfl) : PI X tg (.Call (.Name "range" p) [l, l2] [] pos) (zi X.K B (zRng2 tr)) := pi_weak (fun σ H R h => by
  obtain ⟨ρ, μ, G, Q, rs, rp, h, k⟩ := h
  refine ⟨ρ, μ, G, _, rs, rp, h, fun x H1 h1 => ?_⟩
  obtain ⟨ds, μ1, G1, e1, rp1, i1, t1⟩ := h1
  split at t1
  · rename_i i j
    obtain ⟨v, w, ev, i2, i3⟩ := two_of i1
    cases i2; cases i3
    obtain ⟨⟨t1, t2, t3, t4⟩, t5⟩ := t1
    exact ⟨i, j, ev, ⟨by omega, by omega, by omega, by omega⟩, k _ _ μ1 G1 H1 e1 rp1 itz_rng (by rw [rangeD_len, sizeLine_eq]; omega) t5⟩
  · exact t1.elim) (pi_range2 hg hm ha hs hs2)
theorem z_enum {p pos tpos : Pos} {elts : List Expr} {kk : Nat} (hg : Gl X "enumerate") (hm : X.mg "enumerate" = none) (ha : PA X [l] (za X.K B tr)) (hs : starEach [l] X.env = [(false, eval l X.env)] := by rfl) :
    PI X (.Tuple elts kk tpos) (.Call (.Name "enumerate" p) [l] [] pos) (zi X.K B (zEnum tr)) := pi_weak (fun σ H R h => by
  obtain ⟨ρ, μ, G, Q, rs, rp, h, k⟩ := h
  refine ⟨ρ, μ, G, _, rs, rp, h, fun x H1 h1 => ?_⟩
  obtain ⟨ds, μ1, G1, e1, rp1, i1, t1⟩ := h1
  split at t1
  · obtain ⟨v, ev, i2⟩ := one_of i1
    subst ev
    cases i2 with
    | lst s z t => exact ⟨_, rfl, .inl ⟨⟨_, Evl.ex_l rp1.ex s⟩, k _ _ μ1 G1 H1 e1 rp1 (itz_enumL s t) (by rw [enumD_len, ← t.length]; exact z) t1⟩⟩
    | tup s z t => exact ⟨_, rfl, .inr ⟨⟨_, Evl.ex_t rp1.ex s⟩, k _ _ μ1 G1 H1 e1 rp1 (itz_enumT s t) (by rw [enumD_len, ← t.length]; exact z) t1⟩⟩
    | _ => exact t1.elim
  · exact t1.elim) (pi_enumA hg hm ha hs)
theorem z_zip {l2 : Expr} {p pos tpos : Pos} {elts : List Expr} {kk : Nat} (hg : Gl X "zip") (hm : X.mg "zip" = none) (ha : PA X [l, l2] (za X.K B tr)) (hs : starEach [l, l2] X.env = (false, eval l X.env) :: starEach [l2] X.env := by rfl) (hpl : (backTo pos (starEach [l2] X.env)).any (·.1) = false := by rfl) :
    PI X (.Tuple elts kk tpos) (.Call (.Name "zip" p) [l, l2] [] pos) (zi X.K B (zZip tr)) := pi_weak (fun σ H R h => by
  obtain ⟨ρ, μ, G, Q, rs, rp, h, k⟩ := h
  refine ⟨ρ, μ, G, _, rs, rp, h, fun x H1 h1 => ?_⟩
  obtain ⟨ds, μ1, G1, e1, rp1, i1, t1⟩ := h1
  split at t1
  · rename_i xs ys
    obtain ⟨v, w, ev, i2, i3⟩ := two_of i1
    cases i2 with
    | tup s z t =>
      cases i3 with
      | tup s2 z2 t2 => exact ⟨_, _, _, _, ev, .inr ⟨Evl.ex_t rp1.ex s, Evl.ex_t rp1.ex s2, k _ _ μ1 G1 H1 e1 rp1 (itz_zipT s t s2 t2) (by rw [zipD_len, ← t.length]; omega) t1⟩⟩
  · rename_i xs ys
    obtain ⟨v, w, ev, i2, i3⟩ := two_of i1
    cases i2 with
    | lst s z t =>
      cases i3 with
      | lst s2 z2 t2 => exact ⟨_, _, _, _, ev, .inl ⟨Evl.ex_l rp1.ex s, Evl.ex_l rp1.ex s2, k _ _ μ1 G1 H1 e1 rp1 (itz_zipL s t s2 t2) (by rw [zipD_len, ← t.length]; omega) t1⟩⟩
  · exact t1.elim) (RZ.pi_zipA hg hm ha hs hpl)
end
end ZL
namespace ZL
open PySem PySem.Spec PyProof.Rows L2
/-! ### list comprehensions -/
@[simp] def zLcG (tg : Tg) (tt : ZB) (te : ZT) (ρ : Rho) : List D → List D → Mu → (List D → Mu → Prop) → Prop
  | [], acc, μ, k => k acc μ
  | d :: ds, acc, μ, k => match tg.put d ρ with
    | some ρ' => tt ρ' μ fun b μ1 => match b with
      | true => te ρ' μ1 fun y μ2 => zLcG tg tt te ρ ds (acc ++ [y]) μ2 k
      | false => zLcG tg tt te ρ ds acc μ1 k
    | none => False
@[simp] def zLc (m : Bool) (wi : ZI) (tg : Tg) (tt : ZB) (te : ZT) (vs : List Nat) : ZT := fun ρ μ Q => wi ρ μ fun ds μ1 => zLcG tg tt te (zwipe ρ vs) ds [] μ1 fun acc μ2 => pNew m acc μ2 Q
@[simp] def zYes : ZB := fun _ μ Q => Q true μ
theorem wipe_absorb {σ : L2.St} : ∀ {vs js : List Nat}, (∀ i ∈ vs, i ∈ js) → L2.wipe (L2.wipe σ vs) js = L2.wipe σ js
  | [], js, _ => rfl
  | v :: vs, js, h => by
    show L2.wipe ((L2.wipe σ vs).set v none) js = _
    rw [gputs_ok.wipe_set js v none (h v List.mem_cons_self)]
    exact wipe_absorb fun i hi => h i (List.mem_cons_of_mem _ hi)
section
variable {X : Cx} {B : Bs}
theorem zts_nil : ∀ B : Bs, PTs X [] (zb X.K B zYes) := fun B => ⟨fun pins s σ H Q I h => pts_nil.run pins s σ H Q I (by
  obtain ⟨ρ, μ, G, Qz, rs, rp, h, k⟩ := h
  exact k true H ⟨μ, G, Evl.Ex.refl G, rp, h⟩)⟩
/-- whatever the base -/
def anyE (K : PySem.W.Frag) (t : ZT) : TE := fun σ H Q => ∃ B, zl K B t σ H Q
def anyT (K : PySem.W.Frag) (t : ZB) : TT := fun σ H Q => ∃ B, zb K B t σ H Q
theorem pe_anyE {e : Expr} {t : ZT} (h : ∀ B, PE X e (zl X.K B t)) : PE X e (anyE X.K t) := ⟨fun pins s σ H Q I q => let ⟨B, q⟩ := q; (h B).run pins s σ H Q I q⟩
theorem pts_any {es : List Expr} {t : ZB} (h : ∀ B, PTs X es (zb X.K B t)) : PTs X es (anyT X.K t) := ⟨fun pins s σ H Q I q => let ⟨B, q⟩ := q; (h B).run pins s σ H Q I q⟩
theorem low_lc {K : PySem.W.Frag} {m : Bool} {wi : ZI} {tg : Tg} {tt : ZB} {te : ZT} {vs : List Nat} {σ : L2.St} {H : Hp} {Q : VK} (hv : ∀ i ∈ tg.ix, i ∈ vs) (h : zl K B (zLc m wi tg tt te vs) σ H Q) : tLc (zi K B wi) (tg.g K) (anyT K tt) (anyE K te) vs σ H Q := by
  obtain ⟨ρ, μ, G, Qz, rs, rp, h, k⟩ := h
  refine ⟨ρ, μ, G, _, rs, rp, h, fun J items μ1 G1 H1 e1 rp1 it hz q1 Dl nD => ?_⟩
  have nB : B.fr Dl = none := (rp1.fresh nD).2.2
  refine ⟨fun i mm H' => i + mm = items.length ∧ ∃ acc μ' G', acc.length ≤ i ∧ Ex G1 G' ∧ Rep K (B.with Dl acc) μ' G' H' ∧ zLcG tg tt te (zwipe ρ vs) (items.drop i) acc μ' (fun acc μ2 => pNew m acc μ2 Qz),
    ⟨items.length, by omega, [], μ1, G1, Nat.le_refl _, Evl.Ex.refl G1, rp1.hide nD (Nat.zero_le _) .nil, q1⟩, fun i mm H' w => ?_⟩
  obtain ⟨em, acc, μ', G', la, e', rp', q'⟩ := w
  by_cases hi : i < items.length
  · refine .inr ⟨it.go i H' (e'.trans rp'.ex) hi, fun H2 => ∃ acc μ' G', acc.length ≤ i + 1 ∧ Ex G1 G' ∧ Rep K (B.with Dl acc) μ' G' H2 ∧ zLcG tg tt te (zwipe ρ vs) (items.drop (i + 1)) acc μ' (fun acc μ2 => pNew m acc μ2 Qz), fun H2 n => ⟨mm - 1, by omega, by omega, n⟩, fun x H2 hy => ?_⟩
    obtain ⟨G2, d, e2, rp2, hd, ix⟩ := it.yld _ i H' x H2 μ' G' e' rp' hi hy
    have hdrop : items.drop i = d :: items.drop (i + 1) := by
      rw [List.drop_eq_getElem_cons hi]
      rw [List.getElem?_eq_getElem hi] at hd
      cases hd
      rfl
    rw [hdrop] at q'
    unfold zLcG at q'
    split at q'
    · rename_i ρ2 hput
      refine tg_ok rp2 ix ((rs.mono (e1.trans (e'.trans e2))).wipe vs) hput fun σ3 rs3 wp => ?_
      refine ⟨?_, B.with Dl acc, ρ2, μ', G2, _, rs3, rp2, q', fun b H3 h3 => ?_⟩
      · rw [wp vs hv]
        exact wipe_absorb fun i hi => hi
      · obtain ⟨μ3, G3, e3, rp3, t3⟩ := h3
        cases b with
        | false =>
          rw [if_neg Bool.false_ne_true]
          exact ⟨acc, μ3, G3, by omega, (e'.trans e2).trans e3, rp3, t3⟩
        | true =>
          rw [if_pos rfl]
          refine ⟨B.with Dl acc, ρ2, μ3, G3, _, rs3.mono e3, rp3, t3, fun y H4 h4 => ?_⟩
          obtain ⟨d4, μ4, G4, e4, rp4, i4, t4⟩ := h4
          obtain ⟨accV, eD, zD, tD, gD, mD⟩ := rp4.hidden
          have hl : accV.length < sizeLine := by
            rw [tD.length]
            omega
          have t5 : IsAll K G4 (accV ++ [y]) (acc ++ [d4]) := tD.append (IsAll.one i4)
          exact ⟨accV, eD, hl, acc ++ [d4], μ4, G4, by rw [List.length_append]; simp; omega, ((e'.trans e2).trans e3).trans e4, rp4.hideSet (by rw [List.length_append]; simp; omega) t5, t4⟩
    · exact q'.elim
  · have hi2 : i = items.length := by omega
    subst hi2
    rw [List.drop_length] at q'
    have q' : pNew m acc μ' Qz := q'
    refine .inl ⟨it.stop H' (e'.trans rp'.ex), ?_⟩
    cases m with
    | false =>
      obtain ⟨G3, rp3, e3, i3⟩ := rp'.showV nB
      exact k _ _ ⟨.lst acc, μ', G3, (e1.trans e').trans e3, rp3, i3, q'⟩
    | true =>
      obtain ⟨n3, rp3⟩ := rp'.showM nB
      exact k _ _ ⟨.obj Dl, _, G', e1.trans e', rp3, .obj Dl, q' Dl n3⟩
section
variable {elt tg iter : Expr} {ifs : List Expr} {scope : Scope} {own : List (Str × Nat)} {pos : Pos} {wi : ZI} {g : Tg} {tt : ZB} {te : ZT}
theorem z_lc (m : Bool) (hc : X.calm = true) (hN : X.N.Nodup) (hi : PI X tg iter (zi X.K B wi)) (ok : BlkOk X.N X.env.scope scope own) (hv : ∀ i ∈ g.ix, i ∈ own.map (·.2))
    (hg : ∀ (s : Shared) (H : Hp) (C : Addr) (cl : List (Str × Addr)) (fp : List Addr), PG (X.blk s H scope (compEnvC scope cl C X.env) fp) tg (g.g X.K)) (ht : ∀ (s : Shared) (H : Hp) (C : Addr) (cl : List (Str × Addr)) (fp : List Addr) (B : Bs), PTs (X.blk s H scope (compEnvC scope cl C X.env) fp) ifs (zb X.K B tt))
    (he : ∀ (s : Shared) (H : Hp) (C : Addr) (cl : List (Str × Addr)) (fp : List Addr) (B : Bs), PE (X.blk s H scope (compEnvC scope cl C X.env) fp) elt (zl X.K B te)) (hs : ∀ x, foldedSetIterable iter X.env x = pure x := by intro _; rfl) :
    PE X (.ListComp elt [⟨tg, iter, ifs, 0⟩] scope pos) (zl X.K B (zLc m wi g tt te (own.map (·.2)))) :=
  pe_weak (fun σ H Q h => low_lc hv h) (pe_lc (own := own) hc hN hi ok hg (fun s H C cl fp => pts_any (ht s H C cl fp)) (fun s H C cl fp => pe_anyE (he s H C cl fp)) hs)
theorem z_setLc {i : Nat} {y : Str} {py spos : Pos} (m : Bool) (hc : X.calm = true) (hN : X.N.Nodup) (hy : X.N[i]? = some y) (hyl : X.env.scope.names.lookup y = some .local)
    (hsw : swapsWith (.ListComp elt [⟨tg, iter, ifs, 0⟩] scope pos) (some (.Name y py)) spos.line X.env = pure true) (hi : PI X tg iter (zi X.K B wi)) (ok : BlkOk X.N X.env.scope scope own) (hv : ∀ i ∈ g.ix, i ∈ own.map (·.2))
    (hg : ∀ (s : Shared) (H : Hp) (C : Addr) (cl : List (Str × Addr)) (fp : List Addr), PG (X.blk s H scope (compEnvC scope cl C X.env) fp) tg (g.g X.K)) (ht : ∀ (s : Shared) (H : Hp) (C : Addr) (cl : List (Str × Addr)) (fp : List Addr) (B : Bs), PTs (X.blk s H scope (compEnvC scope cl C X.env) fp) ifs (zb X.K B tt))
    (he : ∀ (s : Shared) (H : Hp) (C : Addr) (cl : List (Str × Addr)) (fp : List Addr) (B : Bs), PE (X.blk s H scope (compEnvC scope cl C X.env) fp) elt (zl X.K B te)) (hs : ∀ x, foldedSetIterable iter X.env x = pure x := by intro _; rfl) :
    PS X (.Assign [.Name y py] (.ListComp elt [⟨tg, iter, ifs, 0⟩] scope pos) spos) (zs X.K B (zAsg (zLc m wi g tt te (own.map (·.2))) (.one i))) :=
  ps_weak (fun D σ H h => by
    have h2 := low_asg h
    obtain ⟨ρ, μ, G, Qz, rs, rp, h, k⟩ := h2
    exact low_lc hv ⟨ρ, μ, G, Qz, rs, rp, h, k⟩) (ps_setLc (own := own) hc hN hy hyl hsw hi ok hg (fun s H C cl fp => pts_any (ht s H C cl fp)) (fun s H C cl fp => pe_anyE (he s H C cl fp)) hs)
end
end
end ZL
namespace ZL
open PySem PySem.Spec PyProof.Rows L2
/-! ### promises of defs, on data -/
abbrev ZF := List D → Mu → ZQ → ZX → Prop
def zsp (K : PySem.W.Frag) (f : ZF) : Sp := fun vs H Q E => ∃ B ds μ G Zq Zx, IsAll K G vs ds ∧ Rep K B μ G H ∧ f ds μ Zq Zx ∧ (∀ v H', low K B G Zq v H' → Q v H') ∧ ∀ cls d H', lowX K B Zx cls d H' → E cls d H'
@[simp] def noX : ZX := fun _ _ => False
@[simp] def zCall (f : ZF) (E : ZX) (ta : ZA) : ZT := fun ρ μ Q => ta ρ μ fun ds μ1 => f ds μ1 Q E
/-- what is raised reaches what is wished for -/
def Tk (X : Cx) (B : Bs) (E : ZX) : Prop := Takes X fun cls d _ H => lowX X.K B E cls d H
theorem tk_no {X : Cx} {B : Bs} : Tk X B noX := fun u s h => by
  obtain ⟨a, b, c, d, e, f, g, i, h1, h2, h3, h4, h5, h6, h7, h8, h9⟩ := h
  obtain ⟨_, x, μ, G, _, r, z⟩ := h9
  exact z.elim
section
variable {X : Cx} {B : Bs} {k : Nat} {f : Addr} {fd : FuncData} {ps : List Str} {F : ZF} {E : ZX} {x : Str} {p pos : Pos} {e : Expr} {es : List Expr} {ta : ZA}
theorem z_call (G : FnOk X.prog X.w X.K X.mg X.base (L2.CX X.prog X.w) k f fd ps (zsp X.K F)) (hr : Room k X.A) (hg : Gl X x) (hm : X.mg x = some (.ref f)) (hk : PySem.W.keepIn X.K (.ref f) = true) (hb : Binds X.K fd ps []) (tk : Tk X B E)
    (ha : PA X (e :: es) (za X.K B ta)) (hdb : (x == ("__debug__" : Str)) = false := by decide) (he : starEach (e :: es) X.env = (false, eval e X.env) :: starEach es X.env := by rfl) (hpl : (backTo pos (starEach es X.env)).any (·.1) = false := by rfl) :
    PE X (.Call (.Name x p) (e :: es) [] pos) (zl X.K B (zCall F E ta)) :=
  pe_weak (t := tCall (zsp X.K F) [] (fun cls d H => lowX X.K B E cls d H) (za X.K B ta)) (fun σ H Q h => by
    obtain ⟨ρ, μ, G0, Qz, rs, rp, h, k⟩ := h
    refine ⟨ρ, μ, G0, _, rs, rp, h, fun vs H1 h1 => ?_⟩
    obtain ⟨ds, μ1, G1, e1, rp1, i1, t1⟩ := h1
    rw [List.append_nil]
    exact ⟨B, ds, μ1, G1, Qz, E, i1, rp1, t1, fun v H' l => k v H' (l.up e1), fun cls d H' l => l⟩)
  (pe_call (e := e) (es := es) G hr hg hm hk hb .nil (passes_call tk fun cls d σ H h => h) ha hdb he hpl)
end
/-- the names at the entry -/
def zstart (n : Nat) (ds : List D) : Rho := ds.map some ++ List.replicate (n - ds.length) none
theorem start_rep {K : PySem.W.Frag} {G : Hp} {vs : List V} {ds : List D} {N : List Str} (i : IsAll K G vs ds) : RepS K (zstart N.length ds) (L2.start N vs) G := by
  have hl := i.length
  refine ⟨?_, fun j d h => ?_⟩
  · unfold zstart L2.start
    simp only [List.length_append, List.length_map, List.length_replicate, hl]
  · unfold zstart at h
    unfold L2.start
    by_cases hj : j < ds.length
    · rw [List.getElem?_append_left (by rw [List.length_map]; exact hj), List.getElem?_map] at h
      cases q : ds[j]? with
      | none => rw [q] at h; cases h
      | some e =>
        rw [q] at h
        cases h
        obtain ⟨v, h1, h2⟩ := i.get q
        refine ⟨v, ?_, h2⟩
        rw [List.getElem?_append_left (by rw [List.length_map, hl]; exact hj), List.getElem?_map, h1]
        rfl
    · rw [List.getElem?_append_right (by rw [List.length_map]; omega), List.getElem?_replicate] at h
      split at h <;> cases h
/-- behind a def's body: objects that it made are forgotten -/
@[simp] def zBody (t : ZS) (n : Nat) (ds : List D) (μ : Mu) (Q : ZQ) : Prop := t ⟨fun _ μ' => ∃ ν, Sub ν μ' ∧ Q .non ν, fun d μ' => ∃ ν, Sub ν μ' ∧ Q d ν, fun _ _ => False, fun _ _ => False⟩ (zstart n ds) μ
section
variable {P : Program} {w : World} {K : PySem.W.Frag} {mg : Str → Option Value} {base : Heap} {x qual : Str} {params : Arguments} {body : List Stmt} {scope : Scope} {f : Addr} {fd : FuncData}
theorem ok_def {N ps : List Str} {k : Nat} {F : ZF} (FD : FunD K x qual params body scope [] [] f fd) (S : FnScope N ps scope) (len : ∀ ds μ Q E, F ds μ Q E → ds.length = ps.length)
    (hbody : ∀ (cdv : Value) (A : Around) (outer : List Env) (s : Shared) (H : Hp) (Ex : XK) (B : Bs) (ds : List D) (μ : Mu) (Q : ZQ) (E : ZX), Room k (A.deeper (envOfC qual scope s.heap.objs.size f cdv)) → F ds μ Q E → Tk (cxOf (L2.CX P w) P w K mg base N qual scope f cdv A outer s H Ex) B E →
      ∃ t, PSs (cxOf (L2.CX P w) P w K mg base N qual scope f cdv A outer s H Ex) body (zs K B t) ∧ zBody t N.length ds μ Q) : FnOk P w K mg base (L2.CX P w) (k + 1) f fd ps (zsp K F) := by
  refine FD.ok S (fun vs H Q E h => ?_) (fun cdv A outer s H vs Q E hr h => ?_)
  · obtain ⟨B, ds, μ, G, Zq, Zx, i, rp, hF, _, _⟩ := h
    rw [i.length]
    exact len ds μ Zq Zx hF
  · obtain ⟨B, ds, μ, G, Zq, Zx, i, rp, hF, k1, k2⟩ := h
    have tk : Tk (cxOf (L2.CX P w) P w K mg base N qual scope f cdv A outer s H E) B Zx := (takes_of rfl rfl rfl rfl).imp fun c d σ H h => k2 c d H h
    obtain ⟨t, h1, h2⟩ := hbody cdv A outer s H E B ds μ Zq Zx hr hF tk
    refine ⟨_, h1, zstart N.length ds, μ, G, _, start_rep i, rp, h2, ⟨fun σ' H' h3 => ?_, fun v H' h3 => ?_, fun _ _ h3 => ?_, fun _ _ h3 => ?_⟩⟩
    · obtain ⟨ρ', μ', G', e', rs', rp', ν, sb, q⟩ := h3
      exact k1 _ _ ⟨.non, ν, G', e', rp'.sub sb, .non, q⟩
    · obtain ⟨d, μ', G', e', rp', i', ν, sb, q⟩ := h3
      exact k1 _ _ ⟨d, ν, G', e', rp'.sub sb, i', q⟩
    · obtain ⟨ρ', μ', G', e', rs', rp', q⟩ := h3
      exact q.elim
    · obtain ⟨ρ', μ', G', e', rs', rp', q⟩ := h3
      exact q.elim
end
/-! ### objects that change -/
section
variable {X : Cx} {B : Bs} {a b e : Expr} {ta tb te : ZT} {pos apos cpos : Pos}
/-- x.append(e) -/
@[simp] def zApp (ta te : ZT) : ZT := fun ρ μ Q => ta ρ μ fun d μ1 => match d with
  | .obj p => (∃ ys, μ1 p = some (.lst ys)) ∧ te ρ μ1 fun y μ2 => (match μ2 p with
    | some (.lst xs) => xs.length < sizeLine ∧ Q .non (mupd μ2 p (.lst (xs ++ [y])))
    | _ => False)
  | _ => False
theorem mu_lst {K : PySem.W.Frag} {G H : Hp} {μ : Mu} {p : Addr} {ds : List D} (rp : Rep K B μ G H) (h : μ p = some (.lst ds)) : ∃ xs, H p = some (.lst xs) ∧ xs.length ≤ sizeLine ∧ IsAll K G xs ds := by
  obtain ⟨_, o⟩ := rp.mu p _ h
  cases o with
  | lst e z t => exact ⟨_, e, z, t⟩
theorem z_app (ha : PE X a (zl X.K B ta)) (he : PE X e (zl X.K B te)) (hbase : attributeBase a "append" X.env (eval a X.env) = eval a X.env := by rfl)
    (hfew : ((backTo cpos (starEach [e] X.env)).all (fun x => !x.1) && (backToKw cpos (keywordEach [] X.env)).all (fun x => x.1.isSome) && decide (([e] : List Expr).length + ([] : List Keyword).length + (if ([] : List Keyword).isEmpty then 0 else 1) < 30)) = true := by rfl)
    (hline : (apos.endLine == cpos.line) = true := by rfl) (hs : starEach [e] X.env = (false, eval e X.env) :: starEach [] X.env := by rfl) (hpl : (backTo cpos (starEach [] X.env)).any (·.1) = false := by rfl) :
    PE X (.Call (.Attribute a "append" apos) [e] [] cpos) (zl X.K B (zApp ta te)) :=
  pe_weak (fun σ H Q h => by
    obtain ⟨ρ, μ, G, Qz, rs, rp, h, k⟩ := h
    refine ⟨ρ, μ, G, _, rs, rp, h, fun x H1 h1 => ?_⟩
    obtain ⟨d, μ1, G1, e1, rp1, i1, t1⟩ := h1
    cases i1 with
    | obj p =>
      obtain ⟨⟨ys, hy⟩, t1⟩ := t1
      obtain ⟨vs, h2, _, _⟩ := mu_lst rp1 hy
      refine ⟨.inl ⟨rfl, vs, SqL.of h2⟩, ρ, μ1, G1, _, rs.mono e1, rp1, t1, fun y H2 h3 => ?_⟩
      obtain ⟨d2, μ2, G2, e2, rp2, i2, t2⟩ := h3
      split at t2
      · rename_i xs hx
        obtain ⟨ws, h4, z4, t4⟩ := mu_lst rp2 hx
        have hl : ws.length < sizeLine := by rw [t4.length]; exact t2.1
        exact ⟨p, ws, y, rfl, rfl, h4, hl, k _ _ ⟨.non, _, G2, e1.trans e2, rp2.write hx (by rw [List.length_append]; simp; omega) (t4.append (IsAll.one i2)), .non, t2.2⟩⟩
      · exact t2.elim
    | _ => exact t1.elim) (pe_bm (t := tCons (zl X.K B te) tNil) PySem.F.plainAttrs_list PySem.F.slot_list_append PySem.F.type_list_append mt_append ha (pa_cons he pa_nil hs) hbase hfew hline hs hpl)
/-- x.pop() -/
@[simp] def zPop (ta : ZT) : ZT := fun ρ μ Q => ta ρ μ fun d μ1 => match d with
  | .obj p => (match μ1 p with
    | some (.lst xs) => (match xs.getLast? with
      | some y => Q y (mupd μ1 p (.lst xs.dropLast))
      | none => False)
    | _ => False)
  | _ => False
theorem IsAll.dropLast {K : PySem.W.Frag} {G : Hp} {vs : List V} {ds : List D} (t : IsAll K G vs ds) : IsAll K G vs.dropLast ds.dropLast := by
  rw [List.dropLast_eq_take, List.dropLast_eq_take, t.length]
  exact t.take _
theorem z_pop (ha : PE X a (zl X.K B ta)) (hbase : attributeBase a "pop" X.env (eval a X.env) = eval a X.env := by rfl) (hline : (apos.endLine == cpos.line) = true := by rfl) :
    PE X (.Call (.Attribute a "pop" apos) [] [] cpos) (zl X.K B (zPop ta)) :=
  pe_weak (fun σ H Q h => by
    obtain ⟨ρ, μ, G, Qz, rs, rp, h, k⟩ := h
    refine ⟨ρ, μ, G, _, rs, rp, h, fun x H1 h1 => ?_⟩
    obtain ⟨d, μ1, G1, e1, rp1, i1, t1⟩ := h1
    cases i1 with
    | obj p =>
      dsimp only at t1
      split at t1
      · rename_i xs hx
        split at t1
        · rename_i y hy
          obtain ⟨vs, h2, z2, t2⟩ := mu_lst rp1 hx
          have hy2 : xs[xs.length - 1]? = some y := by rw [← List.getLast?_eq_getElem?]; exact hy
          obtain ⟨v, h3, i3⟩ := t2.get hy2
          rw [← t2.length] at h3
          exact ⟨.inl ⟨rfl, vs, SqL.of h2⟩, p, vs, v, rfl, rfl, h2, h3, k _ _ ⟨y, _, G1, e1, rp1.write hx (by rw [List.length_dropLast]; omega) t2.dropLast, i3, t1⟩⟩
        · exact t1.elim
      · exact t1.elim
    | _ => exact t1.elim) (pe_bm0 PySem.F.plainAttrs_list PySem.F.slot_list_pop PySem.F.type_list_pop mt_pop ha hbase hline)
/-- x[i] = e -/
@[simp] def zSetI (te ta tb : ZT) : ZS := fun Z ρ μ => te ρ μ fun y μ1 => ta ρ μ1 fun d μ2 => tb ρ μ2 fun i μ3 => match d, i with
  | .obj p, .int n => (match μ3 p with
    | some (.lst xs) => (match ixN xs.length n with
      | some j => Z.nx ρ (mupd μ3 p (.lst (xs.set j y)))
      | none => False)
    | _ => False)
  | _, _ => False
theorem z_setI {tpos : Pos} (he : PE X e (zl X.K B te)) (ha : PE X a (zl X.K B ta)) (hb : PE X b (zl X.K B tb))
    (hs : swapsWithSole [.Subscript a b tpos] e pos.line X.env = pure false := by rfl) (hw : swappedStores [.Subscript a b tpos] e X.env = pure none := by rfl)
    (h1 : (assignEach [.Subscript a b tpos] X.env).map (·.2) = [assign (.Subscript a b tpos) X.env] := by rfl)
    (hx : ∀ v, assign (.Subscript a b tpos) X.env v = (do
      let ov ← holding [v] (eval a X.env)
      let iv ← holding [v, ov] (eval b X.env)
      standAt tpos
      holding [v, ov, iv] (setItem ov iv v)
      release [v, ov, iv] []) := by intro _; rfl) : PS X (.Assign [.Subscript a b tpos] e pos) (zs X.K B (zSetI te ta tb)) := ps_weak (fun D σ H h => by
  obtain ⟨ρ, μ, G, Z, rs, rp, h, k⟩ := h
  refine ⟨ρ, μ, G, _, rs, rp, h, fun x H1 h1 => ?_⟩
  obtain ⟨y, μ1, G1, e1, rp1, i1, t1⟩ := h1
  refine ⟨ρ, μ1, G1, _, rs.mono e1, rp1, t1, fun x2 H2 h2 => ?_⟩
  obtain ⟨d, μ2, G2, e2, rp2, i2, t2⟩ := h2
  refine ⟨ρ, μ2, G2, _, rs.mono (e1.trans e2), rp2, t2, fun x3 H3 h3 => ?_⟩
  obtain ⟨n, μ3, G3, e3, rp3, i3, t3⟩ := h3
  split at t3
  · cases i2; cases i3
    rename_i p n
    split at t3
    · rename_i xs hx
      split at t3
      · rename_i j hj
        obtain ⟨vs, h4, z4, t4⟩ := mu_lst rp3 hx
        refine ⟨p, vs, n, j, rfl, rfl, h4, by rw [t4.length]; exact hj, k.nx _ _ ⟨ρ, _, G3, (e1.trans e2).trans e3, rs.mono ((e1.trans e2).trans e3), rp3.write hx (by rw [List.length_set]; exact z4) (t4.set (i1.mono (e2.trans e3)) j), t3⟩⟩
      · exact t3.elim
    · exact t3.elim
  · exact t3.elim) (ps_asg he (pg_sub ha hb set_list hx) hs hw h1)
/-- an object that may change is a value from here on -/
@[simp] def zFrz (i : Nat) (t : ZS) : ZS := fun Z ρ μ => match ρ[i]? with
  | some (some (.obj p)) => (match μ p with
    | some (.lst xs) => t Z (ρ.set i (some (.lst xs))) (merase μ p)
    | _ => False)
  | _ => t Z ρ μ
theorem zs_frz {body : List Stmt} {t : ZS} (i : Nat) (h : PSs X body (zs X.K B t)) : PSs X body (zs X.K B (zFrz i t)) := pss_weak (fun D σ H h => by
  obtain ⟨ρ, μ, G, Z, rs, rp, h, k⟩ := h
  unfold zFrz at h
  split at h
  · rename_i p hp
    split at h
    · rename_i xs hx
      obtain ⟨G', rp', e', i'⟩ := rp.freeze hx
      obtain ⟨v, h1, h2⟩ := rs.at_ i _ hp
      cases h2
      refine ⟨_, _, G', Z, ⟨by rw [List.length_set]; exact rs.len, fun j d hj => ?_⟩, rp', h, k.up e'⟩
      by_cases hij : i = j
      · subst hij
        by_cases hl : i < ρ.length
        · rw [List.getElem?_set_self hl] at hj
          cases hj
          exact ⟨_, h1, i'⟩
        · rw [List.getElem?_eq_none (by rw [List.length_set]; omega)] at hj
          cases hj
      · rw [List.getElem?_set_ne hij] at hj
        obtain ⟨v, h3, h4⟩ := rs.at_ j d hj
        exact ⟨v, h3, h4.mono e'⟩
    · exact h.elim
  · exact ⟨ρ, μ, G, Z, rs, rp, h, k⟩) h
/-- return x, x's object a value -/
@[simp] def zFrzE (te : ZT) : ZT := fun ρ μ Q => te ρ μ fun d μ1 => match d with
  | .obj p => (match μ1 p with
    | some (.lst xs) => Q (.lst xs) (merase μ1 p)
    | _ => False)
  | d => Q d μ1
theorem z_frzE (he : PE X e (zl X.K B te)) : PE X e (zl X.K B (zFrzE te)) := pe_weak (fun σ H Q h => by
  obtain ⟨ρ, μ, G, Qz, rs, rp, h, k⟩ := h
  refine ⟨ρ, μ, G, _, rs, rp, h, fun x H1 h1 => ?_⟩
  obtain ⟨d, μ1, G1, e1, rp1, i1, t1⟩ := h1
  cases i1 with
  | obj p =>
    dsimp only at t1
    split at t1
    · rename_i xs hx
      obtain ⟨G', rp', e', i'⟩ := rp1.freeze hx
      exact k _ _ ⟨.lst xs, _, G', e1.trans e', rp', i', t1⟩
    · exact t1.elim
  | non => exact k _ _ ⟨_, _, G1, e1, rp1, .non, t1⟩
  | bl b => exact k _ _ ⟨_, _, G1, e1, rp1, .bl b, t1⟩
  | int i => exact k _ _ ⟨_, _, G1, e1, rp1, .int i, t1⟩
  | str s => exact k _ _ ⟨_, _, G1, e1, rp1, .str s, t1⟩
  | tup s z t => exact k _ _ ⟨_, _, G1, e1, rp1, .tup s z t, t1⟩
  | lst s z t => exact k _ _ ⟨_, _, G1, e1, rp1, .lst s z t, t1⟩) he
end
/-- xs * k, xs a new list -/
@[simp] def pRep (m : Bool) : P2 := fun d e μ Q => match d, e with
  | .obj a, .int k => (match μ a with
    | some (.lst xs) => (-1000 ≤ k ∧ k ≤ 1000 ∧ xs.length ≤ 1000) ∧ pNew m (List.replicate k.toNat xs).flatten μ Q
    | _ => False)
  | _, _ => False
theorem ok_rep {X : Cx} {B : Bs} (m : Bool) : Ok2 X.K B rRep (pRep m) := by
  intro μ G H x y d e Q Q' rp ix iy h k
  unfold pRep at h
  split at h
  · cases ix; cases iy
    rename_i a n
    split at h
    · rename_i xs hx
      obtain ⟨⟨h1, h2, h3⟩, q⟩ := h
      obtain ⟨vs, hv, hz, t⟩ := mu_lst rp hx
      have hl := t.length
      have a1 : xs.length * n.toNat ≤ 1000 * 1000 := Nat.mul_le_mul h3 (by omega)
      have a2 : vs.length * n.toNat ≤ sizeLine := by rw [hl, sizeLine_eq]; omega
      refine ⟨a, n, vs, rfl, rfl, hv, by omega, by omega, a2, fun p np => k _ _ (low_new m rp (t.rep n.toNat) ?_ np q)⟩
      rw [PyProof.Rows.lm_len_rep_flat, Nat.mul_comm]
      exact a2
    · exact h.elim
  · exact h.elim
theorem z_rep {X : Cx} {B : Bs} {a b : Expr} {ta tb : ZT} {pos : Pos} (m : Bool) (ha : PE X a (zl X.K B ta)) (hb : PE X b (zl X.K B tb)) : PE X (.BinOp a .Mult b pos) (zl X.K B (zOp (pRep m) ta tb)) := z_op op_rep (ok_rep m) ha hb
/-! ### raise -/
section
variable {X : Cx} {B : Bs} {x m : Str} {j : Nat} {p p2 pos rpos : Pos} {E : ZX}
@[simp] def zRaise (x : Str) (E : ZX) : ZS := fun _ _ μ => E x μ
/-- an exception class of the text, as the head leaves it -/
structure Xc (K : PySem.W.Frag) (mg : Str → Option Value) (x : Str) : Prop where
  q : PySem.W.excIn K (He.ga K x) He.veBase "ValueError.__new__" = true
  k : PySem.W.keepIn K (.ref (He.ga K x)) = true
  s : PySem.W.subIn K (.ref (He.ga K x)) (.type "BaseException") = some true
  t : PySem.W.typeIn K (.ref (He.ga K x)) = some (.type "type")
  g : mg x = some (.ref (He.ga K x))
theorem z_raise (hc : X.calm = true) (tk : Tk X B E) (c : Xc X.K X.mg x) (hg : Gl X x) (hdb : (x == ("__debug__" : Str)) = false := by decide) :
    PS X (.Raise (some (.Call (.Name x p) [.Constant (.str m) j p2] [] pos)) none rpos) (zs X.K B (zRaise x E)) := ps_weak (fun D σ H h => by
  obtain ⟨ρ, μ, G, Z, rs, rp, h, k⟩ := h
  exact ⟨rfl, x, μ, G, rfl, rp, h⟩) (ps_raise hc tk (pmk_own PySem.F.excBase_ValueError c.q c.g c.k (raises_own c.s c.t) hg hdb))
end
end ZL
namespace ZL
open PySem PySem.Spec PyProof.Rows L2
/-! ### the text's defs by name -/
structure Keeps (P : Program) (w : World) (K : PySem.W.Frag) (mg : Str → Option Value) (base : Heap) (k : Nat) (x : Str) (ps : List Str) (F : ZF) : Prop where
  ex : ∃ fd, FnOk P w K mg base (L2.CX P w) k (He.ga K x) fd ps (zsp K F) ∧ Binds K fd ps []
  gl : mg x = some (.ref (He.ga K x))
  kp : PySem.W.keepIn K (.ref (He.ga K x)) = true
theorem Keeps.imp {P : Program} {w : World} {K : PySem.W.Frag} {mg : Str → Option Value} {base : Heap} {k : Nat} {x : Str} {ps : List Str} {F F' : ZF} (h : Keeps P w K mg base k x ps F) (g : ∀ ds μ Q E, F' ds μ Q E → F ds μ Q E) : Keeps P w K mg base k x ps F' := by
  obtain ⟨⟨fd, h1, h2⟩, h3, h4⟩ := h
  refine ⟨⟨fd, h1.imp fun vs H Q E q => ?_, h2⟩, h3, h4⟩
  obtain ⟨B, ds, μ, G, Zq, Zx, i, rp, f, r⟩ := q
  exact ⟨B, ds, μ, G, Zq, Zx, i, rp, g _ _ _ _ f, r⟩
theorem Keeps.mono {P : Program} {w : World} {K : PySem.W.Frag} {mg : Str → Option Value} {base : Heap} {j k : Nat} {x : Str} {ps : List Str} {F : ZF} (h : Keeps P w K mg base j x ps F) (g : j ≤ k) : Keeps P w K mg base k x ps F := by
  obtain ⟨⟨fd, h1, h2⟩, h3, h4⟩ := h
  exact ⟨⟨fd, h1.mono g, h2⟩, h3, h4⟩
/-- a def of the text, as the head leaves it -/
structure Tdef (K : PySem.W.Frag) (mg : Str → Option Value) (x : Str) (st : Stmt) : Prop where
  ex : ∃ fd, FunD K x x (defArgs st) (defBody st) (defScope st) [] [] (He.ga K x) fd
  gl : mg x = some (.ref (He.ga K x))
theorem Tdef.keeps {P : Program} {w : World} {K : PySem.W.Frag} {mg : Str → Option Value} {base : Heap} {x : Str} {st : Stmt} {N ps : List Str} {k : Nat} {F : ZF} (T : Tdef K mg x st) (S : FnScope N ps (defScope st)) (len : ∀ ds μ Q E, F ds μ Q E → ds.length = ps.length)
    (hb : ∀ (kV doc pm : Value) (an : Option Addr) (cdv ct : Value) (us : List Value), us.length = ps.length → bindArgs (PySem.W.fnOf x x (defArgs st) (defBody st) (defScope st) .none kV doc pm an cdv ct) ⟨us, []⟩ = pure (ps.zip us))
    (hbody : ∀ (cdv : Value) (A : Around) (outer : List Env) (s : Shared) (H : Hp) (Ex : XK) (B : Bs) (ds : List D) (μ : Mu) (Q : ZQ) (E : ZX), Room k (A.deeper (envOfC x (defScope st) s.heap.objs.size (He.ga K x) cdv)) → F ds μ Q E → Tk (cxOf (L2.CX P w) P w K mg base N x (defScope st) (He.ga K x) cdv A outer s H Ex) B E →
      ∃ t, PSs (cxOf (L2.CX P w) P w K mg base N x (defScope st) (He.ga K x) cdv A outer s H Ex) (defBody st) (zs K B t) ∧ zBody t N.length ds μ Q) : Keeps P w K mg base (k + 1) x ps F := by
  obtain ⟨fd, F1⟩ := T.ex
  exact ⟨⟨fd, ok_def F1 S len hbody, F1.bindsN hb⟩, T.gl, F1.kp⟩
/-- the promise that nobody asks for -/
def noF : ZF := fun _ _ _ _ => False
theorem Tdef.never {P : Program} {w : World} {K : PySem.W.Frag} {mg : Str → Option Value} {base : Heap} {x : Str} {st : Stmt} {ps : List Str} (T : Tdef K mg x st)
    (hb : ∀ (kV doc pm : Value) (an : Option Addr) (cdv ct : Value) (us : List Value), us.length = ps.length → bindArgs (PySem.W.fnOf x x (defArgs st) (defBody st) (defScope st) .none kV doc pm an cdv ct) ⟨us, []⟩ = pure (ps.zip us)) : Keeps P w K mg base 0 x ps noF := by
  obtain ⟨fd, F1⟩ := T.ex
  refine ⟨⟨fd, ⟨fun vs H Q E h => ?_, fun A outer s H args us vs Q E hr e0 hb r h => ?_⟩, F1.bindsN hb⟩, T.gl, F1.kp⟩
  · obtain ⟨B, ds, μ, G, Zq, Zx, i, rp, f, _⟩ := h
    exact f.elim
  · obtain ⟨B, ds, μ, G, Zq, Zx, i, rp, f, _⟩ := h
    exact f.elim
section
variable {X : Cx} {B : Bs} {k : Nat} {ps : List Str} {F : ZF} {E : ZX} {x : Str} {p pos : Pos} {e : Expr} {es : List Expr} {ta : ZA}
theorem z_def (G : Keeps X.prog X.w X.K X.mg X.base k x ps F) (hr : Room k X.A) (hg : Gl X x) (tk : Tk X B E)
    (ha : PA X (e :: es) (za X.K B ta)) (hdb : (x == ("__debug__" : Str)) = false := by decide) (he : starEach (e :: es) X.env = (false, eval e X.env) :: starEach es X.env := by rfl) (hpl : (backTo pos (starEach es X.env)).any (·.1) = false := by rfl) :
    PE X (.Call (.Name x p) (e :: es) [] pos) (zl X.K B (zCall F E ta)) := by
  obtain ⟨⟨fd, h1, h2⟩, h3, h4⟩ := G
  exact z_call h1 hr hg h3 h4 h2 tk ha hdb he hpl
theorem z_def0 (G : Keeps X.prog X.w X.K X.mg X.base k x ps F) (hr : Room k X.A) (hg : Gl X x) (tk : Tk X B E) (hdb : (x == ("__debug__" : Str)) = false := by decide) : PE X (.Call (.Name x p) [] [] pos) (zl X.K B (zCall F E zNil)) := by
  obtain ⟨⟨fd, h1, h2⟩, h3, h4⟩ := G
  refine pe_weak (t := tCall (zsp X.K F) [] (fun cls d H => lowX X.K B E cls d H) tNil) (fun σ H Q h => ?_) (pe_call0 h1 hr hg h3 h4 h2 .nil (passes_call tk fun cls d σ H h => h) hdb)
  obtain ⟨ρ, μ, G0, Qz, rs, rp, h, k⟩ := h
  exact ⟨B, [], μ, G0, Qz, E, .nil, rp, h, fun v H' l => k v H' l, fun cls d H' l => l⟩
theorem z_const {i : Int} (hm : ∃ t, X.mg x = some (.int i t)) (hg : Gl X x) (hd : (x == ("__debug__" : Str)) = false := by decide) : PE X (.Name x pos) (zl X.K B (zC (.int i))) := by
  obtain ⟨t, hm⟩ := hm
  exact z_c (fun _ => .int i) (pe_glob hg hm ⟨t, rfl⟩ hd)
end
end ZL
namespace ZL
open PySem PySem.Spec PyProof.Rows L2
/-! ### readings, the plain side -/
/-- a vector, the rows of a tuple (true) or a list (false) -/
def dV (v : List Int) : D := .tup (v.map .int)
def dR (t : Bool) (b : List (List Int)) : D := match t with
  | true => .tup (b.map dV)
  | false => .lst (b.map dV)
/-- a number of at most n bits -/
def Bd (n : Nat) (i : Int) : Prop := i.natAbs < 2 ^ n
theorem Bd.lg {n : Nat} {i : Int} (h : Bd n i) (h0 : 0 < n) : bits i < n := by
  unfold ZL.bits
  by_cases e : i.natAbs = 0
  · rw [e]; simpa using h0
  · exact (Nat.log2_lt e).mpr h
theorem Bd.mul {a b : Nat} {i j : Int} (h : Bd a i) (g : Bd b j) : Bd (a + b) (i * j) := by
  unfold Bd at *
  rw [Int.natAbs_mul, Nat.pow_add]
  exact Nat.mul_lt_mul'' h g
theorem Bd.mono {a b : Nat} {i : Int} (h : Bd a i) (g : a ≤ b) : Bd b i := Nat.lt_of_lt_of_le h (Nat.pow_le_pow_right (by decide) g)
theorem Bd.add {a : Nat} {i j : Int} (h : Bd a i) (g : Bd a j) : Bd (a + 1) (i + j) := by
  unfold Bd at *
  have := Int.natAbs_add_le i j
  rw [Nat.pow_succ]
  omega
theorem Bd.sub {a : Nat} {i j : Int} (h : Bd a i) (g : Bd a j) : Bd (a + 1) (i - j) := by
  unfold Bd at *
  have := Int.natAbs_sub_le i j
  rw [Nat.pow_succ]
  omega
theorem Bd.neg {a : Nat} {i : Int} (h : Bd a i) : Bd a (-i) := by
  unfold Bd at *
  rw [Int.natAbs_neg]
  exact h
theorem Bd.of {n : Nat} {i : Int} {m : Nat} (h : i.natAbs ≤ m) (g : m < 2 ^ n) : Bd n i := Nat.lt_of_le_of_lt h g
theorem Bd.mulOk {a b : Nat} {i j : Int} (h : Bd a i) (g : Bd b j) (h0 : 0 < a) (h1 : 0 < b) (s : a + b ≤ 1000000) : ZL.bits i + ZL.bits j < 1000000 := by
  have := h.lg h0
  have := g.lg h1
  omega
/-! ### places -/
theorem atI_int {α : Type} (xs : List α) (n : Nat) : atI xs (n : Int) = xs[n]? := by
  unfold atI ixN
  rw [if_pos (Int.natCast_nonneg n)]
  by_cases h : n < xs.length
  · rw [if_pos (by omega)]
    simp
  · rw [if_neg (by omega)]
    simp [List.getElem?_eq_none (Nat.le_of_not_lt h)]
@[simp] theorem atI_0 {α : Type} (xs : List α) : atI xs 0 = xs[0]? := atI_int xs 0
@[simp] theorem atI_1 {α : Type} (xs : List α) : atI xs 1 = xs[1]? := atI_int xs 1
@[simp] theorem atI_2 {α : Type} (xs : List α) : atI xs 2 = xs[2]? := atI_int xs 2
@[simp] theorem atI_n {α : Type} (xs : List α) (n : Nat) : atI xs (n : Int) = xs[n]? := atI_int xs n
@[simp] theorem atI_m1 {α : Type} (xs : List α) : atI xs (-1) = xs.getLast? := by
  unfold atI ixN
  rw [if_neg (by decide)]
  cases xs with
  | nil => rfl
  | cons x r =>
    rw [if_pos (by simp; omega)]
    have e : (-1 + ((x :: r).length : Int)).toNat = (x :: r).length - 1 := by rw [List.length_cons]; omega
    rw [Option.bind_some, e, List.getLast?_eq_getElem?]
@[simp] theorem cut_all (xs : List D) : cutD xs none none = xs := by unfold cutD HT.sIx; simp
theorem cut_lo (xs : List D) (n : Nat) : cutD xs (some (n : Int)) none = xs.drop n := by
  unfold cutD
  rw [HT.sIx_nat, HT.sIx_none]
  by_cases h : n ≤ xs.length
  · rw [Nat.min_eq_left h, List.take_of_length_le (by simp)]
  · rw [Nat.min_eq_right (by omega), List.drop_length, List.drop_eq_nil_of_le (by omega)]
    simp
theorem cut_hi (xs : List D) (n : Nat) : cutD xs none (some (n : Int)) = xs.take n := by
  unfold cutD
  rw [HT.sIx_nat, HT.sIx_none, List.drop_zero, Nat.sub_zero]
  by_cases h : n ≤ xs.length
  · rw [Nat.min_eq_left h]
  · rw [Nat.min_eq_right (by omega), List.take_length, List.take_of_length_le (by omega)]
@[simp] theorem cut_lo1 (xs : List D) : cutD xs (some 1) none = xs.drop 1 := cut_lo xs 1
@[simp] theorem cut_lo2 (xs : List D) : cutD xs (some 2) none = xs.drop 2 := cut_lo xs 2
@[simp] theorem cut_lo3 (xs : List D) : cutD xs (some 3) none = xs.drop 3 := cut_lo xs 3
@[simp] theorem cut_lon (xs : List D) (n : Nat) : cutD xs (some (n : Int)) none = xs.drop n := cut_lo xs n
@[simp] theorem cut_hi0 (xs : List D) : cutD xs none (some 0) = [] := by rw [show (0 : Int) = ((0 : Nat) : Int) from rfl, cut_hi]; simp
@[simp] theorem cut_hi1 (xs : List D) : cutD xs none (some 1) = xs.take 1 := cut_hi xs 1
@[simp] theorem cut_hi2 (xs : List D) : cutD xs none (some 2) = xs.take 2 := cut_hi xs 2
@[simp] theorem cut_hin (xs : List D) (n : Nat) : cutD xs none (some (n : Int)) = xs.take n := cut_hi xs n
@[simp] theorem cut_lo0 (xs : List D) : cutD xs (some 0) none = xs := by rw [show (0 : Int) = ((0 : Nat) : Int) from rfl, cut_lo]; simp
/-! ### lists of numbers -/
@[simp] theorem rangeD_0 : rangeD 0 0 = [] := rfl
@[simp] theorem rangeD_1 : rangeD 0 1 = [.int 0] := rfl
@[simp] theorem rangeD_2 : rangeD 0 2 = [.int 0, .int 1] := rfl
@[simp] theorem rangeD_3 : rangeD 0 3 = [.int 0, .int 1, .int 2] := rfl
@[simp] theorem szline (n : Nat) : (n ≤ sizeLine) = (n ≤ 16777216) := by rw [sizeLine_eq]
@[simp] theorem szline2 (n : Nat) : (n < sizeLine) = (n < 16777216) := by rw [sizeLine_eq]
@[simp] theorem enumD_nil (k : Nat) : enumD k [] = [] := rfl
@[simp] theorem enumD_cons (k : Nat) (d : D) (ds : List D) : enumD k (d :: ds) = .tup [.int (k : Nat), d] :: enumD (k + 1) ds := rfl
@[simp] theorem zipD_nil (ys : List D) : zipD [] ys = [] := rfl
@[simp] theorem zipD_cons (x : D) (xs : List D) (y : D) (ys : List D) : zipD (x :: xs) (y :: ys) = .tup [x, y] :: zipD xs ys := rfl
@[simp] theorem zipD_nil2 (x : List D) : zipD x [] = [] := by cases x <;> rfl
@[simp] theorem zstart_nil (n : Nat) : zstart n [] = List.replicate n none := rfl
@[simp] theorem zstart_cons (n : Nat) (d : D) (ds : List D) : zstart (n + 1) (d :: ds) = some d :: zstart n ds := by
  unfold zstart
  rw [List.map_cons, List.cons_append, List.length_cons, Nat.succ_sub_succ]
/-- the end of a body -/
theorem fin {Q : ZQ} {d : D} {μ : Mu} (h : Q d μ) : ∃ ν, Sub ν μ ∧ Q d ν := ⟨μ, Sub.refl μ, h⟩
theorem fin_of {Q : ZQ} {d : D} {μ ν : Mu} (s : Sub ν μ) (h : Q d ν) : ∃ ν, Sub ν μ ∧ Q d ν := ⟨ν, s, h⟩
def det : List (List Int) → Int
  | [[a]] => a
  | [[a, b], [c, d]] => a * d - b * c
  | [[a, b, c], [d, e, f], [g, h, i]] => a * (e * i - f * h) - b * (d * i - f * g) + c * (d * h - e * g)
  | _ => 0
/-- n rows of n numbers; all below a bound -/
structure Sq (n : Nat) (b : List (List Int)) : Prop where
  len : b.length = n
  all : ∀ r ∈ b, r.length = n
def BdM (m : Nat) (b : List (List Int)) : Prop := ∀ r ∈ b, ∀ e ∈ r, Bd m e
theorem Sq.one {b : List (List Int)} (h : Sq 1 b) : ∃ a, b = [[a]] := by
  obtain ⟨hl, ha⟩ := h
  match b, hl with
  | [r], _ =>
    match r, ha r (by simp) with
    | [a], _ => exact ⟨a, rfl⟩
theorem Sq.two {b : List (List Int)} (h : Sq 2 b) : ∃ a1 a2 b1 b2, b = [[a1, a2], [b1, b2]] := by
  obtain ⟨hl, ha⟩ := h
  match b, hl with
  | [r, s], _ =>
    match r, ha r (by simp) with
    | [a1, a2], _ =>
      match s, ha s (by simp) with
      | [b1, b2], _ => exact ⟨a1, a2, b1, b2, rfl⟩
theorem Sq.three {b : List (List Int)} (h : Sq 3 b) : ∃ a1 a2 a3 b1 b2 b3 c1 c2 c3, b = [[a1, a2, a3], [b1, b2, b3], [c1, c2, c3]] := by
  obtain ⟨hl, ha⟩ := h
  match b, hl with
  | [r, s, t], _ =>
    match r, ha r (by simp) with
    | [a1, a2, a3], _ =>
      match s, ha s (by simp) with
      | [b1, b2, b3], _ =>
        match t, ha t (by simp) with
        | [c1, c2, c3], _ => exact ⟨a1, a2, a3, b1, b2, b3, c1, c2, c3, rfl⟩
/-- bits of sums and products -/
theorem bd_bits (i : Int) : Bd (bits i + 1) i := by
  unfold Bd bits
  exact Nat.lt_log2_self
theorem bits_mul (i j : Int) : bits (i * j) ≤ bits i + bits j + 1 := by
  have h := Bd.mul (bd_bits i) (bd_bits j)
  have := h.lg (by omega)
  omega
theorem bits_le {n : Nat} {i : Int} (h : Bd (n + 1) i) : bits i ≤ n := by
  have := h.lg (by omega)
  omega
theorem bits_add (i j : Int) (n : Nat) (h : bits i ≤ n) (g : bits j ≤ n) : bits (i + j) ≤ n + 1 :=
  bits_le (((bd_bits i).mono (by omega : bits i + 1 ≤ n + 1)).add ((bd_bits j).mono (by omega)))
theorem bits_sub (i j : Int) (n : Nat) (h : bits i ≤ n) (g : bits j ≤ n) : bits (i - j) ≤ n + 1 :=
  bits_le (((bd_bits i).mono (by omega : bits i + 1 ≤ n + 1)).sub ((bd_bits j).mono (by omega)))
@[simp] theorem bits_neg (i : Int) : bits (-i) = bits i := by unfold bits; rw [Int.natAbs_neg]
@[simp] theorem bits_0 : bits 0 = 0 := by decide
@[simp] theorem bits_1 : bits 1 = 0 := by decide
@[simp] theorem bits_2 : bits 2 = 1 := by decide
@[simp] theorem bits_m1 : bits (-1) = 0 := by decide
theorem Bd.le {n : Nat} {i : Int} (h : Bd n i) : ZL.bits i ≤ n := by
  rcases Nat.eq_zero_or_pos n with z | z
  · subst z
    unfold Bd at h
    have : i.natAbs = 0 := by simpa using h
    unfold bits
    rw [this]
    decide
  · exact Nat.le_of_lt (h.lg z)
end ZL
namespace ZL
open PySem PySem.Spec PyProof.Rows L2
/-! ### loops -/
/-- a comprehension whose items come from what is walked -/
theorem lc_map {tg : Tg} {te : ZT} {ρ : Rho} {μ : Mu} (f : D → D) {k : List D → Mu → Prop} : ∀ (ds : List D) (acc : List D), (∀ d ∈ ds, ∃ ρ', tg.put d ρ = some ρ' ∧ ∀ Q : ZQ, Q (f d) μ → te ρ' μ Q) → k (acc ++ ds.map f) μ → zLcG tg zYes te ρ ds acc μ k
  | [], acc, h, q => by simpa using q
  | d :: ds, acc, h, q => by
    obtain ⟨ρ', h1, h2⟩ := h d List.mem_cons_self
    have ih := lc_map f (k := k) ds (acc ++ [f d]) (fun e he => h e (List.mem_cons_of_mem _ he)) (by simpa using q)
    unfold zLcG
    rw [h1]
    exact h2 _ ih
theorem lc_filter {tg : Tg} {tt : ZB} {te : ZT} {ρ : Rho} {μ : Mu} (p : D → Bool) (f : D → D) {k : List D → Mu → Prop} : ∀ (ds : List D) (acc : List D), (∀ d ∈ ds, ∃ ρ', tg.put d ρ = some ρ' ∧ (∀ Q : Bool → Mu → Prop, Q (p d) μ → tt ρ' μ Q) ∧ (p d = true → ∀ Q : ZQ, Q (f d) μ → te ρ' μ Q)) → k (acc ++ (ds.filter p).map f) μ → zLcG tg tt te ρ ds acc μ k
  | [], acc, h, q => by simpa using q
  | d :: ds, acc, h, q => by
    obtain ⟨ρ', h1, h2, h3⟩ := h d List.mem_cons_self
    unfold zLcG
    rw [h1]
    refine h2 _ ?_
    cases hp : p d with
    | true => exact h3 hp _ (lc_filter p f ds (acc ++ [f d]) (fun e he => h e (List.mem_cons_of_mem _ he)) (by simpa [hp] using q))
    | false => exact lc_filter p f ds acc (fun e he => h e (List.mem_cons_of_mem _ he)) (by simpa [hp] using q)
/-- the same where each item may change what may change -/
theorem lc_invN {tg : Tg} {te : ZT} {ρ : Rho} (P : List D → Mu → Prop) (N : Nat) {k : List D → Mu → Prop} : ∀ (ds : List D) (acc : List D) (μ : Mu), acc.length + ds.length = N → P acc μ → (∀ d ∈ ds, ∃ ρ', tg.put d ρ = some ρ' ∧ ∀ acc μ Q, acc.length < N → P acc μ → (∀ y μ', P (acc ++ [y]) μ' → Q y μ') → te ρ' μ Q) → (∀ acc' μ', acc'.length = N → P acc' μ' → k acc' μ') → zLcG tg zYes te ρ ds acc μ k
  | [], acc, μ, hN, h0, h, q => q acc μ hN h0
  | d :: ds, acc, μ, hN, h0, h, q => by
    obtain ⟨ρ', h1, h2⟩ := h d List.mem_cons_self
    unfold zLcG
    rw [h1]
    rw [List.length_cons] at hN
    exact h2 acc μ _ (by omega) h0 fun y μ' h3 => lc_invN P N ds (acc ++ [y]) μ' (by rw [List.length_append, List.length_cons, List.length_nil]; omega) h3 (fun e he => h e (List.mem_cons_of_mem _ he)) q
theorem lc_inv {tg : Tg} {te : ZT} {ρ : Rho} (P : List D → Mu → Prop) {k : List D → Mu → Prop} (ds : List D) (μ : Mu) (h0 : P [] μ) (h : ∀ d ∈ ds, ∃ ρ', tg.put d ρ = some ρ' ∧ ∀ acc μ Q, acc.length < ds.length → P acc μ → (∀ y μ', P (acc ++ [y]) μ' → Q y μ') → te ρ' μ Q) (q : ∀ acc' μ', acc'.length = ds.length → P acc' μ' → k acc' μ') : zLcG tg zYes te ρ ds [] μ k :=
  lc_invN P ds.length ds [] μ (by simp) h0 h q
/-- for: what holds while i items have been walked -/
theorem for_inv {tg : Tg} {t : ZS} {Z : ZE} (I : Nat → Rho → Mu → Prop) (items : List D) (step : ∀ i d ρ μ, items[i]? = some d → I i ρ μ → ∃ ρ', tg.put d ρ = some ρ' ∧ ∀ Z' : ZE, (∀ ρ μ, I (i + 1) ρ μ → Z'.nx ρ μ) → (∀ ρ μ, I (i + 1) ρ μ → Z'.ct ρ μ) → Z'.rt = Z.rt → Z'.bk = Z.nx → t Z' ρ' μ) :
    ∀ (m i : Nat) (ρ : Rho) (μ : Mu), i + m = items.length → I i ρ μ → (∀ ρ μ, I items.length ρ μ → Z.nx ρ μ) → zForG tg t Z (items.drop i) ρ μ
  | 0, i, ρ, μ, e, h0, q => by
    have e2 : i = items.length := by omega
    subst e2
    rw [List.drop_length]
    exact q ρ μ h0
  | m + 1, i, ρ, μ, e, h0, q => by
    have hi : i < items.length := by omega
    rw [List.drop_eq_getElem_cons hi]
    obtain ⟨ρ', h1, h2⟩ := step i items[i] ρ μ (List.getElem?_eq_getElem hi) h0
    unfold zForG
    rw [h1]
    have ih := fun ρ μ h => for_inv I items step m (i + 1) ρ μ (by omega) h q
    exact h2 _ ih ih rfl rfl
theorem for_inv0 {tg : Tg} {t : ZS} {Z : ZE} {items : List D} {ρ : Rho} {μ : Mu} (I : Nat → Rho → Mu → Prop) (h0 : I 0 ρ μ) (step : ∀ i d ρ μ, items[i]? = some d → I i ρ μ → ∃ ρ', tg.put d ρ = some ρ' ∧ ∀ Z' : ZE, (∀ ρ μ, I (i + 1) ρ μ → Z'.nx ρ μ) → (∀ ρ μ, I (i + 1) ρ μ → Z'.ct ρ μ) → Z'.rt = Z.rt → Z'.bk = Z.nx → t Z' ρ' μ)
    (q : ∀ ρ μ, I items.length ρ μ → Z.nx ρ μ) : zForG tg t Z items ρ μ := by
  have := for_inv (tg := tg) (t := t) (Z := Z) I items step items.length 0 ρ μ (by omega) h0 q
  rwa [List.drop_zero] at this
/-! ### decoding -/
mutual
/-- no object that may change is in it -/
def pl : D → Bool
  | .obj _ => false
  | .tup xs => plAll xs
  | .lst xs => plAll xs
  | .non => true
  | .bl _ => true
  | .int _ => true
  | .str _ => true
def plAll : List D → Bool
  | [] => true
  | x :: xs => pl x && plAll xs
end
@[simp] theorem pl_non : pl .non = true := by simp only [pl]
@[simp] theorem pl_bl (b : Bool) : pl (.bl b) = true := by simp only [pl]
@[simp] theorem pl_int (b : Int) : pl (.int b) = true := by simp only [pl]
@[simp] theorem pl_str (b : Str) : pl (.str b) = true := by simp only [pl]
@[simp] theorem pl_tup (b : List D) : pl (.tup b) = plAll b := by simp only [pl]
@[simp] theorem pl_lst (b : List D) : pl (.lst b) = plAll b := by simp only [pl]
@[simp] theorem pl_obj (b : Addr) : pl (.obj b) = false := by simp only [pl]
@[simp] theorem plAll_nil : plAll [] = true := by simp only [plAll]
@[simp] theorem plAll_cons (x : D) (xs : List D) : plAll (x :: xs) = (pl x && plAll xs) := by simp only [plAll]
theorem plAll_iff : ∀ xs : List D, plAll xs = true ↔ ∀ x ∈ xs, pl x = true
  | [] => by simp
  | x :: xs => by simp [plAll_iff xs]
@[simp] theorem plAll_ints (v : List Int) : plAll (v.map D.int) = true := by rw [plAll_iff]; simp
@[simp] theorem plAll_ints2 (v : List Int) (f : Int → Int) : plAll (v.map fun x => D.int (f x)) = true := by rw [plAll_iff]; simp
@[simp] theorem pl_dV (v : List Int) : pl (dV v) = true := by simp [dV]
@[simp] theorem plAll_dV (b : List (List Int)) : plAll (b.map dV) = true := by rw [plAll_iff]; simp
@[simp] theorem pl_dR (t : Bool) (b : List (List Int)) : pl (dR t b) = true := by cases t <;> simp [dR]
theorem tyN_pl {μ : Mu} {d : D} (h : pl d = true) : ∃ a, tyN μ d = some a := by
  cases d <;> first | exact ⟨_, rfl⟩ | cases h
theorem view_pl {μ : Mu} {d : D} (h : pl d = true) : view μ d = d := by
  cases d <;> first | rfl | cases h
def toV : D → Option (List Int)
  | .tup xs => toInts xs
  | .lst xs => toInts xs
  | _ => none
@[simp] theorem toV_tup (xs : List D) : toV (.tup xs) = toInts xs := rfl
@[simp] theorem toV_lst (xs : List D) : toV (.lst xs) = toInts xs := rfl
@[simp] def toVs : List D → Option (List (List Int))
  | [] => some []
  | .tup xs :: r => match toInts xs, toVs r with
    | some v, some b => some (v :: b)
    | _, _ => none
  | _ :: _ => none
def toM : D → Option (List (List Int))
  | .tup xs => toVs xs
  | .lst xs => toVs xs
  | _ => none
@[simp] theorem toM_tup (xs : List D) : toM (.tup xs) = toVs xs := rfl
@[simp] theorem toM_lst (xs : List D) : toM (.lst xs) = toVs xs := rfl
@[simp] theorem toInts_map2 (f : Int → Int) : ∀ v : List Int, toInts (v.map fun x => D.int (f x)) = some (v.map f)
  | [] => rfl
  | x :: v => by simp [toInts_map2 f v]
@[simp] theorem toV_dV (v : List Int) : toV (dV v) = some v := by simp [dV]
@[simp] theorem toVs_map : ∀ b : List (List Int), toVs (b.map dV) = some b
  | [] => rfl
  | v :: b => by rw [List.map_cons]; simp [dV, toVs_map b]
@[simp] theorem toM_dR (t : Bool) (b : List (List Int)) : toM (dR t b) = some b := by cases t <;> simp [dR]
@[simp] theorem toBls_map2 {α : Type} (f : α → Bool) : ∀ v : List α, toBls (v.map fun x => D.bl (f x)) = some (v.map f)
  | [] => rfl
  | x :: v => by simp [toBls_map2 f v]
@[simp] theorem fitAll_ints : ∀ (n : Nat) (v : List Int), fitAll n (v.map D.int) = true
  | n, [] => by simp
  | n, x :: v => by simp [fitAll_ints n v]
@[simp] theorem fit_dV (n : Nat) (v : List Int) : fit (n + 1) (dV v) = true := by simp [dV]
@[simp] theorem fitAll_dV (n : Nat) : ∀ b : List (List Int), fitAll (n + 1) (b.map dV) = true
  | [] => by simp
  | x :: v => by simp [fitAll_dV n v]
@[simp] theorem fit_dR (n : Nat) (t : Bool) (b : List (List Int)) : fit (n + 2) (dR t b) = true := by cases t <;> simp [dR]
@[simp] theorem eqAll_ints : ∀ v w : List Int, eqAll (v.map D.int) (w.map D.int) = (v == w)
  | [], [] => rfl
  | [], _ :: _ => rfl
  | _ :: _, [] => rfl
  | x :: v, y :: w => by simp [eqAll_ints v w]
@[simp] theorem eqD_dV (v w : List Int) : eqD (dV v) (dV w) = (v == w) := by simp [dV]
@[simp] theorem eqAll_dV : ∀ v w : List (List Int), eqAll (v.map dV) (w.map dV) = (v == w)
  | [], [] => rfl
  | [], _ :: _ => rfl
  | _ :: _, [] => rfl
  | x :: v, y :: w => by simp [eqAll_dV v w]
@[simp] theorem view_dV (μ : Mu) (v : List Int) : view μ (dV v) = dV v := by simp [dV]
@[simp] theorem view_dR (μ : Mu) (t : Bool) (v : List (List Int)) : view μ (dR t v) = dR t v := by cases t <;> simp [dR]
theorem fitAll_iff (n : Nat) : ∀ xs : List D, fitAll n xs = true ↔ ∀ x ∈ xs, fit n x = true
  | [] => by simp
  | x :: xs => by simp [fitAll_iff n xs]
theorem fitAll_filter (n : Nat) (p : D → Bool) (xs : List D) (h : fitAll n xs = true) : fitAll n (xs.filter p) = true := by
  rw [fitAll_iff] at h ⊢
  exact fun x hx => h x (List.mem_filter.mp hx).1
theorem eqAll_nil (xs : List D) : eqAll xs [] = xs.isEmpty := by cases xs <;> simp
theorem filter_all {α : Type} (p : α → Bool) (xs : List α) : (xs.filter fun x => !p x).isEmpty = xs.all p := by
  induction xs with
  | nil => rfl
  | cons x xs ih => cases h : p x <;> simp [h, ih]
end ZL
namespace ZL
open PySem PySem.Spec PyProof.Rows L2
/-! ### what the functions of the program answer -/
/-- a number that may be divided by -/
def DivOk (j : Int) : Prop := j ≠ 0 ∧ j.natAbs < 1073741824 ∨ 0 < j ∧ bits j < 9000
def isI : D → Bool
  | .int _ => true
  | _ => false
@[simp] theorem isI_non : isI .non = false := rfl
@[simp] theorem isI_bl (b : Bool) : isI (.bl b) = false := rfl
@[simp] theorem isI_int (b : Int) : isI (.int b) = true := rfl
@[simp] theorem isI_str (b : Str) : isI (.str b) = false := rfl
@[simp] theorem isI_tup (b : List D) : isI (.tup b) = false := rfl
@[simp] theorem isI_lst (b : List D) : isI (.lst b) = false := rfl
def isBt (lo hi : Int) : D → Bool
  | .int i => decide (lo ≤ i) && decide (i ≤ hi)
  | _ => false
@[simp] theorem isBt_non (l h : Int) : isBt l h .non = false := rfl
@[simp] theorem isBt_bl (l h : Int) (b : Bool) : isBt l h (.bl b) = false := rfl
@[simp] theorem isBt_int (l h : Int) (b : Int) : isBt l h (.int b) = (decide (l ≤ b) && decide (b ≤ h)) := rfl
@[simp] theorem isBt_str (l h : Int) (b : Str) : isBt l h (.str b) = false := rfl
@[simp] theorem isBt_tup (l h : Int) (b : List D) : isBt l h (.tup b) = false := rfl
@[simp] theorem isBt_lst (l h : Int) (b : List D) : isBt l h (.lst b) = false := rfl
def isFr : D → Bool
  | .tup [.int a, .int b] => decide (0 < b) && Int.gcd a b == 1
  | _ => false
@[simp] theorem isFr_int2 (a b : Int) : isFr (.tup [.int a, .int b]) = (decide (0 < b) && Int.gcd a b == 1) := rfl
def isVec (n : Int) : D → Bool
  | .tup xs => (xs.length : Int) == n && xs.all (isBt (-1000000) 1000000)
  | _ => false
@[simp] theorem isVec_tup (n : Int) (xs : List D) : isVec n (.tup xs) = ((xs.length : Int) == n && xs.all (isBt (-1000000) 1000000)) := rfl
@[simp] theorem isVec_lst (n : Int) (xs : List D) : isVec n (.lst xs) = false := rfl
@[simp] theorem isVec_non (n : Int) : isVec n .non = false := rfl
@[simp] theorem isVec_bl (n : Int) (b : Bool) : isVec n (.bl b) = false := rfl
@[simp] theorem isVec_int (n : Int) (b : Int) : isVec n (.int b) = false := rfl
@[simp] theorem isVec_str (n : Int) (b : Str) : isVec n (.str b) = false := rfl
def isBas : D → Bool
  | .tup xs => decide (1 ≤ xs.length) && decide (xs.length ≤ 3) && xs.all (isVec xs.length) && det ((toVs xs).getD []) != 0
  | _ => false
@[simp] theorem isBas_tup (xs : List D) : isBas (.tup xs) = (decide (1 ≤ xs.length) && decide (xs.length ≤ 3) && xs.all (isVec xs.length) && det ((toVs xs).getD []) != 0) := rfl
@[simp] theorem isBas_lst (xs : List D) : isBas (.lst xs) = false := rfl
@[simp] theorem isBas_non : isBas .non = false := rfl
@[simp] theorem isBas_bl (b : Bool) : isBas (.bl b) = false := rfl
@[simp] theorem isBas_int (b : Int) : isBas (.int b) = false := rfl
@[simp] theorem isBas_str (b : Str) : isBas (.str b) = false := rfl
def F_divisor : ZF := fun ds μ Q E => match ds with
  | [.int a, .int b] => Q (.int (Int.gcd a b)) μ
  | _ => False
/-- the common divisor with the sign of the second -/
def shr (a b : Int) : Int := if b < 0 then -(Int.gcd a b : Int) else Int.gcd a b
@[simp] def ratD (a b : Int) : D := .tup [.int (a.fdiv (shr a b)), .int (b.fdiv (shr a b))]
def F_ratio : ZF := fun ds μ Q E => match ds with
  | [.int a, .int b] => DivOk b ∧ Q (ratD a b) μ
  | _ => False
def F_is_integer : ZF := fun ds μ Q E => match ds with
  | [d] => pl d = true ∧ Q (.bl (isI d)) μ
  | _ => False
def F_is_between : ZF := fun ds μ Q E => match ds with
  | [d, .int lo, .int hi] => pl d = true ∧ Q (.bl (isBt lo hi d)) μ
  | _ => False
def F_is_fraction : ZF := fun ds μ Q E => match ds with
  | [d] => pl d = true ∧ Q (.bl (isFr d)) μ
  | _ => False
def dot : List Int → List Int → Int
  | x :: v, y :: w => x * y + dot v w
  | _, _ => 0
/-- numbers of few bits -/
def BdV (m : Nat) (v : List Int) : Prop := ∀ e ∈ v, Bd m e
def F_product : ZF := fun ds μ Q E => match ds with
  | [d, e] => (match toV d, toV e with
    | some v, some w => (BdV 400000 v ∧ BdV 400000 w ∧ ((∃ xs ys, d = .tup xs ∧ e = .tup ys) ∨ ∃ xs ys, d = .lst xs ∧ e = .lst ys)) ∧ Q (.int (dot v w)) μ
    | _, _ => False)
  | _ => False
def SqN (b : List (List Int)) : Prop := ∃ n, (1 ≤ n ∧ n ≤ 3) ∧ Sq n b
def DetOk (b : List (List Int)) : Prop := SqN b ∧ BdM 200000 b
def F_determinant_1 : ZF := fun ds μ Q E => match ds with
  | [d] => (match toM d with
    | some b => (Sq 2 b ∧ BdM 200000 b) ∧ Q (.int (det b)) μ
    | _ => False)
  | _ => False
def F_determinant : ZF := fun ds μ Q E => match ds with
  | [d] => (match toM d with
    | some b => DetOk b ∧ Q (.int (det b)) μ
    | _ => False)
  | _ => False
def F_is_vector : ZF := fun ds μ Q E => match ds with
  | [.int n, d] => pl d = true ∧ Q (.bl (isVec n d)) μ
  | _ => False
def F_is_basis : ZF := fun ds μ Q E => match ds with
  | [d] => pl d = true ∧ Q (.bl (isBas d)) μ
  | _ => False
def F_check_basis : ZF := fun ds μ Q E => match ds with
  | [d] => pl d = true ∧ if isBas d = true then Q .non μ else E "InvalidBasis" μ
  | _ => False
def F_check_vector : ZF := fun ds μ Q E => match ds with
  | [.int n, d] => pl d = true ∧ if isVec n d = true then Q .non μ else E "InvalidVector" μ
  | _ => False
def solv (b : List (List Int)) (v : List Int) : List Int := (List.range b.length).map fun p => det (b.set p v)
/-- a square of rows and a row as long -/
def SolOk (b : List (List Int)) (v : List Int) : Prop := SqN b ∧ BdM 200000 b ∧ v.length = b.length ∧ BdV 200000 v
def F_solved : ZF := fun ds μ Q E => match ds with
  | [d, e] => (match toM d, e with
    | some b, .tup xs => (match toInts xs with
      | some v => SolOk b v ∧ Q (.lst ((solv b v).map .int)) μ
      | _ => False)
    | _, _ => False)
  | _ => False
def coefD (b : List (List Int)) (v : List Int) : D := if (solv b v).any (fun e => e.fmod (det b) != 0) then .non else dV ((solv b v).map fun e => e.fdiv (det b))
def F_whole_coefficients : ZF := fun ds μ Q E => match ds with
  | [d, e] => (match toM d, e with
    | some b, .tup xs => (match toInts xs with
      | some v => (SolOk b v ∧ DivOk (det b)) ∧ Q (coefD b v) μ
      | _ => False)
    | _, _ => False)
  | _ => False
def mOf (d : D) : List (List Int) := (toM d).getD []
def vOf (d : D) : List Int := (toV d).getD []
def F_coefficients : ZF := fun ds μ Q E => match ds with
  | [d, e] => (pl d = true ∧ pl e = true) ∧ if isBas d = true then (if isVec (mOf d).length e = true then DivOk (det (mOf d)) ∧ Q (coefD (mOf d) (vOf e)) μ else E "InvalidVector" μ) else E "InvalidBasis" μ
  | _ => False
def unit (n c : Nat) : List Int := (List.range n).map fun o => if o = c then 1 else 0
def dualR (b : List (List Int)) : List (List Int) := (List.range b.length).map fun p => (List.range b.length).map fun c => det (b.set p (unit b.length c))
def F_dual_rows : ZF := fun ds μ Q E => match ds with
  | [d] => (match toM d with
    | some b => DetOk b ∧ Q (.lst ((dualR b).map dV)) μ
    | _ => False)
  | _ => False
def testD (b : List (List Int)) (v : List Int) : D := match (dualR b).find? fun row => (dot row v).fmod (det b) != 0 with
  | some row => .tup (row.map fun e => ratD e (det b))
  | none => .non
def F_test_vector : ZF := fun ds μ Q E => match ds with
  | [d, e] => (pl d = true ∧ pl e = true) ∧ if isBas d = true then (if isVec (mOf d).length e = true then DivOk (det (mOf d)) ∧ Q (testD (mOf d) (vOf e)) μ else E "InvalidVector" μ) else E "InvalidBasis" μ
  | _ => False
/-- pairs of numbers -/
@[simp] def toFr : List D → Option (List (Int × Int))
  | [] => some []
  | .tup [.int a, .int b] :: r => match toFr r with
    | some ps => some ((a, b) :: ps)
    | none => none
  | _ :: _ => none
def bot (ps : List (Int × Int)) : Int := ps.foldl (fun s p => s * p.2) 1
def topS (ps : List (Int × Int)) (v : List Int) : Int := ((ps.zip v).map fun p => p.1.1 * ((bot ps).fdiv p.1.2) * p.2).sum
def whP (ps : List (Int × Int)) (v : List Int) : Bool := (topS ps v).fmod (bot ps) == 0
/-- fractions that may be taken together -/
def FrOk (ps : List (Int × Int)) : Prop := ps.length ≤ 3 ∧ ∀ p ∈ ps, Bd 2000 p.1 ∧ 0 < p.2 ∧ Bd 2000 p.2
def F_is_whole_product : ZF := fun ds μ Q E => match ds with
  | [.tup xs, .tup ys] => (match toFr xs, toInts ys with
    | some ps, some v => (FrOk ps ∧ BdV 2000 v) ∧ Q (.bl (whP ps v)) μ
    | _, _ => False)
  | _ => False
def frOf (d : D) : List (Int × Int) := match d with
  | .tup xs => (toFr xs).getD []
  | _ => []
def isFrs (n : Nat) : D → Bool
  | .tup xs => xs.length == n && xs.all isFr
  | _ => false
@[simp] theorem isFrs_tup (n : Nat) (xs : List D) : isFrs n (.tup xs) = (xs.length == n && xs.all isFr) := rfl
def isTest (b : List (List Int)) (v : List Int) (x : D) : Bool := isFrs b.length x && (b.all (whP (frOf x)) && !whP (frOf x) v)
def F_is_test_vector : ZF := fun ds μ Q E => match ds with
  | [d, e, x] => (pl d = true ∧ pl e = true ∧ pl x = true) ∧ if isBas d = true then (if isVec (mOf d).length e = true then (isFrs (mOf d).length x = true → FrOk (frOf x)) ∧ Q (.bl (isTest (mOf d) (vOf e) x)) μ else E "InvalidVector" μ) else E "InvalidBasis" μ
  | _ => False
end ZL
namespace ZL
open PySem PySem.Spec PyProof.Rows L2

def t_divisor : ZS :=
  (zSeq (zWhile (zTest (zOp pNe (zVar 1) (zC (.int 0)))) (zPar 0 1 (zCons (zVar 1) (zCons (zOp pMod (zVar 0) (zVar 1)) zNil))))
    (zRet (zCB pAbs (zCons (zVar 0) zNil))))
def t_ratio : ZS :=
  (zSeq (zAsg (zCall F_divisor noX (zCons (zVar 0) (zCons (zVar 1) zNil))) (.one 2))
    (zSeq (zIfS (zTest (zOp pLt (zVar 1) (zC (.int 0)))) (zAsg (zUn pNeg (zVar 2)) (.one 2)) zNext)
    (zRet (zTup (zCons (zOp pDiv (zVar 0) (zVar 2)) (zCons (zOp pDiv (zVar 1) (zVar 2)) zNil))))))
def t_is_integer : ZS :=
  (zRet (zAndV (zIsi "int" (zVar 0)) (zNotV (zIsi "bool" (zVar 0)))))
def t_is_between : ZS :=
  (zRet (zAndV (zCall F_is_integer noX (zCons (zVar 0) zNil)) (zChain pLe pLe (zVar 1) (zVar 0) (zVar 2))))
def t_is_fraction : ZS :=
  (zSeq (zIfS (zOr (zNot (zTest (zIsi "tuple" (zVar 0)))) (zOr (zTest (zOp pNe (zCB pLen (zCons (zVar 0) zNil)) (zC (.int 2)))) (zOr (zNot (zTest (zCall F_is_integer noX (zCons (zOp pIx (zVar 0) (zC (.int 0))) zNil)))) (zNot (zTest (zCall F_is_integer noX (zCons (zOp pIx (zVar 0) (zC (.int 1))) zNil))))))) (zRet (zC (.bl false))) zNext)
    (zRet (zAndV (zOp pGt (zOp pIx (zVar 0) (zC (.int 1))) (zC (.int 0))) (zOp pEq (zCall F_divisor noX (zCons (zOp pIx (zVar 0) (zC (.int 0))) (zCons (zOp pIx (zVar 0) (zC (.int 1))) zNil))) (zC (.int 1))))))
def t_product : ZS :=
  (zRet (zCB pSum (zCons (zLc false (zZip (zCons (zVar 0) (zCons (zVar 1) zNil))) (.many [2, 3]) zYes (zOp pMul (zVar 2) (zVar 3)) [2, 3]) zNil)))
def t_determinant (F_determinant_in : ZF) : ZS :=
  (zSeq (zIfS (zTest (zOp pEq (zCB pLen (zCons (zVar 0) zNil)) (zC (.int 1)))) (zRet (zOp pIx (zOp pIx (zVar 0) (zC (.int 0))) (zC (.int 0)))) zNext)
    (zSeq (zIfS (zTest (zOp pEq (zCB pLen (zCons (zVar 0) zNil)) (zC (.int 2)))) (zRet (zOp pSub (zOp pMul (zOp pIx (zOp pIx (zVar 0) (zC (.int 0))) (zC (.int 0))) (zOp pIx (zOp pIx (zVar 0) (zC (.int 1))) (zC (.int 1)))) (zOp pMul (zOp pIx (zOp pIx (zVar 0) (zC (.int 0))) (zC (.int 1))) (zOp pIx (zOp pIx (zVar 0) (zC (.int 1))) (zC (.int 0)))))) zNext)
    (zSeq (zAsg (zC (.int 0)) (.one 1))
    (zSeq (zFor (zRng1 (zCons (zC (.int 3)) zNil)) (.one 2) (zSeq (zAsg (zLc false (zIt (zSl false (zVar 0) (zPart (zC (.int 1))) zNoPart)) (.one 4) zYes (zOp (pAdd false) (zSl false (zVar 4) zNoPart (zPart (zVar 2))) (zSl false (zVar 4) (zPart (zOp (pAdd false) (zVar 2) (zC (.int 1)))) zNoPart)) [4]) (.one 3))
    (zAsg (zOp (pAdd false) (zVar 1) (zOp pMul (zOp pMul (zOp pSub (zC (.int 1)) (zOp pMul (zC (.int 2)) (zOp pMod (zVar 2) (zC (.int 2))))) (zOp pIx (zOp pIx (zVar 0) (zC (.int 0))) (zVar 2))) (zCall F_determinant_in noX (zCons (zVar 3) zNil)))) (.one 1))))
    (zRet (zVar 1))))))
def t_is_vector : ZS :=
  (zSeq (zIfS (zOr (zNot (zTest (zIsi "tuple" (zVar 1)))) (zTest (zOp pNe (zCB pLen (zCons (zVar 1) zNil)) (zVar 0)))) (zRet (zC (.bl false))) zNext)
    (zRet (zCB pAll (zCons (zLc false (zIt (zVar 1)) (.one 2) zYes (zCall F_is_between noX (zCons (zVar 2) (zCons (zUn pNeg (zC (.int 1000000))) (zCons (zC (.int 1000000)) zNil)))) [2]) zNil))))
def t_is_basis : ZS :=
  (zSeq (zIfS (zOr (zNot (zTest (zIsi "tuple" (zVar 0)))) (zNot (zTest (zChain pLe pLe (zC (.int 1)) (zCB pLen (zCons (zVar 0) zNil)) (zC (.int 3)))))) (zRet (zC (.bl false))) zNext)
    (zRet (zAndV (zCB pAll (zCons (zLc false (zIt (zVar 0)) (.one 1) zYes (zCall F_is_vector noX (zCons (zCB pLen (zCons (zVar 0) zNil)) (zCons (zVar 1) zNil))) [1]) zNil)) (zOp pNe (zCall F_determinant noX (zCons (zVar 0) zNil)) (zC (.int 0))))))
def t_check_basis (E : ZX) : ZS :=
  (zIfS (zNot (zTest (zCall F_is_basis noX (zCons (zVar 0) zNil)))) (zRaise "InvalidBasis" E) zNext)
def t_check_vector (E : ZX) : ZS :=
  (zIfS (zNot (zTest (zCall F_is_vector noX (zCons (zVar 0) (zCons (zVar 1) zNil))))) (zRaise "InvalidVector" E) zNext)
def t_solved : ZS :=
  (zSeq (zAsg (zLst true zNil) (.one 2))
    (zSeq (zFor (zRng1 (zCons (zCB pLen (zCons (zVar 0) zNil)) zNil)) (.one 3) (zSeq (zAsg (zLc false (zEnum (zCons (zVar 0) zNil)) (.many [5, 6]) zYes (zIf (zTest (zOp pEq (zVar 5) (zVar 3))) (zVar 1) (zVar 6)) [5, 6]) (.one 4))
    (zDrop (zApp (zVar 2) (zCall F_determinant noX (zCons (zVar 4) zNil))))))
    (zFrz 2 (zRet (zVar 2)))))
def t_whole_coefficients : ZS :=
  (zSeq (zAsg (zCall F_determinant noX (zCons (zVar 0) zNil)) (.one 2))
    (zSeq (zAsg (zCall F_solved noX (zCons (zVar 0) (zCons (zVar 1) zNil))) (.one 3))
    (zSeq (zIfS (zTest (zCB pAny (zCons (zLc false (zIt (zVar 3)) (.one 4) zYes (zOp pNe (zOp pMod (zVar 4) (zVar 2)) (zC (.int 0))) [4]) zNil))) (zRet (zC .non)) zNext)
    (zRet (zCB pTuple (zCons (zLc false (zIt (zVar 3)) (.one 4) zYes (zOp pDiv (zVar 4) (zVar 2)) [4]) zNil))))))
def t_coefficients (E : ZX) : ZS :=
  (zSeq (zDrop (zCall F_check_basis E (zCons (zVar 0) zNil)))
    (zSeq (zDrop (zCall F_check_vector E (zCons (zCB pLen (zCons (zVar 0) zNil)) (zCons (zVar 1) zNil))))
    (zRet (zCall F_whole_coefficients noX (zCons (zVar 0) (zCons (zVar 1) zNil))))))
def t_dual_rows : ZS :=
  (zSeq (zAsg (zCB pLen (zCons (zVar 0) zNil)) (.one 1))
    (zSeq (zAsg (zLst true zNil) (.one 2))
    (zSeq (zFor (zRng1 (zCons (zVar 1) zNil)) (.one 3) (zSeq (zAsg (zLst true zNil) (.one 4))
    (zSeq (zFor (zRng1 (zCons (zVar 1) zNil)) (.one 5) (zSeq (zAsg (zCB pTuple (zCons (zLc false (zRng1 (zCons (zVar 1) zNil)) (.one 7) zYes (zCB pInt (zCons (zOp pEq (zVar 7) (zVar 5)) zNil)) [7]) zNil)) (.one 6))
    (zDrop (zApp (zVar 4) (zCall F_determinant noX (zCons (zLc false (zEnum (zCons (zVar 0) zNil)) (.many [7, 8]) zYes (zIf (zTest (zOp pEq (zVar 7) (zVar 3))) (zVar 6) (zVar 8)) [7, 8]) zNil))))))
    (zDrop (zApp (zVar 2) (zCB pTuple (zCons (zVar 4) zNil)))))))
    (zFrz 4 (zFrz 2 (zRet (zVar 2)))))))
def t_test_vector (E : ZX) : ZS :=
  (zSeq (zDrop (zCall F_check_basis E (zCons (zVar 0) zNil)))
    (zSeq (zDrop (zCall F_check_vector E (zCons (zCB pLen (zCons (zVar 0) zNil)) (zCons (zVar 1) zNil))))
    (zSeq (zAsg (zCall F_determinant noX (zCons (zVar 0) zNil)) (.one 2))
    (zSeq (zFor (zIt (zCall F_dual_rows noX (zCons (zVar 0) zNil))) (.one 3) (zIfS (zTest (zOp pNe (zOp pMod (zCall F_product noX (zCons (zVar 3) (zCons (zVar 1) zNil))) (zVar 2)) (zC (.int 0)))) (zRet (zCB pTuple (zCons (zLc false (zIt (zVar 3)) (.one 4) zYes (zCall F_ratio noX (zCons (zVar 4) (zCons (zVar 2) zNil))) [4]) zNil))) zNext))
    (zRet (zC .non))))))
def t_is_whole_product : ZS :=
  (zSeq (zAsg (zC (.int 1)) (.one 2))
    (zSeq (zFor (zIt (zVar 0)) (.one 3) (zAsg (zOp pMul (zVar 2) (zOp pIx (zVar 3) (zC (.int 1)))) (.one 2)))
    (zRet (zOp pEq (zOp pMod (zCB pSum (zCons (zLc false (zZip (zCons (zVar 0) (zCons (zVar 1) zNil))) (.many [3, 4]) zYes (zOp pMul (zOp pMul (zOp pIx (zVar 3) (zC (.int 0))) (zOp pDiv (zVar 2) (zOp pIx (zVar 3) (zC (.int 1))))) (zVar 4)) [3, 4]) zNil)) (zVar 2)) (zC (.int 0))))))
def t_is_test_vector (E : ZX) : ZS :=
  (zSeq (zDrop (zCall F_check_basis E (zCons (zVar 0) zNil)))
    (zSeq (zDrop (zCall F_check_vector E (zCons (zCB pLen (zCons (zVar 0) zNil)) (zCons (zVar 1) zNil))))
    (zSeq (zIfS (zOr (zNot (zTest (zIsi "tuple" (zVar 2)))) (zOr (zTest (zOp pNe (zCB pLen (zCons (zVar 2) zNil)) (zCB pLen (zCons (zVar 0) zNil)))) (zNot (zTest (zCB pAll (zCons (zLc false (zIt (zVar 2)) (.one 4) zYes (zCall F_is_fraction noX (zCons (zVar 4) zNil)) [4]) zNil)))))) (zRet (zC (.bl false))) zNext)
    (zSeq (zIfS (zNot (zTest (zCB pAll (zCons (zLc false (zIt (zVar 0)) (.one 3) zYes (zCall F_is_whole_product noX (zCons (zVar 2) (zCons (zVar 3) zNil))) [3]) zNil)))) (zRet (zC (.bl false))) zNext)
    (zRet (zNotV (zCall F_is_whole_product noX (zCons (zVar 2) (zCons (zVar 1) zNil)))))))))
end ZL
namespace ZL
open PySem PySem.Spec PyProof.Rows L2
/-! ### numbers -/
theorem gcd_fmod (a b : Int) : Int.gcd b (a.fmod b) = Int.gcd a b := by
  have h : a.fmod b = a - b * a.fdiv b := Int.fmod_def a b
  rw [h, Int.gcd_comm a b]
  have := Int.gcd_sub_mul_right_right (m := b) (n := a) (k := a.fdiv b)
  first
    | exact this
    | (rw [Int.mul_comm] at this; exact this)
    | simp
theorem fmod_lt (a : Int) {b : Int} (h : b ≠ 0) : (a.fmod b).natAbs < b.natAbs := by
  rcases Int.lt_or_gt_of_ne h with g | g
  · have h1 := Int.fmod_def a b
    have h2 : a.fmod b = -((-a).fmod (-b)) := by
      rw [Int.neg_fmod_neg]; simp
    have h3 := Int.fmod_nonneg_of_pos (-a) (b := -b) (by omega)
    have h4 := Int.fmod_lt_of_pos (-a) (b := -b) (by omega)
    omega
  · have h3 := Int.fmod_nonneg_of_pos a g
    have h4 := Int.fmod_lt_of_pos a g
    omega
theorem pure_divisor (ds : List D) (μ : Mu) (Q : ZQ) (E : ZX) (h : F_divisor ds μ Q E) : zBody t_divisor 2 ds μ Q := by
  unfold F_divisor at h
  split at h
  · rename_i a b
    simp only [zBody, t_divisor, zSeq, zWhile, zstart_cons, zstart_nil]
    refine ⟨fun m ρ' μ' => ∃ x y : Int, ρ' = [some (.int x), some (.int y)] ∧ μ' = μ ∧ Int.gcd x y = Int.gcd a b ∧ y.natAbs = m, ⟨b.natAbs, a, b, rfl, rfl, rfl, rfl⟩, ?_⟩
    rintro m ρ' μ' ⟨x, y, e1, e2, e3, e4⟩
    subst e1 e2
    by_cases hy : y = 0
    · subst hy
      simp only [Int.gcd_zero_right] at e3
      simp [e3]
      exact ⟨_, Sub.refl _, by simpa using h⟩
    · have hb : (!(y == 0)) = true := by simp [hy]
      simp [hb, hy]
      exact ⟨(x.fmod y).natAbs, by rw [← e4]; exact fmod_lt x hy, y, x.fmod y, ⟨rfl, rfl⟩, by rw [gcd_fmod]; exact e3, rfl⟩
  · exact h.elim
theorem gcd_pos {a b : Int} (h : b ≠ 0) : 0 < Int.gcd a b := Int.gcd_pos_of_ne_zero_right a h
theorem gcd_le {a b : Int} (h : b ≠ 0) : Int.gcd a b ≤ b.natAbs := Nat.le_of_dvd (by omega) (Nat.gcd_dvd_right a.natAbs b.natAbs)
theorem DivOk.ne {b : Int} (h : DivOk b) : b ≠ 0 := by
  rcases h with h | h
  · exact h.1
  · omega
theorem log2_le {a b : Nat} (h : a ≤ b) : a.log2 ≤ b.log2 := by
  by_cases ha : a = 0
  · subst ha; simp
  · exact (Nat.le_log2 (by omega)).mpr (Nat.le_trans (Nat.log2_self_le ha) h)
theorem bits_mono {a b : Int} (h : a.natAbs ≤ b.natAbs) : bits a ≤ bits b := log2_le h
theorem shr_ok {a b : Int} (h : DivOk b) : DivOk (shr a b) := by
  have h0 := h.ne
  have h1 := gcd_pos (a := a) h0
  have h2 := gcd_le (a := a) h0
  unfold shr
  rcases h with h | h
  · left
    split <;> omega
  · right
    rw [if_neg (by omega)]
    refine ⟨by omega, Nat.lt_of_le_of_lt (bits_mono ?_) h.2⟩
    omega
theorem pure_ratio (ds : List D) (μ : Mu) (Q : ZQ) (E : ZX) (h : F_ratio ds μ Q E) : zBody t_ratio 3 ds μ Q := by
  unfold F_ratio at h
  split at h
  · rename_i a b
    obtain ⟨h1, h2⟩ := h
    have h3 := shr_ok (a := a) h1
    unfold ratD at h2
    unfold shr at h2 h3
    unfold DivOk at h3
    by_cases hb : b < 0
    · rw [if_pos hb] at h2 h3
      simp [t_ratio, F_divisor, hb]
      exact ⟨by simpa using h3, fin h2⟩
    · rw [if_neg hb] at h2 h3
      simp [t_ratio, F_divisor, hb]
      exact ⟨by simpa using h3, fin h2⟩
  · exact h.elim
theorem pure_is_integer (ds : List D) (μ : Mu) (Q : ZQ) (E : ZX) (h : F_is_integer ds μ Q E) : zBody t_is_integer 1 ds μ Q := by
  unfold F_is_integer at h
  split at h
  · rename_i d
    obtain ⟨h1, h2⟩ := h
    cases d <;> first | (simp [t_is_integer]; exact fin (by simpa using h2)) | cases h1
  · exact h.elim
theorem pure_is_between (ds : List D) (μ : Mu) (Q : ZQ) (E : ZX) (h : F_is_between ds μ Q E) : zBody t_is_between 3 ds μ Q := by
  unfold F_is_between at h
  split at h
  · rename_i d lo hi
    obtain ⟨h1, h2⟩ := h
    cases d with
    | int i =>
      by_cases hl : lo ≤ i <;> (simp [t_is_between, F_is_integer, hl]; exact fin (by simpa [hl] using h2))
    | obj a => cases h1
    | _ => simp [t_is_between, F_is_integer]; first | exact fin (by simpa using h2) | exact ⟨by simpa using h1, fin (by simpa using h2)⟩
  · exact h.elim
end ZL
namespace ZL
open PySem PySem.Spec PyProof.Rows L2
theorem pl_ty {d : D} {μ : Mu} (h : pl d = true) : tyN μ d ≠ none := by
  obtain ⟨a, e⟩ := tyN_pl (μ := μ) h
  rw [e]; simp
theorem pure_is_fraction (ds : List D) (μ : Mu) (Q : ZQ) (E : ZX) (h : F_is_fraction ds μ Q E) : zBody t_is_fraction 1 ds μ Q := by
  unfold F_is_fraction at h
  split at h
  · rename_i d
    obtain ⟨h1, h2⟩ := h
    cases d with
    | tup xs =>
      match xs with
      | [] => simp [t_is_fraction]; exact fin h2
      | [x] => simp [t_is_fraction]; rw [show isFr (.tup [x]) = false by cases x <;> rfl] at h2; exact fin h2
      | x :: y :: z :: r => simp [t_is_fraction, show ¬ ((r.length : Int) + 1 + 1 + 1 = 2) by omega]; rw [show isFr (.tup (x :: y :: z :: r)) = false by cases x <;> cases y <;> rfl] at h2; exact fin h2
      | [x, y] =>
        have p1 : pl x = true := by simp at h1; exact h1.1
        have p2 : pl y = true := by simp at h1; exact h1.2
        cases x with
        | int a =>
          cases y with
          | int b =>
            by_cases hb : 0 < b
            · by_cases hg : Int.gcd a b = 1
              · simp [t_is_fraction, F_is_integer, F_divisor, hb, hg]; exact fin (by simpa [hb, hg] using h2)
              · have e1 : ((Int.gcd a b : Int) == 1) = (Int.gcd a b == 1) := by rw [Bool.eq_iff_iff]; simp; omega
                simp [t_is_fraction, F_is_integer, F_divisor, hb, e1]; exact fin (by simpa [hb] using h2)
            · simp [t_is_fraction, F_is_integer, F_divisor, hb]; exact fin (by simpa [hb] using h2)
          | obj a => cases p2
          | tup ys => simp [t_is_fraction, F_is_integer]; simp at p2; exact ⟨p2, fin h2⟩
          | lst ys => simp [t_is_fraction, F_is_integer]; simp at p2; exact ⟨p2, fin h2⟩
          | _ => simp [t_is_fraction, F_is_integer]; exact fin h2
        | obj a => cases p1
        | tup ys => simp [t_is_fraction, F_is_integer]; simp at p1; exact ⟨p1, fin h2⟩
        | lst ys => simp [t_is_fraction, F_is_integer]; simp at p1; exact ⟨p1, fin h2⟩
        | _ => simp [t_is_fraction, F_is_integer]; exact fin h2
    | obj a => cases h1
    | _ => simp [t_is_fraction]; exact fin h2
  · exact h.elim
/-! ### bases -/
theorem prod_lc (v w : List Int) (hv : BdV 400000 v) (hw : BdV 400000 w) {ρ : Rho} (hρ : 4 ≤ ρ.length) {μ : Mu} {k : List D → Mu → Prop} : ∀ (acc : List D), k (acc ++ (List.zipWith (· * ·) v w).map .int) μ → zLcG (.many [2, 3]) zYes (zOp pMul (zVar 2) (zVar 3)) ρ (zipD (v.map .int) (w.map .int)) acc μ k := by
  induction v generalizing w with
  | nil => intro acc h; simpa using h
  | cons x v ih =>
    intro acc h
    cases w with
    | nil => simpa using h
    | cons y w =>
      have hx := hv x (by simp)
      have hy := hw y (by simp)
      have := hx.lg (by decide)
      have := hy.lg (by decide)
      simp only [List.map_cons, zipD_cons]
      unfold zLcG
      simp [List.getElem?_set, show 2 < ρ.length by omega, show 3 < ρ.length by omega]
      refine ⟨by omega, ih w (fun e he => hv e (by simp [he])) (fun e he => hw e (by simp [he])) _ ?_⟩
      simpa using h
theorem dot_zip : ∀ v w : List Int, (List.zipWith (· * ·) v w).sum = dot v w
  | [], w => by simp [dot]
  | x :: v, [] => by simp [dot]
  | x :: v, y :: w => by simp [dot, dot_zip v w]
theorem toInts_zip : ∀ v w : List Int, toInts (List.zipWith (fun x y => D.int (x * y)) v w) = some (List.zipWith (· * ·) v w)
  | [], w => by simp
  | x :: v, [] => by simp
  | x :: v, y :: w => by simp [toInts_zip v w]
theorem pure_product (ds : List D) (μ : Mu) (Q : ZQ) (E : ZX) (h : F_product ds μ Q E) : zBody t_product 4 ds μ Q := by
  unfold F_product at h
  split at h
  · split at h
    · rename_i d e v w e1 e2
      obtain ⟨⟨b1, b2, h1⟩, h2⟩ := h
      rcases h1 with ⟨xs, ys, rfl, rfl⟩ | ⟨xs, ys, rfl, rfl⟩
      all_goals
        have f1 := toInts_eq (show toInts xs = some v from e1)
        have f2 := toInts_eq (show toInts ys = some w from e2)
        subst f1 f2
        simp [t_product]
        refine prod_lc v w b1 b2 (by simp) [] ?_
        rw [List.nil_append]
        simp [dot_zip, toInts_zip]
        exact fin h2
    · exact h.elim
  · exact h.elim
theorem BdM.two {m : Nat} {a b c d : Int} (h : BdM m [[a, b], [c, d]]) : Bd m a ∧ Bd m b ∧ Bd m c ∧ Bd m d := by
  simpa [BdM, and_assoc] using h
theorem BdM.three {m : Nat} {a b c d e f g i j : Int} (h : BdM m [[a, b, c], [d, e, f], [g, i, j]]) : Bd m a ∧ Bd m b ∧ Bd m c ∧ Bd m d ∧ Bd m e ∧ Bd m f ∧ Bd m g ∧ Bd m i ∧ Bd m j := by
  simpa [BdM, and_assoc] using h
theorem toM_cases {d : D} {b : List (List Int)} (h : toM d = some b) : ∃ t, d = dR t b := by
  have vs : ∀ (xs : List D) (b : List (List Int)), toVs xs = some b → xs = b.map dV := by
    intro xs
    induction xs with
    | nil => intro b h; simp at h; subst h; rfl
    | cons x xs ih =>
      intro b h
      cases x with
      | tup ys =>
        unfold toVs at h
        split at h
        · rename_i v c e1 e2
          cases h
          rw [List.map_cons, ← ih c e2, toInts_eq e1]
          rfl
        · cases h
      | _ => cases h
  cases d with
  | tup xs => exact ⟨true, by rw [vs xs b h]; rfl⟩
  | lst xs => exact ⟨false, by rw [vs xs b h]; rfl⟩
  | _ => cases h
theorem pure_determinant_1 (ds : List D) (μ : Mu) (Q : ZQ) (E : ZX) (h : F_determinant_1 ds μ Q E) : zBody (t_determinant noF) 5 ds μ Q := by
  unfold F_determinant_1 at h
  split at h
  · rename_i dd
    split at h
    · rename_i bb e1
      obtain ⟨⟨s, bd⟩, h2⟩ := h
      obtain ⟨t, rfl⟩ := toM_cases e1
      obtain ⟨a, b, c, d, rfl⟩ := s.two
      obtain ⟨b1, b2, b3, b4⟩ := bd.two
      have := b1.lg (by decide)
      have := b2.lg (by decide)
      have := b3.lg (by decide)
      have := b4.lg (by decide)
      cases t <;> simp [t_determinant, dR, dV] <;> exact ⟨by omega, by omega, fin (by simpa [det] using h2)⟩
    · exact h.elim
  · exact h.elim
theorem pure_determinant_2 (ds : List D) (μ : Mu) (Q : ZQ) (E : ZX) (h : F_determinant ds μ Q E) : zBody (t_determinant F_determinant_1) 5 ds μ Q := by
  unfold F_determinant at h
  split at h
  · rename_i dd
    split at h
    · rename_i bb e1
      obtain ⟨⟨⟨n, ⟨h0, h3⟩, s⟩, bd⟩, h2⟩ := h
      obtain ⟨t, rfl⟩ := toM_cases e1
      obtain rfl | rfl | rfl : n = 1 ∨ n = 2 ∨ n = 3 := by omega
      · obtain ⟨a, rfl⟩ := s.one
        cases t <;> simp [t_determinant, dR, dV] <;> exact fin (by simpa [det] using h2)
      · obtain ⟨a, b, c, d, rfl⟩ := s.two
        obtain ⟨b1, b2, b3, b4⟩ := bd.two
        have := b1.lg (by decide)
        have := b2.lg (by decide)
        have := b3.lg (by decide)
        have := b4.lg (by decide)
        cases t <;> simp [t_determinant, dR, dV] <;> exact ⟨by omega, by omega, fin (by simpa [det] using h2)⟩
      · obtain ⟨a, b, c, d, e, f, g, i, j, rfl⟩ := s.three
        obtain ⟨b1, b2, b3, b4, b5, b6, b7, b8, b9⟩ := bd.three
        have k1 : bits (e * j - f * i) ≤ 400001 := ((b5.mul b9).sub (b6.mul b8)).le
        have k2 : bits (d * j - f * g) ≤ 400001 := ((b4.mul b9).sub (b6.mul b7)).le
        have k3 : bits (d * i - e * g) ≤ 400001 := ((b4.mul b8).sub (b5.mul b7)).le
        have := b1.le
        have := b2.le
        have := b3.le
        have q2 : Q (.int (a * (e * j - f * i) + -b * (d * j - f * g) + c * (d * i - e * g))) μ := by
          have e1 : a * (e * j - f * i) + -b * (d * j - f * g) + c * (d * i - e * g) = det [[a, b, c], [d, e, f], [g, i, j]] := by unfold det; grind
          rw [e1]; exact h2
        have e0 : (0 : Int).fmod 2 = 0 := rfl
        have e3 : (1 : Int).fmod 2 = 1 := rfl
        have e4 : (2 : Int).fmod 2 = 0 := rfl
        have S : ∀ a b c d : Int, Sq 2 [[a, b], [c, d]] := fun a b c d => ⟨rfl, by simp⟩
        have M : ∀ a b c d : Int, Bd 200000 a → Bd 200000 b → Bd 200000 c → Bd 200000 d → BdM 200000 [[a, b], [c, d]] := fun a b c d h1 h2 h3 h4 => by simp [BdM]; exact ⟨⟨h1, h2⟩, h3, h4⟩
        cases t <;> simp [t_determinant, dR, dV, F_determinant_1, det, e0, e3, e4, S] <;>
          exact ⟨by omega, M _ _ _ _ (by assumption) (by assumption) (by assumption) (by assumption), by omega, by omega, M _ _ _ _ (by assumption) (by assumption) (by assumption) (by assumption), by omega, by omega, M _ _ _ _ (by assumption) (by assumption) (by assumption) (by assumption), by omega, fin q2⟩
    · exact h.elim
  · exact h.elim
end ZL
namespace ZL
open PySem PySem.Spec PyProof.Rows L2
theorem pure_is_vector (ds : List D) (μ : Mu) (Q : ZQ) (E : ZX) (h : F_is_vector ds μ Q E) : zBody t_is_vector 3 ds μ Q := by
  unfold F_is_vector at h
  split at h
  · rename_i n d
    obtain ⟨h1, h2⟩ := h
    cases d with
    | tup xs =>
      have pa := (plAll_iff xs).mp (by simpa using h1)
      by_cases hn : (xs.length : Int) = n
      · simp [t_is_vector, hn]
        refine lc_map (fun e => .bl (isBt (-1000000) 1000000 e)) _ _ (fun d hd => ⟨_, rfl, fun Q q => ?_⟩) ?_
        · simp [F_is_between]
          exact ⟨pa d hd, q⟩
        · simp
          exact fin (by simpa [isVec, hn] using h2)
      · have e1 : ((xs.length : Int) == n) = false := by simpa using hn
        simp [t_is_vector, e1]
        exact fin (by simpa [e1] using h2)
    | obj a => cases h1
    | _ => simp [t_is_vector]; exact fin (by simpa [isVec] using h2)
  · exact h.elim
/-- what a basis is -/
theorem isVec_iff {n : Int} {d : D} : isVec n d = true ↔ ∃ v : List Int, d = dV v ∧ (v.length : Int) = n ∧ ∀ e ∈ v, -1000000 ≤ e ∧ e ≤ 1000000 := by
  have intsOf : ∀ xs : List D, xs.all (isBt (-1000000) 1000000) = true → ∃ v : List Int, xs = v.map .int ∧ ∀ e ∈ v, -1000000 ≤ e ∧ e ≤ 1000000 := by
    intro xs
    induction xs with
    | nil => exact fun _ => ⟨[], rfl, by simp⟩
    | cons x xs ih =>
      intro h
      rw [List.all_cons, Bool.and_eq_true] at h
      obtain ⟨v, e, hv⟩ := ih h.2
      cases x with
      | int i =>
        have h1 := h.1
        simp at h1
        exact ⟨i :: v, by rw [e]; rfl, by simpa using ⟨h1, hv⟩⟩
      | _ => exact absurd h.1 Bool.false_ne_true
  constructor
  · intro h
    cases d with
    | tup xs =>
      simp only [isVec, Bool.and_eq_true, beq_iff_eq] at h
      obtain ⟨v, e, hv⟩ := intsOf xs h.2
      refine ⟨v, by rw [e]; rfl, ?_, hv⟩
      rw [← h.1, e]; simp
    | _ => simp [isVec] at h
  · rintro ⟨v, rfl, h1, h2⟩
    simp [isVec, dV, h1]
    exact h2
theorem isBas_iff {d : D} : isBas d = true ↔ ∃ b : List (List Int), d = dR true b ∧ SqN b ∧ (∀ r ∈ b, ∀ e ∈ r, -1000000 ≤ e ∧ e ≤ 1000000) ∧ det b ≠ 0 := by
  have rows : ∀ (n : Nat) (xs : List D), xs.all (isVec n) = true → ∃ b : List (List Int), xs = b.map dV ∧ (∀ r ∈ b, r.length = n) ∧ ∀ r ∈ b, ∀ e ∈ r, -1000000 ≤ e ∧ e ≤ 1000000 := by
    intro n xs
    induction xs with
    | nil => exact fun _ => ⟨[], rfl, by simp, by simp⟩
    | cons x xs ih =>
      intro h
      rw [List.all_cons, Bool.and_eq_true] at h
      obtain ⟨b, e, h1, h2⟩ := ih h.2
      obtain ⟨v, e1, h3, h4⟩ := isVec_iff.mp h.1
      refine ⟨v :: b, by rw [e, e1]; rfl, ?_, ?_⟩
      · intro r hr
        rcases List.mem_cons.mp hr with z | z
        · subst z; omega
        · exact h1 r z
      · intro r hr
        rcases List.mem_cons.mp hr with z | z
        · subst z; exact h4
        · exact h2 r z
  constructor
  · intro h
    cases d with
    | tup xs =>
      simp only [isBas, Bool.and_eq_true, decide_eq_true_eq] at h
      obtain ⟨⟨⟨h1, h2⟩, h3⟩, h4⟩ := h
      obtain ⟨b, e, h5, h6⟩ := rows xs.length xs h3
      have el : b.length = xs.length := by rw [e]; simp
      refine ⟨b, by rw [e]; rfl, ⟨xs.length, ⟨h1, h2⟩, el, h5⟩, h6, ?_⟩
      rw [e] at h4
      simpa using h4
    | _ => simp [isBas] at h
  · rintro ⟨b, rfl, ⟨n, ⟨h1, h2⟩, s⟩, h3, h4⟩
    simp only [isBas, dR, List.length_map, Bool.and_eq_true, decide_eq_true_eq, toVs_map]
    refine ⟨⟨⟨by rw [s.len]; exact h1, by rw [s.len]; exact h2⟩, ?_⟩, by simpa using h4⟩
    simp only [List.all_map, List.all_eq_true]
    intro r hr
    exact isVec_iff.mpr ⟨r, rfl, by rw [s.all r hr, s.len], h3 r hr⟩
theorem Bd.small {i : Int} {n : Nat} (h : -1000000 ≤ i ∧ i ≤ 1000000) (hn : 20 ≤ n) : Bd n i := by
  unfold Bd
  have h1 : i.natAbs < 2 ^ 20 := by
    have : (2 : Nat) ^ 20 = 1048576 := by decide
    omega
  exact Nat.lt_of_lt_of_le h1 (Nat.pow_le_pow_right (by decide) hn)
theorem pure_is_basis (ds : List D) (μ : Mu) (Q : ZQ) (E : ZX) (h : F_is_basis ds μ Q E) : zBody t_is_basis 2 ds μ Q := by
  unfold F_is_basis at h
  split at h
  · rename_i d
    obtain ⟨h1, h2⟩ := h
    cases d with
    | tup xs =>
      have pa := (plAll_iff xs).mp (by simpa using h1)
      by_cases hl : 1 ≤ xs.length
      · by_cases hl2 : xs.length ≤ 3
        · simp [t_is_basis, show (1 : Int) ≤ xs.length by omega, show (xs.length : Int) ≤ 3 by omega]
          refine lc_map (fun e => .bl (isVec xs.length e)) _ _ (fun d hd => ⟨_, rfl, fun Q q => ?_⟩) ?_
          · simp [F_is_vector]
            exact ⟨pa d hd, q⟩
          · simp
            cases ha : xs.all (isVec xs.length) with
            | false => exact fin (by simpa [isBas, hl, hl2, ha] using h2)
            | true =>
              cases hb : toVs xs with
              | none =>
                exfalso
                have rows : ∀ (n : Nat) (ys : List D), ys.all (isVec n) = true → ∃ b, toVs ys = some b := by
                  intro n ys
                  induction ys with
                  | nil => exact fun _ => ⟨[], rfl⟩
                  | cons y ys ih =>
                    intro g
                    rw [List.all_cons, Bool.and_eq_true] at g
                    obtain ⟨b, e⟩ := ih g.2
                    obtain ⟨v, e1, _, _⟩ := isVec_iff.mp g.1
                    exact ⟨v :: b, by rw [e1]; simp [dV, e]⟩
                obtain ⟨b, e⟩ := rows _ xs ha
                rw [hb] at e; cases e
              | some b =>
                obtain ⟨t, e⟩ := toM_cases (d := .tup xs) (b := b) hb
                have e2 : xs = b.map dV := by
                  cases t with
                  | true => simpa [dR] using e
                  | false => simp [dR] at e
                subst e2
                have hl' : b.length = (b.map dV).length := by simp
                have s : Sq b.length b := ⟨rfl, fun r hr => by
                  have := List.all_eq_true.mp ha (dV r) (List.mem_map_of_mem hr)
                  obtain ⟨v, e1, h3, _⟩ := isVec_iff.mp this
                  have : r = v := by
                    have := congrArg toV e1
                    simpa using this
                  subst this
                  have h3 : (r.length : Int) = ((b.map dV).length : Nat) := h3
                  simp at h3; omega⟩
                have bd : BdM 200000 b := fun r hr => by
                  have := List.all_eq_true.mp ha (dV r) (List.mem_map_of_mem hr)
                  obtain ⟨v, e1, _, h4⟩ := isVec_iff.mp this
                  have : r = v := by
                    have := congrArg toV e1
                    simpa using this
                  subst this
                  exact fun e he => Bd.small (h4 e he) (by decide)
                simp [F_determinant]
                refine ⟨⟨⟨b.length, ⟨by simpa using hl, by simpa using hl2⟩, s⟩, bd⟩, fin ?_⟩
                have e3 : isBas (.tup (b.map dV)) = (!det b == 0) := by
                  rw [isBas_tup, ha, toVs_map, show decide (1 ≤ (b.map dV).length) = true from decide_eq_true hl, show decide ((b.map dV).length ≤ 3) = true from decide_eq_true hl2]
                  rfl
                rw [← e3]; exact h2
        · simp [t_is_basis, show (1 : Int) ≤ xs.length by omega, show ¬ (xs.length : Int) ≤ 3 by omega]
          exact fin (by simpa [isBas, hl2] using h2)
      · simp [t_is_basis, show ¬ (1 : Int) ≤ xs.length by omega]
        exact fin (by simpa [isBas, hl] using h2)
    | obj a => cases h1
    | _ => simp [t_is_basis]; exact fin (by simpa [isBas] using h2)
  · exact h.elim
theorem pure_check_basis (ds : List D) (μ : Mu) (Q : ZQ) (E : ZX) (h : F_check_basis ds μ Q E) : zBody (t_check_basis E) 1 ds μ Q := by
  unfold F_check_basis at h
  split at h
  · rename_i d
    obtain ⟨h1, h2⟩ := h
    cases hb : isBas d with
    | true => simp [t_check_basis, F_is_basis, h1, hb]; exact fin (by simpa [hb] using h2)
    | false => simp [t_check_basis, F_is_basis, h1, hb]; simpa [hb] using h2
  · exact h.elim
theorem pure_check_vector (ds : List D) (μ : Mu) (Q : ZQ) (E : ZX) (h : F_check_vector ds μ Q E) : zBody (t_check_vector E) 2 ds μ Q := by
  unfold F_check_vector at h
  split at h
  · rename_i n d
    obtain ⟨h1, h2⟩ := h
    cases hb : isVec n d with
    | true => simp [t_check_vector, F_is_vector, h1, hb]; exact fin (by simpa [hb] using h2)
    | false => simp [t_check_vector, F_is_vector, h1, hb]; simpa [hb] using h2
  · exact h.elim
end ZL
namespace ZL
open PySem PySem.Spec PyProof.Rows L2
theorem BdV.one {m : Nat} {a : Int} (h : BdV m [a]) : Bd m a := by simpa [BdV] using h
theorem BdV.two {m : Nat} {a b : Int} (h : BdV m [a, b]) : Bd m a ∧ Bd m b := by simpa [BdV] using h
theorem BdV.three {m : Nat} {a b c : Int} (h : BdV m [a, b, c]) : Bd m a ∧ Bd m b ∧ Bd m c := by simpa [BdV] using h
/-- replacing a row -/
theorem Sq.set {n p : Nat} {b : List (List Int)} {v : List Int} (s : Sq n b) (hv : v.length = n) : Sq n (b.set p v) :=
  ⟨by rw [List.length_set]; exact s.len, fun r hr => by
    rcases List.mem_or_eq_of_mem_set hr with z | z
    · exact s.all r z
    · rw [z]; exact hv⟩
theorem BdM.set {m p : Nat} {b : List (List Int)} {v : List Int} (s : BdM m b) (hv : BdV m v) : BdM m (b.set p v) := fun r hr => by
  rcases List.mem_or_eq_of_mem_set hr with z | z
  · exact s r z
  · rw [z]; exact hv
/-- [v if other == place else row for other, row in enumerate(b)] -/
theorem enum_set (xs : List D) (d : D) (p : Nat) : ∀ k : Nat, (enumD k xs).map (fun e => match e with
    | .tup [.int i, r] => if i = (p : Int) then d else r
    | e => e) = (if k ≤ p then xs.set (p - k) d else xs) := by
  induction xs with
  | nil => intro k; simp
  | cons x xs ih =>
    intro k
    rw [enumD_cons, List.map_cons, ih]
    by_cases h : k ≤ p
    · rw [if_pos h]
      by_cases h2 : k = p
      · subst h2
        rw [if_neg (by omega)]
        simp
      · rw [if_pos (by omega), show p - k = (p - (k + 1)) + 1 by omega, List.set_cons_succ]
        have : ¬ ((k : Int) = (p : Int)) := by omega
        simp [this]
    · rw [if_neg h, if_neg (by omega)]
      have : ¬ ((k : Int) = (p : Int)) := by omega
      simp [this]
theorem enum_mem {d : D} : ∀ {xs : List D} {k : Nat}, d ∈ enumD k xs → ∃ i x, d = .tup [.int (i : Nat), x]
  | [], _, h => by simp at h
  | x :: xs, k, h => by
    rw [enumD_cons] at h
    rcases List.mem_cons.mp h with z | z
    · exact ⟨k, x, z⟩
    · exact enum_mem z
theorem lc_set {xs : List D} {d : D} {p a b c e : Nat} {ρ : Rho} {μ : Mu} {k : List D → Mu → Prop} (h1 : ρ[c]? = some (some (.int (p : Nat)))) (h2 : ρ[e]? = some (some d)) (ha : a < ρ.length) (hb : b < ρ.length) (hab : a ≠ b) (hac : a ≠ c) (hbc : b ≠ c) (hae : a ≠ e) (hbe : b ≠ e) (q : k (xs.set p d) μ) :
    zLcG (.many [a, b]) zYes (zIf (zTest (zOp pEq (zVar a) (zVar c))) (zVar e) (zVar b)) ρ (enumD 0 xs) [] μ k := by
  have key := enum_set xs d p 0
  rw [if_pos (Nat.zero_le p), Nat.sub_zero] at key
  refine lc_map _ _ _ (fun y hy => ?_) (by rw [List.nil_append, key]; exact q)
  obtain ⟨i, x, rfl⟩ := enum_mem hy
  refine ⟨_, rfl, fun Q q => ?_⟩
  by_cases hi : (i : Int) = p
  · simp [List.getElem?_set, ha, hb, hab, hac, hbc, hae, hbe, h1, h2, hi, Ne.symm hab, Ne.symm hac, Ne.symm hbc]
    simpa [hi] using q
  · have e1 : ((i : Int) == p) = false := by simpa using hi
    simp [List.getElem?_set, ha, hb, hab, hac, hbc, hae, hbe, h1, h2, hi, Ne.symm hab, Ne.symm hac, Ne.symm hbc, e1]
    simpa [hi] using q
@[simp] theorem toVs_set (b : List (List Int)) (p : Nat) (v : List Int) : toVs ((b.map dV).set p (dV v)) = some (b.set p v) := by
  rw [← List.map_set, toVs_map]
theorem SqN.len {b : List (List Int)} (h : SqN b) : 1 ≤ b.length ∧ b.length ≤ 3 := by
  obtain ⟨n, h1, s⟩ := h
  rw [s.len]; exact h1
theorem SqN.sq {b : List (List Int)} (h : SqN b) : Sq b.length b := by
  obtain ⟨n, h1, s⟩ := h
  have := s.len
  subst this
  exact s
theorem vs_dR (t : Bool) (b : List (List Int)) : vS (dR t b) = some (b.map dV) := by cases t <;> rfl
theorem asS_dR (μ : Mu) (t : Bool) (b : List (List Int)) : asS μ (dR t b) = some (b.map dV) := by cases t <;> rfl
theorem rangeD_get {lo : Int} {n i : Nat} {d : D} (h : (rangeD lo n)[i]? = some d) : i < n ∧ d = .int (lo + (i : Nat)) := by
  obtain ⟨h1, h2⟩ := List.getElem?_eq_some_iff.mp h
  simp [rangeD] at h1 h2
  exact ⟨h1, h2.symm⟩
theorem range_take {n i : Nat} (h : i < n) {α : Type} (f : Nat → α) : ((List.range n).map f).take i ++ [f i] = ((List.range n).map f).take (i + 1) := by
  rw [List.take_succ]
  simp [h]
theorem pure_solved (ds : List D) (μ : Mu) (Q : ZQ) (E : ZX) (h : F_solved ds μ Q E) : zBody t_solved 7 ds μ Q := by
  unfold F_solved at h
  split at h
  · split at h
    · split at h
      · rename_i b xs eb _ v ev
        obtain ⟨⟨sq, bd, hv, bv⟩, h2⟩ := h
        obtain ⟨t, rfl⟩ := toM_cases eb
        have f1 := toInts_eq ev
        subst f1
        have hl := sq.len
        have main : ∀ (d : D) (a : Addr) (ρ' : Rho) (μ' : Mu) (i : Nat), vS d = some (b.map dV) → i < b.length → (∃ x y, ρ' = [some d, some (dV v), some (.obj a), x, y, none, none] ∧ μ' = mupd μ a (.lst (((solv b v).take i).map .int))) → ∀ Z' : ZE, (∀ ρ'' μ'', (∃ x y, ρ'' = [some d, some (dV v), some (.obj a), x, y, none, none] ∧ μ'' = mupd μ a (.lst (((solv b v).take (i + 1)).map .int))) → Z'.nx ρ'' μ'') →
            (zSeq (zAsg (zLc false (zEnum (zCons (zVar 0) zNil)) (.many [5, 6]) zYes (zIf (zTest (zOp pEq (zVar 5) (zVar 3))) (zVar 1) (zVar 6)) [5, 6]) (.one 4)) (zDrop (zApp (zVar 2) (zCall F_determinant noX (zCons (zVar 4) zNil))))) Z' (ρ'.set 3 (some (.int (0 + (i : Nat))))) μ' := by
          rintro d a ρ' μ' i hd h3 ⟨x, y, rfl, rfl⟩ Z' h4
          simp [hd]
          refine lc_set (a := 5) (b := 6) (c := 3) (e := 1) (p := i) (d := dV v) (by simp) (by rfl) (by simp) (by simp) (by decide) (by decide) (by decide) (by decide) (by decide) ?_
          simp [mupd_same, F_determinant]
          refine ⟨⟨⟨b.length, hl, sq.sq.set hv⟩, bd.set bv⟩, by omega, h4 _ _ ⟨_, _, rfl, ?_⟩⟩
          have := range_take (i := i) (n := b.length) h3 fun p => D.int (det (b.set p v))
          unfold solv
          simp only [List.map_map, List.map_take]
          exact congrArg (fun l => mupd μ a (.lst l)) this
        have ends : ∀ (d : D) (a : Addr) (ρ' : Rho) (μ' : Mu), μ a = none → (∃ x y, ρ' = [some d, some (dV v), some (.obj a), x, y, none, none] ∧ μ' = mupd μ a (.lst (((solv b v).take b.length).map .int))) → zFrz 2 (zRet (zVar 2)) ⟨fun x μ' => ∃ ν, Sub ν μ' ∧ Q D.non ν, fun d μ' => ∃ ν, Sub ν μ' ∧ Q d ν, fun _ _ => False, fun _ _ => False⟩ ρ' μ' := by
          rintro d a ρ' μ' ha ⟨x, y, rfl, rfl⟩
          simp [mupd_same]
          refine fin_of (by rw [merase_new ha]; exact Sub.refl _) ?_
          rw [List.take_of_length_le (by simp [solv])]
          exact h2
        cases t with
        | true =>
          simp [t_solved, dR]
          refine fun a ha => ⟨by omega, ?_⟩
          refine for_inv0 (fun i ρ' μ' => ∃ x y, ρ' = [some (dR true b), some (dV v), some (.obj a), x, y, none, none] ∧ μ' = mupd μ a (.lst (((solv b v).take i).map .int))) ⟨none, none, rfl, by simp⟩ ?_ ?_
          · intro i d ρ' μ' hi h
            obtain ⟨h3, rfl⟩ := rangeD_get hi
            exact ⟨_, rfl, fun Z' h4 _ _ _ => main _ a ρ' μ' i rfl h3 h Z' h4⟩
          · intro ρ' μ' h
            rw [rangeD_len] at h
            exact ends _ a ρ' μ' ha h
        | false =>
          simp [t_solved, dR]
          refine fun a ha => ⟨by omega, ?_⟩
          refine for_inv0 (fun i ρ' μ' => ∃ x y, ρ' = [some (dR false b), some (dV v), some (.obj a), x, y, none, none] ∧ μ' = mupd μ a (.lst (((solv b v).take i).map .int))) ⟨none, none, rfl, by simp⟩ ?_ ?_
          · intro i d ρ' μ' hi h
            obtain ⟨h3, rfl⟩ := rangeD_get hi
            exact ⟨_, rfl, fun Z' h4 _ _ _ => main _ a ρ' μ' i rfl h3 h Z' h4⟩
          · intro ρ' μ' h
            rw [rangeD_len] at h
            exact ends _ a ρ' μ' ha h
      · exact h.elim
    · exact h.elim
  · exact h.elim
end ZL
namespace ZL
open PySem PySem.Spec PyProof.Rows L2
@[simp] theorem mOf_dR (t : Bool) (b : List (List Int)) : mOf (dR t b) = b := by simp [mOf]
@[simp] theorem vOf_dV (v : List Int) : vOf (dV v) = v := by simp [vOf]
@[simp] theorem vS_dR (t : Bool) (b : List (List Int)) : vS (dR t b) = some (b.map dV) := vs_dR t b
@[simp] theorem vS_dV (v : List Int) : vS (dV v) = some (v.map .int) := rfl
@[simp] theorem asS_dR' (μ : Mu) (t : Bool) (b : List (List Int)) : asS μ (dR t b) = some (b.map dV) := asS_dR μ t b
@[simp] theorem asS_dV (μ : Mu) (v : List Int) : asS μ (dV v) = some (v.map .int) := rfl
@[simp] theorem pLen_dR (t : Bool) (b : List (List Int)) (μ : Mu) (Q : ZQ) : pLen [dR t b] μ Q = Q (.int b.length) μ := by cases t <;> simp [dR]
@[simp] theorem pLen_dV (v : List Int) (μ : Mu) (Q : ZQ) : pLen [dV v] μ Q = Q (.int v.length) μ := by simp [dV]
@[simp] theorem pIx_dR (t : Bool) (b : List (List Int)) (i : Int) (μ : Mu) (Q : ZQ) : pIx (dR t b) (.int i) μ Q = (match atI (b.map dV) i with
    | some v => Q v μ
    | none => False) := by cases t <;> rfl
@[simp] theorem pIx_dV (v : List Int) (i : Int) (μ : Mu) (Q : ZQ) : pIx (dV v) (.int i) μ Q = (match atI (v.map .int) i with
    | some v => Q v μ
    | none => False) := rfl
@[simp] theorem pSl_dV (m : Bool) (v : List Int) (lo hi : Option Int) (μ : Mu) (Q : ZQ) : pSl m (dV v) lo hi μ Q = Q (.tup (cutD (v.map .int) lo hi)) μ := rfl
@[simp] theorem pSl_dRt (m : Bool) (v : List (List Int)) (lo hi : Option Int) (μ : Mu) (Q : ZQ) : pSl m (dR true v) lo hi μ Q = Q (.tup (cutD (v.map dV) lo hi)) μ := rfl
@[simp] theorem pSl_dRf (m : Bool) (v : List (List Int)) (lo hi : Option Int) (μ : Mu) (Q : ZQ) : pSl m (dR false v) lo hi μ Q = pNew m (cutD (v.map dV) lo hi) μ Q := rfl
@[simp] theorem cut_lon1 (xs : List D) (n : Nat) : cutD xs (some ((n : Int) + 1)) none = xs.drop (n + 1) := cut_lo xs (n + 1)
@[simp] theorem cut_hin1 (xs : List D) (n : Nat) : cutD xs none (some ((n : Int) + 1)) = xs.take (n + 1) := cut_hi xs (n + 1)
theorem lc_ints {te : ZT} {i : Nat} {ρ : Rho} {μ : Mu} (f : Int → D) {k : List D → Mu → Prop} (v : List Int) (h : ∀ x ∈ v, ∀ Q : ZQ, Q (f x) μ → te (ρ.set i (some (.int x))) μ Q) (q : k (v.map f) μ) : zLcG (.one i) zYes te ρ (v.map .int) [] μ k := by
  refine lc_map (fun d => match d with | .int x => f x | d => d) _ _ (fun d hd => ?_) ?_
  · obtain ⟨x, hx, rfl⟩ := List.mem_map.mp hd
    exact ⟨_, rfl, h x hx⟩
  · rw [List.nil_append, List.map_map]
    exact q
theorem lc_rows {te : ZT} {i : Nat} {ρ : Rho} {μ : Mu} (f : List Int → D) {k : List D → Mu → Prop} (b : List (List Int)) (h : ∀ x ∈ b, ∀ Q : ZQ, Q (f x) μ → te (ρ.set i (some (dV x))) μ Q) (q : k (b.map f) μ) : zLcG (.one i) zYes te ρ (b.map dV) [] μ k := by
  refine lc_map (fun d => f (vOf d)) _ _ (fun d hd => ?_) ?_
  · obtain ⟨x, hx, rfl⟩ := List.mem_map.mp hd
    exact ⟨_, rfl, fun Q q => h x hx Q (by simpa using q)⟩
  · rw [List.nil_append, List.map_map]
    have : ((fun d => f (vOf d)) ∘ dV) = f := by funext x; simp
    rw [this]; exact q
theorem pure_whole_coefficients (ds : List D) (μ : Mu) (Q : ZQ) (E : ZX) (h : F_whole_coefficients ds μ Q E) : zBody t_whole_coefficients 5 ds μ Q := by
  unfold F_whole_coefficients at h
  split at h
  · split at h
    · split at h
      · rename_i b xs eb _ v ev
        obtain ⟨⟨sq, dv⟩, h2⟩ := h
        obtain ⟨t, rfl⟩ := toM_cases eb
        have f1 := toInts_eq ev
        subst f1
        have hn := dv.ne
        simp [t_whole_coefficients, F_determinant, F_solved]
        refine ⟨⟨sq.1, sq.2.1⟩, sq, ?_⟩
        refine lc_ints (fun x => .bl (x.fmod (det b) != 0)) (solv b v) (fun x hx Q q => ?_) ?_
        · simp
          exact ⟨hn, q⟩
        · simp
          unfold coefD at h2
          cases hc : (solv b v).any (fun e => e.fmod (det b) != 0) with
          | true =>
            rw [if_pos hc] at h2
            simp [hc]
            exact fin h2
          | false =>
            rw [if_neg (by rw [hc]; exact Bool.false_ne_true)] at h2
            simp [hc]
            refine lc_ints (fun x => .int (x.fdiv (det b))) (solv b v) (fun x hx Q q => ?_) ?_
            · simp
              exact ⟨dv, q⟩
            · exact fin (by simpa [dV, Function.comp_def] using h2)
      · exact h.elim
    · exact h.elim
  · exact h.elim
theorem SolOk.of {b : List (List Int)} {v : List Int} (h : SqN b) (hb : ∀ r ∈ b, ∀ e ∈ r, -1000000 ≤ e ∧ e ≤ 1000000) (hv : ∀ e ∈ v, -1000000 ≤ e ∧ e ≤ 1000000) (hl : v.length = b.length) : SolOk b v :=
  ⟨h, fun r hr e he => Bd.small (hb r hr e he) (by decide), hl, fun e he => Bd.small (hv e he) (by decide)⟩
theorem pure_coefficients (ds : List D) (μ : Mu) (Q : ZQ) (E : ZX) (h : F_coefficients ds μ Q E) : zBody (t_coefficients E) 2 ds μ Q := by
  unfold F_coefficients at h
  split at h
  · rename_i d e
    obtain ⟨⟨h1, h2⟩, h3⟩ := h
    cases hb : isBas d with
    | false => simp [t_coefficients, F_check_basis, h1, hb]; simpa [hb] using h3
    | true =>
      obtain ⟨b, rfl, sq, bd, dn⟩ := isBas_iff.mp hb
      cases hv : isVec b.length e with
      | false => simp [t_coefficients, F_check_basis, F_check_vector, hb, hv, h2]; simpa [hb, hv] using h3
      | true =>
        obtain ⟨v, rfl, hl, vb⟩ := isVec_iff.mp hv
        simp [hb, hv] at h3
        simp [t_coefficients, F_check_basis, F_check_vector, F_whole_coefficients, hb, hv, h2]
        simp [dV]
        exact ⟨⟨SolOk.of sq bd vb (by omega), h3.1⟩, fin h3.2⟩
  · exact h.elim
theorem Sub.er {μ ν : Mu} {a : Addr} (h : Sub μ ν) (n : μ a = none) : Sub μ (merase ν a) := fun b o e => by
  unfold merase
  rw [if_neg (fun z => by subst z; rw [n] at e; cases e)]
  exact h b o e
theorem Sub.up {μ ν : Mu} {a : Addr} {o : Ob} (h : Sub μ ν) (n : μ a = none) : Sub μ (mupd ν a o) := fun b u e => by
  rw [mupd_ne (fun z => by subst z; rw [n] at e; cases e)]
  exact h b u e
theorem Sub.none {μ ν : Mu} {a : Addr} (h : Sub μ ν) (n : ν a = none) : μ a = none := by
  cases e : μ a with
  | none => rfl
  | some o => rw [h a o e] at n; cases n
theorem merase_ne {μ : Mu} {a b : Addr} (h : b ≠ a) : merase μ a b = μ b := by unfold merase; rw [if_neg h]
theorem lc_rng {te : ZT} {i n : Nat} {ρ : Rho} {μ : Mu} (f : Nat → D) {k : List D → Mu → Prop} (h : ∀ x, x < n → ∀ Q : ZQ, Q (f x) μ → te (ρ.set i (some (.int (x : Nat)))) μ Q) (q : k ((List.range n).map f) μ) : zLcG (.one i) zYes te ρ (rangeD 0 n) [] μ k := by
  refine lc_map (fun d => match d with | .int x => f x.toNat | d => d) _ _ (fun d hd => ?_) ?_
  · unfold rangeD at hd
    obtain ⟨x, hx, rfl⟩ := List.mem_map.mp hd
    refine ⟨_, rfl, fun Q q => ?_⟩
    have := h x (List.mem_range.mp hx) Q (by simpa using q)
    simpa using this
  · rw [List.nil_append]
    unfold rangeD
    rw [List.map_map]
    have : ((fun d => match d with | D.int x => f x.toNat | d => d) ∘ fun i : Nat => D.int (0 + (i : Int))) = f := by
      funext x
      show f (0 + (x : Int)).toNat = f x
      simp
    rw [this]; exact q
theorem unit_ok (n c : Nat) : (unit n c).length = n ∧ BdV 200000 (unit n c) := by
  refine ⟨by simp [unit], fun e he => ?_⟩
  simp [unit] at he
  obtain ⟨o, _, rfl⟩ := he
  split
  · exact Bd.small (by decide) (by decide)
  · exact Bd.small (by decide) (by decide)
theorem pure_dual_rows (ds : List D) (μ : Mu) (Q : ZQ) (E : ZX) (h : F_dual_rows ds μ Q E) : zBody t_dual_rows 9 ds μ Q := by
  unfold F_dual_rows at h
  split at h
  · split at h
    · rename_i d _ b eb
      obtain ⟨⟨sq, bd⟩, h2⟩ := h
      obtain ⟨t, rfl⟩ := toM_cases eb
      have hl := sq.len
      simp [t_dual_rows]
      refine fun a ha => ⟨by omega, ?_⟩
      refine for_inv0 (fun i ρ' μ' => ∃ x3 x4 x5 x6, ρ' = [some (dR t b), some (.int b.length), some (.obj a), x3, x4, x5, x6, none, none] ∧ μ' a = some (.lst (((dualR b).take i).map dV)) ∧ Sub μ μ' ∧ (x4 = none ∨ ∃ p xs, x4 = some (.obj p) ∧ p ≠ a ∧ μ p = none ∧ μ' p = some (.lst xs))) ⟨none, none, none, none, rfl, by simp [mupd_same], Sub.new ha, .inl rfl⟩ ?_ ?_
      · rintro i d ρ' μ' hi ⟨x3, x4, x5, x6, rfl, m1, m2, m3⟩
        obtain ⟨h3, rfl⟩ := rangeD_get hi
        refine ⟨_, rfl, fun Z' h4 _ _ _ => ?_⟩
        simp
        refine fun p hp => ⟨by omega, ?_⟩
        have pa : p ≠ a := fun z => by subst z; rw [m1] at hp; cases hp
        have mp := m2.none hp
        refine for_inv0 (fun c ρ' ν => ∃ x5 x6, ρ' = [some (dR t b), some (.int b.length), some (.obj a), some (.int (i : Nat)), some (.obj p), x5, x6, none, none] ∧ ν a = some (.lst (((dualR b).take i).map dV)) ∧ Sub μ ν ∧ ν p = some (.lst ((List.range c).map fun c => .int (det (b.set i (unit b.length c)))))) ⟨x5, x6, rfl, by rw [mupd_ne (Ne.symm pa)]; exact m1, m2.up mp, by simp [mupd_same]⟩ ?_ ?_
        · rintro c d ρ' ν hc ⟨y5, y6, rfl, n1, n2, n3⟩
          obtain ⟨h5, rfl⟩ := rangeD_get hc
          refine ⟨_, rfl, fun Z'' h6 _ _ _ => ?_⟩
          simp
          refine ⟨by omega, ?_⟩
          refine lc_rng (fun o => .int (if o = c then 1 else 0)) (fun o ho Q q => ?_) ?_
          · simp
            by_cases ho : o = c
            · simpa [ho] using q
            · rw [if_neg ho] at q
              simpa [show ¬ (o : Int) = (c : Int) by omega] using q
          · simp [n3]
            refine lc_set (a := 7) (b := 8) (c := 3) (e := 6) (p := i) (d := dV (unit b.length c)) (by simp) (by simp [dV, unit]) (by simp) (by simp) (by decide) (by decide) (by decide) (by decide) (by decide) ?_
            have hu := unit_ok b.length c
            simp [F_determinant, n3]
            refine ⟨⟨⟨b.length, hl, sq.sq.set hu.1⟩, bd.set hu.2⟩, by omega, h6 _ _ ⟨_, _, rfl, ?_, n2.up mp, ?_⟩⟩
            · rw [mupd_ne (Ne.symm pa)]; exact n1
            · rw [mupd_same, List.range_succ]; simp
        · rintro ρ' ν ⟨y5, y6, rfl, n1, n2, n3⟩
          rw [rangeD_len] at n3
          simp [n3, n1]
          refine ⟨by omega, h4 _ _ ⟨_, _, _, _, rfl, ?_, n2.up ha, .inr ⟨p, _, rfl, pa, mp, by rw [mupd_ne pa]; exact n3⟩⟩⟩
          rw [mupd_same]
          have := range_take (i := i) (n := b.length) h3 fun p => dV ((List.range b.length).map fun c => det (b.set p (unit b.length c)))
          unfold dualR
          simp only [List.map_map, List.map_take]
          refine congrArg (fun l => some (Ob.lst l)) (Eq.trans ?_ this)
          simp [dV, Function.comp_def]
      · rintro ρ' μ' ⟨x3, x4, x5, x6, rfl, m1, m2, m3⟩
        rw [rangeD_len, List.take_of_length_le (by simp [dualR])] at m1
        rcases m3 with rfl | ⟨p, xs, rfl, pa, mp, m3⟩
        · simp [m1]
          exact fin_of (m2.er ha) h2
        · simp [m3, merase_ne (Ne.symm pa), m1]
          exact fin_of ((m2.er mp).er ha) h2
    · exact h.elim
  · exact h.elim
end ZL
namespace ZL
open PySem PySem.Spec PyProof.Rows L2
theorem dvE (v : List Int) : D.tup (v.map .int) = dV v := rfl
theorem det_bd {m : Nat} {b : List (List Int)} (h : SqN b) (hb : BdM m b) : Bd (3 * m + 4) (det b) := by
  obtain ⟨n, ⟨h0, h3⟩, s⟩ := h
  obtain rfl | rfl | rfl : n = 1 ∨ n = 2 ∨ n = 3 := by omega
  · obtain ⟨a, rfl⟩ := s.one
    have : Bd m a := by simpa [BdM] using hb
    exact this.mono (by omega)
  · obtain ⟨a, b, c, d, rfl⟩ := s.two
    obtain ⟨b1, b2, b3, b4⟩ := hb.two
    exact ((b1.mul b4).sub (b2.mul b3)).mono (by omega)
  · obtain ⟨a, b, c, d, e, f, g, i, j, rfl⟩ := s.three
    obtain ⟨b1, b2, b3, b4, b5, b6, b7, b8, b9⟩ := hb.three
    have k1 := b1.mul ((b5.mul b9).sub (b6.mul b8))
    have k2 := b2.mul ((b4.mul b9).sub (b6.mul b7))
    have k3 := b3.mul ((b4.mul b8).sub (b5.mul b7))
    refine Bd.mono (Bd.add (Bd.sub k1 k2) (Bd.mono k3 ?_)) ?_
    · omega
    · omega
theorem dualR_bd {m : Nat} {b : List (List Int)} (h : SqN b) (hb : BdM m b) (hm : 20 ≤ m) : ∀ r ∈ dualR b, r.length = b.length ∧ BdV (3 * m + 4) r := by
  intro r hr
  simp [dualR] at hr
  obtain ⟨p, hp, rfl⟩ := hr
  refine ⟨by simp, fun e he => ?_⟩
  simp at he
  obtain ⟨c, hc, rfl⟩ := he
  have hu := unit_ok b.length c
  refine det_bd ⟨b.length, h.len, h.sq.set hu.1⟩ (hb.set fun e he => ?_)
  simp [unit] at he
  obtain ⟨o, _, rfl⟩ := he
  split
  · exact Bd.small (by decide) hm
  · exact Bd.small (by decide) hm
theorem pure_test_vector (ds : List D) (μ : Mu) (Q : ZQ) (E : ZX) (h : F_test_vector ds μ Q E) : zBody (t_test_vector E) 5 ds μ Q := by
  unfold F_test_vector at h
  split at h
  · rename_i d e
    obtain ⟨⟨h1, h2⟩, h3⟩ := h
    cases hb : isBas d with
    | false => simp [t_test_vector, F_check_basis, h1, hb]; simpa [hb] using h3
    | true =>
      obtain ⟨b, rfl, sq, bd, dn⟩ := isBas_iff.mp hb
      cases hv : isVec b.length e with
      | false => simp [t_test_vector, F_check_basis, F_check_vector, hb, hv, h2]; simpa [hb, hv] using h3
      | true =>
        obtain ⟨v, rfl, hl, vb⟩ := isVec_iff.mp hv
        simp [hb, hv] at h3
        obtain ⟨hd, h3⟩ := h3
        have bdm : BdM 20 b := fun r hr e he => Bd.small (bd r hr e he) (by decide)
        have ok : DetOk b := ⟨sq, fun r hr e he => (bdm r hr e he).mono (by decide)⟩
        have rows := dualR_bd sq bdm (by decide)
        have bv : BdV 400000 v := fun e he => Bd.small (vb e he) (by decide)
        simp [t_test_vector, F_check_basis, F_check_vector, F_determinant, F_dual_rows, hb, hv, h2]
        refine ⟨ok, ?_⟩
        have loop : ∀ (rs : List (List Int)) (x : Option D), (∀ r ∈ rs, BdV 400000 r) → (Q (match rs.find? fun row => (dot row v).fmod (det b) != 0 with
            | some row => .tup (row.map fun e => ratD e (det b))
            | none => .non) μ) → zForG (.one 3) (zIfS (zTest (zOp pNe (zOp pMod (zCall F_product noX (zCons (zVar 3) (zCons (zVar 1) zNil))) (zVar 2)) (zC (.int 0)))) (zRet (zCB pTuple (zCons (zLc false (zIt (zVar 3)) (.one 4) zYes (zCall F_ratio noX (zCons (zVar 4) (zCons (zVar 2) zNil))) [4]) zNil))) zNext)
              ⟨fun ρ μ => zRet (zC .non) ⟨fun _ μ' => ∃ ν, Sub ν μ' ∧ Q .non ν, fun d μ' => ∃ ν, Sub ν μ' ∧ Q d ν, fun _ _ => False, fun _ _ => False⟩ ρ μ, fun d μ' => ∃ ν, Sub ν μ' ∧ Q d ν, fun _ _ => False, fun _ _ => False⟩ (rs.map dV) [some (dR true b), some (dV v), some (.int (det b)), x, none] μ := by
          intro rs
          induction rs with
          | nil =>
            intro x _ q
            simp at q ⊢
            exact fin q
          | cons r rs ih =>
            intro x hr q
            rw [List.map_cons]
            unfold zForG
            simp [F_product, hd.ne]
            refine ⟨⟨hr r (by simp), bv, .inl ⟨⟨_, rfl⟩, _, rfl⟩⟩, ?_⟩
            cases hc : (dot r v).fmod (det b) == 0 with
            | true =>
              simp [hc]
              refine ih _ (fun r h => hr r (by simp [h])) ?_
              rw [List.find?_cons] at q
              simpa [bne, hc] using q
            | false =>
              rw [List.find?_cons] at q
              simp [bne, hc] at q
              simp [hc]
              refine lc_ints (fun e => ratD e (det b)) r (fun e he Q q => ?_) ?_
              · simp [F_ratio]
                exact ⟨hd, by simpa using q⟩
              · simp
                exact fin (by simpa using q)
        exact loop _ _ (fun r hr e he => ((rows r hr).2 e he).mono (by decide)) h3
  · exact h.elim
theorem toFr_eq : ∀ {xs : List D} {ps : List (Int × Int)}, toFr xs = some ps → xs = ps.map fun p => .tup [.int p.1, .int p.2]
  | [], ps, h => by simp at h; subst h; rfl
  | .tup [.int a, .int b] :: r, ps, h => by
    unfold toFr at h
    split at h
    · rename_i qs e
      cases h
      rw [List.map_cons, ← toFr_eq e]
    · cases h
@[simp] theorem toFr_map : ∀ ps : List (Int × Int), toFr (ps.map fun p => .tup [.int p.1, .int p.2]) = some ps
  | [] => rfl
  | p :: ps => by simp [toFr_map ps]
theorem FrOk.pos {ps : List (Int × Int)} (h : FrOk ps) : 0 < bot ps ∧ Bd 6001 (bot ps) := by
  obtain ⟨hl, hp⟩ := h
  match ps, hl with
  | [], _ => exact ⟨by decide, Bd.small (by decide) (by decide)⟩
  | [p], _ =>
    have h1 := hp p (by simp)
    simp [bot]
    exact ⟨h1.2.1, h1.2.2.mono (by decide)⟩
  | [p, q], _ =>
    have h1 := hp p (by simp)
    have h2 := hp q (by simp)
    simp [bot]
    exact ⟨Int.mul_pos h1.2.1 h2.2.1, (h1.2.2.mul h2.2.2).mono (by decide)⟩
  | [p, q, r], _ =>
    have h1 := hp p (by simp)
    have h2 := hp q (by simp)
    have h3 := hp r (by simp)
    simp [bot]
    exact ⟨Int.mul_pos (Int.mul_pos h1.2.1 h2.2.1) h3.2.1, ((h1.2.2.mul h2.2.2).mul h3.2.2).mono (by decide)⟩
theorem fdiv_bd {m : Nat} {a b : Int} (h : Bd m a) (hb : 0 < b) : Bd (m + 1) (a.fdiv b) := by
  unfold Bd at *
  rw [Int.fdiv_eq_ediv_of_nonneg a (by omega)]
  have := Int.natAbs_ediv_le_natAbs a b
  rw [Nat.pow_succ]
  omega
theorem fr_loop {ps : List (Int × Int)} {Z : ZE} {d e : D} {s : Int} {x y : Option D} {μ : Mu} (hp : ∀ p ∈ ps, Bd 2000 p.2) (hl : ps.length ≤ 3) (hs : Bd (9000 - 2001 * ps.length) s) (q : ∀ x, Z.nx [some d, some e, some (.int (ps.foldl (fun s p => s * p.2) s)), x, y] μ) :
    zForG (.one 3) (zAsg (zOp pMul (zVar 2) (zOp pIx (zVar 3) (zC (.int 1)))) (.one 2)) Z (ps.map fun p => .tup [.int p.1, .int p.2]) [some d, some e, some (.int s), x, y] μ := by
  induction ps generalizing s x with
  | nil => simpa using q x
  | cons p ps ih =>
    have h1 := hp p (by simp)
    rw [List.map_cons]
    unfold zForG
    simp
    simp at hl
    have b1 := hs.le
    have b2 := h1.le
    refine ⟨by omega, ih (fun p h => hp p (by simp [h])) (by omega) ?_ (fun x => by simpa using q x)⟩
    refine (hs.mul h1).mono ?_
    simp
    omega
theorem pure_is_whole_product (ds : List D) (μ : Mu) (Q : ZQ) (E : ZX) (h : F_is_whole_product ds μ Q E) : zBody t_is_whole_product 5 ds μ Q := by
  unfold F_is_whole_product at h
  split at h
  · split at h
    · rename_i xs ys _ _ ps v e1 e2
      obtain ⟨⟨ok, bv⟩, h2⟩ := h
      have f1 := toFr_eq e1
      have f2 := toInts_eq e2
      subst f1 f2
      have bp := ok.pos
      simp [t_is_whole_product]
      refine fr_loop (fun p h => (ok.2 p h).2.2) ok.1 (Bd.small (by decide) (by have := ok.1; omega)) fun x => ?_
      simp
      have step : ∀ (qs : List (Int × Int)) (w : List Int) (acc : List D) (k : List D → Mu → Prop) (x y : Option D), (∀ p ∈ qs, p ∈ ps) → (∀ e ∈ w, e ∈ v) → k (acc ++ (List.zipWith (fun p e => D.int (p.1 * ((bot ps).fdiv p.2) * e)) qs w)) μ →
          zLcG (.many [3, 4]) zYes (zOp pMul (zOp pMul (zOp pIx (zVar 3) (zC (.int 0))) (zOp pDiv (zVar 2) (zOp pIx (zVar 3) (zC (.int 1))))) (zVar 4)) [some (.tup (ps.map fun p => .tup [.int p.1, .int p.2])), some (.tup (v.map .int)), some (.int (bot ps)), x, y] (zipD (qs.map fun p => .tup [.int p.1, .int p.2]) (w.map .int)) acc μ k := by
        intro qs
        induction qs with
        | nil => intro w acc k x y _ _ q; simpa using q
        | cons p qs ih =>
          intro w acc k x y h1 h2 q
          cases w with
          | nil => simpa using q
          | cons e w =>
            have hp := ok.2 p (h1 p (by simp))
            have he := bv e (h2 e (by simp))
            have hf := fdiv_bd bp.2 hp.2.1
            have b1 := hp.1.le
            have b2 := hf.le
            have b3 := (hp.1.mul hf).le
            have b4 := he.le
            have b5 := hp.2.2.le
            simp only [List.map_cons, zipD_cons]
            unfold zLcG
            simp
            refine ⟨.inr ⟨hp.2.1, by omega⟩, by omega, by omega, ih w _ k x y (fun p h => h1 p (by simp [h])) (fun p h => h2 p (by simp [h])) (by simpa using q)⟩
      have := step ps v [] (fun acc μ2 => match toInts acc with
        | some ns => ¬bot ps = 0 ∧ ∃ ν, Sub ν μ2 ∧ Q (.bl (ns.sum.fmod (bot ps) == 0)) ν
        | none => False) none none (fun _ h => h) (fun _ h => h) ?_
      · exact this
      · rw [List.nil_append]
        have key : ∀ (qs : List (Int × Int)) (w : List Int), toInts (List.zipWith (fun p e => D.int (p.1 * ((bot ps).fdiv p.2) * e)) qs w) = some ((qs.zip w).map fun p => p.1.1 * ((bot ps).fdiv p.1.2) * p.2) := by
          intro qs
          induction qs with
          | nil => intro w; simp
          | cons p qs ih =>
            intro w
            cases w with
            | nil => simp
            | cons e w => simp [ih w]
        rw [key]
        exact ⟨by omega, fin h2⟩
    · exact h.elim
  · exact h.elim
theorem isFr_iff {d : D} : isFr d = true ↔ ∃ a b : Int, d = .tup [.int a, .int b] ∧ 0 < b ∧ Int.gcd a b = 1 := by
  constructor
  · intro h
    unfold isFr at h
    split at h
    · simp at h
      exact ⟨_, _, rfl, h⟩
    · cases h
  · rintro ⟨a, b, rfl, h1, h2⟩
    simp [h1, h2]
theorem isFrs_iff {n : Nat} {d : D} : isFrs n d = true ↔ ∃ ps : List (Int × Int), d = .tup (ps.map fun p => .tup [.int p.1, .int p.2]) ∧ ps.length = n ∧ ∀ p ∈ ps, 0 < p.2 ∧ Int.gcd p.1 p.2 = 1 := by
  have lists : ∀ xs : List D, xs.all isFr = true → ∃ ps : List (Int × Int), xs = (ps.map fun p => .tup [.int p.1, .int p.2]) ∧ ∀ p ∈ ps, 0 < p.2 ∧ Int.gcd p.1 p.2 = 1 := by
    intro xs
    induction xs with
    | nil => exact fun _ => ⟨[], rfl, by simp⟩
    | cons x xs ih =>
      intro h
      rw [List.all_cons, Bool.and_eq_true] at h
      obtain ⟨ps, e, hp⟩ := ih h.2
      obtain ⟨a, b, e1, h1, h2⟩ := isFr_iff.mp h.1
      refine ⟨(a, b) :: ps, by rw [e, e1]; rfl, ?_⟩
      intro p hm
      rcases List.mem_cons.mp hm with z | z
      · subst z; exact ⟨h1, h2⟩
      · exact hp p z
  constructor
  · intro h
    cases d with
    | tup xs =>
      simp only [isFrs_tup, Bool.and_eq_true, beq_iff_eq] at h
      obtain ⟨ps, e, hp⟩ := lists xs h.2
      exact ⟨ps, by rw [e], by rw [← h.1, e]; simp, hp⟩
    | _ => exact absurd h Bool.false_ne_true
  · rintro ⟨ps, rfl, h1, h2⟩
    simp [h1]
    intro a b h
    exact h2 (a, b) h
theorem pure_is_test_vector (ds : List D) (μ : Mu) (Q : ZQ) (E : ZX) (h : F_is_test_vector ds μ Q E) : zBody (t_is_test_vector E) 5 ds μ Q := by
  unfold F_is_test_vector at h
  split at h
  · rename_i d e x
    obtain ⟨⟨h1, h2, h3⟩, h4⟩ := h
    cases hb : isBas d with
    | false => simp [t_is_test_vector, F_check_basis, h1, hb]; simpa [hb] using h4
    | true =>
      obtain ⟨b, rfl, sq, bd, dn⟩ := isBas_iff.mp hb
      cases hv : isVec b.length e with
      | false => simp [t_is_test_vector, F_check_basis, F_check_vector, hb, hv, h2]; simpa [hb, hv] using h4
      | true =>
        obtain ⟨v, rfl, hl, vb⟩ := isVec_iff.mp hv
        simp [hb, hv] at h4
        obtain ⟨hd, h4⟩ := h4
        have bdm : BdM 2000 b := fun r hr e he => Bd.small (bd r hr e he) (by decide)
        have bv : BdV 2000 v := fun e he => Bd.small (vb e he) (by decide)
        cases x with
        | tup xs =>
          have pa := (plAll_iff xs).mp (by simpa using h3)
          simp [t_is_test_vector, F_check_basis, F_check_vector, hb, hv]
          have other : ∀ {μ}, isTest b v (.tup xs) = false → Q (.bl (isTest b v (.tup xs))) μ → ∃ ν, Sub ν μ ∧ Q (.bl false) ν := fun e q => by rw [e] at q; exact fin q
          by_cases hn : xs.length = b.length
          · simp [hn]
            refine lc_map (fun e => .bl (isFr e)) _ _ (fun d hd => ⟨_, rfl, fun Q q => ?_⟩) ?_
            · simp [F_is_fraction]
              exact ⟨pa d hd, q⟩
            · simp
              cases ha : xs.all isFr with
              | false => simp [ha]; exact other (by simp [isTest, hn, ha]) h4
              | true =>
                obtain ⟨ps, e1, hp, hq⟩ := isFrs_iff.mp (show isFrs b.length (.tup xs) = true by simp [hn, ha])
                cases e1
                have ok : FrOk ps := by
                  have := hd (by simp [hp, ha])
                  simpa [frOf] using this
                simp [ha]
                refine lc_rows (fun r => .bl (whP ps r)) b (fun r hr Q q => ?_) ?_
                · simp [F_is_whole_product, dV]
                  exact ⟨⟨ok, bdm r hr⟩, q⟩
                · simp
                  cases hc : b.all (whP ps) with
                  | false => simp [hc]; exact other (by simp [isTest, hp, frOf, hc]) h4
                  | true =>
                    simp [hc, F_is_whole_product, dV]
                    refine ⟨⟨ok, bv⟩, fin ?_⟩
                    have : isTest b v (.tup (ps.map fun p => .tup [.int p.1, .int p.2])) = !whP ps v := by
                      unfold isTest
                      rw [isFrs_tup, ha]
                      simp [hp, frOf, hc]
                    rw [this] at h4; exact h4
          · have e1 : ((xs.length : Int) == b.length) = false := by simpa using fun z : (xs.length : Int) = b.length => hn (by omega)
            simp [e1]
            exact other (by simp [isTest, hn]) h4
        | obj a => cases h3
        | _ =>
          simp [t_is_test_vector, F_check_basis, F_check_vector, hb, hv]
          exact fin h4
  · exact h.elim
end ZL
namespace ZL
open PySem PySem.Spec PyProof.Rows L2
/-! ### what the laws' own functions answer -/
/-- the script -/
def dL (ns : List Int) : D := .lst (ns.map .int)
def toL : D → Option (List Int)
  | .lst xs => toInts xs
  | _ => none
@[simp] theorem toL_dL (ns : List Int) : toL (dL ns) = some ns := by simp [toL, dL]
theorem toL_eq {d : D} {ns : List Int} (h : toL d = some ns) : d = dL ns := by
  cases d with
  | lst xs => rw [toInts_eq (show toInts xs = some ns from h)]; rfl
  | _ => cases h
/-- the town of a law that drew at most n times -/
def Town (ns : List Int) (a : Addr) (n : Nat) (μ : Mu) : Prop := ∃ (c : Nat) (t : List Int), μ a = some (.lst (.int c :: t.map .int)) ∧ c ≤ n ∧ t.length = ns.length
/-- nothing but the town has changed -/
def Fr (a : Addr) (μ ν : Mu) : Prop := ∀ b o, b ≠ a → μ b = some o → ν b = some o
theorem Fr.refl (a : Addr) (μ : Mu) : Fr a μ μ := fun _ _ _ h => h
theorem Fr.trans {a : Addr} {μ ν ξ : Mu} (h : Fr a μ ν) (g : Fr a ν ξ) : Fr a μ ξ := fun b o n e => g b o n (h b o n e)
theorem Town.mono {ns : List Int} {a : Addr} {n m : Nat} {μ : Mu} (h : Town ns a n μ) (g : n ≤ m) : Town ns a m μ := by
  obtain ⟨c, t, h1, h2, h3⟩ := h
  exact ⟨c, t, h1, by omega, h3⟩
def F__law_town : ZF := fun ds μ Q E => match ds with
  | [s] => (match toL s with
    | some ns => ns.length ≤ 1000 ∧ ∀ a, μ a = none → Q (.obj a) (mupd μ a (.lst (.int 0 :: ns.map .int)))
    | none => False)
  | _ => False
def F__law_draw : ZF := fun ds μ Q E => match ds with
  | [s, .obj a, .int l] => (match toL s with
    | some ns => ∃ n, (Town ns a n μ ∧ n < 1000000000 ∧ 1 ≤ l ∧ bits l < 9000 ∧ ns.length ≤ 1000) ∧ ∀ r ν, 0 ≤ r → r < l → Town ns a (n + 1) ν → Fr a μ ν → Q (.int r) ν
    | none => False)
  | _ => False
def F__law_pick : ZF := fun ds μ Q E => match ds with
  | [s, .obj a, d] => (match toL s, vS d with
    | some ns, some xs => ∃ n, (Town ns a n μ ∧ n < 1000000000 ∧ 1 ≤ xs.length ∧ xs.length ≤ 1000000 ∧ ns.length ≤ 1000) ∧ ∀ x ν, x ∈ xs → Town ns a (n + 1) ν → Fr a μ ν → Q x ν
    | _, _ => False)
  | _ => False
def F__law_det : ZF := F_determinant
/-- a basis with small entries -/
structure Small (m : Int) (b : List (List Int)) : Prop where
  sq : SqN b
  all : ∀ r ∈ b, ∀ e ∈ r, -m ≤ e ∧ e ≤ m
  ne : det b ≠ 0
def F__law_basis_in : ZF := fun ds μ Q E => match ds with
  | [s, .obj a, .int n, .int m] => (match toL s with
    | some ns => ∃ k, (Town ns a k μ ∧ k < 1000000 ∧ 1 ≤ n ∧ n ≤ 3 ∧ 1 ≤ m ∧ m ≤ 1000000000 ∧ ns.length ≤ 1000) ∧ ∀ b ν, (b.length : Int) = n → Small m b → Town ns a (k + 9) ν → Fr a μ ν → Q (dR true b) ν
    | none => False)
  | _ => False
def F__law_basis : ZF := fun ds μ Q E => match ds with
  | [s, .obj a, .int m] => (match toL s with
    | some ns => ∃ k, (Town ns a k μ ∧ k < 900000 ∧ 1 ≤ m ∧ m ≤ 1000000000 ∧ ns.length ≤ 1000) ∧ ∀ b ν, Small m b → Town ns a (k + 10) ν → Fr a μ ν → Q (dR true b) ν
    | none => False)
  | _ => False
def mixV (f : List Int) (b : List (List Int)) : List Int := (List.range (b.headD []).length).map fun j => ((List.range b.length).map fun k => (f[k]?.getD 0) * ((b[k]?.getD [])[j]?.getD 0)).sum
def F__law_mix : ZF := fun ds μ Q E => match ds with
  | [d, e] => (match toV d, toM e with
    | some f, some b => (f.length = b.length ∧ SqN b ∧ BdV 400000 f ∧ BdM 400000 b) ∧ Q (dV (mixV f b)) μ
    | _, _ => False)
  | _ => False
def hasB (b : List (List Int)) (v : List Int) : Bool := (List.range b.length).all fun p => (det (b.set p v)).fmod (det b) == 0
def F__law_has : ZF := fun ds μ Q E => match ds with
  | [.tup xs, e] => (match toVs xs, e with
    | some b, .tup ys => (match toInts ys with
      | some v => (SolOk b v ∧ det b ≠ 0) ∧ Q (.bl (hasB b v)) μ
      | _ => False)
    | _, _ => False)
  | _ => False
end ZL
namespace ZL
open PySem PySem.Spec PyProof.Rows L2

def t__law_town : ZS :=
  (zRet (zOp (pAdd true) (zLst false (zCons (zC (.int 0)) zNil)) (zCB (pList false) (zCons (zVar 0) zNil))))
def t__law_draw : ZS :=
  (zSeq (zSetI (zOp (pAdd false) (zOp pIx (zVar 1) (zC (.int 0))) (zC (.int 1))) (zVar 1) (zC (.int 0)))
    (zSeq (zIfS (zTest (zOp pEq (zVar 0) (zLst false zNil))) (zRet (zOp pMod (zOp pDiv (zOp pMul (zOp pMul (zOp pIx (zVar 1) (zC (.int 0))) (zOp pIx (zVar 1) (zC (.int 0)))) (zC (.int 7))) (zC (.int 3))) (zVar 2))) zNext)
    (zSeq (zAsg (zOp pMod (zOp pIx (zVar 1) (zC (.int 0))) (zCB pLen (zCons (zVar 0) zNil))) (.one 3))
    (zSeq (zAsg (zOp pIx (zVar 1) (zOp (pAdd false) (zC (.int 1)) (zVar 3))) (.one 4))
    (zSeq (zIfS (zAnd (zTest (zOp pGe (zOp pIx (zVar 0) (zVar 3)) (zOp pPow (zC (.int 10)) (zC (.int 18))))) (zTest (zOp pGt (zVar 4) (zC (.int 0))))) (zSeq (zSetI (zOp pDiv (zVar 4) (zVar 2)) (zVar 1) (zOp (pAdd false) (zC (.int 1)) (zVar 3)))
    (zRet (zOp pMod (zVar 4) (zVar 2)))) zNext)
    (zSeq (zAsg (zOp pMod (zOp (pAdd false) (zOp pIx (zVar 0) (zVar 3)) (zOp pMul (zC (.int 104729)) (zOp pIx (zVar 1) (zC (.int 0))))) (zC (.int 4294967291))) (.one 5))
    (zSeq (zAsg (zOp pMod (zOp pPow (zVar 5) (zC (.int 5))) (zC (.int 4294967279))) (.one 5))
    (zRet (zOp pMod (zOp pDiv (zOp pMod (zOp (pAdd false) (zOp pMul (zOp pDiv (zVar 5) (zC (.int 64))) (zC (.int 69621))) (zVar 5)) (zC (.int 4294967231))) (zC (.int 8))) (zVar 2))))))))))
def t__law_pick : ZS :=
  (zRet (zOp pIx (zVar 2) (zCall F__law_draw noX (zCons (zVar 0) (zCons (zVar 1) (zCons (zCB pLen (zCons (zVar 2) zNil)) zNil))))))
def t__law_det : ZS :=
  (zSeq (zIfS (zTest (zOp pEq (zCB pLen (zCons (zVar 0) zNil)) (zC (.int 1)))) (zRet (zOp pIx (zOp pIx (zVar 0) (zC (.int 0))) (zC (.int 0)))) zNext)
    (zSeq (zIfS (zTest (zOp pEq (zCB pLen (zCons (zVar 0) zNil)) (zC (.int 2)))) (zRet (zOp pSub (zOp pMul (zOp pIx (zOp pIx (zVar 0) (zC (.int 0))) (zC (.int 0))) (zOp pIx (zOp pIx (zVar 0) (zC (.int 1))) (zC (.int 1)))) (zOp pMul (zOp pIx (zOp pIx (zVar 0) (zC (.int 0))) (zC (.int 1))) (zOp pIx (zOp pIx (zVar 0) (zC (.int 1))) (zC (.int 0)))))) zNext)
    (zSeq (zAsg (zVar 0) (.many [1, 2, 3]))
    (zSeq (zAsg (zOp pMul (zOp pIx (zVar 1) (zC (.int 0))) (zOp pSub (zOp pMul (zOp pIx (zVar 2) (zC (.int 1))) (zOp pIx (zVar 3) (zC (.int 2)))) (zOp pMul (zOp pIx (zVar 2) (zC (.int 2))) (zOp pIx (zVar 3) (zC (.int 1)))))) (.one 4))
    (zSeq (zAsg (zOp pSub (zVar 4) (zOp pMul (zOp pIx (zVar 1) (zC (.int 1))) (zOp pSub (zOp pMul (zOp pIx (zVar 2) (zC (.int 0))) (zOp pIx (zVar 3) (zC (.int 2)))) (zOp pMul (zOp pIx (zVar 2) (zC (.int 2))) (zOp pIx (zVar 3) (zC (.int 0))))))) (.one 4))
    (zRet (zOp (pAdd false) (zVar 4) (zOp pMul (zOp pIx (zVar 1) (zC (.int 2))) (zOp pSub (zOp pMul (zOp pIx (zVar 2) (zC (.int 0))) (zOp pIx (zVar 3) (zC (.int 1)))) (zOp pMul (zOp pIx (zVar 2) (zC (.int 1))) (zOp pIx (zVar 3) (zC (.int 0)))))))))))))
def t__law_basis_in : ZS :=
  (zSeq (zAsg (zLst true zNil) (.one 4))
    (zSeq (zFor (zRng1 (zCons (zVar 2) zNil)) (.one 5) (zDrop (zApp (zVar 4) (zCB pTuple (zCons (zLc false (zRng1 (zCons (zVar 2) zNil)) (.one 8) zYes (zOp pSub (zCall F__law_draw noX (zCons (zVar 0) (zCons (zVar 1) (zCons (zOp (pAdd false) (zOp pMul (zC (.int 2)) (zVar 3)) (zC (.int 1))) zNil)))) (zVar 3)) [8]) zNil)))))
    (zFrz 4 (zSeq (zIfS (zTest (zOp pNe (zCall F__law_det noX (zCons (zVar 4) zNil)) (zC (.int 0)))) (zRet (zCB pTuple (zCons (zVar 4) zNil))) zNext)
    (zSeq (zAsg (zLst true zNil) (.one 6))
    (zSeq (zFor (zEnum (zCons (zVar 4) zNil)) (.many [5, 7]) (zDrop (zApp (zVar 6) (zOp (pAdd false) (zOp (pAdd false) (zOp pMul (zTup (zCons (zC (.int 0)) zNil)) (zVar 5)) (zTup (zCons (zIf (zTest (zOp pNe (zOp pIx (zVar 7) (zVar 5)) (zC (.int 0)))) (zOp pIx (zVar 7) (zVar 5)) (zC (.int 1))) zNil))) (zSl false (zVar 7) (zPart (zOp (pAdd false) (zVar 5) (zC (.int 1)))) zNoPart)))))
    (zFrz 6 (zRet (zCB pTuple (zCons (zVar 6) zNil))))))))))
def t__law_basis : ZS :=
  (zRet (zCall F__law_basis_in noX (zCons (zVar 0) (zCons (zVar 1) (zCons (zOp (pAdd false) (zC (.int 1)) (zCall F__law_draw noX (zCons (zVar 0) (zCons (zVar 1) (zCons (zC (.int 3)) zNil))))) (zCons (zVar 2) zNil))))))
def t__law_mix : ZS :=
  (zRet (zCB pTuple (zCons (zLc false (zRng1 (zCons (zCB pLen (zCons (zOp pIx (zVar 1) (zC (.int 0))) zNil)) zNil)) (.one 2) zYes (zCB pSum (zCons (zLc false (zRng1 (zCons (zCB pLen (zCons (zVar 1) zNil)) zNil)) (.one 3) zYes (zOp pMul (zOp pIx (zVar 0) (zVar 3)) (zOp pIx (zOp pIx (zVar 1) (zVar 3)) (zVar 2))) [3]) zNil)) [2]) zNil)))
def t__law_has : ZS :=
  (zSeq (zAsg (zCall F__law_det noX (zCons (zVar 0) zNil)) (.one 2))
    (zSeq (zFor (zRng1 (zCons (zCB pLen (zCons (zVar 0) zNil)) zNil)) (.one 3) (zSeq (zAsg (zOp (pAdd false) (zCB (pList false) (zCons (zSl false (zVar 0) zNoPart (zPart (zVar 3))) zNil)) (zLst false (zCons (zVar 1) zNil))) (.one 4))
    (zIfS (zTest (zOp pNe (zOp pMod (zCall F__law_det noX (zCons (zOp (pAdd false) (zVar 4) (zCB (pList false) (zCons (zSl false (zVar 0) (zPart (zOp (pAdd false) (zVar 3) (zC (.int 1)))) zNoPart) zNil))) zNil)) (zVar 2)) (zC (.int 0)))) (zRet (zC (.bl false))) zNext)))
    (zRet (zC (.bl true)))))
end ZL
namespace ZL
open PySem PySem.Spec PyProof.Rows L2
theorem ixN_nat (n p : Nat) : ixN n (p : Int) = if p < n then some p else none := by
  unfold ixN
  rw [if_pos (Int.natCast_nonneg p)]
  by_cases h : p < n
  · rw [if_pos (by omega), if_pos h]; simp
  · rw [if_neg (by omega), if_neg h]
@[simp] theorem atI_1p {α : Type} (xs : List α) (p : Nat) : atI xs (1 + (p : Int)) = xs[p + 1]? := by
  rw [show (1 + (p : Int)) = ((p + 1 : Nat) : Int) by omega, atI_n]
@[simp] theorem ixN_1p (n p : Nat) : ixN n (1 + (p : Int)) = if p + 1 < n then some (p + 1) else none := by
  rw [show (1 + (p : Int)) = ((p + 1 : Nat) : Int) by omega, ixN_nat]
@[simp] theorem ixN_0 (n : Nat) : ixN n 0 = if 0 < n then some 0 else none := ixN_nat n 0
@[simp] theorem ixN_n (n p : Nat) : ixN n (p : Int) = if p < n then some p else none := ixN_nat n p
theorem fmod_in (x : Int) {l : Int} (h : 1 ≤ l) : 0 ≤ x.fmod l ∧ x.fmod l < l := ⟨Int.fmod_nonneg_of_pos x (by omega), Int.fmod_lt_of_pos x (by omega)⟩
theorem bits_lt {i : Int} {n : Nat} (h : i.natAbs < 2 ^ n) : bits i ≤ n := Bd.le h
theorem pure__law_town (ds : List D) (μ : Mu) (Q : ZQ) (E : ZX) (h : F__law_town ds μ Q E) : zBody t__law_town 1 ds μ Q := by
  unfold F__law_town at h
  split at h
  · split at h
    · rename_i s _ ns e
      rw [toL_eq e]
      simp [t__law_town, dL]
      refine ⟨by omega, fun a ha => fin (h.2 a ha)⟩
    · exact h.elim
  · exact h.elim
theorem pure__law_draw (ds : List D) (μ : Mu) (Q : ZQ) (E : ZX) (h : F__law_draw ds μ Q E) : zBody t__law_draw 6 ds μ Q := by
  unfold F__law_draw at h
  split at h
  · split at h
    · rename_i s a l _ ns e
      rw [toL_eq e]
      obtain ⟨n, ⟨⟨c, t, h1, h2, h3⟩, h4, h5, h6, h7⟩, q⟩ := h
      have hl : l ≠ 0 := by omega
      have out : ∀ (x : Int) (ν : Mu), Town ns a (n + 1) ν → Fr a μ ν → ∃ ξ, Sub ξ ν ∧ Q (.int (x.fmod l)) ξ := fun x ν ht hf => fin (q _ _ (fmod_in x h5).1 (fmod_in x h5).2 ht hf)
      have fr : ∀ o, Fr a μ (mupd μ a o) := fun o b u hb hu => by rw [mupd_ne hb]; exact hu
      have hf : fitAll 59 (ns.map .int) = true := fitAll_ints _ _
      have B31 : Bd 31 ((c : Int) + 1) := Bd.of (m := 1000000001) (by omega) (by decide)
      have bc : bits ((c : Int) + 1) ≤ 31 := B31.le
      have bcc : bits (((c : Int) + 1) * ((c : Int) + 1)) ≤ 62 := (B31.mul B31).le
      have b7 : bits 7 = 2 := by decide
      have b10 : bits 104729 = 16 := by decide
      have b6 : bits 69621 = 16 := by decide
      have tw : ∀ t' : List Int, t'.length = ns.length → Town ns a (n + 1) (mupd μ a (.lst (.int ((c : Int) + 1) :: t'.map .int))) := fun t' ht => ⟨c + 1, t', by rw [mupd_same]; simp, by omega, ht⟩
      cases ns with
      | nil =>
        simp [t__law_draw, dL, h1, mupd_same, hl, b7]
        refine ⟨by omega, by omega, out _ _ (tw _ h3) (fr _)⟩
      | cons m ms =>
        have hlen : (1 : Int) ≤ ((m :: ms).length : Nat) := by simp; omega
        obtain ⟨p, hp⟩ : ∃ p : Nat, ((c : Int) + 1).fmod ((m :: ms).length : Nat) = (p : Nat) := ⟨_, (Int.toNat_of_nonneg (fmod_in _ hlen).1).symm⟩
        have hpl : p < (m :: ms).length := by have := (fmod_in ((c : Int) + 1) hlen).2; omega
        have hpt : p < t.length := by omega
        have e1 : t[p]? = some t[p] := List.getElem?_eq_getElem hpt
        have e2 : (m :: ms)[p]? = some (m :: ms)[p] := List.getElem?_eq_getElem hpl
        generalize (m :: ms) = ws at *
        have wne : (ws == []) = false := by cases ws with
          | nil => simp at hpl
          | cons _ _ => rfl
        have e0 : (eqAll (ws.map .int) []) = false := by cases ws with
          | nil => simp at hpl
          | cons _ _ => rfl
        have wn : ¬ (ws.length : Int) = 0 := by omega
        simp [t__law_draw, dL, h1, mupd_same, hf, e0, hp, e1, e2, wn, hpl, hpt]
        have x1 := fmod_in (ws[p] + 104729 * ((c : Int) + 1)) (l := 4294967291) (by decide)
        have y1 := fmod_in ((ws[p] + 104729 * ((c : Int) + 1)).fmod 4294967291 ^ 5) (l := 4294967279) (by decide)
        have z1 : bits ((((ws[p] + 104729 * ((c : Int) + 1)).fmod 4294967291 ^ 5).fmod 4294967279).fdiv 64) ≤ 34 := by
          refine Bd.le (fdiv_bd (m := 33) (Bd.of (m := 4294967279) ?_ (by decide)) (by decide))
          omega
        have c1 : bits 104729 + bits ((c : Int) + 1) < 1000000 := by omega
        have c2 : ((ws[p] + 104729 * ((c : Int) + 1)).fmod 4294967291).natAbs < 18446744073709551616 := by omega
        refine ⟨fun z => (by rw [z] at hpl; simp at hpl), ?_⟩
        split
        · split
          · refine ⟨.inr ⟨by omega, h6⟩, hl, out _ _ ?_ (fun b u hb hu => by rw [mupd_ne hb]; exact hu)⟩
            have := tw (t.set p (t[p].fdiv l)) (by rw [List.length_set]; exact h3)
            rw [List.map_set] at this
            exact this
          · exact ⟨c1, c2, by omega, hl, out _ _ (tw _ h3) (fr _)⟩
        · exact ⟨c1, c2, by omega, hl, out _ _ (tw _ h3) (fr _)⟩
    · exact h.elim
  · exact h.elim
theorem pure__law_pick (ds : List D) (μ : Mu) (Q : ZQ) (E : ZX) (h : F__law_pick ds μ Q E) : zBody t__law_pick 3 ds μ Q := by
  unfold F__law_pick at h
  split at h
  · split at h
    · rename_i s a d _ _ ns xs e1 e2
      rw [toL_eq e1]
      obtain ⟨n, ⟨h1, h2, h3, h4, h5⟩, q⟩ := h
      have pick : ∀ r ν, (0 : Int) ≤ r → r < (xs.length : Nat) → Town ns a (n + 1) ν → Fr a μ ν → (match atI xs r with
          | some v => ∃ ξ, Sub ξ ν ∧ Q v ξ
          | none => False) := fun r ν r0 r1 ht hf => by
        obtain ⟨p, rfl⟩ : ∃ p : Nat, r = (p : Nat) := ⟨r.toNat, (Int.toNat_of_nonneg r0).symm⟩
        have hp : p < xs.length := by omega
        rw [atI_n, List.getElem?_eq_getElem hp]
        exact fin (q _ _ (List.getElem_mem hp) ht hf)
      have bl : bits (xs.length : Int) < 9000 := Nat.lt_of_le_of_lt (Bd.le (n := 30) (Bd.of (m := 1000000) (by omega) (by decide))) (by decide)
      cases d with
      | tup ys =>
        cases e2
        simp [t__law_pick, F__law_draw]
        refine ⟨n, ⟨h1, h2, by omega, bl, h5⟩, pick⟩
      | lst ys =>
        cases e2
        simp [t__law_pick, F__law_draw]
        refine ⟨n, ⟨h1, h2, by omega, bl, h5⟩, pick⟩
      | _ => cases e2
    · exact h.elim
  · exact h.elim
theorem pure__law_det (ds : List D) (μ : Mu) (Q : ZQ) (E : ZX) (h : F__law_det ds μ Q E) : zBody t__law_det 5 ds μ Q := by
  unfold F__law_det F_determinant at h
  split at h
  · rename_i dd
    split at h
    · rename_i bb e1
      obtain ⟨⟨⟨n, ⟨h0, h3⟩, s⟩, bd⟩, h2⟩ := h
      obtain ⟨t, rfl⟩ := toM_cases e1
      obtain rfl | rfl | rfl : n = 1 ∨ n = 2 ∨ n = 3 := by omega
      · obtain ⟨a, rfl⟩ := s.one
        cases t <;> simp [t__law_det, dR, dV] <;> exact fin (by simpa [det] using h2)
      · obtain ⟨a, b, c, d, rfl⟩ := s.two
        obtain ⟨b1, b2, b3, b4⟩ := bd.two
        have := b1.lg (by decide)
        have := b2.lg (by decide)
        have := b3.lg (by decide)
        have := b4.lg (by decide)
        cases t <;> simp [t__law_det, dR, dV] <;> exact ⟨by omega, by omega, fin (by simpa [det] using h2)⟩
      · obtain ⟨a, b, c, d, e, f, g, i, j, rfl⟩ := s.three
        obtain ⟨b1, b2, b3, b4, b5, b6, b7, b8, b9⟩ := bd.three
        have k1 : bits (e * j - f * i) ≤ 400001 := ((b5.mul b9).sub (b6.mul b8)).le
        have k2 : bits (d * j - f * g) ≤ 400001 := ((b4.mul b9).sub (b6.mul b7)).le
        have k3 : bits (d * i - e * g) ≤ 400001 := ((b4.mul b8).sub (b5.mul b7)).le
        have := b1.le
        have := b2.le
        have := b3.le
        have := b4.le
        have := b5.le
        have := b6.le
        have := b7.le
        have := b8.le
        have := b9.le
        cases t <;> simp [t__law_det, dR, dV] <;>
          exact ⟨by omega, by omega, by omega, by omega, by omega, by omega, by omega, by omega, by omega, fin (by simpa [det] using h2)⟩
    · exact h.elim
  · exact h.elim
end ZL
namespace ZL
open PySem PySem.Spec PyProof.Rows L2
theorem Town.er {ns : List Int} {a p : Addr} {n : Nat} {μ : Mu} (h : Town ns a n μ) (g : a ≠ p) : Town ns a n (merase μ p) := by
  obtain ⟨c, t, h1, h2, h3⟩ := h
  exact ⟨c, t, by rw [merase_ne g]; exact h1, h2, h3⟩
theorem Town.up {ns : List Int} {a p : Addr} {n : Nat} {μ : Mu} {o : Ob} (h : Town ns a n μ) (g : a ≠ p) : Town ns a n (mupd μ p o) := by
  obtain ⟨c, t, h1, h2, h3⟩ := h
  exact ⟨c, t, by rw [mupd_ne g]; exact h1, h2, h3⟩
theorem Town.ne {ns : List Int} {a p : Addr} {n : Nat} {μ : Mu} (h : Town ns a n μ) (g : μ p = none) : p ≠ a := by
  obtain ⟨c, t, h1, h2, h3⟩ := h
  intro z
  subst z
  rw [h1] at g; cases g
theorem Fr.er {a p : Addr} {μ ν : Mu} (h : Fr a μ ν) (n : μ p = none) : Fr a μ (merase ν p) := fun b o e g => by
  unfold merase
  rw [if_neg (fun z => by subst z; rw [n] at g; cases g)]
  exact h b o e g
theorem Fr.up {a p : Addr} {μ ν : Mu} {o : Ob} (h : Fr a μ ν) (n : μ p = none) : Fr a μ (mupd ν p o) := fun b u e g => by
  rw [mupd_ne (fun z => by subst z; rw [n] at g; cases g)]
  exact h b u e g
theorem Fr.none {a p : Addr} {μ ν : Mu} (h : Fr a μ ν) (n : ν p = none) (g : p ≠ a) : μ p = none := by
  cases e : μ p with
  | none => rfl
  | some o => rw [h p o g e] at n; cases n
def fixR (i : Nat) (r : List Int) : List Int := List.replicate i 0 ++ (if r[i]?.getD 0 = 0 then 1 else r[i]?.getD 0) :: r.drop (i + 1)
theorem enumD_at {b : List (List Int)} {i : Nat} {d : D} (h : (enumD 0 (b.map dV))[i]? = some d) : ∃ r, b[i]? = some r ∧ d = .tup [.int (i : Nat), dV r] := by
  have hl : i < (enumD 0 (b.map dV)).length := (List.getElem?_eq_some_iff.mp h).1
  rw [enumD_len, List.length_map] at hl
  have := enumD_get (k := 0) (i := i) (d := dV b[i]) (ds := b.map dV) (by rw [List.getElem?_map, List.getElem?_eq_getElem hl]; rfl)
  rw [this] at h
  cases h
  exact ⟨b[i], List.getElem?_eq_getElem hl, by simp⟩
theorem flat_zero (n : Nat) : (List.replicate n [D.int 0]).flatten = (List.replicate n (0 : Int)).map .int := by
  induction n with
  | zero => rfl
  | succ n ih => rw [List.replicate_succ, List.flatten_cons, ih]; rfl
theorem fix_det {b : List (List Int)} (h : SqN b) : det (b.mapIdx fixR) ≠ 0 := by
  obtain ⟨n, ⟨h0, h3⟩, s⟩ := h
  obtain rfl | rfl | rfl : n = 1 ∨ n = 2 ∨ n = 3 := by omega
  · obtain ⟨a, rfl⟩ := s.one
    simp [fixR, det]
    split <;> omega
  · obtain ⟨a, b, c, d, rfl⟩ := s.two
    simp [fixR, det]
    constructor <;> split <;> omega
  · obtain ⟨a, b, c, d, e, f, g, i, j, rfl⟩ := s.three
    simp [fixR, det]
    refine ⟨?_, ?_, ?_⟩ <;> split <;> omega
theorem pure__law_basis_in (ds : List D) (μ : Mu) (Q : ZQ) (E : ZX) (h : F__law_basis_in ds μ Q E) : zBody t__law_basis_in 9 ds μ Q := by
  unfold F__law_basis_in at h
  split at h
  · split at h
    · rename_i s a n m _ ns e
      rw [toL_eq e]
      obtain ⟨k, ⟨tw, h1, h2, h3, h4, h5, h6⟩, q⟩ := h
      obtain ⟨w, rfl⟩ : ∃ w : Nat, n = (w : Nat) := ⟨n.toNat, (Int.toNat_of_nonneg (by omega)).symm⟩
      have w1 : 1 ≤ w := by omega
      have w3 : w ≤ 3 := by omega
      have b2 : bits m ≤ 31 := Bd.le (Bd.of (m := 1000000000) (by omega) (by decide))
      have b3 : bits (2 * m + 1) < 9000 := Nat.lt_of_le_of_lt (Bd.le (n := 33) (Bd.of (m := 2000000001) (by omega) (by decide))) (by decide)
      simp [t__law_basis_in]
      refine fun p hp => ⟨by omega, ?_⟩
      have pa := tw.ne hp
      refine for_inv0 (fun i ρ' ν => ∃ x5 b, ρ' = [some (dL ns), some (.obj a), some (.int w), some (.int m), some (.obj p), x5, none, none, none] ∧ ν p = some (.lst (b.map dV)) ∧ b.length = i ∧ (∀ r ∈ b, r.length = w ∧ ∀ e ∈ r, -m ≤ e ∧ e ≤ m) ∧ Town ns a (k + i * w) ν ∧ Fr a μ ν) ⟨none, [], rfl, by simp [mupd_same], rfl, by simp, (tw.mono (by omega)).up (Ne.symm pa), (Fr.refl a μ).up hp⟩ ?_ ?_
      · rintro i d ρ' ν hi ⟨x5, b, rfl, m1, m2, m3, m4, m5⟩
        obtain ⟨h7, rfl⟩ := rangeD_get hi
        have hiw : i * w ≤ 2 * 3 := Nat.mul_le_mul (by omega) w3
        refine ⟨_, rfl, fun Z' h8 _ _ _ => ?_⟩
        simp [m1]
        refine ⟨by omega, ?_⟩
        refine lc_inv (fun acc ν => ∃ v : List Int, acc = v.map .int ∧ (∀ e ∈ v, -m ≤ e ∧ e ≤ m) ∧ ν p = some (.lst (b.map dV)) ∧ Town ns a (k + i * w + v.length) ν ∧ Fr a μ ν) _ _ ⟨[], rfl, by simp, m1, m4, m5⟩ (fun d hd => ⟨_, rfl, ?_⟩) ?_
        · rintro acc ν Q hl ⟨v, rfl, v1, v2, v3, v4⟩ hQ
          simp [rangeD_len] at hl
          simp [F__law_draw]
          refine ⟨by omega, k + i * w + v.length, ⟨v3, by omega, by omega, b3, h6⟩, fun r ξ r0 r1 ht hf => ?_⟩
          refine hQ _ _ ⟨v ++ [r - m], by simp, ?_, ?_, ?_, v4.trans hf⟩
          · intro e he
            rcases List.mem_append.mp he with z | z
            · exact v1 e z
            · have : e = r - m := by simpa using z
              omega
          · exact hf p _ pa v2
          · rw [List.length_append]; exact ht.mono (by simp; omega)
        · rintro acc ν hl ⟨v, rfl, v1, v2, v3, v4⟩
          simp [rangeD_len] at hl
          simp [v2]
          refine ⟨by omega, h8 _ _ ⟨_, b ++ [v], rfl, by rw [mupd_same]; simp [dV], by simp [m2], ?_, ?_, v4.up hp⟩⟩
          · intro r hr
            rcases List.mem_append.mp hr with z | z
            · exact m3 r z
            · have : r = v := by simpa using z
              subst this
              exact ⟨hl, v1⟩
          · refine (v3.mono ?_).up (Ne.symm pa)
            rw [hl, Nat.add_mul, Nat.one_mul]
            omega
      · rintro ρ' ν ⟨x5, b, rfl, m1, m2, m3, m4, m5⟩
        rw [rangeD_len] at m2 m4
        have hww : w * w ≤ 3 * 3 := Nat.mul_le_mul w3 w3
        have sq : SqN b := ⟨w, ⟨w1, w3⟩, m2, fun r hr => (m3 r hr).1⟩
        have bd : BdM 200000 b := fun r hr e he => (Bd.of (n := 31) (m := 1000000000) (by have := (m3 r hr).2 e he; omega) (by decide)).mono (by decide)
        have m6 : Town ns a (k + 9) (merase ν p) := (m4.mono (by omega)).er (Ne.symm pa)
        have m7 : Fr a μ (merase ν p) := m5.er hp
        simp [m1, F__law_det, F_determinant]
        refine ⟨⟨sq, bd⟩, ?_⟩
        cases hd : det b == 0 with
        | false =>
          simp [hd]
          exact fin (q b _ (by omega) ⟨sq, fun r hr => (m3 r hr).2, by simpa using hd⟩ m6 m7)
        | true =>
          simp [hd]
          intro p2 hp2
          have pa2 : p2 ≠ a := m6.ne hp2
          have hpp := m7.none hp2 pa2
          refine for_inv0 (fun i ρ' ξ => ∃ x5 x7, ρ' = [some (dL ns), some (.obj a), some (.int w), some (.int m), some (.lst (b.map dV)), x5, some (.obj p2), x7, none] ∧ ξ p2 = some (.lst (((b.mapIdx fixR).take i).map dV)) ∧ Town ns a (k + 9) ξ ∧ Fr a μ ξ) ⟨_, _, rfl, by simp [mupd_same], m6.up (Ne.symm pa2), m7.up hpp⟩ ?_ ?_
          · rintro i d ρ' ξ hi ⟨x5, x7, rfl, n1, n2, n3⟩
            obtain ⟨r, hr, rfl⟩ := enumD_at hi
            have hib : i < b.length := (List.getElem?_eq_some_iff.mp hr).1
            have hrl := (m3 r (List.mem_of_getElem? hr)).1
            have hir : r[i]? = some r[i] := List.getElem?_eq_getElem (by omega)
            refine ⟨_, rfl, fun Z' h8 _ _ _ => ?_⟩
            have next : ∀ x7, Z'.nx [some (dL ns), some (.obj a), some (.int w), some (.int m), some (.lst (b.map dV)), some (.int (i : Nat)), some (.obj p2), x7, none] (mupd ξ p2 (.lst (((b.mapIdx fixR).take i).map dV ++ [dV (fixR i r)]))) := fun x7 => by
              refine h8 _ _ ⟨_, _, rfl, ?_, n2.up (Ne.symm pa2), n3.up hpp⟩
              rw [mupd_same, List.take_succ, List.getElem?_mapIdx, hr]
              simp
            have e9 : dV (fixR i r) = .tup ((List.replicate i [D.int 0]).flatten ++ ((if r[i] = 0 then D.int 1 else .int r[i]) :: (r.map .int).drop (i + 1))) := by
              unfold dV fixR
              rw [flat_zero, hir]
              simp
              split <;> simp [*]
            have hi2 : i < 3 := by omega
            simp [n1, hir]
            refine ⟨by omega, ?_⟩
            rw [e9] at next
            cases hz : r[i] == 0 with
            | true =>
              have hz2 : r[i] = 0 := by simpa using hz
              simp [n1] 
              simp [hz2] at next
              refine ⟨by omega, by omega, by omega, next _⟩
            | false =>
              have hz2 : ¬ r[i] = 0 := by simpa using hz
              simp [n1]
              simp [hz2] at next
              refine ⟨by omega, by omega, by omega, next _⟩
          · rintro ρ' ξ ⟨x5, x7, rfl, n1, n2, n3⟩
            rw [enumD_len, List.length_map] at n1
            rw [List.take_of_length_le (by simp)] at n1
            simp [n1]
            refine fin (q (b.mapIdx fixR) _ (by simp; omega) ⟨?_, ?_, fix_det sq⟩ (n2.er (Ne.symm pa2)) (n3.er hpp))
            · refine ⟨w, ⟨w1, w3⟩, by simp [m2], fun r hr => ?_⟩
              obtain ⟨i, hi, rfl⟩ := List.mem_mapIdx.mp hr
              have := (m3 b[i] (List.getElem_mem hi)).1
              simp [fixR]
              omega
            · intro r hr e he
              obtain ⟨i, hi, rfl⟩ := List.mem_mapIdx.mp hr
              have h7 := m3 b[i] (List.getElem_mem hi)
              have h8 : i < b[i].length := by omega
              unfold fixR at he
              rw [List.getElem?_eq_getElem h8] at he
              rcases List.mem_append.mp he with z | z
              · have := (List.mem_replicate.mp z).2
                omega
              · rcases List.mem_cons.mp z with z | z
                · have h9 := h7.2 _ (List.getElem_mem h8)
                  simp at z
                  split at z <;> omega
                · exact h7.2 e (List.mem_of_mem_drop z)
    · exact h.elim
  · exact h.elim
end ZL
namespace ZL
open PySem PySem.Spec PyProof.Rows L2
theorem pure__law_basis (ds : List D) (μ : Mu) (Q : ZQ) (E : ZX) (h : F__law_basis ds μ Q E) : zBody t__law_basis 3 ds μ Q := by
  unfold F__law_basis at h
  split at h
  · split at h
    · rename_i s a m _ ns e
      rw [toL_eq e]
      obtain ⟨k, ⟨tw, h1, h2, h3, h4⟩, q⟩ := h
      simp [t__law_basis, F__law_draw, F__law_basis_in]
      refine ⟨k, ⟨tw, by omega, by decide, h4⟩, fun r ν r0 r1 ht hf => ⟨k + 1, ⟨ht, by omega, by omega, by omega, h2, h3, h4⟩, fun b ξ hl hb ht2 hf2 => fin (q b ξ hb ht2 (hf.trans hf2))⟩⟩
    · exact h.elim
  · exact h.elim
theorem pIx_toV {d : D} {f : List Int} (h : toV d = some f) (i : Int) (μ : Mu) (Q : ZQ) : pIx d (.int i) μ Q = (match atI (f.map .int) i with
    | some v => Q v μ
    | none => False) := by
  cases d with
  | tup xs => rw [toInts_eq (show toInts xs = some f from h)]; rfl
  | lst xs => rw [toInts_eq (show toInts xs = some f from h)]; rfl
  | _ => cases h
theorem getD_some {α : Type} {xs : List α} {i : Nat} {d : α} (h : i < xs.length) : xs[i]?.getD d = xs[i] := by rw [List.getElem?_eq_getElem h]; rfl
theorem pure__law_mix (ds : List D) (μ : Mu) (Q : ZQ) (E : ZX) (h : F__law_mix ds μ Q E) : zBody t__law_mix 4 ds μ Q := by
  unfold F__law_mix at h
  split at h
  · split at h
    · rename_i d e _ _ f b e1 e2
      obtain ⟨t, rfl⟩ := toM_cases e2
      obtain ⟨⟨hl, sq, bf, bb⟩, q⟩ := h
      have len := sq.len
      have s := sq.sq
      obtain ⟨r0, hr0⟩ : ∃ r0, b[0]? = some r0 := ⟨b[0], List.getElem?_eq_getElem (by omega)⟩
      have hd : b.headD [] = r0 := by cases b with
        | nil => simp at hr0
        | cons x y => simp at hr0; simp [hr0]
      have hr0l : r0.length = b.length := s.all r0 (List.mem_of_getElem? hr0)
      simp [t__law_mix, hr0, hr0l]
      refine ⟨by omega, ?_⟩
      refine lc_rng (fun j => .int (((List.range b.length).map fun k => (f[k]?.getD 0) * ((b[k]?.getD [])[j]?.getD 0)).sum)) (fun j hj Q q => ?_) ?_
      · simp
        refine ⟨by omega, ?_⟩
        refine lc_rng (fun k => .int ((f[k]?.getD 0) * ((b[k]?.getD [])[j]?.getD 0))) (fun k hk Q q => ?_) ?_
        · have hkl := s.all b[k] (List.getElem_mem hk)
          have hkf : k < f.length := by omega
          have hjl : j < b[k].length := by omega
          have b1 := (bf f[k] (List.getElem_mem hkf)).lg (by decide)
          have b2 := (bb b[k] (List.getElem_mem hk) b[k][j] (List.getElem_mem hjl)).lg (by decide)
          rw [getD_some hkf, getD_some hk, getD_some hjl] at q
          simp [pIx_toV e1, hk, hkf, hjl]
          exact ⟨by omega, q⟩
        · rw [show (List.range b.length).map (fun k => D.int ((f[k]?.getD 0) * ((b[k]?.getD [])[j]?.getD 0))) = ((List.range b.length).map (fun k => (f[k]?.getD 0) * ((b[k]?.getD [])[j]?.getD 0))).map .int by simp [List.map_map, Function.comp_def], toInts_map]
          exact q
      · refine fin ?_
        unfold mixV at q
        rw [hd, hr0l] at q
        simpa [dV, List.map_map, Function.comp_def] using q
    · exact h.elim
  · exact h.elim
theorem set_split {α : Type} (b : List α) (v : α) (p : Nat) (h : p < b.length) : b.take p ++ [v] ++ b.drop (p + 1) = b.set p v := by
  rw [List.set_eq_take_append_cons_drop, if_pos h]
  simp
theorem pure__law_has (ds : List D) (μ : Mu) (Q : ZQ) (E : ZX) (h : F__law_has ds μ Q E) : zBody t__law_has 5 ds μ Q := by
  unfold F__law_has at h
  split at h
  · split at h
    · split at h
      · rename_i xs e _ b ys e1 _ v e2
        obtain ⟨⟨⟨sq, bb, hl, bv⟩, hn⟩, q⟩ := h
        have e3 : D.tup xs = dR true b := by
          obtain ⟨t, e⟩ := toM_cases (d := .tup xs) (b := b) e1
          cases t with
          | true => exact e
          | false => cases e
        rw [e3]
        rw [toInts_eq e2]
        have len := sq.len
        simp [t__law_has, F__law_det, F_determinant]
        refine ⟨⟨sq, bb⟩, by omega, ?_⟩
        have loop : ∀ (m i : Nat) (x3 x4 : Option D), i + m = b.length → (Q (.bl (((List.range b.length).drop i).all fun p => (det (b.set p v)).fmod (det b) == 0)) μ) → zForG (.one 3) (zSeq (zAsg (zOp (pAdd false) (zCB (pList false) (zCons (zSl false (zVar 0) zNoPart (zPart (zVar 3))) zNil)) (zLst false (zCons (zVar 1) zNil))) (.one 4))
            (zIfS (zTest (zOp pNe (zOp pMod (zCall F__law_det noX (zCons (zOp (pAdd false) (zVar 4) (zCB (pList false) (zCons (zSl false (zVar 0) (zPart (zOp (pAdd false) (zVar 3) (zC (.int 1)))) zNoPart) zNil))) zNil)) (zVar 2)) (zC (.int 0)))) (zRet (zC (.bl false))) zNext))
            ⟨fun ρ μ => zRet (zC (.bl true)) ⟨fun _ μ' => ∃ ν, Sub ν μ' ∧ Q .non ν, fun d μ' => ∃ ν, Sub ν μ' ∧ Q d ν, fun _ _ => False, fun _ _ => False⟩ ρ μ, fun d μ' => ∃ ν, Sub ν μ' ∧ Q d ν, fun _ _ => False, fun _ _ => False⟩ ((rangeD 0 b.length).drop i) [some (dR true b), some (dV v), some (.int (det b)), x3, x4] μ := by
          intro m
          induction m with
          | zero =>
            intro i x3 x4 hi q
            have : i = b.length := by omega
            subst this
            rw [List.drop_of_length_le (by simp [rangeD_len])]
            rw [List.drop_of_length_le (by simp)] at q
            simp at q ⊢
            exact fin q
          | succ m ih =>
            intro i x3 x4 hi q
            have hib : i < b.length := by omega
            have e5 : (rangeD 0 b.length).drop i = .int (i : Nat) :: (rangeD 0 b.length).drop (i + 1) := by
              rw [List.drop_eq_getElem_cons (by rw [rangeD_len]; exact hib)]
              simp [rangeD]
            have e6 : (List.range b.length).drop i = i :: (List.range b.length).drop (i + 1) := by
              rw [List.drop_eq_getElem_cons (by simpa using hib)]
              simp
            have e7 : (List.take i (b.map dV) ++ dV v :: List.drop (i + 1) (b.map dV)) = (b.set i v).map dV := by
              rw [← set_split b v i hib]; simp
            rw [e5]
            rw [e6, List.all_cons] at q
            unfold zForG
            simp [F__law_det, F_determinant]
            have e8 : toVs (List.take i (b.map dV) ++ dV v :: List.drop (i + 1) (b.map dV)) = some (b.set i v) := by
              rw [← set_split b v i hib, ← toVs_map (b.take i ++ [v] ++ b.drop (i + 1))]; simp
            rw [e8]
            refine ⟨by omega, by omega, ⟨⟨b.length, len, sq.sq.set hl⟩, bb.set bv⟩, hn, ?_⟩
            cases hc : (det (b.set i v)).fmod (det b) == 0 with
            | true =>
              rw [hc, Bool.true_and] at q
              exact ih (i + 1) _ _ (by omega) q
            | false =>
              rw [hc, Bool.false_and] at q
              exact fin q
        exact loop b.length 0 none none (by omega) q
      · exact h.elim
    · exact h.elim
  · exact h.elim
end ZL
namespace ZL
open PySem PySem.Spec PyProof.Rows L2
namespace K03
def F__law_is_whole : ZF := fun ds μ Q E => match ds with
  | [.tup xs, .tup ys] => (match toFr xs, toInts ys with
    | some ps, some v => (FrOk ps ∧ BdV 2000 v ∧ ps.length = v.length) ∧ Q (.bl (whP ps v)) μ
    | _, _ => False)
  | _ => False
def F__law_is_lowest : ZF := fun ds μ Q E => match ds with
  | [.tup [.int a, .int b]] => Q (.bl (decide (0 < b) && Int.gcd a b == 1)) μ
  | _ => False
def F__law_is_test : ZF := fun ds μ Q E => match ds with
  | [d, .tup ys, .tup xs] => (match toM d, toInts ys, toFr xs with
    | some b, some v, some ps => (FrOk ps ∧ SqN b ∧ BdM 2000 b ∧ BdV 2000 v ∧ ps.length = v.length ∧ v.length = b.length) ∧ Q (.bl (isTest b v (.tup xs))) μ
    | _, _, _ => False)
  | _ => False
def F__law_others_are_rejected : ZF := fun ds μ Q E => match ds with
  | [] => Q (.bl true) μ
  | _ => False
def F_law : ZF := fun ds μ Q E => match ds with
  | [s] => (match toL s with
    | some ns => ns.length ≤ 1000 ∧ ∀ ν, Q (.bl true) ν
    | none => False)
  | _ => False
end K03
end ZL
namespace ZL
open PySem PySem.Spec PyProof.Rows L2

namespace K03
def t__law_is_whole : ZS :=
  (zSeq (zAsg (zTup (zCons (zC (.int 0)) (zCons (zC (.int 1)) zNil))) (.many [2, 3]))
    (zSeq (zFor (zRng1 (zCons (zCB pLen (zCons (zVar 1) zNil)) zNil)) (.one 4) (zSeq (zAsg (zOp (pAdd false) (zOp pMul (zVar 2) (zOp pIx (zOp pIx (zVar 0) (zVar 4)) (zC (.int 1)))) (zOp pMul (zOp pMul (zOp pIx (zOp pIx (zVar 0) (zVar 4)) (zC (.int 0))) (zOp pIx (zVar 1) (zVar 4))) (zVar 3))) (.one 2))
    (zAsg (zOp pMul (zVar 3) (zOp pIx (zOp pIx (zVar 0) (zVar 4)) (zC (.int 1)))) (.one 3))))
    (zRet (zOp pEq (zOp pMod (zVar 2) (zVar 3)) (zC (.int 0))))))
def t__law_is_lowest : ZS :=
  (zSeq (zPar 1 2 (zCons (zCB pAbs (zCons (zOp pIx (zVar 0) (zC (.int 0))) zNil)) (zCons (zOp pIx (zVar 0) (zC (.int 1))) zNil)))
    (zSeq (zIfS (zTest (zOp pLt (zVar 2) (zC (.int 1)))) (zRet (zC (.bl false))) zNext)
    (zSeq (zWhile (zTest (zOp pGt (zVar 2) (zC (.int 0)))) (zPar 1 2 (zCons (zVar 2) (zCons (zOp pMod (zVar 1) (zVar 2)) zNil))))
    (zRet (zOp pEq (zVar 1) (zC (.int 1)))))))
def t__law_is_test : ZS :=
  (zSeq (zIfS (zTest (zOp pNe (zLc false (zIt (zVar 2)) (.one 3) (zNot (zTest (zCall F__law_is_lowest noX (zCons (zVar 3) zNil)))) (zVar 3) [3]) (zLst false zNil))) (zRet (zC (.bl false))) zNext)
    (zRet (zAndV (zOp pEq (zLc false (zIt (zVar 0)) (.one 4) (zNot (zTest (zCall F__law_is_whole noX (zCons (zVar 2) (zCons (zVar 4) zNil))))) (zVar 4) [4]) (zLst false zNil)) (zNotV (zCall F__law_is_whole noX (zCons (zVar 2) (zCons (zVar 1) zNil)))))))
def t__law_others_are_rejected (E : ZX) : ZS :=
  (zSeq (zAsg (zTup (zCons (zTup (zCons (zTup (zCons (zC (.int 2)) (zCons (zC (.int 0)) zNil))) (zCons (zTup (zCons (zC (.int 0)) (zCons (zC (.int 2)) zNil))) zNil))) (zCons (zTup (zCons (zTup (zCons (zC (.int 1)) (zCons (zC (.int 2)) zNil))) (zCons (zTup (zCons (zC (.int 0)) (zCons (zC (.int 1)) zNil))) zNil))) zNil))) (.many [0, 1]))
    (zSeq (zAsg (zLst true (zCons (zC .non) (zCons (zC (.int 5)) (zCons (zTup zNil) (zCons (zTup (zCons (zTup (zCons (zC (.int 1)) (zCons (zC (.int 2)) zNil))) zNil)) (zCons (zLst false (zCons (zTup (zCons (zC (.int 1)) (zCons (zC (.int 2)) zNil))) (zCons (zTup (zCons (zC (.int 0)) (zCons (zC (.int 1)) zNil))) zNil))) (zCons (zTup (zCons (zTup (zCons (zC (.int 1)) (zCons (zC (.int 2)) zNil))) (zCons (zC (.int 0)) zNil))) (zCons (zTup (zCons (zTup (zCons (zC (.int 1)) (zCons (zC (.int 2)) zNil))) (zCons (zLst false (zCons (zC (.int 0)) (zCons (zC (.int 1)) zNil))) zNil))) (zCons (zTup (zCons (zTup (zCons (zC (.int 1)) (zCons (zC (.int 2)) zNil))) (zCons (zTup (zCons (zC (.int 0)) (zCons (zC (.int 2)) zNil))) zNil))) zNil))))))))) (.one 2))
    (zSeq (zDrop (zApp (zVar 2) (zTup (zCons (zTup (zCons (zC (.int 1)) (zCons (zC (.int 2)) zNil))) (zCons (zTup (zCons (zC (.int 0)) (zCons (zC (.int 1)) zNil))) (zCons (zTup (zCons (zC (.int 0)) (zCons (zC (.int 1)) zNil))) zNil))))))
    (zSeq (zAsg (zOp (pAdd true) (zVar 2) (zLst false (zCons (zTup (zCons (zTup (zCons (zUn pNeg (zC (.int 1))) (zCons (zUn pNeg (zC (.int 2))) zNil))) (zCons (zTup (zCons (zC (.int 0)) (zCons (zC (.int 1)) zNil))) zNil))) (zCons (zTup (zCons (zTup (zCons (zC (.int 1)) (zCons (zC (.int 2)) zNil))) (zCons (zTup (zCons (zC (.int 0)) (zCons (zC (.bl true)) zNil))) zNil))) (zCons (zTup (zCons (zTup (zCons (zC (.bl true)) (zCons (zC (.int 2)) zNil))) (zCons (zTup (zCons (zC (.int 0)) (zCons (zC (.int 1)) zNil))) zNil))) (zCons (zTup (zCons (zTup (zCons (zC (.int 1)) (zCons (zC (.int 3)) zNil))) (zCons (zTup (zCons (zC (.int 0)) (zCons (zC (.int 1)) zNil))) zNil))) (zCons (zC (.str "ab")) zNil))))))) (.one 2))
    (zSeq (zDrop (zApp (zVar 2) (zTup (zCons (zTup (zCons (zC (.int 1)) (zCons (zC (.int 0)) zNil))) (zCons (zTup (zCons (zC (.int 0)) (zCons (zC (.int 1)) zNil))) zNil)))))
    (zFrz 2 (zSeq (zIfS (zTest (zOp (pIsB true) (zCall F_is_test_vector E (zCons (zVar 0) (zCons (zTup (zCons (zC (.int 1)) (zCons (zC (.int 0)) zNil))) (zCons (zVar 1) zNil)))) (zC (.bl true)))) (zRet (zC (.bl false))) zNext)
    (zRet (zOp pEq (zLc false (zIt (zVar 2)) (.one 3) (zTest (zOp (pIsB true) (zCall F_is_test_vector noX (zCons (zVar 0) (zCons (zTup (zCons (zC (.int 1)) (zCons (zC (.int 0)) zNil))) (zCons (zVar 3) zNil)))) (zC (.bl false)))) (zVar 3) [3]) (zLst false zNil))))))))))
def t_law_1 (E : ZX) : ZS :=
  (zAsg (zCall F__law_town noX (zCons (zVar 0) zNil)) (.one 1))
def t_law_2 (E : ZX) : ZS :=
  (zAsg (zCall F__law_basis noX (zCons (zVar 0) (zCons (zVar 1) (zCons (zCall F__law_pick noX (zCons (zVar 0) (zCons (zVar 1) (zCons (zLst false (zCons (zC (.int 2)) (zCons (zC (.int 5)) (zCons (zC (.int 20)) zNil)))) zNil)))) zNil)))) (.one 2))
def t_law_3 (E : ZX) : ZS :=
  (zAsg (zCB pLen (zCons (zVar 2) zNil)) (.one 3))
def t_law_4 (E : ZX) : ZS :=
  (zAsg (zCB pTuple (zCons (zLc false (zRng1 (zCons (zVar 3) zNil)) (.one 11) zYes (zOp pSub (zCall F__law_draw noX (zCons (zVar 0) (zCons (zVar 1) (zCons (zC (.int 11)) zNil)))) (zC (.int 5))) [11]) zNil)) (.one 4))
def t_law_5 (E : ZX) : ZS :=
  (zAsg (zCall F__law_mix noX (zCons (zVar 4) (zCons (zVar 2) zNil))) (.one 5))
def t_law_6_t_1 (E : ZX) : ZS :=
  (zRet (zC (.bl false)))
def t_law_6 (E : ZX) : ZS :=
  (zIfS (zOr (zTest (zOp pNe (zCall F_coefficients E (zCons (zVar 2) (zCons (zVar 5) zNil))) (zVar 4))) (zTest (zOp pIsNotN (zCall F_test_vector E (zCons (zVar 2) (zCons (zVar 5) zNil))) (zC .non)))) (t_law_6_t_1 E) zNext)
def t_law_7 (E : ZX) : ZS :=
  (zAsg (zCB pTuple (zCons (zLc false (zIt (zVar 5)) (.one 16) zYes (zOp pSub (zOp (pAdd false) (zVar 16) (zCall F__law_draw noX (zCons (zVar 0) (zCons (zVar 1) (zCons (zC (.int 3)) zNil))))) (zC (.int 1))) [16]) zNil)) (.one 6))
def t_law_8_1 (E : ZX) : ZS :=
  (zAsg (zTup (zCons (zCall F_coefficients E (zCons (zVar 2) (zCons (zVar 7) zNil))) (zCons (zCall F_test_vector E (zCons (zVar 2) (zCons (zVar 7) zNil))) zNil))) (.many [8, 9]))
def t_law_8_2_t_1 (E : ZX) : ZS :=
  (zRet (zC (.bl false)))
def t_law_8_2 (E : ZX) : ZS :=
  (zIfS (zOr (zTest (zOp pNe (zOp pIsNotN (zVar 8) (zC .non)) (zCall F__law_has noX (zCons (zVar 2) (zCons (zVar 7) zNil))))) (zTest (zOp pNe (zOp pIsN (zVar 9) (zC .non)) (zOp pIsNotN (zVar 8) (zC .non))))) (t_law_8_2_t_1 E) zNext)
def t_law_8_3_t_1 (E : ZX) : ZS :=
  (zRet (zC (.bl false)))
def t_law_8_3 (E : ZX) : ZS :=
  (zIfS (zAnd (zTest (zOp pIsNotN (zVar 8) (zC .non))) (zTest (zOp pNe (zCall F__law_mix noX (zCons (zVar 8) (zCons (zVar 2) zNil))) (zVar 7)))) (t_law_8_3_t_1 E) zNext)
def t_law_8_4_t_1_t_1 (E : ZX) : ZS :=
  (zRet (zC (.bl false)))
def t_law_8_4_t_1 (E : ZX) : ZS :=
  (zIfS (zOr (zTest (zOp pNe (zLc false (zIt (zVar 2)) (.one 17) (zNot (zTest (zCall F__law_is_whole noX (zCons (zVar 9) (zCons (zVar 17) zNil))))) (zVar 17) [17]) (zLst false zNil))) (zTest (zCall F__law_is_whole noX (zCons (zVar 9) (zCons (zVar 7) zNil))))) (t_law_8_4_t_1_t_1 E) zNext)
def t_law_8_4_t_2_t_1 (E : ZX) : ZS :=
  (zRet (zC (.bl false)))
def t_law_8_4_t_2 (E : ZX) : ZS :=
  (zIfS (zOr (zTest (zOp pNe (zLc false (zIt (zVar 9)) (.one 18) (zNot (zTest (zCall F__law_is_lowest noX (zCons (zVar 18) zNil)))) (zVar 18) [18]) (zLst false zNil))) (zTest (zOp pNe (zCB pLen (zCons (zVar 9) zNil)) (zVar 3)))) (t_law_8_4_t_2_t_1 E) zNext)
def t_law_8_4 (E : ZX) : ZS :=
  (zIfS (zTest (zOp pIsNotN (zVar 9) (zC .non))) (zSeq (t_law_8_4_t_1 E)
    (t_law_8_4_t_2 E)) zNext)
def t_law_8_5 (E : ZX) : ZS :=
  (zAsg (zIf (zTest (zOp pIsNotN (zVar 9) (zC .non))) (zVar 9) (zCB pTuple (zCons (zOp (pRep false) (zLst true (zCons (zTup (zCons (zC (.int 1)) (zCons (zC (.int 1)) zNil))) zNil)) (zVar 3)) zNil))) (.one 10))
def t_law_8_6_1_t_1 (E : ZX) : ZS :=
  (zRet (zC (.bl false)))
def t_law_8_6_1 (E : ZX) : ZS :=
  (zIfS (zTest (zOp pNe (zCall F_is_test_vector E (zCons (zVar 2) (zCons (zVar 7) (zCons (zVar 10) zNil)))) (zCall F__law_is_test noX (zCons (zVar 2) (zCons (zVar 7) (zCons (zVar 10) zNil)))))) (t_law_8_6_1_t_1 E) zNext)
def t_law_8_6_2 (E : ZX) : ZS :=
  (zAsg (zCall F__law_draw noX (zCons (zVar 0) (zCons (zVar 1) (zCons (zVar 3) zNil)))) (.one 12))
def t_law_8_6_3 (E : ZX) : ZS :=
  (zAsg (zOp pIx (zVar 10) (zVar 12)) (.many [13, 14]))
def t_law_8_6_4 (E : ZX) : ZS :=
  (zAsg (zLst false (zCons (zTup (zCons (zOp (pAdd false) (zVar 13) (zVar 14)) (zCons (zVar 14) zNil))) (zCons (zTup (zCons (zOp (pAdd false) (zVar 13) (zC (.int 1))) (zCons (zVar 14) zNil))) (zCons (zTup (zCons (zOp pMul (zC (.int 2)) (zVar 13)) (zCons (zOp pMul (zC (.int 2)) (zVar 14)) zNil))) (zCons (zTup (zCons (zVar 13) (zCons (zC (.int 1)) zNil))) zNil))))) (.one 15))
def t_law_8_6_5 (E : ZX) : ZS :=
  (zAsg (zOp (pAdd false) (zOp (pAdd false) (zSl false (zVar 10) zNoPart (zPart (zVar 12))) (zTup (zCons (zCall F__law_pick noX (zCons (zVar 0) (zCons (zVar 1) (zCons (zVar 15) zNil)))) zNil))) (zSl false (zVar 10) (zPart (zOp (pAdd false) (zVar 12) (zC (.int 1)))) zNoPart)) (.one 10))
def t_law_8_6 (E : ZX) : ZS :=
  (zFor (zRng1 (zCons (zC (.int 4)) zNil)) (.one 11) (zSeq (t_law_8_6_1 E)
    (zSeq (t_law_8_6_2 E)
    (zSeq (t_law_8_6_3 E)
    (zSeq (t_law_8_6_4 E)
    (t_law_8_6_5 E))))))
def t_law_8 (E : ZX) : ZS :=
  (zFor (zIt (zTup (zCons (zVar 5) (zCons (zVar 6) (zCons (zCB pTuple (zCons (zLc false (zRng1 (zCons (zVar 3) zNil)) (.one 11) zYes (zOp pSub (zCall F__law_draw noX (zCons (zVar 0) (zCons (zVar 1) (zCons (zC (.int 41)) zNil)))) (zC (.int 20))) [11]) zNil)) zNil))))) (.one 7) (zSeq (t_law_8_1 E)
    (zSeq (t_law_8_2 E)
    (zSeq (t_law_8_3 E)
    (zSeq (t_law_8_4 E)
    (zSeq (t_law_8_5 E)
    (t_law_8_6 E)))))))
def t_law_9 (E : ZX) : ZS :=
  (zRet (zCall F__law_others_are_rejected E zNil))
def t_law (E : ZX) : ZS :=
  (zSeq (t_law_1 E)
    (zSeq (t_law_2 E)
    (zSeq (t_law_3 E)
    (zSeq (t_law_4 E)
    (zSeq (t_law_5 E)
    (zSeq (t_law_6 E)
    (zSeq (t_law_7 E)
    (zSeq (t_law_8 E)
    (t_law_9 E)))))))))
end K03
end ZL
namespace ZL
open PySem PySem.Spec PyProof.Rows L2
namespace K03
theorem fdiv_mul (a : Int) {b : Int} (h : 0 < b) : (b * a).fdiv b = a := by
  rw [Int.fdiv_eq_ediv_of_nonneg _ (by omega), Int.mul_ediv_cancel_left _ (by omega)]
theorem pure__law_is_whole (ds : List D) (μ : Mu) (Q : ZQ) (E : ZX) (h : F__law_is_whole ds μ Q E) : zBody t__law_is_whole 5 ds μ Q := by
  unfold F__law_is_whole at h
  split at h
  · split at h
    · rename_i xs ys _ _ ps v e1 e2
      obtain ⟨⟨⟨l3, ok⟩, bv, hl⟩, q⟩ := h
      rw [toFr_eq e1, toInts_eq e2]
      match ps, v, hl, l3 with
      | [], [], _, _ =>
        simp [t__law_is_whole]
        exact fin (by simpa [whP, topS, bot] using q)
      | [p], [x], _, _ =>
        have p1 := ok p (by simp)
        have x1 := bv x (by simp)
        have a1 := p1.1.le
        have a2 := p1.2.2.le
        have a3 := x1.le
        have a4 := (p1.1.mul x1).le
        simp [t__law_is_whole]
        repeat refine And.intro (by omega) ?_
        refine fin ?_
        have e3 : topS [p] [x] = p.1 * x := by
          simp [topS, bot]
          rw [show p.2.fdiv p.2 = 1 by have := fdiv_mul 1 p1.2.1; rwa [Int.mul_one] at this]
          grind
        simpa [whP, e3, bot] using q
      | [p, r], [x, y], _, _ =>
        have p1 := ok p (by simp)
        have r1 := ok r (by simp)
        have x1 := bv x (by simp)
        have y1 := bv y (by simp)
        have a1 := p1.1.le
        have a2 := p1.2.2.le
        have a3 := x1.le
        have a4 := (p1.1.mul x1).le
        have a5 := r1.1.le
        have a6 := r1.2.2.le
        have a7 := y1.le
        have a8 := (r1.1.mul y1).le
        simp [t__law_is_whole]
        repeat refine And.intro (by omega) ?_
        refine fin ?_
        have e3 : topS [p, r] [x, y] = p.1 * x * r.2 + r.1 * y * p.2 := by
          simp [topS, bot]
          rw [fdiv_mul r.2 p1.2.1, Int.mul_comm p.2 r.2, fdiv_mul p.2 r1.2.1]
          grind
        simpa [whP, e3, bot] using q
      | [p, r, s], [x, y, z], _, _ =>
        have p1 := ok p (by simp)
        have r1 := ok r (by simp)
        have s1 := ok s (by simp)
        have x1 := bv x (by simp)
        have y1 := bv y (by simp)
        have z1 := bv z (by simp)
        have a1 := p1.1.le
        have a2 := p1.2.2.le
        have a3 := x1.le
        have a4 := (p1.1.mul x1).le
        have a5 := r1.1.le
        have a6 := r1.2.2.le
        have a7 := y1.le
        have a8 := (r1.1.mul y1).le
        have a9 := s1.1.le
        have c1 := s1.2.2.le
        have c2 := z1.le
        have c3 := (s1.1.mul z1).le
        have c4 := (p1.2.2.mul r1.2.2).le
        have c5 := (((p1.1.mul x1).mul r1.2.2).add (((r1.1.mul y1).mul p1.2.2).mono (by decide))).le
        simp [t__law_is_whole]
        repeat refine And.intro (by omega) ?_
        refine fin ?_
        have e3 : topS [p, r, s] [x, y, z] = (p.1 * x * r.2 + r.1 * y * p.2) * s.2 + s.1 * z * (p.2 * r.2) := by
          simp [topS, bot]
          rw [show p.2 * r.2 * s.2 = p.2 * (r.2 * s.2) by grind, fdiv_mul _ p1.2.1, show p.2 * (r.2 * s.2) = r.2 * (p.2 * s.2) by grind, fdiv_mul _ r1.2.1, show r.2 * (p.2 * s.2) = s.2 * (p.2 * r.2) by grind, fdiv_mul _ s1.2.1]
          grind
        simpa [whP, e3, bot] using q
    · exact h.elim
  · exact h.elim
theorem pure__law_is_lowest (ds : List D) (μ : Mu) (Q : ZQ) (E : ZX) (h : F__law_is_lowest ds μ Q E) : zBody t__law_is_lowest 3 ds μ Q := by
  unfold F__law_is_lowest at h
  split at h
  · rename_i a b
    by_cases hb : 0 < b
    · simp [t__law_is_lowest, show ¬ b < 1 by omega]
      refine ⟨fun m ρ' μ' => ∃ x y : Int, ρ' = [some (.tup [.int a, .int b]), some (.int x), some (.int y)] ∧ μ' = μ ∧ Int.gcd x y = Int.gcd a b ∧ y.natAbs = m ∧ 0 ≤ x ∧ 0 ≤ y, ⟨b.natAbs, a.natAbs, b, rfl, rfl, by rw [Int.gcd, Int.gcd, Int.natAbs_natCast], rfl, by omega, by omega⟩, ?_⟩
      rintro m ρ' μ' ⟨x, y, e1, e2, e3, e4, e5, e6⟩
      subst e1 e2
      by_cases hy : y = 0
      · subst hy
        simp only [Int.gcd_zero_right] at e3
        simp
        refine ⟨_, Sub.refl _, ?_⟩
        have e7 : (x == 1) = (decide (0 < b) && Int.gcd a b == 1) := by
          rw [decide_eq_true hb, ← e3, Bool.true_and, Bool.eq_iff_iff]
          simp
          omega
        rw [e7]; exact h
      · have hb : decide (0 < y) = true := by simp; omega
        simp [hb, hy]
        exact ⟨(x.fmod y).natAbs, by rw [← e4]; exact fmod_lt x hy, y, x.fmod y, ⟨rfl, rfl⟩, by rw [gcd_fmod]; exact e3, rfl, by omega, (fmod_in x (by omega)).1⟩
    · simp [t__law_is_lowest, show b < 1 by omega]
      exact fin (by simpa [hb] using h)
  · exact h.elim
theorem pure__law_is_test (ds : List D) (μ : Mu) (Q : ZQ) (E : ZX) (h : F__law_is_test ds μ Q E) : zBody t__law_is_test 5 ds μ Q := by
  unfold F__law_is_test at h
  split at h
  · split at h
    · rename_i d ys xs _ _ _ b v ps e1 e2 e3
      obtain ⟨⟨ok, sq, bb, bv, l1, l2⟩, q⟩ := h
      obtain ⟨t, rfl⟩ := toM_cases e1
      rw [toInts_eq e2]
      rw [toFr_eq e3] at q ⊢
      simp [t__law_is_test]
      refine lc_filter (fun d => !isFr d) id _ _ (fun d hd => ?_) ?_
      · obtain ⟨p, hp, rfl⟩ := List.mem_map.mp hd
        refine ⟨_, rfl, fun Q q => ?_, fun _ Q q => by simpa using q⟩
        simp [F__law_is_lowest]
        simpa using q
      · have f1 : ∀ p : D → Bool, fitAll 59 (((ps.map fun p => D.tup [.int p.1, .int p.2]).filter p)) = true := fun p => fitAll_filter _ _ _ (by rw [fitAll_iff]; intro x hx; obtain ⟨y, _, rfl⟩ := List.mem_map.mp hx; simp)
        have f2 : ∀ p : D → Bool, fitAll 59 ((b.map dV).filter p) = true := fun p => fitAll_filter _ _ _ (fitAll_dV 58 b)
        have hempty : ((ps.map fun p => D.tup [.int p.1, .int p.2]).filter fun d => !isFr d).isEmpty = (ps.map fun p => D.tup [.int p.1, .int p.2]).all isFr := filter_all _ _
        have hfs : isFrs b.length (.tup (ps.map fun p => D.tup [.int p.1, .int p.2])) = (ps.map fun p => D.tup [.int p.1, .int p.2]).all isFr := by
          simp [l1, l2]
        have hfr : frOf (.tup (ps.map fun p => D.tup [.int p.1, .int p.2])) = ps := by simp [frOf]
        unfold isTest at q
        rw [hfs, hfr] at q
        simp only [List.nil_append, List.map_id]
        simp [f1, eqAll_nil, hempty]
        rw [← List.all_map]
        cases ha : (ps.map fun p => D.tup [.int p.1, .int p.2]).all isFr with
        | false =>
          rw [ha] at q
          exact fin q
        | true =>
          rw [ha] at q
          refine lc_filter (fun d => !whP ps (vOf d)) id _ _ (fun d hd => ?_) ?_
          · obtain ⟨r, hr, rfl⟩ := List.mem_map.mp hd
            refine ⟨_, rfl, fun Q q => ?_, fun _ Q q => by simpa using q⟩
            simp [F__law_is_whole, dV]
            exact ⟨⟨ok, bb r hr, by have := sq.sq.all r hr; omega⟩, by simpa using q⟩
          · rw [List.nil_append, List.map_id]
            have h3 : ((b.map dV).filter fun d => !whP ps (vOf d)).isEmpty = b.all (whP ps) := by
              rw [filter_all, List.all_map]
              congr 1
              funext x
              simp
            rw [h3]
            refine ⟨f2 _, ?_⟩
            cases hw : b.all (whP ps) with
            | false =>
              rw [hw] at q
              exact fin q
            | true =>
              rw [hw] at q
              simp [F__law_is_whole]
              exact ⟨⟨ok, bv, l1⟩, fin (by simpa using q)⟩
    · exact h.elim
  · exact h.elim
theorem pure__law_others_are_rejected (ds : List D) (μ : Mu) (Q : ZQ) (E : ZX) (h : F__law_others_are_rejected ds μ Q E) : zBody (t__law_others_are_rejected E) 4 ds μ Q := by
  unfold F__law_others_are_rejected at h
  split at h
  · have b1 : isBas (.tup [.tup [.int 2, .int 0], .tup [.int 0, .int 2]]) = true := by decide
    have b2 : isVec 2 (.tup [.int 1, .int 0]) = true := by decide
    have m1 : mOf (.tup [.tup [.int 2, .int 0], .tup [.int 0, .int 2]]) = [[2, 0], [0, 2]] := by simp [mOf]
    have v1 : vOf (.tup [.int 1, .int 0]) = [1, 0] := by simp [vOf]
    simp [t__law_others_are_rejected, F_is_test_vector, b1, b2, m1, v1, -zLcG]
    intro a ha a2 ha2
    have half : isTest [[2, 0], [0, 2]] [1, 0] (.tup [.tup [.int 1, .int 2], .tup [.int 0, .int 1]]) = true := by decide
    have small : ∀ a b c d : Int, a.natAbs ≤ 9 ∧ b.natAbs ≤ 9 ∧ c.natAbs ≤ 9 ∧ d.natAbs ≤ 9 → 0 < b → 0 < d → FrOk [(a, b), (c, d)] := fun a b c d h hb hd => ⟨by simp, by
      intro p hp
      have B : ∀ i : Int, i.natAbs ≤ 9 → Bd 2000 i := fun i hi => Bd.small (by omega) (by decide)
      simp at hp
      rcases hp with rfl | rfl
      · exact ⟨B _ h.1, hb, B _ h.2.1⟩
      · exact ⟨B _ h.2.2.1, hd, B _ h.2.2.2⟩⟩
    simp [half, -zLcG]
    have hm2 := (Sub.new ha).none ha2
    refine ⟨small 1 2 0 1 (by decide) (by decide) (by decide), ?_⟩
    refine lc_filter (fun d => isTest [[2, 0], [0, 2]] [1, 0] d) id _ _ (fun d hd => ⟨_, rfl, fun Q q => ?_, fun _ Q q => by simpa using q⟩) ?_
    · have key : pl d = true ∧ (isFrs 2 d = true → FrOk (frOf d)) := by
        simp only [List.mem_cons, List.not_mem_nil, or_false] at hd
        rcases hd with rfl | rfl | rfl | rfl | rfl | rfl | rfl | rfl | rfl | rfl | rfl | rfl | rfl | rfl | rfl
        all_goals refine ⟨by decide, fun h => ?_⟩
        all_goals first | exact absurd h (by decide) | exact small _ _ _ _ (by decide) (by decide) (by decide)
      simp [F_is_test_vector, b1, b2, m1, v1]
      refine ⟨key.1, key.2, ?_⟩
      cases hk : isTest [[2, 0], [0, 2]] [1, 0] d with
      | true => rw [hk] at q; exact q
      | false => rw [hk] at q; exact q
    · have e0 : List.filter (fun d => isTest [[2, 0], [0, 2]] [1, 0] d) [D.non, .int 5, .tup [], .tup [.tup [.int 1, .int 2]], .lst [.tup [.int 1, .int 2], .tup [.int 0, .int 1]], .tup [.tup [.int 1, .int 2], .int 0], .tup [.tup [.int 1, .int 2], .lst [.int 0, .int 1]], .tup [.tup [.int 1, .int 2], .tup [.int 0, .int 2]], .tup [.tup [.int 1, .int 2], .tup [.int 0, .int 1], .tup [.int 0, .int 1]], .tup [.tup [.int (-1), .int (-2)], .tup [.int 0, .int 1]], .tup [.tup [.int 1, .int 2], .tup [.int 0, .bl true]], .tup [.tup [.bl true, .int 2], .tup [.int 0, .int 1]], .tup [.tup [.int 1, .int 3], .tup [.int 0, .int 1]], .str (Str.ofString "ab"), .tup [.tup [.int 1, .int 0], .tup [.int 0, .int 1]]] = [] := by rfl
      rw [e0]
      exact ⟨rfl, fin_of (((Sub.new ha).up hm2).er hm2) h⟩
  · exact h.elim
end K03
end ZL
namespace ZL
/-! ### plain facts about squares of numbers -/
theorem range1 : List.range 1 = [0] := rfl
theorem range2 : List.range 2 = [0, 1] := rfl
theorem range3 : List.range 3 = [0, 1, 2] := rfl
theorem len1 {α : Type} {v : List α} (h : v.length = 1) : ∃ x, v = [x] := by
  match v, h with
  | [x], _ => exact ⟨x, rfl⟩
theorem len2 {α : Type} {v : List α} (h : v.length = 2) : ∃ x y, v = [x, y] := by
  match v, h with
  | [x, y], _ => exact ⟨x, y, rfl⟩
theorem len3 {α : Type} {v : List α} (h : v.length = 3) : ∃ x y z, v = [x, y, z] := by
  match v, h with
  | [x, y, z], _ => exact ⟨x, y, z, rfl⟩
/-- what the rows give with these factors -/
theorem solv_mix {b : List (List Int)} {f : List Int} (h : SqN b) (hf : f.length = b.length) : solv b (mixV f b) = f.map (· * det b) := by
  obtain ⟨n, ⟨h0, h3⟩, s⟩ := h
  obtain rfl | rfl | rfl : n = 1 ∨ n = 2 ∨ n = 3 := by omega
  · obtain ⟨a, rfl⟩ := s.one
    obtain ⟨x, rfl⟩ := len1 hf
    simp [solv, mixV, det, range1]
  · obtain ⟨a, b, c, d, rfl⟩ := s.two
    obtain ⟨x, y, rfl⟩ := len2 hf
    simp [solv, mixV, det, range2]
    constructor <;> grind
  · obtain ⟨a, b, c, d, e, f, g, i, j, rfl⟩ := s.three
    obtain ⟨x, y, z, rfl⟩ := len3 hf
    simp [solv, mixV, det, range3]
    refine ⟨?_, ?_, ?_⟩ <;> grind
theorem mix_len {b : List (List Int)} (h : SqN b) (f : List Int) : (mixV f b).length = b.length := by
  obtain ⟨n, ⟨h0, h3⟩, s⟩ := h
  obtain rfl | rfl | rfl : n = 1 ∨ n = 2 ∨ n = 3 := by omega
  · obtain ⟨a, rfl⟩ := s.one
    simp [mixV]
  · obtain ⟨a, b, c, d, rfl⟩ := s.two
    simp [mixV]
  · obtain ⟨a, b, c, d, e, f, g, i, j, rfl⟩ := s.three
    simp [mixV]
theorem mix_solv {b : List (List Int)} {v : List Int} (h : SqN b) (hv : v.length = b.length) : mixV (solv b v) b = v.map (· * det b) := by
  obtain ⟨n, ⟨h0, h3⟩, s⟩ := h
  obtain rfl | rfl | rfl : n = 1 ∨ n = 2 ∨ n = 3 := by omega
  · obtain ⟨a, rfl⟩ := s.one
    obtain ⟨x, rfl⟩ := len1 hv
    simp [solv, mixV, det, range1]
  · obtain ⟨a, b, c, d, rfl⟩ := s.two
    obtain ⟨x, y, rfl⟩ := len2 hv
    simp [solv, mixV, det, range2]
    constructor <;> grind
  · obtain ⟨a, b, c, d, e, f, g, i, j, rfl⟩ := s.three
    obtain ⟨x, y, z, rfl⟩ := len3 hv
    simp [solv, mixV, det, range3]
    refine ⟨?_, ?_, ?_⟩ <;> grind
theorem mix_scale {b : List (List Int)} {f : List Int} {d : Int} (h : SqN b) (hf : f.length = b.length) : mixV (f.map (· * d)) b = (mixV f b).map (· * d) := by
  obtain ⟨n, ⟨h0, h3⟩, s⟩ := h
  obtain rfl | rfl | rfl : n = 1 ∨ n = 2 ∨ n = 3 := by omega
  · obtain ⟨a, rfl⟩ := s.one
    obtain ⟨x, rfl⟩ := len1 hf
    simp [mixV, range1]
    grind
  · obtain ⟨a, b, c, d, rfl⟩ := s.two
    obtain ⟨x, y, rfl⟩ := len2 hf
    simp [mixV, range2]
    constructor <;> grind
  · obtain ⟨a, b, c, d, e, f, g, i, j, rfl⟩ := s.three
    obtain ⟨x, y, z, rfl⟩ := len3 hf
    simp [mixV, range3]
    refine ⟨?_, ?_, ?_⟩ <;> grind
theorem map_mul_inj {d : Int} (hd : d ≠ 0) : ∀ {v w : List Int}, v.map (· * d) = w.map (· * d) → v = w
  | [], [], _ => rfl
  | [], _ :: _, h => by simp at h
  | _ :: _, [], h => by simp at h
  | x :: v, y :: w, h => by
    rw [List.map_cons, List.map_cons] at h
    injection h with h1 h2
    rw [map_mul_inj hd h2, Int.eq_of_mul_eq_mul_right hd h1]
theorem solv_len (b : List (List Int)) (v : List Int) : (solv b v).length = b.length := by simp [solv]
/-- the dual rows tell the same -/
theorem dual_dot {b : List (List Int)} {v : List Int} (h : SqN b) (hv : v.length = b.length) : (dualR b).map (fun r => dot r v) = solv b v := by
  obtain ⟨n, ⟨h0, h3⟩, s⟩ := h
  obtain rfl | rfl | rfl : n = 1 ∨ n = 2 ∨ n = 3 := by omega
  · obtain ⟨a, rfl⟩ := s.one
    obtain ⟨x, rfl⟩ := len1 hv
    simp [solv, dualR, unit, dot, det, range1]
  · obtain ⟨a, b, c, d, rfl⟩ := s.two
    obtain ⟨x, y, rfl⟩ := len2 hv
    simp [solv, dualR, unit, dot, det, range2]
    constructor <;> grind
  · obtain ⟨a, b, c, d, e, f, g, i, j, rfl⟩ := s.three
    obtain ⟨x, y, z, rfl⟩ := len3 hv
    simp [solv, dualR, unit, dot, det, range3]
    refine ⟨?_, ?_, ?_⟩ <;> grind
/-- det with a row of its own in a place -/
theorem solv_own {b : List (List Int)} (h : SqN b) : ∀ r ∈ b, ∀ e ∈ solv b r, e = 0 ∨ e = det b := by
  obtain ⟨n, ⟨h0, h3⟩, s⟩ := h
  obtain rfl | rfl | rfl : n = 1 ∨ n = 2 ∨ n = 3 := by omega
  · obtain ⟨a, rfl⟩ := s.one
    simp [solv, det, range1]
  · obtain ⟨a, b, c, d, rfl⟩ := s.two
    simp [solv, det, range2]
    refine ⟨?_, ?_⟩ <;> grind
  · obtain ⟨a, b, c, d, e, f, g, i, j, rfl⟩ := s.three
    simp [solv, det, range3]
    refine ⟨⟨?_, ?_⟩, ⟨?_, ?_⟩, ?_, ?_⟩ <;> grind
theorem fmod_mul_zero (a d : Int) : (a * d).fmod d = 0 := by
  rw [Int.fmod_eq_emod]
  simp
theorem fmod_zero_iff {a d : Int} : a.fmod d = 0 ↔ d ∣ a := by
  constructor
  · intro h
    exact Int.dvd_of_fmod_eq_zero h
  · rintro ⟨k, rfl⟩
    rw [Int.mul_comm]
    exact fmod_mul_zero k d
theorem fdiv_mul_self {a d : Int} (h : d ≠ 0) : (a * d).fdiv d = a := Int.mul_fdiv_cancel a h
end ZL
namespace ZL
theorem fdiv_mul (a : Int) {b : Int} (h : 0 < b) : (b * a).fdiv b = a := by
  rw [Int.fdiv_eq_ediv_of_nonneg _ (by omega), Int.mul_ediv_cancel_left _ (by omega)]
theorem topS1 (p : Int × Int) (x : Int) (h : 0 < p.2) : topS [p] [x] = p.1 * x := by
  simp [topS, bot]
  rw [show p.2.fdiv p.2 = 1 by have := fdiv_mul 1 h; rwa [Int.mul_one] at this]
  grind
theorem topS2 (p r : Int × Int) (x y : Int) (h1 : 0 < p.2) (h2 : 0 < r.2) : topS [p, r] [x, y] = p.1 * x * r.2 + r.1 * y * p.2 := by
  simp [topS, bot]
  rw [fdiv_mul r.2 h1, Int.mul_comm p.2 r.2, fdiv_mul p.2 h2]
  grind
theorem topS3 (p r s : Int × Int) (x y z : Int) (h1 : 0 < p.2) (h2 : 0 < r.2) (h3 : 0 < s.2) : topS [p, r, s] [x, y, z] = (p.1 * x * r.2 + r.1 * y * p.2) * s.2 + s.1 * z * (p.2 * r.2) := by
  simp [topS, bot]
  rw [show p.2 * r.2 * s.2 = p.2 * (r.2 * s.2) by grind, fdiv_mul _ h1, show p.2 * (r.2 * s.2) = r.2 * (p.2 * s.2) by grind, fdiv_mul _ h2, show r.2 * (p.2 * s.2) = s.2 * (p.2 * r.2) by grind, fdiv_mul _ h3]
  grind
theorem hasB_eq (b : List (List Int)) (v : List Int) : hasB b v = (solv b v).all fun e => e.fmod (det b) == 0 := by
  simp [hasB, solv, List.all_map, Function.comp_def]
theorem any_all (d : Int) (l : List Int) : l.any (fun e => e.fmod d != 0) = !l.all fun e => e.fmod d == 0 := by
  induction l with
  | nil => rfl
  | cons x l ih =>
    rw [List.any_cons, List.all_cons, ih]
    cases h : (x.fmod d == 0) <;> simp [bne, h]
theorem coef_cases {b : List (List Int)} {v : List Int} (h : SqN b) (hd : det b ≠ 0) (hv : v.length = b.length) :
    (hasB b v = true ∧ ∃ c, coefD b v = dV c ∧ c.length = b.length ∧ mixV c b = v ∧ solv b v = c.map (· * det b)) ∨ (hasB b v = false ∧ coefD b v = .non) := by
  unfold coefD
  rw [any_all, ← hasB_eq]
  cases hh : hasB b v with
  | false => exact .inr ⟨rfl, rfl⟩
  | true =>
    refine .inl ⟨rfl, (solv b v).map fun e => e.fdiv (det b), rfl, by simp [solv], ?_, ?_⟩
    · rw [hasB_eq, List.all_eq_true] at hh
      have e1 : ((solv b v).map fun e => e.fdiv (det b)).map (· * det b) = solv b v := by
        rw [List.map_map]
        conv => rhs; rw [← List.map_id (solv b v)]
        refine List.map_congr_left fun e he => ?_
        have := fmod_zero_iff.mp (by simpa using hh e he)
        obtain ⟨k, hk⟩ := this
        show e.fdiv (det b) * det b = e
        rw [hk, Int.mul_comm (det b) k, fdiv_mul_self hd]
      refine map_mul_inj hd ?_
      rw [← mix_scale h (by simp [solv]), e1, mix_solv h hv]
    · rw [hasB_eq, List.all_eq_true] at hh
      rw [List.map_map]
      conv => lhs; rw [← List.map_id (solv b v)]
      refine List.map_congr_left fun e he => ?_
      have := fmod_zero_iff.mp (by simpa using hh e he)
      obtain ⟨k, hk⟩ := this
      show e = e.fdiv (det b) * det b
      rw [hk, Int.mul_comm (det b) k, fdiv_mul_self hd]
theorem coef_mix {b : List (List Int)} {f : List Int} (h : SqN b) (hd : det b ≠ 0) (hf : f.length = b.length) : coefD b (mixV f b) = dV f := by
  unfold coefD
  rw [solv_mix h hf, if_neg]
  · rw [List.map_map]
    have : ((fun e : Int => e.fdiv (det b)) ∘ fun x => x * det b) = id := by
      funext x
      exact fdiv_mul_self hd
    rw [this, List.map_id]
  · rw [List.any_map]
    simp [fmod_mul_zero]
theorem hasB_mix {b : List (List Int)} {f : List Int} (h : SqN b) (hf : f.length = b.length) : hasB b (mixV f b) = true := by
  rw [hasB_eq, solv_mix h hf]
  simp [fmod_mul_zero]
/-- a ratio in lowest terms -/
theorem rat_ok {e d : Int} (hd : d ≠ 0) : 0 < d.fdiv (shr e d) ∧ Int.gcd (e.fdiv (shr e d)) (d.fdiv (shr e d)) = 1 ∧ e.fdiv (shr e d) * d = d.fdiv (shr e d) * e ∧ (e.fdiv (shr e d)).natAbs ≤ e.natAbs ∧ (d.fdiv (shr e d)).natAbs ≤ d.natAbs := by
  have hg : 0 < Int.gcd e d := Int.gcd_pos_of_ne_zero_right e hd
  have s0 : shr e d ≠ 0 := by unfold shr; split <;> omega
  have sa : (shr e d).natAbs = Int.gcd e d := by unfold shr; split <;> omega
  have d1 : shr e d ∣ e := by
    have := Int.gcd_dvd_left e d
    unfold shr; split
    · exact Int.neg_dvd.mpr this
    · exact this
  have d2 : shr e d ∣ d := by
    have := Int.gcd_dvd_right e d
    unfold shr; split
    · exact Int.neg_dvd.mpr this
    · exact this
  have sg : 0 < d.fdiv (shr e d) := by
    obtain ⟨l, hl⟩ := d2
    have e2 : d.fdiv (shr e d) = l := by
      conv => lhs; arg 1; rw [hl]
      rw [Int.mul_comm]; exact fdiv_mul_self s0
    rw [e2]
    rcases Int.lt_or_gt_of_ne hd with z | z
    · have s1 : shr e d < 0 := by unfold shr; rw [if_pos z]; omega
      rcases Int.lt_trichotomy l 0 with y | y | y
      · have := Int.mul_pos_of_neg_of_neg s1 y; omega
      · subst y; omega
      · exact y
    · have s1 : 0 < shr e d := by unfold shr; rw [if_neg (by omega)]; omega
      rcases Int.lt_trichotomy l 0 with y | y | y
      · have := Int.mul_neg_of_pos_of_neg s1 y; omega
      · subst y; omega
      · exact y
  obtain ⟨k, hk⟩ := d1
  obtain ⟨l, hl⟩ := d2
  have e1 : e.fdiv (shr e d) = k := by
    conv => lhs; arg 1; rw [hk]
    rw [Int.mul_comm]; exact fdiv_mul_self s0
  have e2 : d.fdiv (shr e d) = l := by
    conv => lhs; arg 1; rw [hl]
    rw [Int.mul_comm]; exact fdiv_mul_self s0
  rw [e2] at sg
  rw [e1, e2]
  generalize hs : shr e d = s at *
  have n1 : 1 ≤ s.natAbs := by omega
  refine ⟨sg, ?_, ?_, ?_, ?_⟩
  · have := Int.gcd_mul_left s k l
    rw [← hk, ← hl, ← sa] at this
    have h3 : s.natAbs * 1 = s.natAbs * Int.gcd k l := by omega
    exact (Nat.eq_of_mul_eq_mul_left (by omega) h3).symm
  · rw [hl]
    conv => rhs; rw [hk]
    grind
  · have h3 : e.natAbs = s.natAbs * k.natAbs := by rw [hk, Int.natAbs_mul]
    rw [h3]
    exact Nat.le_mul_of_pos_left _ n1
  · have h3 : d.natAbs = s.natAbs * l.natAbs := by rw [hl, Int.natAbs_mul]
    rw [h3]
    exact Nat.le_mul_of_pos_left _ n1
def ratP (d e : Int) : Int × Int := (e.fdiv (shr e d), d.fdiv (shr e d))
theorem ratD_eq (d e : Int) : ratD e d = .tup [.int (ratP d e).1, .int (ratP d e).2] := rfl
theorem dvd_swap {t b x d : Int} (hb : b ≠ 0) (hd : d ≠ 0) (h : t * d = b * x) : (t.fmod b == 0) = (x.fmod d == 0) := by
  rw [Bool.eq_iff_iff, beq_iff_eq, beq_iff_eq, fmod_zero_iff, fmod_zero_iff]
  constructor
  · rintro ⟨k, rfl⟩
    refine ⟨k, ?_⟩
    have : b * x = b * (d * k) := by rw [← h]; grind
    exact Int.eq_of_mul_eq_mul_left hb this
  · rintro ⟨k, rfl⟩
    refine ⟨k, ?_⟩
    have : t * d = (b * k) * d := by rw [h]; grind
    exact Int.eq_of_mul_eq_mul_right hd this
theorem whP_rat {d : Int} (hd : d ≠ 0) : ∀ {r x : List Int}, r.length ≤ 3 → x.length = r.length → whP (r.map (ratP d)) x = ((dot r x).fmod d == 0)
  | [], [], _, _ => by simp [whP, topS, bot, dot]
  | [a], [x], _, _ => by
    have h1 := rat_ok (e := a) hd
    show ((topS [ratP d a] [x]).fmod _ == 0) = _
    rw [topS1 _ _ h1.1]
    refine dvd_swap (by simp [bot, ratP]; omega) hd ?_
    have e1 : (ratP d a).1 * d = (ratP d a).2 * a := h1.2.2.1
    simp [bot, dot]
    grind
  | [a, b], [x, y], _, _ => by
    have h1 := rat_ok (e := a) hd
    have h2 := rat_ok (e := b) hd
    show ((topS [ratP d a, ratP d b] [x, y]).fmod _ == 0) = _
    rw [topS2 _ _ _ _ h1.1 h2.1]
    have e1 : (ratP d a).1 * d = (ratP d a).2 * a := h1.2.2.1
    have e2 : (ratP d b).1 * d = (ratP d b).2 * b := h2.2.2.1
    have p1 : (ratP d a).2 ≠ 0 := by have := h1.1; simp [ratP]; omega
    have p2 : (ratP d b).2 ≠ 0 := by have := h2.1; simp [ratP]; omega
    refine dvd_swap (by simp [bot, p1, p2]) hd ?_
    simp [bot, dot]
    grind
  | [a, b, c], [x, y, z], _, _ => by
    have h1 := rat_ok (e := a) hd
    have h2 := rat_ok (e := b) hd
    have h3 := rat_ok (e := c) hd
    show ((topS [ratP d a, ratP d b, ratP d c] [x, y, z]).fmod _ == 0) = _
    rw [topS3 _ _ _ _ _ _ h1.1 h2.1 h3.1]
    have e1 : (ratP d a).1 * d = (ratP d a).2 * a := h1.2.2.1
    have e2 : (ratP d b).1 * d = (ratP d b).2 * b := h2.2.2.1
    have e3 : (ratP d c).1 * d = (ratP d c).2 * c := h3.2.2.1
    have p1 : (ratP d a).2 ≠ 0 := by have := h1.1; simp [ratP]; omega
    have p2 : (ratP d b).2 ≠ 0 := by have := h2.1; simp [ratP]; omega
    have p3 : (ratP d c).2 ≠ 0 := by have := h3.1; simp [ratP]; omega
    refine dvd_swap (by simp [bot, p1, p2, p3]) hd ?_
    simp [bot, dot]
    grind
theorem dual_own {b : List (List Int)} (h : SqN b) {r : List Int} (hr : r ∈ dualR b) : ∀ x ∈ b, (dot r x).fmod (det b) = 0 := by
  intro x hx
  have hl := h.sq.all x hx
  have e1 := dual_dot h hl
  have : dot r x ∈ solv b x := by rw [← e1]; exact List.mem_map_of_mem hr
  rcases solv_own h x hx _ this with z | z
  · rw [z]; simp
  · rw [z]; simp
theorem test_cases {b : List (List Int)} {v : List Int} (h : SqN b) (hd : det b ≠ 0) (hv : v.length = b.length) :
    (hasB b v = true ∧ testD b v = .non) ∨ (hasB b v = false ∧ ∃ r ∈ dualR b, testD b v = .tup ((r.map (ratP (det b))).map fun p => .tup [.int p.1, .int p.2]) ∧ r.length = b.length ∧ (b.all (whP (r.map (ratP (det b)))) = true) ∧ whP (r.map (ratP (det b))) v = false) := by
  have len := h.len
  unfold testD
  rw [hasB_eq, ← dual_dot h hv, List.all_map]
  cases hf : (dualR b).find? fun row => (dot row v).fmod (det b) != 0 with
  | none =>
    left
    rw [List.find?_eq_none] at hf
    refine ⟨?_, rfl⟩
    rw [List.all_eq_true]
    intro r hr
    have := hf r hr
    simpa using this
  | some r =>
    right
    have hm := List.mem_of_find?_eq_some hf
    have hp := List.find?_some hf
    have hrl : r.length = b.length := by
      simp [dualR] at hm
      obtain ⟨p, _, rfl⟩ := hm
      simp
    refine ⟨?_, r, hm, ?_, hrl, ?_, ?_⟩
    · rw [Bool.eq_false_iff]
      intro z
      rw [List.all_eq_true] at z
      have := z r hm
      simp at this hp
      exact hp this
    · simp [List.map_map, Function.comp_def, ratP]
    · rw [List.all_eq_true]
      intro x hx
      rw [whP_rat hd (by omega) (by rw [h.sq.all x hx, hrl]), dual_own h hm x hx]
      rfl
    · rw [whP_rat hd (by omega) (by rw [hv, hrl])]
      simpa using hp
end ZL
namespace ZL
open PySem PySem.Spec PyProof.Rows L2
/-! ### draws in a comprehension -/
theorem lc_drawn {te : ZT} {ρ : Rho} {i : Nat} {ns : List Int} {a : Addr} {μ : Mu} {k : List D → Mu → Prop} (n0 : Nat) (P : Int → Prop) (items : List D) (ht : Town ns a n0 μ)
    (step : ∀ d ∈ items, ∀ c ν Q, Town ns a c ν → c < n0 + items.length → (∀ e ξ, P e → Town ns a (c + 1) ξ → Fr a ν ξ → Q (.int e) ξ) → te (ρ.set i (some d)) ν Q)
    (q : ∀ (f : List Int) (ξ : Mu), f.length = items.length → (∀ e ∈ f, P e) → Town ns a (n0 + items.length) ξ → Fr a μ ξ → k (f.map .int) ξ) : zLcG (.one i) zYes te ρ items [] μ k := by
  refine lc_inv (fun acc ν => ∃ f : List Int, acc = f.map .int ∧ (∀ e ∈ f, P e) ∧ Town ns a (n0 + f.length) ν ∧ Fr a μ ν) items μ ⟨[], rfl, by simp, ht, Fr.refl a μ⟩ (fun d hd => ⟨_, rfl, ?_⟩) ?_
  · rintro acc ν Q hl ⟨f, rfl, h1, h2, h3⟩ hQ
    rw [List.length_map] at hl
    refine step d hd _ ν Q h2 (by omega) fun e ξ he hT hF => hQ _ _ ⟨f ++ [e], by simp, ?_, ?_, h3.trans hF⟩
    · intro x hx
      rcases List.mem_append.mp hx with z | z
      · exact h1 x z
      · have : x = e := by simpa using z
        rw [this]; exact he
    · rw [List.length_append]; exact hT.mono (by simp; omega)
  · rintro acc ν hl ⟨f, rfl, h1, h2, h3⟩
    rw [List.length_map] at hl
    exact q f ν hl h1 (by rw [← hl]; exact h2) h3
/-! ### bits of what is told -/
theorem DivOk.of {d : Int} (h : Bd 29 d) (n : d ≠ 0) : DivOk d := .inl ⟨n, Nat.lt_of_lt_of_le h (by decide)⟩
theorem Bd.up {n m : Nat} {i : Int} (h : Bd n i) (g : n ≤ m) : Bd m i := h.mono g
theorem mix_bd {p q : Nat} {f : List Int} {b : List (List Int)} (h : SqN b) (hf : f.length = b.length) (bf : BdV p f) (bb : BdM q b) : BdV (p + q + 2) (mixV f b) := by
  obtain ⟨n, ⟨h0, h3⟩, s⟩ := h
  obtain rfl | rfl | rfl : n = 1 ∨ n = 2 ∨ n = 3 := by omega
  · obtain ⟨a, rfl⟩ := s.one
    obtain ⟨x, rfl⟩ := len1 hf
    have := bf.one
    have b1 : Bd q a := by simpa [BdM] using bb
    simp [mixV, range1, BdV]
    exact (this.mul b1).mono (by omega)
  · obtain ⟨a, b, c, d, rfl⟩ := s.two
    obtain ⟨x, y, rfl⟩ := len2 hf
    obtain ⟨f1, f2⟩ := bf.two
    obtain ⟨b1, b2, b3, b4⟩ := bb.two
    simp [mixV, range2, BdV]
    exact ⟨((f1.mul b1).add (f2.mul b3)).mono (by omega), ((f1.mul b2).add (f2.mul b4)).mono (by omega)⟩
  · obtain ⟨a, b, c, d, e, f, g, i, j, rfl⟩ := s.three
    obtain ⟨x, y, z, rfl⟩ := len3 hf
    obtain ⟨f1, f2, f3⟩ := bf.three
    obtain ⟨b1, b2, b3, b4, b5, b6, b7, b8, b9⟩ := bb.three
    simp [mixV, range3, BdV]
    have add3 : ∀ {u v w : Int}, Bd (p + q) u → Bd (p + q) v → Bd (p + q) w → Bd (p + q + 2) (u + (v + w)) := fun h1 h2 h3 => (h1.mono (by omega)).add (h2.add h3)
    exact ⟨add3 (f1.mul b1) (f2.mul b4) (f3.mul b7), add3 (f1.mul b2) (f2.mul b5) (f3.mul b8), add3 (f1.mul b3) (f2.mul b6) (f3.mul b9)⟩
theorem Small.bdm {m : Int} {n : Nat} {b : List (List Int)} (h : Small m b) (hm : m.toNat < 2 ^ n) : BdM n b := fun r hr e he => by
  have := h.all r hr e he
  exact Bd.of (m := m.toNat) (by omega) hm
theorem Small.bas {m : Int} {b : List (List Int)} (h : Small m b) (hm : m ≤ 1000000) : isBas (dR true b) = true :=
  isBas_iff.mpr ⟨b, rfl, h.sq, fun r hr e he => by have := h.all r hr e he; omega, h.ne⟩
theorem vec_ok {v : List Int} {n : Nat} (hl : v.length = n) (hb : BdV 19 v) : isVec n (dV v) = true :=
  isVec_iff.mpr ⟨v, rfl, by omega, fun e he => by
    have := hb e he
    unfold Bd at this
    have e1 : (2 : Nat) ^ 19 = 524288 := by decide
    omega⟩
theorem solv_bd {m : Nat} {b : List (List Int)} {v : List Int} (h : SqN b) (hb : BdM m b) (hv : v.length = b.length) (bv : BdV m v) : BdV (3 * m + 4) (solv b v) := by
  intro e he
  simp [solv] at he
  obtain ⟨p, hp, rfl⟩ := he
  exact det_bd ⟨b.length, h.len, h.sq.set hv⟩ (hb.set bv)
theorem coef_bd {m : Nat} {d : Int} (hd : d ≠ 0) : ∀ {c s : List Int}, s = c.map (· * d) → BdV m s → BdV m c := by
  intro c s e h x hx
  have := h (x * d) (by rw [e]; exact List.mem_map_of_mem hx)
  unfold Bd at *
  rw [Int.natAbs_mul] at this
  exact Nat.lt_of_le_of_lt (Nat.le_mul_of_pos_right _ (by omega)) this
/-! ### pairs of numbers -/
def prD (p : Int × Int) : D := .tup [.int p.1, .int p.2]
def dP (ps : List (Int × Int)) : D := .tup (ps.map prD)
@[simp] theorem toFr_pr (ps : List (Int × Int)) : toFr (ps.map prD) = some ps := toFr_map ps
@[simp] theorem frOf_dP (ps : List (Int × Int)) : frOf (dP ps) = ps := by simp [frOf, dP]
@[simp] theorem pl_pr (p : Int × Int) : pl (prD p) = true := by simp [prD]
@[simp] theorem pl_dP (ps : List (Int × Int)) : pl (dP ps) = true := by
  simp only [dP, pl_tup]
  rw [plAll_iff]
  intro x hx
  obtain ⟨y, _, rfl⟩ := List.mem_map.mp hx
  exact pl_pr y
end ZL
namespace ZL
open PySem PySem.Spec PyProof.Rows L2
namespace K03
@[simp] theorem F_has_dR (b : List (List Int)) (w : List Int) (μ : Mu) (Q : ZQ) (E : ZX) : F__law_has [dR true b, dV w] μ Q E = ((SolOk b w ∧ det b ≠ 0) ∧ Q (.bl (hasB b w)) μ) := by
  simp [F__law_has, dR, dV]
@[simp] theorem isNon_dV (c : List Int) : isNon (dV c) = false := rfl
@[simp] theorem isNon_dP (c : List (Int × Int)) : isNon (dP c) = false := rfl
@[simp] theorem fit_dP (ps : List (Int × Int)) : fit 60 (dP ps) = true := by
  simp only [dP, fit_tup]
  rw [fitAll_iff]
  intro x hx
  obtain ⟨y, _, rfl⟩ := List.mem_map.mp hx
  simp [prD]
theorem law_last {ns : List Int} {a : Addr} {b : List (List Int)} {w : List Int} {ps : List (Int × Int)} {k : Nat} {o4 o5 o6 x8 x9 x11 x12 x13 x14 x15 : Option D} {Z : ZE} {E : ZX} {ν : Mu} (hb : Small 20 b) (hn : ns.length ≤ 1000) (hw : w.length = b.length) (bw : BdV 11 w) (hps : ps.length = b.length) (ok : ∀ p ∈ ps, 0 < p.2 ∧ Bd 200 p.1 ∧ Bd 200 p.2) (T : Town ns a k ν) (hk : k < 1000)
    (h8 : ∀ x8 x9 x10 x11 x12 x13 x14 x15 ν, Town ns a (k + 8) ν → Z.nx [some (dL ns), some (.obj a), some (dR true b), some (.int b.length), o4, o5, o6, some (dV w), x8, x9, x10, x11, x12, x13, x14, x15, none, none, none] ν) :
    t_law_8_6 E Z [some (dL ns), some (.obj a), some (dR true b), some (.int b.length), o4, o5, o6, some (dV w), x8, x9, some (dP ps), x11, x12, x13, x14, x15, none, none, none] ν := by
  have len := hb.sq.len
  have bbd : BdM 5 b := hb.bdm (by decide)
  have bwm : BdV 2000 w := fun e he => (bw e he).mono (by decide)
  have bm2 : BdM 2000 b := fun r hr e he => (bbd r hr e he).mono (by decide)
  have isb : isBas (dR true b) = true := hb.bas (by omega)
  have vecw : isVec b.length (dV w) = true := vec_ok hw fun e he => (bw e he).mono (by decide)
  simp [t_law_8_6, -zForG]
  refine for_inv0 (fun i ρ' ν => ∃ x11 x12 x13 x14 x15 qs, ρ' = [some (dL ns), some (.obj a), some (dR true b), some (.int b.length), o4, o5, o6, some (dV w), x8, x9, some (dP qs), x11, x12, x13, x14, x15, none, none, none] ∧ qs.length = b.length ∧ (∀ p ∈ qs, 0 < p.2 ∧ Bd (200 + 2 * i) p.1 ∧ Bd (200 + 2 * i) p.2) ∧ Town ns a (k + 2 * i) ν) ⟨_, _, _, _, _, ps, rfl, hps, ok, T⟩ ?_ ?_
  · rintro i d ρ' ν hi ⟨x11, x12, x13, x14, x15, qs, rfl, hq, okq, T1⟩
    have hi3 : i < 4 := by have := (List.getElem?_eq_some_iff.mp hi).1; simpa [rangeD_len] using this
    refine ⟨_, rfl, fun Z' h _ _ _ => ?_⟩
    have fr : FrOk qs := ⟨by omega, fun p hp => ⟨((okq p hp).2.1).mono (by omega), (okq p hp).1, ((okq p hp).2.2).mono (by omega)⟩⟩
    have lt : F__law_is_test [dR true b, dV w, dP qs] = fun μ Q E => (FrOk qs ∧ SqN b ∧ BdM 2000 b ∧ BdV 2000 w ∧ qs.length = w.length ∧ w.length = b.length) ∧ Q (.bl (isTest b w (dP qs))) μ := by
      funext μ Q E
      simp [F__law_is_test, dV, dP]
    simp [t_law_8_6_1, F_is_test_vector, isb, vecw, lt]
    refine ⟨fun _ => fr, ⟨fr, hb.sq, bm2, bwm, by omega, hw⟩, ?_⟩
    simp [t_law_8_6_2, F__law_draw]
    refine ⟨_, ⟨T1, by omega, by omega, Nat.lt_of_le_of_lt (Bd.le (n := 3) (Bd.of (m := 3) (by omega) (by decide))) (by decide), hn⟩, fun r ξ r0 r1 T2 _ => ?_⟩
    obtain ⟨p, rfl⟩ : ∃ p : Nat, r = (p : Nat) := ⟨r.toNat, (Int.toNat_of_nonneg r0).symm⟩
    have hp : p < qs.length := by omega
    have hqp := okq qs[p] (List.getElem_mem hp)
    simp [t_law_8_6_3, dP, hp, prD]
    simp [t_law_8_6_4]
    have b1 := hqp.2.1.le
    have b2 := hqp.2.2.le
    refine ⟨by omega, by omega, ?_⟩
    simp [t_law_8_6_5, F__law_pick]
    refine ⟨_, ⟨T2, by omega, hn⟩, fun x ξ hx T3 _ => ⟨by omega, by omega, ?_⟩⟩
    obtain ⟨r, rfl, hr0, hr1, hr2⟩ : ∃ r : Int × Int, x = prD r ∧ 0 < r.2 ∧ Bd (200 + 2 * (i + 1)) r.1 ∧ Bd (200 + 2 * (i + 1)) r.2 := by
      have h2 : Bd 2 2 := by unfold Bd; decide
      have h1 : Bd 1 1 := by unfold Bd; decide
      rcases hx with rfl | rfl | rfl | rfl
      · exact ⟨(_, _), rfl, hqp.1, (hqp.2.1.add hqp.2.2).mono (by omega), hqp.2.2.mono (by omega)⟩
      · exact ⟨(_, _), rfl, hqp.1, (hqp.2.1.add (h1.mono (by omega))).mono (by omega), hqp.2.2.mono (by omega)⟩
      · exact ⟨(_, _), rfl, by show 0 < 2 * _; omega, (h2.mul hqp.2.1).mono (by omega), (h2.mul hqp.2.2).mono (by omega)⟩
      · exact ⟨(qs[p].1, 1), rfl, by show (0 : Int) < 1; omega, hqp.2.1.mono (by omega), h1.mono (by omega)⟩
    have eset : D.tup (List.take p (qs.map prD) ++ prD r :: List.drop (p + 1) (qs.map prD)) = dP (qs.set p r) := by
      rw [dP, ← set_split qs r p hp]
      simp
    rw [eset]
    refine h _ _ ⟨_, _, _, _, _, qs.set p r, rfl, ?_, ?_, T3.mono (by omega)⟩
    · rw [List.length_set]; exact hq
    · intro y hy
      rcases List.mem_or_eq_of_mem_set hy with z | z
      · have := okq y z
        exact ⟨this.1, this.2.1.mono (by omega), this.2.2.mono (by omega)⟩
      · subst z; exact ⟨hr0, hr1, hr2⟩
  · rintro ρ' ν ⟨x11, x12, x13, x14, x15, qs, rfl, hq, okq, T1⟩
    rw [rangeD_len] at T1
    exact h8 _ _ _ _ _ _ _ _ _ T1
/-- what is walked for each vector -/
theorem law_body {ns : List Int} {a : Addr} {b : List (List Int)} {w : List Int} {k : Nat} {o4 o5 o6 x8 x9 x10 x11 x12 x13 x14 x15 : Option D} {Z : ZE} {E : ZX} {ν : Mu} (hb : Small 20 b) (hn : ns.length ≤ 1000) (hw : w.length = b.length) (bw : BdV 11 w) (T : Town ns a k ν) (hk : k < 1000)
    (h8 : ∀ x8 x9 x10 x11 x12 x13 x14 x15 ν, Town ns a (k + 8) ν → Z.nx [some (dL ns), some (.obj a), some (dR true b), some (.int b.length), o4, o5, o6, some (dV w), x8, x9, x10, x11, x12, x13, x14, x15, none, none, none] ν) :
    zSeq (t_law_8_1 E) (zSeq (t_law_8_2 E) (zSeq (t_law_8_3 E) (zSeq (t_law_8_4 E) (zSeq (t_law_8_5 E) (t_law_8_6 E))))) Z [some (dL ns), some (.obj a), some (dR true b), some (.int b.length), o4, o5, o6, some (dV w), x8, x9, x10, x11, x12, x13, x14, x15, none, none, none] ν := by
  have len := hb.sq.len
  have bbd : BdM 5 b := hb.bdm (by decide)
  have bwm : BdV 2000 w := fun e he => (bw e he).mono (by decide)
  have bm2 : BdM 2000 b := fun r hr e he => (bbd r hr e he).mono (by decide)
  have isb : isBas (dR true b) = true := hb.bas (by omega)
  have vecw : isVec b.length (dV w) = true := vec_ok hw fun e he => (bw e he).mono (by decide)
  have dok : DivOk (det b) := DivOk.of ((det_bd hb.sq bbd).mono (by decide)) hb.ne
  have solok : SolOk b w := ⟨hb.sq, fun r hr e he => (bbd r hr e he).mono (by decide), hw, fun e he => (bw e he).mono (by decide)⟩
  simp [t_law_8_1, F_coefficients, F_test_vector, isb, vecw, dok]
  rcases coef_cases hb.sq hb.ne hw with ⟨hh, c, hc, hcl, hcm, hcs⟩ | ⟨hh, hc⟩
  · have ht : testD b w = .non := by
      rcases test_cases hb.sq hb.ne hw with ⟨_, h⟩ | ⟨h, _⟩
      · exact h
      · rw [hh] at h; cases h
    have bs := solv_bd hb.sq (m := 11) (fun r hr e he => (bbd r hr e he).mono (by decide)) hw bw
    have bc := coef_bd hb.ne hcs bs
    rw [hc, ht]
    simp [t_law_8_2, hh, solok, hb.ne]
    simp [t_law_8_3, F__law_mix, hcm]
    refine ⟨⟨hcl, hb.sq, fun e he => (bc e he).mono (by decide), fun r hr e he => (bbd r hr e he).mono (by decide)⟩, ?_⟩
    simp [t_law_8_4]
    simp [t_law_8_5]
    intro p hp
    have e1 : D.tup (List.replicate b.length (D.tup [.int 1, .int 1])) = dP (List.replicate b.length (1, 1)) := by simp [dP, prD]
    rw [e1]
    refine ⟨by omega, law_last hb hn hw bw (by simp) (fun p hp => ?_) (T.up (Ne.symm (T.ne hp))) hk h8⟩
    have := (List.mem_replicate.mp hp).2
    subst this
    exact ⟨by decide, Bd.small (by decide) (by decide), Bd.small (by decide) (by decide)⟩
  · obtain ⟨r, hr, ht, hrl, hr1, hr2⟩ : ∃ r ∈ dualR b, testD b w = dP (r.map (ratP (det b))) ∧ r.length = b.length ∧ (b.all (whP (r.map (ratP (det b)))) = true) ∧ whP (r.map (ratP (det b))) w = false := by
      rcases test_cases hb.sq hb.ne hw with ⟨h, _⟩ | ⟨_, h⟩
      · rw [hh] at h; cases h
      · exact h
    have rb := (dualR_bd (m := 20) hb.sq (fun r hr e he => (bbd r hr e he).mono (by decide)) (by decide) r hr).2
    have dbd := det_bd hb.sq bbd
    have okp : ∀ p ∈ r.map (ratP (det b)), 0 < p.2 ∧ Bd 200 p.1 ∧ Bd 200 p.2 := by
      intro p hp
      obtain ⟨e, he, rfl⟩ := List.mem_map.mp hp
      have h := rat_ok (e := e) hb.ne
      exact ⟨h.1, Nat.lt_of_le_of_lt h.2.2.2.1 ((rb e he).mono (by decide)), Nat.lt_of_le_of_lt h.2.2.2.2 (dbd.mono (by decide))⟩
    have frok : FrOk (r.map (ratP (det b))) := ⟨by rw [List.length_map]; omega, fun p hp => ⟨(okp p hp).2.1.mono (by decide), (okp p hp).1, (okp p hp).2.2.mono (by decide)⟩⟩
    have low : ((r.map (ratP (det b))).map prD).all isFr = true := by
      rw [List.all_eq_true]
      intro x hx
      obtain ⟨p, hp, rfl⟩ := List.mem_map.mp hx
      obtain ⟨e, he, rfl⟩ := List.mem_map.mp hp
      have h := rat_ok (e := e) hb.ne
      exact isFr_iff.mpr ⟨_, _, rfl, h.1, h.2.1⟩
    rw [hc, ht]
    generalize hps : r.map (ratP (det b)) = ps at *
    have hpl : ps.length = b.length := by rw [← hps, List.length_map]; exact hrl
    simp [t_law_8_2, hh, solok, hb.ne]
    simp [t_law_8_3]
    simp [t_law_8_4]
    simp [t_law_8_4_t_1]
    refine lc_filter (fun d => !whP ps (vOf d)) id _ _ (fun d hd => ?_) ?_
    · obtain ⟨x, hx, rfl⟩ := List.mem_map.mp hd
      refine ⟨_, rfl, fun Q q => ?_, fun _ Q q => by simpa using q⟩
      simp [F__law_is_whole, dV, dP]
      exact ⟨⟨frok, bm2 x hx, by have := hb.sq.sq.all x hx; omega⟩, by simpa using q⟩
    rw [List.nil_append, List.map_id]
    have h3 : ((b.map dV).filter fun d => !whP ps (vOf d)) = [] := by
      rw [← List.isEmpty_iff, filter_all, List.all_map]
      rw [← hr1]
      congr 1
      funext x
      simp
    rw [h3]
    simp [F__law_is_whole, dV, dP, hr2]
    refine ⟨⟨frok, bwm, by omega⟩, ?_⟩
    simp [t_law_8_4_t_2]
    refine lc_filter (fun d => !isFr d) id _ _ (fun d hd => ?_) ?_
    · obtain ⟨p, hp, rfl⟩ := List.mem_map.mp hd
      refine ⟨_, rfl, fun Q q => ?_, fun _ Q q => by simpa using q⟩
      simp [F__law_is_lowest, prD]
      simpa [prD] using q
    rw [List.nil_append, List.map_id]
    have h4 : ((ps.map prD).filter fun d => !isFr d) = [] := by
      rw [← List.isEmpty_iff, filter_all]
      exact low
    rw [h4]
    simp [hpl]
    simp [t_law_8_5]
    exact law_last hb hn hw bw hpl okp T hk h8
end K03
end ZL
namespace ZL
open PySem PySem.Spec PyProof.Rows L2
namespace K03
theorem pure_law (ds : List D) (μ : Mu) (Q : ZQ) (E : ZX) (h : F_law ds μ Q E) : zBody (t_law E) 19 ds μ Q := by
  unfold F_law at h
  split at h
  · split at h
    · rename_i s _ ns e
      rw [toL_eq e]
      obtain ⟨hn, q⟩ := h
      simp [t_law]
      simp [t_law_1, F__law_town]
      refine ⟨hn, fun a ha => ?_⟩
      have T0 : Town ns a 0 (mupd μ a (.lst (.int 0 :: ns.map .int))) := ⟨0, ns, by simp, by omega, rfl⟩
      generalize mupd μ a (.lst (.int 0 :: ns.map .int)) = μ0 at T0
      simp [t_law_2, F__law_pick]
      refine ⟨0, ⟨T0, by omega, hn⟩, fun x ν hx T1 _ => ?_⟩
      obtain ⟨m, rfl, m1, m2⟩ : ∃ m : Int, x = .int m ∧ 2 ≤ m ∧ m ≤ 20 := by
        rcases hx with rfl | rfl | rfl
        · exact ⟨2, rfl, by omega, by omega⟩
        · exact ⟨5, rfl, by omega, by omega⟩
        · exact ⟨20, rfl, by omega, by omega⟩
      simp [F__law_basis]
      refine ⟨_, ⟨T1, by omega, by omega, by omega, hn⟩, fun b ν hbm T2 _ => ?_⟩
      have hb : Small 20 b := ⟨hbm.sq, fun r hr e he => by have := hbm.all r hr e he; omega, hbm.ne⟩
      have len := hb.sq.len
      simp [t_law_3]
      simp [t_law_4]
      refine ⟨by omega, ?_⟩
      refine lc_drawn 11 (fun e => -5 ≤ e ∧ e ≤ 5) _ T2 (fun d hd c ξ Q Tc hc hQ => ?_) fun f ν hf bf T3 _ => ?_
      · simp [F__law_draw]
        rw [rangeD_len] at hc
        exact ⟨c, ⟨Tc, by omega, by decide, hn⟩, fun r ξ r0 r1 hT hF => hQ _ _ (by omega) hT hF⟩
      rw [rangeD_len] at hf T3
      have bfd : BdV 3 f := fun e he => Bd.of (m := 5) (by have := bf e he; omega) (by decide)
      have bbd : BdM 5 b := hb.bdm (by decide)
      have bvd : BdV 10 (mixV f b) := mix_bd hb.sq hf bfd bbd
      have hvl := mix_len hb.sq f
      simp [t_law_5, F__law_mix, dvE]
      refine ⟨⟨hf, hb.sq, fun e he => (bfd e he).mono (by decide), fun r hr e he => (bbd r hr e he).mono (by decide)⟩, ?_⟩
      have isb : isBas (dR true b) = true := hb.bas (by omega)
      have dok : DivOk (det b) := DivOk.of ((det_bd hb.sq bbd).mono (by decide)) hb.ne
      have vec1 : isVec b.length (dV (mixV f b)) = true := vec_ok hvl (fun e he => (bvd e he).mono (by decide))
      have test1 : testD b (mixV f b) = .non := by
        rcases test_cases hb.sq hb.ne hvl with ⟨_, h⟩ | ⟨h, _⟩
        · exact h
        · rw [hasB_mix hb.sq hf] at h; cases h
      simp [t_law_6, F_coefficients, F_test_vector, isb, vec1, coef_mix hb.sq hb.ne hf, test1, dok]
      simp [t_law_7]
      refine lc_drawn (11 + b.length) (Bd 11) _ T3 (fun d hd c ξ Q Tc hc hQ => ?_) fun near ν hnear bnear T4 _ => ?_
      · obtain ⟨y, hy, rfl⟩ := List.mem_map.mp hd
        have by10 := bvd y hy
        rw [List.length_map, hvl] at hc
        simp [F__law_draw]
        refine ⟨c, ⟨Tc, by omega, by decide, hn⟩, fun r ξ r0 r1 hT hF => hQ _ _ ?_ hT hF⟩
        unfold Bd at by10 ⊢
        have e1 : (2 : Nat) ^ 10 = 1024 := by decide
        have e2 : (2 : Nat) ^ 11 = 2048 := by decide
        omega
      rw [List.length_map, hvl] at hnear T4
      simp only [t_law_8, zFor, zIt, zTup, zCons, zVar, zNil, zCB]
      simp [-zForG]
      refine ⟨by omega, ?_⟩
      refine lc_drawn (11 + b.length + b.length) (fun e => -20 ≤ e ∧ e ≤ 20) _ T4 (fun d hd c ξ Q Tc hc hQ => ?_) fun third ν hthird bthird T5 _ => ?_
      · simp [F__law_draw]
        rw [rangeD_len] at hc
        exact ⟨c, ⟨Tc, by omega, by decide, hn⟩, fun r ξ r0 r1 hT hF => hQ _ _ (by omega) hT hF⟩
      rw [rangeD_len] at hthird T5
      rw [dvE]
      refine for_inv0 (fun i ρ' ν => ∃ x7 x8 x9 x10 x11 x12 x13 x14 x15, ρ' = [some (dL ns), some (.obj a), some (dR true b), some (.int b.length), some (dV f), some (dV (mixV f b)), some (dV near), x7, x8, x9, x10, x11, x12, x13, x14, x15, none, none, none] ∧ Town ns a (20 + 8 * i) ν) ⟨_, _, _, _, _, _, _, _, _, rfl, T5.mono (by omega)⟩ ?_ ?_
      · rintro i d ρ' ν hi ⟨x7, x8, x9, x10, x11, x12, x13, x14, x15, rfl, T6⟩
        have hi3 : i < 3 := by have := (List.getElem?_eq_some_iff.mp hi).1; simpa using this
        obtain ⟨w, rfl, hw, bw⟩ : ∃ w : List Int, d = dV w ∧ w.length = b.length ∧ BdV 11 w := by
          have := List.mem_of_getElem? hi
          simp at this
          rcases this with rfl | rfl | rfl
          · exact ⟨_, rfl, hvl, fun e he => (bvd e he).mono (by decide)⟩
          · exact ⟨_, rfl, hnear, bnear⟩
          · exact ⟨_, rfl, hthird, fun e he => Bd.of (m := 20) (by have := bthird e he; omega) (by decide)⟩
        refine ⟨_, rfl, fun Z' h8 _ hrt _ => ?_⟩
        exact law_body hb hn hw bw T6 (by omega) fun x8 x9 x10 x11 x12 x13 x14 x15 ν h => h8 _ _ ⟨_, _, _, _, _, _, _, _, _, rfl, h⟩
      · rintro ρ' ν ⟨x7, x8, x9, x10, x11, x12, x13, x14, x15, rfl, T6⟩
        simp [t_law_9, F__law_others_are_rejected]
        exact fin (q _)
    · exact h.elim
  · exact h.elim
theorem law_true (ns : List Int) (h : ns.length ≤ 63) : F_law [.lst (ns.map .int)] (fun _ => none) (fun e _ => e = .bl true) noX := by
  have e1 : toL (D.lst (ns.map .int)) = some ns := toL_dL ns
  unfold F_law
  simp only [e1]
  exact ⟨by omega, fun _ => trivial⟩
end K03
end ZL
namespace ZL
open PySem PySem.Spec PyProof.Rows L2
theorem xc_of {K : PySem.W.Frag} {mg : Str → Option Value} {x : Str} (h : PySem.W.excIn K (He.ga K x) He.veBase "ValueError.__new__" = true ∧ PySem.W.keepIn K (.ref (He.ga K x)) = true ∧ PySem.W.subIn K (.ref (He.ga K x)) (.type "BaseException") = some true ∧ PySem.W.typeIn K (.ref (He.ga K x)) = some (.type "type"))
    (g : mg x = some (.ref (He.ga K x))) : Xc K mg x := ⟨h.1, h.2.1, h.2.2.1, h.2.2.2, g⟩
theorem zsp_law {K : PySem.W.Frag} {F : ZF} {H : Hp} {a : Addr} {ns : List Int} (hz : ns.length ≤ sizeLine) (hS : SqL K H a (ns.map V.int)) (p : F [.lst (ns.map .int)] (fun _ => none) (fun e _ => e = .bl true) noX) :
    zsp K F [.ref a] H (fun v _ => v = .bl true) fun _ _ _ => False := by
  refine ⟨⟨H, fun _ => none⟩, _, _, H, _, _, .cons (.lst hS (by rw [List.length_map]; exact hz) (isAll_ints ns)) .nil, ⟨Evl.Ex.refl H, Evl.Ex.refl H, fun a o h => (by cases h), fun a o h => (by cases h)⟩, p, ?_, ?_⟩
  · rintro v H' ⟨d, μ, G', _, _, i, rfl⟩
    cases i
    rfl
  · rintro cls d H' ⟨_, x, μ, G', _, _, z⟩
    exact z
/-- a law whose promise is told on data -/
theorem walk_law {l : PySem.W.OpenLaw} {k : Nat} {q : Program} {loose : List Str} {XP : (Str → Option Value) → Heap → Prop} {YP : World → Heap → Prop} {d : DefRec} {x : Str} {F : ZF}
    (most : l.most = some 63) (line : 63 ≤ sizeLine) (plain : d.params.defaults = []) (room : Room k callerA)
    (keep : ∀ w mg fa h, YP w h → h.Ns mainGlobals mg → mg d.name = some (.ref fa) → ∃ (K : PySem.W.Frag) (fd : FuncData), K.In h ∧ (∀ (s : Shared) (u : Value), BindsTo s fd ⟨[u], []⟩ [(x, u)]) ∧ ∀ base : Heap, FnOk l.prog w K mg base (L2.CX l.prog w) k fa fd [x] (zsp K F))
    (pure : ∀ ns : List Int, ns.length ≤ 63 → F [.lst (ns.map .int)] (fun _ => none) (fun e _ => e = .bl true) noX) :
    PySem.W.WalkO q loose XP YP l.row.toRowW d [] (fun f vs => PySem.call f vs) := by
  refine Att.attach_call most plain fun w sa sb mg mb fa o pm cd doc a us ns G Y h1 h2 h3 h4 h5 h6 h7 h8 => ?_
  obtain ⟨K, fd, KX, bind, all⟩ := keep w mg fa _ Y G.T.g h4
  refine law_call KX G.T.g G.T.b G.T.builtins G.T.nolimit h8 h5 h6 (Nat.le_trans h7 line) room (fun base _ _ => all base) bind (fun H _ hS => zsp_law (Nat.le_trans h7 line) hS (pure ns h7)) fun H e s' z => ?_
  obtain ⟨_, _, _, _, _, _, _, _, _, _, _, _, z⟩ := z
  exact z
end ZL
namespace ZL
open PySem PySem.Spec PyProof.Rows L2
namespace K03
/-! ### the text of the row -/
def top (i : Nat) : Stmt := PySem.Challenge.pw_gridbases_k03_whole_vectors.main.body.getD i (.Pass ⟨0, 0, 0, 0⟩)
abbrev s_divisor : Stmt := top 5
abbrev s_ratio : Stmt := top 6
abbrev s_is_integer : Stmt := top 7
abbrev s_is_between : Stmt := top 8
abbrev s_is_fraction : Stmt := top 9
abbrev s_product : Stmt := top 12
abbrev s_determinant : Stmt := top 13
abbrev s_is_vector : Stmt := top 14
abbrev s_is_basis : Stmt := top 15
abbrev s_check_basis : Stmt := top 16
abbrev s_check_vector : Stmt := top 17
abbrev s_solved : Stmt := top 18
abbrev s_whole_coefficients : Stmt := top 19
abbrev s_coefficients : Stmt := top 20
abbrev s_dual_rows : Stmt := top 21
abbrev s_test_vector : Stmt := top 22
abbrev s_is_whole_product : Stmt := top 23
abbrev s_is_test_vector : Stmt := top 24
abbrev s__law_town : Stmt := top 26
abbrev s__law_draw : Stmt := top 27
abbrev s__law_pick : Stmt := top 28
abbrev s__law_basis : Stmt := top 29
abbrev s__law_basis_in : Stmt := top 30
abbrev s__law_det : Stmt := top 31
abbrev s__law_mix : Stmt := top 32
abbrev s__law_has : Stmt := top 33
abbrev s__law_is_whole : Stmt := top 34
abbrev s__law_is_lowest : Stmt := top 35
abbrev s__law_is_test : Stmt := top 36
abbrev s__law_others_are_rejected : Stmt := top 37
abbrev s_law : Stmt := top 38
structure Tb (K : PySem.W.Frag) (mg : Str → Option Value) : Prop where
  d_divisor : Tdef K mg "divisor" s_divisor
  d_ratio : Tdef K mg "ratio" s_ratio
  d_is_integer : Tdef K mg "is_integer" s_is_integer
  d_is_between : Tdef K mg "is_between" s_is_between
  d_is_fraction : Tdef K mg "is_fraction" s_is_fraction
  d_product : Tdef K mg "product" s_product
  d_determinant : Tdef K mg "determinant" s_determinant
  d_is_vector : Tdef K mg "is_vector" s_is_vector
  d_is_basis : Tdef K mg "is_basis" s_is_basis
  d_check_basis : Tdef K mg "check_basis" s_check_basis
  d_check_vector : Tdef K mg "check_vector" s_check_vector
  d_solved : Tdef K mg "solved" s_solved
  d_whole_coefficients : Tdef K mg "whole_coefficients" s_whole_coefficients
  d_coefficients : Tdef K mg "coefficients" s_coefficients
  d_dual_rows : Tdef K mg "dual_rows" s_dual_rows
  d_test_vector : Tdef K mg "test_vector" s_test_vector
  d_is_whole_product : Tdef K mg "is_whole_product" s_is_whole_product
  d_is_test_vector : Tdef K mg "is_test_vector" s_is_test_vector
  d__law_town : Tdef K mg "_law_town" s__law_town
  d__law_draw : Tdef K mg "_law_draw" s__law_draw
  d__law_pick : Tdef K mg "_law_pick" s__law_pick
  d__law_basis : Tdef K mg "_law_basis" s__law_basis
  d__law_basis_in : Tdef K mg "_law_basis_in" s__law_basis_in
  d__law_det : Tdef K mg "_law_det" s__law_det
  d__law_mix : Tdef K mg "_law_mix" s__law_mix
  d__law_has : Tdef K mg "_law_has" s__law_has
  d__law_is_whole : Tdef K mg "_law_is_whole" s__law_is_whole
  d__law_is_lowest : Tdef K mg "_law_is_lowest" s__law_is_lowest
  d__law_is_test : Tdef K mg "_law_is_test" s__law_is_test
  d__law_others_are_rejected : Tdef K mg "_law_others_are_rejected" s__law_others_are_rejected
  d_law : Tdef K mg "law" s_law
  m_isinstance : mg "isinstance" = none
  m_int : mg "int" = none
  m_bool : mg "bool" = none
  m_tuple : mg "tuple" = none
  m_len : mg "len" = none
  m_all : mg "all" = none
  m_any : mg "any" = none
  m_range : mg "range" = none
  m_list : mg "list" = none
  m_abs : mg "abs" = none
  m_zip : mg "zip" = none
  m_enumerate : mg "enumerate" = none
  m_sum : mg "sum" = none
  c_LIMIT : ∃ t, mg "LIMIT" = some (.int 1000000 t)
  x_GridError : Xc K mg "GridError"
  x_InvalidBasis : Xc K mg "InvalidBasis"
  x_InvalidVector : Xc K mg "InvalidVector"
/-! ### each def keeps its promise -/
theorem len_divisor (ds : List D) (μ : Mu) (Q : ZQ) (E : ZX) (h : F_divisor ds μ Q E) : ds.length = 2 := by
  first
    | (unfold F_divisor at h; (split at h) <;> first | rfl | exact h.elim)
    | (unfold F_divisor F_determinant at h; (split at h) <;> first | rfl | exact h.elim)
theorem sc_divisor : FnScope ["one", "other"] ["one", "other"] (defScope s_divisor) := ⟨rfl, rfl, rfl, by decide +kernel, rfl, by decide +kernel, by decide +kernel⟩
theorem ok_divisor {P : Program} {w : World} {K : PySem.W.Frag} {mg : Str → Option Value} {base : Heap} (T : Tb K mg) : Keeps P w K mg base 1 "divisor" ["one", "other"] F_divisor :=
  T.d_divisor.keeps (N := ["one", "other"]) sc_divisor len_divisor (fun _ _ _ _ _ _ us hl => match us, hl with | [_, _], _ => rfl) fun cdv A outer s H Ex B ds μ Q E hr h tk => ⟨t_divisor , by
    have nd := sc_divisor.nd
    exact (zs_cons (z_while (passes_of rfl) (z_cmpT (op_neD hr.units) ok_ne (z_var 1 (pv 1)) z_int (nomark _)) (zs_one (z_par (i := 0) (j := 1) rfl nd rfl rfl (by decide) rfl rfl (z_cons (z_var 1 (pv 1)) (z_cons (z_mod (z_var 0 (pv 0)) (z_var 1 (pv 1))) z_nil)) rfl)))
    (zs_one (z_ret (z_abs rfl T.m_abs (z_cons (z_var 0 (pv 0)) z_nil))))), pure_divisor ds μ Q E h⟩
theorem len_ratio (ds : List D) (μ : Mu) (Q : ZQ) (E : ZX) (h : F_ratio ds μ Q E) : ds.length = 2 := by
  first
    | (unfold F_ratio at h; (split at h) <;> first | rfl | exact h.elim)
    | (unfold F_ratio F_determinant at h; (split at h) <;> first | rfl | exact h.elim)
theorem sc_ratio : FnScope ["top", "bottom", "shared"] ["top", "bottom"] (defScope s_ratio) := ⟨rfl, rfl, rfl, by decide +kernel, rfl, by decide +kernel, by decide +kernel⟩
theorem ok_ratio {P : Program} {w : World} {K : PySem.W.Frag} {mg : Str → Option Value} {base : Heap} (T : Tb K mg) : Keeps P w K mg base 2 "ratio" ["top", "bottom"] F_ratio :=
  T.d_ratio.keeps (N := ["top", "bottom", "shared"]) sc_ratio len_ratio (fun _ _ _ _ _ _ us hl => match us, hl with | [_, _], _ => rfl) fun cdv A outer s H Ex B ds μ Q E hr h tk => ⟨t_ratio , by
    have nd := sc_ratio.nd
    exact (zs_cons (z_set (i := 2) nd rfl (.inl rfl) (z_def (ok_divisor T) (hr.mono (by decide)) rfl tk_no (z_cons (z_var 0 (pv 0)) (z_cons (z_var 1 (pv 1)) z_nil))))
    (zs_cons (z_ifS (z_cmpT op_lt (ok_cmp _) (z_var 1 (pv 1)) z_int (nomark _)) (zs_one (z_set (i := 2) nd rfl (.inl rfl) (z_neg (z_var 2 (pv 2))))) zs_nil)
    (zs_one (z_ret (z_tup (z_cons (z_div (z_var 0 (pv 0)) (z_var 2 (pv 2))) (z_cons (z_div (z_var 1 (pv 1)) (z_var 2 (pv 2))) z_nil))))))), pure_ratio ds μ Q E h⟩
theorem len_is_integer (ds : List D) (μ : Mu) (Q : ZQ) (E : ZX) (h : F_is_integer ds μ Q E) : ds.length = 1 := by
  first
    | (unfold F_is_integer at h; (split at h) <;> first | rfl | exact h.elim)
    | (unfold F_is_integer F_determinant at h; (split at h) <;> first | rfl | exact h.elim)
theorem sc_is_integer : FnScope ["value"] ["value"] (defScope s_is_integer) := ⟨rfl, rfl, rfl, by decide +kernel, rfl, by decide +kernel, by decide +kernel⟩
theorem ok_is_integer {P : Program} {w : World} {K : PySem.W.Frag} {mg : Str → Option Value} {base : Heap} (T : Tb K mg) : Keeps P w K mg base 1 "is_integer" ["value"] F_is_integer :=
  T.d_is_integer.keeps (N := ["value"]) sc_is_integer len_is_integer (fun _ _ _ _ _ _ us hl => match us, hl with | [_], _ => rfl) fun cdv A outer s H Ex B ds μ Q E hr h tk => ⟨t_is_integer , by
    have nd := sc_is_integer.nd
    exact (zs_one (z_ret (z_andV (z_isi ty_int rfl T.m_isinstance (z_var 0 (pv 0)) rfl T.m_int boot_int') (pe_one (z_notV (z_isi ty_bool rfl T.m_isinstance (z_var 0 (pv 0)) rfl T.m_bool boot_bool')))))), pure_is_integer ds μ Q E h⟩
theorem len_is_between (ds : List D) (μ : Mu) (Q : ZQ) (E : ZX) (h : F_is_between ds μ Q E) : ds.length = 3 := by
  first
    | (unfold F_is_between at h; (split at h) <;> first | rfl | exact h.elim)
    | (unfold F_is_between F_determinant at h; (split at h) <;> first | rfl | exact h.elim)
theorem sc_is_between : FnScope ["value", "low", "high"] ["value", "low", "high"] (defScope s_is_between) := ⟨rfl, rfl, rfl, by decide +kernel, rfl, by decide +kernel, by decide +kernel⟩
theorem ok_is_between {P : Program} {w : World} {K : PySem.W.Frag} {mg : Str → Option Value} {base : Heap} (T : Tb K mg) : Keeps P w K mg base 2 "is_between" ["value", "low", "high"] F_is_between :=
  T.d_is_between.keeps (N := ["value", "low", "high"]) sc_is_between len_is_between (fun _ _ _ _ _ _ us hl => match us, hl with | [_, _, _], _ => rfl) fun cdv A outer s H Ex B ds μ Q E hr h tk => ⟨t_is_between , by
    have nd := sc_is_between.nd
    exact (zs_one (z_ret (z_andV (z_def (ok_is_integer T) (hr.mono (by decide)) rfl tk_no (z_cons (z_var 0 (pv 0)) z_nil)) (pe_one (z_chain op_le op_le (ok_cmp _) (ok_cmp _) (z_var 1 (pv 1)) (z_var 0 (pv 0)) (z_var 2 (pv 2))))))), pure_is_between ds μ Q E h⟩
theorem len_is_fraction (ds : List D) (μ : Mu) (Q : ZQ) (E : ZX) (h : F_is_fraction ds μ Q E) : ds.length = 1 := by
  first
    | (unfold F_is_fraction at h; (split at h) <;> first | rfl | exact h.elim)
    | (unfold F_is_fraction F_determinant at h; (split at h) <;> first | rfl | exact h.elim)
theorem sc_is_fraction : FnScope ["value"] ["value"] (defScope s_is_fraction) := ⟨rfl, rfl, rfl, by decide +kernel, rfl, by decide +kernel, by decide +kernel⟩
theorem ok_is_fraction {P : Program} {w : World} {K : PySem.W.Frag} {mg : Str → Option Value} {base : Heap} (T : Tb K mg) : Keeps P w K mg base 2 "is_fraction" ["value"] F_is_fraction :=
  T.d_is_fraction.keeps (N := ["value"]) sc_is_fraction len_is_fraction (fun _ _ _ _ _ _ us hl => match us, hl with | [_], _ => rfl) fun cdv A outer s H Ex B ds μ Q E hr h tk => ⟨t_is_fraction , by
    have nd := sc_is_fraction.nd
    exact (zs_cons (z_ifS (PW.pt (z_or (z_not (z_valT (z_isi ty_tuple rfl T.m_isinstance (z_var 0 (pv 0)) rfl T.m_tuple boot_tuple'))) (z_or (z_cmpT (op_neD hr.units) ok_ne (z_len rfl T.m_len (z_cons (z_var 0 (pv 0)) z_nil)) z_int (nomark _)) (z_or (z_not (z_valT (z_def (ok_is_integer T) (hr.mono (by decide)) rfl tk_no (z_cons (z_ix (z_var 0 (pv 0)) z_int) z_nil)))) (z_or1 (z_not (z_valT (z_def (ok_is_integer T) (hr.mono (by decide)) rfl tk_no (z_cons (z_ix (z_var 0 (pv 0)) z_int) z_nil))))))))) (zs_one (z_ret z_bl)) zs_nil)
    (zs_one (z_ret (z_andV (z_gt (z_ix (z_var 0 (pv 0)) z_int) z_int) (pe_one (z_eq hr.units (z_def (ok_divisor T) (hr.mono (by decide)) rfl tk_no (z_cons (z_ix (z_var 0 (pv 0)) z_int) (z_cons (z_ix (z_var 0 (pv 0)) z_int) z_nil))) z_int)))))), pure_is_fraction ds μ Q E h⟩
theorem len_product (ds : List D) (μ : Mu) (Q : ZQ) (E : ZX) (h : F_product ds μ Q E) : ds.length = 2 := by
  first
    | (unfold F_product at h; (split at h) <;> first | rfl | exact h.elim)
    | (unfold F_product F_determinant at h; (split at h) <;> first | rfl | exact h.elim)
theorem sc_product : FnScope ["one", "other", "x", "y"] ["one", "other"] (defScope s_product) := ⟨rfl, rfl, rfl, by decide +kernel, rfl, by decide +kernel, by decide +kernel⟩
theorem ok_product {P : Program} {w : World} {K : PySem.W.Frag} {mg : Str → Option Value} {base : Heap} (T : Tb K mg) : Keeps P w K mg base 1 "product" ["one", "other"] F_product :=
  T.d_product.keeps (N := ["one", "other", "x", "y"]) sc_product len_product (fun _ _ _ _ _ _ us hl => match us, hl with | [_, _], _ => rfl) fun cdv A outer s H Ex B ds μ Q E hr h tk => ⟨t_product , by
    have nd := sc_product.nd
    exact (zs_one (z_ret (z_sum rfl rfl T.m_sum (z_cons (z_lc (own := [("x", 2), ("y", 3)]) false rfl nd (z_zip rfl T.m_zip (z_cons (z_var 0 (pv 0)) (z_cons (z_var 1 (pv 1)) z_nil))) (blkOk_by (own := [("x", 2), ("y", 3)]) (by kernel_rfl)) (by decide) (fun _ _ _ _ _ => (tg_many rfl (tgs_cons (pg_name (i := 2) nd rfl (.inl rfl)) (tgs_cons (pg_name (i := 3) nd rfl (.inl rfl)) tgs_nil)))) (fun _ _ _ _ _ _ => (zts_nil _)) (fun _ _ _ _ _ _ => (z_mul (z_var 2 (pv 2)) (z_var 3 (pv 3))))) z_nil)))), pure_product ds μ Q E h⟩
theorem len_determinant_1 (ds : List D) (μ : Mu) (Q : ZQ) (E : ZX) (h : F_determinant_1 ds μ Q E) : ds.length = 1 := by
  first
    | (unfold F_determinant_1 at h; (split at h) <;> first | rfl | exact h.elim)
    | (unfold F_determinant_1 F_determinant at h; (split at h) <;> first | rfl | exact h.elim)
theorem len_determinant_2 (ds : List D) (μ : Mu) (Q : ZQ) (E : ZX) (h : F_determinant ds μ Q E) : ds.length = 1 := by
  first
    | (unfold F_determinant at h; (split at h) <;> first | rfl | exact h.elim)
    | (unfold F_determinant F_determinant at h; (split at h) <;> first | rfl | exact h.elim)
theorem sc_determinant : FnScope ["rows", "found", "place", "rest", "row"] ["rows"] (defScope s_determinant) := ⟨rfl, rfl, rfl, by decide +kernel, rfl, by decide +kernel, by decide +kernel⟩
theorem ok_determinant_0 {P : Program} {w : World} {K : PySem.W.Frag} {mg : Str → Option Value} {base : Heap} (T : Tb K mg) : Keeps P w K mg base 0 "determinant" ["rows"] noF := T.d_determinant.never (fun _ _ _ _ _ _ us hl => match us, hl with | [_], _ => rfl)
theorem ok_determinant_1 {P : Program} {w : World} {K : PySem.W.Frag} {mg : Str → Option Value} {base : Heap} (T : Tb K mg) : Keeps P w K mg base 1 "determinant" ["rows"] F_determinant_1 :=
  T.d_determinant.keeps (N := ["rows", "found", "place", "rest", "row"]) sc_determinant len_determinant_1 (fun _ _ _ _ _ _ us hl => match us, hl with | [_], _ => rfl) fun cdv A outer s H Ex B ds μ Q E hr h tk => ⟨t_determinant noF, by
    have nd := sc_determinant.nd
    have ok_determinant_in := fun T : Tb K mg => @ok_determinant_0 P w K mg base T
    exact (zs_cons (z_ifS (z_cmpT (op_eqD hr.units) ok_eq (z_len rfl T.m_len (z_cons (z_var 0 (pv 0)) z_nil)) z_int (nomark _)) (zs_one (z_ret (z_ix (z_ix (z_var 0 (pv 0)) z_int) z_int))) zs_nil)
    (zs_cons (z_ifS (z_cmpT (op_eqD hr.units) ok_eq (z_len rfl T.m_len (z_cons (z_var 0 (pv 0)) z_nil)) z_int (nomark _)) (zs_one (z_ret (z_sub (z_mul (z_ix (z_ix (z_var 0 (pv 0)) z_int) z_int) (z_ix (z_ix (z_var 0 (pv 0)) z_int) z_int)) (z_mul (z_ix (z_ix (z_var 0 (pv 0)) z_int) z_int) (z_ix (z_ix (z_var 0 (pv 0)) z_int) z_int))))) zs_nil)
    (zs_cons (z_set (i := 1) nd rfl (.inl rfl) z_int)
    (zs_cons (z_for (tg := (.one 2)) (passes_of rfl) rfl (z_rng1 rfl T.m_range (z_cons z_int z_nil)) (tg_one (i := 2) nd rfl (.inr rfl)) (zs_cons (z_setLc (i := 3) (own := [("row", 4)]) false rfl nd rfl rfl (sw_true rfl rfl rfl (by decide +kernel)) (z_it (z_slice false (z_var 0 (pv 0)) (z_part z_int) z_nopart)) (blkOk_by (own := [("row", 4)]) (by kernel_rfl)) (by decide) (fun _ _ _ _ _ => (tg_one (i := 4) nd rfl (.inl rfl))) (fun _ _ _ _ _ _ => (zts_nil _)) (fun _ _ _ _ _ _ => (z_add false (z_slice false (z_var 4 (pv 4)) z_nopart (z_part (z_var 2 (pv 2)))) (z_slice false (z_var 4 (pv 4)) (z_part (z_add false (z_var 2 (pv 2)) z_int)) z_nopart))))
    (zs_one (z_set (i := 1) nd rfl (.inl rfl) (z_add false (z_var 1 (pv 1)) (z_mul (z_mul (z_sub z_int (z_mul z_int (z_mod (z_var 2 (pv 2)) z_int))) (z_ix (z_ix (z_var 0 (pv 0)) z_int) (z_var 2 (pv 2)))) (z_def (ok_determinant_in T) (hr.mono (by decide)) rfl tk_no (z_cons (z_var 3 (pv 3)) z_nil))))))))
    (zs_one (z_ret (z_var 1 (pv 1)))))))), pure_determinant_1 ds μ Q E h⟩
theorem ok_determinant {P : Program} {w : World} {K : PySem.W.Frag} {mg : Str → Option Value} {base : Heap} (T : Tb K mg) : Keeps P w K mg base 2 "determinant" ["rows"] F_determinant :=
  T.d_determinant.keeps (N := ["rows", "found", "place", "rest", "row"]) sc_determinant len_determinant_2 (fun _ _ _ _ _ _ us hl => match us, hl with | [_], _ => rfl) fun cdv A outer s H Ex B ds μ Q E hr h tk => ⟨t_determinant F_determinant_1, by
    have nd := sc_determinant.nd
    have ok_determinant_in := fun T : Tb K mg => @ok_determinant_1 P w K mg base T
    exact (zs_cons (z_ifS (z_cmpT (op_eqD hr.units) ok_eq (z_len rfl T.m_len (z_cons (z_var 0 (pv 0)) z_nil)) z_int (nomark _)) (zs_one (z_ret (z_ix (z_ix (z_var 0 (pv 0)) z_int) z_int))) zs_nil)
    (zs_cons (z_ifS (z_cmpT (op_eqD hr.units) ok_eq (z_len rfl T.m_len (z_cons (z_var 0 (pv 0)) z_nil)) z_int (nomark _)) (zs_one (z_ret (z_sub (z_mul (z_ix (z_ix (z_var 0 (pv 0)) z_int) z_int) (z_ix (z_ix (z_var 0 (pv 0)) z_int) z_int)) (z_mul (z_ix (z_ix (z_var 0 (pv 0)) z_int) z_int) (z_ix (z_ix (z_var 0 (pv 0)) z_int) z_int))))) zs_nil)
    (zs_cons (z_set (i := 1) nd rfl (.inl rfl) z_int)
    (zs_cons (z_for (tg := (.one 2)) (passes_of rfl) rfl (z_rng1 rfl T.m_range (z_cons z_int z_nil)) (tg_one (i := 2) nd rfl (.inr rfl)) (zs_cons (z_setLc (i := 3) (own := [("row", 4)]) false rfl nd rfl rfl (sw_true rfl rfl rfl (by decide +kernel)) (z_it (z_slice false (z_var 0 (pv 0)) (z_part z_int) z_nopart)) (blkOk_by (own := [("row", 4)]) (by kernel_rfl)) (by decide) (fun _ _ _ _ _ => (tg_one (i := 4) nd rfl (.inl rfl))) (fun _ _ _ _ _ _ => (zts_nil _)) (fun _ _ _ _ _ _ => (z_add false (z_slice false (z_var 4 (pv 4)) z_nopart (z_part (z_var 2 (pv 2)))) (z_slice false (z_var 4 (pv 4)) (z_part (z_add false (z_var 2 (pv 2)) z_int)) z_nopart))))
    (zs_one (z_set (i := 1) nd rfl (.inl rfl) (z_add false (z_var 1 (pv 1)) (z_mul (z_mul (z_sub z_int (z_mul z_int (z_mod (z_var 2 (pv 2)) z_int))) (z_ix (z_ix (z_var 0 (pv 0)) z_int) (z_var 2 (pv 2)))) (z_def (ok_determinant_in T) (hr.mono (by decide)) rfl tk_no (z_cons (z_var 3 (pv 3)) z_nil))))))))
    (zs_one (z_ret (z_var 1 (pv 1)))))))), pure_determinant_2 ds μ Q E h⟩
theorem len_is_vector (ds : List D) (μ : Mu) (Q : ZQ) (E : ZX) (h : F_is_vector ds μ Q E) : ds.length = 2 := by
  first
    | (unfold F_is_vector at h; (split at h) <;> first | rfl | exact h.elim)
    | (unfold F_is_vector F_determinant at h; (split at h) <;> first | rfl | exact h.elim)
theorem sc_is_vector : FnScope ["n", "value", "entry"] ["n", "value"] (defScope s_is_vector) := ⟨rfl, rfl, rfl, by decide +kernel, rfl, by decide +kernel, by decide +kernel⟩
theorem ok_is_vector {P : Program} {w : World} {K : PySem.W.Frag} {mg : Str → Option Value} {base : Heap} (T : Tb K mg) : Keeps P w K mg base 3 "is_vector" ["n", "value"] F_is_vector :=
  T.d_is_vector.keeps (N := ["n", "value", "entry"]) sc_is_vector len_is_vector (fun _ _ _ _ _ _ us hl => match us, hl with | [_, _], _ => rfl) fun cdv A outer s H Ex B ds μ Q E hr h tk => ⟨t_is_vector , by
    have nd := sc_is_vector.nd
    exact (zs_cons (z_ifS (PW.pt (z_or (z_not (z_valT (z_isi ty_tuple rfl T.m_isinstance (z_var 1 (pv 1)) rfl T.m_tuple boot_tuple'))) (z_or1 (z_cmpT (op_neD hr.units) ok_ne (z_len rfl T.m_len (z_cons (z_var 1 (pv 1)) z_nil)) (z_var 0 (pv 0)) (nomark _))))) (zs_one (z_ret z_bl)) zs_nil)
    (zs_one (z_ret (z_all rfl rfl T.m_all (z_cons (z_lc (own := [("entry", 2)]) false rfl nd (z_it (z_var 1 (pv 1))) (blkOk_by (own := [("entry", 2)]) (by kernel_rfl)) (by decide) (fun _ _ _ _ _ => (tg_one (i := 2) nd rfl (.inl rfl))) (fun _ _ _ _ _ _ => (zts_nil _)) (fun _ _ _ _ _ _ => (z_def (ok_is_between T) (hr.mono (by decide)) rfl tk_no (z_cons (z_var 2 (pv 2)) (z_cons (z_neg (z_const T.c_LIMIT rfl)) (z_cons (z_const T.c_LIMIT rfl) z_nil)))))) z_nil))))), pure_is_vector ds μ Q E h⟩
theorem len_is_basis (ds : List D) (μ : Mu) (Q : ZQ) (E : ZX) (h : F_is_basis ds μ Q E) : ds.length = 1 := by
  first
    | (unfold F_is_basis at h; (split at h) <;> first | rfl | exact h.elim)
    | (unfold F_is_basis F_determinant at h; (split at h) <;> first | rfl | exact h.elim)
theorem sc_is_basis : FnScope ["value", "row"] ["value"] (defScope s_is_basis) := ⟨rfl, rfl, rfl, by decide +kernel, rfl, by decide +kernel, by decide +kernel⟩
theorem ok_is_basis {P : Program} {w : World} {K : PySem.W.Frag} {mg : Str → Option Value} {base : Heap} (T : Tb K mg) : Keeps P w K mg base 4 "is_basis" ["value"] F_is_basis :=
  T.d_is_basis.keeps (N := ["value", "row"]) sc_is_basis len_is_basis (fun _ _ _ _ _ _ us hl => match us, hl with | [_], _ => rfl) fun cdv A outer s H Ex B ds μ Q E hr h tk => ⟨t_is_basis , by
    have nd := sc_is_basis.nd
    exact (zs_cons (z_ifS (PW.pt (z_or (z_not (z_valT (z_isi ty_tuple rfl T.m_isinstance (z_var 0 (pv 0)) rfl T.m_tuple boot_tuple'))) (z_or1 (z_not (z_chainT op_le op_le (ok_cmp _) (ok_cmp _) z_int (z_len rfl T.m_len (z_cons (z_var 0 (pv 0)) z_nil)) z_int))))) (zs_one (z_ret z_bl)) zs_nil)
    (zs_one (z_ret (z_andV (z_all rfl rfl T.m_all (z_cons (z_lc (own := [("row", 1)]) false rfl nd (z_it (z_var 0 (pv 0))) (blkOk_by (own := [("row", 1)]) (by kernel_rfl)) (by decide) (fun _ _ _ _ _ => (tg_one (i := 1) nd rfl (.inl rfl))) (fun _ _ _ _ _ _ => (zts_nil _)) (fun _ _ _ _ _ _ => (z_def (ok_is_vector T) (hr.mono (by decide)) rfl tk_no (z_cons (z_len rfl T.m_len (z_cons (z_var 0 (pv 0)) z_nil)) (z_cons (z_var 1 (pv 1)) z_nil))))) z_nil)) (pe_one (z_ne hr.units (z_def (ok_determinant T) (hr.mono (by decide)) rfl tk_no (z_cons (z_var 0 (pv 0)) z_nil)) z_int)))))), pure_is_basis ds μ Q E h⟩
theorem len_check_basis (ds : List D) (μ : Mu) (Q : ZQ) (E : ZX) (h : F_check_basis ds μ Q E) : ds.length = 1 := by
  first
    | (unfold F_check_basis at h; (split at h) <;> first | rfl | exact h.elim)
    | (unfold F_check_basis F_determinant at h; (split at h) <;> first | rfl | exact h.elim)
theorem sc_check_basis : FnScope ["value"] ["value"] (defScope s_check_basis) := ⟨rfl, rfl, rfl, by decide +kernel, rfl, by decide +kernel, by decide +kernel⟩
theorem ok_check_basis {P : Program} {w : World} {K : PySem.W.Frag} {mg : Str → Option Value} {base : Heap} (T : Tb K mg) : Keeps P w K mg base 5 "check_basis" ["value"] F_check_basis :=
  T.d_check_basis.keeps (N := ["value"]) sc_check_basis len_check_basis (fun _ _ _ _ _ _ us hl => match us, hl with | [_], _ => rfl) fun cdv A outer s H Ex B ds μ Q E hr h tk => ⟨t_check_basis E , by
    have nd := sc_check_basis.nd
    exact (zs_one (z_ifS (z_not (z_valT (z_def (ok_is_basis T) (hr.mono (by decide)) rfl tk_no (z_cons (z_var 0 (pv 0)) z_nil)))) (zs_one (z_raise rfl tk T.x_InvalidBasis rfl)) zs_nil)), pure_check_basis ds μ Q E h⟩
theorem len_check_vector (ds : List D) (μ : Mu) (Q : ZQ) (E : ZX) (h : F_check_vector ds μ Q E) : ds.length = 2 := by
  first
    | (unfold F_check_vector at h; (split at h) <;> first | rfl | exact h.elim)
    | (unfold F_check_vector F_determinant at h; (split at h) <;> first | rfl | exact h.elim)
theorem sc_check_vector : FnScope ["n", "value"] ["n", "value"] (defScope s_check_vector) := ⟨rfl, rfl, rfl, by decide +kernel, rfl, by decide +kernel, by decide +kernel⟩
theorem ok_check_vector {P : Program} {w : World} {K : PySem.W.Frag} {mg : Str → Option Value} {base : Heap} (T : Tb K mg) : Keeps P w K mg base 4 "check_vector" ["n", "value"] F_check_vector :=
  T.d_check_vector.keeps (N := ["n", "value"]) sc_check_vector len_check_vector (fun _ _ _ _ _ _ us hl => match us, hl with | [_, _], _ => rfl) fun cdv A outer s H Ex B ds μ Q E hr h tk => ⟨t_check_vector E , by
    have nd := sc_check_vector.nd
    exact (zs_one (z_ifS (z_not (z_valT (z_def (ok_is_vector T) (hr.mono (by decide)) rfl tk_no (z_cons (z_var 0 (pv 0)) (z_cons (z_var 1 (pv 1)) z_nil))))) (zs_one (z_raise rfl tk T.x_InvalidVector rfl)) zs_nil)), pure_check_vector ds μ Q E h⟩
theorem len_solved (ds : List D) (μ : Mu) (Q : ZQ) (E : ZX) (h : F_solved ds μ Q E) : ds.length = 2 := by
  first
    | (unfold F_solved at h; (split at h) <;> first | rfl | exact h.elim)
    | (unfold F_solved F_determinant at h; (split at h) <;> first | rfl | exact h.elim)
theorem sc_solved : FnScope ["basis", "vector", "found", "place", "rows", "other", "row"] ["basis", "vector"] (defScope s_solved) := ⟨rfl, rfl, rfl, by decide +kernel, rfl, by decide +kernel, by decide +kernel⟩
theorem ok_solved {P : Program} {w : World} {K : PySem.W.Frag} {mg : Str → Option Value} {base : Heap} (T : Tb K mg) : Keeps P w K mg base 3 "solved" ["basis", "vector"] F_solved :=
  T.d_solved.keeps (N := ["basis", "vector", "found", "place", "rows", "other", "row"]) sc_solved len_solved (fun _ _ _ _ _ _ us hl => match us, hl with | [_, _], _ => rfl) fun cdv A outer s H Ex B ds μ Q E hr h tk => ⟨t_solved , by
    have nd := sc_solved.nd
    exact (zs_cons (z_set (i := 2) nd rfl (.inl rfl) (z_lst true z_nil))
    (zs_cons (z_for (tg := (.one 3)) (passes_of rfl) rfl (z_rng1 rfl T.m_range (z_cons (z_len rfl T.m_len (z_cons (z_var 0 (pv 0)) z_nil)) z_nil)) (tg_one (i := 3) nd rfl (.inr rfl)) (zs_cons (z_setLc (i := 4) (own := [("other", 5), ("row", 6)]) false rfl nd rfl rfl (sw_true rfl rfl rfl (by decide +kernel)) (z_enum rfl T.m_enumerate (z_cons (z_var 0 (pv 0)) z_nil)) (blkOk_by (own := [("other", 5), ("row", 6)]) (by kernel_rfl)) (by decide) (fun _ _ _ _ _ => (tg_many rfl (tgs_cons (pg_name (i := 5) nd rfl (.inl rfl)) (tgs_cons (pg_name (i := 6) nd rfl (.inl rfl)) tgs_nil)))) (fun _ _ _ _ _ _ => (zts_nil _)) (fun _ _ _ _ _ _ => (z_if (z_cmpT (op_eqD hr.units) ok_eq (z_var 5 (pv 5)) (z_var 3 (pv 3)) (nomark _)) (z_var 1 (pv 1)) (z_var 6 (pv 6)))))
    (zs_one (z_expr (z_app (z_var 2 (pv 2)) (z_def (ok_determinant T) (hr.mono (by decide)) rfl tk_no (z_cons (z_var 4 (pv 4)) z_nil)))))))
    (zs_frz 2 (zs_one (z_ret (z_var 2 (pv 2))))))), pure_solved ds μ Q E h⟩
theorem len_whole_coefficients (ds : List D) (μ : Mu) (Q : ZQ) (E : ZX) (h : F_whole_coefficients ds μ Q E) : ds.length = 2 := by
  first
    | (unfold F_whole_coefficients at h; (split at h) <;> first | rfl | exact h.elim)
    | (unfold F_whole_coefficients F_determinant at h; (split at h) <;> first | rfl | exact h.elim)
theorem sc_whole_coefficients : FnScope ["basis", "vector", "whole", "found", "entry"] ["basis", "vector"] (defScope s_whole_coefficients) := ⟨rfl, rfl, rfl, by decide +kernel, rfl, by decide +kernel, by decide +kernel⟩
theorem ok_whole_coefficients {P : Program} {w : World} {K : PySem.W.Frag} {mg : Str → Option Value} {base : Heap} (T : Tb K mg) : Keeps P w K mg base 4 "whole_coefficients" ["basis", "vector"] F_whole_coefficients :=
  T.d_whole_coefficients.keeps (N := ["basis", "vector", "whole", "found", "entry"]) sc_whole_coefficients len_whole_coefficients (fun _ _ _ _ _ _ us hl => match us, hl with | [_, _], _ => rfl) fun cdv A outer s H Ex B ds μ Q E hr h tk => ⟨t_whole_coefficients , by
    have nd := sc_whole_coefficients.nd
    exact (zs_cons (z_set (i := 2) nd rfl (.inr rfl) (z_def (ok_determinant T) (hr.mono (by decide)) rfl tk_no (z_cons (z_var 0 (pv 0)) z_nil)))
    (zs_cons (z_set (i := 3) nd rfl (.inl rfl) (z_def (ok_solved T) (hr.mono (by decide)) rfl tk_no (z_cons (z_var 0 (pv 0)) (z_cons (z_var 1 (pv 1)) z_nil))))
    (zs_cons (z_ifS (z_valT (z_any rfl rfl T.m_any (z_cons (z_lc (own := [("entry", 4)]) false rfl nd (z_it (z_var 3 (pv 3))) (blkOk_by (own := [("entry", 4)]) (by kernel_rfl)) (by decide) (fun _ _ _ _ _ => (tg_one (i := 4) nd rfl (.inl rfl))) (fun _ _ _ _ _ _ => (zts_nil _)) (fun _ _ _ _ _ _ => (z_ne hr.units (z_mod (z_var 4 (pv 4)) (z_var 2 (pv 2))) z_int))) z_nil))) (zs_one (z_ret z_non)) zs_nil)
    (zs_one (z_ret (z_tuple rfl T.m_tuple (z_cons (z_lc (own := [("entry", 4)]) false rfl nd (z_it (z_var 3 (pv 3))) (blkOk_by (own := [("entry", 4)]) (by kernel_rfl)) (by decide) (fun _ _ _ _ _ => (tg_one (i := 4) nd rfl (.inl rfl))) (fun _ _ _ _ _ _ => (zts_nil _)) (fun _ _ _ _ _ _ => (z_div (z_var 4 (pv 4)) (z_var 2 (pv 2))))) z_nil))))))), pure_whole_coefficients ds μ Q E h⟩
theorem len_coefficients (ds : List D) (μ : Mu) (Q : ZQ) (E : ZX) (h : F_coefficients ds μ Q E) : ds.length = 2 := by
  first
    | (unfold F_coefficients at h; (split at h) <;> first | rfl | exact h.elim)
    | (unfold F_coefficients F_determinant at h; (split at h) <;> first | rfl | exact h.elim)
theorem sc_coefficients : FnScope ["basis", "vector"] ["basis", "vector"] (defScope s_coefficients) := ⟨rfl, rfl, rfl, by decide +kernel, rfl, by decide +kernel, by decide +kernel⟩
theorem ok_coefficients {P : Program} {w : World} {K : PySem.W.Frag} {mg : Str → Option Value} {base : Heap} (T : Tb K mg) : Keeps P w K mg base 6 "coefficients" ["basis", "vector"] F_coefficients :=
  T.d_coefficients.keeps (N := ["basis", "vector"]) sc_coefficients len_coefficients (fun _ _ _ _ _ _ us hl => match us, hl with | [_, _], _ => rfl) fun cdv A outer s H Ex B ds μ Q E hr h tk => ⟨t_coefficients E , by
    have nd := sc_coefficients.nd
    exact (zs_cons (z_expr (z_def (ok_check_basis T) (hr.mono (by decide)) rfl tk (z_cons (z_var 0 (pv 0)) z_nil)))
    (zs_cons (z_expr (z_def (ok_check_vector T) (hr.mono (by decide)) rfl tk (z_cons (z_len rfl T.m_len (z_cons (z_var 0 (pv 0)) z_nil)) (z_cons (z_var 1 (pv 1)) z_nil))))
    (zs_one (z_ret (z_def (ok_whole_coefficients T) (hr.mono (by decide)) rfl tk_no (z_cons (z_var 0 (pv 0)) (z_cons (z_var 1 (pv 1)) z_nil))))))), pure_coefficients ds μ Q E h⟩
theorem len_dual_rows (ds : List D) (μ : Mu) (Q : ZQ) (E : ZX) (h : F_dual_rows ds μ Q E) : ds.length = 1 := by
  first
    | (unfold F_dual_rows at h; (split at h) <;> first | rfl | exact h.elim)
    | (unfold F_dual_rows F_determinant at h; (split at h) <;> first | rfl | exact h.elim)
theorem sc_dual_rows : FnScope ["basis", "n", "found", "place", "row", "column", "unit", "other", "line"] ["basis"] (defScope s_dual_rows) := ⟨rfl, rfl, rfl, by decide +kernel, rfl, by decide +kernel, by decide +kernel⟩
theorem ok_dual_rows {P : Program} {w : World} {K : PySem.W.Frag} {mg : Str → Option Value} {base : Heap} (T : Tb K mg) : Keeps P w K mg base 3 "dual_rows" ["basis"] F_dual_rows :=
  T.d_dual_rows.keeps (N := ["basis", "n", "found", "place", "row", "column", "unit", "other", "line"]) sc_dual_rows len_dual_rows (fun _ _ _ _ _ _ us hl => match us, hl with | [_], _ => rfl) fun cdv A outer s H Ex B ds μ Q E hr h tk => ⟨t_dual_rows , by
    have nd := sc_dual_rows.nd
    exact (zs_cons (z_set (i := 1) nd rfl (.inl rfl) (z_len rfl T.m_len (z_cons (z_var 0 (pv 0)) z_nil)))
    (zs_cons (z_set (i := 2) nd rfl (.inl rfl) (z_lst true z_nil))
    (zs_cons (z_for (tg := (.one 3)) (passes_of rfl) rfl (z_rng1 rfl T.m_range (z_cons (z_var 1 (pv 1)) z_nil)) (tg_one (i := 3) nd rfl (.inr rfl)) (zs_cons (z_set (i := 4) nd rfl (.inl rfl) (z_lst true z_nil))
    (zs_cons (z_for (tg := (.one 5)) (passes_of rfl) rfl (z_rng1 rfl T.m_range (z_cons (z_var 1 (pv 1)) z_nil)) (tg_one (i := 5) nd rfl (.inr rfl)) (zs_cons (z_set (i := 6) nd rfl (.inr rfl) (z_tuple rfl T.m_tuple (z_cons (z_lc (own := [("other", 7)]) false rfl nd (z_rng1 rfl T.m_range (z_cons (z_var 1 (pv 1)) z_nil)) (blkOk_by (own := [("other", 7)]) (by kernel_rfl)) (by decide) (fun _ _ _ _ _ => (tg_one (i := 7) nd rfl (.inl rfl))) (fun _ _ _ _ _ _ => (zts_nil _)) (fun _ _ _ _ _ _ => (z_toint rfl T.m_int (z_cons (z_eq hr.units (z_var 7 (pv 7)) (z_var 5 (pv 5))) z_nil)))) z_nil)))
    (zs_one (z_expr (z_app (z_var 4 (pv 4)) (z_def (ok_determinant T) (hr.mono (by decide)) rfl tk_no (z_cons (z_lc (own := [("other", 7), ("line", 8)]) false rfl nd (z_enum rfl T.m_enumerate (z_cons (z_var 0 (pv 0)) z_nil)) (blkOk_by (own := [("other", 7), ("line", 8)]) (by kernel_rfl)) (by decide) (fun _ _ _ _ _ => (tg_many rfl (tgs_cons (pg_name (i := 7) nd rfl (.inl rfl)) (tgs_cons (pg_name (i := 8) nd rfl (.inl rfl)) tgs_nil)))) (fun _ _ _ _ _ _ => (zts_nil _)) (fun _ _ _ _ _ _ => (z_if (z_cmpT (op_eqD hr.units) ok_eq (z_var 7 (pv 7)) (z_var 3 (pv 3)) (nomark _)) (z_var 6 (pv 6)) (z_var 8 (pv 8))))) z_nil)))))))
    (zs_one (z_expr (z_app (z_var 2 (pv 2)) (z_tuple rfl T.m_tuple (z_cons (z_var 4 (pv 4)) z_nil))))))))
    (zs_frz 4 (zs_frz 2 (zs_one (z_ret (z_var 2 (pv 2))))))))), pure_dual_rows ds μ Q E h⟩
theorem len_test_vector (ds : List D) (μ : Mu) (Q : ZQ) (E : ZX) (h : F_test_vector ds μ Q E) : ds.length = 2 := by
  first
    | (unfold F_test_vector at h; (split at h) <;> first | rfl | exact h.elim)
    | (unfold F_test_vector F_determinant at h; (split at h) <;> first | rfl | exact h.elim)
theorem sc_test_vector : FnScope ["basis", "vector", "whole", "row", "entry"] ["basis", "vector"] (defScope s_test_vector) := ⟨rfl, rfl, rfl, by decide +kernel, rfl, by decide +kernel, by decide +kernel⟩
theorem ok_test_vector {P : Program} {w : World} {K : PySem.W.Frag} {mg : Str → Option Value} {base : Heap} (T : Tb K mg) : Keeps P w K mg base 6 "test_vector" ["basis", "vector"] F_test_vector :=
  T.d_test_vector.keeps (N := ["basis", "vector", "whole", "row", "entry"]) sc_test_vector len_test_vector (fun _ _ _ _ _ _ us hl => match us, hl with | [_, _], _ => rfl) fun cdv A outer s H Ex B ds μ Q E hr h tk => ⟨t_test_vector E , by
    have nd := sc_test_vector.nd
    exact (zs_cons (z_expr (z_def (ok_check_basis T) (hr.mono (by decide)) rfl tk (z_cons (z_var 0 (pv 0)) z_nil)))
    (zs_cons (z_expr (z_def (ok_check_vector T) (hr.mono (by decide)) rfl tk (z_cons (z_len rfl T.m_len (z_cons (z_var 0 (pv 0)) z_nil)) (z_cons (z_var 1 (pv 1)) z_nil))))
    (zs_cons (z_set (i := 2) nd rfl (.inr rfl) (z_def (ok_determinant T) (hr.mono (by decide)) rfl tk_no (z_cons (z_var 0 (pv 0)) z_nil)))
    (zs_cons (z_for (tg := (.one 3)) (passes_of rfl) rfl (z_it (z_def (ok_dual_rows T) (hr.mono (by decide)) rfl tk_no (z_cons (z_var 0 (pv 0)) z_nil))) (tg_one (i := 3) nd rfl (.inl rfl)) (zs_one (z_ifS (z_cmpT (op_neD hr.units) ok_ne (z_mod (z_def (ok_product T) (hr.mono (by decide)) rfl tk_no (z_cons (z_var 3 (pv 3)) (z_cons (z_var 1 (pv 1)) z_nil))) (z_var 2 (pv 2))) z_int (nomark _)) (zs_one (z_ret (z_tuple rfl T.m_tuple (z_cons (z_lc (own := [("entry", 4)]) false rfl nd (z_it (z_var 3 (pv 3))) (blkOk_by (own := [("entry", 4)]) (by kernel_rfl)) (by decide) (fun _ _ _ _ _ => (tg_one (i := 4) nd rfl (.inl rfl))) (fun _ _ _ _ _ _ => (zts_nil _)) (fun _ _ _ _ _ _ => (z_def (ok_ratio T) (hr.mono (by decide)) rfl tk_no (z_cons (z_var 4 (pv 4)) (z_cons (z_var 2 (pv 2)) z_nil))))) z_nil)))) zs_nil)))
    (zs_one (z_ret z_non)))))), pure_test_vector ds μ Q E h⟩
theorem len_is_whole_product (ds : List D) (μ : Mu) (Q : ZQ) (E : ZX) (h : F_is_whole_product ds μ Q E) : ds.length = 2 := by
  first
    | (unfold F_is_whole_product at h; (split at h) <;> first | rfl | exact h.elim)
    | (unfold F_is_whole_product F_determinant at h; (split at h) <;> first | rfl | exact h.elim)
theorem sc_is_whole_product : FnScope ["fractions", "vector", "bottom", "entry", "x"] ["fractions", "vector"] (defScope s_is_whole_product) := ⟨rfl, rfl, rfl, by decide +kernel, rfl, by decide +kernel, by decide +kernel⟩
theorem ok_is_whole_product {P : Program} {w : World} {K : PySem.W.Frag} {mg : Str → Option Value} {base : Heap} (T : Tb K mg) : Keeps P w K mg base 1 "is_whole_product" ["fractions", "vector"] F_is_whole_product :=
  T.d_is_whole_product.keeps (N := ["fractions", "vector", "bottom", "entry", "x"]) sc_is_whole_product len_is_whole_product (fun _ _ _ _ _ _ us hl => match us, hl with | [_, _], _ => rfl) fun cdv A outer s H Ex B ds μ Q E hr h tk => ⟨t_is_whole_product , by
    have nd := sc_is_whole_product.nd
    exact (zs_cons (z_set (i := 2) nd rfl (.inr rfl) z_int)
    (zs_cons (z_for (tg := (.one 3)) (passes_of rfl) rfl (z_it (z_var 0 (pv 0))) (tg_one (i := 3) nd rfl (.inl rfl)) (zs_one (z_set (i := 2) nd rfl (.inr rfl) (z_mul (z_var 2 (pv 2)) (z_ix (z_var 3 (pv 3)) z_int)))))
    (zs_one (z_ret (z_eq hr.units (z_mod (z_sum rfl rfl T.m_sum (z_cons (z_lc (own := [("entry", 3), ("x", 4)]) false rfl nd (z_zip rfl T.m_zip (z_cons (z_var 0 (pv 0)) (z_cons (z_var 1 (pv 1)) z_nil))) (blkOk_by (own := [("entry", 3), ("x", 4)]) (by kernel_rfl)) (by decide) (fun _ _ _ _ _ => (tg_many rfl (tgs_cons (pg_name (i := 3) nd rfl (.inl rfl)) (tgs_cons (pg_name (i := 4) nd rfl (.inl rfl)) tgs_nil)))) (fun _ _ _ _ _ _ => (zts_nil _)) (fun _ _ _ _ _ _ => (z_mul (z_mul (z_ix (z_var 3 (pv 3)) z_int) (z_div (z_var 2 (pv 2)) (z_ix (z_var 3 (pv 3)) z_int))) (z_var 4 (pv 4))))) z_nil)) (z_var 2 (pv 2))) z_int))))), pure_is_whole_product ds μ Q E h⟩
theorem len_is_test_vector (ds : List D) (μ : Mu) (Q : ZQ) (E : ZX) (h : F_is_test_vector ds μ Q E) : ds.length = 3 := by
  first
    | (unfold F_is_test_vector at h; (split at h) <;> first | rfl | exact h.elim)
    | (unfold F_is_test_vector F_determinant at h; (split at h) <;> first | rfl | exact h.elim)
theorem sc_is_test_vector : FnScope ["basis", "vector", "value", "row", "entry"] ["basis", "vector", "value"] (defScope s_is_test_vector) := ⟨rfl, rfl, rfl, by decide +kernel, rfl, by decide +kernel, by decide +kernel⟩
theorem ok_is_test_vector {P : Program} {w : World} {K : PySem.W.Frag} {mg : Str → Option Value} {base : Heap} (T : Tb K mg) : Keeps P w K mg base 6 "is_test_vector" ["basis", "vector", "value"] F_is_test_vector :=
  T.d_is_test_vector.keeps (N := ["basis", "vector", "value", "row", "entry"]) sc_is_test_vector len_is_test_vector (fun _ _ _ _ _ _ us hl => match us, hl with | [_, _, _], _ => rfl) fun cdv A outer s H Ex B ds μ Q E hr h tk => ⟨t_is_test_vector E , by
    have nd := sc_is_test_vector.nd
    exact (zs_cons (z_expr (z_def (ok_check_basis T) (hr.mono (by decide)) rfl tk (z_cons (z_var 0 (pv 0)) z_nil)))
    (zs_cons (z_expr (z_def (ok_check_vector T) (hr.mono (by decide)) rfl tk (z_cons (z_len rfl T.m_len (z_cons (z_var 0 (pv 0)) z_nil)) (z_cons (z_var 1 (pv 1)) z_nil))))
    (zs_cons (z_ifS (PW.pt (z_or (z_not (z_valT (z_isi ty_tuple rfl T.m_isinstance (z_var 2 (pv 2)) rfl T.m_tuple boot_tuple'))) (z_or (z_cmpT (op_neD hr.units) ok_ne (z_len rfl T.m_len (z_cons (z_var 2 (pv 2)) z_nil)) (z_len rfl T.m_len (z_cons (z_var 0 (pv 0)) z_nil)) (nomark _)) (z_or1 (z_not (z_valT (z_all rfl rfl T.m_all (z_cons (z_lc (own := [("entry", 4)]) false rfl nd (z_it (z_var 2 (pv 2))) (blkOk_by (own := [("entry", 4)]) (by kernel_rfl)) (by decide) (fun _ _ _ _ _ => (tg_one (i := 4) nd rfl (.inl rfl))) (fun _ _ _ _ _ _ => (zts_nil _)) (fun _ _ _ _ _ _ => (z_def (ok_is_fraction T) (hr.mono (by decide)) rfl tk_no (z_cons (z_var 4 (pv 4)) z_nil)))) z_nil)))))))) (zs_one (z_ret z_bl)) zs_nil)
    (zs_cons (z_ifS (z_not (z_valT (z_all rfl rfl T.m_all (z_cons (z_lc (own := [("row", 3)]) false rfl nd (z_it (z_var 0 (pv 0))) (blkOk_by (own := [("row", 3)]) (by kernel_rfl)) (by decide) (fun _ _ _ _ _ => (tg_one (i := 3) nd rfl (.inl rfl))) (fun _ _ _ _ _ _ => (zts_nil _)) (fun _ _ _ _ _ _ => (z_def (ok_is_whole_product T) (hr.mono (by decide)) rfl tk_no (z_cons (z_var 2 (pv 2)) (z_cons (z_var 3 (pv 3)) z_nil))))) z_nil)))) (zs_one (z_ret z_bl)) zs_nil)
    (zs_one (z_ret (z_notV (z_def (ok_is_whole_product T) (hr.mono (by decide)) rfl tk_no (z_cons (z_var 2 (pv 2)) (z_cons (z_var 1 (pv 1)) z_nil)))))))))), pure_is_test_vector ds μ Q E h⟩
theorem len__law_town (ds : List D) (μ : Mu) (Q : ZQ) (E : ZX) (h : F__law_town ds μ Q E) : ds.length = 1 := by
  first
    | (unfold F__law_town at h; (split at h) <;> first | rfl | exact h.elim)
    | (unfold F__law_town F_determinant at h; (split at h) <;> first | rfl | exact h.elim)
theorem sc__law_town : FnScope ["_law_script"] ["_law_script"] (defScope s__law_town) := ⟨rfl, rfl, rfl, by decide +kernel, rfl, by decide +kernel, by decide +kernel⟩
theorem ok__law_town {P : Program} {w : World} {K : PySem.W.Frag} {mg : Str → Option Value} {base : Heap} (T : Tb K mg) : Keeps P w K mg base 1 "_law_town" ["_law_script"] F__law_town :=
  T.d__law_town.keeps (N := ["_law_script"]) sc__law_town len__law_town (fun _ _ _ _ _ _ us hl => match us, hl with | [_], _ => rfl) fun cdv A outer s H Ex B ds μ Q E hr h tk => ⟨t__law_town , by
    have nd := sc__law_town.nd
    exact (zs_one (z_ret (z_add true (z_lst false (z_cons z_int z_nil)) (z_list false rfl T.m_list (z_cons (z_var 0 (pv 0)) z_nil))))), pure__law_town ds μ Q E h⟩
theorem len__law_draw (ds : List D) (μ : Mu) (Q : ZQ) (E : ZX) (h : F__law_draw ds μ Q E) : ds.length = 3 := by
  first
    | (unfold F__law_draw at h; (split at h) <;> first | rfl | exact h.elim)
    | (unfold F__law_draw F_determinant at h; (split at h) <;> first | rfl | exact h.elim)
theorem sc__law_draw : FnScope ["_law_script", "_law_town_here", "_law_limit", "_law_at", "_law_left", "_law_number"] ["_law_script", "_law_town_here", "_law_limit"] (defScope s__law_draw) := ⟨rfl, rfl, rfl, by decide +kernel, rfl, by decide +kernel, by decide +kernel⟩
theorem ok__law_draw {P : Program} {w : World} {K : PySem.W.Frag} {mg : Str → Option Value} {base : Heap} (T : Tb K mg) : Keeps P w K mg base 1 "_law_draw" ["_law_script", "_law_town_here", "_law_limit"] F__law_draw :=
  T.d__law_draw.keeps (N := ["_law_script", "_law_town_here", "_law_limit", "_law_at", "_law_left", "_law_number"]) sc__law_draw len__law_draw (fun _ _ _ _ _ _ us hl => match us, hl with | [_, _, _], _ => rfl) fun cdv A outer s H Ex B ds μ Q E hr h tk => ⟨t__law_draw , by
    have nd := sc__law_draw.nd
    exact (zs_cons (z_setI (z_add false (z_ix (z_var 1 (pv 1)) z_int) z_int) (z_var 1 (pv 1)) z_int)
    (zs_cons (z_ifS (z_cmpT (op_eqD hr.units) ok_eq (z_var 0 (pv 0)) (z_lst false z_nil) (nomark _)) (zs_one (z_ret (z_mod (z_div (z_mul (z_mul (z_ix (z_var 1 (pv 1)) z_int) (z_ix (z_var 1 (pv 1)) z_int)) z_int) z_int) (z_var 2 (pv 2))))) zs_nil)
    (zs_cons (z_set (i := 3) nd rfl (.inl rfl) (z_mod (z_ix (z_var 1 (pv 1)) z_int) (z_len rfl T.m_len (z_cons (z_var 0 (pv 0)) z_nil))))
    (zs_cons (z_set (i := 4) nd rfl (.inl rfl) (z_ix (z_var 1 (pv 1)) (z_add false z_int (z_var 3 (pv 3)))))
    (zs_cons (z_ifS (PW.pt (z_and (z_cmpT op_ge (ok_cmp _) (z_ix (z_var 0 (pv 0)) (z_var 3 (pv 3))) (z_pow z_int z_int) (nomark _)) (z_and1 (z_cmpT op_gt (ok_cmp _) (z_var 4 (pv 4)) z_int (nomark _))))) (zs_cons (z_setI (z_div (z_var 4 (pv 4)) (z_var 2 (pv 2))) (z_var 1 (pv 1)) (z_add false z_int (z_var 3 (pv 3))))
    (zs_one (z_ret (z_mod (z_var 4 (pv 4)) (z_var 2 (pv 2)))))) zs_nil)
    (zs_cons (z_set (i := 5) nd rfl (.inl rfl) (z_mod (z_add false (z_ix (z_var 0 (pv 0)) (z_var 3 (pv 3))) (z_mul z_int (z_ix (z_var 1 (pv 1)) z_int))) z_int))
    (zs_cons (z_set (i := 5) nd rfl (.inl rfl) (z_mod (z_pow (z_var 5 (pv 5)) z_int) z_int))
    (zs_one (z_ret (z_mod (z_div (z_mod (z_add false (z_mul (z_div (z_var 5 (pv 5)) z_int) z_int) (z_var 5 (pv 5))) z_int) z_int) (z_var 2 (pv 2)))))))))))), pure__law_draw ds μ Q E h⟩
theorem len__law_pick (ds : List D) (μ : Mu) (Q : ZQ) (E : ZX) (h : F__law_pick ds μ Q E) : ds.length = 3 := by
  first
    | (unfold F__law_pick at h; (split at h) <;> first | rfl | exact h.elim)
    | (unfold F__law_pick F_determinant at h; (split at h) <;> first | rfl | exact h.elim)
theorem sc__law_pick : FnScope ["_law_script", "_law_town_here", "_law_choices"] ["_law_script", "_law_town_here", "_law_choices"] (defScope s__law_pick) := ⟨rfl, rfl, rfl, by decide +kernel, rfl, by decide +kernel, by decide +kernel⟩
theorem ok__law_pick {P : Program} {w : World} {K : PySem.W.Frag} {mg : Str → Option Value} {base : Heap} (T : Tb K mg) : Keeps P w K mg base 2 "_law_pick" ["_law_script", "_law_town_here", "_law_choices"] F__law_pick :=
  T.d__law_pick.keeps (N := ["_law_script", "_law_town_here", "_law_choices"]) sc__law_pick len__law_pick (fun _ _ _ _ _ _ us hl => match us, hl with | [_, _, _], _ => rfl) fun cdv A outer s H Ex B ds μ Q E hr h tk => ⟨t__law_pick , by
    have nd := sc__law_pick.nd
    exact (zs_one (z_ret (z_ix (z_var 2 (pv 2)) (z_def (ok__law_draw T) (hr.mono (by decide)) rfl tk_no (z_cons (z_var 0 (pv 0)) (z_cons (z_var 1 (pv 1)) (z_cons (z_len rfl T.m_len (z_cons (z_var 2 (pv 2)) z_nil)) z_nil))))))), pure__law_pick ds μ Q E h⟩
theorem len__law_det (ds : List D) (μ : Mu) (Q : ZQ) (E : ZX) (h : F__law_det ds μ Q E) : ds.length = 1 := by
  first
    | (unfold F__law_det at h; (split at h) <;> first | rfl | exact h.elim)
    | (unfold F__law_det F_determinant at h; (split at h) <;> first | rfl | exact h.elim)
theorem sc__law_det : FnScope ["_law_rows", "_law_one", "_law_two", "_law_three", "_law_found"] ["_law_rows"] (defScope s__law_det) := ⟨rfl, rfl, rfl, by decide +kernel, rfl, by decide +kernel, by decide +kernel⟩
theorem ok__law_det {P : Program} {w : World} {K : PySem.W.Frag} {mg : Str → Option Value} {base : Heap} (T : Tb K mg) : Keeps P w K mg base 1 "_law_det" ["_law_rows"] F__law_det :=
  T.d__law_det.keeps (N := ["_law_rows", "_law_one", "_law_two", "_law_three", "_law_found"]) sc__law_det len__law_det (fun _ _ _ _ _ _ us hl => match us, hl with | [_], _ => rfl) fun cdv A outer s H Ex B ds μ Q E hr h tk => ⟨t__law_det , by
    have nd := sc__law_det.nd
    exact (zs_cons (z_ifS (z_cmpT (op_eqD hr.units) ok_eq (z_len rfl T.m_len (z_cons (z_var 0 (pv 0)) z_nil)) z_int (nomark _)) (zs_one (z_ret (z_ix (z_ix (z_var 0 (pv 0)) z_int) z_int))) zs_nil)
    (zs_cons (z_ifS (z_cmpT (op_eqD hr.units) ok_eq (z_len rfl T.m_len (z_cons (z_var 0 (pv 0)) z_nil)) z_int (nomark _)) (zs_one (z_ret (z_sub (z_mul (z_ix (z_ix (z_var 0 (pv 0)) z_int) z_int) (z_ix (z_ix (z_var 0 (pv 0)) z_int) z_int)) (z_mul (z_ix (z_ix (z_var 0 (pv 0)) z_int) z_int) (z_ix (z_ix (z_var 0 (pv 0)) z_int) z_int))))) zs_nil)
    (zs_cons (z_asg (tg := (.many [1, 2, 3])) (z_var 0 (pv 0)) (tg_many rfl (tgs_cons (pg_name (i := 1) nd rfl (.inl rfl)) (tgs_cons (pg_name (i := 2) nd rfl (.inl rfl)) (tgs_cons (pg_name (i := 3) nd rfl (.inl rfl)) tgs_nil)))))
    (zs_cons (z_set (i := 4) nd rfl (.inl rfl) (z_mul (z_ix (z_var 1 (pv 1)) z_int) (z_sub (z_mul (z_ix (z_var 2 (pv 2)) z_int) (z_ix (z_var 3 (pv 3)) z_int)) (z_mul (z_ix (z_var 2 (pv 2)) z_int) (z_ix (z_var 3 (pv 3)) z_int)))))
    (zs_cons (z_set (i := 4) nd rfl (.inl rfl) (z_sub (z_var 4 (pv 4)) (z_mul (z_ix (z_var 1 (pv 1)) z_int) (z_sub (z_mul (z_ix (z_var 2 (pv 2)) z_int) (z_ix (z_var 3 (pv 3)) z_int)) (z_mul (z_ix (z_var 2 (pv 2)) z_int) (z_ix (z_var 3 (pv 3)) z_int))))))
    (zs_one (z_ret (z_add false (z_var 4 (pv 4)) (z_mul (z_ix (z_var 1 (pv 1)) z_int) (z_sub (z_mul (z_ix (z_var 2 (pv 2)) z_int) (z_ix (z_var 3 (pv 3)) z_int)) (z_mul (z_ix (z_var 2 (pv 2)) z_int) (z_ix (z_var 3 (pv 3)) z_int)))))))))))), pure__law_det ds μ Q E h⟩
theorem len__law_basis_in (ds : List D) (μ : Mu) (Q : ZQ) (E : ZX) (h : F__law_basis_in ds μ Q E) : ds.length = 4 := by
  first
    | (unfold F__law_basis_in at h; (split at h) <;> first | rfl | exact h.elim)
    | (unfold F__law_basis_in F_determinant at h; (split at h) <;> first | rfl | exact h.elim)
theorem sc__law_basis_in : FnScope ["_law_script", "_law_town_here", "_law_n", "_law_most", "_law_rows", "_law_i", "_law_found", "_law_row", "_law_j"] ["_law_script", "_law_town_here", "_law_n", "_law_most"] (defScope s__law_basis_in) := ⟨rfl, rfl, rfl, by decide +kernel, rfl, by decide +kernel, by decide +kernel⟩
theorem ok__law_basis_in {P : Program} {w : World} {K : PySem.W.Frag} {mg : Str → Option Value} {base : Heap} (T : Tb K mg) : Keeps P w K mg base 2 "_law_basis_in" ["_law_script", "_law_town_here", "_law_n", "_law_most"] F__law_basis_in :=
  T.d__law_basis_in.keeps (N := ["_law_script", "_law_town_here", "_law_n", "_law_most", "_law_rows", "_law_i", "_law_found", "_law_row", "_law_j"]) sc__law_basis_in len__law_basis_in (fun _ _ _ _ _ _ us hl => match us, hl with | [_, _, _, _], _ => rfl) fun cdv A outer s H Ex B ds μ Q E hr h tk => ⟨t__law_basis_in , by
    have nd := sc__law_basis_in.nd
    exact (zs_cons (z_set (i := 4) nd rfl (.inl rfl) (z_lst true z_nil))
    (zs_cons (z_for (tg := (.one 5)) (passes_of rfl) rfl (z_rng1 rfl T.m_range (z_cons (z_var 2 (pv 2)) z_nil)) (tg_one (i := 5) nd rfl (.inl rfl)) (zs_one (z_expr (z_app (z_var 4 (pv 4)) (z_tuple rfl T.m_tuple (z_cons (z_lc (own := [("_law_j", 8)]) false rfl nd (z_rng1 rfl T.m_range (z_cons (z_var 2 (pv 2)) z_nil)) (blkOk_by (own := [("_law_j", 8)]) (by kernel_rfl)) (by decide) (fun _ _ _ _ _ => (tg_one (i := 8) nd rfl (.inl rfl))) (fun _ _ _ _ _ _ => (zts_nil _)) (fun _ _ _ _ _ _ => (z_sub (z_def (ok__law_draw T) (hr.mono (by decide)) rfl tk_no (z_cons (z_var 0 (pv 0)) (z_cons (z_var 1 (pv 1)) (z_cons (z_add false (z_mul z_int (z_var 3 (pv 3))) z_int) z_nil)))) (z_var 3 (pv 3))))) z_nil))))))
    (zs_frz 4 (zs_cons (z_ifS (z_cmpT (op_neD hr.units) ok_ne (z_def (ok__law_det T) (hr.mono (by decide)) rfl tk_no (z_cons (z_var 4 (pv 4)) z_nil)) z_int (nomark _)) (zs_one (z_ret (z_tuple rfl T.m_tuple (z_cons (z_var 4 (pv 4)) z_nil)))) zs_nil)
    (zs_cons (z_set (i := 6) nd rfl (.inl rfl) (z_lst true z_nil))
    (zs_cons (z_for (tg := (.many [5, 7])) (passes_of rfl) rfl (z_enum rfl T.m_enumerate (z_cons (z_var 4 (pv 4)) z_nil)) (tg_many rfl (tgs_cons (pg_name (i := 5) nd rfl (.inl rfl)) (tgs_cons (pg_name (i := 7) nd rfl (.inl rfl)) tgs_nil))) (zs_one (z_expr (z_app (z_var 6 (pv 6)) (z_add false (z_add false (z_mul (z_tup (z_cons z_int z_nil)) (z_var 5 (pv 5))) (z_tup (z_cons (z_if (z_cmpT (op_neD hr.units) ok_ne (z_ix (z_var 7 (pv 7)) (z_var 5 (pv 5))) z_int (nomark _)) (z_ix (z_var 7 (pv 7)) (z_var 5 (pv 5))) z_int) z_nil))) (z_slice false (z_var 7 (pv 7)) (z_part (z_add false (z_var 5 (pv 5)) z_int)) z_nopart))))))
    (zs_frz 6 (zs_one (z_ret (z_tuple rfl T.m_tuple (z_cons (z_var 6 (pv 6)) z_nil))))))))))), pure__law_basis_in ds μ Q E h⟩
theorem len__law_basis (ds : List D) (μ : Mu) (Q : ZQ) (E : ZX) (h : F__law_basis ds μ Q E) : ds.length = 3 := by
  first
    | (unfold F__law_basis at h; (split at h) <;> first | rfl | exact h.elim)
    | (unfold F__law_basis F_determinant at h; (split at h) <;> first | rfl | exact h.elim)
theorem sc__law_basis : FnScope ["_law_script", "_law_town_here", "_law_most"] ["_law_script", "_law_town_here", "_law_most"] (defScope s__law_basis) := ⟨rfl, rfl, rfl, by decide +kernel, rfl, by decide +kernel, by decide +kernel⟩
theorem ok__law_basis {P : Program} {w : World} {K : PySem.W.Frag} {mg : Str → Option Value} {base : Heap} (T : Tb K mg) : Keeps P w K mg base 3 "_law_basis" ["_law_script", "_law_town_here", "_law_most"] F__law_basis :=
  T.d__law_basis.keeps (N := ["_law_script", "_law_town_here", "_law_most"]) sc__law_basis len__law_basis (fun _ _ _ _ _ _ us hl => match us, hl with | [_, _, _], _ => rfl) fun cdv A outer s H Ex B ds μ Q E hr h tk => ⟨t__law_basis , by
    have nd := sc__law_basis.nd
    exact (zs_one (z_ret (z_def (ok__law_basis_in T) (hr.mono (by decide)) rfl tk_no (z_cons (z_var 0 (pv 0)) (z_cons (z_var 1 (pv 1)) (z_cons (z_add false z_int (z_def (ok__law_draw T) (hr.mono (by decide)) rfl tk_no (z_cons (z_var 0 (pv 0)) (z_cons (z_var 1 (pv 1)) (z_cons z_int z_nil))))) (z_cons (z_var 2 (pv 2)) z_nil))))))), pure__law_basis ds μ Q E h⟩
theorem len__law_mix (ds : List D) (μ : Mu) (Q : ZQ) (E : ZX) (h : F__law_mix ds μ Q E) : ds.length = 2 := by
  first
    | (unfold F__law_mix at h; (split at h) <;> first | rfl | exact h.elim)
    | (unfold F__law_mix F_determinant at h; (split at h) <;> first | rfl | exact h.elim)
theorem sc__law_mix : FnScope ["_law_factors", "_law_rows", "_law_j", "_law_k"] ["_law_factors", "_law_rows"] (defScope s__law_mix) := ⟨rfl, rfl, rfl, by decide +kernel, rfl, by decide +kernel, by decide +kernel⟩
theorem ok__law_mix {P : Program} {w : World} {K : PySem.W.Frag} {mg : Str → Option Value} {base : Heap} (T : Tb K mg) : Keeps P w K mg base 1 "_law_mix" ["_law_factors", "_law_rows"] F__law_mix :=
  T.d__law_mix.keeps (N := ["_law_factors", "_law_rows", "_law_j", "_law_k"]) sc__law_mix len__law_mix (fun _ _ _ _ _ _ us hl => match us, hl with | [_, _], _ => rfl) fun cdv A outer s H Ex B ds μ Q E hr h tk => ⟨t__law_mix , by
    have nd := sc__law_mix.nd
    exact (zs_one (z_ret (z_tuple rfl T.m_tuple (z_cons (z_lc (own := [("_law_j", 2)]) false rfl nd (z_rng1 rfl T.m_range (z_cons (z_len rfl T.m_len (z_cons (z_ix (z_var 1 (pv 1)) z_int) z_nil)) z_nil)) (blkOk_by (own := [("_law_j", 2)]) (by kernel_rfl)) (by decide) (fun _ _ _ _ _ => (tg_one (i := 2) nd rfl (.inr rfl))) (fun _ _ _ _ _ _ => (zts_nil _)) (fun _ _ _ _ _ _ => (z_sum rfl rfl T.m_sum (z_cons (z_lc (own := [("_law_k", 3)]) false rfl nd (z_rng1 rfl T.m_range (z_cons (z_len rfl T.m_len (z_cons (z_var 1 (pv 1)) z_nil)) z_nil)) (blkOk_by (own := [("_law_k", 3)]) (by kernel_rfl)) (by decide) (fun _ _ _ _ _ => (tg_one (i := 3) nd rfl (.inl rfl))) (fun _ _ _ _ _ _ => (zts_nil _)) (fun _ _ _ _ _ _ => (z_mul (z_ix (z_var 0 (pv 0)) (z_var 3 (pv 3))) (z_ix (z_ix (z_var 1 (pv 1)) (z_var 3 (pv 3))) (z_var 2 (pv 2)))))) z_nil)))) z_nil)))), pure__law_mix ds μ Q E h⟩
theorem len__law_has (ds : List D) (μ : Mu) (Q : ZQ) (E : ZX) (h : F__law_has ds μ Q E) : ds.length = 2 := by
  first
    | (unfold F__law_has at h; (split at h) <;> first | rfl | exact h.elim)
    | (unfold F__law_has F_determinant at h; (split at h) <;> first | rfl | exact h.elim)
theorem sc__law_has : FnScope ["_law_basis_here", "_law_vector", "_law_whole", "_law_k", "_law_rows"] ["_law_basis_here", "_law_vector"] (defScope s__law_has) := ⟨rfl, rfl, rfl, by decide +kernel, rfl, by decide +kernel, by decide +kernel⟩
theorem ok__law_has {P : Program} {w : World} {K : PySem.W.Frag} {mg : Str → Option Value} {base : Heap} (T : Tb K mg) : Keeps P w K mg base 2 "_law_has" ["_law_basis_here", "_law_vector"] F__law_has :=
  T.d__law_has.keeps (N := ["_law_basis_here", "_law_vector", "_law_whole", "_law_k", "_law_rows"]) sc__law_has len__law_has (fun _ _ _ _ _ _ us hl => match us, hl with | [_, _], _ => rfl) fun cdv A outer s H Ex B ds μ Q E hr h tk => ⟨t__law_has , by
    have nd := sc__law_has.nd
    exact (zs_cons (z_set (i := 2) nd rfl (.inl rfl) (z_def (ok__law_det T) (hr.mono (by decide)) rfl tk_no (z_cons (z_var 0 (pv 0)) z_nil)))
    (zs_cons (z_for (tg := (.one 3)) (passes_of rfl) rfl (z_rng1 rfl T.m_range (z_cons (z_len rfl T.m_len (z_cons (z_var 0 (pv 0)) z_nil)) z_nil)) (tg_one (i := 3) nd rfl (.inl rfl)) (zs_cons (z_set (i := 4) nd rfl (.inl rfl) (z_add false (z_list false rfl T.m_list (z_cons (z_slice false (z_var 0 (pv 0)) z_nopart (z_part (z_var 3 (pv 3)))) z_nil)) (z_lst false (z_cons (z_var 1 (pv 1)) z_nil))))
    (zs_one (z_ifS (z_cmpT (op_neD hr.units) ok_ne (z_mod (z_def (ok__law_det T) (hr.mono (by decide)) rfl tk_no (z_cons (z_add false (z_var 4 (pv 4)) (z_list false rfl T.m_list (z_cons (z_slice false (z_var 0 (pv 0)) (z_part (z_add false (z_var 3 (pv 3)) z_int)) z_nopart) z_nil))) z_nil)) (z_var 2 (pv 2))) z_int (nomark _)) (zs_one (z_ret z_bl)) zs_nil))))
    (zs_one (z_ret z_bl)))), pure__law_has ds μ Q E h⟩
theorem len__law_is_whole (ds : List D) (μ : Mu) (Q : ZQ) (E : ZX) (h : F__law_is_whole ds μ Q E) : ds.length = 2 := by
  first
    | (unfold F__law_is_whole at h; (split at h) <;> first | rfl | exact h.elim)
    | (unfold F__law_is_whole F_determinant at h; (split at h) <;> first | rfl | exact h.elim)
theorem sc__law_is_whole : FnScope ["_law_value", "_law_vector", "_law_top", "_law_bottom", "_law_k"] ["_law_value", "_law_vector"] (defScope s__law_is_whole) := ⟨rfl, rfl, rfl, by decide +kernel, rfl, by decide +kernel, by decide +kernel⟩
theorem ok__law_is_whole {P : Program} {w : World} {K : PySem.W.Frag} {mg : Str → Option Value} {base : Heap} (T : Tb K mg) : Keeps P w K mg base 1 "_law_is_whole" ["_law_value", "_law_vector"] F__law_is_whole :=
  T.d__law_is_whole.keeps (N := ["_law_value", "_law_vector", "_law_top", "_law_bottom", "_law_k"]) sc__law_is_whole len__law_is_whole (fun _ _ _ _ _ _ us hl => match us, hl with | [_, _], _ => rfl) fun cdv A outer s H Ex B ds μ Q E hr h tk => ⟨t__law_is_whole , by
    have nd := sc__law_is_whole.nd
    exact (zs_cons (z_asg (tg := (.many [2, 3])) (z_tup (z_cons z_int (z_cons z_int z_nil))) (tg_many rfl (tgs_cons (pg_name (i := 2) nd rfl (.inl rfl)) (tgs_cons (pg_name (i := 3) nd rfl (.inl rfl)) tgs_nil))))
    (zs_cons (z_for (tg := (.one 4)) (passes_of rfl) rfl (z_rng1 rfl T.m_range (z_cons (z_len rfl T.m_len (z_cons (z_var 1 (pv 1)) z_nil)) z_nil)) (tg_one (i := 4) nd rfl (.inl rfl)) (zs_cons (z_set (i := 2) nd rfl (.inl rfl) (z_add false (z_mul (z_var 2 (pv 2)) (z_ix (z_ix (z_var 0 (pv 0)) (z_var 4 (pv 4))) z_int)) (z_mul (z_mul (z_ix (z_ix (z_var 0 (pv 0)) (z_var 4 (pv 4))) z_int) (z_ix (z_var 1 (pv 1)) (z_var 4 (pv 4)))) (z_var 3 (pv 3)))))
    (zs_one (z_set (i := 3) nd rfl (.inl rfl) (z_mul (z_var 3 (pv 3)) (z_ix (z_ix (z_var 0 (pv 0)) (z_var 4 (pv 4))) z_int))))))
    (zs_one (z_ret (z_eq hr.units (z_mod (z_var 2 (pv 2)) (z_var 3 (pv 3))) z_int))))), pure__law_is_whole ds μ Q E h⟩
theorem len__law_is_lowest (ds : List D) (μ : Mu) (Q : ZQ) (E : ZX) (h : F__law_is_lowest ds μ Q E) : ds.length = 1 := by
  first
    | (unfold F__law_is_lowest at h; (split at h) <;> first | rfl | exact h.elim)
    | (unfold F__law_is_lowest F_determinant at h; (split at h) <;> first | rfl | exact h.elim)
theorem sc__law_is_lowest : FnScope ["_law_part", "_law_one", "_law_other"] ["_law_part"] (defScope s__law_is_lowest) := ⟨rfl, rfl, rfl, by decide +kernel, rfl, by decide +kernel, by decide +kernel⟩
theorem ok__law_is_lowest {P : Program} {w : World} {K : PySem.W.Frag} {mg : Str → Option Value} {base : Heap} (T : Tb K mg) : Keeps P w K mg base 1 "_law_is_lowest" ["_law_part"] F__law_is_lowest :=
  T.d__law_is_lowest.keeps (N := ["_law_part", "_law_one", "_law_other"]) sc__law_is_lowest len__law_is_lowest (fun _ _ _ _ _ _ us hl => match us, hl with | [_], _ => rfl) fun cdv A outer s H Ex B ds μ Q E hr h tk => ⟨t__law_is_lowest , by
    have nd := sc__law_is_lowest.nd
    exact (zs_cons (z_par (i := 1) (j := 2) rfl nd rfl rfl (by decide) rfl rfl (z_cons (z_abs rfl T.m_abs (z_cons (z_ix (z_var 0 (pv 0)) z_int) z_nil)) (z_cons (z_ix (z_var 0 (pv 0)) z_int) z_nil)) rfl)
    (zs_cons (z_ifS (z_cmpT op_lt (ok_cmp _) (z_var 2 (pv 2)) z_int (nomark _)) (zs_one (z_ret z_bl)) zs_nil)
    (zs_cons (z_while (passes_of rfl) (z_cmpT op_gt (ok_cmp _) (z_var 2 (pv 2)) z_int (nomark _)) (zs_one (z_par (i := 1) (j := 2) rfl nd rfl rfl (by decide) rfl rfl (z_cons (z_var 2 (pv 2)) (z_cons (z_mod (z_var 1 (pv 1)) (z_var 2 (pv 2))) z_nil)) rfl)))
    (zs_one (z_ret (z_eq hr.units (z_var 1 (pv 1)) z_int)))))), pure__law_is_lowest ds μ Q E h⟩
theorem len__law_is_test (ds : List D) (μ : Mu) (Q : ZQ) (E : ZX) (h : F__law_is_test ds μ Q E) : ds.length = 3 := by
  first
    | (unfold F__law_is_test at h; (split at h) <;> first | rfl | exact h.elim)
    | (unfold F__law_is_test F_determinant at h; (split at h) <;> first | rfl | exact h.elim)
theorem sc__law_is_test : FnScope ["_law_basis_here", "_law_vector", "_law_value", "_law_part", "_law_row"] ["_law_basis_here", "_law_vector", "_law_value"] (defScope s__law_is_test) := ⟨rfl, rfl, rfl, by decide +kernel, rfl, by decide +kernel, by decide +kernel⟩
theorem ok__law_is_test {P : Program} {w : World} {K : PySem.W.Frag} {mg : Str → Option Value} {base : Heap} (T : Tb K mg) : Keeps P w K mg base 2 "_law_is_test" ["_law_basis_here", "_law_vector", "_law_value"] F__law_is_test :=
  T.d__law_is_test.keeps (N := ["_law_basis_here", "_law_vector", "_law_value", "_law_part", "_law_row"]) sc__law_is_test len__law_is_test (fun _ _ _ _ _ _ us hl => match us, hl with | [_, _, _], _ => rfl) fun cdv A outer s H Ex B ds μ Q E hr h tk => ⟨t__law_is_test , by
    have nd := sc__law_is_test.nd
    exact (zs_cons (z_ifS (z_cmpT (op_neD hr.units) ok_ne (z_lc (own := [("_law_part", 3)]) false rfl nd (z_it (z_var 2 (pv 2))) (blkOk_by (own := [("_law_part", 3)]) (by kernel_rfl)) (by decide) (fun _ _ _ _ _ => (tg_one (i := 3) nd rfl (.inl rfl))) (fun _ _ _ _ _ _ => (pts_one (z_not (z_valT (z_def (ok__law_is_lowest T) (hr.mono (by decide)) rfl tk_no (z_cons (z_var 3 (pv 3)) z_nil)))))) (fun _ _ _ _ _ _ => (z_var 3 (pv 3)))) (z_lst false z_nil) (nomark _)) (zs_one (z_ret z_bl)) zs_nil)
    (zs_one (z_ret (z_andV (z_eq hr.units (z_lc (own := [("_law_row", 4)]) false rfl nd (z_it (z_var 0 (pv 0))) (blkOk_by (own := [("_law_row", 4)]) (by kernel_rfl)) (by decide) (fun _ _ _ _ _ => (tg_one (i := 4) nd rfl (.inl rfl))) (fun _ _ _ _ _ _ => (pts_one (z_not (z_valT (z_def (ok__law_is_whole T) (hr.mono (by decide)) rfl tk_no (z_cons (z_var 2 (pv 2)) (z_cons (z_var 4 (pv 4)) z_nil))))))) (fun _ _ _ _ _ _ => (z_var 4 (pv 4)))) (z_lst false z_nil)) (pe_one (z_notV (z_def (ok__law_is_whole T) (hr.mono (by decide)) rfl tk_no (z_cons (z_var 2 (pv 2)) (z_cons (z_var 1 (pv 1)) z_nil))))))))), pure__law_is_test ds μ Q E h⟩
theorem len__law_others_are_rejected (ds : List D) (μ : Mu) (Q : ZQ) (E : ZX) (h : F__law_others_are_rejected ds μ Q E) : ds.length = 0 := by
  first
    | (unfold F__law_others_are_rejected at h; (split at h) <;> first | rfl | exact h.elim)
    | (unfold F__law_others_are_rejected F_determinant at h; (split at h) <;> first | rfl | exact h.elim)
theorem sc__law_others_are_rejected : FnScope ["_law_flat", "_law_half", "_law_bads", "_law_bad"] [] (defScope s__law_others_are_rejected) := ⟨rfl, rfl, rfl, by decide +kernel, rfl, by decide +kernel, by decide +kernel⟩
theorem ok__law_others_are_rejected {P : Program} {w : World} {K : PySem.W.Frag} {mg : Str → Option Value} {base : Heap} (T : Tb K mg) : Keeps P w K mg base 7 "_law_others_are_rejected" [] F__law_others_are_rejected :=
  T.d__law_others_are_rejected.keeps (N := ["_law_flat", "_law_half", "_law_bads", "_law_bad"]) sc__law_others_are_rejected len__law_others_are_rejected (fun _ _ _ _ _ _ us hl => match us, hl with | [], _ => rfl) fun cdv A outer s H Ex B ds μ Q E hr h tk => ⟨t__law_others_are_rejected E , by
    have nd := sc__law_others_are_rejected.nd
    exact (zs_cons (z_asg (tg := (.many [0, 1])) (z_tup (z_cons (z_tup (z_cons (z_tup (z_cons z_int (z_cons z_int z_nil))) (z_cons (z_tup (z_cons z_int (z_cons z_int z_nil))) z_nil))) (z_cons (z_tup (z_cons (z_tup (z_cons z_int (z_cons z_int z_nil))) (z_cons (z_tup (z_cons z_int (z_cons z_int z_nil))) z_nil))) z_nil))) (tg_many rfl (tgs_cons (pg_name (i := 0) nd rfl (.inr rfl)) (tgs_cons (pg_name (i := 1) nd rfl (.inl rfl)) tgs_nil))))
    (zs_cons (z_set (i := 2) nd rfl (.inl rfl) (z_lst true (z_cons z_non (z_cons z_int (z_cons (z_tup z_nil) (z_cons (z_tup (z_cons (z_tup (z_cons z_int (z_cons z_int z_nil))) z_nil)) (z_cons (z_lst false (z_cons (z_tup (z_cons z_int (z_cons z_int z_nil))) (z_cons (z_tup (z_cons z_int (z_cons z_int z_nil))) z_nil))) (z_cons (z_tup (z_cons (z_tup (z_cons z_int (z_cons z_int z_nil))) (z_cons z_int z_nil))) (z_cons (z_tup (z_cons (z_tup (z_cons z_int (z_cons z_int z_nil))) (z_cons (z_lst false (z_cons z_int (z_cons z_int z_nil))) z_nil))) (z_cons (z_tup (z_cons (z_tup (z_cons z_int (z_cons z_int z_nil))) (z_cons (z_tup (z_cons z_int (z_cons z_int z_nil))) z_nil))) z_nil))))))))))
    (zs_cons (z_expr (z_app (z_var 2 (pv 2)) (z_tup (z_cons (z_tup (z_cons z_int (z_cons z_int z_nil))) (z_cons (z_tup (z_cons z_int (z_cons z_int z_nil))) (z_cons (z_tup (z_cons z_int (z_cons z_int z_nil))) z_nil))))))
    (zs_cons (z_set (i := 2) nd rfl (.inl rfl) (z_add true (z_var 2 (pv 2)) (z_lst false (z_cons (z_tup (z_cons (z_tup (z_cons (z_neg z_int) (z_cons (z_neg z_int) z_nil))) (z_cons (z_tup (z_cons z_int (z_cons z_int z_nil))) z_nil))) (z_cons (z_tup (z_cons (z_tup (z_cons z_int (z_cons z_int z_nil))) (z_cons (z_tup (z_cons z_int (z_cons z_bl z_nil))) z_nil))) (z_cons (z_tup (z_cons (z_tup (z_cons z_bl (z_cons z_int z_nil))) (z_cons (z_tup (z_cons z_int (z_cons z_int z_nil))) z_nil))) (z_cons (z_tup (z_cons (z_tup (z_cons z_int (z_cons z_int z_nil))) (z_cons (z_tup (z_cons z_int (z_cons z_int z_nil))) z_nil))) (z_cons z_str z_nil))))))))
    (zs_cons (z_expr (z_app (z_var 2 (pv 2)) (z_tup (z_cons (z_tup (z_cons z_int (z_cons z_int z_nil))) (z_cons (z_tup (z_cons z_int (z_cons z_int z_nil))) z_nil)))))
    (zs_frz 2 (zs_cons (z_ifS (z_cmpT op_isNotB (ok_isB _) (z_def (ok_is_test_vector T) (hr.mono (by decide)) rfl tk (z_cons (z_var 0 (pv 0)) (z_cons (z_tup (z_cons z_int (z_cons z_int z_nil))) (z_cons (z_var 1 (pv 1)) z_nil)))) z_bl (nomark _)) (zs_one (z_ret z_bl)) zs_nil)
    (zs_one (z_ret (z_eq hr.units (z_lc (own := [("_law_bad", 3)]) false rfl nd (z_it (z_var 2 (pv 2))) (blkOk_by (own := [("_law_bad", 3)]) (by kernel_rfl)) (by decide) (fun _ _ _ _ _ => (tg_one (i := 3) nd rfl (.inl rfl))) (fun _ _ _ _ _ _ => (pts_one (z_cmpT op_isNotB (ok_isB _) (z_def (ok_is_test_vector T) (hr.mono (by decide)) rfl tk_no (z_cons (z_var 0 (pv 0)) (z_cons (z_tup (z_cons z_int (z_cons z_int z_nil))) (z_cons (z_var 3 (pv 3)) z_nil)))) z_bl (nomark _)))) (fun _ _ _ _ _ _ => (z_var 3 (pv 3)))) (z_lst false z_nil))))))))))), pure__law_others_are_rejected ds μ Q E h⟩
theorem len_law (ds : List D) (μ : Mu) (Q : ZQ) (E : ZX) (h : F_law ds μ Q E) : ds.length = 1 := by
  first
    | (unfold F_law at h; (split at h) <;> first | rfl | exact h.elim)
    | (unfold F_law F_determinant at h; (split at h) <;> first | rfl | exact h.elim)
theorem sc_law : FnScope ["_law_script", "_law_town_here", "_law_basis_here", "_law_n", "_law_factors", "_law_vector", "_law_near", "_law_other", "_law_told", "_law_value", "_law_now", "_law_k", "_law_at", "_law_top", "_law_bottom", "_law_parts", "_law_entry", "_law_row", "_law_part"] ["_law_script"] (defScope s_law) := ⟨rfl, rfl, rfl, by decide +kernel, rfl, by decide +kernel, by decide +kernel⟩
theorem ok_law {P : Program} {w : World} {K : PySem.W.Frag} {mg : Str → Option Value} {base : Heap} (T : Tb K mg) : Keeps P w K mg base 8 "law" ["_law_script"] F_law :=
  T.d_law.keeps (N := ["_law_script", "_law_town_here", "_law_basis_here", "_law_n", "_law_factors", "_law_vector", "_law_near", "_law_other", "_law_told", "_law_value", "_law_now", "_law_k", "_law_at", "_law_top", "_law_bottom", "_law_parts", "_law_entry", "_law_row", "_law_part"]) sc_law len_law (fun _ _ _ _ _ _ us hl => match us, hl with | [_], _ => rfl) fun cdv A outer s H Ex B ds μ Q E hr h tk => ⟨t_law E , by
    have nd := sc_law.nd
    exact (zs_cons (z_set (i := 1) nd rfl (.inr rfl) (z_def (ok__law_town T) (hr.mono (by decide)) rfl tk_no (z_cons (z_var 0 (pv 0)) z_nil)))
    (zs_cons (z_set (i := 2) nd rfl (.inl rfl) (z_def (ok__law_basis T) (hr.mono (by decide)) rfl tk_no (z_cons (z_var 0 (pv 0)) (z_cons (z_var 1 (pv 1)) (z_cons (z_def (ok__law_pick T) (hr.mono (by decide)) rfl tk_no (z_cons (z_var 0 (pv 0)) (z_cons (z_var 1 (pv 1)) (z_cons (z_lst false (z_cons z_int (z_cons z_int (z_cons z_int z_nil)))) z_nil)))) z_nil)))))
    (zs_cons (z_set (i := 3) nd rfl (.inl rfl) (z_len rfl T.m_len (z_cons (z_var 2 (pv 2)) z_nil)))
    (zs_cons (z_set (i := 4) nd rfl (.inl rfl) (z_tuple rfl T.m_tuple (z_cons (z_lc (own := [("_law_k", 11)]) false rfl nd (z_rng1 rfl T.m_range (z_cons (z_var 3 (pv 3)) z_nil)) (blkOk_by (own := [("_law_k", 11)]) (by kernel_rfl)) (by decide) (fun _ _ _ _ _ => (tg_one (i := 11) nd rfl (.inl rfl))) (fun _ _ _ _ _ _ => (zts_nil _)) (fun _ _ _ _ _ _ => (z_sub (z_def (ok__law_draw T) (hr.mono (by decide)) rfl tk_no (z_cons (z_var 0 (pv 0)) (z_cons (z_var 1 (pv 1)) (z_cons z_int z_nil)))) z_int))) z_nil)))
    (zs_cons (z_set (i := 5) nd rfl (.inl rfl) (z_def (ok__law_mix T) (hr.mono (by decide)) rfl tk_no (z_cons (z_var 4 (pv 4)) (z_cons (z_var 2 (pv 2)) z_nil))))
    (zs_cons (z_ifS (PW.pt (z_or (z_cmpT (op_neD hr.units) ok_ne (z_def (ok_coefficients T) (hr.mono (by decide)) rfl tk (z_cons (z_var 2 (pv 2)) (z_cons (z_var 5 (pv 5)) z_nil))) (z_var 4 (pv 4)) (nomark _)) (z_or1 (z_cmpT op_notN ok_notN (z_def (ok_test_vector T) (hr.mono (by decide)) rfl tk (z_cons (z_var 2 (pv 2)) (z_cons (z_var 5 (pv 5)) z_nil))) z_non (nomark _))))) (zs_one (z_ret z_bl)) zs_nil)
    (zs_cons (z_set (i := 6) nd rfl (.inl rfl) (z_tuple rfl T.m_tuple (z_cons (z_lc (own := [("_law_entry", 16)]) false rfl nd (z_it (z_var 5 (pv 5))) (blkOk_by (own := [("_law_entry", 16)]) (by kernel_rfl)) (by decide) (fun _ _ _ _ _ => (tg_one (i := 16) nd rfl (.inl rfl))) (fun _ _ _ _ _ _ => (zts_nil _)) (fun _ _ _ _ _ _ => (z_sub (z_add false (z_var 16 (pv 16)) (z_def (ok__law_draw T) (hr.mono (by decide)) rfl tk_no (z_cons (z_var 0 (pv 0)) (z_cons (z_var 1 (pv 1)) (z_cons z_int z_nil))))) z_int))) z_nil)))
    (zs_cons (z_for (tg := (.one 7)) (passes_of rfl) rfl (z_it (z_tup (z_cons (z_var 5 (pv 5)) (z_cons (z_var 6 (pv 6)) (z_cons (z_tuple rfl T.m_tuple (z_cons (z_lc (own := [("_law_k", 11)]) false rfl nd (z_rng1 rfl T.m_range (z_cons (z_var 3 (pv 3)) z_nil)) (blkOk_by (own := [("_law_k", 11)]) (by kernel_rfl)) (by decide) (fun _ _ _ _ _ => (tg_one (i := 11) nd rfl (.inl rfl))) (fun _ _ _ _ _ _ => (zts_nil _)) (fun _ _ _ _ _ _ => (z_sub (z_def (ok__law_draw T) (hr.mono (by decide)) rfl tk_no (z_cons (z_var 0 (pv 0)) (z_cons (z_var 1 (pv 1)) (z_cons z_int z_nil)))) z_int))) z_nil)) z_nil))))) (tg_one (i := 7) nd rfl (.inl rfl)) (zs_cons (z_asg (tg := (.many [8, 9])) (z_tup (z_cons (z_def (ok_coefficients T) (hr.mono (by decide)) rfl tk (z_cons (z_var 2 (pv 2)) (z_cons (z_var 7 (pv 7)) z_nil))) (z_cons (z_def (ok_test_vector T) (hr.mono (by decide)) rfl tk (z_cons (z_var 2 (pv 2)) (z_cons (z_var 7 (pv 7)) z_nil))) z_nil))) (tg_many rfl (tgs_cons (pg_name (i := 8) nd rfl (.inl rfl)) (tgs_cons (pg_name (i := 9) nd rfl (.inr rfl)) tgs_nil))))
    (zs_cons (z_ifS (PW.pt (z_or (z_cmpT (op_neD hr.units) ok_ne (z_notN (z_var 8 (pv 8)) z_non) (z_def (ok__law_has T) (hr.mono (by decide)) rfl tk_no (z_cons (z_var 2 (pv 2)) (z_cons (z_var 7 (pv 7)) z_nil))) (nomark _)) (z_or1 (z_cmpT (op_neD hr.units) ok_ne (z_isN (z_var 9 (pv 9)) z_non) (z_notN (z_var 8 (pv 8)) z_non) (nomark _))))) (zs_one (z_ret z_bl)) zs_nil)
    (zs_cons (z_ifS (PW.pt (z_and (z_cmpT op_notN ok_notN (z_var 8 (pv 8)) z_non (nomark _)) (z_and1 (z_cmpT (op_neD hr.units) ok_ne (z_def (ok__law_mix T) (hr.mono (by decide)) rfl tk_no (z_cons (z_var 8 (pv 8)) (z_cons (z_var 2 (pv 2)) z_nil))) (z_var 7 (pv 7)) (nomark _))))) (zs_one (z_ret z_bl)) zs_nil)
    (zs_cons (z_ifS (z_cmpT op_notN ok_notN (z_var 9 (pv 9)) z_non (nomark _)) (zs_cons (z_ifS (PW.pt (z_or (z_cmpT (op_neD hr.units) ok_ne (z_lc (own := [("_law_row", 17)]) false rfl nd (z_it (z_var 2 (pv 2))) (blkOk_by (own := [("_law_row", 17)]) (by kernel_rfl)) (by decide) (fun _ _ _ _ _ => (tg_one (i := 17) nd rfl (.inl rfl))) (fun _ _ _ _ _ _ => (pts_one (z_not (z_valT (z_def (ok__law_is_whole T) (hr.mono (by decide)) rfl tk_no (z_cons (z_var 9 (pv 9)) (z_cons (z_var 17 (pv 17)) z_nil))))))) (fun _ _ _ _ _ _ => (z_var 17 (pv 17)))) (z_lst false z_nil) (nomark _)) (z_or1 (z_valT (z_def (ok__law_is_whole T) (hr.mono (by decide)) rfl tk_no (z_cons (z_var 9 (pv 9)) (z_cons (z_var 7 (pv 7)) z_nil))))))) (zs_one (z_ret z_bl)) zs_nil)
    (zs_one (z_ifS (PW.pt (z_or (z_cmpT (op_neD hr.units) ok_ne (z_lc (own := [("_law_part", 18)]) false rfl nd (z_it (z_var 9 (pv 9))) (blkOk_by (own := [("_law_part", 18)]) (by kernel_rfl)) (by decide) (fun _ _ _ _ _ => (tg_one (i := 18) nd rfl (.inl rfl))) (fun _ _ _ _ _ _ => (pts_one (z_not (z_valT (z_def (ok__law_is_lowest T) (hr.mono (by decide)) rfl tk_no (z_cons (z_var 18 (pv 18)) z_nil)))))) (fun _ _ _ _ _ _ => (z_var 18 (pv 18)))) (z_lst false z_nil) (nomark _)) (z_or1 (z_cmpT (op_neD hr.units) ok_ne (z_len rfl T.m_len (z_cons (z_var 9 (pv 9)) z_nil)) (z_var 3 (pv 3)) (nomark _))))) (zs_one (z_ret z_bl)) zs_nil))) zs_nil)
    (zs_cons (z_set (i := 10) nd rfl (.inl rfl) (z_if (z_cmpT op_notN ok_notN (z_var 9 (pv 9)) z_non (nomark _)) (z_var 9 (pv 9)) (z_tuple rfl T.m_tuple (z_cons (z_rep false (z_lst true (z_cons (z_tup (z_cons z_int (z_cons z_int z_nil))) z_nil)) (z_var 3 (pv 3))) z_nil))))
    (zs_one (z_for (tg := (.one 11)) (passes_of rfl) rfl (z_rng1 rfl T.m_range (z_cons z_int z_nil)) (tg_one (i := 11) nd rfl (.inl rfl)) (zs_cons (z_ifS (z_cmpT (op_neD hr.units) ok_ne (z_def (ok_is_test_vector T) (hr.mono (by decide)) rfl tk (z_cons (z_var 2 (pv 2)) (z_cons (z_var 7 (pv 7)) (z_cons (z_var 10 (pv 10)) z_nil)))) (z_def (ok__law_is_test T) (hr.mono (by decide)) rfl tk_no (z_cons (z_var 2 (pv 2)) (z_cons (z_var 7 (pv 7)) (z_cons (z_var 10 (pv 10)) z_nil)))) (nomark _)) (zs_one (z_ret z_bl)) zs_nil)
    (zs_cons (z_set (i := 12) nd rfl (.inl rfl) (z_def (ok__law_draw T) (hr.mono (by decide)) rfl tk_no (z_cons (z_var 0 (pv 0)) (z_cons (z_var 1 (pv 1)) (z_cons (z_var 3 (pv 3)) z_nil)))))
    (zs_cons (z_asg (tg := (.many [13, 14])) (z_ix (z_var 10 (pv 10)) (z_var 12 (pv 12))) (tg_many rfl (tgs_cons (pg_name (i := 13) nd rfl (.inl rfl)) (tgs_cons (pg_name (i := 14) nd rfl (.inl rfl)) tgs_nil))))
    (zs_cons (z_set (i := 15) nd rfl (.inl rfl) (z_lst false (z_cons (z_tup (z_cons (z_add false (z_var 13 (pv 13)) (z_var 14 (pv 14))) (z_cons (z_var 14 (pv 14)) z_nil))) (z_cons (z_tup (z_cons (z_add false (z_var 13 (pv 13)) z_int) (z_cons (z_var 14 (pv 14)) z_nil))) (z_cons (z_tup (z_cons (z_mul z_int (z_var 13 (pv 13))) (z_cons (z_mul z_int (z_var 14 (pv 14))) z_nil))) (z_cons (z_tup (z_cons (z_var 13 (pv 13)) (z_cons z_int z_nil))) z_nil))))))
    (zs_one (z_set (i := 10) nd rfl (.inl rfl) (z_add false (z_add false (z_slice false (z_var 10 (pv 10)) z_nopart (z_part (z_var 12 (pv 12)))) (z_tup (z_cons (z_def (ok__law_pick T) (hr.mono (by decide)) rfl tk_no (z_cons (z_var 0 (pv 0)) (z_cons (z_var 1 (pv 1)) (z_cons (z_var 15 (pv 15)) z_nil)))) z_nil))) (z_slice false (z_var 10 (pv 10)) (z_part (z_add false (z_var 12 (pv 12)) z_int)) z_nopart))))))))))))))))
    (zs_one (z_ret (z_def0 (ok__law_others_are_rejected T) (hr.mono (by decide)) rfl tk))))))))))), pure_law ds μ Q E h⟩
/-! ### the head -/
def w_divisor : He.DefD := ⟨("divisor", none), "divisor", "divisor", defArgs s_divisor, defBody s_divisor, defScope s_divisor, [], []⟩
def w_ratio : He.DefD := ⟨("ratio", none), "ratio", "ratio", defArgs s_ratio, defBody s_ratio, defScope s_ratio, [], []⟩
def w_is_integer : He.DefD := ⟨("is_integer", none), "is_integer", "is_integer", defArgs s_is_integer, defBody s_is_integer, defScope s_is_integer, [], []⟩
def w_is_between : He.DefD := ⟨("is_between", none), "is_between", "is_between", defArgs s_is_between, defBody s_is_between, defScope s_is_between, [], []⟩
def w_is_fraction : He.DefD := ⟨("is_fraction", none), "is_fraction", "is_fraction", defArgs s_is_fraction, defBody s_is_fraction, defScope s_is_fraction, [], []⟩
def w_product : He.DefD := ⟨("product", none), "product", "product", defArgs s_product, defBody s_product, defScope s_product, [], []⟩
def w_determinant : He.DefD := ⟨("determinant", none), "determinant", "determinant", defArgs s_determinant, defBody s_determinant, defScope s_determinant, [], []⟩
def w_is_vector : He.DefD := ⟨("is_vector", none), "is_vector", "is_vector", defArgs s_is_vector, defBody s_is_vector, defScope s_is_vector, [], []⟩
def w_is_basis : He.DefD := ⟨("is_basis", none), "is_basis", "is_basis", defArgs s_is_basis, defBody s_is_basis, defScope s_is_basis, [], []⟩
def w_check_basis : He.DefD := ⟨("check_basis", none), "check_basis", "check_basis", defArgs s_check_basis, defBody s_check_basis, defScope s_check_basis, [], []⟩
def w_check_vector : He.DefD := ⟨("check_vector", none), "check_vector", "check_vector", defArgs s_check_vector, defBody s_check_vector, defScope s_check_vector, [], []⟩
def w_solved : He.DefD := ⟨("solved", none), "solved", "solved", defArgs s_solved, defBody s_solved, defScope s_solved, [], []⟩
def w_whole_coefficients : He.DefD := ⟨("whole_coefficients", none), "whole_coefficients", "whole_coefficients", defArgs s_whole_coefficients, defBody s_whole_coefficients, defScope s_whole_coefficients, [], []⟩
def w_coefficients : He.DefD := ⟨("coefficients", none), "coefficients", "coefficients", defArgs s_coefficients, defBody s_coefficients, defScope s_coefficients, [], []⟩
def w_dual_rows : He.DefD := ⟨("dual_rows", none), "dual_rows", "dual_rows", defArgs s_dual_rows, defBody s_dual_rows, defScope s_dual_rows, [], []⟩
def w_test_vector : He.DefD := ⟨("test_vector", none), "test_vector", "test_vector", defArgs s_test_vector, defBody s_test_vector, defScope s_test_vector, [], []⟩
def w_is_whole_product : He.DefD := ⟨("is_whole_product", none), "is_whole_product", "is_whole_product", defArgs s_is_whole_product, defBody s_is_whole_product, defScope s_is_whole_product, [], []⟩
def w_is_test_vector : He.DefD := ⟨("is_test_vector", none), "is_test_vector", "is_test_vector", defArgs s_is_test_vector, defBody s_is_test_vector, defScope s_is_test_vector, [], []⟩
def w__law_town : He.DefD := ⟨("_law_town", none), "_law_town", "_law_town", defArgs s__law_town, defBody s__law_town, defScope s__law_town, [], []⟩
def w__law_draw : He.DefD := ⟨("_law_draw", none), "_law_draw", "_law_draw", defArgs s__law_draw, defBody s__law_draw, defScope s__law_draw, [], []⟩
def w__law_pick : He.DefD := ⟨("_law_pick", none), "_law_pick", "_law_pick", defArgs s__law_pick, defBody s__law_pick, defScope s__law_pick, [], []⟩
def w__law_basis : He.DefD := ⟨("_law_basis", none), "_law_basis", "_law_basis", defArgs s__law_basis, defBody s__law_basis, defScope s__law_basis, [], []⟩
def w__law_basis_in : He.DefD := ⟨("_law_basis_in", none), "_law_basis_in", "_law_basis_in", defArgs s__law_basis_in, defBody s__law_basis_in, defScope s__law_basis_in, [], []⟩
def w__law_det : He.DefD := ⟨("_law_det", none), "_law_det", "_law_det", defArgs s__law_det, defBody s__law_det, defScope s__law_det, [], []⟩
def w__law_mix : He.DefD := ⟨("_law_mix", none), "_law_mix", "_law_mix", defArgs s__law_mix, defBody s__law_mix, defScope s__law_mix, [], []⟩
def w__law_has : He.DefD := ⟨("_law_has", none), "_law_has", "_law_has", defArgs s__law_has, defBody s__law_has, defScope s__law_has, [], []⟩
def w__law_is_whole : He.DefD := ⟨("_law_is_whole", none), "_law_is_whole", "_law_is_whole", defArgs s__law_is_whole, defBody s__law_is_whole, defScope s__law_is_whole, [], []⟩
def w__law_is_lowest : He.DefD := ⟨("_law_is_lowest", none), "_law_is_lowest", "_law_is_lowest", defArgs s__law_is_lowest, defBody s__law_is_lowest, defScope s__law_is_lowest, [], []⟩
def w__law_is_test : He.DefD := ⟨("_law_is_test", none), "_law_is_test", "_law_is_test", defArgs s__law_is_test, defBody s__law_is_test, defScope s__law_is_test, [], []⟩
def w__law_others_are_rejected : He.DefD := ⟨("_law_others_are_rejected", none), "_law_others_are_rejected", "_law_others_are_rejected", defArgs s__law_others_are_rejected, defBody s__law_others_are_rejected, defScope s__law_others_are_rejected, [], []⟩
def w_law : He.DefD := ⟨("law", none), "law", "law", defArgs s_law, defBody s_law, defScope s_law, [], []⟩
def fn : List He.DefD := [w_divisor, w_ratio, w_is_integer, w_is_between, w_is_fraction, w_product, w_determinant, w_is_vector, w_is_basis, w_check_basis, w_check_vector, w_solved, w_whole_coefficients, w_coefficients, w_dual_rows, w_test_vector, w_is_whole_product, w_is_test_vector, w__law_town, w__law_draw, w__law_pick, w__law_basis, w__law_basis_in, w__law_det, w__law_mix, w__law_has, w__law_is_whole, w__law_is_lowest, w__law_is_test, w__law_others_are_rejected, w_law]
def fa : List He.Fa := [.glo "divisor", .glo "ratio", .glo "is_integer", .glo "is_between", .glo "is_fraction", .glo "product", .glo "determinant", .glo "is_vector", .glo "is_basis", .glo "check_basis", .glo "check_vector", .glo "solved", .glo "whole_coefficients", .glo "coefficients", .glo "dual_rows", .glo "test_vector", .glo "is_whole_product", .glo "is_test_vector", .glo "_law_town", .glo "_law_draw", .glo "_law_pick", .glo "_law_basis", .glo "_law_basis_in", .glo "_law_det", .glo "_law_mix", .glo "_law_has", .glo "_law_is_whole", .glo "_law_is_lowest", .glo "_law_is_test", .glo "_law_others_are_rejected", .glo "law", .exc "GridError", .exc "InvalidBasis", .exc "InvalidVector", .glo "GridError", .glo "InvalidBasis", .glo "InvalidVector", .int "LIMIT" 1000000, .free "isinstance", .free "int", .free "bool", .free "tuple", .free "len", .free "all", .free "any", .free "range", .free "list", .free "abs", .free "zip", .free "enumerate", .free "sum"]
def loose : List Str := (["GridError", "InvalidBasis", "InvalidVector", "LIMIT", "divisor", "ratio", "is_integer", "is_between", "is_fraction", "product", "determinant", "is_vector", "is_basis", "check_basis", "check_vector", "solved", "whole_coefficients", "coefficients", "dual_rows", "test_vector", "is_whole_product", "is_test_vector", "_law_town", "_law_draw", "_law_pick", "_law_basis", "_law_basis_in", "_law_det", "_law_mix", "_law_has"] : List Str) ++ (["_law_is_whole", "_law_is_lowest", "_law_is_test", "_law_others_are_rejected"] : List Str)
abbrev Rw : PySem.W.OpenRow := PySem.W.OpenLaw.row PySem.Challenge.rw_gridbases_k03_whole_vectors
abbrev hook : PySem.W.Hook := He.hookD 5 fa fn
def seen (s : PySem.W.SharedT) : He.AlD := He.obsDG 5 fa fn (HandSHeadRun.getT s)
theorem seen_eq (s : PySem.W.SharedT) : seen s = hook.obs s.abs := He.obsDG_eq (HandSHeadRun.getT_eq s)
theorem run (w : World) : HandSHeadRun.RunEq Rw (PySem.W.view Rw.prog [38]) hook seen 4000 loose w := by
  intro os
  kernel_rfl
theorem table {K : PySem.W.Frag} {h : Heap} {mg : Str → Option Value} (X : K.In h) (G : h.Ns mainGlobals mg) (c : He.SaysD fa fn K) : Tb K mg where
  d_divisor := ⟨c.def_ 0 (d := w_divisor) rfl, He.glo_ok X G (c.fact 0 (f := .glo "divisor") rfl)⟩
  d_ratio := ⟨c.def_ 1 (d := w_ratio) rfl, He.glo_ok X G (c.fact 1 (f := .glo "ratio") rfl)⟩
  d_is_integer := ⟨c.def_ 2 (d := w_is_integer) rfl, He.glo_ok X G (c.fact 2 (f := .glo "is_integer") rfl)⟩
  d_is_between := ⟨c.def_ 3 (d := w_is_between) rfl, He.glo_ok X G (c.fact 3 (f := .glo "is_between") rfl)⟩
  d_is_fraction := ⟨c.def_ 4 (d := w_is_fraction) rfl, He.glo_ok X G (c.fact 4 (f := .glo "is_fraction") rfl)⟩
  d_product := ⟨c.def_ 5 (d := w_product) rfl, He.glo_ok X G (c.fact 5 (f := .glo "product") rfl)⟩
  d_determinant := ⟨c.def_ 6 (d := w_determinant) rfl, He.glo_ok X G (c.fact 6 (f := .glo "determinant") rfl)⟩
  d_is_vector := ⟨c.def_ 7 (d := w_is_vector) rfl, He.glo_ok X G (c.fact 7 (f := .glo "is_vector") rfl)⟩
  d_is_basis := ⟨c.def_ 8 (d := w_is_basis) rfl, He.glo_ok X G (c.fact 8 (f := .glo "is_basis") rfl)⟩
  d_check_basis := ⟨c.def_ 9 (d := w_check_basis) rfl, He.glo_ok X G (c.fact 9 (f := .glo "check_basis") rfl)⟩
  d_check_vector := ⟨c.def_ 10 (d := w_check_vector) rfl, He.glo_ok X G (c.fact 10 (f := .glo "check_vector") rfl)⟩
  d_solved := ⟨c.def_ 11 (d := w_solved) rfl, He.glo_ok X G (c.fact 11 (f := .glo "solved") rfl)⟩
  d_whole_coefficients := ⟨c.def_ 12 (d := w_whole_coefficients) rfl, He.glo_ok X G (c.fact 12 (f := .glo "whole_coefficients") rfl)⟩
  d_coefficients := ⟨c.def_ 13 (d := w_coefficients) rfl, He.glo_ok X G (c.fact 13 (f := .glo "coefficients") rfl)⟩
  d_dual_rows := ⟨c.def_ 14 (d := w_dual_rows) rfl, He.glo_ok X G (c.fact 14 (f := .glo "dual_rows") rfl)⟩
  d_test_vector := ⟨c.def_ 15 (d := w_test_vector) rfl, He.glo_ok X G (c.fact 15 (f := .glo "test_vector") rfl)⟩
  d_is_whole_product := ⟨c.def_ 16 (d := w_is_whole_product) rfl, He.glo_ok X G (c.fact 16 (f := .glo "is_whole_product") rfl)⟩
  d_is_test_vector := ⟨c.def_ 17 (d := w_is_test_vector) rfl, He.glo_ok X G (c.fact 17 (f := .glo "is_test_vector") rfl)⟩
  d__law_town := ⟨c.def_ 18 (d := w__law_town) rfl, He.glo_ok X G (c.fact 18 (f := .glo "_law_town") rfl)⟩
  d__law_draw := ⟨c.def_ 19 (d := w__law_draw) rfl, He.glo_ok X G (c.fact 19 (f := .glo "_law_draw") rfl)⟩
  d__law_pick := ⟨c.def_ 20 (d := w__law_pick) rfl, He.glo_ok X G (c.fact 20 (f := .glo "_law_pick") rfl)⟩
  d__law_basis := ⟨c.def_ 21 (d := w__law_basis) rfl, He.glo_ok X G (c.fact 21 (f := .glo "_law_basis") rfl)⟩
  d__law_basis_in := ⟨c.def_ 22 (d := w__law_basis_in) rfl, He.glo_ok X G (c.fact 22 (f := .glo "_law_basis_in") rfl)⟩
  d__law_det := ⟨c.def_ 23 (d := w__law_det) rfl, He.glo_ok X G (c.fact 23 (f := .glo "_law_det") rfl)⟩
  d__law_mix := ⟨c.def_ 24 (d := w__law_mix) rfl, He.glo_ok X G (c.fact 24 (f := .glo "_law_mix") rfl)⟩
  d__law_has := ⟨c.def_ 25 (d := w__law_has) rfl, He.glo_ok X G (c.fact 25 (f := .glo "_law_has") rfl)⟩
  d__law_is_whole := ⟨c.def_ 26 (d := w__law_is_whole) rfl, He.glo_ok X G (c.fact 26 (f := .glo "_law_is_whole") rfl)⟩
  d__law_is_lowest := ⟨c.def_ 27 (d := w__law_is_lowest) rfl, He.glo_ok X G (c.fact 27 (f := .glo "_law_is_lowest") rfl)⟩
  d__law_is_test := ⟨c.def_ 28 (d := w__law_is_test) rfl, He.glo_ok X G (c.fact 28 (f := .glo "_law_is_test") rfl)⟩
  d__law_others_are_rejected := ⟨c.def_ 29 (d := w__law_others_are_rejected) rfl, He.glo_ok X G (c.fact 29 (f := .glo "_law_others_are_rejected") rfl)⟩
  d_law := ⟨c.def_ 30 (d := w_law) rfl, He.glo_ok X G (c.fact 30 (f := .glo "law") rfl)⟩
  m_isinstance := He.free_ok X G (c.fact 38 (f := .free "isinstance") rfl)
  m_int := He.free_ok X G (c.fact 39 (f := .free "int") rfl)
  m_bool := He.free_ok X G (c.fact 40 (f := .free "bool") rfl)
  m_tuple := He.free_ok X G (c.fact 41 (f := .free "tuple") rfl)
  m_len := He.free_ok X G (c.fact 42 (f := .free "len") rfl)
  m_all := He.free_ok X G (c.fact 43 (f := .free "all") rfl)
  m_any := He.free_ok X G (c.fact 44 (f := .free "any") rfl)
  m_range := He.free_ok X G (c.fact 45 (f := .free "range") rfl)
  m_list := He.free_ok X G (c.fact 46 (f := .free "list") rfl)
  m_abs := He.free_ok X G (c.fact 47 (f := .free "abs") rfl)
  m_zip := He.free_ok X G (c.fact 48 (f := .free "zip") rfl)
  m_enumerate := He.free_ok X G (c.fact 49 (f := .free "enumerate") rfl)
  m_sum := He.free_ok X G (c.fact 50 (f := .free "sum") rfl)
  c_LIMIT := He.int_ok X G (c.fact 37 (f := .int "LIMIT" 1000000) rfl)
  x_GridError := xc_of (He.exc_ok (c.fact 31 (f := .exc "GridError") rfl)) (He.glo_ok X G (c.fact 34 (f := .glo "GridError") rfl))
  x_InvalidBasis := xc_of (He.exc_ok (c.fact 32 (f := .exc "InvalidBasis") rfl)) (He.glo_ok X G (c.fact 35 (f := .glo "InvalidBasis") rfl))
  x_InvalidVector := xc_of (He.exc_ok (c.fact 33 (f := .exc "InvalidVector") rfl)) (He.glo_ok X G (c.fact 36 (f := .glo "InvalidVector") rfl))
theorem law_at {P : Program} {w : World} {K : PySem.W.Frag} {mg : Str → Option Value} {base : Heap} (T : Tb K mg) {fd : FuncData} (FD : FunD K "law" "law" (defArgs s_law) (defBody s_law) (defScope s_law) [] [] (He.ga K "law") fd) : FnOk P w K mg base (L2.CX P w) 8 (He.ga K "law") fd ["_law_script"] (zsp K F_law) :=
  ok_def (N := ["_law_script", "_law_town_here", "_law_basis_here", "_law_n", "_law_factors", "_law_vector", "_law_near", "_law_other", "_law_told", "_law_value", "_law_now", "_law_k", "_law_at", "_law_top", "_law_bottom", "_law_parts", "_law_entry", "_law_row", "_law_part"]) FD sc_law len_law fun cdv A outer s H Ex B ds μ Q E hr h tk => ⟨t_law E , by
    have nd := sc_law.nd
    exact (zs_cons (z_set (i := 1) nd rfl (.inr rfl) (z_def (ok__law_town T) (hr.mono (by decide)) rfl tk_no (z_cons (z_var 0 (pv 0)) z_nil)))
    (zs_cons (z_set (i := 2) nd rfl (.inl rfl) (z_def (ok__law_basis T) (hr.mono (by decide)) rfl tk_no (z_cons (z_var 0 (pv 0)) (z_cons (z_var 1 (pv 1)) (z_cons (z_def (ok__law_pick T) (hr.mono (by decide)) rfl tk_no (z_cons (z_var 0 (pv 0)) (z_cons (z_var 1 (pv 1)) (z_cons (z_lst false (z_cons z_int (z_cons z_int (z_cons z_int z_nil)))) z_nil)))) z_nil)))))
    (zs_cons (z_set (i := 3) nd rfl (.inl rfl) (z_len rfl T.m_len (z_cons (z_var 2 (pv 2)) z_nil)))
    (zs_cons (z_set (i := 4) nd rfl (.inl rfl) (z_tuple rfl T.m_tuple (z_cons (z_lc (own := [("_law_k", 11)]) false rfl nd (z_rng1 rfl T.m_range (z_cons (z_var 3 (pv 3)) z_nil)) (blkOk_by (own := [("_law_k", 11)]) (by kernel_rfl)) (by decide) (fun _ _ _ _ _ => (tg_one (i := 11) nd rfl (.inl rfl))) (fun _ _ _ _ _ _ => (zts_nil _)) (fun _ _ _ _ _ _ => (z_sub (z_def (ok__law_draw T) (hr.mono (by decide)) rfl tk_no (z_cons (z_var 0 (pv 0)) (z_cons (z_var 1 (pv 1)) (z_cons z_int z_nil)))) z_int))) z_nil)))
    (zs_cons (z_set (i := 5) nd rfl (.inl rfl) (z_def (ok__law_mix T) (hr.mono (by decide)) rfl tk_no (z_cons (z_var 4 (pv 4)) (z_cons (z_var 2 (pv 2)) z_nil))))
    (zs_cons (z_ifS (PW.pt (z_or (z_cmpT (op_neD hr.units) ok_ne (z_def (ok_coefficients T) (hr.mono (by decide)) rfl tk (z_cons (z_var 2 (pv 2)) (z_cons (z_var 5 (pv 5)) z_nil))) (z_var 4 (pv 4)) (nomark _)) (z_or1 (z_cmpT op_notN ok_notN (z_def (ok_test_vector T) (hr.mono (by decide)) rfl tk (z_cons (z_var 2 (pv 2)) (z_cons (z_var 5 (pv 5)) z_nil))) z_non (nomark _))))) (zs_one (z_ret z_bl)) zs_nil)
    (zs_cons (z_set (i := 6) nd rfl (.inl rfl) (z_tuple rfl T.m_tuple (z_cons (z_lc (own := [("_law_entry", 16)]) false rfl nd (z_it (z_var 5 (pv 5))) (blkOk_by (own := [("_law_entry", 16)]) (by kernel_rfl)) (by decide) (fun _ _ _ _ _ => (tg_one (i := 16) nd rfl (.inl rfl))) (fun _ _ _ _ _ _ => (zts_nil _)) (fun _ _ _ _ _ _ => (z_sub (z_add false (z_var 16 (pv 16)) (z_def (ok__law_draw T) (hr.mono (by decide)) rfl tk_no (z_cons (z_var 0 (pv 0)) (z_cons (z_var 1 (pv 1)) (z_cons z_int z_nil))))) z_int))) z_nil)))
    (zs_cons (z_for (tg := (.one 7)) (passes_of rfl) rfl (z_it (z_tup (z_cons (z_var 5 (pv 5)) (z_cons (z_var 6 (pv 6)) (z_cons (z_tuple rfl T.m_tuple (z_cons (z_lc (own := [("_law_k", 11)]) false rfl nd (z_rng1 rfl T.m_range (z_cons (z_var 3 (pv 3)) z_nil)) (blkOk_by (own := [("_law_k", 11)]) (by kernel_rfl)) (by decide) (fun _ _ _ _ _ => (tg_one (i := 11) nd rfl (.inl rfl))) (fun _ _ _ _ _ _ => (zts_nil _)) (fun _ _ _ _ _ _ => (z_sub (z_def (ok__law_draw T) (hr.mono (by decide)) rfl tk_no (z_cons (z_var 0 (pv 0)) (z_cons (z_var 1 (pv 1)) (z_cons z_int z_nil)))) z_int))) z_nil)) z_nil))))) (tg_one (i := 7) nd rfl (.inl rfl)) (zs_cons (z_asg (tg := (.many [8, 9])) (z_tup (z_cons (z_def (ok_coefficients T) (hr.mono (by decide)) rfl tk (z_cons (z_var 2 (pv 2)) (z_cons (z_var 7 (pv 7)) z_nil))) (z_cons (z_def (ok_test_vector T) (hr.mono (by decide)) rfl tk (z_cons (z_var 2 (pv 2)) (z_cons (z_var 7 (pv 7)) z_nil))) z_nil))) (tg_many rfl (tgs_cons (pg_name (i := 8) nd rfl (.inl rfl)) (tgs_cons (pg_name (i := 9) nd rfl (.inr rfl)) tgs_nil))))
    (zs_cons (z_ifS (PW.pt (z_or (z_cmpT (op_neD hr.units) ok_ne (z_notN (z_var 8 (pv 8)) z_non) (z_def (ok__law_has T) (hr.mono (by decide)) rfl tk_no (z_cons (z_var 2 (pv 2)) (z_cons (z_var 7 (pv 7)) z_nil))) (nomark _)) (z_or1 (z_cmpT (op_neD hr.units) ok_ne (z_isN (z_var 9 (pv 9)) z_non) (z_notN (z_var 8 (pv 8)) z_non) (nomark _))))) (zs_one (z_ret z_bl)) zs_nil)
    (zs_cons (z_ifS (PW.pt (z_and (z_cmpT op_notN ok_notN (z_var 8 (pv 8)) z_non (nomark _)) (z_and1 (z_cmpT (op_neD hr.units) ok_ne (z_def (ok__law_mix T) (hr.mono (by decide)) rfl tk_no (z_cons (z_var 8 (pv 8)) (z_cons (z_var 2 (pv 2)) z_nil))) (z_var 7 (pv 7)) (nomark _))))) (zs_one (z_ret z_bl)) zs_nil)
    (zs_cons (z_ifS (z_cmpT op_notN ok_notN (z_var 9 (pv 9)) z_non (nomark _)) (zs_cons (z_ifS (PW.pt (z_or (z_cmpT (op_neD hr.units) ok_ne (z_lc (own := [("_law_row", 17)]) false rfl nd (z_it (z_var 2 (pv 2))) (blkOk_by (own := [("_law_row", 17)]) (by kernel_rfl)) (by decide) (fun _ _ _ _ _ => (tg_one (i := 17) nd rfl (.inl rfl))) (fun _ _ _ _ _ _ => (pts_one (z_not (z_valT (z_def (ok__law_is_whole T) (hr.mono (by decide)) rfl tk_no (z_cons (z_var 9 (pv 9)) (z_cons (z_var 17 (pv 17)) z_nil))))))) (fun _ _ _ _ _ _ => (z_var 17 (pv 17)))) (z_lst false z_nil) (nomark _)) (z_or1 (z_valT (z_def (ok__law_is_whole T) (hr.mono (by decide)) rfl tk_no (z_cons (z_var 9 (pv 9)) (z_cons (z_var 7 (pv 7)) z_nil))))))) (zs_one (z_ret z_bl)) zs_nil)
    (zs_one (z_ifS (PW.pt (z_or (z_cmpT (op_neD hr.units) ok_ne (z_lc (own := [("_law_part", 18)]) false rfl nd (z_it (z_var 9 (pv 9))) (blkOk_by (own := [("_law_part", 18)]) (by kernel_rfl)) (by decide) (fun _ _ _ _ _ => (tg_one (i := 18) nd rfl (.inl rfl))) (fun _ _ _ _ _ _ => (pts_one (z_not (z_valT (z_def (ok__law_is_lowest T) (hr.mono (by decide)) rfl tk_no (z_cons (z_var 18 (pv 18)) z_nil)))))) (fun _ _ _ _ _ _ => (z_var 18 (pv 18)))) (z_lst false z_nil) (nomark _)) (z_or1 (z_cmpT (op_neD hr.units) ok_ne (z_len rfl T.m_len (z_cons (z_var 9 (pv 9)) z_nil)) (z_var 3 (pv 3)) (nomark _))))) (zs_one (z_ret z_bl)) zs_nil))) zs_nil)
    (zs_cons (z_set (i := 10) nd rfl (.inl rfl) (z_if (z_cmpT op_notN ok_notN (z_var 9 (pv 9)) z_non (nomark _)) (z_var 9 (pv 9)) (z_tuple rfl T.m_tuple (z_cons (z_rep false (z_lst true (z_cons (z_tup (z_cons z_int (z_cons z_int z_nil))) z_nil)) (z_var 3 (pv 3))) z_nil))))
    (zs_one (z_for (tg := (.one 11)) (passes_of rfl) rfl (z_rng1 rfl T.m_range (z_cons z_int z_nil)) (tg_one (i := 11) nd rfl (.inl rfl)) (zs_cons (z_ifS (z_cmpT (op_neD hr.units) ok_ne (z_def (ok_is_test_vector T) (hr.mono (by decide)) rfl tk (z_cons (z_var 2 (pv 2)) (z_cons (z_var 7 (pv 7)) (z_cons (z_var 10 (pv 10)) z_nil)))) (z_def (ok__law_is_test T) (hr.mono (by decide)) rfl tk_no (z_cons (z_var 2 (pv 2)) (z_cons (z_var 7 (pv 7)) (z_cons (z_var 10 (pv 10)) z_nil)))) (nomark _)) (zs_one (z_ret z_bl)) zs_nil)
    (zs_cons (z_set (i := 12) nd rfl (.inl rfl) (z_def (ok__law_draw T) (hr.mono (by decide)) rfl tk_no (z_cons (z_var 0 (pv 0)) (z_cons (z_var 1 (pv 1)) (z_cons (z_var 3 (pv 3)) z_nil)))))
    (zs_cons (z_asg (tg := (.many [13, 14])) (z_ix (z_var 10 (pv 10)) (z_var 12 (pv 12))) (tg_many rfl (tgs_cons (pg_name (i := 13) nd rfl (.inl rfl)) (tgs_cons (pg_name (i := 14) nd rfl (.inl rfl)) tgs_nil))))
    (zs_cons (z_set (i := 15) nd rfl (.inl rfl) (z_lst false (z_cons (z_tup (z_cons (z_add false (z_var 13 (pv 13)) (z_var 14 (pv 14))) (z_cons (z_var 14 (pv 14)) z_nil))) (z_cons (z_tup (z_cons (z_add false (z_var 13 (pv 13)) z_int) (z_cons (z_var 14 (pv 14)) z_nil))) (z_cons (z_tup (z_cons (z_mul z_int (z_var 13 (pv 13))) (z_cons (z_mul z_int (z_var 14 (pv 14))) z_nil))) (z_cons (z_tup (z_cons (z_var 13 (pv 13)) (z_cons z_int z_nil))) z_nil))))))
    (zs_one (z_set (i := 10) nd rfl (.inl rfl) (z_add false (z_add false (z_slice false (z_var 10 (pv 10)) z_nopart (z_part (z_var 12 (pv 12)))) (z_tup (z_cons (z_def (ok__law_pick T) (hr.mono (by decide)) rfl tk_no (z_cons (z_var 0 (pv 0)) (z_cons (z_var 1 (pv 1)) (z_cons (z_var 15 (pv 15)) z_nil)))) z_nil))) (z_slice false (z_var 10 (pv 10)) (z_part (z_add false (z_var 12 (pv 12)) z_int)) z_nopart))))))))))))))))
    (zs_one (z_ret (z_def0 (ok__law_others_are_rejected T) (hr.mono (by decide)) rfl tk))))))))))), pure_law ds μ Q E h⟩
end K03
end ZL
open PySem PySem.W PySem.Calls PyProof.Rows
theorem PySem.Challenge.cw_gridbases_k03_whole_vectors_holds : PySem.Challenge.rw_gridbases_k03_whole_vectors.Holds := by
  w_on; o_law
  refine HandSHeadRun.head_any (r := OpenLaw.row PySem.Challenge.rw_gridbases_k03_whole_vectors)
    (q := view (OpenLaw.row PySem.Challenge.rw_gridbases_k03_whole_vectors).prog [38])
    (H := ZL.K03.hook) (ob := ZL.K03.seen) (M := 4000) (loose := ZL.K03.loose)
    (d := HandSHeadRun.topDef (OpenLaw.row PySem.Challenge.rw_gridbases_k03_whole_vectors).prog 38) (kwd := []) ZL.K03.seen_eq
    (by kernel_rfl) (fun s => by kernel_rfl) ZL.K03.run (by kernel_rfl) (by kernel_rfl) (by kernel_rfl) (by rfl)
    (by first | assumption | decide +kernel) (by decide +kernel) ⟨rfl, rfl, rfl, rfl, rfl, by decide +kernel⟩ ?hw ?hc
  case hw => w_witness2
  case hc =>
    refine ZL.walk_law (l := PySem.Challenge.rw_gridbases_k03_whole_vectors) (k := 8) (x := "_law_script") (F := ZL.K03.F_law) rfl (by decide) (by kernel_rfl) ⟨rfl, by decide, by decide⟩ ?F ZL.K03.law_true
    case F =>
      intro w mg fa h Y G hmg0
      obtain ⟨K, KX, c⟩ := Y
      have T := ZL.K03.table KX G c
      have hmg : mg ("law" : PySem.Str) = some (.ref fa) := by
        have e : (HandSHeadRun.topDef (OpenLaw.row PySem.Challenge.rw_gridbases_k03_whole_vectors).prog 38).name = ("law" : PySem.Str) := by kernel_rfl
        rw [← e]
        exact hmg0
      have e := hmg.symm.trans T.d_law.gl
      cases e
      obtain ⟨fd, FD⟩ := T.d_law.ex
      have bd := L2.FunD.bindsA (ps := ["_law_script"]) FD fun _ _ _ _ _ _ us hl => match us, hl with | [_], _ => rfl
      exact ⟨K, fd, KX, fun s v => bd s [v] rfl, fun base => ZL.K03.law_at (P := (PySem.Challenge.rw_gridbases_k03_whole_vectors).prog) T FD⟩
