import PyProof.Rows.All
import HandS.ForMost
import HandS.ForExc
import HandS.CallSlots
import HandS.Deep
import HandS.TupAny
import HandS.TupMul
import HandS.IsInst
import HandS.SortInts
import HandS.Small
import HandS.Comp
import HandS.Iter
import HandS.Zip
import HandS.Ends
import HandS.More
import HandS.Strs
import HandS.Replace
import HandS.SetKeys
import KE.KExcSuper
import HandS.Exc
import HandS.ExcInit
import HandS.ExcSuper
import HandS.ExcField
import HandS.FStr
import PySem.Challenge.RW_everyturn_k53_guarded_programs
set_option Elab.async false
set_option linter.all false
set_option maxRecDepth 100000
/-! EvBase: values without addresses, a heap of the mutable objects alone, results; how they stand to the hand layer's values. -/
namespace Ev
open PySem PySem.Spec PyProof.Rows L2

/-- a value; ref n: the n-th mutable object -/
inductive D where
  | non | bl (b : Bool) | int (i : Int) | str (x : Str) | tup (l : List D) | lst (l : List D) | dic (l : List (D × D)) | scr (l : List Int) | ref (n : Nat) | ty (n : String)
/-- a mutable object -/
inductive O where
  | lst (l : List D) | dic (l : List (D × D)) | ins (c : Str) (fs : List (Str × D))
abbrev Hh := List O
inductive Res (α : Type) where
  | ok (a : α) (h : Hh) | raise (c : Str) (fs : List (Str × D)) (h : Hh) | stuck
/-- what a statement does -/
inductive Fl where
  | nx (ρ : List (Option D)) | ret (d : D) | bk (ρ : List (Option D)) | ct (ρ : List (Option D))
abbrev Env := List (Option D)
abbrev EM (α : Type) := Env → Hh → Res α
abbrev SM := Env → Hh → Res Fl
def Res.bind {α β : Type} (r : Res α) (f : α → Hh → Res β) : Res β := match r with
  | .ok a h => f a h
  | .raise c fs h => .raise c fs h
  | .stuck => .stuck
@[simp] theorem bind_ok {α β : Type} (a : α) (h : Hh) (f : α → Hh → Res β) : (Res.ok a h).bind f = f a h := (rfl)
@[simp] theorem bind_raise {α β : Type} (c : Str) (fs : List (Str × D)) (h : Hh) (f : α → Hh → Res β) : (Res.raise c fs h).bind f = .raise c fs h := (rfl)
@[simp] theorem bind_stuck {α β : Type} (f : α → Hh → Res β) : (Res.stuck : Res α).bind f = .stuck := (rfl)

/-- the addresses of the mutable objects: those that are counted, and those that are being made and are not seen -/
structure Ad where
  c : List Addr
  d : List Addr
def Ad.In (η : Ad) (a : Addr) : Prop := a ∈ η.c ∨ a ∈ η.d
def Ad.push (η : Ad) (a : Addr) : Ad := ⟨η.c ++ [a], η.d⟩
/-- a new one that is not seen -/
def Ad.hide (η : Ad) (a : Addr) : Ad := ⟨η.c, a :: η.d⟩

def keyD : D → Option Key
  | .int i => some (.inl i)
  | .str x => some (.inr x)
  | _ => none

section
variable (K : PySem.W.Frag) (mg : Str → Option Value) (η : Ad) (H : Hp)
mutual
/-- d is what v means -/
def RD : D → V → Prop
  | .non, v => v = .non
  | .bl b, v => v = .bl b
  | .int i, v => v = .int i
  | .str x, v => v = .str x
  | .tup l, v => ∃ a xs, v = .ref a ∧ SqT K H a xs ∧ RDs l xs
  | .lst l, v => ∃ a xs, v = .ref a ∧ H a = some (.lst xs) ∧ ¬ η.In a ∧ RDs l xs
  | .dic l, v => ∃ a xs, v = .ref a ∧ H a = some (.dK xs) ∧ ¬ η.In a ∧ RKs l xs
  | .scr l, v => ∃ a, v = .ref a ∧ ((¬ η.In a ∧ Rd H a (.lst (l.map V.int))) ∨ ∀ H, SqL K H a (l.map V.int))
  | .ref n, v => ∃ a, η.c[n]? = some a ∧ v = .ref a
  | .ty n, v => v = .ty n
def RDs : List D → List V → Prop
  | [], xs => xs = []
  | d :: l, xs => ∃ x r, xs = x :: r ∧ RD d x ∧ RDs l r
def RKs : List (D × D) → List (Key × V) → Prop
  | [], xs => xs = []
  | (k, d) :: l, xs => ∃ k' x r, xs = (k', x) :: r ∧ keyD k = some k' ∧ RD d x ∧ RKs l r
end
def RFs : List (Str × D) → List (Str × V) → Prop
  | [], xs => xs = []
  | (k, d) :: l, xs => ∃ x r, xs = (k, x) :: r ∧ RD K η H d x ∧ RFs l r
/-- the object at a is o -/
def RO (a : Addr) : O → Prop
  | .lst l => ∃ xs, H a = some (.lst xs) ∧ RDs K η H l xs
  | .dic l => ∃ xs, H a = some (.dK xs) ∧ RKs K η H l xs
  | .ins c fs => ∃ C dx gs, mg c = some (.ref C) ∧ H a = some (.ins C dx gs) ∧ ¬ η.In dx ∧ H dx = some (.own a) ∧ RFs K η H fs gs
structure RH (h : Hh) : Prop where
  len : η.c.length = h.length
  nd : η.c.Nodup
  ap : ∀ a ∈ η.c, a ∉ η.d
  hid : ∀ a ∈ η.d, ∃ xs, H a = some (.lst xs)
  ob : ∀ (i : Nat) (a : Addr) (o : O), η.c[i]? = some a → h[i]? = some o → RO K mg η H a o
/-- the slots -/
structure RS (σ : L2.St) (ρ : Env) : Prop where
  len : σ.length = ρ.length
  at_ : ∀ (i : Nat) (d : D), ρ[i]? = some (some d) → ∃ v, σ[i]? = some (some v) ∧ RD K η H d v
end
/-- nothing but the mutable objects has changed; the new ones are new -/
structure Stw (η : Ad) (H : Hp) (η' : Ad) (H' : Hp) : Prop where
  pre : ∃ ζ, η'.c = η.c ++ ζ
  new : ∀ b, η'.In b → η.In b ∨ H b = none
  keep : ∀ a o, ¬ η.In a → H a = some o → H' a = some o
  tup : ∀ a xs, Rd H a (.tup xs) → Rd H' a (.tup xs)
structure Step (η : Ad) (H : Hp) (η' : Ad) (H' : Hp) : Prop extends Stw η H η' H' where
  hid : η'.d = η.d
  kh : ∀ a ∈ η.d, H' a = H a
theorem Step.refl (η : Ad) (H : Hp) : Step η H η H := ⟨⟨⟨[], by simp⟩, fun _ h => .inl h, fun _ _ _ h => h, fun _ _ h => h⟩, rfl, fun _ _ => rfl⟩
theorem Step.trans {η η1 η2 : Ad} {H H1 H2 : Hp} (a : Step η H η1 H1) (b : Step η1 H1 η2 H2) : Step η H η2 H2 where
  pre := by
    obtain ⟨z1, e1⟩ := a.pre
    obtain ⟨z2, e2⟩ := b.pre
    exact ⟨z1 ++ z2, by rw [e2, e1, List.append_assoc]⟩
  hid := b.hid.trans a.hid
  new := fun c hc => by
    rcases b.new c hc with h | h
    · exact a.new c h
    · by_cases q : η.In c
      · exact .inl q
      · cases e : H c with
        | none => exact .inr rfl
        | some o =>
          rw [a.keep c o q e] at h
          cases h
  keep := fun c o hc e => by
    refine b.keep c o (fun q => ?_) (a.keep c o hc e)
    rcases a.new c q with h | h
    · exact hc h
    · rw [h] at e
      cases e
  kh := fun c hc => (b.kh c (by rw [a.hid]; exact hc)).trans (a.kh c hc)
  tup := fun c xs h => b.tup c xs (a.tup c xs h)
theorem Stw.nin {η η' : Ad} {H H' : Hp} (s : Stw η H η' H') {a : Addr} {o : HO} (n : ¬ η.In a) (e : H a = some o) : ¬ η'.In a := fun q => by
  rcases s.new a q with h | h
  · exact n h
  · rw [h] at e
    cases e
theorem Stw.at_ {η η' : Ad} {H H' : Hp} (s : Stw η H η' H') {n : Nat} {a : Addr} (e : η.c[n]? = some a) : η'.c[n]? = some a := by
  obtain ⟨z, h⟩ := s.pre
  rw [h, List.getElem?_append_left (List.getElem?_eq_some_iff.mp e).1]
  exact e
theorem Stw.sqT {K : PySem.W.Frag} {η η' : Ad} {H H' : Hp} (s : Stw η H η' H') {a : Addr} {xs : List V} (h : SqT K H a xs) : SqT K H' a xs := by
  rcases h with h | h
  · exact .inl (s.tup a xs h)
  · exact .inr h
section
variable {K : PySem.W.Frag} {mg : Str → Option Value} {η η' : Ad} {H H' : Hp}
theorem Stw.rd1 {u : HO} {a : Addr} (s : Stw η H η' H') (n : ¬ η.In a) (h : Rd H a u) : Rd H' a u ∧ ¬ η'.In a := by
  rcases h with h | ⟨o, h⟩
  · exact ⟨.inl (s.keep a _ n h), s.nin n h⟩
  · exact ⟨.inr ⟨o, s.keep a _ n h⟩, s.nin n h⟩
mutual
theorem RD.stw (s : Stw η H η' H') : ∀ (d : D) (v : V), RD K η H d v → RD K η' H' d v
  | .non, v, h => h
  | .bl b, v, h => h
  | .int i, v, h => h
  | .str x, v, h => h
  | .tup l, v, h => by
    obtain ⟨a, xs, e, q, r⟩ := h
    exact ⟨a, xs, e, s.sqT q, RDs.stw s l xs r⟩
  | .lst l, v, h => by
    obtain ⟨a, xs, e, q, n, r⟩ := h
    exact ⟨a, xs, e, s.keep _ _ n q, s.nin n q, RDs.stw s l xs r⟩
  | .dic l, v, h => by
    obtain ⟨a, xs, e, q, n, r⟩ := h
    exact ⟨a, xs, e, s.keep _ _ n q, s.nin n q, RKs.stw s l xs r⟩
  | .scr l, v, h => by
    obtain ⟨a, e, h | h⟩ := h
    · have q := s.rd1 h.1 h.2
      exact ⟨a, e, .inl ⟨q.2, q.1⟩⟩
    · exact ⟨a, e, .inr h⟩
  | .ref n, v, h => by
    obtain ⟨a, e, q⟩ := h
    exact ⟨a, s.at_ e, q⟩
  | .ty n, v, h => h
theorem RDs.stw (s : Stw η H η' H') : ∀ (l : List D) (xs : List V), RDs K η H l xs → RDs K η' H' l xs
  | [], xs, h => h
  | d :: l, xs, h => by
    obtain ⟨x, r, e, q, t⟩ := h
    exact ⟨x, r, e, RD.stw s d x q, RDs.stw s l r t⟩
theorem RKs.stw (s : Stw η H η' H') : ∀ (l : List (D × D)) (xs : List (Key × V)), RKs K η H l xs → RKs K η' H' l xs
  | [], xs, h => h
  | (k, d) :: l, xs, h => by
    obtain ⟨k', x, r, e, q, t, u⟩ := h
    exact ⟨k', x, r, e, q, RD.stw s d x t, RKs.stw s l r u⟩
end
theorem RFs.stw (s : Stw η H η' H') : ∀ (l : List (Str × D)) (xs : List (Str × V)), RFs K η H l xs → RFs K η' H' l xs
  | [], xs, h => h
  | (k, d) :: l, xs, h => by
    obtain ⟨x, r, e, t, u⟩ := h
    exact ⟨x, r, e, RD.stw s d x t, RFs.stw s l r u⟩
theorem RD.step (s : Step η H η' H') (d : D) (v : V) (r : RD K η H d v) : RD K η' H' d v := RD.stw s.toStw d v r
theorem RDs.step (s : Step η H η' H') (d : List D) (v : List V) (r : RDs K η H d v) : RDs K η' H' d v := RDs.stw s.toStw d v r
theorem RKs.step (s : Step η H η' H') (d : List (D × D)) (v : List (Key × V)) (r : RKs K η H d v) : RKs K η' H' d v := RKs.stw s.toStw d v r
theorem RFs.step (s : Step η H η' H') (d : List (Str × D)) (v : List (Str × V)) (r : RFs K η H d v) : RFs K η' H' d v := RFs.stw s.toStw d v r
theorem RS.stw {σ : L2.St} {ρ : Env} (s : Stw η H η' H') (r : RS K η H σ ρ) : RS K η' H' σ ρ :=
  ⟨r.len, fun i d e => let ⟨v, e1, q⟩ := r.at_ i d e; ⟨v, e1, q.stw s⟩⟩
theorem RS.step {σ : L2.St} {ρ : Env} (s : Step η H η' H') (r : RS K η H σ ρ) : RS K η' H' σ ρ := r.stw s.toStw
theorem RDs.length : ∀ {l : List D} {xs : List V}, RDs K η H l xs → xs.length = l.length
  | [], _, h => by cases h; rfl
  | d :: l, xs, h => by
    obtain ⟨x, r, rfl, _, t⟩ := h
    rw [List.length_cons, List.length_cons, t.length]
theorem RDs.get : ∀ {l : List D} {xs : List V} {i : Nat} {d : D}, RDs K η H l xs → l[i]? = some d → ∃ x, xs[i]? = some x ∧ RD K η H d x
  | [], _, _, _, h, e => by simp at e
  | d :: l, xs, 0, d', h, e => by
    obtain ⟨x, r, rfl, q, t⟩ := h
    cases (Option.some.inj e)
    exact ⟨x, rfl, q⟩
  | d :: l, xs, i + 1, d', h, e => by
    obtain ⟨x, r, rfl, q, t⟩ := h
    exact RDs.get (i := i) t e
theorem RDs.app : ∀ {l l' : List D} {xs xs' : List V}, RDs K η H l xs → RDs K η H l' xs' → RDs K η H (l ++ l') (xs ++ xs')
  | [], _, _, _, h, h' => by cases h; exact h'
  | d :: l, l', xs, xs', h, h' => by
    obtain ⟨x, r, rfl, q, t⟩ := h
    exact ⟨x, r ++ xs', rfl, q, RDs.app t h'⟩
theorem RDs.take : ∀ {l : List D} {xs : List V} (n : Nat), RDs K η H l xs → RDs K η H (l.take n) (xs.take n)
  | _, _, 0, _ => rfl
  | [], _, n + 1, h => by cases h; rfl
  | d :: l, xs, n + 1, h => by
    obtain ⟨x, r, rfl, q, t⟩ := h
    exact ⟨x, r.take n, rfl, q, RDs.take n t⟩
theorem RDs.drop : ∀ {l : List D} {xs : List V} (n : Nat), RDs K η H l xs → RDs K η H (l.drop n) (xs.drop n)
  | _, _, 0, h => h
  | [], _, n + 1, h => by cases h; rfl
  | d :: l, xs, n + 1, h => by
    obtain ⟨x, r, rfl, q, t⟩ := h
    exact RDs.drop (l := l) n t
theorem RDs.set : ∀ {l : List D} {xs : List V} (n : Nat) {d : D} {x : V}, RDs K η H l xs → RD K η H d x → RDs K η H (l.set n d) (xs.set n x)
  | [], _, _, _, _, h, _ => by cases h; rfl
  | d :: l, xs, 0, d', x', h, k => by
    obtain ⟨x, r, rfl, q, t⟩ := h
    exact ⟨x', r, rfl, k, t⟩
  | d :: l, xs, n + 1, d', x', h, k => by
    obtain ⟨x, r, rfl, q, t⟩ := h
    exact ⟨x, r.set n x', rfl, q, RDs.set n t k⟩
theorem RDs.ints : ∀ {l : List Int} {xs : List V}, RDs K η H (l.map D.int) xs → xs = l.map V.int
  | [], _, h => h
  | i :: l, xs, h => by
    obtain ⟨x, r, rfl, q, t⟩ := h
    rw [t.ints, q]
    rfl
theorem RDs.of_ints : ∀ (l : List Int), RDs K η H (l.map D.int) (l.map V.int)
  | [] => rfl
  | i :: l => ⟨.int i, l.map V.int, rfl, rfl, RDs.of_ints l⟩

/-! ### a mutable object changes, a new one comes -/
def mutO : HO → Prop
  | .lst _ | .dK _ | .ins _ _ _ => True
  | _ => False
theorem RO.mut {a : Addr} {o : O} (h : RO K mg η H a o) : ∃ u, H a = some u ∧ mutO u := by
  cases o with
  | lst l => obtain ⟨xs, e, _⟩ := h; exact ⟨_, e, trivial⟩
  | dic l => obtain ⟨xs, e, _⟩ := h; exact ⟨_, e, trivial⟩
  | ins c fs => obtain ⟨C, dx, gs, _, e, _⟩ := h; exact ⟨_, e, trivial⟩
theorem mem_of_at {n : Nat} {a : Addr} (e : η.c[n]? = some a) : a ∈ η.c := List.mem_of_getElem? e
theorem Step.upd {a : Addr} {u o : HO} (ha : a ∈ η.c) (hd : a ∉ η.d) (e : H a = some u) (m : mutO u) : Step η H η (L2.upd H a o) where
  pre := ⟨[], by simp⟩
  hid := rfl
  new := fun _ h => .inl h
  keep := fun b u n q => by
    have ne : b ≠ a := fun z => n (by rw [z]; exact .inl ha)
    rw [upd_ne ne]
    exact q
  kh := fun b hb => by
    have ne : b ≠ a := fun z => hd (by rw [← z]; exact hb)
    rw [upd_ne ne]
  tup := fun b xs h => by
    have ne : b ≠ a := fun z => by
      subst z
      rcases h with h | ⟨ob, h⟩
      · rw [e] at h; cases h; exact m
      · rw [e] at h; cases h; exact m
    rcases h with h | ⟨ob, h⟩
    · exact .inl (by rw [upd_ne ne]; exact h)
    · exact .inr ⟨ob, by rw [upd_ne ne]; exact h⟩
/-- new objects, not counted -/
theorem Step.new1 {a : Addr} {o : HO} (n : H a = none) (hd : ∀ b ∈ η.d, ∃ xs, H b = some (.lst xs)) : Step η H η (L2.upd H a o) where
  pre := ⟨[], by simp⟩
  hid := rfl
  new := fun _ h => .inl h
  keep := fun b u _ q => by
    rw [upd_ne (ne_of_none q n)]
    exact q
  kh := fun b hb => by
    obtain ⟨xs, q⟩ := hd b hb
    rw [upd_ne (ne_of_none q n)]
  tup := fun b xs h => by
    rcases h with h | ⟨ob, h⟩
    · exact .inl (by rw [upd_ne (ne_of_none h n)]; exact h)
    · exact .inr ⟨ob, by rw [upd_ne (ne_of_none h n)]; exact h⟩
/-- an object elsewhere stays -/
theorem RO.stw {a : Addr} {o : O} (s : Stw η H η' H') (k : ∀ u, H a = some u → H' a = some u) (h : RO K mg η H a o) : RO K mg η' H' a o := by
  cases o with
  | lst l => obtain ⟨xs, e, r⟩ := h; exact ⟨xs, k _ e, r.stw s⟩
  | dic l => obtain ⟨xs, e, r⟩ := h; exact ⟨xs, k _ e, r.stw s⟩
  | ins c fs =>
    obtain ⟨C, dx, gs, m, e, n, d, r⟩ := h
    exact ⟨C, dx, gs, m, k _ e, s.nin n d, s.keep _ _ n d, r.stw s⟩
theorem RO.step {a : Addr} {o : O} (s : Step η H η' H') (k : ∀ u, H a = some u → H' a = some u) (h : RO K mg η H a o) : RO K mg η' H' a o := h.stw s.toStw k
theorem RH.lt {h : Hh} (r : RH K mg η H h) {n : Nat} {a : Addr} (e : η.c[n]? = some a) : n < h.length := by
  rw [← r.len]
  exact (List.getElem?_eq_some_iff.mp e).1
theorem RH.addr {h : Hh} (r : RH K mg η H h) {n : Nat} {o : O} (e : h[n]? = some o) : ∃ a, η.c[n]? = some a ∧ RO K mg η H a o := by
  have hn : n < η.c.length := by
    rw [r.len]
    exact (List.getElem?_eq_some_iff.mp e).1
  exact ⟨η.c[n], List.getElem?_eq_getElem hn, r.ob n _ o (List.getElem?_eq_getElem hn) e⟩
theorem RH.inj {h : Hh} (r : RH K mg η H h) {n m : Nat} {a : Addr} (e : η.c[n]? = some a) (e' : η.c[m]? = some a) : n = m := by
  obtain ⟨h1, e1⟩ := List.getElem?_eq_some_iff.mp e
  obtain ⟨h2, e2⟩ := List.getElem?_eq_some_iff.mp e'
  exact (List.getElem_inj r.nd).mp (e1.trans e2.symm)
theorem RH.nin {h : Hh} {a : Addr} (r : RH K mg η H h) (n : H a = none) : ¬ η.In a := fun q => by
  rcases q with q | q
  · obtain ⟨i, hi, e⟩ := List.getElem_of_mem q
    have hl : i < h.length := by rw [← r.len]; exact hi
    obtain ⟨u, e2, _⟩ := (r.ob i a _ (by rw [List.getElem?_eq_getElem hi, e]) (List.getElem?_eq_getElem hl)).mut
    rw [n] at e2
    cases e2
  · obtain ⟨xs, e⟩ := r.hid a q
    rw [n] at e
    cases e
theorem RH.updS {h : Hh} (r : RH K mg η H h) {n : Nat} {a : Addr} {u o : HO} (e : η.c[n]? = some a) (eu : H a = some u) (mu : mutO u) : Step η H η (L2.upd H a o) :=
  .upd (mem_of_at e) (r.ap a (mem_of_at e)) eu mu
/-- one object changes -/
theorem RH.set {h : Hh} {n : Nat} {a : Addr} {o : O} {ho : HO} (r : RH K mg η H h) (e : η.c[n]? = some a) {u : HO} (eu : H a = some u) (mu : mutO u) (new : RO K mg η (upd H a ho) a o) : RH K mg η (upd H a ho) (h.set n o) where
  len := by rw [List.length_set]; exact r.len
  nd := r.nd
  ap := r.ap
  hid := fun b hb => by
    have ne : b ≠ a := fun z => r.ap a (mem_of_at e) (by rw [← z]; exact hb)
    rw [upd_ne ne]
    exact r.hid b hb
  ob := fun i b o' e1 e2 => by
    by_cases q : i = n
    · subst q
      rw [e] at e1
      cases e1
      rw [List.getElem?_set_self (r.lt e)] at e2
      cases e2
      exact new
    · rw [List.getElem?_set_ne (Ne.symm q)] at e2
      have ne : b ≠ a := fun z => q (r.inj e1 (z ▸ e))
      exact (r.ob i b o' e1 e2).step (r.updS e eu mu) fun u q => by rw [upd_ne ne]; exact q
theorem RH.mono {h : Hh} (r : RH K mg η H h) (s : Step η H η H') (k : ∀ b ∈ η.c, ∀ u, H b = some u → H' b = some u) : RH K mg η H' h :=
  ⟨r.len, r.nd, r.ap, fun a ha => by rw [s.kh a ha]; exact r.hid a ha, fun i b o e1 e2 => (r.ob i b o e1 e2).step s (k b (mem_of_at e1))⟩
theorem RH.new1S {h : Hh} {a : Addr} {o : HO} (r : RH K mg η H h) (n : H a = none) : Step η H η (L2.upd H a o) := .new1 n r.hid
/-- a new object that is not counted -/
theorem RH.new1 {h : Hh} {a : Addr} {o : HO} (r : RH K mg η H h) (n : H a = none) : RH K mg η (upd H a o) h :=
  r.mono (r.new1S n) fun b _ u q => by rw [upd_ne (ne_of_none q n)]; exact q
theorem RH.allocS {h : Hh} {a : Addr} {u : HO} (r : RH K mg η H h) (n : H a = none) : Step η H (η.push a) (L2.upd H a u) where
  pre := ⟨[a], rfl⟩
  hid := rfl
  new := fun b hb => by
    rcases hb with hb | hb
    · rcases List.mem_append.mp hb with h | h
      · exact .inl (.inl h)
      · rw [List.mem_singleton.mp h]
        exact .inr n
    · exact .inl (.inr hb)
  keep := (r.new1S (o := u) n).keep
  kh := (r.new1S (o := u) n).kh
  tup := (r.new1S (o := u) n).tup
/-- a new one that is counted -/
theorem RH.alloc {h : Hh} {a : Addr} {o : O} {u : HO} (r : RH K mg η H h) (n : H a = none) (new : RO K mg (η.push a) (upd H a u) a o) : RH K mg (η.push a) (upd H a u) (h ++ [o]) where
  len := by
    show (η.c ++ [a]).length = _
    simp [r.len]
  nd := by
    show (η.c ++ [a]).Nodup
    rw [List.nodup_append]
    refine ⟨r.nd, by simp, fun x hx y hy => ?_⟩
    rw [List.mem_singleton.mp hy]
    exact fun z => r.nin n (.inl (z ▸ hx))
  ap := fun b hb => by
    rcases List.mem_append.mp hb with h | h
    · exact r.ap b h
    · rw [List.mem_singleton.mp h]
      exact fun z => r.nin n (.inr z)
  hid := fun b hb => by
    obtain ⟨xs, q⟩ := r.hid b hb
    exact ⟨xs, by rw [upd_ne (ne_of_none q n)]; exact q⟩
  ob := fun i b o' e1 e2 => by
    have e1 : (η.c ++ [a])[i]? = some b := e1
    by_cases q : i < η.c.length
    · rw [List.getElem?_append_left q] at e1
      rw [List.getElem?_append_left (by rw [← r.len]; exact q)] at e2
      exact (r.ob i b o' e1 e2).step (r.allocS n) fun u q => by rw [upd_ne (ne_of_none q n)]; exact q
    · rw [List.getElem?_append_right (by omega)] at e1
      rw [List.getElem?_append_right (by have := r.len; omega)] at e2
      rw [r.len] at e1
      have h0 : i - h.length = 0 := by
        have := (List.getElem?_eq_some_iff.mp e1).1
        simpa using this
      rw [h0] at e1 e2
      cases e1
      cases e2
      exact new
/-! ### a list that is being made, not seen -/
theorem In_hide {p a : Addr} : (η.hide p).In a ↔ η.In a ∨ a = p := by
  unfold Ad.In Ad.hide
  simp only [List.mem_cons]
  constructor
  · rintro (h | h | h)
    · exact .inl (.inl h)
    · exact .inr h
    · exact .inl (.inr h)
  · rintro ((h | h) | h)
    · exact .inl h
    · exact .inr (.inr h)
    · exact .inr (.inl h)
/-- from the outside to a step within -/
theorem Step.under {θ : Ad} {H1 : Hp} {p : Addr} (s : Step η H1 θ H) (n : H1 p = none) (t : Step (θ.hide p) H η' H') : ∃ θ' : Ad, η' = θ'.hide p ∧ Step η H1 θ' H' := by
  refine ⟨⟨η'.c, θ.d⟩, ?_, ⟨⟨?_, fun b hb => ?_, fun a o hn e => ?_, fun a xs h => t.tup a xs (s.tup a xs h)⟩, s.hid, fun a ha => ?_⟩⟩
  · have := t.hid
    cases η'
    simp only at this
    rw [this]
    rfl
  · obtain ⟨z1, e1⟩ := s.pre
    obtain ⟨z2, e2⟩ := t.pre
    refine ⟨z1 ++ z2, ?_⟩
    show η'.c = _
    rw [e2]
    show θ.c ++ z2 = _
    rw [e1, List.append_assoc]
  · have hb' : η'.In b := by
      rcases hb with h | h
      · exact .inl h
      · exact .inr (by rw [t.hid]; exact List.mem_cons_of_mem _ h)
    rcases t.new b hb' with h | h
    · rcases In_hide.mp h with h | h
      · exact s.new b h
      · rw [h]
        exact .inr n
    · by_cases q : η.In b
      · exact .inl q
      · cases e : H1 b with
        | none => exact .inr rfl
        | some o =>
          rw [s.keep b o q e] at h
          cases h
  · refine t.keep a o (fun q => ?_) (s.keep a o hn e)
    rcases In_hide.mp q with h | h
    · exact s.nin hn e h
    · rw [h, n] at e
      cases e
  · have h1 : a ∈ θ.d := by rw [s.hid]; exact ha
    rw [t.kh a (List.mem_cons_of_mem _ h1), s.kh a ha]
theorem Stw.grown {θ : Ad} {p : Addr} {xs ys : List V} (e : H p = some (.lst xs)) : Stw (θ.hide p) H (θ.hide p) (L2.upd H p (.lst ys)) where
  pre := ⟨[], by simp⟩
  new := fun _ h => .inl h
  keep := fun a o hn q => by
    have ne : a ≠ p := fun z => hn (In_hide.mpr (.inr z))
    rw [upd_ne ne]
    exact q
  tup := fun a zs h => by
    have ne : a ≠ p := fun z => by
      subst z
      rcases h with h | ⟨o, h⟩
      · rw [e] at h; cases h
      · rw [e] at h; cases h
    rcases h with h | ⟨o, h⟩
    · exact .inl (by rw [upd_ne ne]; exact h)
    · exact .inr ⟨o, by rw [upd_ne ne]; exact h⟩
theorem Step.grown {θ : Ad} {H1 : Hp} {p : Addr} {xs ys : List V} (s : Step η H1 θ H) (n : H1 p = none) (hd : ∀ b ∈ η.d, ∃ xs, H1 b = some (.lst xs)) (e : H p = some (.lst xs)) : Step η H1 θ (L2.upd H p (.lst ys)) where
  pre := s.pre
  new := s.new
  keep := fun a o hn q => by
    rw [upd_ne (ne_of_none q n)]
    exact s.keep a o hn q
  tup := fun a zs h => (Stw.grown (θ := θ) e).tup a zs (s.tup a zs h)
  hid := s.hid
  kh := fun a ha => by
    obtain ⟨zs, q⟩ := hd a ha
    rw [upd_ne (ne_of_none q n)]
    exact s.kh a ha
theorem RH.grown {h : Hh} {θ : Ad} {p : Addr} {xs ys : List V} (r : RH K mg (θ.hide p) H h) (e : H p = some (.lst xs)) : RH K mg (θ.hide p) (L2.upd H p (.lst ys)) h where
  len := r.len
  nd := r.nd
  ap := r.ap
  hid := fun a ha => by
    by_cases q : a = p
    · rw [q, upd_same]
      exact ⟨ys, rfl⟩
    · rw [upd_ne q]
      exact r.hid a ha
  ob := fun i b o e1 e2 => by
    have ne : b ≠ p := fun z => r.ap b (mem_of_at e1) (by rw [z]; exact List.mem_cons_self)
    exact (r.ob i b o e1 e2).stw (.grown e) fun u q => by rw [upd_ne ne]; exact q
/-- it is seen -/
theorem Stw.shown {θ : Ad} {p : Addr} : ∀ b, θ.In b → (θ.hide p).In b := fun _ h => In_hide.mpr (.inl h)
mutual
theorem RD.sub (hc : η'.c = η.c) (i : ∀ b, η'.In b → η.In b) : ∀ (d : D) (v : V), RD K η H d v → RD K η' H d v
  | .non, v, h => h
  | .bl b, v, h => h
  | .int i, v, h => h
  | .str x, v, h => h
  | .tup l, v, h => by
    obtain ⟨a, xs, e, q, r⟩ := h
    exact ⟨a, xs, e, q, RDs.sub hc i l xs r⟩
  | .lst l, v, h => by
    obtain ⟨a, xs, e, q, n, r⟩ := h
    exact ⟨a, xs, e, q, fun z => n (i a z), RDs.sub hc i l xs r⟩
  | .dic l, v, h => by
    obtain ⟨a, xs, e, q, n, r⟩ := h
    exact ⟨a, xs, e, q, fun z => n (i a z), RKs.sub hc i l xs r⟩
  | .scr l, v, h => by
    obtain ⟨a, e, h | h⟩ := h
    · exact ⟨a, e, .inl ⟨fun z => h.1 (i a z), h.2⟩⟩
    · exact ⟨a, e, .inr h⟩
  | .ref n, v, h => by
    obtain ⟨a, e, q⟩ := h
    exact ⟨a, by rw [hc]; exact e, q⟩
  | .ty n, v, h => h
theorem RDs.sub (hc : η'.c = η.c) (i : ∀ b, η'.In b → η.In b) : ∀ (l : List D) (xs : List V), RDs K η H l xs → RDs K η' H l xs
  | [], xs, h => h
  | d :: l, xs, h => by
    obtain ⟨x, r, e, q, t⟩ := h
    exact ⟨x, r, e, RD.sub hc i d x q, RDs.sub hc i l r t⟩
theorem RKs.sub (hc : η'.c = η.c) (i : ∀ b, η'.In b → η.In b) : ∀ (l : List (D × D)) (xs : List (Key × V)), RKs K η H l xs → RKs K η' H l xs
  | [], xs, h => h
  | (k, d) :: l, xs, h => by
    obtain ⟨k', x, r, e, q, t, u⟩ := h
    exact ⟨k', x, r, e, q, RD.sub hc i d x t, RKs.sub hc i l r u⟩
end
theorem RFs.sub (hc : η'.c = η.c) (i : ∀ b, η'.In b → η.In b) : ∀ (l : List (Str × D)) (xs : List (Str × V)), RFs K η H l xs → RFs K η' H l xs
  | [], xs, h => h
  | (k, d) :: l, xs, h => by
    obtain ⟨x, r, e, t, u⟩ := h
    exact ⟨x, r, e, RD.sub hc i d x t, RFs.sub hc i l r u⟩
theorem RO.sub (hc : η'.c = η.c) (i : ∀ b, η'.In b → η.In b) {a : Addr} {o : O} (h : RO K mg η H a o) : RO K mg η' H a o := by
  cases o with
  | lst l => obtain ⟨xs, e, r⟩ := h; exact ⟨xs, e, RDs.sub hc i _ _ r⟩
  | dic l => obtain ⟨xs, e, r⟩ := h; exact ⟨xs, e, RKs.sub hc i _ _ r⟩
  | ins c fs =>
    obtain ⟨C, dx, gs, m, e, n, d, r⟩ := h
    exact ⟨C, dx, gs, m, e, fun z => n (i _ z), d, RFs.sub hc i _ _ r⟩
theorem RH.shown {h : Hh} {θ : Ad} {p : Addr} (r : RH K mg (θ.hide p) H h) : RH K mg θ H h where
  len := r.len
  nd := r.nd
  ap := fun a ha z => r.ap a ha (List.mem_cons_of_mem _ z)
  hid := fun a ha => r.hid a (List.mem_cons_of_mem _ ha)
  ob := fun i b o e1 e2 => RO.sub (η := θ.hide p) (η' := θ) rfl Stw.shown (r.ob i b o e1 e2)
theorem Stw.hidden {p : Addr} {xs : List V} (n : H p = none) : Stw η H (η.hide p) (L2.upd H p (.lst xs)) where
  pre := ⟨[], by simp [Ad.hide]⟩
  new := fun b hb => by
    rcases In_hide.mp hb with h | h
    · exact .inl h
    · rw [h]
      exact .inr n
  keep := fun a o _ q => by
    rw [upd_ne (ne_of_none q n)]
    exact q
  tup := fun a zs h => by
    rcases h with h | ⟨o, h⟩
    · exact .inl (by rw [upd_ne (ne_of_none h n)]; exact h)
    · exact .inr ⟨o, by rw [upd_ne (ne_of_none h n)]; exact h⟩
theorem RH.hidden {h : Hh} {p : Addr} {xs : List V} (r : RH K mg η H h) (n : H p = none) : RH K mg (η.hide p) (L2.upd H p (.lst xs)) h where
  len := r.len
  nd := r.nd
  ap := fun a ha z => by
    rcases List.mem_cons.mp z with z | z
    · exact r.nin n (.inl (z ▸ ha))
    · exact r.ap a ha z
  hid := fun a ha => by
    rcases List.mem_cons.mp ha with z | z
    · rw [z, upd_same]
      exact ⟨xs, rfl⟩
    · obtain ⟨ys, q⟩ := r.hid a z
      exact ⟨ys, by rw [upd_ne (ne_of_none q n)]; exact q⟩
  ob := fun i b o e1 e2 => by
    obtain ⟨u, eu, _⟩ := (r.ob i b o e1 e2).mut
    exact (r.ob i b o e1 e2).stw (Stw.hidden n) fun u q => by rw [upd_ne (ne_of_none q n)]; exact q
end
end Ev

/-! EvJ: the judgements: an expression, a test, arguments, a statement of the program, and what it does on values without addresses. -/
namespace Ev
open PySem PySem.Spec PyProof.Rows L2

inductive SR where
  | nx (ρ : Env) (h : Hh) | ret (d : D) (h : Hh) | bk (ρ : Env) (h : Hh) | ct (ρ : Env) (h : Hh) | rs (c : Str) (fs : List (Str × D)) (ρ : Env) (h : Hh) | stuck
abbrev SS := Env → Hh → SR

/-- the exception's own dict holds its fields -/
def RE (K : PySem.W.Frag) (η : Ad) (H : Hp) (dx : Option Addr) (fs : List (Str × D)) : Prop := match dx with
  | none => fs = []
  | some a => ∃ gs, H a = some (.xd gs) ∧ RFs K η H fs gs

section
variable (X : Cx) (W : WX)
/-- what an end must give -/
def Po {α β : Type} (R : α → β → Ad → Hp → Prop) (σ : L2.St) (η : Ad) (H : Hp) (r : Res α) (Q : β → Hp → Prop) : Prop := match r with
  | .ok a h => ∀ b η' H', Step η H η' H' → RH X.K X.mg η' H' h → R a b η' H' → Q b H'
  | .raise c fs h => ∀ η' H' C dx, Step η H η' H' → RH X.K X.mg η' H' h → X.mg c = some (.ref C) → RE X.K η' H' dx fs → W (.ref C) dx σ H'
  | .stuck => False
def PoS (η : Ad) (H : Hp) (r : SR) (E : Ends) : Prop := match r with
  | .nx ρ h => ∀ σ' η' H', Step η H η' H' → RS X.K η' H' σ' ρ → RH X.K X.mg η' H' h → E.nx σ' H'
  | .ret d h => ∀ v η' H', Step η H η' H' → RH X.K X.mg η' H' h → RD X.K η' H' d v → E.rt v H'
  | .bk ρ h => ∀ σ' η' H', Step η H η' H' → RS X.K η' H' σ' ρ → RH X.K X.mg η' H' h → E.bk σ' H'
  | .ct ρ h => ∀ σ' η' H', Step η H η' H' → RS X.K η' H' σ' ρ → RH X.K X.mg η' H' h → E.ct σ' H'
  | .rs c fs ρ h => ∀ σ' η' H' C dx, Step η H η' H' → RS X.K η' H' σ' ρ → RH X.K X.mg η' H' h → X.mg c = some (.ref C) → RE X.K η' H' dx fs → W (.ref C) dx σ' H'
  | .stuck => False
def rD (X : Cx) : D → V → Ad → Hp → Prop := fun d v η H => RD X.K η H d v
def rB : Bool → Bool → Ad → Hp → Prop := fun a b _ _ => a = b
def rA (X : Cx) : List D → List V → Ad → Hp → Prop := fun d v η H => RDs X.K η H d v
def rI : Option Int → Option Int → Ad → Hp → Prop := fun a b _ _ => a = b
def tM {α β : Type} (R : α → β → Ad → Hp → Prop) (m : EM α) : L2.St → Hp → (β → Hp → Prop) → Prop := fun σ H Q =>
  ∃ ρ η h, RS X.K η H σ ρ ∧ RH X.K X.mg η H h ∧ Po X W R σ η H (m ρ h) Q
def tS (m : SS) : TS := fun E σ H => ∃ ρ η h, RS X.K η H σ ρ ∧ RH X.K X.mg η H h ∧ PoS X W η H (m ρ h) E
structure ME (e : Expr) (m : EM D) : Prop where
  pe : PE X e (tM X W (rD X) m)
structure MT (e : Expr) (m : EM Bool) : Prop where
  pt : PT X e (tM X W rB m)
structure MW (e : Expr) (m : EM Bool) : Prop where
  pw : PW X e (tM X W rB m)
structure MA (es : List Expr) (m : EM (List D)) : Prop where
  pa : PA X es (tM X W (rA X) m)
  len : ∀ ρ h ds h', m ρ h = .ok ds h' → ds.length = es.length
structure MO (e : Option Expr) (m : EM (Option Int)) : Prop where
  po : PO X e (tM X W rI m)
structure MS (st : Stmt) (m : SS) : Prop where
  ps : PS X st (tS X W m)
structure MB (st : List Stmt) (m : SS) : Prop where
  ps : PSs X st (tS X W m)
end

/-! ### weakening -/
section
variable {X : Cx} {W : WX}
theorem PE.wk {e : Expr} {t t' : TE} (h : PE X e t) (i : ∀ σ H Q, t' σ H Q → t σ H Q) : PE X e t' := ⟨fun pins s σ H Q I q => h.run pins s σ H Q I (i σ H Q q)⟩
theorem PT.wk {e : Expr} {t t' : TT} (h : PT X e t) (i : ∀ σ H Q, t' σ H Q → t σ H Q) : PT X e t' := ⟨fun pins s σ H Q I q => h.run pins s σ H Q I (i σ H Q q)⟩
theorem PW.wk {e : Expr} {t t' : TT} (h : PW X e t) (i : ∀ σ H Q, t' σ H Q → t σ H Q) : PW X e t' := ⟨fun w pins s σ H Q I q => h.run w pins s σ H Q I (i σ H Q q)⟩
theorem PA.wk {es : List Expr} {t t' : TA} (h : PA X es t) (i : ∀ σ H Q, t' σ H Q → t σ H Q) : PA X es t' := ⟨fun p pins s σ H Q I q => h.run p pins s σ H Q I (i σ H Q q)⟩
theorem PO.wk {e : Option Expr} {t t' : TO} (h : PO X e t) (i : ∀ σ H Q, t' σ H Q → t σ H Q) : PO X e t' := ⟨fun pins s σ H Q I q => h.run pins s σ H Q I (i σ H Q q)⟩
theorem PS.wk {e : Stmt} {t t' : TS} (h : PS X e t) (i : ∀ E σ H, t' E σ H → t E σ H) : PS X e t' := ⟨fun pins s σ H E I q => h.run pins s σ H E I (i E σ H q)⟩
theorem PSs.wk {e : List Stmt} {t t' : TS} (h : PSs X e t) (i : ∀ E σ H, t' E σ H → t E σ H) : PSs X e t' := ⟨fun pins s σ H E I q => h.run pins s σ H E I (i E σ H q)⟩

variable {σ : L2.St} {η η1 : Ad} {H H1 : Hp} {α β γ δ : Type} {R1 : α → β → Ad → Hp → Prop} {Rz : γ → δ → Ad → Hp → Prop}
theorem Po.step {r : Res α} {Q : β → Hp → Prop} (s : Step η H η1 H1) (p : Po X W R1 σ η H r Q) : Po X W R1 σ η1 H1 r Q := by
  cases r with
  | ok a h => exact fun b η' H' s' => p b η' H' (s.trans s')
  | raise c fs h => exact fun η' H' C dx s' => p η' H' C dx (s.trans s')
  | stuck => exact p
theorem Po.mono {r : Res α} {Q Q' : β → Hp → Prop} (i : ∀ b H', Q b H' → Q' b H') (p : Po X W R1 σ η H r Q) : Po X W R1 σ η H r Q' := by
  cases r with
  | ok a h => exact fun b η' H' s' r1 r2 => i _ _ (p b η' H' s' r1 r2)
  | raise c fs h => exact p
  | stuck => exact p
theorem PoS.step {r : SR} {E : Ends} (s : Step η H η1 H1) (p : PoS X W η H r E) : PoS X W η1 H1 r E := by
  cases r with
  | nx ρ h => exact fun a b c s' => p a b c (s.trans s')
  | ret ρ h => exact fun a b c s' => p a b c (s.trans s')
  | bk ρ h => exact fun a b c s' => p a b c (s.trans s')
  | ct ρ h => exact fun a b c s' => p a b c (s.trans s')
  | rs c fs ρ h => exact fun a b c d e s' => p a b c d e (s.trans s')
  | stuck => exact p
/-- one thing after another -/
theorem Po.seq {ρ : Env} {h : Hh} {m : EM α} {k : α → Hh → Res γ} {Q : δ → Hp → Prop} (rs : RS X.K η H σ ρ) (rh : RH X.K X.mg η H h) (p : Po X W Rz σ η H ((m ρ h).bind k) Q) :
    tM X W R1 m σ H fun b H1 => ∃ a η1 h1, Step η H η1 H1 ∧ RH X.K X.mg η1 H1 h1 ∧ R1 a b η1 H1 ∧ Po X W Rz σ η1 H1 (k a h1) Q := by
  refine ⟨ρ, η, h, rs, rh, ?_⟩
  cases e : m ρ h with
  | ok a h1 =>
    rw [e] at p
    exact fun b η1 H1 s r q => ⟨a, η1, h1, s, r, q, Po.step s p⟩
  | raise c fs h1 =>
    rw [e] at p
    exact p
  | stuck =>
    rw [e] at p
    exact p
/-- an expression's end as a statement's -/
def toS {α : Type} (r : Res α) (ρ : Env) (k : α → Hh → SR) : SR := match r with
  | .ok a h => k a h
  | .raise c fs h => .rs c fs ρ h
  | .stuck => .stuck
@[simp] theorem toS_ok {α : Type} (a : α) (h : Hh) (ρ : Env) (k : α → Hh → SR) : toS (.ok a h) ρ k = k a h := (rfl)
@[simp] theorem toS_raise {α : Type} (c : Str) (fs : List (Str × D)) (h : Hh) (ρ : Env) (k : α → Hh → SR) : toS (.raise c fs h) ρ k = .rs c fs ρ h := (rfl)
@[simp] theorem toS_stuck {α : Type} (ρ : Env) (k : α → Hh → SR) : toS .stuck ρ k = .stuck := (rfl)
theorem PoS.seq {ρ : Env} {h : Hh} {m : EM α} {k : α → Hh → SR} {E : Ends} (rs : RS X.K η H σ ρ) (rh : RH X.K X.mg η H h) (p : PoS X W η H (toS (m ρ h) ρ k) E) :
    tM X W R1 m σ H fun b H1 => ∃ a η1 h1, Step η H η1 H1 ∧ RH X.K X.mg η1 H1 h1 ∧ R1 a b η1 H1 ∧ PoS X W η1 H1 (k a h1) E := by
  refine ⟨ρ, η, h, rs, rh, ?_⟩
  cases e : m ρ h with
  | ok a h1 =>
    rw [e] at p
    exact fun b η1 H1 s r q => ⟨a, η1, h1, s, r, q, p.step s⟩
  | raise c fs h1 =>
    rw [e] at p
    exact fun η' H' C dx s r m q => p σ η' H' C dx s (rs.step s) r m q
  | stuck =>
    rw [e] at p
    exact p
theorem tM.mono {m : EM α} {Q Q' : β → Hp → Prop} (i : ∀ b H', Q b H' → Q' b H') (p : tM X W R1 m σ H Q) : tM X W R1 m σ H Q' := by
  obtain ⟨ρ, η, h, rs, rh, q⟩ := p
  exact ⟨ρ, η, h, rs, rh, q.mono i⟩

/-! ### names and constants -/
variable {e a b : Expr} {pos : Pos}
def varE (i : Nat) : EM D := fun ρ h => match ρ[i]? with
  | some (some d) => .ok d h
  | _ => .stuck
def cE (d : D) : EM D := fun _ h => .ok d h
theorem me_var (i : Nat) {x : Str} (hN : X.N[i]? = some x := by rfl) (hv : Vis X.env.scope x := by first | exact Or.inl rfl | exact Or.inr (Or.inl rfl) | exact Or.inr (Or.inr rfl)) (hd : (x == ("__debug__" : Str)) = false := by decide)
    (hcd : (x == ("__classdict__" : Str)) = false := by decide) : ME X W (.Name x pos) (varE i) := by
  refine ⟨PE.wk (pe_var (i := i) hN hv hd hcd) fun σ H Q q => ?_⟩
  obtain ⟨ρ, η, h, rs, rh, p⟩ := q
  unfold varE at p
  split at p
  · rename_i d ed
    obtain ⟨v, ev, rd⟩ := rs.at_ i d ed
    exact ⟨v, ev, p v η H (.refl _ _) rh rd⟩
  · exact p.elim
theorem me_c {t : TE} {d : D} {v : V} (h : PE X e t) (ht : t = tC v) (r : ∀ η H, RD X.K η H d v) : ME X W e (cE d) := by
  subst ht
  refine ⟨PE.wk h fun σ H Q q => ?_⟩
  obtain ⟨ρ, η, h, rs, rh, p⟩ := q
  exact p v η H (.refl _ _) rh (r η H)
theorem me_int {i j} : ME X W (.Constant (.int i) j pos) (cE (.int i)) := me_c pe_int rfl fun _ _ => rfl
theorem me_bl {b : Bool} {j} : ME X W (.Constant (.bool b) j pos) (cE (.bl b)) := me_c pe_bl rfl fun _ _ => rfl
theorem me_non {j} : ME X W (.Constant .none j pos) (cE .non) := me_c pe_non rfl fun _ _ => rfl
theorem me_str {x : Str} {j} : ME X W (.Constant (.str x) j pos) (cE (.str x)) := me_c pe_str rfl fun _ _ => rfl
theorem me_glob {x : Str} {d : D} {v : V} {u : Value} (hg : Gl X x) (hm : X.mg x = some u) (r : RelV v u) (q : ∀ η H, RD X.K η H d v) (hd : (x == ("__debug__" : Str)) = false := by decide) : ME X W (.Name x pos) (cE d) :=
  me_c (pe_glob hg hm r hd) rfl q

/-! ### operators, by values -/
def binE (g : D → D → Hh → Res D) (ma mb : EM D) : EM D := fun ρ h => (ma ρ h).bind fun x h1 => (mb ρ h1).bind fun y h2 => g x y h2
def unE (g : D → Hh → Res D) (ma : EM D) : EM D := fun ρ h => (ma ρ h).bind fun x h1 => g x h1
/-- g says what r asks -/
def OpD (X : Cx) (W : WX) (r : R2) (g : D → D → Hh → Res D) : Prop :=
  ∀ (σ : L2.St) (η : Ad) (H : Hp) (h : Hh) (a b : D) (x y : V) (Q : VK), RH X.K X.mg η H h → RD X.K η H a x → RD X.K η H b y → Po X W (rD X) σ η H (g a b h) Q → r x y H Q
def UnD (X : Cx) (W : WX) (r : V → Hp → VK → Prop) (g : D → Hh → Res D) : Prop :=
  ∀ (σ : L2.St) (η : Ad) (H : Hp) (h : Hh) (a : D) (x : V) (Q : VK), RH X.K X.mg η H h → RD X.K η H a x → Po X W (rD X) σ η H (g a h) Q → r x H Q
def CallD (X : Cx) (W : WX) (r : List V → Hp → VK → Prop) (g : List D → Hh → Res D) : Prop :=
  ∀ (σ : L2.St) (η : Ad) (H : Hp) (h : Hh) (a : List D) (x : List V) (Q : VK), RH X.K X.mg η H h → RDs X.K η H a x → Po X W (rD X) σ η H (g a h) Q → r x H Q
theorem OpR.or {f : Value → Value → Sem Value} {r r' : R2} (h : OpR X f r) (h' : OpR X f r') : OpR X f (fun x y H Q => r x y H Q ∨ r' x y H Q) := by
  intro pins s σ H x y v u Q I rx ry q
  rcases q with q | q
  · exact h pins s σ H x y v u Q I rx ry q
  · exact h' pins s σ H x y v u Q I rx ry q
theorem tOp_of {r : R2} {g : D → D → Hh → Res D} {ma mb : EM D} (hg : OpD X W r g) {Q : VK} (q : tM X W (rD X) (binE g ma mb) σ H Q) : tOp r (tM X W (rD X) ma) (tM X W (rD X) mb) σ H Q := by
  obtain ⟨ρ, η, h, rs, rh, p⟩ := q
  refine tM.mono (fun x H1 ⟨a, η1, h1, s1, r1, q1, p1⟩ => ?_) (Po.seq (R1 := rD X) rs rh p)
  refine tM.mono (fun y H2 ⟨b, η2, h2, s2, r2, q2, p2⟩ => ?_) (Po.seq (R1 := rD X) (rs.step s1) r1 p1)
  exact hg σ η2 H2 h2 a b x y Q r2 (RD.step s2 _ _ q1) q2 p2
theorem me_op {op : Operator} {r : R2} {g : D → D → Hh → Res D} {ma mb : EM D} (ho : OpR X (binaryOp op) r) (hg : OpD X W r g) (ha : ME X W a ma) (hb : ME X W b mb) : ME X W (.BinOp a op b pos) (binE g ma mb) :=
  ⟨PE.wk (pe_op ho ha.pe hb.pe) fun σ H Q q => tOp_of hg q⟩
theorem me_cmpR {op : CmpOp} {r : R2} {g : D → D → Hh → Res D} {ma mb : EM D} (ho : OpR X (compareOp op) r) (hg : OpD X W r g) (ha : ME X W a ma) (hb : ME X W b mb) (hm : behindInMarks op b = false) : ME X W (.Compare a [op] [b] pos) (binE g ma mb) :=
  ⟨PE.wk (pe_cmpR ho ha.pe hb.pe hm) fun σ H Q q => tOp_of hg q⟩
theorem me_un {op : UnaryOp} {r : V → Hp → VK → Prop} {g : D → Hh → Res D} {ma : EM D} (ho : UnR X (unaryOp op) r) (hg : UnD X W r g) (ha : ME X W a ma) : ME X W (.UnaryOp op a pos) (unE g ma) :=
  ⟨PE.wk (pe_un ho ha.pe) fun σ H Q q => by
    obtain ⟨ρ, η, h, rs, rh, p⟩ := q
    refine tM.mono (fun x H1 ⟨a, η1, h1, s1, r1, q1, p1⟩ => ?_) (Po.seq (R1 := rD X) rs rh p)
    exact hg σ η1 H1 h1 a x Q r1 q1 p1⟩
theorem me_ix {r : R2} {g : D → D → Hh → Res D} {ma mb : EM D} (hr : IxR X r) (hg : OpD X W r g) (ha : ME X W a ma) (hb : ME X W b mb) (hs : PlainIx b) : ME X W (.Subscript a b pos) (binE g ma mb) :=
  ⟨PE.wk (pe_ix hr ha.pe hb.pe hs) fun σ H Q q => tOp_of hg q⟩

/-! ### tests -/
def asB : D → Hh → Res Bool
  | .bl b, h => .ok b h
  | _, _ => .stuck
/-- an expression that gives a bool, as a test -/
def tstE (m : EM D) : EM Bool := fun ρ h => (m ρ h).bind asB
theorem tB_of {m : EM D} {Q : Bool → Hp → Prop} (q : tM X W rB (tstE m) σ H Q) : tB (tM X W (rD X) m) σ H Q := by
  obtain ⟨ρ, η, h, rs, rh, p⟩ := q
  refine tM.mono (fun x H1 ⟨a, η1, h1, s1, r1, q1, p1⟩ => ?_) (Po.seq (R1 := rD X) rs rh p)
  cases a with
  | bl c => exact ⟨c, q1, p1 c η1 H1 (.refl _ _) r1 rfl⟩
  | _ => exact p1.elim
theorem mt_val {m : EM D} (h : ME X W e m) (he : ∀ whole, isTrue e X.env whole = (do let v ← whole; standAt e.pos; holding [v] (truthy v)) := by intro _; rfl) : MT X W e (tstE m) :=
  ⟨PT.wk (pt_val h.pe he) fun σ H Q q => tB_of q⟩
theorem mt_cmpR {op : CmpOp} {r : R2} {g : D → D → Hh → Res D} {ma mb : EM D} (ho : OpR X (compareOp op) r) (hg : OpD X W r g) (ha : ME X W a ma) (hb : ME X W b mb) (hm : behindInMarks op b = false) : MT X W (.Compare a [op] [b] pos) (tstE (binE g ma mb)) :=
  ⟨PT.wk (pt_cmpR ho ha.pe hb.pe hm) fun σ H Q q => by
    obtain ⟨ρ, η, h, rs, rh, p⟩ := q
    have p' : Po X W rB σ η H (((binE g ma mb) ρ h).bind asB) Q := p
    have q2 : tM X W rB (tstE (binE g ma mb)) σ H Q := ⟨ρ, η, h, rs, rh, p⟩
    have z := tB_of q2
    obtain ⟨ρ, η, h, rs, rh, p⟩ := z
    exact tOp_of hg ⟨ρ, η, h, rs, rh, p⟩⟩

/-! ### and, or, not, if .. else -/
def andT (a b : EM Bool) : EM Bool := fun ρ h => (a ρ h).bind fun x h1 => if x = true then b ρ h1 else .ok false h1
def orT (a b : EM Bool) : EM Bool := fun ρ h => (a ρ h).bind fun x h1 => if x = true then .ok true h1 else b ρ h1
def notT (a : EM Bool) : EM Bool := fun ρ h => (a ρ h).bind fun x h1 => .ok (!x) h1
def andE (a b : EM D) : EM D := fun ρ h => ((a ρ h).bind asB).bind fun x h1 => if x = true then b ρ h1 else .ok (.bl false) h1
def orE (a b : EM D) : EM D := fun ρ h => ((a ρ h).bind asB).bind fun x h1 => if x = true then .ok (.bl true) h1 else b ρ h1
def notE (a : EM D) : EM D := fun ρ h => ((a ρ h).bind asB).bind fun x h1 => .ok (.bl (!x)) h1
def ifE (c : EM Bool) (a b : EM D) : EM D := fun ρ h => (c ρ h).bind fun x h1 => if x = true then a ρ h1 else b ρ h1
variable {es rest : List Expr} {ta tb : EM Bool} {ma mb : EM D}
theorem tM.of_ok {m : EM α} {ρ : Env} {h : Hh} {Q : β → Hp → Prop} (rs : RS X.K η H σ ρ) (rh : RH X.K X.mg η H h) (p : Po X W R1 σ η H (m ρ h) Q) : tM X W R1 m σ H Q := ⟨ρ, η, h, rs, rh, p⟩
theorem Po.ok {a : α} {b : β} {h : Hh} {Q : β → Hp → Prop} (p : Po X W R1 σ η H (.ok a h) Q) (rh : RH X.K X.mg η H h) (r : R1 a b η H) : Q b H := p b η H (.refl _ _) rh r
theorem tAnd_of {Q : Bool → Hp → Prop} (q : tM X W rB (andT ta tb) σ H Q) : tAnd (tM X W rB ta) (tM X W rB tb) σ H Q := by
  obtain ⟨ρ, η, h, rs, rh, p⟩ := q
  refine tM.mono (fun x H1 ⟨c, η1, h1, s1, r1, q1, p1⟩ => ?_) (Po.seq (R1 := rB) rs rh p)
  have q1 : c = x := q1
  subst q1
  cases c with
  | true => exact ⟨ρ, η1, h1, rs.step s1, r1, p1⟩
  | false => exact Po.ok p1 r1 rfl
theorem tOr_of {Q : Bool → Hp → Prop} (q : tM X W rB (orT ta tb) σ H Q) : tOr (tM X W rB ta) (tM X W rB tb) σ H Q := by
  obtain ⟨ρ, η, h, rs, rh, p⟩ := q
  refine tM.mono (fun x H1 ⟨c, η1, h1, s1, r1, q1, p1⟩ => ?_) (Po.seq (R1 := rB) rs rh p)
  have q1 : c = x := q1
  subst q1
  cases c with
  | false => exact ⟨ρ, η1, h1, rs.step s1, r1, p1⟩
  | true => exact Po.ok p1 r1 rfl
theorem mw_and1 (ha : MT X W a ta) : MW X W (.BoolOp .And [a] pos) ta := ⟨pw_and1 ha.pt⟩
theorem mw_or1 (ha : MT X W a ta) : MW X W (.BoolOp .Or [a] pos) ta := ⟨pw_or1 ha.pt⟩
theorem mw_and (ha : MT X W a ta) (hb : MW X W (.BoolOp .And (b :: rest) pos) tb) : MW X W (.BoolOp .And (a :: b :: rest) pos) (andT ta tb) := ⟨PW.wk (pw_and ha.pt hb.pw) fun _ _ _ q => tAnd_of q⟩
theorem mw_or (ha : MT X W a ta) (hb : MW X W (.BoolOp .Or (b :: rest) pos) tb) : MW X W (.BoolOp .Or (a :: b :: rest) pos) (orT ta tb) := ⟨PW.wk (pw_or ha.pt hb.pw) fun _ _ _ q => tOr_of q⟩
theorem mt_w (h : MW X W a ta) : MT X W a ta := ⟨h.pw.pt⟩
theorem mt_not (ha : MT X W a ta) : MT X W (.UnaryOp .Not a pos) (notT ta) := ⟨PT.wk (pt_not ha.pt) fun σ H Q q => by
  obtain ⟨ρ, η, h, rs, rh, p⟩ := q
  refine tM.mono (fun x H1 ⟨c, η1, h1, s1, r1, q1, p1⟩ => ?_) (Po.seq (R1 := rB) rs rh p)
  have q1 : c = x := q1
  subst q1
  exact Po.ok p1 r1 rfl⟩
theorem bind_assoc {r : Res α} {f : α → Hh → Res β} {g : β → Hh → Res γ} : (r.bind f).bind g = r.bind fun a h => (f a h).bind g := by cases r <;> rfl
theorem asB_of {η : Ad} {H : Hp} {a : D} {x : V} {h : Hh} {k : Bool → Hh → Res γ} {Q : δ → Hp → Prop} (q1 : RD X.K η H a x) (p : Po X W Rz σ η H ((asB a h).bind k) Q) : ∃ c, x = .bl c ∧ Po X W Rz σ η H (k c h) Q := by
  cases a with
  | bl c => exact ⟨c, q1, p⟩
  | _ => exact p.elim
theorem me_one {op : BoolOp} {m : EM D} (h : ME X W a m) : ME X W (.BoolOp op [a] pos) m := ⟨pe_one h.pe⟩
theorem me_and (ha : ME X W a ma) (hb : ME X W (.BoolOp .And (b :: rest) pos) mb) : ME X W (.BoolOp .And (a :: b :: rest) pos) (andE ma mb) := ⟨PE.wk (pe_and ha.pe hb.pe) fun σ H Q q => by
  obtain ⟨ρ, η, h, rs, rh, p⟩ := q
  rw [andE, bind_assoc] at p
  refine tM.mono (fun x H1 ⟨d, η1, h1, s1, r1, q1, p1⟩ => ?_) (Po.seq (R1 := rD X) rs rh p)
  obtain ⟨c, e, p2⟩ := asB_of q1 p1
  refine ⟨c, e, ?_⟩
  cases c with
  | true => exact ⟨ρ, η1, h1, rs.step s1, r1, p2⟩
  | false => exact Po.ok (b := V.bl false) p2 r1 rfl⟩
theorem me_or (ha : ME X W a ma) (hb : ME X W (.BoolOp .Or (b :: rest) pos) mb) : ME X W (.BoolOp .Or (a :: b :: rest) pos) (orE ma mb) := ⟨PE.wk (pe_or ha.pe hb.pe) fun σ H Q q => by
  obtain ⟨ρ, η, h, rs, rh, p⟩ := q
  rw [orE, bind_assoc] at p
  refine tM.mono (fun x H1 ⟨d, η1, h1, s1, r1, q1, p1⟩ => ?_) (Po.seq (R1 := rD X) rs rh p)
  obtain ⟨c, e, p2⟩ := asB_of q1 p1
  refine ⟨c, e, ?_⟩
  cases c with
  | false => exact ⟨ρ, η1, h1, rs.step s1, r1, p2⟩
  | true => exact Po.ok (b := V.bl true) p2 r1 rfl⟩
theorem me_not (ha : ME X W a ma) : ME X W (.UnaryOp .Not a pos) (notE ma) := ⟨PE.wk (pe_not ha.pe) fun σ H Q q => by
  obtain ⟨ρ, η, h, rs, rh, p⟩ := q
  rw [notE, bind_assoc] at p
  refine tM.mono (fun x H1 ⟨d, η1, h1, s1, r1, q1, p1⟩ => ?_) (Po.seq (R1 := rD X) rs rh p)
  obtain ⟨c, e, p2⟩ := asB_of q1 p1
  exact ⟨c, e, Po.ok (b := V.bl (!c)) p2 r1 rfl⟩⟩
theorem me_if {c : Expr} {tc : EM Bool} (hc : MT X W c tc) (ha : ME X W a ma) (hb : ME X W b mb) : ME X W (.IfExp c a b pos) (ifE tc ma mb) := ⟨PE.wk (pe_ifExp hc.pt ha.pe hb.pe) fun σ H Q q => by
  obtain ⟨ρ, η, h, rs, rh, p⟩ := q
  refine tM.mono (fun x H1 ⟨c, η1, h1, s1, r1, q1, p1⟩ => ?_) (Po.seq (R1 := rB) rs rh p)
  have q1 : c = x := q1
  subst q1
  cases c with
  | true => exact ⟨ρ, η1, h1, rs.step s1, r1, p1⟩
  | false => exact ⟨ρ, η1, h1, rs.step s1, r1, p1⟩⟩

/-! ### arguments, displays -/
def nilA : EM (List D) := fun _ h => .ok [] h
def consA (m : EM D) (r : EM (List D)) : EM (List D) := fun ρ h => (m ρ h).bind fun d h1 => (r ρ h1).bind fun l h2 => .ok (d :: l) h2
theorem ma_nil : MA X W [] nilA := ⟨PA.wk pa_nil fun σ H Q q => by
  obtain ⟨ρ, η, h, rs, rh, p⟩ := q
  exact Po.ok (b := []) p rh rfl, fun ρ h ds h' e => by cases e; rfl⟩
theorem ma_cons {m : EM D} {ms : EM (List D)} (ha : ME X W e m) (hr : MA X W es ms) (hs : starEach (e :: es) X.env = (false, eval e X.env) :: starEach es X.env := by rfl) : MA X W (e :: es) (consA m ms) := ⟨PA.wk (pa_cons ha.pe hr.pa hs) fun σ H Q q => by
  obtain ⟨ρ, η, h, rs, rh, p⟩ := q
  refine tM.mono (fun x H1 ⟨d, η1, h1, s1, r1, q1, p1⟩ => ?_) (Po.seq (R1 := rD X) rs rh p)
  refine tM.mono (fun y H2 ⟨b, η2, h2, s2, r2, q2, p2⟩ => ?_) (Po.seq (R1 := rA X) (rs.step s1) r1 p1)
  exact Po.ok (b := x :: y) p2 r2 ⟨x, y, rfl, RD.step s2 _ _ q1, q2⟩, fun ρ h ds h' q => by
    unfold consA at q
    cases e1 : m ρ h with
    | ok d h1 =>
      rw [e1, bind_ok] at q
      cases e2 : ms ρ h1 with
      | ok l h2 =>
        rw [e2, bind_ok] at q
        cases q
        rw [List.length_cons, List.length_cons, hr.len _ _ _ _ e2]
      | raise _ _ _ => rw [e2] at q; cases q
      | stuck => rw [e2] at q; cases q
    | raise _ _ _ => rw [e1] at q; cases q
    | stuck => rw [e1] at q; cases q⟩
def tupE (ms : EM (List D)) : EM D := fun ρ h => (ms ρ h).bind fun l h1 => .ok (.tup l) h1
def lstE (ms : EM (List D)) : EM D := fun ρ h => (ms ρ h).bind fun l h1 => .ok (.lst l) h1
def newL (l : List D) (h : Hh) : Res D := .ok (.ref h.length) (h ++ [.lst l])
def lstH (ms : EM (List D)) : EM D := fun ρ h => (ms ρ h).bind newL
/-- a new frozen thing -/
theorem newT {η : Ad} {H : Hp} {h : Hh} {p : Addr} {l : List D} {xs : List V} (n : H p = none) (rh : RH X.K X.mg η H h) (r : RDs X.K η H l xs) :
    RH X.K X.mg η (upd H p (.tup xs)) h ∧ RD X.K η (upd H p (.tup xs)) (.tup l) (.ref p) :=
  ⟨rh.new1 n, p, xs, rfl, .inl (.inl upd_same), RDs.step (rh.new1S n) l xs r⟩
theorem newF {η : Ad} {H : Hp} {h : Hh} {p : Addr} {l : List D} {xs : List V} (n : H p = none) (rh : RH X.K X.mg η H h) (r : RDs X.K η H l xs) :
    RH X.K X.mg η (upd H p (.lst xs)) h ∧ RD X.K η (upd H p (.lst xs)) (.lst l) (.ref p) :=
  ⟨rh.new1 n, p, xs, rfl, upd_same, rh.nin n, RDs.step (rh.new1S n) l xs r⟩
theorem newM {η : Ad} {H : Hp} {h : Hh} {p : Addr} {l : List D} {xs : List V} (n : H p = none) (rh : RH X.K X.mg η H h) (r : RDs X.K η H l xs) :
    RH X.K X.mg (η.push p) (upd H p (.lst xs)) (h ++ [.lst l]) ∧ RD X.K (η.push p) (upd H p (.lst xs)) (.ref h.length) (.ref p) :=
  ⟨rh.alloc n ⟨xs, upd_same, RDs.step (rh.allocS n) l xs r⟩, p, by show (η.c ++ [p])[h.length]? = _; rw [← rh.len]; simp, rfl⟩
theorem Po.newT {η : Ad} {H : Hp} {h : Hh} {l : List D} {xs : List V} {Q : VK} (p : Po X W (rD X) σ η H (.ok (.tup l) h) Q) (rh : RH X.K X.mg η H h) (r : RDs X.K η H l xs) (a : Addr) (n : H a = none) : Q (.ref a) (upd H a (.tup xs)) :=
  p _ η _ (rh.new1S n) (Ev.newT n rh r).1 (Ev.newT n rh r).2
theorem Po.newF {η : Ad} {H : Hp} {h : Hh} {l : List D} {xs : List V} {Q : VK} (p : Po X W (rD X) σ η H (.ok (.lst l) h) Q) (rh : RH X.K X.mg η H h) (r : RDs X.K η H l xs) (a : Addr) (n : H a = none) : Q (.ref a) (upd H a (.lst xs)) :=
  p _ η _ (rh.new1S n) (Ev.newF n rh r).1 (Ev.newF n rh r).2
theorem Po.newM {η : Ad} {H : Hp} {h : Hh} {l : List D} {xs : List V} {Q : VK} (p : Po X W (rD X) σ η H (newL l h) Q) (rh : RH X.K X.mg η H h) (r : RDs X.K η H l xs) (a : Addr) (n : H a = none) : Q (.ref a) (upd H a (.lst xs)) :=
  p _ _ _ (rh.allocS n) (Ev.newM n rh r).1 (Ev.newM n rh r).2
theorem tM.args {ms : EM (List D)} (hm : MA X W es ms) {k : List D → Hh → Res γ} {Q : δ → Hp → Prop} (q : tM X W Rz (fun ρ h => (ms ρ h).bind k) σ H Q) :
    tM X W (rA X) ms σ H fun xs H1 => ∃ ρ l η1 h1, RS X.K η1 H1 σ ρ ∧ RH X.K X.mg η1 H1 h1 ∧ RDs X.K η1 H1 l xs ∧ xs.length = es.length ∧ Po X W Rz σ η1 H1 (k l h1) Q := by
  obtain ⟨ρ, η, h, rs, rh, p⟩ := q
  have p : Po X W Rz σ η H ((ms ρ h).bind k) Q := p
  refine ⟨ρ, η, h, rs, rh, ?_⟩
  cases e : ms ρ h with
  | ok a h1 =>
    rw [e] at p
    exact fun b η1 H1 s r q => ⟨ρ, a, η1, h1, rs.step s, r, q, (RDs.length q).trans (hm.len _ _ _ _ e), Po.step s p⟩
  | raise c fs h1 =>
    rw [e] at p
    exact p
  | stuck =>
    rw [e] at p
    exact p
theorem me_tup {x1} {ms : EM (List D)} (h : MA X W es ms) (hl : es.length ≤ sizeLine := by decide) : ME X W (.Tuple es x1 pos) (tupE ms) := ⟨PE.wk (pe_tup h.pa) fun σ H Q q => by
  refine tM.mono (fun xs H1 ⟨ρ, l, η1, h1, rs, r1, q1, e, p1⟩ => ?_) (tM.args h q)
  exact ⟨by rw [e]; exact hl, fun a n => Po.newT p1 r1 q1 a n⟩⟩
theorem me_lst {ms : EM (List D)} (h : MA X W es ms) (hl : es.length ≤ sizeLine := by decide) : ME X W (.List es pos) (lstE ms) := ⟨PE.wk (pe_lst h.pa) fun σ H Q q => by
  refine tM.mono (fun xs H1 ⟨ρ, l, η1, h1, rs, r1, q1, e, p1⟩ => ?_) (tM.args h q)
  exact ⟨by rw [e]; exact hl, fun a n => Po.newF p1 r1 q1 a n⟩⟩
theorem me_lstH {ms : EM (List D)} (h : MA X W es ms) (hl : es.length ≤ sizeLine := by decide) : ME X W (.List es pos) (lstH ms) := ⟨PE.wk (pe_lst h.pa) fun σ H Q q => by
  refine tM.mono (fun xs H1 ⟨ρ, l, η1, h1, rs, r1, q1, e, p1⟩ => ?_) (tM.args h q)
  exact ⟨by rw [e]; exact hl, fun a n => Po.newM p1 r1 q1 a n⟩⟩

/-! ### built-in functions, methods of built-in types -/
def callE (g : List D → Hh → Res D) (ms : EM (List D)) : EM D := fun ρ h => (ms ρ h).bind g
theorem me_callB {id : String} {x : Str} {p : Pos} {r : List V → Hp → VK → Prop} {g : List D → Hh → Res D} {ms : EM (List D)} (hc : CallR X (.builtin id) r) (hd : CallD X W r g) (hg : Gl X x) (hm : X.mg x = none) (hv : bootBuiltins x = some (.builtin id)) (ha : MA X W (e :: es) ms)
    (hn : x ≠ "__name__" := by decide) (hdb : (x == ("__debug__" : Str)) = false := by decide) (he : starEach (e :: es) X.env = (false, eval e X.env) :: starEach es X.env := by rfl) (hpl : (backTo pos (starEach es X.env)).any (·.1) = false := by rfl) :
    ME X W (.Call (.Name x p) (e :: es) [] pos) (callE g ms) := ⟨PE.wk (pe_callB hc hg hm hv ha.pa hn hdb he hpl) fun σ H Q q => by
  refine tM.mono (fun xs H1 ⟨ρ, l, η1, h1, rs, r1, q1, e, p1⟩ => ?_) (tM.args ha q)
  exact hd σ η1 H1 h1 l xs Q r1 q1 p1⟩
theorem me_callTy {T : String} {x : Str} {p : Pos} {r : List V → Hp → VK → Prop} {g : List D → Hh → Res D} {ms : EM (List D)} (hc : CallR X (.type T) r) (hd : CallD X W r g) (hg : Gl X x) (hm : X.mg x = none) (hv : bootBuiltins x = some (.type T)) (ha : MA X W (e :: es) ms)
    (hn : x ≠ "__name__" := by decide) (hdb : (x == ("__debug__" : Str)) = false := by decide) (he : starEach (e :: es) X.env = (false, eval e X.env) :: starEach es X.env := by rfl) (hpl : (backTo pos (starEach es X.env)).any (·.1) = false := by rfl) :
    ME X W (.Call (.Name x p) (e :: es) [] pos) (callE g ms) := ⟨PE.wk (pe_callTy hc hg hm hv ha.pa hn hdb he hpl) fun σ H Q q => by
  refine tM.mono (fun xs H1 ⟨ρ, l, η1, h1, rs, r1, q1, e, p1⟩ => ?_) (tM.args ha q)
  exact hd σ η1 H1 h1 l xs Q r1 q1 p1⟩
/-- a method of a built-in type, by values; g tells the type too -/
def MtD (X : Cx) (W : WX) (T : String) (r : V → List V → Hp → VK → Prop) (g : D → List D → Hh → Res D) : Prop :=
  ∀ (σ : L2.St) (η : Ad) (H : Hp) (h : Hh) (a : D) (l : List D) (x : V) (xs : List V) (Q : VK), RH X.K X.mg η H h → RD X.K η H a x → RDs X.K η H l xs → Po X W (rD X) σ η H (g a l h) Q → r x xs H Q
/-- the receiver is of the type -/
def TyD (X : Cx) (T : String) (ty : D → Hh → Prop) : Prop := ∀ (η : Ad) (H : Hp) (h : Hh) (a : D) (x : V), RH X.K X.mg η H h → RD X.K η H a x → ty a h → tyV X.K T x H
open Classical in
noncomputable def methE (ty : D → Hh → Prop) (g : D → List D → Hh → Res D) (mo : EM D) (ms : EM (List D)) : EM D := fun ρ h => (mo ρ h).bind fun o h1 => if ty o h1 then (ms ρ h1).bind fun l h2 => g o l h2 else .stuck
theorem me_bm {T id : String} {name : Str} {apos cpos : Pos} {o : Expr} {r : V → List V → Hp → VK → Prop} {ty : D → Hh → Prop} {g : D → List D → Hh → Res D} {mo : EM D} {ms : EM (List D)} (pa : PlainAttrs T) (slot : Slot T name id)
    (hty : typeOf (.builtin id) = pure (.type "method_descriptor")) (hm : MtR X id r) (hd : MtD X W T r g) (hT : TyD X T ty) (ho : ME X W o mo) (ha : MA X W (e :: es) ms)
    (hbase : attributeBase o name X.env (eval o X.env) = eval o X.env := by rfl)
    (hfew : ((backTo cpos (starEach (e :: es) X.env)).all (fun x => !x.1) && (backToKw cpos (keywordEach [] X.env)).all (fun x => x.1.isSome)
      && decide ((e :: es).length + ([] : List Keyword).length + (if ([] : List Keyword).isEmpty then 0 else 1) < 30)) = true := by rfl)
    (hline : (apos.endLine == cpos.line) = true := by rfl) (hs : starEach (e :: es) X.env = (false, eval e X.env) :: starEach es X.env := by rfl) (hplain : (backTo cpos (starEach es X.env)).any (·.1) = false := by rfl) :
    ME X W (.Call (.Attribute o name apos) (e :: es) [] cpos) (methE ty g mo ms) := ⟨PE.wk (pe_bm pa slot hty hm ho.pe ha.pa hbase hfew hline hs hplain) fun σ H Q q => by
  obtain ⟨ρ, η, h, rs, rh, p⟩ := q
  refine tM.mono (fun x H1 ⟨d, η1, h1, s1, r1, q1, p1⟩ => ?_) (Po.seq (R1 := rD X) rs rh p)
  split at p1
  · rename_i t
    refine ⟨hT η1 H1 h1 d x r1 q1 t, ?_⟩
    refine tM.mono (fun y H2 ⟨l, η2, h2, s2, r2, q2, p2⟩ => ?_) (Po.seq (R1 := rA X) (rs.step s1) r1 p1)
    exact hd σ η2 H2 h2 d l x y Q r2 (RD.step s2 _ _ q1) q2 p2
  · exact p1.elim⟩
theorem me_bm0 {T id : String} {name : Str} {apos cpos : Pos} {o : Expr} {r : V → List V → Hp → VK → Prop} {ty : D → Hh → Prop} {g : D → List D → Hh → Res D} {mo : EM D} (pa : PlainAttrs T) (slot : Slot T name id)
    (hty : typeOf (.builtin id) = pure (.type "method_descriptor")) (hm : MtR X id r) (hd : MtD X W T r g) (hT : TyD X T ty) (ho : ME X W o mo)
    (hbase : attributeBase o name X.env (eval o X.env) = eval o X.env := by rfl) (hline : (apos.endLine == cpos.line) = true := by rfl) :
    ME X W (.Call (.Attribute o name apos) [] [] cpos) (methE ty g mo nilA) := ⟨PE.wk (pe_bm0 pa slot hty hm ho.pe hbase hline) fun σ H Q q => by
  obtain ⟨ρ, η, h, rs, rh, p⟩ := q
  refine tM.mono (fun x H1 ⟨d, η1, h1, s1, r1, q1, p1⟩ => ?_) (Po.seq (R1 := rD X) rs rh p)
  split at p1
  · rename_i t
    exact ⟨hT η1 H1 h1 d x r1 q1 t, hd σ η1 H1 h1 d [] x [] Q r1 q1 rfl p1⟩
  · exact p1.elim⟩

/-! ### slices -/
def noPart : EM (Option Int) := fun _ h => .ok none h
def asI : D → Hh → Res (Option Int)
  | .int i, h => .ok (some i) h
  | _, _ => .stuck
def partE (m : EM D) : EM (Option Int) := fun ρ h => (m ρ h).bind asI
theorem mo_none : MO X W none noPart := ⟨PO.wk po_none fun σ H Q q => by
  obtain ⟨ρ, η, h, rs, rh, p⟩ := q
  exact Po.ok (b := none) p rh rfl⟩
theorem mo_some {m : EM D} (he : ME X W e m) : MO X W (some e) (partE m) := ⟨PO.wk (po_some he.pe) fun σ H Q q => by
  obtain ⟨ρ, η, h, rs, rh, p⟩ := q
  refine tM.mono (fun x H1 ⟨d, η1, h1, s1, r1, q1, p1⟩ => ?_) (Po.seq (R1 := rD X) rs rh p)
  cases d with
  | int i => exact ⟨i, q1, Po.ok (b := some i) p1 r1 rfl⟩
  | _ => exact p1.elim⟩
def SlD (X : Cx) (W : WX) (r : V → Option Int → Option Int → Hp → VK → Prop) (g : D → Option Int → Option Int → Hh → Res D) : Prop :=
  ∀ (σ : L2.St) (η : Ad) (H : Hp) (h : Hh) (a : D) (x : V) (lo hi : Option Int) (Q : VK), RH X.K X.mg η H h → RD X.K η H a x → Po X W (rD X) σ η H (g a lo hi h) Q → r x lo hi H Q
def slE (g : D → Option Int → Option Int → Hh → Res D) (m : EM D) (ml mh : EM (Option Int)) : EM D := fun ρ h => (m ρ h).bind fun d h1 => (ml ρ h1).bind fun lo h2 => (mh ρ h2).bind fun hi h3 => g d lo hi h3
theorem me_slice {lo hi : Option Expr} {p2 : Pos} {r : V → Option Int → Option Int → Hp → VK → Prop} {g : D → Option Int → Option Int → Hh → Res D} {m : EM D} {ml mh : EM (Option Int)} (hr : SlR X r) (hd : SlD X W r g) (he : ME X W e m) (hl : MO X W lo ml) (hh : MO X W hi mh) :
    ME X W (.Subscript e (.Slice lo hi none p2) pos) (slE g m ml mh) := ⟨PE.wk (pe_slice hr he.pe hl.po hh.po) fun σ H Q q => by
  obtain ⟨ρ, η, h, rs, rh, p⟩ := q
  refine tM.mono (fun x H1 ⟨d, η1, h1, s1, r1, q1, p1⟩ => ?_) (Po.seq (R1 := rD X) rs rh p)
  refine tM.mono (fun y H2 ⟨l, η2, h2, s2, r2, q2, p2⟩ => ?_) (Po.seq (R1 := rI) (rs.step s1) r1 p1)
  refine tM.mono (fun z H3 ⟨u, η3, h3, s3, r3, q3, p3⟩ => ?_) (Po.seq (R1 := rI) (rs.step (s1.trans s2)) r2 p2)
  have q2 : l = y := q2
  have q3 : u = z := q3
  subst q2
  subst q3
  exact hd σ η3 H3 h3 d x l u Q r3 (RD.step (s2.trans s3) _ _ q1) p3⟩
end
end Ev

/-! EvO: the operators, the built-in functions and methods, on values without addresses. -/
namespace Ev
open PySem PySem.Spec PyProof.Rows L2

/-! ### data -/
mutual
def toPy : D → PyData
  | .non => .none
  | .bl b => .bool b
  | .int i => .int i
  | .str x => .str x
  | .tup l => .tuple (toPys l)
  | .lst l => .list (toPys l)
  | _ => .none
def toPys : List D → List PyData
  | [] => []
  | d :: l => toPy d :: toPys l
end
mutual
/-- no dicts, no mutable objects in it; the texts' signs are signs -/
def okD : D → Bool
  | .non => true
  | .bl _ => true
  | .int _ => true
  | .str x => PyData.canLay0 (.str x)
  | .tup l => okDs l
  | .lst l => okDs l
  | _ => false
def okDs : List D → Bool
  | [] => true
  | d :: l => okD d && okDs l
end
mutual
def depD : D → Nat
  | .tup l => depDs l + 1
  | .lst l => depDs l + 1
  | _ => 0
def depDs : List D → Nat
  | [] => 0
  | d :: l => max (depD d) (depDs l)
end
/-- == of data -/
def eqvD (a b : D) : Bool := PyData.eqv (toPy a) (toPy b)
def flatD : D → Bool
  | .non => true
  | .bl _ => true
  | .int _ => true
  | .str _ => true
  | _ => false
def scalD : D → D → Bool
  | .non, .non => true | .non, .int _ => true | .int _, .non => true | .non, .bl _ => true | .bl _, .non => true | .non, .str _ => true | .str _, .non => true
  | .int _, .int _ => true | .bl _, .bl _ => true | .str _, .str _ => true
  | .int _, .str _ => true | .str _, .int _ => true | .bl _, .str _ => true | .str _, .bl _ => true
  | _, _ => false
/-- what == is known of at any depth -/
def CmpOk (d : D) : Prop := okD d = true ∧ depD d ≤ 62

section
variable {K : PySem.W.Frag} {η : Ad} {H : Hp}
mutual
theorem dp_of : ∀ (d : D) (v : V), okD d = true → RD K η H d v → Dp K H v (toPy d)
  | .non, v, _, h => by cases (show v = .non from h); exact .non
  | .bl b, v, _, h => by cases (show v = .bl b from h); exact .bl b
  | .int i, v, _, h => by cases (show v = .int i from h); exact .int i
  | .str x, v, _, h => by cases (show v = .str x from h); exact .str x
  | .tup l, v, o, h => by
    obtain ⟨a, xs, rfl, q, r⟩ := h
    exact .tup q (dps_of l xs o r)
  | .lst l, v, o, h => by
    obtain ⟨a, xs, rfl, q, n, r⟩ := h
    exact .lst (.of q) (dps_of l xs o r)
  | .dic l, v, o, h => by cases o
  | .scr l, v, o, h => by cases o
  | .ref l, v, o, h => by cases o
  | .ty l, v, o, h => by cases o
theorem dps_of : ∀ (l : List D) (xs : List V), okDs l = true → RDs K η H l xs → DpAll K H xs (toPys l)
  | [], xs, _, h => by cases (show xs = [] from h); exact .nil
  | d :: l, xs, o, h => by
    obtain ⟨x, r, rfl, q, t⟩ := h
    have o := Bool.and_eq_true_iff.mp o
    exact .cons (dp_of d x o.1 q) (dps_of l r o.2 t)
end
mutual
theorem canLay_of : ∀ (d : D), okD d = true → (toPy d).canLay0 = true
  | .non, _ => rfl
  | .bl b, _ => rfl
  | .int i, _ => rfl
  | .str x, o => o
  | .tup l, o => canLays_of l o
  | .lst l, o => canLays_of l o
  | .dic l, o => by cases o
  | .scr l, o => by cases o
  | .ref l, o => by cases o
  | .ty l, o => by cases o
theorem canLays_of : ∀ (l : List D), okDs l = true → PyData.canLayAll0 (toPys l) = true
  | [], _ => rfl
  | d :: l, o => by
    have o := Bool.and_eq_true_iff.mp o
    show (PyData.canLay0 (toPy d) && PyData.canLayAll0 (toPys l)) = true
    rw [canLay_of d o.1, canLays_of l o.2]
    rfl
end
mutual
theorem dep_of : ∀ (d : D), (toPy d).depth = depD d
  | .non => rfl
  | .bl b => rfl
  | .int i => rfl
  | .str x => rfl
  | .tup l => by show PyData.depthAll (toPys l) + 1 = depDs l + 1; rw [deps_of l]
  | .lst l => by show PyData.depthAll (toPys l) + 1 = depDs l + 1; rw [deps_of l]
  | .dic l => rfl
  | .scr l => rfl
  | .ref l => rfl
  | .ty l => rfl
theorem deps_of : ∀ (l : List D), PyData.depthAll (toPys l) = depDs l
  | [] => rfl
  | d :: l => by show max (PyData.depth (toPy d)) (PyData.depthAll (toPys l)) = max (depD d) (depDs l); rw [dep_of d, deps_of l]
end
theorem shaped_of {d : D} (h : CmpOk d) : SeqAt.shaped (toPy d) = true := by
  unfold SeqAt.shaped
  rw [canLay_of d h.1, dep_of d]
  exact decide_eq_true (by have := h.2; omega)
theorem scal_of {a b : D} {x y : V} (h : scalD a b = true) (ra : RD K η H a x) (rb : RD K η H b y) : scal x y = true ∧ decide (x = y) = eqvD a b := by
  cases a <;> cases b <;> first
    | exact absurd (show false = true from h) Bool.false_ne_true
    | (cases ra; cases rb; first | exact ⟨rfl, rfl⟩ | exact ⟨rfl, dec_int⟩ | exact ⟨rfl, dec_bl⟩ | exact ⟨rfl, dec_str⟩ | exact ⟨rfl, by rfl⟩)
theorem flat_of {a : D} {x : V} (h : flatD a = true) (ra : RD K η H a x) : flatV x = true := by
  cases a <;> first | exact absurd (show false = true from h) Bool.false_ne_true | (cases ra; rfl)
theorem eqV_of {a b : D} {x y : V} (ha : flatD a = true) (hb : flatD b = true) (ra : RD K η H a x) (rb : RD K η H b y) : eqV x y = eqvD a b := by
  cases a <;> cases b <;> first
    | exact absurd (show false = true from ha) Bool.false_ne_true
    | exact absurd (show false = true from hb) Bool.false_ne_true
    | (cases ra; cases rb; rfl)
theorem flats_of : ∀ {l : List D} {xs : List V}, l.all flatD = true → RDs K η H l xs → xs.all flatV = true
  | [], _, _, h => by cases h; rfl
  | d :: l, xs, o, h => by
    obtain ⟨x, r, rfl, q, t⟩ := h
    rw [List.all_cons, Bool.and_eq_true] at o ⊢
    exact ⟨flat_of o.1 q, flats_of o.2 t⟩
theorem inV_of {a : D} {x : V} (ha : flatD a = true) (ra : RD K η H a x) : ∀ {l : List D} {xs : List V}, l.all flatD = true → RDs K η H l xs → inV x xs = l.any fun z => eqvD z a
  | [], _, _, h => by cases h; rfl
  | d :: l, xs, o, h => by
    obtain ⟨y, r, rfl, q, t⟩ := h
    rw [List.all_cons, Bool.and_eq_true] at o
    show (eqV y x || inV x r) = (eqvD d a || l.any fun z => eqvD z a)
    rw [eqV_of o.1 ha q ra, inV_of ha ra o.2 t]
theorem any_toPys (a : D) : ∀ (l : List D), ((toPys l).any fun z => PyData.eqv z (toPy a)) = l.any fun z => eqvD z a
  | [] => rfl
  | d :: l => by
    show (PyData.eqv (toPy d) (toPy a) || (toPys l).any _) = _
    rw [any_toPys a l]
    rfl
end

/-! ### a list that is read: frozen, or mutable as it stands -/
def lstOf (d : D) (h : Hh) : Option (List D) := match d with
  | .lst l => some l
  | .ref n => match h[n]? with
    | some (.lst l) => some l
    | _ => none
  | _ => none
@[simp] theorem lstOf_lst (l : List D) (h : Hh) : lstOf (.lst l) h = some l := (rfl)
section
variable {X : Cx} {W : WX} {σ : L2.St} {η : Ad} {H : Hp} {h : Hh} {Q : VK}
theorem lstOf_of {d : D} {v : V} {l : List D} (rh : RH X.K X.mg η H h) (r : RD X.K η H d v) (e : lstOf d h = some l) : ∃ a xs, v = .ref a ∧ H a = some (.lst xs) ∧ RDs X.K η H l xs := by
  cases d with
  | lst m =>
    obtain ⟨a, xs, e1, q, n, t⟩ := r
    cases e
    exact ⟨a, xs, e1, q, t⟩
  | ref n =>
    obtain ⟨a, ea, e1⟩ := r
    unfold lstOf at e
    simp only at e
    split at e
    · rename_i m em
      cases e
      obtain ⟨b, eb, xs, q, t⟩ := rh.addr em
      rw [ea] at eb
      cases eb
      exact ⟨a, xs, e1, q, t⟩
    · cases e
  | _ => cases e

/-! ### arithmetic -/
def addD : D → D → Hh → Res D
  | .int i, .int j, h => .ok (.int (i + j)) h
  | .str i, .str j, h => if i.length + j.length ≤ sizeLine then .ok (.str (i ++ j)) h else .stuck
  | .tup l, .tup m, h => if l.length + m.length ≤ sizeLine then .ok (.tup (l ++ m)) h else .stuck
  | a, b, h => match lstOf a h, lstOf b h with
    | some l, some m => if l.length + m.length ≤ sizeLine then .ok (.lst (l ++ m)) h else .stuck
    | _, _ => .stuck
def rAddAll (K : PySem.W.Frag) : R2 := fun x y H Q => rI0 (fun i j => .int (i + j)) x y H Q ∨ (∃ i j, x = .str i ∧ y = .str j ∧ i.length + j.length ≤ sizeLine ∧ Q (.str (i ++ j)) H) ∨ rCatA K x y H Q ∨ rCat x y H Q
theorem op_addAll : OpR X (binaryOp .Add) (rAddAll X.K) := op_add.or (op_add_str.or (op_catA.or op_cat))
theorem Po.scal {d : D} {v : V} (p : Po X W (rD X) σ η H (.ok d h) Q) (rh : RH X.K X.mg η H h) (r : RD X.K η H d v) : Q v H := p v η H (.refl _ _) rh r
theorem od_add : OpD X W (rAddAll X.K) addD := by
  intro σ η H h a b x y Q rh ra rb p
  have lists : ∀ {a b : D} {x y : V}, RD X.K η H a x → RD X.K η H b y → Po X W (rD X) σ η H (match lstOf a h, lstOf b h with
    | some l, some m => if l.length + m.length ≤ sizeLine then .ok (.lst (l ++ m)) h else .stuck
    | _, _ => .stuck) Q → rAddAll X.K x y H Q := by
    intro a b x y ra rb p
    cases ea : lstOf a h with
    | none => rw [ea] at p; exact p.elim
    | some l =>
      cases eb : lstOf b h with
      | none => rw [ea, eb] at p; exact p.elim
      | some m =>
        rw [ea, eb] at p
        obtain ⟨p1, xs, rfl, q1, t1⟩ := lstOf_of rh ra ea
        obtain ⟨p2, ys, rfl, q2, t2⟩ := lstOf_of rh rb eb
        simp only at p
        split at p
        · rename_i hz
          exact .inr (.inr (.inr ⟨p1, p2, xs, ys, rfl, rfl, q1, q2, by rw [t1.length, t2.length]; exact hz, fun c n => Po.newF p rh (t1.app t2) c n⟩))
        · exact p.elim
  unfold addD at p
  split at p
  · rename_i i j
    cases ra; cases rb
    exact .inl ⟨i, j, rfl, rfl, Po.scal p rh rfl⟩
  · rename_i i j
    cases ra; cases rb
    split at p
    · rename_i hz
      exact .inr (.inl ⟨i, j, rfl, rfl, hz, Po.scal p rh rfl⟩)
    · exact p.elim
  · rename_i l m
    split at p
    · rename_i hz
      have ra' := ra
      have rb' := rb
      obtain ⟨c, xs, rfl, s1, t1⟩ := ra
      obtain ⟨d, ys, rfl, s2, t2⟩ := rb
      refine .inr (.inr (.inl ⟨c, d, xs, ys, rfl, rfl, s1, s2, by rw [t1.length, t2.length]; exact hz, fun e => ?_, fun _ e => ?_, fun _ _ e n => Po.newT p rh (t1.app t2) e n⟩))
      · have e0 : l = [] := by
          have := t1.length
          rw [e] at this
          exact List.eq_nil_of_length_eq_zero this.symm
        subst e0
        exact Po.scal p rh rb'
      · have e0 : m = [] := by
          have := t2.length
          rw [e] at this
          exact List.eq_nil_of_length_eq_zero this.symm
        subst e0
        rw [List.append_nil] at p
        exact Po.scal p rh ra'
    · exact p.elim
  · exact lists ra rb p
def subD : D → D → Hh → Res D
  | .int i, .int j, h => .ok (.int (i - j)) h
  | _, _, _ => .stuck
theorem od_sub : OpD X W (rI0 fun i j => .int (i - j)) subD := by
  intro σ η H h a b x y Q rh ra rb p
  unfold subD at p
  split at p
  · rename_i i j
    cases ra; cases rb
    exact ⟨i, j, rfl, rfl, Po.scal p rh rfl⟩
  · exact p.elim
def small64 (i : Int) : Prop := -18446744073709551616 < i ∧ i < 18446744073709551616
instance (i : Int) : Decidable (small64 i) := inferInstanceAs (Decidable (_ ∧ _))
/-- a text, so many times -/
def repS (x : Str) (n : Nat) : Str := ⟨(List.replicate n x.cps.toList).flatten.toArray⟩
def mulD : D → D → Hh → Res D
  | .int i, .int j, h => if small64 i ∨ small64 j then .ok (.int (i * j)) h else .stuck
  | .tup l, .int k, h => if l ≠ [] ∧ 2 ≤ k ∧ k ≤ 1000 ∧ l.length ≤ 1000 then .ok (.tup (List.replicate k.toNat l).flatten) h else .stuck
  | .str x, .int k, h => if -1000 ≤ k ∧ k ≤ 1000 ∧ x.length ≤ 1000 then .ok (.str (repS x k.toNat)) h else .stuck
  | a, .int k, h => match lstOf a h with
    | some l => if 0 ≤ k ∧ k ≤ 1000 ∧ l.length ≤ 1000 then .ok (.lst (List.replicate k.toNat l).flatten) h else .stuck
    | none => .stuck
  | _, _, _ => .stuck
theorem RDs.rep {K : PySem.W.Frag} {l : List D} {xs : List V} (t : RDs K η H l xs) : ∀ (n : Nat), RDs K η H (List.replicate n l).flatten (List.replicate n xs).flatten
  | 0 => rfl
  | n + 1 => by
    rw [List.replicate_succ, List.replicate_succ, List.flatten_cons, List.flatten_cons]
    exact t.app (RDs.rep t n)
def rMulS : R2 := fun x y H Q => ∃ z k, x = .str z ∧ y = .int k ∧ -1000 ≤ k ∧ k ≤ 1000 ∧ z.length ≤ 1000 ∧ Q (.str (repS z k.toNat)) H
theorem repS_fold (z : Str) (n : Nat) : (⟨(List.replicate n z.cps).foldl (· ++ ·) #[]⟩ : Str) = repS z n := by
  have h : ∀ (n : Nat) (a : Array Nat), (List.replicate n z.cps).foldl (· ++ ·) a = a ++ (List.replicate n z.cps.toList).flatten.toArray := by
    intro n
    induction n with
    | zero => intro a; simp
    | succ n ih =>
      intro a
      rw [List.replicate_succ, List.foldl_cons, ih, List.replicate_succ, List.flatten_cons]
      apply Array.toList_inj.mp
      simp
  rw [h n #[]]
  unfold repS
  simp
theorem op_mulS : OpR X (binaryOp .Mult) rMulS := by
  intro pins s σ H x y v u Q I rx ry h
  obtain ⟨z, k, rfl, rfl, h1, h2, h3, q⟩ := h
  obtain ⟨t, rfl⟩ := rx
  obtain ⟨t', rfl⟩ := ry
  have hk : k.toNat ≤ 1000 := by omega
  have hm : z.length * k.toNat ≤ 1000 * 1000 := Nat.mul_le_mul h3 hk
  have hlen : (repS z k.toNat).length = z.length * k.toNat := by
    unfold repS Str.length
    simp [Nat.mul_comm]
  refine PySem.P.mul_str ?_ (fun a _ => ?_) (fun a _ => ?_) ?_
  · rw [decide_eq_false (by omega), decide_eq_false (by omega)]; rfl
  · have h4 : (1000 : Int) ≤ (2 ^ 63 - 1) / k := (Int.le_ediv_iff_mul_le (by omega)).mpr (by omega)
    omega
  · exact decide_eq_false (by rw [sizeLine_eq]; omega)
  · by_cases a : k < 1
    · rw [if_pos a]
      have e : k.toNat = 0 := by omega
      rw [e] at q
      exact ⟨by decide, .str (repS z 0), H, I.tok _, ⟨_, rfl⟩, q⟩
    · rw [if_neg a]
      by_cases b : (k == 1 || z.length == 0) = true
      · rw [if_pos b]
        have e : repS z k.toNat = z := by
          unfold repS
          cases z with
          | mk c =>
            rcases Bool.or_eq_true_iff.mp b with b | b
            · have b := of_decide_eq_true b
              subst b
              simp
            · have b : c.size = 0 := by simpa [Str.length] using b
              have : c = #[] := Array.eq_empty_of_size_eq_zero b
              subst this
              simp
        rw [e] at q
        exact ⟨.str z, H, I, ⟨_, rfl⟩, q⟩
      · rw [if_neg b, repS_fold]
        exact ⟨by rw [hlen, sizeLine_eq]; omega, .str (repS z k.toNat), H, I.tok _, ⟨_, rfl⟩, q⟩
def rMulAll (K : PySem.W.Frag) : R2 := fun x y H Q => L2.rI CMul (fun i j => .int (i * j)) x y H Q ∨ rRepT K x y H Q ∨ rMulS x y H Q ∨ rRep x y H Q
theorem op_mulAll : OpR X (binaryOp .Mult) (rMulAll X.K) := op_mul.or (op_repT.or (op_mulS.or op_rep))
theorem od_mul : OpD X W (rMulAll X.K) mulD := by
  intro σ η H h a b x y Q rh ra rb p
  unfold mulD at p
  split at p
  · rename_i i j
    cases ra; cases rb
    split at p
    · rename_i hz
      refine .inl ⟨i, j, rfl, rfl, ?_, Po.scal p rh rfl⟩
      unfold small64 at hz
      unfold CMul
      rcases hz with hz | hz
      · exact .inl ⟨by omega, by omega⟩
      · exact .inr ⟨by omega, by omega⟩
    · exact p.elim
  · rename_i l k
    cases rb
    split at p
    · rename_i hz
      obtain ⟨c, xs, rfl, s1, t1⟩ := ra
      have hl := t1.length
      refine .inr (.inl ⟨c, k, xs, rfl, rfl, s1, fun e => hz.1 (List.eq_nil_of_length_eq_zero (by rw [← hl, e]; rfl)), hz.2.1, hz.2.2.1, by rw [hl]; exact hz.2.2.2, fun e n => Po.newT p rh (t1.rep _) e n⟩)
    · exact p.elim
  · rename_i x k
    cases ra; cases rb
    split at p
    · rename_i hz
      exact .inr (.inr (.inl ⟨x, k, rfl, rfl, hz.1, hz.2.1, hz.2.2, Po.scal p rh rfl⟩))
    · exact p.elim
  · rename_i d k _ _ _
    cases rb
    cases ea : lstOf a h with
    | none => rw [ea] at p; exact p.elim
    | some l =>
      rw [ea] at p
      obtain ⟨p1, xs, rfl, q1, t1⟩ := lstOf_of rh ra ea
      simp only at p
      split at p
      · rename_i hz
        have hl := t1.length
        refine .inr (.inr (.inr ⟨p1, k, xs, rfl, rfl, q1, by omega, by omega, ?_, fun e n => Po.newF p rh (t1.rep _) e n⟩))
        rw [sizeLine_eq, hl]
        have h1 : k.toNat ≤ 1000 := by omega
        have h2 : l.length ≤ 1000 := hz.2.2
        calc l.length * k.toNat ≤ 1000 * 1000 := Nat.mul_le_mul h2 h1
          _ ≤ 16777216 := by decide
      · exact p.elim
  · exact p.elim
def modD : D → D → Hh → Res D
  | .int i, .int j, h => if 0 < j then .ok (.int (i % j)) h else .stuck
  | _, _, _ => .stuck
theorem od_mod : OpD X W (L2.rI (fun _ j => 0 < j) fun i j => .int (i % j)) modD := by
  intro σ η H h a b x y Q rh ra rb p
  unfold modD at p
  split at p
  · rename_i i j
    cases ra; cases rb
    split at p
    · rename_i hz
      exact ⟨i, j, rfl, rfl, hz, Po.scal p rh rfl⟩
    · exact p.elim
  · exact p.elim
def fdivD : D → D → Hh → Res D
  | .int i, .int j, h => if 0 < j ∧ j < 1073741824 then .ok (.int (i / j)) h else .stuck
  | _, _, _ => .stuck
theorem od_fdiv : OpD X W (L2.rI CDiv fun i j => .int (i / j)) fdivD := by
  intro σ η H h a b x y Q rh ra rb p
  unfold fdivD at p
  split at p
  · rename_i i j
    cases ra; cases rb
    split at p
    · rename_i hz
      exact ⟨i, j, rfl, rfl, hz, Po.scal p rh rfl⟩
    · exact p.elim
  · exact p.elim
def powD : D → D → Hh → Res D
  | .int i, .int j, h => if 0 ≤ j ∧ j ≤ 1000000 ∧ i.natAbs < 18446744073709551616 then .ok (.int (i ^ j.toNat)) h else .stuck
  | _, _, _ => .stuck
theorem od_pow : OpD X W (L2.rI CPow fun i j => .int (i ^ j.toNat)) powD := by
  intro σ η H h a b x y Q rh ra rb p
  unfold powD at p
  split at p
  · rename_i i j
    cases ra; cases rb
    split at p
    · rename_i hz
      exact ⟨i, j, rfl, rfl, ⟨hz.1, hz.2.1, hz.2.2⟩, Po.scal p rh rfl⟩
    · exact p.elim
  · exact p.elim
def negD : D → Hh → Res D
  | .int i, h => .ok (.int (-i)) h
  | _, _ => .stuck
theorem ud_neg : UnD X W (rU fun i => .int (-i)) negD := by
  intro σ η H h a x Q rh ra p
  unfold negD at p
  split at p
  · rename_i i
    cases ra
    exact ⟨i, rfl, Po.scal p rh rfl⟩
  · exact p.elim

/-! ### order -/
def intsOf : List D → Option (List Int)
  | [] => some []
  | .int i :: l => (intsOf l).map (i :: ·)
  | _ :: _ => none
theorem intsOf_map (l : List Int) : intsOf (l.map D.int) = some l := by
  induction l with
  | nil => rfl
  | cons i l ih => rw [List.map_cons, intsOf, ih]; rfl
theorem intsOf_eq : ∀ {l : List D} {ns : List Int}, intsOf l = some ns → l = ns.map D.int
  | [], ns, e => by cases e; rfl
  | d :: l, ns, e => by
    cases d with
    | int i =>
      unfold intsOf at e
      cases q : intsOf l with
      | none => rw [q] at e; cases e
      | some m =>
        rw [q] at e
        cases e
        rw [intsOf_eq q]
        rfl
    | _ => cases e
def ltD : D → D → Hh → Res D
  | .int i, .int j, h => .ok (.bl (decide (i < j))) h
  | .str i, .str j, h => .ok (.bl (decide (i.cps.toList < j.cps.toList))) h
  | .tup l, .tup m, h => match intsOf l, intsOf m with
    | some a, some b => .ok (.bl (HT.lexLt a b)) h
    | _, _ => .stuck
  | _, _, _ => .stuck
def rLtAll (K : PySem.W.Frag) : R2 := fun x y H Q => rI0 (fun i j => .bl (decide (i < j))) x y H Q ∨ (∃ i j, x = .str i ∧ y = .str j ∧ Q (.bl (decide (i.cps.toList < j.cps.toList))) H) ∨ rLtT K x y H Q
theorem op_ltAll (hu : X.A.units < cLine) : OpR X (compareOp .Lt) (rLtAll X.K) := op_lt.or (op_lt_str.or (op_ltT hu))
theorem od_lt : OpD X W (rLtAll X.K) ltD := by
  intro σ η H h a b x y Q rh ra rb p
  unfold ltD at p
  split at p
  · rename_i i j
    cases ra; cases rb
    exact .inl ⟨i, j, rfl, rfl, Po.scal p rh rfl⟩
  · rename_i i j
    cases ra; cases rb
    exact .inr (.inl ⟨i, j, rfl, rfl, Po.scal p rh rfl⟩)
  · rename_i l m
    cases el : intsOf l with
    | none => rw [el] at p; exact p.elim
    | some ns =>
      cases em : intsOf m with
      | none => rw [el, em] at p; exact p.elim
      | some ms =>
        rw [el, em] at p
        obtain ⟨c, xs, rfl, s1, t1⟩ := ra
        obtain ⟨d, ys, rfl, s2, t2⟩ := rb
        rw [intsOf_eq el] at t1
        rw [intsOf_eq em] at t2
        rw [t1.ints] at s1
        rw [t2.ints] at s2
        exact .inr (.inr ⟨c, d, ns, ms, rfl, rfl, s1, s2, Po.scal p rh rfl⟩)
  · exact p.elim
def cmpI (f : Int → Int → Bool) : D → D → Hh → Res D
  | .int i, .int j, h => .ok (.bl (f i j)) h
  | _, _, _ => .stuck
theorem od_cmpI {f : Int → Int → Bool} : OpD X W (rI0 fun i j => .bl (f i j)) (cmpI f) := by
  intro σ η H h a b x y Q rh ra rb p
  unfold cmpI at p
  split at p
  · rename_i i j
    cases ra; cases rb
    exact ⟨i, j, rfl, rfl, Po.scal p rh rfl⟩
  · exact p.elim
def leD : D → D → Hh → Res D := cmpI fun i j => decide (i ≤ j)
def gtD : D → D → Hh → Res D := cmpI fun i j => decide (j < i)
def geD : D → D → Hh → Res D := cmpI fun i j => decide (j ≤ i)

/-! ### ==, != -/
/-- a mutable list as it stands -/
def vwD (h : Hh) (d : D) : D := match d with
  | .ref n => (match h[n]? with
    | some (.lst l) => .lst l
    | _ => .ref n)
  | d => d
theorem vwD_ok {d : D} (h : okD d = true) (hh : Hh) : vwD hh d = d := by cases d <;> first | rfl | cases h
theorem dp_vw {d : D} {v : V} (rh : RH X.K X.mg η H h) (r : RD X.K η H d v) (o : okD (vwD h d) = true) : Dp X.K H v (toPy (vwD h d)) := by
  cases d with
  | ref n =>
    unfold vwD at o ⊢
    simp only at o ⊢
    split at o
    · rename_i l el
      have e : lstOf (.ref n) h = some l := by unfold lstOf; simp only [el]
      obtain ⟨a, xs, rfl, q, t⟩ := lstOf_of rh r e
      exact .lst (.of q) (dps_of l xs o t)
    · cases o
  | _ => exact dp_of _ v o r
open Classical in
noncomputable def eqD (a b : D) (h : Hh) : Res D := if scalD a b = true then .ok (.bl (eqvD a b)) h else if CmpOk (vwD h a) ∧ CmpOk (vwD h b) then .ok (.bl (eqvD (vwD h a) (vwD h b))) h else .stuck
open Classical in
noncomputable def neD (a b : D) (h : Hh) : Res D := if scalD a b = true then .ok (.bl (!eqvD a b)) h else if CmpOk (vwD h a) ∧ CmpOk (vwD h b) then .ok (.bl (!eqvD (vwD h a) (vwD h b))) h else .stuck
theorem op_eqAll (hu : X.A.units + 64 < cLine) : OpR X (compareOp .Eq) (fun x y H Q => rEq x y H Q ∨ rEqD X.K x y H Q) := op_eq.or (op_eqD hu)
theorem op_neAll (hu : X.A.units + 64 < cLine) : OpR X (compareOp .NotEq) (fun x y H Q => rNe x y H Q ∨ rNeD X.K x y H Q) := op_ne.or (op_neD hu)
theorem od_eq : OpD X W (fun x y H Q => rEq x y H Q ∨ rEqD X.K x y H Q) eqD := by
  intro σ η H h a b x y Q rh ra rb p
  unfold eqD at p
  split at p
  · rename_i hc
    obtain ⟨e1, e2⟩ := scal_of hc ra rb
    exact .inl ⟨e1, by rw [e2]; exact Po.scal p rh rfl⟩
  · split at p
    · rename_i hc
      exact .inr ⟨toPy (vwD h a), toPy (vwD h b), dp_vw rh ra hc.1.1, dp_vw rh rb hc.2.1, shaped_of hc.1, shaped_of hc.2, Po.scal p rh rfl⟩
    · exact p.elim
theorem od_ne : OpD X W (fun x y H Q => rNe x y H Q ∨ rNeD X.K x y H Q) neD := by
  intro σ η H h a b x y Q rh ra rb p
  unfold neD at p
  split at p
  · rename_i hc
    obtain ⟨e1, e2⟩ := scal_of hc ra rb
    exact .inl ⟨e1, by rw [e2]; exact Po.scal p rh rfl⟩
  · split at p
    · rename_i hc
      exact .inr ⟨toPy (vwD h a), toPy (vwD h b), dp_vw rh ra hc.1.1, dp_vw rh rb hc.2.1, shaped_of hc.1, shaped_of hc.2, Po.scal p rh rfl⟩
    · exact p.elim
def nonD : D → Bool
  | .non => true
  | _ => false
theorem nonD_of {a : D} {x : V} (ra : RD X.K η H a x) : decide (x = .non) = nonD a := by
  cases a with
  | non => cases ra; rfl
  | bl b => cases ra; rfl
  | int b => cases ra; rfl
  | str b => cases ra; rfl
  | ty b => cases ra; rfl
  | tup l => obtain ⟨a, xs, rfl, _⟩ := ra; rfl
  | lst l => obtain ⟨a, xs, rfl, _⟩ := ra; rfl
  | dic l => obtain ⟨a, xs, rfl, _⟩ := ra; rfl
  | scr l => obtain ⟨a, rfl, _⟩ := ra; rfl
  | ref l => obtain ⟨a, _, rfl⟩ := ra; rfl
/-- is None -/
def isD (a b : D) (h : Hh) : Res D := if nonD b = true then .ok (.bl (nonD a)) h else .stuck
def isntD (a b : D) (h : Hh) : Res D := if nonD b = true then .ok (.bl (!nonD a)) h else .stuck
theorem od_is : OpD X W (fun x y H Q => y = .non ∧ Q (.bl (decide (x = .non))) H) isD := by
  intro σ η H h a b x y Q rh ra rb p
  unfold isD at p
  split at p
  · rename_i hb
    have eb : decide (y = .non) = true := (nonD_of rb).trans hb
    exact ⟨of_decide_eq_true eb, by rw [nonD_of ra]; exact Po.scal p rh rfl⟩
  · exact p.elim
theorem od_isnt : OpD X W (fun x y H Q => y = .non ∧ Q (.bl (!decide (x = .non))) H) isntD := by
  intro σ η H h a b x y Q rh ra rb p
  unfold isntD at p
  split at p
  · rename_i hb
    have eb : decide (y = .non) = true := (nonD_of rb).trans hb
    exact ⟨of_decide_eq_true eb, by rw [nonD_of ra]; exact Po.scal p rh rfl⟩
  · exact p.elim
end
end Ev

/-! EvO2: in, subscripts, slices, len and the other built-ins, methods of lists. -/
namespace Ev
open PySem PySem.Spec PyProof.Rows L2
section
variable {X : Cx} {W : WX} {σ : L2.St} {η : Ad} {H : Hp} {h : Hh} {Q : VK}

/-! ### dicts as they are read -/
def dicOf (d : D) (h : Hh) : Option (List (D × D)) := match d with
  | .dic l => some l
  | .ref n => match h[n]? with
    | some (.dic l) => some l
    | _ => none
  | _ => none
theorem dicOf_of {d : D} {v : V} {l : List (D × D)} (rh : RH X.K X.mg η H h) (r : RD X.K η H d v) (e : dicOf d h = some l) : ∃ a xs, v = .ref a ∧ H a = some (.dK xs) ∧ RKs X.K η H l xs := by
  cases d with
  | dic m =>
    obtain ⟨a, xs, e1, q, n, t⟩ := r
    cases e
    exact ⟨a, xs, e1, q, t⟩
  | ref n =>
    obtain ⟨a, ea, e1⟩ := r
    unfold dicOf at e
    simp only at e
    split at e
    · rename_i m em
      cases e
      obtain ⟨b, eb, xs, q, t⟩ := rh.addr em
      rw [ea] at eb
      cases eb
      exact ⟨a, xs, e1, q, t⟩
    · cases e
  | _ => cases e
/-- the value at a key -/
def lookD (l : List (D × D)) (k : D) : Option D := (l.find? fun p => decide (keyD p.1 = keyD k)).map (·.2)
theorem keyD_of {K : PySem.W.Frag} {k : D} {y : V} {k' : Key} (e : keyD k = some k') (r : RD K η H k y) : y = kV k' := by
  cases k with
  | int i => cases e; exact r
  | str i => cases e; exact r
  | _ => cases e
theorem lookD_of {K : PySem.W.Frag} {k : D} {k' : Key} (e : keyD k = some k') : ∀ {l : List (D × D)} {xs : List (Key × V)}, RKs K η H l xs →
    match lookD l k with
    | some d => ∃ v, valV xs k' = some v ∧ RD K η H d v
    | none => valV xs k' = none
  | [], xs, r => by cases r; rfl
  | (k1, d) :: l, xs, r => by
    obtain ⟨k2, x, r', rfl, e2, rd, t⟩ := r
    by_cases q : k2 = k'
    · subst q
      have e3 : lookD ((k1, d) :: l) k = some d := by simp [lookD, List.find?_cons, e2, e]
      rw [e3]
      exact ⟨x, valV_pos rfl, rd⟩
    · have e3 : lookD ((k1, d) :: l) k = lookD l k := by
        have : ¬ (some k2 = some k') := fun z => q (Option.some.inj z)
        simp [lookD, List.find?_cons, e2, e, this]
      have e4 : valV ((k2, x) :: r') k' = valV r' k' := by simp [valV, List.find?_cons, q]
      rw [e3, e4]
      exact lookD_of e t

/-! ### in, not in -/
def oneS (x : Str) : Option Nat := match x.cps.toList with
  | [c] => some c
  | _ => none
theorem oneS_eq {x : Str} {c : Nat} (e : oneS x = some c) : x = ⟨#[c]⟩ := by
  unfold oneS at e
  split at e
  · rename_i c' ec
    cases e
    have : x.cps = #[c] := by
      apply Array.toList_inj.mp
      rw [ec]
    cases x
    simp only at this
    rw [this]
  · cases e
open Classical in
/-- does a hold in b -/
noncomputable def memD (a b : D) (h : Hh) : Option Bool := match b with
  | .str z => match a with
    | .str x => (oneS x).map fun c => decide (c ∈ z.cps.toList)
    | _ => none
  | .tup l => if (flatD a = true ∧ l.all flatD = true) ∨ (CmpOk a ∧ CmpOk (.tup l)) then some (l.any fun z => eqvD z a) else none
  | b => match lstOf b h with
    | some l => if (flatD a = true ∧ l.all flatD = true) ∨ (CmpOk a ∧ CmpOk (.lst l)) then some (l.any fun z => eqvD z a) else none
    | none => match dicOf b h with
      | some l => if (keyD a).isSome then some (lookD l a).isSome else none
      | none => none
noncomputable def inD (a b : D) (h : Hh) : Res D := match memD a b h with
  | some c => .ok (.bl c) h
  | none => .stuck
noncomputable def ninD (a b : D) (h : Hh) : Res D := match memD a b h with
  | some c => .ok (.bl (!c)) h
  | none => .stuck
def rInT (K : PySem.W.Frag) (neg : Bool) : R2 := fun x y H Q => ∃ d ds, Dp K H x d ∧ Dp K H y (.tuple ds) ∧ SeqAt.shaped d = true ∧ SeqAt.shaped (.tuple ds) = true ∧ Q (.bl (neg != (ds.any fun z => PyData.eqv z d))) H
def rInX (neg : Bool) : R2 := fun x y H Q => ∃ a o, y = .ref a ∧ DGet H a x o ∧ Q (.bl (neg != o.isSome)) H
def rInS (neg : Bool) : R2 := fun x y H Q => ∃ (c : Nat) (z : Str), x = .str ⟨#[c]⟩ ∧ y = .str z ∧ Q (.bl (neg != decide (c ∈ z.cps.toList))) H
def rInL (K : PySem.W.Frag) (neg : Bool) : R2 := fun x y H Q => ∃ d ds, Dp K H x d ∧ Dp K H y (.list ds) ∧ SeqAt.shaped d = true ∧ SeqAt.shaped (.list ds) = true ∧ Q (.bl (neg != (ds.any fun z => PyData.eqv z d))) H
def rInAll (K : PySem.W.Frag) (neg : Bool) : R2 := fun x y H Q => rInS neg x y H Q ∨ rIn K neg x y H Q ∨ rInT K neg x y H Q ∨ rInL K neg x y H Q ∨ rInX neg x y H Q
theorem op_inT (hu : X.A.units + 65 < cLine) : OpR X (compareOp .In) (rInT X.K false) := by
  intro pins s σ H x y v u Q I rx ry h
  obtain ⟨d, ds, hd, he, sd, se, q⟩ := h
  obtain ⟨as, r1⟩ := Dp.reads I d x v hd rx
  obtain ⟨bs, r2⟩ := Dp.reads I (.tuple ds) y u he ry
  refine SeqAt.in_tuple_reads r2 r1 (SeqAt.canLay_of_shaped se) (SeqAt.canLay_of_shaped sd) (room_in_shaped sd hu) ⟨.bl _, H, I, rfl, ?_⟩
  rw [Bool.false_bne] at q
  exact q
theorem op_ninT (hu : X.A.units + 65 < cLine) : OpR X (compareOp .NotIn) (rInT X.K true) := by
  intro pins s σ H x y v u Q I rx ry h
  obtain ⟨d, ds, hd, he, sd, se, q⟩ := h
  obtain ⟨as, r1⟩ := Dp.reads I d x v hd rx
  obtain ⟨bs, r2⟩ := Dp.reads I (.tuple ds) y u he ry
  refine SeqAt.notIn_tuple_reads r2 r1 (SeqAt.canLay_of_shaped se) (SeqAt.canLay_of_shaped sd) (room_in_shaped sd hu) ⟨.bl _, H, I, rfl, ?_⟩
  rw [Bool.true_bne] at q
  exact q
theorem op_inL (hu : X.A.units + 65 < cLine) : OpR X (compareOp .In) (rInL X.K false) := by
  intro pins s σ H x y v u Q I rx ry h
  obtain ⟨d, ds, hd, he, sd, se, q⟩ := h
  rw [Bool.false_bne] at q
  exact op_inD hu pins s σ H x y v u Q I rx ry ⟨d, ds, hd, he, sd, se, q⟩
theorem op_ninL (hu : X.A.units + 65 < cLine) : OpR X (compareOp .NotIn) (rInL X.K true) := by
  intro pins s σ H x y v u Q I rx ry h
  obtain ⟨d, ds, hd, he, sd, se, q⟩ := h
  rw [Bool.true_bne] at q
  exact op_notInD hu pins s σ H x y v u Q I rx ry ⟨d, ds, hd, he, sd, se, q⟩
theorem op_inX (hu : X.A.units + 1 < cLine) : OpR X (compareOp .In) (rInX false) := by
  intro pins s σ H x y v u Q I rx ry h
  obtain ⟨a, o, rfl, g, q⟩ := h
  rw [Bool.false_bne] at q
  obtain rfl : u = Value.ref a := ry
  exact d_in hu I g rx fun s3 I3 => ⟨.bl o.isSome, H, I3, rfl, q⟩
theorem op_ninX (hu : X.A.units + 1 < cLine) : OpR X (compareOp .NotIn) (rInX true) := by
  intro pins s σ H x y v u Q I rx ry h
  obtain ⟨a, o, rfl, g, q⟩ := h
  rw [Bool.true_bne] at q
  obtain rfl : u = Value.ref a := ry
  exact d_notIn hu I g rx fun s3 I3 => ⟨.bl (!o.isSome), H, I3, rfl, q⟩
theorem op_inS : OpR X (compareOp .In) (rInS false) := by
  intro pins s σ H x y v u Q I rx ry h
  obtain ⟨c, z, rfl, rfl, q⟩ := h
  rw [Bool.false_bne] at q
  exact op_in_sign pins s σ H _ _ v u Q I rx ry ⟨c, z, rfl, rfl, q⟩
theorem op_ninS : OpR X (compareOp .NotIn) (rInS true) := by
  intro pins s σ H x y v u Q I rx ry h
  obtain ⟨c, z, rfl, rfl, q⟩ := h
  rw [Bool.true_bne] at q
  exact op_notIn_sign pins s σ H _ _ v u Q I rx ry ⟨c, z, rfl, rfl, q⟩
theorem op_inAll (hu : X.A.units + 65 < cLine) : OpR X (compareOp .In) (rInAll X.K false) :=
  op_inS.or (op_in_seq.or ((op_inT hu).or ((op_inL hu).or (op_inX (by omega)))))
theorem op_ninAll (hu : X.A.units + 65 < cLine) : OpR X (compareOp .NotIn) (rInAll X.K true) :=
  op_ninS.or (op_notIn_seq.or ((op_ninT hu).or ((op_ninL hu).or (op_ninX (by omega)))))
open Classical in
theorem mem_of {neg : Bool} {a b : D} {x y : V} {c : Bool} (rh : RH X.K X.mg η H h) (ra : RD X.K η H a x) (rb : RD X.K η H b y) (e : memD a b h = some c) (q : Q (.bl (neg != c)) H) : rInAll X.K neg x y H Q := by
  have lists : ∀ {b : D}, RD X.K η H b y → (match lstOf b h with
    | some l => if (flatD a = true ∧ l.all flatD = true) ∨ (CmpOk a ∧ CmpOk (.lst l)) then some (l.any fun z => eqvD z a) else none
    | none => match dicOf b h with
      | some l => if (keyD a).isSome then some (lookD l a).isSome else none
      | none => none) = some c → rInAll X.K neg x y H Q := by
    intro b rb e
    split at e
    · rename_i l el
      obtain ⟨p, xs, rfl, qp, t⟩ := lstOf_of rh rb el
      split at e
      · rename_i hc
        cases e
        rcases hc with hc | hc
        · refine .inr (.inl ⟨p, xs, rfl, .inl (.of qp), flat_of hc.1 ra, flats_of hc.2 t, ?_⟩)
          rw [inV_of hc.1 ra hc.2 t]
          cases neg <;> simpa using q
        · refine .inr (.inr (.inr (.inl ⟨toPy a, toPys l, dp_of a x hc.1.1 ra, .lst (.of qp) (dps_of l xs hc.2.1 t), shaped_of hc.1, shaped_of hc.2, ?_⟩)))
          rw [any_toPys]
          exact q
      · cases e
    · split at e
      · rename_i l el
        obtain ⟨p, xs, rfl, qp, t⟩ := dicOf_of rh rb el
        split at e
        · rename_i hk
          cases e
          obtain ⟨k', ek⟩ := Option.isSome_iff_exists.mp hk
          have z := lookD_of ek t
          refine .inr (.inr (.inr (.inr ⟨p, valV xs k', rfl, ?_, ?_⟩)))
          · rw [keyD_of ek ra]
            exact DGet.k qp
          · split at z
            · rename_i d ed
              obtain ⟨v, ev, _⟩ := z
              rw [ed] at q
              rw [ev]
              exact q
            · rename_i ed
              rw [ed] at q
              rw [z]
              exact q
        · cases e
      · cases e
  unfold memD at e
  split at e
  · rename_i z
    split at e
    · rename_i w
      cases eo : oneS w with
      | none => rw [eo] at e; cases e
      | some n =>
        rw [eo] at e
        cases e
        cases ra
        cases rb
        refine .inl ⟨n, z, by rw [oneS_eq eo], rfl, ?_⟩
        exact q
    · cases e
  · rename_i l
    split at e
    · rename_i hc
      cases e
      rcases hc with hc | hc
      · obtain ⟨p, xs, rfl, qp, t⟩ := rb
        refine .inr (.inl ⟨p, xs, rfl, .inr qp, flat_of hc.1 ra, flats_of hc.2 t, ?_⟩)
        rw [inV_of hc.1 ra hc.2 t]
        cases neg <;> simpa using q
      · refine .inr (.inr (.inl ⟨toPy a, toPys l, dp_of a x hc.1.1 ra, dp_of (.tup l) y hc.2.1 rb, shaped_of hc.1, shaped_of hc.2, ?_⟩))
        rw [any_toPys]
        exact q
    · cases e
  · exact lists rb e
theorem od_in : OpD X W (rInAll X.K false) inD := by
  intro σ η H h a b x y Q rh ra rb p
  unfold inD at p
  split at p
  · rename_i c ec
    exact mem_of rh ra rb ec (by rw [Bool.false_bne]; exact Po.scal p rh rfl)
  · exact p.elim
theorem od_nin : OpD X W (rInAll X.K true) ninD := by
  intro σ η H h a b x y Q rh ra rb p
  unfold ninD at p
  split at p
  · rename_i c ec
    exact mem_of rh ra rb ec (by rw [Bool.true_bne]; exact Po.scal p rh rfl)
  · exact p.elim

/-! ### subscripts -/
theorem atI_rds {K : PySem.W.Frag} {l : List D} {xs : List V} {i : Int} {d : D} (t : RDs K η H l xs) (e : atI l i = some d) : ∃ v, atI xs i = some v ∧ RD K η H d v := by
  unfold atI at e ⊢
  rw [t.length]
  cases q : ixN l.length i with
  | none => rw [q] at e; cases e
  | some j =>
    rw [q] at e
    exact t.get e
def ixD (a b : D) (h : Hh) : Res D := match a with
  | .str z => match b with
    | .int i => if z.length ≤ sizeLine then (match atI z.cps.toList i with
      | some c => .ok (.str ⟨#[c]⟩) h
      | none => .stuck) else .stuck
    | _ => .stuck
  | .tup l => match b with
    | .int i => (match atI l i with
      | some d => .ok d h
      | none => .stuck)
    | _ => .stuck
  | .scr l => match b with
    | .int i => (match atI l i with
      | some d => .ok (.int d) h
      | none => .stuck)
    | _ => .stuck
  | a => match lstOf a h with
    | some l => (match b with
      | .int i => (match atI l i with
        | some d => .ok d h
        | none => .stuck)
      | _ => .stuck)
    | none => match dicOf a h with
      | some l => if (keyD b).isSome then (match lookD l b with
        | some d => .ok d h
        | none => .stuck) else .stuck
      | none => .stuck
def rIxX : R2 := fun x y H Q => ∃ a v, x = .ref a ∧ DGet H a y (some v) ∧ Q v H
theorem ix_dic (hu : X.A.units + 1 < cLine) : IxR X rIxX := by
  intro value slice pins s σ H x y v u Q I rx ry h hs
  obtain ⟨a, w, rfl, g, q⟩ := h
  obtain rfl : v = Value.ref a := rx
  exact tail_any (dict_typeIs I g) PySem.F.slot_dict_getitem.lookup (d_getItem hu I g ry fun w' s3 I3 rw' => ⟨w, H, I3, rw', q⟩) hs
def rIxAll (K : PySem.W.Frag) : R2 := fun x y H Q => rIx K x y H Q ∨ rIxX x y H Q
theorem ix_all (hu : X.A.units + 1 < cLine) : IxR X (rIxAll X.K) := ix_seq.or (ix_dic hu)
theorem sqL_scr {K : PySem.W.Frag} {l : List Int} {a : Addr} (h : (¬ η.In a ∧ Rd H a (.lst (l.map V.int))) ∨ ∀ H, SqL K H a (l.map V.int)) : SqL K H a (l.map V.int) := by
  rcases h with h | h
  · exact .inl h.2
  · exact h H
theorem od_ix : OpD X W (rIxAll X.K) ixD := by
  intro σ η H h a b x y Q rh ra rb p
  unfold ixD at p
  split at p
  · rename_i z
    split at p
    · rename_i i
      split at p
      · rename_i hz
        split at p
        · rename_i c ec
          cases ra; cases rb
          exact .inl (.inr (.inr ⟨z, i, c, rfl, rfl, hz, ec, Po.scal p rh rfl⟩))
        · exact p.elim
      · exact p.elim
    · exact p.elim
  · rename_i l
    split at p
    · rename_i i
      split at p
      · rename_i d ed
        cases rb
        obtain ⟨c, xs, rfl, s, t⟩ := ra
        obtain ⟨v, ev, r⟩ := atI_rds t ed
        exact .inl (.inr (.inl ⟨c, xs, i, v, rfl, rfl, s, ev, Po.scal p rh r⟩))
      · exact p.elim
    · exact p.elim
  · rename_i l
    split at p
    · rename_i i
      split at p
      · rename_i d ed
        cases rb
        obtain ⟨c, rfl, s⟩ := ra
        refine .inl (.inl ⟨c, l.map V.int, i, .int d, rfl, rfl, sqL_scr s, ?_, Po.scal p rh rfl⟩)
        unfold atI at ed ⊢
        rw [List.length_map]
        cases q : ixN l.length i with
        | none => rw [q] at ed; cases ed
        | some j =>
          rw [q] at ed
          show (l.map V.int)[j]? = _
          have ed : l[j]? = some d := ed
          rw [List.getElem?_map, ed]
          rfl
      · exact p.elim
    · exact p.elim
  · split at p
    · rename_i l el
      split at p
      · rename_i i
        split at p
        · rename_i d ed
          cases rb
          obtain ⟨c, xs, rfl, s, t⟩ := lstOf_of rh ra el
          obtain ⟨v, ev, r⟩ := atI_rds t ed
          exact .inl (.inl ⟨c, xs, i, v, rfl, rfl, .of s, ev, Po.scal p rh r⟩)
        · exact p.elim
      · exact p.elim
    · split at p
      · rename_i l el
        split at p
        · rename_i hk
          split at p
          · rename_i d ed
            obtain ⟨c, xs, rfl, s, t⟩ := dicOf_of rh ra el
            obtain ⟨k', ek⟩ := Option.isSome_iff_exists.mp hk
            have z := lookD_of ek t
            rw [ed] at z
            obtain ⟨v, ev, r⟩ := z
            refine .inr ⟨c, v, rfl, ?_, Po.scal p rh r⟩
            rw [keyD_of ek rb, ← ev]
            exact DGet.k s
          · exact p.elim
        · exact p.elim
      · exact p.elim

/-! ### slices -/
def cutD (l : List D) (lo hi : Option Int) : List D := (l.drop (HT.sIx l.length 0 lo)).take (HT.sIx l.length l.length hi - HT.sIx l.length 0 lo)
theorem cutD_of {K : PySem.W.Frag} {l : List D} {xs : List V} (t : RDs K η H l xs) (lo hi : Option Int) : RDs K η H (cutD l lo hi) (cutV xs lo hi) := by
  unfold cutD cutV
  rw [t.length]
  exact (t.drop _).take _
theorem cutD_all {l : List D} {lo hi : Option Int} (h : HT.sIx l.length 0 lo = 0 ∧ HT.sIx l.length l.length hi = l.length) : cutD l lo hi = l := by
  unfold cutD
  rw [h.1, h.2]
  simp
def slD (a : D) (lo hi : Option Int) (h : Hh) : Res D := match a with
  | .str z => if z.length ≤ sizeLine then .ok (.str (cutS z lo hi)) h else .stuck
  | .tup l => .ok (.tup (cutD l lo hi)) h
  | a => match lstOf a h with
    | some l => .ok (.lst (cutD l lo hi)) h
    | none => .stuck
def rSlAll (K : PySem.W.Frag) : V → Option Int → Option Int → Hp → VK → Prop := fun x lo hi H Q => rSlS x lo hi H Q ∨ rSlA K x lo hi H Q ∨ rSlL K x lo hi H Q
theorem sl_all : SlR X (rSlAll X.K) := sl_str.or (sl_tupA.or sl_list)
theorem sd_sl : SlD X W (rSlAll X.K) slD := by
  intro σ η H h a x lo hi Q rh ra p
  unfold slD at p
  split at p
  · rename_i z
    split at p
    · rename_i hz
      cases ra
      exact .inl ⟨z, rfl, hz, Po.scal p rh rfl⟩
    · exact p.elim
  · rename_i l
    have ra' := ra
    obtain ⟨c, xs, rfl, s, t⟩ := ra
    refine .inr (.inl ⟨c, xs, rfl, s, fun e => ?_, fun _ q n => Po.newT p rh (cutD_of t lo hi) q n⟩)
    rw [t.length] at e
    rw [cutD_all e] at p
    exact Po.scal p rh ra'
  · split at p
    · rename_i l el
      obtain ⟨c, xs, rfl, s, t⟩ := lstOf_of rh ra el
      exact .inr (.inr ⟨c, xs, rfl, .of s, fun q n => Po.newF p rh (cutD_of t lo hi) q n⟩)
    · exact p.elim

/-! ### built-in functions -/
def lenD (a : List D) (h : Hh) : Res D := match a with
  | [.str z] => if z.length ≤ sizeLine then .ok (.int z.length) h else .stuck
  | [.tup l] => .ok (.int l.length) h
  | [.scr l] => .ok (.int l.length) h
  | [a] => match lstOf a h with
    | some l => .ok (.int l.length) h
    | none => match dicOf a h with
      | some l => .ok (.int l.length) h
      | none => .stuck
  | _ => .stuck
def rLenAll (K : PySem.W.Frag) : List V → Hp → VK → Prop := fun xs H Q => (∃ z, xs = [.str z] ∧ z.length ≤ sizeLine ∧ Q (.int z.length) H) ∨ (∃ p ys, xs = [.ref p] ∧ (SqL K H p ys ∨ SqT K H p ys) ∧ Q (.int ys.length) H) ∨
  (∃ d kvs, xs = [.ref d] ∧ H d = some (.dK kvs) ∧ Q (.int kvs.length) H)
theorem rds1 {K : PySem.W.Frag} {a : D} {xs : List V} (r : RDs K η H [a] xs) : ∃ v, xs = [v] ∧ RD K η H a v := by
  obtain ⟨x, t, rfl, q, e⟩ := r
  cases e
  exact ⟨x, rfl, q⟩
theorem rds2 {K : PySem.W.Frag} {a b : D} {xs : List V} (r : RDs K η H [a, b] xs) : ∃ v w, xs = [v, w] ∧ RD K η H a v ∧ RD K η H b w := by
  obtain ⟨x, t, rfl, q, y, u, rfl, q2, e⟩ := r
  cases e
  exact ⟨x, y, rfl, q, q2⟩
theorem rks_length {K : PySem.W.Frag} : ∀ {l : List (D × D)} {xs : List (Key × V)}, RKs K η H l xs → xs.length = l.length
  | [], _, h => by cases h; rfl
  | (k, d) :: l, xs, h => by
    obtain ⟨k', x, r, rfl, _, _, t⟩ := h
    rw [List.length_cons, List.length_cons, rks_length t]
theorem call_lenAll : CallR X (.builtin "len") (rLenAll X.K) := call_len_str.or (call_len_seq.or (by
  intro pins s σ H xs us Q I r h
  obtain ⟨d, kvs, rfl, e, q⟩ := h
  exact call_lenD pins s σ H _ us Q I r ⟨d, kvs, rfl, e, q⟩))
theorem cd_len : CallD X W (rLenAll X.K) lenD := by
  intro σ η H h a x Q rh ra p
  unfold lenD at p
  split at p
  · rename_i z
    obtain ⟨v, rfl, r⟩ := rds1 ra
    split at p
    · rename_i hz
      cases r
      exact .inl ⟨z, rfl, hz, Po.scal p rh rfl⟩
    · exact p.elim
  · rename_i l
    obtain ⟨v, rfl, c, xs, rfl, s, t⟩ := rds1 ra
    exact .inr (.inl ⟨c, xs, rfl, .inr s, by rw [t.length]; exact Po.scal p rh rfl⟩)
  · rename_i l
    obtain ⟨v, rfl, c, rfl, s⟩ := rds1 ra
    refine .inr (.inl ⟨c, _, rfl, .inl (sqL_scr s), ?_⟩)
    rw [List.length_map]
    exact Po.scal p rh rfl
  · obtain ⟨v, rfl, r⟩ := rds1 ra
    split at p
    · rename_i l el
      obtain ⟨c, xs, rfl, s, t⟩ := lstOf_of rh r el
      exact .inr (.inl ⟨c, xs, rfl, .inl (.of s), by rw [t.length]; exact Po.scal p rh rfl⟩)
    · split at p
      · rename_i l el
        obtain ⟨c, xs, rfl, s, t⟩ := dicOf_of rh r el
        exact .inr (.inr ⟨c, xs, rfl, s, by rw [rks_length t]; exact Po.scal p rh rfl⟩)
      · exact p.elim
  · exact p.elim
/-- a list or tuple that is read -/
def seqOf (d : D) (h : Hh) : Option (List D) := match d with
  | .tup l => some l
  | d => lstOf d h
theorem seqOf_of {d : D} {v : V} {l : List D} (rh : RH X.K X.mg η H h) (r : RD X.K η H d v) (e : seqOf d h = some l) : ∃ a xs, v = .ref a ∧ (SqL X.K H a xs ∨ SqT X.K H a xs) ∧ RDs X.K η H l xs := by
  unfold seqOf at e
  split at e
  · cases e
    obtain ⟨a, xs, e1, q, t⟩ := r
    exact ⟨a, xs, e1, .inr q, t⟩
  · obtain ⟨a, xs, e1, q, t⟩ := lstOf_of rh r e
    exact ⟨a, xs, e1, .inl (.of q), t⟩
def tupleD (a : List D) (h : Hh) : Res D := match a with
  | [.tup l] => .ok (.tup l) h
  | [a] => match lstOf a h with
    | some l => .ok (.tup l) h
    | none => .stuck
  | _ => .stuck
theorem cd_tuple : CallD X W (fun xs H Q => ∃ p ys, xs = [.ref p] ∧ ((SqL X.K H p ys ∧ ∀ l, H l = none → Q (.ref l) (upd H l (.tup ys))) ∨ (SqT X.K H p ys ∧ Q (.ref p) H))) tupleD := by
  intro σ η H h a x Q rh ra p
  unfold tupleD at p
  split at p
  · rename_i l
    obtain ⟨v, rfl, r⟩ := rds1 ra
    have r' := r
    obtain ⟨c, xs, rfl, s, t⟩ := r
    exact ⟨c, xs, rfl, .inr ⟨s, Po.scal p rh r'⟩⟩
  · obtain ⟨v, rfl, r⟩ := rds1 ra
    split at p
    · rename_i l el
      obtain ⟨c, xs, rfl, s, t⟩ := lstOf_of rh r el
      exact ⟨c, xs, rfl, .inl ⟨.of s, fun q n => Po.newT p rh t q n⟩⟩
    · exact p.elim
  · exact p.elim
def listD (a : List D) (h : Hh) : Res D := match a with
  | [a] => match seqOf a h with
    | some l => .ok (.lst l) h
    | none => .stuck
  | _ => .stuck
/-- a list that will change -/
def listM (a : List D) (h : Hh) : Res D := match a with
  | [a] => match seqOf a h with
    | some l => newL l h
    | none => .stuck
  | _ => .stuck
theorem cd_list : CallD X W (fun xs H Q => ∃ p ys, xs = [.ref p] ∧ (SqL X.K H p ys ∨ SqT X.K H p ys) ∧ ∀ l, H l = none → Q (.ref l) (upd H l (.lst ys))) listD := by
  intro σ η H h a x Q rh ra p
  unfold listD at p
  split at p
  · obtain ⟨v, rfl, r⟩ := rds1 ra
    split at p
    · rename_i l el
      obtain ⟨c, xs, rfl, s, t⟩ := seqOf_of rh r el
      exact ⟨c, xs, rfl, s, fun q n => Po.newF p rh t q n⟩
    · exact p.elim
  · exact p.elim
theorem cd_listM : CallD X W (fun xs H Q => ∃ p ys, xs = [.ref p] ∧ (SqL X.K H p ys ∨ SqT X.K H p ys) ∧ ∀ l, H l = none → Q (.ref l) (upd H l (.lst ys))) listM := by
  intro σ η H h a x Q rh ra p
  unfold listM at p
  split at p
  · obtain ⟨v, rfl, r⟩ := rds1 ra
    split at p
    · rename_i l el
      obtain ⟨c, xs, rfl, s, t⟩ := seqOf_of rh r el
      exact ⟨c, xs, rfl, s, fun q n => Po.newM p rh t q n⟩
    · exact p.elim
  · exact p.elim
def absD (a : List D) (h : Hh) : Res D := match a with
  | [.int i] => .ok (.int (if i < 0 then -i else i)) h
  | _ => .stuck
theorem cd_abs : CallD X W (fun xs H Q => ∃ i, xs = [.int i] ∧ Q (.int (if i < 0 then -i else i)) H) absD := by
  intro σ η H h a x Q rh ra p
  unfold absD at p
  split at p
  · rename_i i
    obtain ⟨v, rfl, r⟩ := rds1 ra
    cases r
    exact ⟨i, rfl, Po.scal p rh rfl⟩
  · exact p.elim
def max2D (a : List D) (h : Hh) : Res D := match a with
  | [.int i, .int j] => .ok (.int (if j > i then j else i)) h
  | _ => .stuck
theorem cd_max2 : CallD X W (fun xs H Q => ∃ i j, xs = [.int i, .int j] ∧ Q (.int (if j > i then j else i)) H) max2D := by
  intro σ η H h a x Q rh ra p
  unfold max2D at p
  split at p
  · rename_i i j
    obtain ⟨v, w, rfl, r, r2⟩ := rds2 ra
    cases r; cases r2
    exact ⟨i, j, rfl, Po.scal p rh rfl⟩
  · exact p.elim
def min2D (a : List D) (h : Hh) : Res D := match a with
  | [.int i, .int j] => .ok (.int (if j < i then j else i)) h
  | _ => .stuck
theorem cd_min2 : CallD X W (fun xs H Q => ∃ i j, xs = [.int i, .int j] ∧ Q (.int (if j < i then j else i)) H) min2D := by
  intro σ η H h a x Q rh ra p
  unfold min2D at p
  split at p
  · rename_i i j
    obtain ⟨v, w, rfl, r, r2⟩ := rds2 ra
    cases r; cases r2
    exact ⟨i, j, rfl, Po.scal p rh rfl⟩
  · exact p.elim
def intD (a : List D) (h : Hh) : Res D := match a with
  | [.int i] => .ok (.int i) h
  | [.bl b] => .ok (.int (if b = true then 1 else 0)) h
  | [.str x] => if x.length ≤ 640 then (match intText? x with
    | some n => .ok (.int n) h
    | none => .stuck) else .stuck
  | _ => .stuck
def rIntAll : List V → Hp → VK → Prop := fun xs H Q => ((∃ i, xs = [.int i] ∧ Q (.int i) H) ∨ ∃ k, xs = [.bl k] ∧ Q (.int (if k then 1 else 0)) H) ∨ ∃ a n, xs = [.str a] ∧ PySem.intText? a = some n ∧ a.length ≤ 640 ∧ Q (.int n) H
theorem call_intAll : CallR X (.type "int") rIntAll := call_int1.or call_int_str
theorem cd_int : CallD X W rIntAll intD := by
  intro σ η H h a x Q rh ra p
  unfold intD at p
  split at p
  · rename_i i
    obtain ⟨v, rfl, r⟩ := rds1 ra
    cases r
    exact .inl (.inl ⟨i, rfl, Po.scal p rh rfl⟩)
  · rename_i b
    obtain ⟨v, rfl, r⟩ := rds1 ra
    cases r
    exact .inl (.inr ⟨b, rfl, Po.scal p rh rfl⟩)
  · rename_i z
    obtain ⟨v, rfl, r⟩ := rds1 ra
    split at p
    · rename_i hz
      split at p
      · rename_i n en
        cases r
        exact .inr ⟨z, n, rfl, en, hz, Po.scal p rh rfl⟩
      · exact p.elim
    · exact p.elim
  · exact p.elim
def strD (a : List D) (h : Hh) : Res D := match a with
  | [.int i] => if i.natAbs.log2 < 1920 then .ok (.str (toString i)) h else .stuck
  | _ => .stuck
theorem cd_str : CallD X W (fun xs H Q => ∃ i, xs = [.int i] ∧ i.natAbs.log2 < 1920 ∧ Q (.str (toString i)) H) strD := by
  intro σ η H h a x Q rh ra p
  unfold strD at p
  split at p
  · rename_i i
    obtain ⟨v, rfl, r⟩ := rds1 ra
    split at p
    · rename_i hz
      cases r
      exact ⟨i, rfl, hz, Po.scal p rh rfl⟩
    · exact p.elim
  · exact p.elim
/-- sum of a list of ints -/
def sumD (a : List D) (h : Hh) : Res D := match a with
  | [a] => match (lstOf a h).bind intsOf with
    | some l => .ok (.int l.sum) h
    | none => .stuck
  | _ => .stuck
theorem ints_of {d : D} {v : V} {l : List Int} (rh : RH X.K X.mg η H h) (r : RD X.K η H d v) (e : (lstOf d h).bind intsOf = some l) : ∃ a, v = .ref a ∧ H a = some (.lst (l.map V.int)) := by
  cases q : lstOf d h with
  | none => rw [q] at e; cases e
  | some m =>
    rw [q] at e
    obtain ⟨a, xs, rfl, s, t⟩ := lstOf_of rh r q
    rw [intsOf_eq e] at t
    rw [t.ints] at s
    exact ⟨a, rfl, s⟩
theorem cd_sum : CallD X W (rSum X.K) sumD := by
  intro σ η H h a x Q rh ra p
  unfold sumD at p
  split at p
  · obtain ⟨v, rfl, r⟩ := rds1 ra
    split at p
    · rename_i l el
      obtain ⟨c, rfl, s⟩ := ints_of rh r el
      exact ⟨c, l, rfl, .of s, Po.scal p rh rfl⟩
    · exact p.elim
  · exact p.elim
def blsOf : List D → Option (List Bool)
  | [] => some []
  | .bl i :: l => (blsOf l).map (i :: ·)
  | _ :: _ => none
theorem blsOf_map (l : List Bool) : blsOf (l.map D.bl) = some l := by
  induction l with
  | nil => rfl
  | cons i l ih => rw [List.map_cons, blsOf, ih]; rfl
theorem blsOf_eq : ∀ {l : List D} {ns : List Bool}, blsOf l = some ns → l = ns.map D.bl
  | [], ns, e => by cases e; rfl
  | d :: l, ns, e => by
    cases d with
    | bl i =>
      unfold blsOf at e
      cases q : blsOf l with
      | none => rw [q] at e; cases e
      | some m =>
        rw [q] at e
        cases e
        rw [blsOf_eq q]
        rfl
    | _ => cases e
theorem RDs.bls {K : PySem.W.Frag} : ∀ {l : List Bool} {xs : List V}, RDs K η H (l.map D.bl) xs → xs = l.map V.bl
  | [], _, h => h
  | i :: l, xs, h => by
    obtain ⟨x, r, rfl, q, t⟩ := h
    rw [RDs.bls t, q]
    rfl
/-- any of a list of bools -/
def anyD (a : List D) (h : Hh) : Res D := match a with
  | [a] => match (lstOf a h).bind blsOf with
    | some l => .ok (.bl (l.any id)) h
    | none => .stuck
  | _ => .stuck
theorem bls_of {d : D} {v : V} {l : List Bool} (rh : RH X.K X.mg η H h) (r : RD X.K η H d v) (e : (lstOf d h).bind blsOf = some l) : ∃ a, v = .ref a ∧ H a = some (.lst (l.map V.bl)) := by
  cases q : lstOf d h with
  | none => rw [q] at e; cases e
  | some m =>
    rw [q] at e
    obtain ⟨a, xs, rfl, s, t⟩ := lstOf_of rh r q
    rw [blsOf_eq e] at t
    rw [RDs.bls t] at s
    exact ⟨a, rfl, s⟩
theorem cd_any : CallD X W (rAny X.K) anyD := by
  intro σ η H h a x Q rh ra p
  unfold anyD at p
  split at p
  · obtain ⟨v, rfl, r⟩ := rds1 ra
    split at p
    · rename_i l el
      obtain ⟨c, rfl, s⟩ := bls_of rh r el
      exact ⟨c, l, rfl, .of s, Po.scal p rh rfl⟩
    · exact p.elim
  · exact p.elim
/-- the order of ints, put in -/
def insI (x : Int) : List Int → List Int
  | [] => [x]
  | y :: l => if x ≤ y then x :: y :: l else y :: insI x l
def sortI : List Int → List Int
  | [] => []
  | x :: l => insI x (sortI l)
theorem insI_perm (x : Int) : ∀ l, (insI x l).Perm (x :: l)
  | [] => .refl _
  | y :: l => by
    unfold insI
    split
    · exact .refl _
    · exact ((insI_perm x l).cons y).trans (.swap x y l)
theorem sortI_perm : ∀ l, (sortI l).Perm l
  | [] => .refl _
  | x :: l => (insI_perm x _).trans ((sortI_perm l).cons x)
theorem insI_sorted (x : Int) : ∀ l, l.Pairwise (· ≤ ·) → (insI x l).Pairwise (· ≤ ·)
  | [], _ => by simp [insI]
  | y :: l, h => by
    have h' := List.pairwise_cons.mp h
    unfold insI
    split
    · rename_i hxy
      exact List.pairwise_cons.mpr ⟨fun z hz => by
        rcases List.mem_cons.mp hz with e | hz
        · rw [e]; exact hxy
        · exact Int.le_trans hxy (h'.1 z hz), h⟩
    · rename_i hxy
      refine List.pairwise_cons.mpr ⟨fun z hz => ?_, insI_sorted x l h'.2⟩
      rcases List.mem_cons.mp ((insI_perm x l).mem_iff.mp hz) with e | hz
      · rw [e]; omega
      · exact h'.1 z hz
theorem sortI_sorted : ∀ l, (sortI l).Pairwise (· ≤ ·)
  | [] => .nil
  | x :: l => insI_sorted x _ (sortI_sorted l)
theorem sorted_uniq : ∀ {l m : List Int}, l.Perm m → l.Pairwise (· ≤ ·) → m.Pairwise (· ≤ ·) → l = m
  | [], m, p, _, _ => (List.Perm.nil_eq p)
  | x :: l, m, p, h1, h2 => by
    cases m with
    | nil => exact absurd p.length_eq (by simp)
    | cons y m =>
      have a1 := List.pairwise_cons.mp h1
      have a2 := List.pairwise_cons.mp h2
      have e : x = y := by
        have m1 := p.mem_iff.mp (List.mem_cons_self (a := x) (l := l))
        have m2 := p.mem_iff.mpr (List.mem_cons_self (a := y) (l := m))
        rcases List.mem_cons.mp m1 with e | m1
        · exact e
        · rcases List.mem_cons.mp m2 with e | m2
          · exact e.symm
          · exact Int.le_antisymm (a1.1 y m2) (a2.1 x m1)
      subst e
      rw [sorted_uniq (List.Perm.cons_inv p) a1.2 a2.2]
/-- sorted of a list of ints -/
def sortedD (a : List D) (h : Hh) : Res D := match a with
  | [a] => match (lstOf a h).bind intsOf with
    | some l => .ok (.lst ((sortI l).map D.int)) h
    | none => .stuck
  | _ => .stuck
theorem cd_sorted : CallD X W (rSortedI X.K) sortedD := by
  intro σ η H h a x Q rh ra p
  unfold sortedD at p
  split at p
  · obtain ⟨v, rfl, r⟩ := rds1 ra
    split at p
    · rename_i l el
      obtain ⟨c, rfl, s⟩ := ints_of rh r el
      refine ⟨c, l, rfl, .of s, fun ns' q e1 e2 n => ?_⟩
      rw [sorted_uniq (e1.trans (sortI_perm l).symm) e2 (sortI_sorted l)]
      exact Po.newF p rh (RDs.of_ints _) q n
    · exact p.elim
  · exact p.elim

/-! ### isinstance -/
def kindD (d : D) (h : Hh) : Option String := match d with
  | .non => some "NoneType"
  | .bl _ => some "bool"
  | .int _ => some "int"
  | .str _ => some "str"
  | .tup _ => some "tuple"
  | .lst _ => some "list"
  | d => match lstOf d h with
    | some _ => some "list"
    | none => none
def isinD (a : List D) (h : Hh) : Res D := match a with
  | [d, .ty T] => match kindD d h with
    | some k => match kitB k T with
      | some b => .ok (.bl b) h
      | none => .stuck
    | none => .stuck
  | _ => .stuck
theorem kind_of {d : D} {v : V} {k : String} (rh : RH X.K X.mg η H h) (r : RD X.K η H d v) (e : kindD d h = some k) : TyX X.K H v (.type k) := by
  unfold kindD at e
  split at e
  · cases e; cases r; exact .base .non
  · cases e; cases r; exact .base (.bl _)
  · cases e; cases r; exact .base (.int _)
  · cases e; cases r; exact .base (.str _)
  · cases e
    obtain ⟨a, xs, rfl, s, t⟩ := r
    rcases s with (s | ⟨o, s⟩) | ⟨o, its, n, s, c, _⟩
    · exact .base (.tup s)
    · exact .fTuple s
    · exact .kTuple s c
  · cases e
    obtain ⟨a, xs, rfl, s, t⟩ := r
    exact .base (.lst s)
  · split at e
    · rename_i l el
      cases e
      obtain ⟨a, xs, rfl, s, t⟩ := lstOf_of rh r el
      exact .base (.lst s)
    · cases e
theorem cd_isin : CallD X W (rIsi X.K) isinD := by
  intro σ η H h a x Q rh ra p
  unfold isinD at p
  split at p
  · rename_i d T
    obtain ⟨v, w', rfl, r, r2⟩ := rds2 ra
    cases r2
    split at p
    · rename_i k ek
      split at p
      · rename_i b eb
        exact ⟨v, .ty T, .type k, .type T, b, rfl, .ty T, kind_of rh r ek, kit_ty eb, Po.scal p rh rfl⟩
      · exact p.elim
    · exact p.elim
  · exact p.elim

/-! ### methods of lists -/
def isLst (d : D) (h : Hh) : Prop := (lstOf d h).isSome = true
theorem ty_lst : TyD X "list" isLst := by
  intro η H h a x rh ra e
  obtain ⟨l, el⟩ := Option.isSome_iff_exists.mp e
  obtain ⟨p, xs, rfl, s, t⟩ := lstOf_of rh ra el
  exact .inl ⟨rfl, xs, .of s⟩
/-- the mutable list at n -/
def mlOf (d : D) (h : Hh) : Option (Nat × List D) := match d with
  | .ref n => match h[n]? with
    | some (.lst l) => some (n, l)
    | _ => none
  | _ => none
theorem mlOf_of {d : D} {v : V} {n : Nat} {l : List D} (rh : RH X.K X.mg η H h) (r : RD X.K η H d v) (e : mlOf d h = some (n, l)) : ∃ a xs, v = .ref a ∧ η.c[n]? = some a ∧ H a = some (.lst xs) ∧ RDs X.K η H l xs := by
  cases d with
  | ref m =>
    obtain ⟨a, ea, rfl⟩ := r
    unfold mlOf at e
    simp only at e
    split at e
    · rename_i l' em
      cases e
      obtain ⟨b, eb, xs, q, t⟩ := rh.addr em
      rw [ea] at eb
      cases eb
      exact ⟨a, xs, rfl, ea, q, t⟩
    · cases e
  | _ => cases e
/-- the list at n becomes l -/
theorem Po.setL {n : Nat} {a : Addr} {xs ys : List V} {l : List D} {d : D} {v : V} (p : Po X W (rD X) σ η H (.ok d (h.set n (.lst l))) Q) (rh : RH X.K X.mg η H h) (ea : η.c[n]? = some a) (e : H a = some (.lst xs)) (t : RDs X.K η H l ys) (r : RD X.K η H d v) :
    Q v (upd H a (.lst ys)) :=
  have s : Step η H η (upd H a (.lst ys)) := rh.updS ea e trivial
  p v η _ s (rh.set ea e trivial ⟨ys, upd_same, t.step s⟩) (r.step s)
def appendD (a : D) (l : List D) (h : Hh) : Res D := match mlOf a h with
  | some (n, xs) => match l with
    | [d] => if xs.length < sizeLine then .ok .non (h.set n (.lst (xs ++ [d]))) else .stuck
    | _ => .stuck
  | none => .stuck
theorem md_append : MtD X W "list" rAppend appendD := by
  intro σ η H h a l x xs Q rh ra rl p
  unfold appendD at p
  split at p
  · rename_i n ys em
    obtain ⟨c, zs, rfl, ec, q, t⟩ := mlOf_of rh ra em
    split at p
    · rename_i d
      obtain ⟨v, rfl, r⟩ := rds1 rl
      split at p
      · rename_i hz
        exact ⟨c, zs, v, rfl, rfl, q, by rw [t.length]; exact hz, Po.setL p rh ec q (t.app ⟨v, [], rfl, r, rfl⟩) rfl⟩
      · exact p.elim
    · exact p.elim
  · exact p.elim
def extendD (a : D) (l : List D) (h : Hh) : Res D := match mlOf a h with
  | some (n, xs) => match l with
    | [d] => match lstOf d h with
      | some ys => if xs.length + ys.length ≤ sizeLine then .ok .non (h.set n (.lst (xs ++ ys))) else .stuck
      | none => .stuck
    | _ => .stuck
  | none => .stuck
theorem md_extend : MtD X W "list" rExtend extendD := by
  intro σ η H h a l x xs Q rh ra rl p
  unfold extendD at p
  split at p
  · rename_i n ys em
    obtain ⟨c, zs, rfl, ec, q, t⟩ := mlOf_of rh ra em
    split at p
    · rename_i d
      obtain ⟨v, rfl, r⟩ := rds1 rl
      split at p
      · rename_i ms el
        obtain ⟨b, ws, rfl, qb, tb⟩ := lstOf_of rh r el
        split at p
        · rename_i hz
          exact ⟨c, b, zs, ws, rfl, rfl, q, qb, by rw [t.length, tb.length]; exact hz, Po.setL p rh ec q (t.app tb) rfl⟩
        · exact p.elim
      · exact p.elim
    · exact p.elim
  · exact p.elim
theorem RDs.dropLast {K : PySem.W.Frag} {l : List D} {xs : List V} (t : RDs K η H l xs) : RDs K η H l.dropLast xs.dropLast := by
  rw [List.dropLast_eq_take, List.dropLast_eq_take, t.length]
  exact t.take _
def popD (a : D) (l : List D) (h : Hh) : Res D := match mlOf a h with
  | some (n, xs) => match l with
    | [] => match xs.getLast? with
      | some d => .ok d (h.set n (.lst xs.dropLast))
      | none => .stuck
    | _ => .stuck
  | none => .stuck
theorem md_pop : MtD X W "list" rPop popD := by
  intro σ η H h a l x xs Q rh ra rl p
  unfold popD at p
  split at p
  · rename_i n ys em
    obtain ⟨c, zs, rfl, ec, q, t⟩ := mlOf_of rh ra em
    split at p
    · cases rl
      split at p
      · rename_i d ed
        rw [List.getLast?_eq_getElem?] at ed
        obtain ⟨v, ev, r⟩ := t.get ed
        rw [← t.length] at ev
        exact ⟨c, zs, v, rfl, rfl, q, ev, Po.setL p rh ec q t.dropLast r⟩
      · exact p.elim
    · exact p.elim
  · exact p.elim
end
end Ev

/-! EvS: statements, loops. -/
namespace Ev
open PySem PySem.Spec PyProof.Rows L2

/-- where one stands well -/
structure GX (X : Cx) (W : WX) : Prop where
  tk : Takes X W
  po : PassesOwn (model X.prog X.w) X.A X.env X.xe
  calm : X.calm = true
  nd : X.N.Nodup
  un : X.A.units + 65 < cLine

section
variable {X : Cx} {W : WX} {σ : L2.St} {η : Ad} {H : Hp} {h : Hh} {E : Ends} {e a b : Expr} {pos : Pos} {st : Stmt} {sts : List Stmt}

/-! ### blocks and the simple statements -/
def nilS : SS := fun ρ h => .nx ρ h
def seqS (a b : SS) : SS := fun ρ h => match a ρ h with
  | .nx ρ' h' => b ρ' h'
  | r => r
def exprS (m : EM D) : SS := fun ρ h => toS (m ρ h) ρ fun _ h1 => .nx ρ h1
def retS (m : EM D) : SS := fun ρ h => toS (m ρ h) ρ fun d h1 => .ret d h1
def retN : SS := fun _ h => .ret .non h
def brkS : SS := fun ρ h => .bk ρ h
def contS : SS := fun ρ h => .ct ρ h
def ifS (c : EM Bool) (a b : SS) : SS := fun ρ h => toS (c ρ h) ρ fun x h1 => if x = true then a ρ h1 else b ρ h1
theorem mb_nil : MB X W [] nilS := ⟨PSs.wk pss_nil fun E σ H q => by
  obtain ⟨ρ, η, h, rs, rh, p⟩ := q
  exact p σ η H (.refl _ _) rs rh⟩
theorem mb_cons {m n : SS} (h1 : MS X W st m) (h2 : MB X W sts n) : MB X W (st :: sts) (seqS m n) := ⟨PSs.wk (pss_cons h1.ps h2.ps) fun E σ H q => by
  obtain ⟨ρ, η, h, rs, rh, p⟩ := q
  refine ⟨ρ, η, h, rs, rh, ?_⟩
  unfold seqS at p
  cases em : m ρ h with
  | nx ρ1 h1 =>
    rw [em] at p
    exact fun σ' η' H' s r1 r2 => ⟨ρ1, η', h1, r1, r2, p.step s⟩
  | ret d h1 => rw [em] at p; exact p
  | bk ρ1 h1 => rw [em] at p; exact p
  | ct ρ1 h1 => rw [em] at p; exact p
  | rs c fs ρ1 h1 => rw [em] at p; exact p
  | stuck => rw [em] at p; exact p⟩
theorem mb_one {m : SS} (h1 : MS X W st m) : MB X W [st] m := ⟨PSs.wk (pss_one h1.ps) fun E σ H q => q⟩
theorem ms_expr {m : EM D} (he : ME X W e m) (hs : swapsWith e none pos.line X.env = pure false := by rfl) : MS X W (.Expr e pos) (exprS m) := ⟨PS.wk (ps_expr he.pe hs) fun E σ H q => by
  obtain ⟨ρ, η, h, rs, rh, p⟩ := q
  refine tM.mono (fun x H1 ⟨d, η1, h1, s1, r1, q1, p1⟩ => ?_) (PoS.seq (R1 := rD X) rs rh p)
  exact p1 σ η1 H1 (.refl _ _) (rs.step s1) r1⟩
theorem ms_doc {x : Str} {j} {pos' : Pos} : MS X W (.Expr (.Constant (.str x) j pos) pos') nilS := ⟨PS.wk ps_doc fun E σ H q => by
  obtain ⟨ρ, η, h, rs, rh, p⟩ := q
  exact p σ η H (.refl _ _) rs rh⟩
theorem ms_pass : MS X W (.Pass pos) nilS := ⟨PS.wk ps_pass fun E σ H q => by
  obtain ⟨ρ, η, h, rs, rh, p⟩ := q
  exact p σ η H (.refl _ _) rs rh⟩
theorem ms_break : MS X W (.Break pos) brkS := ⟨PS.wk ps_break fun E σ H q => by
  obtain ⟨ρ, η, h, rs, rh, p⟩ := q
  exact p σ η H (.refl _ _) rs rh⟩
theorem ms_continue : MS X W (.Continue pos) contS := ⟨PS.wk ps_continue fun E σ H q => by
  obtain ⟨ρ, η, h, rs, rh, p⟩ := q
  exact p σ η H (.refl _ _) rs rh⟩
theorem ms_ret {m : EM D} (he : ME X W e m) : MS X W (.Return (some e) pos) (retS m) := ⟨PS.wk (ps_ret he.pe) fun E σ H q => by
  obtain ⟨ρ, η, h, rs, rh, p⟩ := q
  refine tM.mono (fun x H1 ⟨d, η1, h1, s1, r1, q1, p1⟩ => ?_) (PoS.seq (R1 := rD X) rs rh p)
  exact p1 x η1 H1 (.refl _ _) r1 q1⟩
theorem ms_retN : MS X W (.Return none pos) retN := ⟨PS.wk ps_retN fun E σ H q => by
  obtain ⟨ρ, η, h, rs, rh, p⟩ := q
  exact p .non η H (.refl _ _) rh rfl⟩
theorem ms_if {c : Expr} {xs ys : List Stmt} {tc : EM Bool} {m n : SS} (hc : MT X W c tc) (ha : MB X W xs m) (hb : MB X W ys n) : MS X W (.If c xs ys pos) (ifS tc m n) := ⟨PS.wk (ps_if hc.pt ha.ps hb.ps) fun E σ H q => by
  obtain ⟨ρ, η, h, rs, rh, p⟩ := q
  refine tM.mono (fun x H1 ⟨d, η1, h1, s1, r1, q1, p1⟩ => ?_) (PoS.seq (R1 := rB) rs rh p)
  have q1 : d = x := q1
  subst q1
  cases d with
  | true => exact ⟨ρ, η1, h1, rs.step s1, r1, p1⟩
  | false => exact ⟨ρ, η1, h1, rs.step s1, r1, p1⟩⟩

/-! ### targets -/
abbrev GM := D → Env → Option Env
def tG (X : Cx) (g : GM) : TG := fun v σ H Q => ∃ ρ η h d, RS X.K η H σ ρ ∧ RH X.K X.mg η H h ∧ RD X.K η H d v ∧
  match g d ρ with
  | some ρ' => ∀ σ', RS X.K η H σ' ρ' → Q σ' H
  | none => False
structure MG (X : Cx) (tg : Expr) (g : GM) : Prop where
  pg : PG X tg (tG X g)
theorem PG.wk {tg : Expr} {t t' : TG} (h : PG X tg t) (i : ∀ v σ H Q, t' v σ H Q → t v σ H Q) : PG X tg t' := ⟨fun pins s σ H v u Q I r q => h.run pins s σ H v u Q I r (i v σ H Q q)⟩
def gNm (i : Nat) : GM := fun d ρ => some (ρ.set i (some d))
theorem RS.set {K : PySem.W.Frag} {σ : L2.St} {ρ : Env} {d : D} {v : V} (i : Nat) (r : RS K η H σ ρ) (q : RD K η H d v) : RS K η H (σ.set i (some v)) (ρ.set i (some d)) where
  len := by rw [List.length_set, List.length_set, r.len]
  at_ := fun j d' e => by
    by_cases hj : j = i
    · subst hj
      have hl : j < ρ.length := by
        have := (List.getElem?_eq_some_iff.mp e).1
        rwa [List.length_set] at this
      rw [List.getElem?_set_self hl] at e
      cases e
      exact ⟨v, List.getElem?_set_self (by rw [r.len]; exact hl), q⟩
    · rw [List.getElem?_set_ne (Ne.symm hj)] at e ⊢
      exact r.at_ j d' e
theorem mg_name (g : GX X W) (i : Nat) {x : Str} (hi : X.N[i]? = some x := by rfl) (hx : Loc X.env.scope x := by first | exact Or.inl rfl | exact Or.inr rfl)
    (hf : X.fn x = true ∨ X.env.scope.names.lookup x = some .local := by first | exact .inl rfl | exact .inr rfl) : MG X (.Name x pos) (gNm i) := ⟨PG.wk (pg_name g.nd hi hx hf) fun v σ H Q q => by
  obtain ⟨ρ, η, h, d, rs, rh, rd, p⟩ := q
  exact p _ (rs.set i rd)⟩
structure MGs (X : Cx) (ts : List Expr) (is : List Nat) : Prop where
  pg : ∃ t, PGs X ts t ∧ ∀ (η : Ad) (H : Hp) (σ : L2.St) (ρ : Env) (ds : List D) (vs : List V) (Q : L2.St → Hp → Prop), ds.length = is.length → RS X.K η H σ ρ → RDs X.K η H ds vs →
    (∀ σ', RS X.K η H σ' ((is.zip ds).foldl (fun ρ p => ρ.set p.1 (some p.2)) ρ) → Q σ' H) → t vs σ H Q
theorem mgs_nil : MGs X [] [] := ⟨gNil, pgs_nil, fun η H σ ρ ds vs Q hl rs rd q => by
  have e : ds = [] := List.eq_nil_of_length_eq_zero hl
  subst e
  cases rd
  exact ⟨rfl, q σ rs⟩⟩
theorem mgs_cons (g : GX X W) (i : Nat) {x : Str} {es : List Expr} {is : List Nat} (hr : MGs X es is) (hi : X.N[i]? = some x := by rfl) (hx : Loc X.env.scope x := by first | exact Or.inl rfl | exact Or.inr rfl)
    (hf : X.fn x = true ∨ X.env.scope.names.lookup x = some .local := by first | exact .inl rfl | exact .inr rfl)
    (hs : (assignEach (.Name x pos :: es) X.env).map (·.2) = assign (.Name x pos) X.env :: (assignEach es X.env).map (·.2) := by rfl) : MGs X (.Name x pos :: es) (i :: is) := by
  obtain ⟨t, ht, hq⟩ := hr.pg
  refine ⟨gCons (gName i) t, pgs_cons (pg_name g.nd hi hx hf) ht hs, fun η H σ ρ ds vs Q hl rs rd q => ?_⟩
  cases ds with
  | nil => cases hl
  | cons d ds =>
    obtain ⟨v, r, rfl, rd1, rd2⟩ := rd
    exact ⟨v, r, rfl, hq η H _ _ ds r Q (Nat.succ.inj hl) (rs.set i rd1) rd2 q⟩
/-- a tuple into names -/
def gTp (is : List Nat) : GM := fun d ρ => match d with
  | .tup l => if l.length = is.length then some ((is.zip l).foldl (fun ρ p => ρ.set p.1 (some p.2)) ρ) else none
  | _ => none
theorem mg_tup (g : GX X W) {es : List Expr} {k : Nat} {is : List Nat} (h : MGs X es is) (hn : (assignEach es X.env).length = is.length := by rfl) (hst : (assignEach es X.env).findIdx? (·.1) = none := by rfl) : MG X (.Tuple es k pos) (gTp is) := by
  obtain ⟨t, ht, hq⟩ := h.pg
  refine ⟨PG.wk (pg_tup g.calm ht hn hst) fun v σ H Q q => ?_⟩
  obtain ⟨ρ, η, h, d, rs, rh, rd, p⟩ := q
  unfold gTp at p
  cases d with
  | tup l =>
    simp only at p
    obtain ⟨a, xs, rfl, s, tt⟩ := rd
    by_cases hl : l.length = is.length
    · rw [if_pos hl] at p
      exact ⟨a, xs, rfl, s, by rw [tt.length]; exact hl, hq η H σ ρ l xs Q hl rs tt p⟩
    · rw [if_neg hl] at p
      exact p.elim
  | _ => exact p.elim
def asgS (m : EM D) (g : GM) : SS := fun ρ h => toS (m ρ h) ρ fun d h1 => match g d ρ with
  | some ρ' => .nx ρ' h1
  | none => .stuck
theorem asg_of {m : EM D} {g : GM} (q : tS X W (asgS m g) E σ H) : tAsg (tM X W (rD X) m) (tG X g) E σ H := by
  obtain ⟨ρ, η, h, rs, rh, p⟩ := q
  refine tM.mono (fun x H1 ⟨d, η1, h1, s1, r1, q1, p1⟩ => ?_) (PoS.seq (R1 := rD X) rs rh p)
  refine ⟨ρ, η1, h1, d, rs.step s1, r1, q1, ?_⟩
  cases eg : g d ρ with
  | some ρ' =>
    rw [eg] at p1
    exact fun σ' rs' => p1 σ' η1 H1 (.refl _ _) rs' r1
  | none =>
    rw [eg] at p1
    exact p1
def setS (i : Nat) (m : EM D) : SS := fun ρ h => toS (m ρ h) ρ fun d h1 => .nx (ρ.set i (some d)) h1
theorem ms_set (g : GX X W) (i : Nat) {x : Str} {pos' : Pos} {m : EM D} (he : ME X W e m) (hi : X.N[i]? = some x := by rfl) (hx : Loc X.env.scope x := by first | exact Or.inl rfl | exact Or.inr rfl)
    (hs : swapsWith e (some (.Name x pos')) pos.line X.env = pure false := by rfl) (hf : X.fn x = true ∨ X.env.scope.names.lookup x = some .local := by first | exact .inl rfl | exact .inr rfl) :
    MS X W (.Assign [.Name x pos'] e pos) (setS i m) := ⟨PS.wk (ps_set g.nd hi hx he.pe hs hf) fun E σ H q => by
  obtain ⟨ρ, η, h, rs, rh, p⟩ := q
  refine tM.mono (fun x H1 ⟨d, η1, h1, s1, r1, q1, p1⟩ => ?_) (PoS.seq (R1 := rD X) rs rh p)
  exact p1 _ η1 H1 (.refl _ _) ((rs.step s1).set i q1) r1⟩
theorem ms_asg {tg : Expr} {m : EM D} {g : GM} (he : ME X W e m) (hg : MG X tg g) (hs : swapsWithSole [tg] e pos.line X.env = pure false := by rfl) (hw : swappedStores [tg] e X.env = pure none := by rfl)
    (h1 : (assignEach [tg] X.env).map (·.2) = [assign tg X.env] := by rfl) : MS X W (.Assign [tg] e pos) (asgS m g) := ⟨PS.wk (ps_asg he.pe hg.pg hs hw h1) fun E σ H q => asg_of q⟩
/-- i += e -/
def augS (i : Nat) (g : D → D → Hh → Res D) (m : EM D) : SS := fun ρ h => match ρ[i]? with
  | some (some x) => toS (m ρ h) ρ fun y h1 => toS (g x y h1) ρ fun z h2 => .nx (ρ.set i (some z)) h2
  | _ => .stuck
theorem PoS.res {r : Res D} {ρ : Env} {k : D → Hh → SR} {Q : VK} (rs : RS X.K η H σ ρ) (p : PoS X W η H (toS r ρ k) E) (i : ∀ d h1 v η1 H1, Step η H η1 H1 → RH X.K X.mg η1 H1 h1 → RD X.K η1 H1 d v → PoS X W η1 H1 (k d h1) E → Q v H1) : Po X W (rD X) σ η H r Q := by
  cases r with
  | ok d h1 => exact fun v η1 H1 s r1 r2 => i d h1 v η1 H1 s r1 r2 (PoS.step s p)
  | raise c fs h1 => exact fun η' H' C dx s r m q => p σ η' H' C dx s (rs.step s) r m q
  | stuck => exact p
theorem ms_aug (gx : GX X W) (i : Nat) {x : Str} {op : Operator} {r : R2} {pos' : Pos} {m : EM D} {g : D → D → Hh → Res D} (ho : OpR X (inplaceOp op) r) (hg : OpD X W r g) (he : ME X W e m) (hi : X.N[i]? = some x := by rfl) (hx : Loc X.env.scope x := by first | exact Or.inl rfl | exact Or.inr rfl)
    (hf : X.fn x = true ∨ X.env.scope.names.lookup x = some .local := by first | exact .inl rfl | exact .inr rfl) : MS X W (.AugAssign (.Name x pos') op e pos) (augS i g m) :=
  ⟨PS.wk (ps_aug gx.nd hi hx he.pe (op := op) (ti := r) (fun pins s σ H x y v u Q I rx ry q => ho pins s σ H x y v u Q I rx ry q) hf) fun E σ H q => by
  obtain ⟨ρ, η, h, rs, rh, p⟩ := q
  unfold augS at p
  split at p
  · rename_i x0 ex
    obtain ⟨v, ev, rd⟩ := rs.at_ i x0 ex
    refine ⟨v, ev, ?_⟩
    refine tM.mono (fun y H1 ⟨d, η1, h1, s1, r1, q1, p1⟩ => ?_) (PoS.seq (R1 := rD X) rs rh p)
    refine hg σ η1 H1 h1 x0 d v y _ r1 (rd.step s1) q1 (PoS.res (rs.step s1) p1 fun z h2 w' η2 H2 s2 r2 q2 p2 => ?_)
    exact p2 _ η2 H2 (.refl _ _) ((rs.step (s1.trans s2)).set i q2) r2
  · exact p.elim⟩

/-! ### o[i] = e -/
def putD (l : List (D × D)) (k d : D) : List (D × D) :=
  if (l.any fun p => decide (keyD p.1 = keyD k)) = true then l.map (fun p => if keyD p.1 = keyD k then (p.1, d) else p) else l ++ [(k, d)]
theorem rks_app {K : PySem.W.Frag} : ∀ {l : List (D × D)} {xs : List (Key × V)} {k d : D} {k' : Key} {v : V}, RKs K η H l xs → keyD k = some k' → RD K η H d v → RKs K η H (l ++ [(k, d)]) (xs ++ [(k', v)])
  | [], xs, k, d, k', v, r, e, q => by cases r; exact ⟨k', v, [], rfl, e, q, rfl⟩
  | (k1, d1) :: l, xs, k, d, k', v, r, e, q => by
    obtain ⟨k2, x, r', rfl, e2, rd, t⟩ := r
    exact ⟨k2, x, r' ++ [(k', v)], rfl, e2, rd, rks_app t e q⟩
theorem rks_map {K : PySem.W.Frag} : ∀ {l : List (D × D)} {xs : List (Key × V)} {k d : D} {k' : Key} {v : V}, RKs K η H l xs → keyD k = some k' → RD K η H d v →
    RKs K η H (l.map fun p => if keyD p.1 = keyD k then (p.1, d) else p) (xs.map fun p => if p.1 = k' then (p.1, v) else p)
  | [], xs, k, d, k', v, r, e, q => by cases r; rfl
  | (k1, d1) :: l, xs, k, d, k', v, r, e, q => by
    obtain ⟨k2, x, r', rfl, e2, rd, t⟩ := r
    have ih := rks_map t e q
    by_cases z : k2 = k'
    · subst z
      have z2 : keyD k1 = keyD k := e2.trans e.symm
      show RKs K η H ((if keyD k1 = keyD k then (k1, d) else (k1, d1)) :: _) ((if k2 = k2 then (k2, v) else (k2, x)) :: _)
      rw [if_pos z2, if_pos rfl]
      exact ⟨k2, v, _, rfl, e2, q, ih⟩
    · have z2 : ¬ keyD k1 = keyD k := fun y => z (Option.some.inj (e2.symm.trans (y.trans e)))
      show RKs K η H ((if keyD k1 = keyD k then (k1, d) else (k1, d1)) :: _) ((if k2 = k' then (k2, v) else (k2, x)) :: _)
      rw [if_neg z2, if_neg z]
      exact ⟨k2, x, _, rfl, e2, rd, ih⟩
theorem rks_any {K : PySem.W.Frag} : ∀ {l : List (D × D)} {xs : List (Key × V)} {k : D} {k' : Key}, RKs K η H l xs → keyD k = some k' → (xs.any fun p => decide (p.1 = k')) = l.any fun p => decide (keyD p.1 = keyD k)
  | [], xs, k, k', r, e => by cases r; rfl
  | (k1, d1) :: l, xs, k, k', r, e => by
    obtain ⟨k2, x, r', rfl, e2, rd, t⟩ := r
    show (decide (k2 = k') || _) = (decide (keyD k1 = keyD k) || _)
    rw [rks_any t e]
    congr 1
    rw [e2, e, Bool.eq_iff_iff]
    simp
theorem rks_put {K : PySem.W.Frag} {l : List (D × D)} {xs : List (Key × V)} {k d : D} {k' : Key} {v : V} (r : RKs K η H l xs) (e : keyD k = some k') (q : RD K η H d v) : RKs K η H (putD l k d) (putK xs k' v) := by
  unfold putD putK
  rw [← rks_any r e]
  split
  · exact rks_map r e q
  · exact rks_app r e q
/-- the mutable dict at n -/
def mdOf (d : D) (h : Hh) : Option (Nat × List (D × D)) := match d with
  | .ref n => match h[n]? with
    | some (.dic l) => some (n, l)
    | _ => none
  | _ => none
theorem mdOf_of {d : D} {v : V} {n : Nat} {l : List (D × D)} (rh : RH X.K X.mg η H h) (r : RD X.K η H d v) (e : mdOf d h = some (n, l)) : ∃ a xs, v = .ref a ∧ η.c[n]? = some a ∧ H a = some (.dK xs) ∧ RKs X.K η H l xs := by
  cases d with
  | ref m =>
    obtain ⟨a, ea, rfl⟩ := r
    unfold mdOf at e
    simp only at e
    split at e
    · rename_i l' em
      cases e
      obtain ⟨b, eb, xs, q, t⟩ := rh.addr em
      rw [ea] at eb
      cases eb
      exact ⟨a, xs, rfl, ea, q, t⟩
    · cases e
  | _ => cases e
/-- the heap behind o[i] = v -/
def putO (o i v : D) (h : Hh) : Option Hh := match mlOf o h with
  | some (n, l) => match i with
    | .int k => (ixN l.length k).map fun j => h.set n (.lst (l.set j v))
    | _ => none
  | none => match mdOf o h with
    | some (n, l) => if (keyD i).isSome = true ∧ l.length < sizeLine then some (h.set n (.dic (putD l i v))) else none
    | none => none
def rSetX : V → V → V → Hp → (Hp → Prop) → Prop := fun o i v H Q => ∃ a H', o = .ref a ∧ DPut H a i v H' ∧ Q H'
theorem set_dicX (hu : X.A.units + 1 < cLine) : PSet X rSetX := by
  intro pins s σ H o i v ov iv u Q I ro ri rv h
  obtain ⟨a, H', rfl, g, q⟩ := h
  cases ro
  exact d_setItem hu I g ri rv fun s' I' => ⟨H', I', q⟩
def rSetAll : V → V → V → Hp → (Hp → Prop) → Prop := fun o i v H Q => rSetL o i v H Q ∨ rSetX o i v H Q
theorem set_all (hu : X.A.units + 1 < cLine) : PSet X rSetAll := by
  intro pins s σ H o i v ov iv u Q I ro ri rv h
  rcases h with h | h
  · exact set_list pins s σ H o i v ov iv u Q I ro ri rv h
  · exact set_dicX hu pins s σ H o i v ov iv u Q I ro ri rv h
theorem putO_of {o i v : D} {x y z : V} {h' : Hh} {Q : Hp → Prop} (rh : RH X.K X.mg η H h) (ro : RD X.K η H o x) (ri : RD X.K η H i y) (rv : RD X.K η H v z) (e : putO o i v h = some h') (q : ∀ H', Step η H η H' → RH X.K X.mg η H' h' → Q H') : rSetAll x y z H Q := by
  unfold putO at e
  split at e
  · rename_i n l em
    obtain ⟨a, xs, rfl, ea, s, t⟩ := mlOf_of rh ro em
    split at e
    · rename_i k
      cases ri
      cases ej : ixN l.length k with
      | none => rw [ej] at e; cases e
      | some j =>
        rw [ej] at e
        cases e
        have st : Step η H η (upd H a (.lst (xs.set j z))) := rh.updS ea s trivial
        exact .inl ⟨a, xs, k, j, rfl, rfl, s, by rw [t.length]; exact ej, q _ st (rh.set ea s trivial ⟨_, upd_same, (t.set j rv).step st⟩)⟩
    · cases e
  · split at e
    · rename_i n l em
      obtain ⟨a, xs, rfl, ea, s, t⟩ := mdOf_of rh ro em
      split at e
      · rename_i hk
        cases e
        obtain ⟨k', ek⟩ := Option.isSome_iff_exists.mp hk.1
        have st : Step η H η (upd H a (.dK (putK xs k' z))) := rh.updS ea s trivial
        refine .inr ⟨a, _, rfl, ?_, q _ st (rh.set ea s trivial ⟨_, upd_same, RKs.step st _ _ (rks_put t ek rv)⟩)⟩
        rw [keyD_of ek ri]
        exact DPut.k s (by rw [rks_length t]; exact hk.2)
      · cases e
    · cases e
def putS (m mo mi : EM D) : SS := fun ρ h => toS (m ρ h) ρ fun v h1 => toS (mo ρ h1) ρ fun o h2 => toS (mi ρ h2) ρ fun i h3 => match putO o i v h3 with
  | some h4 => .nx ρ h4
  | none => .stuck
theorem ms_put (g : GX X W) {o i : Expr} {m mo mi : EM D} {pos' : Pos} (he : ME X W e m) (ho : ME X W o mo) (hi : ME X W i mi)
    (ha : ∀ v, assign (.Subscript o i pos') X.env v = (do
      let ov ← holding [v] (eval o X.env)
      let iv ← holding [v, ov] (eval i X.env)
      standAt pos'
      holding [v, ov, iv] (setItem ov iv v)
      release [v, ov, iv] []) := by intro _; rfl)
    (hs : swapsWithSole [.Subscript o i pos'] e pos.line X.env = pure false := by rfl) (hw : swappedStores [.Subscript o i pos'] e X.env = pure none := by rfl)
    (h1 : (assignEach [.Subscript o i pos'] X.env).map (·.2) = [assign (.Subscript o i pos') X.env] := by rfl) : MS X W (.Assign [.Subscript o i pos'] e pos) (putS m mo mi) :=
  ⟨PS.wk (ps_asg he.pe (pg_sub ho.pe hi.pe (set_all (by have := g.un; omega)) ha) hs hw h1) fun E σ H q => by
  obtain ⟨ρ, η, h, rs, rh, p⟩ := q
  refine tM.mono (fun x H1 ⟨d, η1, h1, s1, r1, q1, p1⟩ => ?_) (PoS.seq (R1 := rD X) rs rh p)
  have rs1 := rs.step s1
  refine tM.mono (fun y H2 ⟨o', η2, h2, s2, r2, q2, p2⟩ => ?_) (PoS.seq (R1 := rD X) rs1 r1 p1)
  have rs2 := rs1.step s2
  refine tM.mono (fun z H3 ⟨i', η3, h3, s3, r3, q3, p3⟩ => ?_) (PoS.seq (R1 := rD X) rs2 r2 p2)
  have rs3 := rs2.step s3
  cases ep : putO o' i' d h3 with
  | none => rw [ep] at p3; exact p3.elim
  | some h4 =>
    rw [ep] at p3
    exact putO_of r3 (RD.step s3 _ _ q2) q3 (RD.step (s2.trans s3) _ _ q1) ep fun H' st r4 => p3 σ η3 H' st (rs3.step st) r4⟩
end
end Ev

/-! EvL: loops, comprehensions, defs and their calls. -/
namespace Ev
open PySem PySem.Spec PyProof.Rows L2

/-- what a for walks: the items; where they stand in a mutable list, its place -/
structure IT where
  items : List D
  src : Option Nat
def IT.chk (it : IT) (h : Hh) : Prop := match it.src with
  | none => True
  | some n => h[n]? = some (.lst it.items)

section
variable {X : Cx} {W : WX} {σ : L2.St} {η : Ad} {H : Hp} {h : Hh} {E : Ends} {e a b : Expr} {pos : Pos} {st : Stmt} {sts : List Stmt}

/-! ### while -/
def loopN (c : EM Bool) (b : SS) : Nat → SS
  | 0 => fun _ _ => .stuck
  | n + 1 => fun ρ h => toS (c ρ h) ρ fun x h1 => if x = true then (match b ρ h1 with
    | .nx ρ2 h2 => loopN c b n ρ2 h2
    | .ct ρ2 h2 => loopN c b n ρ2 h2
    | .bk ρ2 h2 => .nx ρ2 h2
    | r => r) else .nx ρ h1
open Classical in
noncomputable def whileS (c : EM Bool) (b : SS) : SS := fun ρ h => if hx : ∃ n, loopN c b n ρ h ≠ .stuck then loopN c b hx.choose ρ h else .stuck
theorem loopN_step (c : EM Bool) (b : SS) (n : Nat) (ρ : Env) (h : Hh) : loopN c b (n + 1) ρ h = toS (c ρ h) ρ fun x h1 => if x = true then (match b ρ h1 with
    | .nx ρ2 h2 => loopN c b n ρ2 h2
    | .ct ρ2 h2 => loopN c b n ρ2 h2
    | .bk ρ2 h2 => .nx ρ2 h2
    | r => r) else .nx ρ h1 := rfl
theorem loopN_mono (c : EM Bool) (b : SS) : ∀ (n : Nat) (ρ : Env) (h : Hh), loopN c b n ρ h ≠ .stuck → loopN c b (n + 1) ρ h = loopN c b n ρ h
  | 0, ρ, h, q => absurd rfl q
  | n + 1, ρ, h, q => by
    rw [loopN_step c b n] at q ⊢
    rw [loopN_step c b (n + 1)]
    cases e1 : c ρ h with
    | raise _ _ _ => rfl
    | stuck => rfl
    | ok x h1 =>
      rw [e1, toS_ok] at q
      rw [toS_ok, toS_ok]
      cases x with
      | false => rfl
      | true =>
        rw [if_pos rfl] at q ⊢
        rw [if_pos rfl]
        cases e2 : b ρ h1 with
        | nx ρ2 h2 =>
          rw [e2] at q
          exact loopN_mono c b n ρ2 h2 q
        | ct ρ2 h2 =>
          rw [e2] at q
          exact loopN_mono c b n ρ2 h2 q
        | _ => rfl
theorem loopN_le (c : EM Bool) (b : SS) {n : Nat} {ρ : Env} {h : Hh} (q : loopN c b n ρ h ≠ .stuck) : ∀ k, loopN c b (n + k) ρ h = loopN c b n ρ h
  | 0 => rfl
  | k + 1 => by
    have ih := loopN_le c b q k
    rw [← Nat.add_assoc, loopN_mono c b (n + k) ρ h (by rw [ih]; exact q), ih]
theorem loopN_uniq (c : EM Bool) (b : SS) {n m : Nat} {ρ : Env} {h : Hh} (q : loopN c b n ρ h ≠ .stuck) (q' : loopN c b m ρ h ≠ .stuck) : loopN c b n ρ h = loopN c b m ρ h := by
  rcases Nat.le_total n m with l | l
  · obtain ⟨k, rfl⟩ := Nat.le.dest l
    exact (loopN_le c b q k).symm
  · obtain ⟨k, rfl⟩ := Nat.le.dest l
    exact loopN_le c b q' k
/-- a while ends so -/
theorem whileS_of {c : EM Bool} {b : SS} {n : Nat} {ρ : Env} {h : Hh} {r : SR} (e : loopN c b n ρ h = r) (hr : r ≠ .stuck) : whileS c b ρ h = r := by
  have hx : ∃ n, loopN c b n ρ h ≠ .stuck := ⟨n, by rw [e]; exact hr⟩
  unfold whileS
  rw [dif_pos hx, ← e]
  exact loopN_uniq c b hx.choose_spec (by rw [e]; exact hr)
theorem whileS_ex {c : EM Bool} {b : SS} {ρ : Env} {h : Hh} (q : whileS c b ρ h ≠ .stuck) : ∃ n, loopN c b n ρ h = whileS c b ρ h := by
  unfold whileS at q ⊢
  by_cases hx : ∃ n, loopN c b n ρ h ≠ .stuck
  · rw [dif_pos hx]
    exact ⟨_, rfl⟩
  · rw [dif_neg hx] at q
    exact absurd rfl q
/-- one turn of it -/
theorem whileS_eq (c : EM Bool) (b : SS) (ρ : Env) (h : Hh) : whileS c b ρ h = toS (c ρ h) ρ fun x h1 => if x = true then (match b ρ h1 with
    | .nx ρ2 h2 => whileS c b ρ2 h2
    | .ct ρ2 h2 => whileS c b ρ2 h2
    | .bk ρ2 h2 => .nx ρ2 h2
    | r => r) else .nx ρ h1 := by
  by_cases hq : (toS (c ρ h) ρ fun x h1 => if x = true then (match b ρ h1 with
    | .nx ρ2 h2 => whileS c b ρ2 h2
    | .ct ρ2 h2 => whileS c b ρ2 h2
    | .bk ρ2 h2 => .nx ρ2 h2
    | r => r) else .nx ρ h1) = .stuck
  · rw [hq]
    by_cases hw : whileS c b ρ h = .stuck
    · exact hw
    · exfalso
      obtain ⟨n, en⟩ := whileS_ex hw
      have hn : loopN c b n ρ h ≠ .stuck := by rw [en]; exact hw
      cases n with
      | zero => exact hn rfl
      | succ n =>
        rw [loopN_step] at hn
        cases e1 : c ρ h with
        | raise _ _ _ => rw [e1] at hq; cases hq
        | stuck => rw [e1] at hn; exact hn rfl
        | ok x h1 =>
          rw [e1, toS_ok] at hq hn
          cases x with
          | false => cases hq
          | true =>
            rw [if_pos rfl] at hq hn
            cases e2 : b ρ h1 with
            | nx ρ2 h2 =>
              rw [e2] at hq hn
              exact hn ((whileS_of rfl hn).symm.trans hq)
            | ct ρ2 h2 =>
              rw [e2] at hq hn
              exact hn ((whileS_of rfl hn).symm.trans hq)
            | bk ρ2 h2 => rw [e2] at hq; cases hq
            | ret d h2 => rw [e2] at hq; cases hq
            | rs c fs ρ2 h2 => rw [e2] at hq; cases hq
            | stuck => rw [e2] at hn; exact hn rfl
  · cases e1 : c ρ h with
    | raise c1 fs h1 => exact whileS_of (n := 1) (by rw [loopN_step, e1]; rfl) (fun z => nomatch z)
    | stuck => rw [e1] at hq; exact absurd rfl hq
    | ok x h1 =>
      rw [e1, toS_ok] at hq
      rw [toS_ok]
      cases x with
      | false => exact whileS_of (n := 1) (by rw [loopN_step, e1]; rfl) (fun z => nomatch z)
      | true =>
        rw [if_pos rfl] at hq ⊢
        cases e2 : b ρ h1 with
        | nx ρ2 h2 =>
          rw [e2] at hq
          obtain ⟨n, en⟩ := whileS_ex hq
          exact whileS_of (n := n + 1) (by rw [loopN_step, e1, toS_ok, if_pos rfl, e2]; exact en) hq
        | ct ρ2 h2 =>
          rw [e2] at hq
          obtain ⟨n, en⟩ := whileS_ex hq
          exact whileS_of (n := n + 1) (by rw [loopN_step, e1, toS_ok, if_pos rfl, e2]; exact en) hq
        | bk ρ2 h2 => exact whileS_of (n := 1) (by rw [loopN_step, e1, toS_ok, if_pos rfl, e2]) (fun z => nomatch z)
        | ret d h2 => exact whileS_of (n := 1) (by rw [loopN_step, e1, toS_ok, if_pos rfl, e2]) (fun z => nomatch z)
        | rs c fs ρ2 h2 => exact whileS_of (n := 1) (by rw [loopN_step, e1, toS_ok, if_pos rfl, e2]) (fun z => nomatch z)
        | stuck => rw [e2] at hq; exact absurd rfl hq
theorem PoS.ne {r : SR} (p : PoS X W η H r E) : r ≠ .stuck := fun e => by rw [e] at p; exact p
theorem ms_while (g : GX X W) {c : Expr} {body : List Stmt} {tc : EM Bool} {m : SS} (hc : MT X W c tc) (hb : MB X W body m) : MS X W (.While c body [] pos) (whileS tc m) := ⟨PS.wk (ps_while g.po hc.pt hb.ps) fun E σ H q => by
  obtain ⟨ρ0, η0, h0, rs0, rh0, p0⟩ := q
  obtain ⟨n0, en⟩ := whileS_ex p0.ne
  rw [← en] at p0
  refine ⟨fun k σ H => ∃ ρ η h, RS X.K η H σ ρ ∧ RH X.K X.mg η H h ∧ PoS X W η H (loopN tc m k ρ h) E, ⟨n0, ρ0, η0, h0, rs0, rh0, p0⟩, ?_⟩
  rintro k σ H ⟨ρ, η, h, rs, rh, p⟩
  cases k with
  | zero => exact p.elim
  | succ k =>
    rw [loopN_step] at p
    refine tM.mono (fun x H1 ⟨d, η1, h1, s1, r1, q1, p1⟩ => ?_) (PoS.seq (R1 := rB) rs rh p)
    have q1 : d = x := q1
    subst q1
    cases d with
    | false => exact p1 σ η1 H1 (.refl _ _) (rs.step s1) r1
    | true =>
      rw [if_pos rfl] at p1 ⊢
      refine ⟨fun σ' H' => ∃ ρ η h, RS X.K η H' σ' ρ ∧ RH X.K X.mg η H' h ∧ PoS X W η H' (loopN tc m k ρ h) E, fun σ' H' w => ⟨k, Nat.lt_succ_self k, w⟩, ρ, η1, h1, rs.step s1, r1, ?_⟩
      cases e2 : m ρ h1 with
      | nx ρ2 h2 => rw [e2] at p1; exact fun σ' η' H' s r1 r2 => ⟨ρ2, η', h2, r1, r2, p1.step s⟩
      | ct ρ2 h2 => rw [e2] at p1; exact fun σ' η' H' s r1 r2 => ⟨ρ2, η', h2, r1, r2, p1.step s⟩
      | bk ρ2 h2 => rw [e2] at p1; exact p1
      | ret d h2 => rw [e2] at p1; exact p1
      | rs c fs ρ2 h2 => rw [e2] at p1; exact p1
      | stuck => rw [e2] at p1; exact p1⟩

/-! ### for -/
/-- J walks the items -/
def Wk (X : Cx) : IT → It → Ad → Hp → Prop := fun it J η H => ∀ (η' : Ad) (H' : Hp) (h' : Hh), Stw η H η' H' → RH X.K X.mg η' H' h' → it.chk h' →
  J.stop it.items.length H' ∧ ∀ (i : Nat) (d : D), it.items[i]? = some d → J.go i H' ∧ ∀ x H'', J.yld i H' x H'' → Same H' H'' ∧ RD X.K η' H'' d x
theorem RH.same {K : PySem.W.Frag} {mg : Str → Option Value} {H' : Hp} (r : RH K mg η H h) (s : Same H H') : Step η H η H' ∧ RH K mg η H' h := by
  have st : Step η H η H' := ⟨⟨⟨[], by simp⟩, fun _ h => .inl h, fun a o _ q => s a o q, fun a xs q => by
    rcases q with q | ⟨o, q⟩
    · exact .inl (s a _ q)
    · exact .inr ⟨o, s a _ q⟩⟩, rfl, fun a ha => by
    obtain ⟨xs, q⟩ := r.hid a ha
    rw [q, s a _ q]⟩
  exact ⟨st, r.mono st fun b _ u q => s b u q⟩
structure MI (X : Cx) (W : WX) (tg e : Expr) (m : EM IT) : Prop where
  pi : PI X tg e (tM X W (Wk X) m)
theorem PI.wk {tg e : Expr} {t t' : TI} (h : PI X tg e t) (i : ∀ σ H R, t' σ H R → t σ H R) : PI X tg e t' := ⟨fun pins s σ H R I q => h.run pins s σ H R I (i σ H R q)⟩
theorem PI.or {tg e : Expr} {t t' : TI} (h : PI X tg e t) (h' : PI X tg e t') : PI X tg e (fun σ H R => t σ H R ∨ t' σ H R) := ⟨fun pins s σ H R I q => by
  rcases q with q | q
  · exact h.run pins s σ H R I q
  · exact h'.run pins s σ H R I q⟩
open Classical in
noncomputable def loopS (chk : Hh → Prop) (g : GM) (b : SS) : List D → SS
  | [] => fun ρ h => if chk h then .nx ρ h else .stuck
  | d :: l => fun ρ h => if chk h then (match g d ρ with
    | some ρ1 => (match b ρ1 h with
      | .nx ρ2 h2 => loopS chk g b l ρ2 h2
      | .ct ρ2 h2 => loopS chk g b l ρ2 h2
      | .bk ρ2 h2 => .nx ρ2 h2
      | r => r)
    | none => .stuck) else .stuck
noncomputable def forS (mi : EM IT) (g : GM) (b : SS) : SS := fun ρ h => toS (mi ρ h) ρ fun it h1 => loopS it.chk g b it.items ρ h1
theorem ms_for (gx : GX X W) {tg iter : Expr} {body : List Stmt} {mi : EM IT} {g : GM} {m : SS} (hi : MI X W tg iter mi) (hg : MG X tg g) (hb : MB X W body m) (hs : ∀ x, foldedSetIterable iter X.env x = pure x := by intro _; rfl) :
    MS X W (.For tg iter body [] pos) (forS mi g m) := ⟨PS.wk (ps_for gx.po gx.calm hi.pi hg.pg hb.ps hs) fun E σ H q => by
  obtain ⟨ρ, η, h, rs, rh, p⟩ := q
  refine tM.mono (fun J H1 ⟨it, η1, h1, s1, r1, q1, p1⟩ => ?_) (PoS.seq (R1 := Wk X) rs rh p)
  refine ⟨fun i k σ H => ∃ ρ η h, Step η1 H1 η H ∧ RS X.K η H σ ρ ∧ RH X.K X.mg η H h ∧ i + k = it.items.length ∧ PoS X W η H (loopS it.chk g m (it.items.drop i) ρ h) E, ⟨it.items.length, ρ, η1, h1, .refl _ _, rs.step s1, r1, Nat.zero_add _, p1⟩, ?_⟩
  rintro i k σ H ⟨ρ, η, h, st, rs, rh, ei, p⟩
  cases ed : it.items.drop i with
  | nil =>
    rw [ed] at p
    unfold loopS at p
    split at p
    · rename_i hc
      have hi : i = it.items.length := by
        have := congrArg List.length ed
        rw [List.length_drop, List.length_nil] at this
        omega
      subst hi
      exact .inl ⟨(q1 η H h st.toStw rh hc).1, p σ η H (.refl _ _) rs rh⟩
    · exact p.elim
  | cons d l =>
    rw [ed] at p
    unfold loopS at p
    split at p
    · rename_i hc
      have hl : i < it.items.length := by
        have := congrArg List.length ed
        rw [List.length_drop, List.length_cons] at this
        omega
      have hd : it.items[i]? = some d ∧ it.items.drop (i + 1) = l := by
        rw [List.drop_eq_getElem_cons hl] at ed
        injection ed with e1 e2
        exact ⟨by rw [List.getElem?_eq_getElem hl, e1], e2⟩
      obtain ⟨go, yl⟩ := (q1 η H h st.toStw rh hc).2 i d hd.1
      refine .inr ⟨go, fun σ' H' => ∃ ρ η h, Step η1 H1 η H' ∧ RS X.K η H' σ' ρ ∧ RH X.K X.mg η H' h ∧ PoS X W η H' (loopS it.chk g m l ρ h) E, fun σ' H' ⟨ρ, η, h, a1, a2, a3, a4⟩ => ⟨k - 1, by omega, ρ, η, h, a1, a2, a3, by omega, by rw [hd.2]; exact a4⟩, fun x H' y => ?_⟩
      obtain ⟨sm, rd⟩ := yl x H' y
      obtain ⟨s2, r2⟩ := rh.same sm
      refine ⟨ρ, η, h, d, rs.step s2, r2, rd, ?_⟩
      cases eg : g d ρ with
      | none => rw [eg] at p; exact p
      | some ρ1 =>
        rw [eg] at p
        intro σ1 rs1
        refine ⟨ρ1, η, h, rs1, r2, ?_⟩
        simp only at p
        cases em : m ρ1 h with
        | nx ρ2 h2 => rw [em] at p; exact fun σ' η' H' s a b => ⟨ρ2, η', h2, (st.trans s2).trans s, a, b, (p.step s2).step s⟩
        | ct ρ2 h2 => rw [em] at p; exact fun σ' η' H' s a b => ⟨ρ2, η', h2, (st.trans s2).trans s, a, b, (p.step s2).step s⟩
        | bk ρ2 h2 =>
          rw [em] at p
          have p : PoS X W η H (.nx ρ2 h2) E := p
          exact fun σ' η' H'' s a b => p σ' η' H'' (s2.trans s) a b
        | ret d h2 => rw [em] at p; exact PoS.step (r := .ret d h2) (E := E) s2 p
        | rs c fs ρ2 h2 => rw [em] at p; exact PoS.step (r := .rs c fs ρ2 h2) (E := E) s2 p
        | stuck => rw [em] at p; exact p
    · exact p.elim⟩

/-! ### what may be walked -/
/-- a list, a tuple, a text -/
def itOf (d : D) (h : Hh) : Res IT := match d with
  | .lst l => .ok ⟨l, none⟩ h
  | .tup l => .ok ⟨l, none⟩ h
  | .str x => .ok ⟨x.cps.toList.map fun c => .str ⟨#[c]⟩, none⟩ h
  | .scr l => .ok ⟨l.map .int, none⟩ h
  | .ref n => match h[n]? with
    | some (.lst l) => .ok ⟨l, some n⟩ h
    | _ => .stuck
  | _ => .stuck
def seqI (m : EM D) : EM IT := fun ρ h => (m ρ h).bind itOf
theorem sqL_of_rd {K : PySem.W.Frag} {l : List Int} {a : Addr} {η' : Ad} {H' : Hp} (s : Stw η H η' H') (h : (¬ η.In a ∧ Rd H a (.lst (l.map V.int))) ∨ ∀ H, SqL K H a (l.map V.int)) : (¬ η'.In a ∧ Rd H' a (.lst (l.map V.int))) ∨ ∀ H, SqL K H a (l.map V.int) := by
  rcases h with h | h
  · have := s.rd1 h.1 h.2
    exact .inl ⟨this.2, this.1⟩
  · exact .inr h
theorem wkL {X : Cx} {a : Addr} {it : IT} (q : ∀ η' H' h', Stw η H η' H' → RH X.K X.mg η' H' h' → it.chk h' → ∃ xs, SqL X.K H' a xs ∧ RDs X.K η' H' it.items xs) : Wk X it (Itl X.K a) η H := by
  intro η' H' h' s r c
  obtain ⟨xs, sq, t⟩ := q η' H' h' s r c
  refine ⟨⟨xs, sq, by rw [t.length]; exact Nat.le_refl _⟩, fun i d ed => ?_⟩
  obtain ⟨x, ex, rd⟩ := t.get ed
  refine ⟨⟨xs, x, sq, ex⟩, fun y H'' ⟨e1, e2⟩ => ?_⟩
  subst e1
  have := e2 xs sq
  rw [ex] at this
  cases this
  exact ⟨fun _ _ z => z, rd⟩
theorem wkT {X : Cx} {a : Addr} {it : IT} {xs : List V} (sq : SqT X.K H a xs) (t : RDs X.K η H it.items xs) : Wk X it (Itt X.K a) η H := by
  intro η' H' h' s r c
  have sq' := s.sqT sq
  have t' := t.stw s
  refine ⟨⟨xs, sq', by rw [t'.length]; exact Nat.le_refl _⟩, fun i d ed => ?_⟩
  obtain ⟨x, ex, rd⟩ := t'.get ed
  refine ⟨⟨xs, x, sq', ex⟩, fun y H'' ⟨e1, e2⟩ => ?_⟩
  subst e1
  have := e2 xs sq'
  rw [ex] at this
  cases this
  exact ⟨fun _ _ z => z, rd⟩
theorem wkS {X : Cx} {x : Str} : Wk X ⟨x.cps.toList.map fun c => .str ⟨#[c]⟩, none⟩ (Its x) η H := by
  intro η' H' h' s r c
  refine ⟨by show x.cps.size ≤ (x.cps.toList.map _).length; simp, fun i d ed => ?_⟩
  have ed : (x.cps.toList.map fun c => D.str ⟨#[c]⟩)[i]? = some d := ed
  rw [List.getElem?_map] at ed
  cases q : x.cps.toList[i]? with
  | none => rw [q] at ed; cases ed
  | some n =>
    rw [q] at ed
    cases ed
    have hl : i < x.cps.size := by
      have := (List.getElem?_eq_some_iff.mp q).1
      simpa using this
    refine ⟨hl, fun y H'' ⟨e1, n', e2, e3⟩ => ?_⟩
    subst e1
    have : x.cps[i]? = some n := by
      rw [← Array.getElem?_toList]
      exact q
    rw [this] at e2
    cases e2
    exact ⟨fun _ _ z => z, e3⟩
theorem mi_seq {tg : Expr} {m : EM D} (he : ME X W e m) : MI X W tg e (seqI m) := ⟨PI.wk (PI.or (pi_list he.pe) (PI.or (pi_tup he.pe) (pi_str he.pe))) fun σ H R q => by
  obtain ⟨ρ, η, h, rs, rh, p⟩ := q
  have p : Po X W (Wk X) σ η H ((m ρ h).bind itOf) R := p
  -- the value tells the way
  cases em : m ρ h with
  | stuck => rw [em] at p; exact p.elim
  | raise c fs h1 =>
    rw [em] at p
    exact .inl ⟨ρ, η, h, rs, rh, by rw [em]; exact p⟩
  | ok d h1 =>
    rw [em] at p
    have p : Po X W (Wk X) σ η H (itOf d h1) R := p
    cases d with
    | lst l =>
      refine .inl ⟨ρ, η, h, rs, rh, ?_⟩
      rw [em]
      intro v η1 H1 s1 r1 rd
      obtain ⟨a, xs, rfl, q, n, t⟩ := rd
      exact ⟨a, rfl, ⟨xs, .of q⟩, p _ η1 H1 s1 r1 (wkL fun η' H' h' s r c => ⟨xs, .of (s.keep _ _ n q), t.stw s⟩)⟩
    | scr l =>
      refine .inl ⟨ρ, η, h, rs, rh, ?_⟩
      rw [em]
      intro v η1 H1 s1 r1 rd
      obtain ⟨a, rfl, q⟩ := rd
      exact ⟨a, rfl, ⟨_, sqL_scr q⟩, p _ η1 H1 s1 r1 (wkL fun η' H' h' s r c => ⟨_, sqL_scr (sqL_of_rd s q), RDs.of_ints l⟩)⟩
    | ref n =>
      unfold itOf at p
      simp only at p
      split at p
      · rename_i l el
        refine .inl ⟨ρ, η, h, rs, rh, ?_⟩
        rw [em]
        intro v η1 H1 s1 r1 rd
        obtain ⟨a, ea, rfl⟩ := rd
        have look : ∀ (η' : Ad) (H' : Hp) (h' : Hh), η'.c[n]? = some a → RH X.K X.mg η' H' h' → h'[n]? = some (.lst l) → ∃ xs, SqL X.K H' a xs ∧ RDs X.K η' H' l xs := fun η' H' h' e r c => by
          obtain ⟨xs, q, t⟩ := r.ob n a _ e c
          exact ⟨xs, .of q, t⟩
        obtain ⟨xs, q, t⟩ := look η1 H1 h1 ea r1 el
        exact ⟨a, rfl, ⟨xs, q⟩, p _ η1 H1 s1 r1 (wkL fun η' H' h' s r c => look η' H' h' (s.at_ ea) r c)⟩
      · exact p.elim
    | tup l =>
      refine .inr (.inl ⟨ρ, η, h, rs, rh, ?_⟩)
      rw [em]
      intro v η1 H1 s1 r1 rd
      obtain ⟨a, xs, rfl, q, t⟩ := rd
      exact ⟨a, rfl, ⟨xs, q⟩, p _ η1 H1 s1 r1 (wkT q t)⟩
    | str x =>
      refine .inr (.inr ⟨ρ, η, h, rs, rh, ?_⟩)
      rw [em]
      intro v η1 H1 s1 r1 rd
      exact ⟨x, rd, p _ η1 H1 s1 r1 wkS⟩
    | _ => exact p.elim⟩
/-- lo, lo + 1, .. n of them -/
def rngL (lo : Int) : Nat → List D
  | 0 => []
  | n + 1 => .int lo :: rngL (lo + 1) n
theorem rngL_length (lo : Int) (n : Nat) : (rngL lo n).length = n := by
  induction n generalizing lo with
  | zero => rfl
  | succ n ih => rw [rngL, List.length_cons, ih]
theorem rngL_get : ∀ (lo : Int) (n i : Nat), i < n → (rngL lo n)[i]? = some (.int (lo + i))
  | lo, n + 1, 0, _ => by simp [rngL]
  | lo, n + 1, i + 1, h => by
    rw [rngL, List.getElem?_cons_succ, rngL_get (lo + 1) n i (by omega)]
    congr 2
    omega
theorem wkR {X : Cx} {lo : Int} {n : Nat} : Wk X ⟨rngL lo n, none⟩ (Itr lo n) η H := by
  intro η' H' h' s r c
  refine ⟨by show n ≤ (rngL lo n).length; rw [rngL_length]; exact Nat.le_refl _, fun i d ed => ?_⟩
  have ed : (rngL lo n)[i]? = some d := ed
  have hl : i < n := by
    have := (List.getElem?_eq_some_iff.mp ed).1
    rwa [rngL_length] at this
  rw [rngL_get lo n i hl] at ed
  cases ed
  exact ⟨hl, fun y H'' ⟨e1, e2⟩ => by subst e1; exact ⟨fun _ _ z => z, e2⟩⟩
def i62 (i : Int) : Prop := -4611686018427387904 ≤ i ∧ i < 4611686018427387904
instance (i : Int) : Decidable (i62 i) := inferInstanceAs (Decidable (_ ∧ _))
def rngD (l : List D) (h : Hh) : Res IT := match l with
  | [.int j] => if i62 j then .ok ⟨rngL 0 j.toNat, none⟩ h else .stuck
  | [.int i, .int j] => if i62 i ∧ i62 j then .ok ⟨rngL i (j - i).toNat, none⟩ h else .stuck
  | _ => .stuck
def rngI (ms : EM (List D)) : EM IT := fun ρ h => (ms ρ h).bind rngD
theorem tMI.args {es : List Expr} {ms : EM (List D)} (hm : MA X W es ms) {k : List D → Hh → Res IT} {R : It → Hp → Prop} (q : tM X W (Wk X) (fun ρ h => (ms ρ h).bind k) σ H R) :
    tM X W (rA X) ms σ H fun xs H1 => ∃ l η1 h1, RH X.K X.mg η1 H1 h1 ∧ RDs X.K η1 H1 l xs ∧ l.length = es.length ∧ Po X W (Wk X) σ η1 H1 (k l h1) R := by
  obtain ⟨ρ, η, h, rs, rh, p⟩ := q
  have p : Po X W (Wk X) σ η H ((ms ρ h).bind k) R := p
  refine ⟨ρ, η, h, rs, rh, ?_⟩
  cases e : ms ρ h with
  | ok a h1 =>
    rw [e] at p
    exact fun b η1 H1 s r q => ⟨a, η1, h1, r, q, hm.len _ _ _ _ e, Po.step s p⟩
  | raise c fs h1 =>
    rw [e] at p
    exact p
  | stuck =>
    rw [e] at p
    exact p
theorem mi_range1 {tg : Expr} {p : Pos} {ms : EM (List D)} (hg : Gl X "range") (hm : X.mg "range" = none) (ha : MA X W [a] ms) (hs : starEach [a] X.env = [(false, eval a X.env)] := by rfl) : MI X W tg (.Call (.Name "range" p) [a] [] pos) (rngI ms) :=
  ⟨PI.wk (pi_range1 hg hm ha.pa hs) fun σ H R q => by
  refine tM.mono (fun xs H1 ⟨l, η1, h1, r1, q1, hl, p1⟩ => ?_) (tMI.args ha q)
  unfold rngD at p1
  split at p1
  · rename_i j
    obtain ⟨v, rfl, r⟩ := rds1 q1
    cases r
    split at p1
    · rename_i hz
      unfold i62 at hz
      exact ⟨j, rfl, by omega, by omega, p1 _ η1 H1 (.refl _ _) r1 wkR⟩
    · exact p1.elim
  · cases hl
  · exact p1.elim⟩
theorem mi_range2 {tg : Expr} {p : Pos} {ms : EM (List D)} (hg : Gl X "range") (hm : X.mg "range" = none) (ha : MA X W [a, b] ms) (hs : starEach [a, b] X.env = [(false, eval a X.env), (false, eval b X.env)] := by rfl) (hs2 : starEach [b] X.env = [(false, eval b X.env)] := by rfl) : MI X W tg (.Call (.Name "range" p) [a, b] [] pos) (rngI ms) :=
  ⟨PI.wk (pi_range2 hg hm ha.pa hs hs2) fun σ H R q => by
  refine tM.mono (fun xs H1 ⟨l, η1, h1, r1, q1, hl, p1⟩ => ?_) (tMI.args ha q)
  unfold rngD at p1
  split at p1
  · cases hl
  · rename_i i j
    obtain ⟨v, w', rfl, r, r2⟩ := rds2 q1
    cases r
    cases r2
    split at p1
    · rename_i hz
      unfold i62 at hz
      exact ⟨i, j, rfl, ⟨by omega, by omega, by omega, by omega⟩, p1 _ η1 H1 (.refl _ _) r1 wkR⟩
    · exact p1.elim
  · exact p1.elim⟩

/-! ### list comprehensions -/
def nrR {α : Type} (r : Res α) : Res α := match r with
  | .raise _ _ _ => .stuck
  | r => r
@[simp] theorem nrR_ok {α : Type} (a : α) (h : Hh) : nrR (.ok a h) = .ok a h := (rfl)
@[simp] theorem nrR_stuck {α : Type} : nrR (.stuck : Res α) = .stuck := (rfl)
open Classical in
noncomputable def lcL (chk : Hh → Prop) (i : Nat) (tt : EM Bool) (te : EM D) (ρ : Env) : List D → Hh → Res (List D)
  | [], h => if chk h then .ok [] h else .stuck
  | d :: l, h => if chk h then (nrR (tt (ρ.set i (some d)) h)).bind fun b h1 => if b = true then (nrR (te (ρ.set i (some d)) h1)).bind fun y h2 => (lcL chk i tt te ρ l h2).bind fun r h3 => .ok (y :: r) h3 else lcL chk i tt te ρ l h1 else .stuck
noncomputable def lcE (mi : EM IT) (i : Nat) (tt : EM Bool) (te : EM D) : EM D := fun ρ h => (mi ρ h).bind fun it h1 => if it.items.length ≤ sizeLine then (lcL it.chk i tt te ρ it.items h1).bind fun l h2 => .ok (.lst l) h2 else .stuck
def tYesE : EM Bool := fun _ h => .ok true h
structure MTs (X : Cx) (W : WX) (ifs : List Expr) (m : EM Bool) : Prop where
  pt : PTs X ifs (tM X W rB m)
abbrev W0 : WX := fun _ _ _ _ => False
theorem mts_nil : MTs X W [] tYesE := ⟨⟨fun pins s σ H Q I q => pts_nil.run pins s σ H Q I (by
  obtain ⟨ρ, η, h, rs, rh, p⟩ := q
  exact Po.ok (R1 := rB) (b := true) p rh rfl)⟩⟩
theorem mts_one {c : Expr} {m : EM Bool} (h : MT X W c m) : MTs X W [c] m := ⟨pts_one h.pt⟩
/-- a part of a block: what it raises is not carried -/
theorem Po.part {X' : Cx} {α β γ δ : Type} {R1 : α → β → Ad → Hp → Prop} {Rz : γ → δ → Ad → Hp → Prop} {m : EM α} {ρ : Env} {k : α → Hh → Res γ} {Q : δ → Hp → Prop} {σ' : L2.St} {η1 : Ad} {H1 : Hp} (eK : X'.K = X.K) (eM : X'.mg = X.mg) (rs : RS X.K η H σ' ρ) (rh : RH X.K X.mg η H h)
    (p : Po X W Rz σ η1 H1 ((nrR (m ρ h)).bind k) Q) : tM X' W0 R1 m σ' H fun b H2 => ∃ a η2 h2, Step η H η2 H2 ∧ RH X.K X.mg η2 H2 h2 ∧ R1 a b η2 H2 ∧ Po X W Rz σ η1 H1 (k a h2) Q := by
  refine ⟨ρ, η, h, by rw [eK]; exact rs, by rw [eK, eM]; exact rh, ?_⟩
  cases em : m ρ h with
  | ok a h2 =>
    rw [em] at p
    intro b η2 H2 s r q
    rw [eK, eM] at r
    exact ⟨a, η2, h2, s, r, q, p⟩
  | raise c fs h2 => rw [em] at p; exact p.elim
  | stuck => rw [em] at p; exact p.elim
theorem lc_of {mi : EM IT} {i : Nat} {tt : EM Bool} {te : EM D} {Q : VK} {fin : List D → Hh → Res D}
    (hfin : ∀ (σ : L2.St) (η θ : Ad) (H1 H : Hp) (h : Hh) (p : Addr) (l : List D) (xs : List V) (Q : VK), Step η H1 θ H → H1 p = none → ¬ θ.In p → RH X.K X.mg (θ.hide p) H h → H p = some (.lst xs) → RDs X.K (θ.hide p) H l xs → Po X W (rD X) σ η H1 (fin l h) Q → Q (.ref p) H)
    (q : tM X W (rD X) (fun ρ h => (mi ρ h).bind fun it h1 => if it.items.length ≤ sizeLine then (lcL it.chk i tt te ρ it.items h1).bind fin else .stuck) σ H Q)
    (B : Shared → Hp → Addr → List (Str × Addr) → List Addr → Cx) (eK : ∀ s H C cl fp, (B s H C cl fp).K = X.K) (eM : ∀ s H C cl fp, (B s H C cl fp).mg = X.mg) (s0 : Shared) (H0 : Hp) (C0 : Addr) (cl0 : List (Str × Addr)) (fp0 : List Addr) :
    tLc (tM X W (Wk X) mi) (gName i) (tM (B s0 H0 C0 cl0 fp0) W0 rB tt) (tM (B s0 H0 C0 cl0 fp0) W0 (rD X) te) [i] σ H Q := by
  obtain ⟨ρ, η, h, rs, rh, p⟩ := q
  have p : Po X W (rD X) σ η H ((mi ρ h).bind fun it h1 => if it.items.length ≤ sizeLine then (lcL it.chk i tt te ρ it.items h1).bind fin else .stuck) Q := p
  refine tM.mono (fun J H1 ⟨it, η1, h1, s1, r1, q1, p1⟩ => ?_) (Po.seq (R1 := Wk X) rs rh p)
  split at p1
  case isFalse => exact p1.elim
  rename_i hsz
  intro pD nD
  -- the slots of the block
  have rsw : RS X.K η1 H1 (σ.set i none) (ρ.set i none) := by
    have rs1 := rs.step s1
    refine ⟨by rw [List.length_set, List.length_set, rs1.len], fun j d e => ?_⟩
    by_cases hj : j = i
    · subst hj
      have hl : j < ρ.length := by
        have := (List.getElem?_eq_some_iff.mp e).1
        rwa [List.length_set] at this
      rw [List.getElem?_set_self hl] at e
      cases e
    · rw [List.getElem?_set_ne (Ne.symm hj)] at e ⊢
      exact rs1.at_ j d e
  refine ⟨fun j k H => ∃ θ h acc xs, Step η1 H1 θ H ∧ RH X.K X.mg (θ.hide pD) H h ∧ H pD = some (.lst xs) ∧ RDs X.K (θ.hide pD) H acc xs ∧ acc.length ≤ j ∧ j + k = it.items.length ∧
    Po X W (rD X) σ η1 H1 ((lcL it.chk i tt te ρ (it.items.drop j) h).bind fun l h2 => fin (acc ++ l) h2) Q,
    ⟨it.items.length, η1, h1, [], [], r1.new1S nD, r1.hidden nD, upd_same, rfl, Nat.le_refl _, Nat.zero_add _, p1⟩, ?_⟩
  rintro j k H ⟨θ, h, acc, xs, st, rh, eD, ra, hj, ek, p⟩
  have nin : ¬ θ.In pD := fun z => by
    rcases st.new pD z with z | z
    · exact r1.nin nD z
    · rcases z' : H1 pD with _ | o
      · rcases ‹θ.In pD› with w | w
        · exact rh.ap pD w List.mem_cons_self
        · rw [st.hid] at w
          obtain ⟨ys, y⟩ := r1.hid pD w
          rw [nD] at y
          cases y
      · rw [z'] at nD
        cases nD
  -- from the state within to the base of the walk
  have stH : Step η1 H1 θ H := st
  cases ed : it.items.drop j with
  | nil =>
    rw [ed] at p
    unfold lcL at p
    split at p
    · rename_i hc
      have hi : j = it.items.length := by
        have := congrArg List.length ed
        rw [List.length_drop, List.length_nil] at this
        omega
      subst hi
      have p : Po X W (rD X) σ η1 H1 (fin (acc ++ []) h) Q := p
      rw [List.append_nil] at p
      refine .inl ⟨(q1 θ H h st.toStw rh.shown hc).1, ?_⟩
      exact hfin σ η1 θ H1 H h pD acc xs Q st nD nin rh eD ra p
    · exact p.elim
  | cons d l =>
    rw [ed] at p
    unfold lcL at p
    split at p
    · rename_i hc
      have hl : j < it.items.length := by
        have := congrArg List.length ed
        rw [List.length_drop, List.length_cons] at this
        omega
      have hd : it.items[j]? = some d ∧ it.items.drop (j + 1) = l := by
        rw [List.drop_eq_getElem_cons hl] at ed
        injection ed with e1 e2
        exact ⟨by rw [List.getElem?_eq_getElem hl, e1], e2⟩
      have stw : Stw η1 H1 (θ.hide pD) H := ⟨st.pre, fun b hb => by
        rcases In_hide.mp hb with z | z
        · exact st.new b z
        · rw [z]
          exact .inr nD, st.keep, st.tup⟩
      obtain ⟨go, yl⟩ := (q1 (θ.hide pD) H h stw rh hc).2 j d hd.1
      refine .inr ⟨go, fun H' => ∃ θ h acc xs, Step η1 H1 θ H' ∧ RH X.K X.mg (θ.hide pD) H' h ∧ H' pD = some (.lst xs) ∧ RDs X.K (θ.hide pD) H' acc xs ∧ acc.length ≤ j + 1 ∧
        Po X W (rD X) σ η1 H1 ((lcL it.chk i tt te ρ l h).bind fun l h2 => fin (acc ++ l) h2) Q, fun H' ⟨θ, h, acc, xs, a1, a2, a3, a4, a5, a6⟩ => ⟨k - 1, by omega, θ, h, acc, xs, a1, a2, a3, a4, a5, by omega, by rw [hd.2]; exact a6⟩, fun x H' y => ?_⟩
      obtain ⟨sm, rd⟩ := yl x H' y
      obtain ⟨s2, r2⟩ := rh.same sm
      have eD2 := sm _ _ eD
      obtain ⟨θ2, eθ2, st2⟩ := st.under nD s2
      have eθ : θ2 = θ := by
        have e1 := congrArg Ad.c eθ2
        have e2 := congrArg Ad.d eθ2
        cases θ2
        cases θ
        simp only [Ad.hide, List.cons.injEq, true_and] at e1 e2
        rw [e1, e2]
      subst eθ
      have e0 : wipe σ [i] = σ.set i none := rfl
      have rs2 : RS X.K (θ2.hide pD) H' ((wipe σ [i]).set i (some x)) (ρ.set i (some d)) := by
        have z := (rsw.stw stw).stw s2.toStw
        have z2 := z.set i rd
        rw [List.set_set, List.set_set] at z2
        show RS X.K (θ2.hide pD) H' ((σ.set i none).set i (some x)) _
        rw [List.set_set]
        exact z2
      refine ⟨?_, ?_⟩
      · show ((wipe σ [i]).set i (some x)).set i none = σ.set i none
        rw [e0, List.set_set, List.set_set]
      · rw [bind_assoc] at p
        refine tM.mono (fun b H3 ⟨c, η3, h3, s3, r3, q3, p3⟩ => ?_) (Po.part (R1 := rB) (eK s0 H0 C0 cl0 fp0) (eM s0 H0 C0 cl0 fp0) rs2 r2 p)
        obtain ⟨θ3, rfl, st3⟩ := st2.under nD s3
        have q3 : c = b := q3
        subst q3
        have eD3 : H3 pD = some (.lst xs) := (s3.kh pD List.mem_cons_self).trans eD2
        have ra3 := (ra.step s2).step s3
        cases c with
        | false =>
          exact ⟨θ3, h3, acc, xs, st3, r3, eD3, ra3, by omega, p3⟩
        | true =>
          have p3 : Po X W (rD X) σ η1 H1 (((nrR (te (ρ.set i (some d)) h3)).bind fun y h2 => (lcL it.chk i tt te ρ l h2).bind fun r h3 => .ok (y :: r) h3).bind fun l h2 => fin (acc ++ l) h2) Q := p3
          rw [bind_assoc] at p3
          refine tM.mono (fun v H4 ⟨yd, η4, h4, s4, r4, q4, p4⟩ => ?_) (Po.part (R1 := rD X) (eK s0 H0 C0 cl0 fp0) (eM s0 H0 C0 cl0 fp0) (rs2.step s3) r3 p3)
          obtain ⟨θ4, rfl, st4⟩ := st3.under nD s4
          have eD4 : H4 pD = some (.lst xs) := (s4.kh pD List.mem_cons_self).trans eD3
          have ra4 := ra3.step s4
          have hl2 := ra4.length
          have q4 : RD X.K (θ4.hide pD) H4 yd v := q4
          refine ⟨xs, eD4, by omega, θ4, h4, acc ++ [yd], xs ++ [v], st4.grown nD r1.hid eD4, r4.grown eD4, upd_same, RDs.stw (.grown eD4) _ _ (ra4.app ⟨v, [], rfl, q4, rfl⟩), by rw [List.length_append]; simp; omega, ?_⟩
          rw [bind_assoc] at p4
          have e4 : ∀ (r : Res (List D)), (r.bind fun r h3 => (Res.ok (yd :: r) h3).bind fun l h2 => fin (acc ++ l) h2) = r.bind fun l h2 => fin (acc ++ [yd] ++ l) h2 := fun r => by
            cases r with
            | ok a b => simp
            | _ => rfl
          rw [e4] at p4
          exact p4
    · exact p.elim
theorem fin_lst : ∀ (σ : L2.St) (η θ : Ad) (H1 H : Hp) (h : Hh) (p : Addr) (l : List D) (xs : List V) (Q : VK), Step η H1 θ H → H1 p = none → ¬ θ.In p → RH X.K X.mg (θ.hide p) H h → H p = some (.lst xs) → RDs X.K (θ.hide p) H l xs → Po X W (rD X) σ η H1 ((fun l h => .ok (.lst l) h) l h) Q → Q (.ref p) H :=
  fun σ η θ H1 H h p l xs Q s n i r e t q => q (.ref p) θ H s r.shown ⟨p, xs, rfl, e, i, RDs.sub (η := θ.hide p) (η' := θ) rfl Stw.shown _ _ t⟩
theorem fin_new : ∀ (σ : L2.St) (η θ : Ad) (H1 H : Hp) (h : Hh) (p : Addr) (l : List D) (xs : List V) (Q : VK), Step η H1 θ H → H1 p = none → ¬ θ.In p → RH X.K X.mg (θ.hide p) H h → H p = some (.lst xs) → RDs X.K (θ.hide p) H l xs → Po X W (rD X) σ η H1 (newL l h) Q → Q (.ref p) H :=
  fun σ η θ H1 H h p l xs Q s n i r e t q => by
  have sw : Stw (θ.hide p) H (θ.push p) H := ⟨⟨[p], rfl⟩, fun b hb => by
    rcases hb with z | z
    · rcases List.mem_append.mp z with z | z
      · exact .inl (.inl z)
      · exact .inl (In_hide.mpr (.inr (List.mem_singleton.mp z)))
    · exact .inl (In_hide.mpr (.inl (.inr z))), fun _ _ _ z => z, fun _ _ z => z⟩
  have st : Step η H1 (θ.push p) H := ⟨⟨by
    obtain ⟨z, ez⟩ := s.pre
    exact ⟨z ++ [p], by show θ.c ++ [p] = _; rw [ez, List.append_assoc]⟩, fun b hb => by
    rcases hb with z | z
    · rcases List.mem_append.mp z with z | z
      · exact s.new b (.inl z)
      · rw [List.mem_singleton.mp z]
        exact .inr n
    · exact s.new b (.inr z), s.keep, s.tup⟩, s.hid, s.kh⟩
  refine q (.ref p) (θ.push p) H st ⟨?_, ?_, ?_, ?_, ?_⟩ ⟨p, ?_, rfl⟩
  · show (θ.c ++ [p]).length = _
    rw [List.length_append, List.length_append, r.shown.len]
    rfl
  · show (θ.c ++ [p]).Nodup
    rw [List.nodup_append]
    refine ⟨r.nd, by simp, fun x hx y hy => ?_⟩
    rw [List.mem_singleton.mp hy]
    exact fun z => i (.inl (z ▸ hx))
  · intro b hb
    rcases List.mem_append.mp hb with z | z
    · exact r.shown.ap b z
    · rw [List.mem_singleton.mp z]
      exact fun w => i (.inr w)
  · exact fun b hb => r.shown.hid b hb
  · intro j b o e1 e2
    have e1 : (θ.c ++ [p])[j]? = some b := e1
    have hlen := r.shown.len
    by_cases q : j < θ.c.length
    · rw [List.getElem?_append_left q] at e1
      rw [List.getElem?_append_left (by rw [← hlen]; exact q)] at e2
      exact (r.ob j b o e1 e2).stw sw fun _ z => z
    · rw [List.getElem?_append_right (by omega)] at e1
      rw [List.getElem?_append_right (by omega)] at e2
      rw [hlen] at e1
      have h0 : j - h.length = 0 := by
        have := (List.getElem?_eq_some_iff.mp e1).1
        simpa using this
      rw [h0] at e1 e2
      cases e1
      cases e2
      exact ⟨xs, e, RDs.stw sw _ _ t⟩
  · show (θ.c ++ [p])[h.length]? = _
    rw [← r.shown.len]
    simp
/-- the list is to change later -/
noncomputable def lcM (mi : EM IT) (i : Nat) (tt : EM Bool) (te : EM D) : EM D := fun ρ h => (mi ρ h).bind fun it h1 => if it.items.length ≤ sizeLine then (lcL it.chk i tt te ρ it.items h1).bind newL else .stuck
section
variable {elt iter : Expr} {ifs : List Expr} {scope : Scope} {x : Str} {px : Pos} {mi : EM IT} {tt : EM Bool} {te : EM D}
theorem me_lc (gx : GX X W) (i : Nat) (hi : MI X W (.Name x px) iter mi) (ok : BlkOk X.N X.env.scope scope [(x, i)])
    (hg : ∀ (s : Shared) (H : Hp) (C : Addr) (cl : List (Str × Addr)) (fp : List Addr), PG (X.blk s H scope (compEnvC scope cl C X.env) fp) (.Name x px) (gName i))
    (ht : ∀ (s : Shared) (H : Hp) (C : Addr) (cl : List (Str × Addr)) (fp : List Addr), MTs (X.blk s H scope (compEnvC scope cl C X.env) fp) W0 ifs tt)
    (he : ∀ (s : Shared) (H : Hp) (C : Addr) (cl : List (Str × Addr)) (fp : List Addr), ME (X.blk s H scope (compEnvC scope cl C X.env) fp) W0 elt te) (hs : ∀ x, foldedSetIterable iter X.env x = pure x := by intro _; rfl) :
    ME X W (.ListComp elt [⟨.Name x px, iter, ifs, 0⟩] scope pos) (lcE mi i tt te) :=
  ⟨PE.wk (pe_lc (own := [(x, i)]) (tt := tM X W0 rB tt) (te := tM X W0 (rD X) te) gx.calm gx.nd hi.pi ok hg (fun s H C cl fp => (ht s H C cl fp).pt) (fun s H C cl fp => (he s H C cl fp).pe) hs) fun σ H Q q =>
    lc_of fin_lst q (fun _ _ _ _ _ => X) (fun _ _ _ _ _ => rfl) (fun _ _ _ _ _ => rfl) {} H 0 [] []⟩
theorem me_lcM (gx : GX X W) (i : Nat) (hi : MI X W (.Name x px) iter mi) (ok : BlkOk X.N X.env.scope scope [(x, i)])
    (hg : ∀ (s : Shared) (H : Hp) (C : Addr) (cl : List (Str × Addr)) (fp : List Addr), PG (X.blk s H scope (compEnvC scope cl C X.env) fp) (.Name x px) (gName i))
    (ht : ∀ (s : Shared) (H : Hp) (C : Addr) (cl : List (Str × Addr)) (fp : List Addr), MTs (X.blk s H scope (compEnvC scope cl C X.env) fp) W0 ifs tt)
    (he : ∀ (s : Shared) (H : Hp) (C : Addr) (cl : List (Str × Addr)) (fp : List Addr), ME (X.blk s H scope (compEnvC scope cl C X.env) fp) W0 elt te) (hs : ∀ x, foldedSetIterable iter X.env x = pure x := by intro _; rfl) :
    ME X W (.ListComp elt [⟨.Name x px, iter, ifs, 0⟩] scope pos) (lcM mi i tt te) :=
  ⟨PE.wk (pe_lc (own := [(x, i)]) (tt := tM X W0 rB tt) (te := tM X W0 (rD X) te) gx.calm gx.nd hi.pi ok hg (fun s H C cl fp => (ht s H C cl fp).pt) (fun s H C cl fp => (he s H C cl fp).pe) hs) fun σ H Q q =>
    lc_of fin_new q (fun _ _ _ _ _ => X) (fun _ _ _ _ _ => rfl) (fun _ _ _ _ _ => rfl) {} H 0 [] []⟩
theorem setLc_of {j : Nat} {m : EM D} {t : TE} {E : Ends} (hq : ∀ Q, tM X W (rD X) m σ H Q → t σ H Q) (q : tS X W (setS j m) E σ H) : tAsg t (gName j) E σ H := by
  obtain ⟨ρ, η, h, rs, rh, p⟩ := q
  refine hq _ ?_
  refine tM.mono (fun x H1 ⟨d, η1, h1, s1, r1, q1, p1⟩ => ?_) (PoS.seq (R1 := rD X) rs rh p)
  exact p1 _ η1 H1 (.refl _ _) ((rs.step s1).set j q1) r1
/-- y = [..] -/
theorem ms_setLc (gx : GX X W) (j i : Nat) {y : Str} {py spos : Pos} (hi : MI X W (.Name x px) iter mi) (ok : BlkOk X.N X.env.scope scope [(x, i)])
    (hg : ∀ (s : Shared) (H : Hp) (C : Addr) (cl : List (Str × Addr)) (fp : List Addr), PG (X.blk s H scope (compEnvC scope cl C X.env) fp) (.Name x px) (gName i))
    (ht : ∀ (s : Shared) (H : Hp) (C : Addr) (cl : List (Str × Addr)) (fp : List Addr), MTs (X.blk s H scope (compEnvC scope cl C X.env) fp) W0 ifs tt)
    (he : ∀ (s : Shared) (H : Hp) (C : Addr) (cl : List (Str × Addr)) (fp : List Addr), ME (X.blk s H scope (compEnvC scope cl C X.env) fp) W0 elt te)
    (hsw : swapsWith (.ListComp elt [⟨.Name x px, iter, ifs, 0⟩] scope pos) (some (.Name y py)) spos.line X.env = pure true) (hy : X.N[j]? = some y := by rfl) (hyl : X.env.scope.names.lookup y = some .local := by rfl)
    (hs : ∀ x, foldedSetIterable iter X.env x = pure x := by intro _; rfl) :
    MS X W (.Assign [.Name y py] (.ListComp elt [⟨.Name x px, iter, ifs, 0⟩] scope pos) spos) (setS j (lcE mi i tt te)) :=
  ⟨PS.wk (ps_setLc (own := [(x, i)]) (tt := tM X W0 rB tt) (te := tM X W0 (rD X) te) gx.calm gx.nd hy hyl hsw hi.pi ok hg (fun s H C cl fp => (ht s H C cl fp).pt) (fun s H C cl fp => (he s H C cl fp).pe) hs) fun E σ H q =>
    setLc_of (fun Q z => lc_of fin_lst z (fun _ _ _ _ _ => X) (fun _ _ _ _ _ => rfl) (fun _ _ _ _ _ => rfl) {} H 0 [] []) q⟩
theorem ms_setLcM (gx : GX X W) (j i : Nat) {y : Str} {py spos : Pos} (hi : MI X W (.Name x px) iter mi) (ok : BlkOk X.N X.env.scope scope [(x, i)])
    (hg : ∀ (s : Shared) (H : Hp) (C : Addr) (cl : List (Str × Addr)) (fp : List Addr), PG (X.blk s H scope (compEnvC scope cl C X.env) fp) (.Name x px) (gName i))
    (ht : ∀ (s : Shared) (H : Hp) (C : Addr) (cl : List (Str × Addr)) (fp : List Addr), MTs (X.blk s H scope (compEnvC scope cl C X.env) fp) W0 ifs tt)
    (he : ∀ (s : Shared) (H : Hp) (C : Addr) (cl : List (Str × Addr)) (fp : List Addr), ME (X.blk s H scope (compEnvC scope cl C X.env) fp) W0 elt te)
    (hsw : swapsWith (.ListComp elt [⟨.Name x px, iter, ifs, 0⟩] scope pos) (some (.Name y py)) spos.line X.env = pure true) (hy : X.N[j]? = some y := by rfl) (hyl : X.env.scope.names.lookup y = some .local := by rfl)
    (hs : ∀ x, foldedSetIterable iter X.env x = pure x := by intro _; rfl) :
    MS X W (.Assign [.Name y py] (.ListComp elt [⟨.Name x px, iter, ifs, 0⟩] scope pos) spos) (setS j (lcM mi i tt te)) :=
  ⟨PS.wk (ps_setLc (own := [(x, i)]) (tt := tM X W0 rB tt) (te := tM X W0 (rD X) te) gx.calm gx.nd hy hyl hsw hi.pi ok hg (fun s H C cl fp => (ht s H C cl fp).pt) (fun s H C cl fp => (he s H C cl fp).pe) hs) fun E σ H q =>
    setLc_of (fun Q z => lc_of fin_new z (fun _ _ _ _ _ => X) (fun _ _ _ _ _ => rfl) (fun _ _ _ _ _ => rfl) {} H 0 [] []) q⟩
end

/-! ### a def -/
/-- a def's promise, by what it does on values -/
def spM (K : PySem.W.Frag) (mg : Str → Option Value) (n : Nat) (f : List D → Hh → Res D) : Sp := fun vs H Q E => ∃ ds η h, ds.length = n ∧ RH K mg η H h ∧ RDs K η H ds vs ∧ (match f ds h with
  | .ok d h' => ∀ v η' H', Step η H η' H' → RH K mg η' H' h' → RD K η' H' d v → Q v H'
  | .raise c fs h' => ∀ η' H' C dx, Step η H η' H' → RH K mg η' H' h' → mg c = some (.ref C) → RE K η' H' dx fs → E (.ref C) dx H'
  | .stuck => False)
def endF : SR → Res D
  | .nx _ h => .ok .non h
  | .ret d h => .ok d h
  | .rs c fs _ h => .raise c fs h
  | _ => .stuck
/-- its body, N slots -/
def defF (N : Nat) (b : SS) : List D → Hh → Res D := fun ds h => endF (b (ds.map some ++ List.replicate (N - ds.length) none) h)
theorem rs_start {K : PySem.W.Frag} {N : List Str} {vs : List V} {ds : List D} (r : RDs K η H ds vs) : RS K η H (L2.start N vs) (ds.map some ++ List.replicate (N.length - ds.length) none) := by
  have hl := r.length
  refine ⟨by unfold L2.start; rw [List.length_append, List.length_append, List.length_map, List.length_map, List.length_replicate, List.length_replicate, hl], fun i d e => ?_⟩
  unfold L2.start
  by_cases hi : i < ds.length
  · rw [List.getElem?_append_left (by rw [List.length_map]; exact hi), List.getElem?_map] at e
    cases q : ds[i]? with
    | none => rw [q] at e; cases e
    | some d' =>
      rw [q] at e
      cases e
      obtain ⟨v, ev, rd⟩ := r.get q
      exact ⟨v, by rw [List.getElem?_append_left (by rw [List.length_map, hl]; exact hi), List.getElem?_map, ev]; rfl, rd⟩
  · rw [List.getElem?_append_right (by rw [List.length_map]; omega), List.getElem?_replicate] at e
    split at e <;> cases e
section
variable {P : Program} {w : World} {K : PySem.W.Frag} {mg : Str → Option Value} {base : Heap}
/-- THE RULE for a def -/
theorem fn_ok {x qual : Str} {st : Stmt} {f : Addr} {fd : FuncData} {N ps : List Str} {k : Nat} {b : SS} (F : Fun K x qual st f fd) (S : FnScope N ps (defScope st))
    (hb : ∀ (cdv : Value) (A : Around) (outer : List PySem.Env) (s : Shared) (H : Hp) (E : XK), Room k (A.deeper (envOfC qual (defScope st) s.heap.objs.size f cdv)) →
      GX (cxOf (L2.CX P w) P w K mg base N qual (defScope st) f cdv A outer s H E) (fun cls d _ H => E cls d H) →
      MB (cxOf (L2.CX P w) P w K mg base N qual (defScope st) f cdv A outer s H E) (fun cls d _ H => E cls d H) (defBody st) b) : FnOk P w K mg base (L2.CX P w) (k + 1) f fd ps (spM K mg ps.length (defF N.length b)) := by
  refine F.okX S (fun vs H Q E h => ?_) fun cdv A outer s H vs Q E hr h => ?_
  · obtain ⟨ds, η, h, hl, _, r, _⟩ := h
    rw [r.length, hl]
  · obtain ⟨ds, η, h, hl, rh, r, q⟩ := h
    refine ⟨_, (hb cdv A outer s H E hr ⟨takes_of rfl rfl rfl rfl, passes_of rfl, rfl, S.nd, by have := hr.un; show (A.deeper _).units + 65 < cLine; omega⟩).ps, ?_⟩
    refine ⟨_, η, h, rs_start r, rh, ?_⟩
    unfold defF at q
    cases eb : b (ds.map some ++ List.replicate (N.length - ds.length) none) h with
    | nx ρ h' => rw [eb] at q; exact fun σ' η' H' s a c => q .non η' H' s c rfl
    | ret d h' => rw [eb] at q; exact q
    | rs c fs ρ h' => rw [eb] at q; exact fun σ' η' H' C dx s a r m e => q η' H' C dx s r m e
    | bk ρ h' => rw [eb] at q; exact q.elim
    | ct ρ h' => rw [eb] at q; exact q.elim
    | stuck => rw [eb] at q; exact q.elim
/-- f(e, ..) -/
theorem me_call (gx : GX X W) {k : Nat} {f : Addr} {fd : FuncData} {ps : List Str} {n : Nat} {g : List D → Hh → Res D} {x : Str} {p : Pos} {es : List Expr} {ms : EM (List D)} (F : FnOk X.prog X.w X.K X.mg X.base (L2.CX X.prog X.w) k f fd ps (spM X.K X.mg n g)) (hr : Room k X.A)
    (hg : Gl X x) (hm : X.mg x = some (.ref f)) (hk : PySem.W.keepIn X.K (.ref f) = true) (hb : Binds X.K fd ps []) (ha : MA X W (e :: es) ms) (hn : (e :: es).length = n := by rfl) (hdb : (x == ("__debug__" : Str)) = false := by decide)
    (he : starEach (e :: es) X.env = (false, eval e X.env) :: starEach es X.env := by rfl) (hpl : (backTo pos (starEach es X.env)).any (·.1) = false := by rfl) : ME X W (.Call (.Name x p) (e :: es) [] pos) (callE g ms) :=
  ⟨PE.wk (pe_callS (E := WE W) F hr hg hm hk hb (passAt gx.tk) ha.pa hdb he hpl) fun σ H Q q => by
  refine tM.mono (fun xs H1 ⟨ρ, l, η1, h1, rs, r1, q1, e1, p1⟩ => ?_) (tM.args ha q)
  refine ⟨l, η1, h1, by rw [← q1.length, e1, hn], r1, q1, ?_⟩
  cases eg : g l h1 with
  | ok d h2 => rw [eg] at p1; exact fun v η' H' s r rd => p1 v η' H' s r rd
  | raise c fs h2 => rw [eg] at p1; exact p1
  | stuck => rw [eg] at p1; exact p1⟩
end
end
end Ev

/-! EvI: zip, enumerate. -/
namespace Ev
open PySem PySem.Spec PyProof.Rows L2
section
variable {X : Cx} {W : WX} {σ : L2.St} {η : Ad} {H : Hp} {h : Hh} {E : Ends} {e e2 : Expr} {pos tpos p : Pos} {elts : List Expr} {kk : Nat}
def zipL : List D → List D → List D
  | x :: l, y :: m => .tup [x, y] :: zipL l m
  | _, _ => []
theorem zipL_get : ∀ (l m : List D) (i : Nat) (d : D), (zipL l m)[i]? = some d → ∃ x y, l[i]? = some x ∧ m[i]? = some y ∧ d = .tup [x, y]
  | x :: l, y :: m, 0, d, e => ⟨x, y, rfl, rfl, (Option.some.inj e).symm⟩
  | x :: l, y :: m, i + 1, d, e => zipL_get l m i d e
  | [], _, _, _, e => by simp [zipL] at e
  | _ :: _, [], _, _, e => by simp [zipL] at e
theorem zipL_length : ∀ (l m : List D), l.length ≤ (zipL l m).length ∨ m.length ≤ (zipL l m).length
  | x :: l, y :: m => by
    rcases zipL_length l m with z | z
    · exact .inl (Nat.succ_le_succ z)
    · exact .inr (Nat.succ_le_succ z)
  | [], _ => .inl (Nat.zero_le _)
  | _ :: _, [] => .inr (Nat.zero_le _)
def zipD (l : List D) (h : Hh) : Res IT := match l with
  | [.lst l, .lst m] => .ok ⟨zipL l m, none⟩ h
  | [.tup l, .tup m] => .ok ⟨zipL l m, none⟩ h
  | _ => .stuck
def zipI (ms : EM (List D)) : EM IT := fun ρ h => (ms ρ h).bind zipD
theorem pair_rd {K : PySem.W.Frag} {mg : Str → Option Value} {T : Addr} {a b : D} {x y : V} (r : RH K mg η H h) (n : H T = none) (ra : RD K η H a x) (rb : RD K η H b y) : Same H (upd H T (.tup [x, y])) ∧ RD K η (upd H T (.tup [x, y])) (.tup [a, b]) (.ref T) := by
  have s := r.new1S (o := .tup [x, y]) n
  exact ⟨fun c o q => by rw [upd_ne (ne_of_none q n)]; exact q, T, [x, y], rfl, .inl (.inl upd_same), x, [y], rfl, ra.step s, y, [], rfl, rb.step s, rfl⟩
theorem mi_zip {ms : EM (List D)} (hg : Gl X "zip") (hm : X.mg "zip" = none) (ha : MA X W [e, e2] ms)
    (hs : starEach [e, e2] X.env = (false, eval e X.env) :: starEach [e2] X.env := by rfl) (hpl : (backTo pos (starEach [e2] X.env)).any (·.1) = false := by rfl) : MI X W (.Tuple elts kk tpos) (.Call (.Name "zip" p) [e, e2] [] pos) (zipI ms) :=
  ⟨PI.wk (RZ.pi_zipA hg hm ha.pa hs hpl) fun σ H R q => by
  refine tM.mono (fun xs H1 ⟨l, η1, h1, r1, q1, hl, p1⟩ => ?_) (tMI.args ha q)
  unfold zipD at p1
  split at p1
  · rename_i l m
    obtain ⟨v, w', rfl, ⟨a, xs, rfl, qa, na, ta⟩, b, ys, rfl, qb, nb, tb⟩ := rds2 q1
    refine ⟨a, b, xs, ys, rfl, .inl ⟨.of qa, .of qb, p1 _ η1 H1 (.refl _ _) r1 fun η' H' h' s r c => ?_⟩⟩
    have qa' : SqL X.K H' a xs := .of (s.keep _ _ na qa)
    have qb' : SqL X.K H' b ys := .of (s.keep _ _ nb qb)
    have ta' := ta.stw s
    have tb' := tb.stw s
    refine ⟨⟨xs, ys, qa', qb', by rw [ta'.length, tb'.length]; exact zipL_length l m⟩, fun i d ed => ?_⟩
    obtain ⟨dx, dy, e1, e2, rfl⟩ := zipL_get l m i d ed
    obtain ⟨x, ex, rx⟩ := ta'.get e1
    obtain ⟨y, ey, ry⟩ := tb'.get e2
    refine ⟨⟨xs, ys, x, y, qa', qb', ex, ey⟩, fun v H'' ⟨T, x', y', e3, n, e4, e5, e6⟩ => ?_⟩
    have e5 := e5 xs qa'
    have e6 := e6 ys qb'
    rw [ex] at e5
    rw [ey] at e6
    cases e5
    cases e6
    subst e3 e4
    exact pair_rd r n rx ry
  · rename_i l m
    obtain ⟨v, w', rfl, ⟨a, xs, rfl, qa, ta⟩, b, ys, rfl, qb, tb⟩ := rds2 q1
    refine ⟨a, b, xs, ys, rfl, .inr ⟨qa, qb, p1 _ η1 H1 (.refl _ _) r1 fun η' H' h' s r c => ?_⟩⟩
    have qa' := s.sqT qa
    have qb' := s.sqT qb
    have ta' := ta.stw s
    have tb' := tb.stw s
    refine ⟨⟨xs, ys, qa', qb', by rw [ta'.length, tb'.length]; exact zipL_length l m⟩, fun i d ed => ?_⟩
    obtain ⟨dx, dy, e1, e2, rfl⟩ := zipL_get l m i d ed
    obtain ⟨x, ex, rx⟩ := ta'.get e1
    obtain ⟨y, ey, ry⟩ := tb'.get e2
    refine ⟨⟨xs, ys, x, y, qa', qb', ex, ey⟩, fun v H'' ⟨T, x', y', e3, n, e4, e5, e6⟩ => ?_⟩
    have e5 := e5 xs qa'
    have e6 := e6 ys qb'
    rw [ex] at e5
    rw [ey] at e6
    cases e5
    cases e6
    subst e3 e4
    exact pair_rd r n rx ry
  · exact p1.elim⟩
def enumL : Nat → List D → List D
  | _, [] => []
  | n, x :: l => .tup [.int n, x] :: enumL (n + 1) l
theorem enumL_get : ∀ (n : Nat) (l : List D) (i : Nat) (d : D), (enumL n l)[i]? = some d → ∃ x, l[i]? = some x ∧ d = .tup [.int ((n + i : Nat) : Int), x]
  | n, x :: l, 0, d, e => ⟨x, rfl, (Option.some.inj e).symm⟩
  | n, x :: l, i + 1, d, e => by
    obtain ⟨y, e1, e2⟩ := enumL_get (n + 1) l i d e
    exact ⟨y, e1, by rw [e2, show n + 1 + i = n + (i + 1) by omega]⟩
  | n, [], _, _, e => by simp [enumL] at e
theorem enumL_length : ∀ (n : Nat) (l : List D), (enumL n l).length = l.length
  | _, [] => rfl
  | n, x :: l => by rw [enumL, List.length_cons, List.length_cons, enumL_length]
def enumD (l : List D) (h : Hh) : Res IT := match l with
  | [.lst l] => .ok ⟨enumL 0 l, none⟩ h
  | _ => .stuck
def enumI (ms : EM (List D)) : EM IT := fun ρ h => (ms ρ h).bind enumD
theorem mi_enum {ms : EM (List D)} (hg : Gl X "enumerate") (hm : X.mg "enumerate" = none) (ha : MA X W [e] ms) (hs : starEach [e] X.env = [(false, eval e X.env)] := by rfl) : MI X W (.Tuple elts kk tpos) (.Call (.Name "enumerate" p) [e] [] pos) (enumI ms) :=
  ⟨PI.wk (pi_enum hg hm ha.pa hs) fun σ H R q => by
  refine tM.mono (fun xs H1 ⟨l, η1, h1, r1, q1, hl, p1⟩ => ?_) (tMI.args ha q)
  unfold enumD at p1
  split at p1
  · rename_i l
    obtain ⟨v, rfl, a, xs, rfl, qa, na, ta⟩ := rds1 q1
    refine ⟨a, xs, rfl, .of qa, p1 _ η1 H1 (.refl _ _) r1 fun η' H' h' s r c => ?_⟩
    have qa' : SqL X.K H' a xs := .of (s.keep _ _ na qa)
    have ta' := ta.stw s
    refine ⟨⟨xs, qa', by rw [ta'.length]; show l.length ≤ (enumL 0 l).length; rw [enumL_length]; exact Nat.le_refl _⟩, fun i d ed => ?_⟩
    obtain ⟨dx, e1, rfl⟩ := enumL_get 0 l i d ed
    obtain ⟨x, ex, rx⟩ := ta'.get e1
    refine ⟨⟨xs, x, qa', ex⟩, fun v H'' ⟨T, x', e3, n, e4, e5⟩ => ?_⟩
    have e5 := e5 xs qa'
    rw [ex] at e5
    cases e5
    subst e3 e4
    refine pair_rd r n ?_ rx
    rw [Nat.zero_add]
    rfl
  · exact p1.elim⟩

/-! ### short rules -/
theorem GX.blk (gx : GX X W) (s : Shared) (H : Hp) (scope : Scope) (env : PySem.Env) (fp : List Addr) : GX (X.blk s H scope env fp) W0 :=
  ⟨takes0, PassesOwn.never, gx.calm, gx.nd, gx.un⟩
variable {a b c : Expr} {ma mb mc : EM D}
theorem me_add (ha : ME X W a ma) (hb : ME X W b mb) : ME X W (.BinOp a .Add b pos) (binE addD ma mb) := me_op op_addAll od_add ha hb
theorem me_sub (ha : ME X W a ma) (hb : ME X W b mb) : ME X W (.BinOp a .Sub b pos) (binE subD ma mb) := me_op op_sub od_sub ha hb
theorem me_mul (ha : ME X W a ma) (hb : ME X W b mb) : ME X W (.BinOp a .Mult b pos) (binE mulD ma mb) := me_op op_mulAll od_mul ha hb
theorem me_mod (ha : ME X W a ma) (hb : ME X W b mb) : ME X W (.BinOp a .Mod b pos) (binE modD ma mb) := me_op op_mod od_mod ha hb
theorem me_fdiv (ha : ME X W a ma) (hb : ME X W b mb) : ME X W (.BinOp a .FloorDiv b pos) (binE fdivD ma mb) := me_op op_fdiv od_fdiv ha hb
theorem me_pow (ha : ME X W a ma) (hb : ME X W b mb) : ME X W (.BinOp a .Pow b pos) (binE powD ma mb) := me_op op_pow od_pow ha hb
theorem me_neg (ha : ME X W a ma) : ME X W (.UnaryOp .USub a pos) (unE negD ma) := me_un un_neg ud_neg ha
theorem me_lt (gx : GX X W) (ha : ME X W a ma) (hb : ME X W b mb) : ME X W (.Compare a [.Lt] [b] pos) (binE ltD ma mb) := me_cmpR (op_ltAll (by have := gx.un; omega)) od_lt ha hb (nomark _)
theorem me_le (ha : ME X W a ma) (hb : ME X W b mb) : ME X W (.Compare a [.LtE] [b] pos) (binE leD ma mb) := me_cmpR op_le od_cmpI ha hb (nomark _)
theorem me_gt (ha : ME X W a ma) (hb : ME X W b mb) : ME X W (.Compare a [.Gt] [b] pos) (binE gtD ma mb) := me_cmpR op_gt od_cmpI ha hb (nomark _)
theorem me_ge (ha : ME X W a ma) (hb : ME X W b mb) : ME X W (.Compare a [.GtE] [b] pos) (binE geD ma mb) := me_cmpR op_ge od_cmpI ha hb (nomark _)
theorem me_eq (gx : GX X W) (ha : ME X W a ma) (hb : ME X W b mb) : ME X W (.Compare a [.Eq] [b] pos) (binE eqD ma mb) := me_cmpR (op_eqAll (by have := gx.un; omega)) od_eq ha hb (nomark _)
theorem me_ne (gx : GX X W) (ha : ME X W a ma) (hb : ME X W b mb) : ME X W (.Compare a [.NotEq] [b] pos) (binE neD ma mb) := me_cmpR (op_neAll (by have := gx.un; omega)) od_ne ha hb (nomark _)
theorem me_is (ha : ME X W a ma) (hb : ME X W b mb) : ME X W (.Compare a [.Is] [b] pos) (binE isD ma mb) := me_cmpR op_isN od_is ha hb (nomark _)
theorem me_isnt (ha : ME X W a ma) (hb : ME X W b mb) : ME X W (.Compare a [.IsNot] [b] pos) (binE isntD ma mb) := me_cmpR op_notN od_isnt ha hb (nomark _)
theorem me_in (gx : GX X W) (ha : ME X W a ma) (hb : ME X W b mb) (hm : behindInMarks .In b = false := by rfl) : ME X W (.Compare a [.In] [b] pos) (binE inD ma mb) := me_cmpR (op_inAll gx.un) od_in ha hb hm
theorem me_nin (gx : GX X W) (ha : ME X W a ma) (hb : ME X W b mb) (hm : behindInMarks .NotIn b = false := by rfl) : ME X W (.Compare a [.NotIn] [b] pos) (binE ninD ma mb) := me_cmpR (op_ninAll gx.un) od_nin ha hb hm
theorem mt_lt (gx : GX X W) (ha : ME X W a ma) (hb : ME X W b mb) : MT X W (.Compare a [.Lt] [b] pos) (tstE (binE ltD ma mb)) := mt_cmpR (op_ltAll (by have := gx.un; omega)) od_lt ha hb (nomark _)
theorem mt_le (ha : ME X W a ma) (hb : ME X W b mb) : MT X W (.Compare a [.LtE] [b] pos) (tstE (binE leD ma mb)) := mt_cmpR op_le od_cmpI ha hb (nomark _)
theorem mt_gt (ha : ME X W a ma) (hb : ME X W b mb) : MT X W (.Compare a [.Gt] [b] pos) (tstE (binE gtD ma mb)) := mt_cmpR op_gt od_cmpI ha hb (nomark _)
theorem mt_ge (ha : ME X W a ma) (hb : ME X W b mb) : MT X W (.Compare a [.GtE] [b] pos) (tstE (binE geD ma mb)) := mt_cmpR op_ge od_cmpI ha hb (nomark _)
theorem mt_eq (gx : GX X W) (ha : ME X W a ma) (hb : ME X W b mb) : MT X W (.Compare a [.Eq] [b] pos) (tstE (binE eqD ma mb)) := mt_cmpR (op_eqAll (by have := gx.un; omega)) od_eq ha hb (nomark _)
theorem mt_ne (gx : GX X W) (ha : ME X W a ma) (hb : ME X W b mb) : MT X W (.Compare a [.NotEq] [b] pos) (tstE (binE neD ma mb)) := mt_cmpR (op_neAll (by have := gx.un; omega)) od_ne ha hb (nomark _)
theorem mt_is (ha : ME X W a ma) (hb : ME X W b mb) : MT X W (.Compare a [.Is] [b] pos) (tstE (binE isD ma mb)) := mt_cmpR op_isN od_is ha hb (nomark _)
theorem mt_isnt (ha : ME X W a ma) (hb : ME X W b mb) : MT X W (.Compare a [.IsNot] [b] pos) (tstE (binE isntD ma mb)) := mt_cmpR op_notN od_isnt ha hb (nomark _)
theorem mt_in (gx : GX X W) (ha : ME X W a ma) (hb : ME X W b mb) (hm : behindInMarks .In b = false := by rfl) : MT X W (.Compare a [.In] [b] pos) (tstE (binE inD ma mb)) := mt_cmpR (op_inAll gx.un) od_in ha hb hm
theorem mt_nin (gx : GX X W) (ha : ME X W a ma) (hb : ME X W b mb) (hm : behindInMarks .NotIn b = false := by rfl) : MT X W (.Compare a [.NotIn] [b] pos) (tstE (binE ninD ma mb)) := mt_cmpR (op_ninAll gx.un) od_nin ha hb hm
theorem me_sub_ix (gx : GX X W) (ha : ME X W a ma) (hb : ME X W b mb) (hs : PlainIx b := by exact fun _ _ => rfl) : ME X W (.Subscript a b pos) (binE ixD ma mb) := me_ix (ix_all (by have := gx.un; omega)) od_ix ha hb hs
theorem me_sl {lo hi : Option Expr} {p2 : Pos} {ml mh : EM (Option Int)} (ha : ME X W a ma) (hl : MO X W lo ml) (hh : MO X W hi mh) : ME X W (.Subscript a (.Slice lo hi none p2) pos) (slE slD ma ml mh) := me_slice sl_all sd_sl ha hl hh
/-- a built-in type as a value -/
theorem me_ty {x : Str} {T : String} (hg : Gl X x) (hm : X.mg x = none) (hv : bootBuiltins x = some (.type T)) (hn : x ≠ "__name__" := by decide) (hd : (x == ("__debug__" : Str)) = false := by decide) : ME X W (.Name x pos) (cE (.ty T)) :=
  me_c (pe_bltn (v := .ty T) hg hm hv rfl hn hd) rfl fun _ _ => rfl
theorem mt_b (h : ME X W a ma) (he : ∀ whole, isTrue a X.env whole = (do let v ← whole; standAt a.pos; holding [v] (truthy v)) := by intro _; rfl) : MT X W a (tstE ma) := mt_val h he

/-! ### the defs of a text -/
/-- the def st stands at x -/
structure DefAt (K : PySem.W.Frag) (mg : Str → Option Value) (x : Str) (st : Stmt) : Prop where
  ex : ∃ f fd, Fun K x x st f fd ∧ mg x = some (.ref f)
/-- the def x does g -/
structure Fn (P : Program) (w : World) (K : PySem.W.Frag) (mg : Str → Option Value) (base : Heap) (x : Str) (k n : Nat) (g : List D → Hh → Res D) : Prop where
  ex : ∃ f fd ps, FnOk P w K mg base (L2.CX P w) k f fd ps (spM K mg n g) ∧ mg x = some (.ref f) ∧ PySem.W.keepIn K (.ref f) = true ∧ Binds K fd ps []
theorem me_fn (gx : GX X W) {k n : Nat} {g : List D → Hh → Res D} {x : Str} {p : Pos} {es : List Expr} {ms : EM (List D)} (F : Fn X.prog X.w X.K X.mg X.base x k n g) (hr : Room k X.A) (hg : Gl X x) (ha : MA X W (e :: es) ms) (hn : (e :: es).length = n := by rfl)
    (hdb : (x == ("__debug__" : Str)) = false := by decide) (he : starEach (e :: es) X.env = (false, eval e X.env) :: starEach es X.env := by rfl) (hpl : (backTo pos (starEach es X.env)).any (·.1) = false := by rfl) : ME X W (.Call (.Name x p) (e :: es) [] pos) (callE g ms) := by
  obtain ⟨f, fd, ps, F, hm, hk, hb⟩ := F.ex
  exact me_call gx F hr hg hm hk hb ha hn hdb he hpl
section
variable {P : Program} {w : World} {K : PySem.W.Frag} {mg : Str → Option Value} {base : Heap}
theorem fn_mk {x : Str} {st : Stmt} {N ps : List Str} {k : Nat} {m : SS} (F : DefAt K mg x st) (S : FnScope N ps (defScope st))
    (hbind : ∀ (kV doc pm : Value) (an : Option Addr) (cdv ct : Value) (us : List Value), us.length = ps.length → bindArgs (PySem.W.fnOf x x (defArgs st) (defBody st) (defScope st) .none kV doc pm an cdv ct) ⟨us, []⟩ = pure (ps.zip us))
    (hb : ∀ (f : Addr) (cdv : Value) (A : Around) (outer : List PySem.Env) (s : Shared) (H : Hp) (E : XK), Room k (A.deeper (envOfC x (defScope st) s.heap.objs.size f cdv)) →
      GX (cxOf (L2.CX P w) P w K mg base N x (defScope st) f cdv A outer s H E) (fun cls d _ H => E cls d H) →
      MB (cxOf (L2.CX P w) P w K mg base N x (defScope st) f cdv A outer s H E) (fun cls d _ H => E cls d H) (defBody st) m) : Fn P w K mg base x (k + 1) ps.length (defF N.length m) := by
  obtain ⟨f, fd, F, hm⟩ := F.ex
  exact ⟨f, fd, ps, fn_ok F S fun cdv A outer s H E hr gx => hb f cdv A outer s H E hr gx, hm, F.kp, F.binds hbind⟩
theorem Fn.mono {x : Str} {j k n : Nat} {g : List D → Hh → Res D} (F : Fn P w K mg base x j n g) (h : j ≤ k) : Fn P w K mg base x k n g := by
  obtain ⟨f, fd, ps, F, r⟩ := F.ex
  exact ⟨f, fd, ps, F.mono h, r⟩
end
end
end Ev

/-! EvC: what a def made and leaves is forgotten at its end; the ends of a law. -/
namespace Ev
open PySem PySem.Spec PyProof.Rows L2

mutual
/-- no mutable object from the n-th on is in it -/
def below (n : Nat) : D → Bool
  | .tup l => belows n l
  | .lst l => belows n l
  | .dic l => belowK n l
  | .ref i => decide (i < n)
  | _ => true
def belows (n : Nat) : List D → Bool
  | [] => true
  | d :: l => below n d && belows n l
def belowK (n : Nat) : List (D × D) → Bool
  | [] => true
  | (_, d) :: l => below n d && belowK n l
end
def belowF (n : Nat) : List (Str × D) → Bool
  | [] => true
  | (_, d) :: l => below n d && belowF n l
def belowO (n : Nat) : O → Bool
  | .lst l => belows n l
  | .dic l => belowK n l
  | .ins _ fs => belowF n fs
/-- as a frozen value -/
def frzD (n : Nat) (h : Hh) : Nat → D → Option D
  | 0, _ => none
  | k + 1, d => if below n d = true then some d else match d with
    | .ref i => match h[i]? with
      | some (.lst l) => (l.mapM (frzD n h k)).map .lst
      | some (.dic l) => (l.mapM fun p => (frzD n h k p.2).map fun d => (p.1, d)).map .dic
      | _ => none
    | _ => none
open Classical in
/-- what stood ahead is as it was, or holds nothing newer -/
noncomputable def keptH (h0 h' : Hh) : Prop := h0.length ≤ h'.length ∧ ∀ i, i < h0.length → h'[i]? = h0[i]? ∨ ∃ o, h'[i]? = some o ∧ belowO h0.length o = true
open Classical in
noncomputable def cutF (f : List D → Hh → Res D) : List D → Hh → Res D := fun ds h => match f ds h with
  | .ok d h' => if keptH h h' then (match frzD h.length h' 3 d with
    | some d' => .ok d' (h'.take h.length)
    | none => .stuck) else .stuck
  | .raise c fs h' => if keptH h h' ∧ belowF h.length fs = true then .raise c fs (h'.take h.length) else .stuck
  | .stuck => .stuck
section
variable {K : PySem.W.Frag} {mg : Str → Option Value} {η η' : Ad} {H H' : Hp} {h h' : Hh}
mutual
theorem below_of : ∀ (d : D) (v : V), RD K η H d v → below η.c.length d = true
  | .non, _, _ => rfl
  | .bl _, _, _ => rfl
  | .int _, _, _ => rfl
  | .str _, _, _ => rfl
  | .ty _, _, _ => rfl
  | .scr _, _, _ => rfl
  | .tup l, v, r => by obtain ⟨a, xs, _, _, t⟩ := r; exact belows_of l xs t
  | .lst l, v, r => by obtain ⟨a, xs, _, _, _, t⟩ := r; exact belows_of l xs t
  | .dic l, v, r => by obtain ⟨a, xs, _, _, _, t⟩ := r; exact belowK_of l xs t
  | .ref i, v, r => by obtain ⟨a, e, _⟩ := r; exact decide_eq_true (List.getElem?_eq_some_iff.mp e).1
theorem belows_of : ∀ (l : List D) (xs : List V), RDs K η H l xs → belows η.c.length l = true
  | [], _, _ => rfl
  | d :: l, xs, r => by
    obtain ⟨x, t, _, q, u⟩ := r
    show (below _ d && belows _ l) = true
    rw [below_of d x q, belows_of l t u]
    rfl
theorem belowK_of : ∀ (l : List (D × D)) (xs : List (Key × V)), RKs K η H l xs → belowK η.c.length l = true
  | [], _, _ => rfl
  | (k, d) :: l, xs, r => by
    obtain ⟨k', x, t, _, _, q, u⟩ := r
    show (below _ d && belowK _ l) = true
    rw [below_of d x q, belowK_of l t u]
    rfl
end
theorem belowF_of : ∀ (l : List (Str × D)) (xs : List (Str × V)), RFs K η H l xs → belowF η.c.length l = true
  | [], _, _ => rfl
  | (k, d) :: l, xs, r => by
    obtain ⟨x, t, _, q, u⟩ := r
    show (below _ d && belowF _ l) = true
    rw [below_of d x q, belowF_of l t u]
    rfl
theorem belowO_of {a : Addr} : ∀ (o : O), RO K mg η H a o → belowO η.c.length o = true
  | .lst l, r => by obtain ⟨xs, _, t⟩ := r; exact belows_of l xs t
  | .dic l, r => by obtain ⟨xs, _, t⟩ := r; exact belowK_of l xs t
  | .ins c fs, r => by obtain ⟨C, dx, gs, _, _, _, _, t⟩ := r; exact belowF_of fs gs t
mutual
theorem RD.cut (p : ∃ ζ, η'.c = η.c ++ ζ) (i : ∀ b, η.In b → η'.In b) : ∀ (d : D) (v : V), below η.c.length d = true → RD K η' H d v → RD K η H d v
  | .non, _, _, r => r
  | .bl _, _, _, r => r
  | .int _, _, _, r => r
  | .str _, _, _, r => r
  | .ty _, _, _, r => r
  | .scr _, _, _, r => by
    obtain ⟨a, e, h | h⟩ := r
    · exact ⟨a, e, .inl ⟨fun z => h.1 (i a z), h.2⟩⟩
    · exact ⟨a, e, .inr h⟩
  | .tup l, v, b, r => by obtain ⟨a, xs, e, q, t⟩ := r; exact ⟨a, xs, e, q, RDs.cut p i l xs b t⟩
  | .lst l, v, b, r => by obtain ⟨a, xs, e, q, n, t⟩ := r; exact ⟨a, xs, e, q, fun z => n (i a z), RDs.cut p i l xs b t⟩
  | .dic l, v, b, r => by obtain ⟨a, xs, e, q, n, t⟩ := r; exact ⟨a, xs, e, q, fun z => n (i a z), RKs.cut p i l xs b t⟩
  | .ref j, v, b, r => by
    obtain ⟨a, e, q⟩ := r
    obtain ⟨ζ, ez⟩ := p
    refine ⟨a, ?_, q⟩
    rw [ez, List.getElem?_append_left (of_decide_eq_true b)] at e
    exact e
theorem RDs.cut (p : ∃ ζ, η'.c = η.c ++ ζ) (i : ∀ b, η.In b → η'.In b) : ∀ (l : List D) (xs : List V), belows η.c.length l = true → RDs K η' H l xs → RDs K η H l xs
  | [], _, _, r => r
  | d :: l, xs, b, r => by
    have b := Bool.and_eq_true_iff.mp b
    obtain ⟨x, t, e, q, u⟩ := r
    exact ⟨x, t, e, RD.cut p i d x b.1 q, RDs.cut p i l t b.2 u⟩
theorem RKs.cut (p : ∃ ζ, η'.c = η.c ++ ζ) (i : ∀ b, η.In b → η'.In b) : ∀ (l : List (D × D)) (xs : List (Key × V)), belowK η.c.length l = true → RKs K η' H l xs → RKs K η H l xs
  | [], _, _, r => r
  | (k, d) :: l, xs, b, r => by
    have b := Bool.and_eq_true_iff.mp b
    obtain ⟨k', x, t, e, q0, q, u⟩ := r
    exact ⟨k', x, t, e, q0, RD.cut p i d x b.1 q, RKs.cut p i l t b.2 u⟩
end
theorem RFs.cut (p : ∃ ζ, η'.c = η.c ++ ζ) (i : ∀ b, η.In b → η'.In b) : ∀ (l : List (Str × D)) (xs : List (Str × V)), belowF η.c.length l = true → RFs K η' H l xs → RFs K η H l xs
  | [], _, _, r => r
  | (k, d) :: l, xs, b, r => by
    have b := Bool.and_eq_true_iff.mp b
    obtain ⟨x, t, e, q, u⟩ := r
    exact ⟨x, t, e, RD.cut p i d x b.1 q, RFs.cut p i l t b.2 u⟩
theorem RO.cut (p : ∃ ζ, η'.c = η.c ++ ζ) (i : ∀ b, η.In b → η'.In b) {a : Addr} : ∀ (o : O), belowO η.c.length o = true → RO K mg η' H a o → RO K mg η H a o
  | .lst l, b, r => by obtain ⟨xs, e, t⟩ := r; exact ⟨xs, e, RDs.cut p i l xs b t⟩
  | .dic l, b, r => by obtain ⟨xs, e, t⟩ := r; exact ⟨xs, e, RKs.cut p i l xs b t⟩
  | .ins c fs, b, r => by obtain ⟨C, dx, gs, m, e, n, o, t⟩ := r; exact ⟨C, dx, gs, m, e, fun z => n (i dx z), o, RFs.cut p i fs gs b t⟩
theorem Step.sub (s : Step η H η' H') : ∀ b, η.In b → η'.In b := fun b hb => by
  obtain ⟨ζ, ez⟩ := s.pre
  rcases hb with z | z
  · exact .inl (by rw [ez]; exact List.mem_append_left _ z)
  · exact .inr (by rw [s.hid]; exact z)
theorem Step.cut (s : Step η H η' H') : Step η H η H' := ⟨⟨⟨[], by simp⟩, fun _ z => .inl z, s.keep, s.tup⟩, rfl, s.kh⟩
theorem RH.cut (r0 : RH K mg η H h) (s : Step η H η' H') (r : RH K mg η' H' h') (k : keptH h h') : RH K mg η H' (h'.take h.length) where
  len := by rw [List.length_take, r0.len]; have := k.1; omega
  nd := r0.nd
  ap := r0.ap
  hid := fun a ha => r.hid a (by rw [s.hid]; exact ha)
  ob := fun i a o e1 e2 => by
    have hi : i < h.length := by
      rw [← r0.len]
      exact (List.getElem?_eq_some_iff.mp e1).1
    rw [List.getElem?_take_of_lt hi] at e2
    have ro := r.ob i a o (s.at_ e1) e2
    refine RO.cut s.pre s.sub o ?_ ro
    rcases k.2 i hi with z | ⟨o', z, b⟩
    · rw [e2] at z
      have q := r0.ob i a o e1 z.symm
      exact belowO_of o q
    · rw [e2] at z
      cases z
      rw [r0.len]
      exact b
theorem mapM_none {α β : Type} (f : α → Option β) (x : α) (l : List α) : (x :: l).mapM f = (f x).bind fun y => (l.mapM f).bind fun ys => some (y :: ys) := by
  rw [List.mapM_cons]
  rfl
theorem frz_of (s : Step η H η' H') (r : RH K mg η' H' h') (hl : η.c.length = h.length) : ∀ (k : Nat) (d d' : D) (v : V), frzD h.length h' k d = some d' → RD K η' H' d v → RD K η H' d' v
  | 0, d, d', v, e, _ => by cases e
  | k + 1, d, d', v, e, rd => by
    unfold frzD at e
    by_cases hb : below h.length d = true
    · rw [if_pos hb] at e
      cases e
      exact RD.cut s.pre s.sub d v (by rw [hl]; exact hb) rd
    · rw [if_neg hb] at e
      cases d with
      | ref i =>
        simp only at e
        obtain ⟨a, ea, rfl⟩ := rd
        have hi : ¬ i < h.length := fun z => hb (decide_eq_true z)
        have nin : ¬ η.In a := fun z => by
          rcases z with z | z
          · obtain ⟨j, hj, ej⟩ := List.getElem_of_mem z
            have e2 := s.at_ (List.getElem?_eq_some_iff.mpr ⟨hj, ej⟩)
            have e3 : i = j := r.inj ea e2
            rw [hl] at hj
            omega
          · exact r.ap a (mem_of_at ea) (by rw [s.hid]; exact z)
        split at e
        · rename_i l el
          obtain ⟨xs, q, t⟩ := r.ob i a _ ea el
          cases em : l.mapM (frzD h.length h' k) with
          | none => rw [em] at e; cases e
          | some m =>
            rw [em] at e
            cases e
            refine ⟨a, xs, rfl, q, nin, ?_⟩
            clear q el
            induction l generalizing xs m with
            | nil => cases em; cases t; rfl
            | cons x l ih =>
              rw [mapM_none] at em
              obtain ⟨y, t', rfl, q1, q2⟩ := t
              cases e1 : frzD h.length h' k x with
              | none => rw [e1] at em; cases em
              | some x' =>
                rw [e1] at em
                cases e2 : l.mapM (frzD h.length h' k) with
                | none => rw [e2] at em; cases em
                | some m' =>
                  rw [e2] at em
                  cases em
                  exact ⟨y, t', rfl, frz_of s r hl k x x' y e1 q1, ih _ q2 _ e2⟩
        · rename_i l el
          obtain ⟨xs, q, t⟩ := r.ob i a _ ea el
          cases em : (l.mapM fun p => (frzD h.length h' k p.2).map fun d => (p.1, d)) with
          | none => rw [em] at e; cases e
          | some m =>
            rw [em] at e
            cases e
            refine ⟨a, xs, rfl, q, nin, ?_⟩
            clear q el
            induction l generalizing xs m with
            | nil => cases em; cases t; rfl
            | cons x l ih =>
              rw [mapM_none] at em
              obtain ⟨kx, x⟩ := x
              obtain ⟨k', y, t', rfl, q0, q1, q2⟩ := t
              simp only at em
              cases e1 : frzD h.length h' k x with
              | none => rw [e1] at em; cases em
              | some x' =>
                rw [e1] at em
                cases e2 : (l.mapM fun p => (frzD h.length h' k p.2).map fun d => (p.1, d)) with
                | none => rw [e2] at em; cases em
                | some m' =>
                  rw [e2] at em
                  cases em
                  exact ⟨k', y, t', rfl, q0, frz_of s r hl k x x' y e1 q1, ih _ q2 _ e2⟩
        · cases e
      | _ => cases e
/-- the promise with what it leaves forgotten -/
theorem spM_cut {n : Nat} {f : List D → Hh → Res D} {vs : List V} {Q : VK} {E : XK} (q : spM K mg n (cutF f) vs H Q E) : spM K mg n f vs H Q E := by
  obtain ⟨ds, η, h, hl, rh, r, q⟩ := q
  refine ⟨ds, η, h, hl, rh, r, ?_⟩
  unfold cutF at q
  cases ef : f ds h with
  | stuck => rw [ef] at q; exact q
  | ok d h' =>
    rw [ef] at q
    simp only at q
    split at q
    · rename_i d' h2 eq
      split at eq
      · rename_i kp
        cases ez : frzD h.length h' 3 d with
        | none => rw [ez] at eq; cases eq
        | some d2 =>
          rw [ez] at eq
          cases eq
          exact fun v η' H' s r2 rd => q v η H' s.cut (rh.cut s r2 kp) (frz_of s r2 rh.len 3 d _ v ez rd)
      · cases eq
    · rename_i c fs h2 eq
      split at eq
      · rename_i kp
        cases ez : frzD h.length h' 3 d with
        | none => rw [ez] at eq; cases eq
        | some d2 => rw [ez] at eq; cases eq
      · cases eq
    · exact q.elim
  | raise c fs h' =>
    rw [ef] at q
    simp only at q
    split at q
    · rename_i d' h2 eq
      split at eq <;> cases eq
    · rename_i c2 fs2 h2 eq
      split at eq
      · rename_i kp
        cases eq
        refine fun η' H' C dx s r2 m re => q η H' C dx s.cut (rh.cut s r2 kp.1) m ?_
        cases dx with
        | none => exact re
        | some a =>
          obtain ⟨gs, e1, e2⟩ := re
          exact ⟨gs, e1, RFs.cut s.pre s.sub fs gs (by rw [rh.len]; exact kp.2) e2⟩
      · cases eq
    · exact q.elim
theorem Fn.cut {P : Program} {w : World} {base : Heap} {x : Str} {k n : Nat} {g : List D → Hh → Res D} (F : Fn P w K mg base x k n g) : Fn P w K mg base x k n (cutF g) := by
  obtain ⟨f, fd, ps, F, r⟩ := F.ex
  exact ⟨f, fd, ps, F.imp fun _ _ _ _ q => spM_cut q, r⟩

/-! ### names of the module that hold constants -/
structure GlobAt (K : PySem.W.Frag) (mg : Str → Option Value) (x : Str) (d : D) : Prop where
  ex : ∃ u v, mg x = some u ∧ RelV v u ∧ ∀ η H, RD K η H d v
theorem GlobAt.int {x : Str} {i : Int} {t : Tok} (m : mg x = some (.int i t)) : GlobAt K mg x (.int i) := ⟨_, .int i, m, ⟨t, rfl⟩, fun _ _ => rfl⟩
theorem GlobAt.str {x y : Str} {t : Tok} (m : mg x = some (.str y t)) : GlobAt K mg x (.str y) := ⟨_, .str y, m, ⟨t, rfl⟩, fun _ _ => rfl⟩
theorem me_gl {X : Cx} {W : WX} {x : Str} {d : D} {pos : Pos} (hg : Gl X x) (G : GlobAt X.K X.mg x d) (hd : (x == ("__debug__" : Str)) = false := by decide) : ME X W (.Name x pos) (cE d) := by
  obtain ⟨u, v, m, r, q⟩ := G.ex
  exact me_glob hg m r q hd

/-! ### a law's end -/
/-- the law's promise -/
def spL (K : PySem.W.Frag) (f : List D → Hh → Res D) : Sp := fun vs H Q _ => ∃ (a : Addr) (ns : List Int), vs = [.ref a] ∧ SqL K H a (ns.map V.int) ∧ (∃ h', f [.scr ns] [] = .ok (.bl true) h') ∧ ∀ H', Q (.bl true) H'
theorem spL_of {a : Addr} {ns : List Int} {f : List D → Hh → Res D} (hS : SqL K H a (ns.map V.int)) (q : ∃ h', f [.scr ns] [] = .ok (.bl true) h') : spL K f [.ref a] H (fun v _ => v = .bl true) fun _ _ _ => False := ⟨a, ns, rfl, hS, q, fun _ => rfl⟩
theorem fnok_spL {P : Program} {w : World} {base : Heap} {CX : CXT} {k : Nat} {f : Addr} {fd : FuncData} {ps : List Str} {g : List D → Hh → Res D} (F : FnOk P w K mg base CX k f fd ps (spM K mg 1 g)) : FnOk P w K mg base CX k f fd ps (spL K g) :=
  F.imp fun vs H Q E q => by
  obtain ⟨a, ns, rfl, hS, ⟨h', eh⟩, q⟩ := q
  refine ⟨[.scr ns], ⟨[], []⟩, [], rfl, ⟨rfl, .nil, fun a h => (nomatch h), fun a h => (nomatch h), fun i a o e => by simp at e⟩, ⟨.ref a, [], rfl, ⟨a, rfl, ?_⟩, rfl⟩, ?_⟩
  · rcases hS with h | h
    · exact .inl ⟨fun z => (by rcases z with z | z <;> cases z), h⟩
    · exact .inr fun _ => .inr h
  · rw [eh]
    exact fun v η' H' s r rd => by cases rd; exact q H'
theorem cx_no {P : Program} {w : World} {H : Hp} {s s' : Shared} {e : Value} (h : L2.CX P w [] H s (fun _ _ _ => False) e s') : False := by
  obtain ⟨_, _, _, _, _, _, _, _, _, _, _, _, z⟩ := h
  exact z
end
end Ev

/-! EvD: new dicts, sorted dicts. -/
namespace Ev
open PySem PySem.Spec PyProof.Rows L2
section
variable {X : Cx} {W : WX} {σ : L2.St} {η : Ad} {H : Hp} {h : Hh} {pos : Pos}
def newK (h : Hh) : Res D := .ok (.ref h.length) (h ++ [.dic []])
def dicH : EM D := fun _ h => newK h
theorem newKR {p : Addr} (n : H p = none) (rh : RH X.K X.mg η H h) :
    RH X.K X.mg (η.push p) (upd H p (.dK [])) (h ++ [.dic []]) ∧ RD X.K (η.push p) (upd H p (.dK [])) (.ref h.length) (.ref p) :=
  ⟨rh.alloc n ⟨[], upd_same, rfl⟩, p, by show (η.c ++ [p])[h.length]? = _; rw [← rh.len]; simp, rfl⟩
theorem me_dicH : ME X W (.Dict [] [] pos) dicH := ⟨PE.wk pe_dnewK fun σ H Q q => by
  obtain ⟨ρ, η, h, rs, rh, p⟩ := q
  intro a n
  have p : Po X W (rD X) σ η H (newK h) Q := p
  exact p _ _ _ (rh.allocS n) (newKR n rh).1 (newKR n rh).2⟩
/-! sorted -/
theorem rks_ints {K : PySem.W.Frag} : ∀ {l : List (D × D)} {xs : List (Key × V)} {ns : List Int}, RKs K η H l xs → intsOf (l.map (·.1)) = some ns → xs.map (·.1) = ns.map Sum.inl
  | [], xs, ns, r, e => by cases r; cases e; rfl
  | (k, d) :: l, xs, ns, r, e => by
    obtain ⟨k', x, q, rfl, ek, _, t⟩ := r
    have := intsOf_eq e
    cases ns with
    | nil => simp at this
    | cons n ns =>
      simp only [List.map_cons, List.cons.injEq] at this
      obtain ⟨rfl, e2⟩ := this
      cases ek
      have e3 : intsOf (l.map (·.1)) = some ns := by rw [e2]; exact intsOf_map ns
      rw [List.map_cons, List.map_cons, rks_ints t e3]
def sortD (a : List D) (h : Hh) : Res D := match a with
  | [a] => match lstOf a h with
    | some l => (match intsOf l with
      | some ns => .ok (.lst ((sortI ns).map D.int)) h
      | none => .stuck)
    | none => match dicOf a h with
      | some l => (match intsOf (l.map (·.1)) with
        | some ns => if ns.length < 64 then .ok (.lst ((sortI ns).map D.int)) h else .stuck
        | none => .stuck)
      | none => .stuck
  | _ => .stuck
def rSortAll (K : PySem.W.Frag) : List V → Hp → VK → Prop := fun xs H Q => rSortedI K xs H Q ∨ (∃ (a : Addr) (kvs : List (Key × V)) (ks : List Int), xs = [.ref a] ∧ Rd H a (.dK kvs) ∧ kvs.map (·.1) = ks.map Sum.inl ∧ ks.length < 64 ∧
    ∀ (ys : List Int) (p : Addr), ys.Perm ks → ys.Pairwise (· ≤ ·) → H p = none → Q (.ref p) (upd H p (.lst (ys.map V.int))))
theorem cr_sortAll (hc : X.calm = true) : CallR X (.builtin "sorted") (rSortAll X.K) := by
  intro pins s σ H x u Q I rx q
  rcases q with q | q
  · exact cr_sortedI pins s σ H x u Q I rx q
  · exact call_sortedDI hc pins s σ H x u Q I rx q
theorem cd_sort : CallD X W (rSortAll X.K) sortD := by
  intro σ η H h a x Q rh ra p
  unfold sortD at p
  split at p
  · obtain ⟨v, rfl, r⟩ := rds1 ra
    split at p
    · rename_i l el
      split at p
      · rename_i ns en
        obtain ⟨c, rfl, s⟩ := ints_of rh r (show (lstOf _ h).bind intsOf = some ns by rw [el]; exact en)
        refine .inl ⟨c, ns, rfl, .of s, fun ns' q e1 e2 n => ?_⟩
        rw [sorted_uniq (e1.trans (sortI_perm ns).symm) e2 (sortI_sorted ns)]
        exact Po.newF p rh (RDs.of_ints _) q n
      · exact p.elim
    · split at p
      · rename_i l el
        split at p
        · rename_i ns en
          split at p
          · rename_i hz
            obtain ⟨c, xs, rfl, s, t⟩ := dicOf_of rh r el
            refine .inr ⟨c, xs, ns, rfl, .inl s, rks_ints t en, hz, fun ns' q e1 e2 n => ?_⟩
            rw [sorted_uniq (e1.trans (sortI_perm ns).symm) e2 (sortI_sorted ns)]
            exact Po.newF p rh (RDs.of_ints _) q n
          · exact p.elim
        · exact p.elim
      · exact p.elim
  · exact p.elim
/-! new lists that will change -/
def mulM (a b : D) (h : Hh) : Res D := match lstOf a h with
  | some l => (match b with
    | .int k => if 0 ≤ k ∧ k ≤ 1000 ∧ l.length ≤ 1000 then newL (List.replicate k.toNat l).flatten h else .stuck
    | _ => .stuck)
  | none => .stuck
theorem od_mulM : OpD X W (rMulAll X.K) mulM := by
  intro σ η H h a b x y Q rh ra rb p
  unfold mulM at p
  split at p
  · rename_i l ea
    split at p
    · rename_i k
      cases rb
      obtain ⟨p1, xs, rfl, q1, t1⟩ := lstOf_of rh ra ea
      split at p
      · rename_i hz
        have hl := t1.length
        refine .inr (.inr (.inr ⟨p1, k, xs, rfl, rfl, q1, by omega, by omega, ?_, fun e n => Po.newM p rh (t1.rep _) e n⟩))
        rw [sizeLine_eq, hl]
        have h1 : k.toNat ≤ 1000 := by omega
        have h2 : l.length ≤ 1000 := hz.2.2
        have h3 : l.length * k.toNat ≤ 1000 * 1000 := Nat.mul_le_mul h2 h1
        omega
      · exact p.elim
    · exact p.elim
  · exact p.elim
def addM (a b : D) (h : Hh) : Res D := match lstOf a h with
  | some l => (match lstOf b h with
    | some m => if l.length + m.length ≤ sizeLine then newL (l ++ m) h else .stuck
    | none => .stuck)
  | none => .stuck
theorem od_addM : OpD X W (rAddAll X.K) addM := by
  intro σ η H h a b x y Q rh ra rb p
  unfold addM at p
  split at p
  · rename_i l ea
    split at p
    · rename_i m eb
      obtain ⟨p1, xs, rfl, q1, t1⟩ := lstOf_of rh ra ea
      obtain ⟨p2, ys, rfl, q2, t2⟩ := lstOf_of rh rb eb
      split at p
      · rename_i hz
        exact .inr (.inr (.inr ⟨p1, p2, xs, ys, rfl, rfl, q1, q2, by rw [t1.length, t2.length]; exact hz, fun c n => Po.newM p rh (t1.app t2) c n⟩))
      · exact p.elim
    · exact p.elim
  · exact p.elim
theorem me_mulM {a b : Expr} {ma mb : EM D} (ha : ME X W a ma) (hb : ME X W b mb) : ME X W (.BinOp a .Mult b pos) (binE mulM ma mb) := me_op op_mulAll od_mulM ha hb
theorem me_addM {a b : Expr} {ma mb : EM D} (ha : ME X W a ma) (hb : ME X W b mb) : ME X W (.BinOp a .Add b pos) (binE addM ma mb) := me_op op_addAll od_addM ha hb
/-! what is never reached -/
def stuckS : SS := fun _ _ => .stuck
theorem mb_stuck {sts : List Stmt} : MB X W sts stuckS := ⟨⟨fun _ _ _ _ _ _ q => by
  obtain ⟨_, _, _, _, _, p⟩ := q
  exact p.elim⟩⟩
/-! comparisons of ints in a row -/
def asInt (d : D) (h : Hh) : Res Int := match d with
  | .int i => .ok i h
  | _ => .stuck
def chE (f1 f2 : Int → Int → Bool) (a b c : EM D) : EM D := fun ρ h => (a ρ h).bind fun x h1 => (b ρ h1).bind fun y h2 => (asInt x h2).bind fun i h2 => (asInt y h2).bind fun j h2 =>
  if f1 i j = true then (c ρ h2).bind fun w h3 => (asInt w h3).bind fun k h3 => .ok (.bl (f2 j k)) h3 else .ok (.bl false) h2
def chE3 (f1 f2 f3 : Int → Int → Bool) (a b c d : EM D) : EM D := fun ρ h => (a ρ h).bind fun x h1 => (b ρ h1).bind fun y h2 => (asInt x h2).bind fun i h2 => (asInt y h2).bind fun j h2 =>
  if f1 i j = true then (c ρ h2).bind fun w h3 => (asInt w h3).bind fun k h3 => (if f2 j k = true then (d ρ h3).bind fun v h4 => (asInt v h4).bind fun l h4 => .ok (.bl (f3 k l)) h4 else .ok (.bl false) h3) else .ok (.bl false) h2
theorem asInt_of {α : Type} {d : D} {v : V} {k : Int → Hh → Res α} {R : α → V → Ad → Hp → Prop} {Q : VK} (p : Po X W R σ η H ((asInt d h).bind k) Q) (r : RD X.K η H d v) : ∃ i, d = .int i ∧ v = .int i ∧ Po X W R σ η H (k i h) Q := by
  cases d with
  | int i => cases r; exact ⟨i, rfl, rfl, p⟩
  | _ => exact p.elim
variable {a b c d : Expr} {ma mb mc md : EM D}
theorem tChain_of {f1 f2 : Int → Int → Bool} {ta tb tc : TE} (ha : ∀ σ H Q, tM X W (rD X) ma σ H Q → ta σ H Q) (hb : ∀ σ H Q, tM X W (rD X) mb σ H Q → tb σ H Q) (hc : ∀ σ H Q, tM X W (rD X) mc σ H Q → tc σ H Q) {Q : VK} (q : tM X W (rD X) (chE f1 f2 ma mb mc) σ H Q) :
    tChain (rI0 fun i j => .bl (f1 i j)) (rI0 fun i j => .bl (f2 i j)) ta tb tc σ H Q := by
  obtain ⟨ρ, η, h, rs, rh, p⟩ := q
  have p : Po X W (rD X) σ η H ((ma ρ h).bind fun x h1 => (mb ρ h1).bind fun y h2 => (asInt x h2).bind fun i h2 => (asInt y h2).bind fun j h2 =>
    if f1 i j = true then (mc ρ h2).bind fun w h3 => (asInt w h3).bind fun k h3 => .ok (.bl (f2 j k)) h3 else .ok (.bl false) h2) Q := p
  refine ha _ _ _ (tM.mono (fun x H1 ⟨d1, η1, h1, s1, r1, q1, p1⟩ => ?_) (Po.seq (R1 := rD X) rs rh p))
  refine hb _ _ _ (tM.mono (fun y H2 ⟨d2, η2, h2, s2, r2, q2, p2⟩ => ?_) (Po.seq (R1 := rD X) (rs.step s1) r1 p1))
  obtain ⟨i, rfl, e1, p2⟩ := asInt_of p2 (RD.step s2 _ _ q1)
  obtain ⟨j, rfl, e2, p2⟩ := asInt_of p2 q2
  subst e1 e2
  refine ⟨i, j, rfl, rfl, f1 i j, rfl, ?_⟩
  cases hf : f1 i j with
  | false =>
    rw [if_neg (by rw [hf]; exact Bool.false_ne_true)] at p2
    rw [if_neg Bool.false_ne_true]
    exact Po.scal p2 r2 rfl
  | true =>
    rw [if_pos hf] at p2
    rw [if_pos rfl]
    refine hc _ _ _ (tM.mono (fun w H3 ⟨d3, η3, h3, s3, r3, q3, p3⟩ => ?_) (Po.seq (R1 := rD X) ((rs.step s1).step s2) r2 p2))
    obtain ⟨k, rfl, e3, p3⟩ := asInt_of p3 q3
    subst e3
    exact ⟨j, k, rfl, rfl, Po.scal p3 r3 rfl⟩
theorem me_chain {op op' : CmpOp} {f1 f2 : Int → Int → Bool} (ho : OpR X (compareOp op) (rI0 fun i j => .bl (f1 i j))) (ho' : OpR X (compareOp op') (rI0 fun i j => .bl (f2 i j))) (ha : ME X W a ma) (hb : ME X W b mb) (hc : ME X W c mc)
    (hm : lastMarks [op, op'] [b, c] = false := by with_unfolding_all rfl) : ME X W (.Compare a [op, op'] [b, c] pos) (chE f1 f2 ma mb mc) :=
  ⟨PE.wk (pe_chain ho ho' ha.pe hb.pe hc.pe hm) fun σ H Q q => tChain_of (fun _ _ _ q => q) (fun _ _ _ q => q) (fun _ _ _ q => q) q⟩
theorem mt_chain {op op' : CmpOp} {f1 f2 : Int → Int → Bool} (ho : OpR X (compareOp op) (rI0 fun i j => .bl (f1 i j))) (ho' : OpR X (compareOp op') (rI0 fun i j => .bl (f2 i j))) (ha : ME X W a ma) (hb : ME X W b mb) (hc : ME X W c mc)
    (hm : lastMarks [op, op'] [b, c] = false := by with_unfolding_all rfl) : MT X W (.Compare a [op, op'] [b, c] pos) (tstE (chE f1 f2 ma mb mc)) :=
  ⟨PT.wk (pt_chain ho ho' ha.pe hb.pe hc.pe hm) fun σ H Q q => tChain_of (fun _ _ _ q => q) (fun _ _ _ q => q) (fun _ _ _ q => q) (tB_of q)⟩
def tChain3 (r r' r'' : R2) (ta tb tc td : TE) : TE := fun σ H Q => ta σ H fun x H1 => tb σ H1 fun y H2 => r x y H2 fun z H3 => ∃ k, z = .bl k ∧
  (if k = true then tc σ H3 fun w H4 => r' y w H4 fun z H5 => ∃ k, z = .bl k ∧ (if k = true then td σ H5 fun v H6 => r'' w v H6 Q else Q (.bl false) H5) else Q (.bl false) H3)
theorem pt_chain3 {op op' op'' : CmpOp} {r r' r'' : R2} {ta tb tc td : TE} (ho : OpR X (compareOp op) r) (ho' : OpR X (compareOp op') r') (ho'' : OpR X (compareOp op'') r'') (ha : PE X a ta) (hb : PE X b tb) (hc : PE X c tc) (hd : PE X d td)
    (hm : lastMarks [op, op', op''] [b, c, d] = false := by with_unfolding_all rfl) : PT X (.Compare a [op, op', op''] [b, c, d] pos) (tTest (tChain3 r r' r'' ta tb tc td)) := by
  refine ⟨fun pins s σ H Q I h => ?_⟩
  refine isTrue_chain (thn (ha.run pins s σ H _ I h) fun v s1 ⟨x, H1, I1, r1, q1⟩ => test_link (thn (hb.run pins s1 σ H1 _ I1 q1) fun u s2 ⟨y, H2, I2, r2, q2⟩ =>
    thn (ho pins s2 σ H2 x y v u _ I2 r1 r2 q2) fun d s3 ⟨z, H3, I3, r3, k, e, q3⟩ => ?_)) hm
  subst e
  cases r3
  refine wpAny_truthy_bool ?_
  cases k with
  | false =>
    obtain ⟨k', e', q'⟩ := q3
    cases e'
    exact ite_ff ⟨H3, I3, q'⟩
  | true =>
    refine ite_tt (test_link (thn (hc.run pins s3 σ H3 _ I3 q3) fun w' s4 ⟨z', H4, I4, r4, q4⟩ => thn (ho' pins s4 σ H4 y z' u w' _ I4 r2 r4 q4) fun d' s5 ⟨z2, H5, I5, r5, k2, e2, q5⟩ => ?_))
    subst e2
    cases r5
    refine wpAny_truthy_bool ?_
    cases k2 with
    | false =>
      obtain ⟨k', e', q'⟩ := q5
      cases e'
      exact ite_ff ⟨H5, I5, q'⟩
    | true =>
      refine ite_tt (test_last (thn (hd.run pins s5 σ H5 _ I5 q5) fun w3 s6 ⟨z3, H6, I6, r6, q6⟩ => thn (ho'' pins s6 σ H6 z' z3 w' w3 _ I6 r4 r6 q6) fun d3 s7 ⟨z4, H7, I7, r7, k3, e3, q7⟩ => ?_))
      subst e3
      cases r7
      exact wpAny_truthy_bool ⟨H7, I7, q7⟩
theorem tChain3_of {f1 f2 f3 : Int → Int → Bool} {Q : VK} (q : tM X W (rD X) (chE3 f1 f2 f3 ma mb mc md) σ H Q) :
    tChain3 (rI0 fun i j => .bl (f1 i j)) (rI0 fun i j => .bl (f2 i j)) (rI0 fun i j => .bl (f3 i j)) (tM X W (rD X) ma) (tM X W (rD X) mb) (tM X W (rD X) mc) (tM X W (rD X) md) σ H Q := by
  obtain ⟨ρ, η, h, rs, rh, p⟩ := q
  have p : Po X W (rD X) σ η H ((ma ρ h).bind fun x h1 => (mb ρ h1).bind fun y h2 => (asInt x h2).bind fun i h2 => (asInt y h2).bind fun j h2 =>
    if f1 i j = true then (mc ρ h2).bind fun w h3 => (asInt w h3).bind fun k h3 => (if f2 j k = true then (md ρ h3).bind fun v h4 => (asInt v h4).bind fun l h4 => .ok (.bl (f3 k l)) h4 else .ok (.bl false) h3) else .ok (.bl false) h2) Q := p
  refine tM.mono (fun x H1 ⟨d1, η1, h1, s1, r1, q1, p1⟩ => ?_) (Po.seq (R1 := rD X) rs rh p)
  refine tM.mono (fun y H2 ⟨d2, η2, h2, s2, r2, q2, p2⟩ => ?_) (Po.seq (R1 := rD X) (rs.step s1) r1 p1)
  obtain ⟨i, rfl, e1, p2⟩ := asInt_of p2 (RD.step s2 _ _ q1)
  obtain ⟨j, rfl, e2, p2⟩ := asInt_of p2 q2
  subst e1 e2
  refine ⟨i, j, rfl, rfl, f1 i j, rfl, ?_⟩
  cases hf : f1 i j with
  | false =>
    rw [if_neg (by rw [hf]; exact Bool.false_ne_true)] at p2
    rw [if_neg Bool.false_ne_true]
    exact Po.scal p2 r2 rfl
  | true =>
    rw [if_pos hf] at p2
    rw [if_pos rfl]
    refine tM.mono (fun w H3 ⟨d3, η3, h3, s3, r3, q3, p3⟩ => ?_) (Po.seq (R1 := rD X) ((rs.step s1).step s2) r2 p2)
    obtain ⟨k, rfl, e3, p3⟩ := asInt_of p3 q3
    subst e3
    refine ⟨j, k, rfl, rfl, f2 j k, rfl, ?_⟩
    cases hg : f2 j k with
    | false =>
      rw [if_neg (by rw [hg]; exact Bool.false_ne_true)] at p3
      rw [if_neg Bool.false_ne_true]
      exact Po.scal p3 r3 rfl
    | true =>
      rw [if_pos hg] at p3
      rw [if_pos rfl]
      refine tM.mono (fun v H4 ⟨d4, η4, h4, s4, r4, q4, p4⟩ => ?_) (Po.seq (R1 := rD X) (((rs.step s1).step s2).step s3) r3 p3)
      obtain ⟨l, rfl, e4, p4⟩ := asInt_of p4 q4
      subst e4
      exact ⟨k, l, rfl, rfl, Po.scal p4 r4 rfl⟩
theorem mt_chain3 {op op' op'' : CmpOp} {f1 f2 f3 : Int → Int → Bool} (ho : OpR X (compareOp op) (rI0 fun i j => .bl (f1 i j))) (ho' : OpR X (compareOp op') (rI0 fun i j => .bl (f2 i j))) (ho'' : OpR X (compareOp op'') (rI0 fun i j => .bl (f3 i j))) (ha : ME X W a ma) (hb : ME X W b mb) (hc : ME X W c mc) (hd : ME X W d md)
    (hm : lastMarks [op, op', op''] [b, c, d] = false := by with_unfolding_all rfl) : MT X W (.Compare a [op, op', op''] [b, c, d] pos) (tstE (chE3 f1 f2 f3 ma mb mc md)) :=
  ⟨PT.wk (pt_chain3 ho ho' ho'' ha.pe hb.pe hc.pe hd.pe hm) fun σ H Q q => tChain3_of (tB_of q)⟩
/-! a call of a def with no arguments -/
theorem me_fn0 (gx : GX X W) {k : Nat} {g : List D → Hh → Res D} {x : Str} {p : Pos} (F : Fn X.prog X.w X.K X.mg X.base x k 0 g) (hr : Room k X.A) (hg : Gl X x) (_ : MA X W [] nilA)
    (hdb : (x == ("__debug__" : Str)) = false := by decide) : ME X W (.Call (.Name x p) [] [] pos) (callE g nilA) := by
  obtain ⟨f, fd, ps, F, hm, hk, hb⟩ := F.ex
  refine ⟨⟨fun pins s σ H Q I q => ?_⟩⟩
  obtain ⟨ρ, η, h, rs, rh, p⟩ := q
  have p : Po X W (rD X) σ η H (g [] h) Q := p
  refine wpAny_Call_Name_kw (ld_glob I hg hm ?_ hdb)
  refine PySem.W.callWith_K0 I.kIn hk (run_fnS (E := WE W) (us := []) (vs := []) F hr hb (passAt gx.tk σ) I .nil ?_)
  refine ⟨[], η, h, rfl, rh, rfl, ?_⟩
  cases eg : g [] h with
  | ok d h2 => rw [eg] at p; exact fun v η' H' s r rd => p v η' H' s r rd
  | raise c fs h2 => rw [eg] at p; exact fun η' H' C dx s r m re => p η' H' C dx s r m re
  | stuck => rw [eg] at p; exact p.elim
/-! the module's dicts with text keys -/
inductive KEnts (K : PySem.W.Frag) : List DictEntry → List (Str × D) → Prop
  | nil : KEnts K [] []
  | cons {e : DictEntry} {es : List DictEntry} {k : Str} {d : D} {l : List (Str × D)} {t : Tok} {v : V} : e.key = .str k t → RelV v e.val → (∀ η H, RD K η H d v) → KEnts K es l → KEnts K (e :: es) ((k, d) :: l)
structure KD (K : PySem.W.Frag) (mg : Str → Option Value) (w : World) (x : Str) (l : List (Str × D)) : Prop where
  ex : ∃ (a : Addr) (es : Array DictEntry) (n : Nat), mg x = some (.ref a) ∧ K.lookup a = some ⟨.type "dict", none, .dict es n, #[]⟩ ∧ PySem.W.KeysLit w.params es.toList ∧ (a == sysModules) = false ∧ KEnts K es.toList l
def lkG (l : List (Str × D)) (z : Str) : Option D := (l.find? fun p => decide (p.1 = z)).map (·.2)
theorem kents_find {K : PySem.W.Frag} {es : List DictEntry} {l : List (Str × D)} (h : KEnts K es l) (z : Str) :
    es.any (·.refKey) = false ∧ ((∃ e d v, es.find? (·.key.isStr z) = some e ∧ lkG l z = some d ∧ RelV v e.val ∧ ∀ η H, RD K η H d v) ∨ (es.find? (·.key.isStr z) = none ∧ lkG l z = none)) := by
  induction h with
  | nil => exact ⟨rfl, .inr ⟨rfl, rfl⟩⟩
  | @cons e es k d l t v e1 r q _ ih =>
    obtain ⟨i1, i2⟩ := ih
    have er : e.refKey = false := by unfold DictEntry.refKey; rw [e1]; all_goals rfl
    refine ⟨by rw [List.any_cons, er, i1]; rfl, ?_⟩
    have es' : e.key.isStr z = decide (k = z) := by
      rw [e1]
      show (k == z) = _
      rw [Bool.beq_eq_decide_eq]
    by_cases hk : k = z
    · left
      exact ⟨e, d, v, by rw [List.find?_cons, es', decide_eq_true hk], by simp [lkG, List.find?_cons, hk], r, q⟩
    · have a1 : (e :: es).find? (·.key.isStr z) = es.find? (·.key.isStr z) := by rw [List.find?_cons, es', decide_eq_false hk]
      have a2 : lkG ((k, d) :: l) z = lkG l z := by simp [lkG, List.find?_cons, hk]
      rw [a1, a2]
      exact i2
theorem kd_at {K : PySem.W.Frag} {a : Addr} {es : Array DictEntry} {n : Nat} {l : List (Str × D)} (hl : K.lookup a = some ⟨.type "dict", none, .dict es n, #[]⟩) (h : KEnts K es.toList l) (z : Str) :
    (∃ u d v, PySem.W.nsIn K a z = some (some u) ∧ lkG l z = some d ∧ RelV v u ∧ ∀ η H, RD K η H d v) ∨ (PySem.W.nsIn K a z = some none ∧ lkG l z = none) := by
  obtain ⟨h1, h2⟩ := kents_find h z
  unfold PySem.W.nsIn
  rw [hl]
  simp only
  rcases h2 with ⟨e, d, v, e1, e2, r, q⟩ | ⟨e1, e2⟩
  · rw [e1]
    exact .inl ⟨_, d, v, rfl, e2, r, q⟩
  · rw [e1, h1]
    exact .inr ⟨rfl, e2⟩
def inG (l : List (Str × D)) : D → Hh → Res D := fun d h => match d with
  | .str z => .ok (.bl (lkG l z).isSome) h
  | _ => .stuck
def ninG (l : List (Str × D)) : D → Hh → Res D := fun d h => match d with
  | .str z => .ok (.bl (!(lkG l z).isSome)) h
  | _ => .stuck
def ixG (l : List (Str × D)) : D → Hh → Res D := fun d h => match d with
  | .str z => (match lkG l z with
    | some d => .ok d h
    | none => .stuck)
  | _ => .stuck
section
variable {x : Str} {l : List (Str × D)} {p2 : Pos}
theorem inG_of {b : Addr} {es : Array DictEntry} {n : Nat} (hl : X.K.lookup b = some ⟨.type "dict", none, .dict es n, #[]⟩) (en : KEnts X.K es.toList l) {Q : VK} (q : tM X W (rD X) (unE (inG l) ma) σ H Q) :
    tM X W (rD X) ma σ H fun x H1 => ∃ (z : Str) (r : Option Value), x = .str z ∧ V.ref b = .ref b ∧ PySem.W.nsIn X.K b z = some r ∧ Q (.bl r.isSome) H1 := by
  obtain ⟨ρ, η, h, rs, rh, p⟩ := q
  have p : Po X W (rD X) σ η H ((ma ρ h).bind fun x h1 => inG l x h1) Q := p
  refine tM.mono (fun y H1 ⟨d1, η1, h1, s1, r1, q1, p1⟩ => ?_) (Po.seq (R1 := rD X) rs rh p)
  cases d1 with
  | str z =>
    cases q1
    rcases kd_at hl en z with ⟨u, d, v, e1, e2, _⟩ | ⟨e1, e2⟩
    · have p2 : Po X W (rD X) σ η1 H1 (.ok (.bl (lkG l z).isSome) h1) Q := p1
      rw [e2] at p2
      exact ⟨z, _, rfl, rfl, e1, Po.scal p2 r1 rfl⟩
    · have p2 : Po X W (rD X) σ η1 H1 (.ok (.bl (lkG l z).isSome) h1) Q := p1
      rw [e2] at p2
      exact ⟨z, _, rfl, rfl, e1, Po.scal p2 r1 rfl⟩
  | _ => exact p1.elim
theorem ninG_of {b : Addr} {es : Array DictEntry} {n : Nat} (hl : X.K.lookup b = some ⟨.type "dict", none, .dict es n, #[]⟩) (en : KEnts X.K es.toList l) {Q : VK} (q : tM X W (rD X) (unE (ninG l) ma) σ H Q) :
    tM X W (rD X) ma σ H fun x H1 => ∃ (z : Str) (r : Option Value), x = .str z ∧ V.ref b = .ref b ∧ PySem.W.nsIn X.K b z = some r ∧ Q (.bl (!r.isSome)) H1 := by
  obtain ⟨ρ, η, h, rs, rh, p⟩ := q
  have p : Po X W (rD X) σ η H ((ma ρ h).bind fun x h1 => ninG l x h1) Q := p
  refine tM.mono (fun y H1 ⟨d1, η1, h1, s1, r1, q1, p1⟩ => ?_) (Po.seq (R1 := rD X) rs rh p)
  cases d1 with
  | str z =>
    cases q1
    rcases kd_at hl en z with ⟨u, d, v, e1, e2, _⟩ | ⟨e1, e2⟩
    · have p2 : Po X W (rD X) σ η1 H1 (.ok (.bl (!(lkG l z).isSome)) h1) Q := p1
      rw [e2] at p2
      exact ⟨z, _, rfl, rfl, e1, Po.scal p2 r1 rfl⟩
    · have p2 : Po X W (rD X) σ η1 H1 (.ok (.bl (!(lkG l z).isSome)) h1) Q := p1
      rw [e2] at p2
      exact ⟨z, _, rfl, rfl, e1, Po.scal p2 r1 rfl⟩
  | _ => exact p1.elim
theorem me_inG (hg : Gl X x) (G : KD X.K X.mg X.w x l) (ha : ME X W a ma) (hd : (x == ("__debug__" : Str)) = false := by decide) : ME X W (.Compare a [.In] [.Name x p2] pos) (unE (inG l) ma) := by
  obtain ⟨b, es, n, m, hl, hk, lo, en⟩ := G.ex
  exact ⟨PE.wk (pe_cmpR (op_in_kd ⟨hl, hk, lo⟩) ha.pe (pe_glob (v := .ref b) hg m rfl hd) rfl) fun σ H Q q => inG_of hl en q⟩
theorem me_ninG (hg : Gl X x) (G : KD X.K X.mg X.w x l) (ha : ME X W a ma) (hd : (x == ("__debug__" : Str)) = false := by decide) : ME X W (.Compare a [.NotIn] [.Name x p2] pos) (unE (ninG l) ma) := by
  obtain ⟨b, es, n, m, hl, hk, lo, en⟩ := G.ex
  exact ⟨PE.wk (pe_cmpR (op_notIn_kd ⟨hl, hk, lo⟩) ha.pe (pe_glob (v := .ref b) hg m rfl hd) rfl) fun σ H Q q => ninG_of hl en q⟩
theorem mt_inG (hg : Gl X x) (G : KD X.K X.mg X.w x l) (ha : ME X W a ma) (hd : (x == ("__debug__" : Str)) = false := by decide) : MT X W (.Compare a [.In] [.Name x p2] pos) (tstE (unE (inG l) ma)) := by
  obtain ⟨b, es, n, m, hl, hk, lo, en⟩ := G.ex
  exact ⟨PT.wk (pt_cmpR (op_in_kd ⟨hl, hk, lo⟩) ha.pe (pe_glob (v := .ref b) hg m rfl hd) rfl) fun σ H Q q => inG_of hl en (tB_of q)⟩
theorem mt_ninG (hg : Gl X x) (G : KD X.K X.mg X.w x l) (ha : ME X W a ma) (hd : (x == ("__debug__" : Str)) = false := by decide) : MT X W (.Compare a [.NotIn] [.Name x p2] pos) (tstE (unE (ninG l) ma)) := by
  obtain ⟨b, es, n, m, hl, hk, lo, en⟩ := G.ex
  exact ⟨PT.wk (pt_cmpR (op_notIn_kd ⟨hl, hk, lo⟩) ha.pe (pe_glob (v := .ref b) hg m rfl hd) rfl) fun σ H Q q => ninG_of hl en (tB_of q)⟩
theorem me_ixG (hg : Gl X x) (G : KD X.K X.mg X.w x l) (ha : ME X W a ma) (hs : PlainIx a := by exact fun _ _ => rfl) (hd : (x == ("__debug__" : Str)) = false := by decide) : ME X W (.Subscript (.Name x p2) a pos) (unE (ixG l) ma) := by
  obtain ⟨b, es, n, m, hl, hk, lo, en⟩ := G.ex
  refine ⟨PE.wk (pe_ix ix_kdict (pe_glob (v := .ref b) hg m rfl hd) ha.pe hs) fun σ H Q q => ?_⟩
  obtain ⟨ρ, η, h, rs, rh, p⟩ := q
  have p : Po X W (rD X) σ η H ((ma ρ h).bind fun x h1 => ixG l x h1) Q := p
  refine tM.mono (fun y H1 ⟨d1, η1, h1, s1, r1, q1, p1⟩ => ?_) (Po.seq (R1 := rD X) rs rh p)
  cases d1 with
  | str z =>
    cases q1
    rcases kd_at hl en z with ⟨u, d, v, e1, e2, r, qd⟩ | ⟨e1, e2⟩
    · have p2 : Po X W (rD X) σ η1 H1 (match lkG l z with | some d => .ok d h1 | none => .stuck) Q := p1
      rw [e2] at p2
      exact ⟨b, z, v, rfl, rfl, ⟨es, n, u, hl, hk, e1, r⟩, Po.scal p2 r1 (qd _ _)⟩
    · have p2 : Po X W (rD X) σ η1 H1 (match lkG l z with | some d => .ok d h1 | none => .stuck) Q := p1
      rw [e2] at p2
      exact p2.elim
  | _ => exact p1.elim
end
/-! the module's tuples -/
mutual
def GV (K : PySem.W.Frag) : D → Value → Prop
  | .non, u => u = .none
  | .bl b, u => u = .bool b
  | .int i, u => ∃ t, u = .int i t
  | .str x, u => ∃ t, u = .str x t
  | .tup l, u => ∃ a od its n sl, u = .ref a ∧ K.lookup a = some ⟨.type "tuple", od, .seq its n, sl⟩ ∧ its.size ≤ sizeLine ∧ GVs K l its.toList
  | _, _ => False
def GVs (K : PySem.W.Frag) : List D → List Value → Prop
  | [], us => us = []
  | d :: l, us => ∃ u r, us = u :: r ∧ GV K d u ∧ GVs K l r
end
mutual
theorem GV.rd {K : PySem.W.Frag} : ∀ (d : D) (u : Value), GV K d u → ∃ v, RelV v u ∧ ∀ η H, RD K η H d v
  | .non, u, h => by cases (show u = .none from h); exact ⟨.non, rfl, fun _ _ => rfl⟩
  | .bl b, u, h => by cases (show u = .bool b from h); exact ⟨.bl b, rfl, fun _ _ => rfl⟩
  | .int i, u, h => by obtain ⟨t, rfl⟩ := h; exact ⟨.int i, ⟨t, rfl⟩, fun _ _ => rfl⟩
  | .str x, u, h => by obtain ⟨t, rfl⟩ := h; exact ⟨.str x, ⟨t, rfl⟩, fun _ _ => rfl⟩
  | .tup l, u, h => by
    obtain ⟨a, od, its, n, sl, rfl, e, z, g⟩ := h
    obtain ⟨xs, rv, q⟩ := GVs.rd l its.toList g
    exact ⟨.ref a, rfl, fun η H => ⟨a, xs, rfl, .inr ⟨_, its, n, e, rfl, rfl, z, rv⟩, q η H⟩⟩
  | .lst l, u, h => by cases h
  | .dic l, u, h => by cases h
  | .scr l, u, h => by cases h
  | .ref l, u, h => by cases h
  | .ty l, u, h => by cases h
theorem GVs.rd {K : PySem.W.Frag} : ∀ (l : List D) (us : List Value), GVs K l us → ∃ xs, Vals xs us ∧ ∀ η H, RDs K η H l xs
  | [], us, h => by cases (show us = [] from h); exact ⟨[], .nil, fun _ _ => rfl⟩
  | d :: l, us, h => by
    obtain ⟨u, r, rfl, g, gs⟩ := h
    obtain ⟨v, r1, q1⟩ := GV.rd d u g
    obtain ⟨xs, r2, q2⟩ := GVs.rd l r gs
    exact ⟨v :: xs, .cons r1 r2, fun η H => ⟨v, xs, rfl, q1 η H, q2 η H⟩⟩
end
theorem GlobAt.gv {K : PySem.W.Frag} {mg : Str → Option Value} {x : Str} {d : D} {u : Value} (m : mg x = some u) (g : GV K d u) : GlobAt K mg x d := by
  obtain ⟨v, r, q⟩ := GV.rd d u g
  exact ⟨u, v, m, r, q⟩
end
end Ev

/-! EvT: index of texts and of the module's tuples of texts. -/
namespace Ev
open PySem PySem.Spec PyProof.Rows L2
/-- a tuple of texts of the module -/
def TupV (K : PySem.W.Frag) (zs : List Str) (u : Value) : Prop := ∃ a its n sl, u = .ref a ∧ K.lookup a = some ⟨.type "tuple", none, .seq its n, sl⟩ ∧ its.size ≤ sizeLine ∧ Vals (zs.map V.str) its.toList
structure TupAt (K : PySem.W.Frag) (mg : Str → Option Value) (x : Str) (zs : List Str) : Prop where
  ex : ∃ u, mg x = some u ∧ TupV K zs u
section
variable {X : Cx} {W : WX} {σ : L2.St} {η : Ad} {H : Hp} {h : Hh} {Q : VK} {pos : Pos}
def tidxG (zs : List Str) (l : List D) (h : Hh) : Res D := match l with
  | [.str z] => (match zs.findIdx? (fun y => decide (y = z)) with
    | some j => .ok (.int ((j : Nat) : Int)) h
    | none => .stuck)
  | _ => .stuck
theorem me_tidxG {x : Str} {zs : List Str} {a : Expr} {ms : EM (List D)} {p2 apos cpos : Pos} (hg : Gl X x) (G : TupAt X.K X.mg x zs) (ha : MA X W [a] ms) (hd : (x == ("__debug__" : Str)) = false := by decide)
    (hbase : attributeBase (.Name x p2) "index" X.env (eval (.Name x p2) X.env) = eval (.Name x p2) X.env := by rfl)
    (hfew : ((backTo cpos (starEach [a] X.env)).all (fun x => !x.1) && (backToKw cpos (keywordEach [] X.env)).all (fun x => x.1.isSome)
      && decide ([a].length + ([] : List Keyword).length + (if ([] : List Keyword).isEmpty then 0 else 1) < 30)) = true := by rfl)
    (hline : (apos.endLine == cpos.line) = true := by rfl) (hs : starEach [a] X.env = (false, eval a X.env) :: starEach [] X.env := by rfl) (hplain : (backTo cpos (starEach [] X.env)).any (·.1) = false := by rfl) :
    ME X W (.Call (.Attribute (.Name x p2) "index" apos) [a] [] cpos) (callE (tidxG zs) ms) := by
  obtain ⟨u, hm, b, its, n, sl, rfl, hl, hz, hv⟩ := G.ex
  refine ⟨PE.wk (pe_bm PySem.F.plainAttrs_tuple PySem.F.slot_tuple_index PySem.F.type_tuple_index mt_tup_index (pe_glob (v := .ref b) hg hm rfl hd) ha.pa hbase hfew hline hs hplain) fun σ H Q q => ?_⟩
  refine ⟨.inr (.inl ⟨rfl, _, hl, rfl, rfl⟩), ?_⟩
  refine tM.mono (fun xs H1 ⟨ρ, l, η1, h1, rs, r1, q1, e, p1⟩ => ?_) (tM.args ha q)
  unfold tidxG at p1
  split at p1
  · rename_i z
    obtain ⟨v, rfl, r⟩ := rds1 q1
    cases r
    split at p1
    · rename_i j ej
      obtain ⟨h1, h2, h3⟩ := List.findIdx?_eq_some_iff_getElem.mp ej
      refine ⟨b, zs, z, j, rfl, rfl, .inr ⟨_, its, n, hl, rfl, rfl, hz, hv⟩, ?_, fun m hm e => ?_, Po.scal p1 r1 rfl⟩
      · rw [List.getElem?_eq_getElem h1]
        exact congrArg some (of_decide_eq_true h2)
      · obtain ⟨h4, h5⟩ := List.getElem?_eq_some_iff.mp e
        exact h3 m hm (decide_eq_true h5)
    · exact p1.elim
  · exact p1.elim
def isStr (d : D) (h : Hh) : Prop := ∃ x, d = .str x
theorem ty_str : TyD X "str" isStr := by
  rintro η H h a x rh ra ⟨z, rfl⟩
  cases ra
  exact rfl
def sidxD (a : D) (l : List D) (h : Hh) : Res D := match a with
  | .str a => (match l with
    | [.str b] => (match Builtin.Str.occurrences a b 0 a.length 1 with
      | i :: _ => .ok (.int ((i : Nat) : Int)) h
      | [] => .stuck)
    | _ => .stuck)
  | _ => .stuck
theorem md_sidx : MtD X W "str" (fun x xs H Q => ∃ a b i rest, x = .str a ∧ xs = [.str b] ∧ Builtin.Str.occurrences a b 0 a.length 1 = i :: rest ∧ Q (.int (i : Nat)) H) sidxD := by
  intro σ η H h a l x xs Q rh ra rl p
  unfold sidxD at p
  split at p
  · rename_i a
    cases ra
    split at p
    · rename_i b
      obtain ⟨v, rfl, r⟩ := rds1 rl
      cases r
      split at p
      · rename_i i rest e
        exact ⟨a, b, i, rest, rfl, rfl, e, Po.scal p rh rfl⟩
      · exact p.elim
    · exact p.elim
  · exact p.elim
/-! range down -/
def rngDn (i : Int) (n : Nat) : List D := (List.range n).map fun t : Nat => .int (i - (t : Int))
def rng3D (l : List D) (h : Hh) : Res IT := match l with
  | [.int i, .int j, .int c] => if i62 i ∧ i62 j ∧ c = -1 then .ok ⟨rngDn i (i - j).toNat, none⟩ h else .stuck
  | _ => .stuck
def rng3I (ms : EM (List D)) : EM IT := fun ρ h => (ms ρ h).bind rng3D
theorem wkR3 {i : Int} {n : Nat} : Wk X ⟨rngDn i n, none⟩ (Itc i (-1) n) η H := by
  intro η' H' h' s r c
  refine ⟨by show n ≤ (rngDn i n).length; unfold rngDn; simp, fun k d ed => ?_⟩
  have ed : (rngDn i n)[k]? = some d := ed
  have hl : k < n := by
    have := (List.getElem?_eq_some_iff.mp ed).1
    unfold rngDn at this
    simpa using this
  have e1 : (rngDn i n)[k]? = some (.int (i - (k : Int))) := by
    unfold rngDn
    rw [List.getElem?_map, List.getElem?_range hl]
    rfl
  rw [e1] at ed
  cases ed
  refine ⟨hl, fun y H'' ⟨e1, e2⟩ => ?_⟩
  subst e1
  refine ⟨fun _ _ z => z, ?_⟩
  rw [e2]
  show V.int _ = V.int _
  congr 1
  omega
theorem mi_range3 {tg a b c : Expr} {p : Pos} {ms : EM (List D)} (hg : Gl X "range") (hm : X.mg "range" = none) (ha : MA X W [a, b, c] ms) (hs : starEach [a, b, c] X.env = (false, eval a X.env) :: starEach [b, c] X.env := by rfl) (hpl : (backTo pos (starEach [b, c] X.env)).any (·.1) = false := by rfl) :
    MI X W tg (.Call (.Name "range" p) [a, b, c] [] pos) (rng3I ms) :=
  ⟨PI.wk (pi_range3 hg hm ha.pa hs hpl) fun σ H R q => by
  refine tM.mono (fun xs H1 ⟨l, η1, h1, r1, q1, hl, p1⟩ => ?_) (tMI.args ha q)
  unfold rng3D at p1
  split at p1
  · rename_i i j c
    obtain ⟨v1, r, rfl, q1a, v2, r2, rfl, q1b, v3, r3, rfl, q1c, e⟩ := q1
    cases q1a; cases q1b; cases q1c; cases e
    split at p1
    · rename_i hz
      obtain ⟨hz1, hz2, rfl⟩ := hz
      unfold i62 at hz1 hz2
      exact ⟨i, j, -1, (i - j).toNat, rfl, RgC.neg (by omega) (by omega) (by omega) (by omega), p1 _ η1 H1 (.refl _ _) r1 wkR3⟩
    · exact p1.elim
  · exact p1.elim⟩
/-! setdefault -/
def setdD (o k v : D) (h : Hh) : Res D := match mdOf o h with
  | some (n, l) => if (keyD k).isSome = true ∧ l.length < sizeLine then (match lookD l k with
    | some d => .ok d h
    | none => .ok v (h.set n (.dic (putD l k v)))) else .stuck
  | none => .stuck
def setdE (mo mk mv : EM D) : EM D := fun ρ h => (mo ρ h).bind fun o h1 => match mdOf o h1 with
  | none => .stuck
  | some _ => (mk ρ h1).bind fun k h2 => (mv ρ h2).bind fun v h3 => setdD o k v h3
theorem me_setd {o e f : Expr} {mo mk mv : EM D} {apos cpos : Pos} (ho : ME X W o mo) (hk : ME X W e mk) (hv : ME X W f mv) (m : M2 X o "setdefault" apos e f cpos) : ME X W (.Call (.Attribute o "setdefault" apos) [e, f] [] cpos) (setdE mo mk mv) :=
  ⟨PE.wk (pe_dsetd ho.pe hk.pe hv.pe m) fun σ H Q q => by
  obtain ⟨ρ, η, h, rs, rh, p⟩ := q
  refine tM.mono (fun x H1 ⟨d, η1, h1, s1, r1, q1, p1⟩ => ?_) (Po.seq (R1 := rD X) rs rh p)
  split at p1
  · exact p1.elim
  · rename_i nl em
    obtain ⟨a, xs, rfl, ea, s, t⟩ := mdOf_of r1 q1 em
    refine ⟨a, rfl, .inl ⟨xs, .inl s⟩, ?_⟩
    refine tM.mono (fun y H2 ⟨k, η2, h2, s2, r2, q2, p2⟩ => ?_) (Po.seq (R1 := rD X) (rs.step s1) r1 p1)
    refine tM.mono (fun z H3 ⟨v, η3, h3, s3, r3, q3, p3⟩ => ?_) (Po.seq (R1 := rD X) ((rs.step s1).step s2) r2 p2)
    unfold setdD at p3
    split at p3
    · rename_i n l em3
      obtain ⟨a3, xs3, e3, ea3, t3, u3⟩ := mdOf_of r3 (RD.step (s2.trans s3) _ _ q1) em3
      cases e3
      split at p3
      · rename_i hz
        obtain ⟨k', ek⟩ := Option.isSome_iff_exists.mp hz.1
        have q2' := RD.step s3 _ _ q2
        have lk := lookD_of ek u3
        refine ⟨xs3, k', t3, keyD_of ek q2', by rw [rks_length u3]; exact hz.2, fun u eu => ?_, fun eu => ?_⟩
        · cases el : lookD l k with
          | none =>
            rw [el] at lk
            rw [lk] at eu
            cases eu
          | some d' =>
            rw [el] at lk p3
            obtain ⟨v', ev, rv⟩ := lk
            rw [ev] at eu
            cases eu
            exact Po.scal p3 r3 rv
        · cases el : lookD l k with
          | some d' =>
            rw [el] at lk
            obtain ⟨v', ev, rv⟩ := lk
            rw [ev] at eu
            cases eu
          | none =>
            rw [el] at p3
            have st : Step η3 H3 η3 (upd H3 a (.dK (putK xs3 k' z))) := r3.updS ea3 t3 trivial
            exact p3 z η3 _ st (r3.set ea3 t3 trivial ⟨_, upd_same, RKs.step st _ _ (rks_put u3 ek q3)⟩) (q3.step st)
      · exact p3.elim
    · exact p3.elim⟩
/-! += -/
def iaddD : D → D → Hh → Res D
  | .int i, .int j, h => .ok (.int (i + j)) h
  | .str i, .str j, h => if i.length + j.length ≤ sizeLine then .ok (.str (i ++ j)) h else .stuck
  | _, _, _ => .stuck
def rIadd : R2 := fun x y H Q => rI0 (fun i j => .int (i + j)) x y H Q ∨ (∃ i j, x = .str i ∧ y = .str j ∧ i.length + j.length ≤ sizeLine ∧ Q (.str (i ++ j)) H)
theorem iop_addS : OpR X (inplaceOp .Add) rIadd := iop_add.or iop_add_str
theorem od_iadd : OpD X W rIadd iaddD := by
  intro σ η H h a b x y Q rh ra rb p
  unfold iaddD at p
  split at p
  · rename_i i j
    cases ra; cases rb
    exact .inl ⟨i, j, rfl, rfl, Po.scal p rh rfl⟩
  · rename_i i j
    cases ra; cases rb
    split at p
    · rename_i hz
      exact .inr ⟨i, j, rfl, rfl, hz, Po.scal p rh rfl⟩
    · exact p.elim
  · exact p.elim
end
end Ev

set_option maxHeartbeats 2000000
/-! EvX: own exceptions whose __init__ says super().__init__(f'..') and self.f = f. -/
namespace PySem
namespace SupX
open PySem.W PySem.Calls PyProof.Rows PySem.HandSPX
def iA (f : Str) (p1 p2 : Pos) : Arguments := { posonlyargs := [], args := [{ arg := "self", annotation := none, pos := p1 }, { arg := f, annotation := none, pos := p2 }], vararg := none, kwonlyargs := [], kw_defaults := [], kwarg := none, defaults := [] }
def supE (pre f : Str) (n : Nat) (q1 q2 q3 q4 q5 q6 q7 q8 : Pos) : Expr := .Call (.Attribute (.Call (.Name "super" q1) [] [] q2) "__init__" q3) [.JoinedStr [.Constant (.str pre) n q4, .FormattedValue (.Name f q5) (-1) none q6] q7] [] q8
def asgE (f : Str) (r1 r2 r3 r4 : Pos) : Stmt := .Assign [.Attribute (.Name "self" r1) f r2] (.Name f r3) r4
def iS (f : Str) : Scope := { kind := .function, names := [(PySem.Str.ofString "self", .local), (f, .local), (PySem.Str.ofString "__class__", .free), (PySem.Str.ofString "super", .globalImplicit)], isGenerator := false, isCoroutine := false, more := [] }
/-- what the written part says of the class and its __init__ -/
structure XTxt (prog : Program) (K : Frag) (mg : Str → Option Value) (c f : Str) (C fI : Addr) : Prop where
  gC : mg c = some (.ref C)
  cls : ∃ nm q N bs bm sn sub ab col dd k0 k1 k2 k3 k5, K.lookup C = some (excClassObj nm q C N bs bm true sn sub ab col dd k0 k1 k2 k3 k5 "ValueError.__new__") ∧ refsVE bm = true
  sa : findIn K (.ref C) "__setattr__" = some (some (.builtin "object.__setattr__"))
  ga : findIn K (.ref C) "__getattribute__" = some (some (.builtin "BaseException.__getattribute__"))
  gg : findIn K (.ref C) "__getattr__" = some none
  noN : findIn K (.ref C) f = some none
  iC : findIn K (.ref C) "__init__" = some (some (.ref fI))
  tC : typeIn K (.ref fI) = some (.type "function")
  kC : keepIn K (.ref C) = true
  exC : subIn K (.ref C) (.type "BaseException") = some true
  veC : subIn K (.ref C) (.type "ValueError") = some true
  tyC : typeIn K (.ref C) = some (.type "type")
  hdC : hasDictIn K C = true
  te : exmOne K (.ref C) (.ref C) = some true
  sup : ks_superIn K C C "__init__" = some (some (.builtin "ValueError.__init__"))
  selfsub : mroIn K C (.ref C) = some true
  any : nsIn K cStatics "thirdparty.any" = some none
  gsup : mg "super" = none
  htop : (prog.main.scope.names.lookup ("super" : Str)).isSome = false
  nself : (("self" : Str) == f) = false
  ndb : (f == ("__debug__" : Str)) = false
  lself : (iS f).names.lookup ("self" : Str) = some .local
  lf : (iS f).names.lookup f = some .local
  lsup : (iS f).names.lookup ("super" : Str) = some .globalImplicit
  lcls : (iS f).names.lookup ("__class__" : Str) = some .free
  fn : ∃ (pre qual : Str) (n : Nat) (oc : Value) (od : Option Addr) (kV doc pm : Value) (an : Option Addr) (cda cc : Addr) (ct : Value) (osl : Array (Option Value)) (p1 p2 q1 q2 q3 q4 q5 q6 q7 q8 q9 r1 r2 r3 r4 : Pos),
    K.lookup fI = some ⟨oc, od, .func (ksFn "__init__" qual (iA f p1 p2) [.Expr (supE pre f n q1 q2 q3 q4 q5 q6 q7 q8) q9, asgE f r1 r2 r3 r4] (iS f) .none kV doc pm an (.ref cda) ct cc), osl⟩ ∧ codeIn K (.ref cda) qual = true ∧ pre.length ≤ 1000 ∧
    (∀ (s : Shared) (x v : Value), BindsTo s (ksFn "__init__" qual (iA f p1 p2) [.Expr (supE pre f n q1 q2 q3 q4 q5 q6 q7 q8) q9, asgE f r1 r2 r3 r4] (iS f) .none kV doc pm an (.ref cda) ct cc) ⟨[x, v], []⟩ [("self", x), (f, v)]) ∧
    (∃ pl : PySem.Env → Sem Bool, ∀ env : PySem.Env, eval (supE pre f n q1 q2 q3 q4 q5 q6 q7 q8) env = (do
      let ov ← attributeBase (.Call (.Name "super" q1) [] [] q2) "__init__" env (eval (.Call (.Name "super" q1) [] [] q2) env)
      standAt q3.atName
      let (fn, first) ← holding [ov] (getMethod ov "__init__" (pl env))
      callWith q8 fn first (backTo q8 (starEach [.JoinedStr [.Constant (.str pre) n q4, .FormattedValue (.Name f q5) (-1) none q6] q7] env)) [])) ∧
    (∃ cl cld csl, K.lookup cc = some ⟨cl, cld, .cell (some (.ref C)), csl⟩) ∧
    (∃ ccl cdd vs ccs file tf, K.lookup cda = some ⟨ccl, cdd, .fields vs, ccs⟩ ∧ vs[2]? = some (.str file tf) ∧ ((prog.main.file : Str) == file) = true)
/-- the call of super().__init__, as the tree says it -/
def SupEv (pre f : Str) (n : Nat) (q1 q2 q3 q4 q5 q6 q7 q8 : Pos) : Prop := ∃ pl : PySem.Env → Sem Bool, ∀ env : PySem.Env, eval (supE pre f n q1 q2 q3 q4 q5 q6 q7 q8) env = (do
  let ov ← attributeBase (.Call (.Name "super" q1) [] [] q2) "__init__" env (eval (.Call (.Name "super" q1) [] [] q2) env)
  standAt q3.atName
  let (fn, first) ← holding [ov] (getMethod ov "__init__" (pl env))
  callWith q8 fn first (backTo q8 (starEach [.JoinedStr [.Constant (.str pre) n q4, .FormattedValue (.Name f q5) (-1) none q6] q7] env)) [])
/-- an error of the class at S is what «except S» names -/
theorem exm_self {K : PySem.W.Frag} {S : Addr} (h1 : PySem.W.subIn K (.ref S) (.type "BaseException") = some true) (h2 : PySem.W.isClsIn K S = true) (h3 : PySem.W.typeIn K (.ref S) = some (.type "type")) (h4 : PySem.W.subIn K (.ref S) (.ref S) = some true) :
    PySem.W.exmOne K (.ref S) (.ref S) = some true := by
  have e1 : (PySem.W.subIn K (.ref S) (.type "BaseException") == some true) = true := by rw [h1] <;> rfl
  have e2 : ((PySem.W.clsIn K S).isSome && PySem.W.typeIn K (.ref S) == some (.type "type")) = true := by
    have h2' : (PySem.W.clsIn K S).isSome = true := h2
    rw [h2', h3] <;> rfl
  show (if (PySem.W.subIn K (.ref S) (.type "BaseException") == some true) = true then (if ((PySem.W.clsIn K S).isSome && PySem.W.typeIn K (.ref S) == some (.type "type")) = true then PySem.W.subIn K (.ref S) (.ref S) else none) else none) = some true
  rw [if_pos e1, if_pos e2]
  exact h4
/-- what can be said in the text of the exception -/
def fmtOk (v : Value) : Prop := (∃ y t, v = .str y t ∧ y.length ≤ 1000) ∨ ∃ i t, v = .int i t ∧ i.natAbs.log2 < 1920
theorem one_size (v : Value) : [v].length ≤ sizeLine := by
  rw [sizeLine_eq]
  exact (by decide : 1 ≤ 16777216)
section
variable {prog : Program} {w : World} {A : Around} {E : Value → Shared → Prop} {h : Heap} {g : Array GenState} {d : Drawn} {t : Nat} {os : OsState}
variable {nm q : Str} {C N : Addr} {bs bm : List Value} {hdct : Bool} {sn : List Str} {sub : List Value} {ab : Bool} {col : Option Bool} {dd : Option Addr} {k0 k1 k2 k3 k5 : Option Value}
theorem check_bound_own (hT : ∀ X : String, bm.contains (.type X) = ([.type "ValueError", .type "Exception", .type "BaseException", .type "object"] : List Value).contains (.type X)) {e : Addr} {oe : Obj} {rest : List Value} {Q : Unit → Shared → Prop}
    (hC : h.get? C = some (excClassObj nm q C N bs bm hdct sn sub ab col dd k0 k1 k2 k3 k5 "ValueError.__new__")) (he : h.get? e = some oe) (hcls : oe.cls = .ref C) (hq : Q () ⟨h, g, d, t, os⟩) :
    wpAny (model prog w) A (checkBoundCall "ValueError.__init__" ⟨.ref e :: rest, []⟩) Q E ⟨h, g, d, t, os⟩ := PySem.ESX.check_bound F.excBase_ValueError hC he hcls hq
theorem call_mw (hT : ∀ X : String, bm.contains (.type X) = ([.type "ValueError", .type "Exception", .type "BaseException", .type "object"] : List Value).contains (.type X)) {u e t0 : Addr} {rest : List Value} {Q : Value → Shared → Prop}
    (hC : h.get? C = some (excClassObj nm q C N bs bm hdct sn sub ab col dd k0 k1 k2 k3 k5 "ValueError.__new__")) (he : h.get? e = some (HandSPX.excO C t0)) (hu : h.get? u = some (kxs_mw "ValueError.__init__" e)) (hrest : rest.length ≤ sizeLine)
    (hq : ∀ h' t1, (∀ b o, b ≠ e → h.get? b = some o → h'.get? b = some o) → h'.get? e = some (HandSPX.excO C t1) → Q .none ⟨h', g, d, t, os⟩) :
    wpAny (model prog w) A (call (.ref u) rest) Q E ⟨h, g, d, t, os⟩ := by
  refine wpAny_call (codeAny_of_tree ?_)
  show wpAny _ A.in1 (callAny (.ref u) ⟨rest, []⟩) _ _ _
  simp only [callAny]
  refine wpAny_bind (wpAny_load hu ?_)
  simp only [kxs_mw, show (Value.type "method-wrapper" == Value.type "method" || Value.type "method-wrapper" == Value.type "builtin_function_or_method" || Value.type "method-wrapper" == Value.type "method-wrapper") = true by decide, if_true]
  refine W.KFB.if_so (by decide) ?_
  refine wpAny_bind (check_bound_own hT hC he rfl ?_)
  refine wpAny_bind (wpAny_pure (wpAny_pure ?_))
  refine ⟨Code.quiet_builtin _ (by decide +kernel), codeAny_builtin F.excBase_ValueError.initEntry ?_⟩
  rw [Around.under_plainId F.excBase_ValueError.init.plain _]
  wp_walk
  refine hq _ h.objs.size (fun b o hb ho => ?_) ?_
  · rw [Heap.get?_update_other _ _ (Ne.symm hb)]
    exact Heap.get?_push_of_some _ ho
  · rw [Heap.get?_update_self _ (Heap.get?_push_of_some _ he) rfl]
    rfl
end
/-- what __init__ leaves of a fresh exception at x -/
structure InitEnd (f : Str) (h h' : Heap) (x C dx t1 : Addr) (v : Value) : Prop where
  keep : ∀ b o, b ≠ x → h.get? b = some o → h'.get? b = some o
  obj : h'.get? x = some { cls := .ref C, dict := some dx, data := .fields #[.ref t1, .none, .none, .none, .bool false, .none] }
  dbig : h.objs.size ≤ dx
  dne : dx ≠ x
  ns : h'.Ns1 dx (fun y => if y = f then some v else none)
/-- a made one -/
structure OwnMade (f : Str) (h h' : Heap) (e C d : Addr) (v : Value) : Prop where
  keep : ∀ b o, h.get? b = some o → h'.get? b = some o
  new : h.objs.size ≤ e
  obj : ∃ oe vs, h'.get? e = some oe ∧ oe.cls = .ref C ∧ oe.dict = some d ∧ oe.data = .fields vs ∧ vs[1]? = some .none
  dbig : h.objs.size ≤ d
  dne : d ≠ e
  ns : h'.Ns1 d (fun y => if y = f then some v else none)
section
variable {prog : Program} {w : World} {A : Around} {E : Value → Shared → Prop} {R : Result → Shared → Prop} {s : Shared} {K : Frag} {mg : Str → Option Value} {c f : Str} {C fI : Addr} {base : Heap}
theorem fmt_text {v : Value} (hf : fmtOk v) {pre : Str} (hp : pre.length ≤ 1000) {A : Around} {E : Value → Shared → Prop} {s : Shared} {Q : Value → Shared → Prop}
    (h : ∀ y t s', (pre ++ y).length ≤ sizeLine → s'.heap = s.heap → s'.gens = s.gens → s'.drawn = s.drawn → s'.os = s.os → Q (.str y t) s') : wpAny (model prog w) A (formatField v Str.empty) Q E s := by
  rcases hf with ⟨y, t, rfl, hy⟩ | ⟨i, t, rfl, hi⟩
  · have hz : (pre ++ y).length ≤ sizeLine := by
      rw [strLen_append, sizeLine_eq]
      omega
    exact wpAny_formatField_str (h y t s hz rfl rfl rfl rfl) (h y _ _ hz rfl rfl rfl rfl) (by rw [sizeLine_eq]; omega)
  · refine wpAny_formatField_int hi (h _ _ _ ?_ rfl rfl rfl rfl)
    have e := int_text_length_le (k := 1920) (by decide) hi
    rw [strLen_append, ofString_length, sizeLine_eq]
    omega
theorem kept_but {K : Frag} {h h' : Heap} {x : Addr} (X : K.In h) (hx : K.lookup x = none) (k : ∀ b o, b ≠ x → h.get? b = some o → h'.get? b = some o) : K.In h' := fun a o e =>
  k a o (fun z => by rw [z, hx] at e; cases e) (X a o e)
theorem sup_init (T : XTxt prog K mg c f C fI) (Y : L2.Mod K mg base) (bk : ∀ b o, base.get? b = some o → s.heap.get? b = some o) {x t0 : Addr} {v : Value} (X : K.In s.heap) (hlim : s.heap.NoLimit) (hx : s.heap.get? x = some (excO C t0)) (hnx : K.lookup x = none)
    (hroom : A.depth < recursionLimit) (hf : fmtOk v) (hq : ∀ h' tk dx t1, InitEnd f s.heap h' x C dx t1 v → R (.ok (.ret .none)) { s with heap := h', toks := tk }) :
    codeAny (model prog w) A (.call (.ref fI) ⟨[.ref x, v], []⟩) R s := by
  obtain ⟨pre, qual, n, oc, od, kV, doc, pm, an, cda, cc, ct, osl, p1, p2, q1, q2, q3, q4, q5, q6, q7, q8, q9, r1, r2, r3, r4, ho, hcd, hpre, hbind, ⟨pl, hev⟩, ⟨cl, cld, csl, hcell⟩, ⟨ccl, cdd, vs, ccs, file, tf, hcode, hvs, hfile⟩⟩ := T.fn
  obtain ⟨nm, q, N, bs, bm, sn, sub, ab, col, dd, k0, k1, k2, k3, k5, hC, hbm⟩ := T.cls
  have hcl : clsIn K C = some { name := nm, bases := bs, mro := .ref C :: bm, ns := N, qualname := q, hasDict := true, slotNames := sn, subclasses := sub, abstract := ab, collection := col, hasDel := false } := by unfold clsIn; rw [hC] <;> rfl
  have hnc : ∀ y ∈ (iS f).names, y.2 ≠ .cell := by
    intro y hy
    simp only [iS, List.mem_cons, List.not_mem_nil, or_false] at hy
    rcases hy with rfl | rfl | rfl | rfl <;> exact fun h => nomatch h
  refine ks_codeAny_call_defAt (fd := ksFn "__init__" qual (iA f p1 p2) [.Expr (supE pre f n q1 q2 q3 q4 q5 q6 q7 q8) q9, asgE f r1 r2 r3 r4] (iS f) .none kV doc pm an (.ref cda) ct cc) (body := [.Expr (supE pre f n q1 q2 q3 q4 q5 q6 q7 q8) q9, asgE f r1 r2 r3 r4]) (binds := [("self", .ref x), (f, v)])
    hroom (X _ _ ho) rfl hlim (codeRec_of X hcd) rfl (hbind s (.ref x) v) hnc (fun y hy => ?_) (fun h₁ hns k => ?_) rfl rfl rfl
  · simp only [List.mem_cons, List.not_mem_nil, or_false] at hy
    rcases hy with rfl | rfl
    · exact T.lself
    · exact T.lf
  obtain ⟨hp, g, d, t, os⟩ := s
  have hxL : hp.objs.size ≠ x := Nat.ne_of_gt (Heap.lt_size hx)
  have X₁ : K.In h₁ := X.keeps k
  have hx₁ := k _ _ hx
  have hk : (iS f).kind = .function := rfl
  have mself : ([(("self" : Str), Value.ref x), (f, v)] : List (Str × Value)).reverse.lookup ("self" : Str) = some (Value.ref x) := by
    show ([(f, v), (("self" : Str), Value.ref x)] : List (Str × Value)).lookup ("self" : Str) = _
    rw [List.lookup_cons, T.nself]
    simp
  have mf : ([(("self" : Str), Value.ref x), (f, v)] : List (Str × Value)).reverse.lookup f = some v := by
    show ([(f, v), (("self" : Str), Value.ref x)] : List (Str × Value)).lookup f = _
    rw [List.lookup_cons]
    simp
  refine ks_wpAt_execs_cons (ks_wpAt_Expr_any (ks_wpAt_MethodCall (he := hev _) ?_))
  refine ks_wpAt_super_base T.lsup T.lcls (by decide) rfl (X₁ _ _ ho) rfl rfl rfl (X₁ _ _ hcode) rfl hvs hfile T.htop ?_
  obtain ⟨mb, b1, b2⟩ := Y.blt
  have bk₁ : ∀ b o, base.get? b = some o → h₁.get? b = some o := fun b o e => k b o (bk b o e)
  refine ks_loadName_global hk T.lsup (loadGlobal_builtin (Y.glob.keeps bk₁) T.gsup (b1.keeps bk₁) ((b2 _ (by decide)).trans (show bootBuiltins "super" = some (.type "super") from by first | rfl | kernel_rfl)) ⟨rfl, ?_⟩)
  refine wpAny_loadName_free hk T.lcls rfl ⟨_, X₁ _ _ hcell, rfl⟩ ?_
  refine wpAny_loadName_local hk T.lself hns mself ?_
  have hD1 := X₁ _ _ hC
  refine ks_wpAny_isType_cls hD1 rfl ⟨rfl, ?_⟩
  refine ks_wpAny_call_super hD1 rfl hx₁ rfl (fun c e => nomatch e) (looks_mroIn X₁ T.selfsub) (fun h₂ e₂ k₂ => ?_)
  have X₂ : K.In h₂ := X₁.keeps k₂
  have hx₂ := k₂ _ _ hx₁
  have hxC : x ≠ C := fun z => by
    rw [z] at hnx
    rw [hnx] at hC
    cases hC
  have hsup : alongIn K "__init__" (((.ref C :: bm : List Value).dropWhile (· != .ref C)).drop 1) = some (some (.builtin "ValueError.__init__")) := by
    have := T.sup
    unfold ks_superIn at this
    rw [hcl] at this
    exact this
  have LT : Looks (model prog w) h₂ (typeOf (.ref x)) (.ref C) := fun A Q E s k q => wpAny_typeOf_ref (k _ _ hx₂) q
  have hI : Looks (model prog w) h₂ (isInstance (.ref x) (.type "ValueError")) true := LT.andThen (looks_subIn X₂ T.veC)
  refine kxs_getMethod kxs_ValueError e₂ (looks_opaque X₂ T.any) (l₀ := .ref C :: bm) ((looks_clsIn X₂ hcl).andThen .now) rfl X₂ hsup hI hxC (by decide) ?_
  have hbt : ∀ env : PySem.Env, backTo q8 (starEach [.JoinedStr [.Constant (.str pre) n q4, .FormattedValue (.Name f q5) (-1) none q6] q7] env) = [(false, eval (.JoinedStr [.Constant (.str pre) n q4, .FormattedValue (.Name f q5) (-1) none q6] q7) env)] := fun _ => rfl
  rw [hbt]
  have hu : (h₂.push (kxs_mw "ValueError.__init__" x)).get? h₂.objs.size = some (kxs_mw "ValueError.__init__" x) := Heap.get?_push_at rfl rfl
  have k₃ : ∀ b o, h₂.get? b = some o → (h₂.push (kxs_mw "ValueError.__init__" x)).get? b = some o := fun b o e => Heap.get?_push_of_some _ e
  have hns₃ : (h₂.push (kxs_mw "ValueError.__init__" x)).Ns hp.objs.size (fun y => ([(("self" : Str), Value.ref x), (f, v)] : List (Str × Value)).reverse.lookup y) := (hns.keeps k₂).keeps k₃
  have pz : pre.length ≤ sizeLine := by rw [sizeLine_eq]; omega
  refine kxs_callWith (i := "ValueError.__init__") (x := x) rfl (evalArgs_plain (spliced_cons ?_))
  refine wpAny_JoinedStr ?_
  have lens : ∀ y : Str, (pre ++ y).length ≤ sizeLine → (Str.empty ++ pre ++ y).length ≤ sizeLine := fun y hy => by
    rw [strLen_append] at hy ⊢
    rw [strLen_append]
    have : Str.empty.length = 0 := rfl
    omega
  refine Constant_str ⟨pre, _, rfl, by rw [strLen_append]; have : Str.empty.length = 0 := rfl; omega, ?_⟩
  refine wpAny_FormattedValue_plain (wpAny_Name (wpAny_loadName_local hk T.lf hns₃ mf ?_) T.ndb)
  refine fmt_text hf hpre fun y tt s' hz e1 e2 e3 e4 => ⟨y, tt, rfl, lens y hz, lens y hz, ?_⟩
  obtain ⟨hp', g', d', t', os'⟩ := s'
  cases e1; cases e2; cases e3; cases e4
  refine spliced_nil ⟨hu, ?_⟩
  have hC₃ := k₃ _ _ (X₂ _ _ hC)
  refine call_mw (fun Y => refsVE_contains Y bm hbm) hC₃ (k₃ _ _ hx₂) hu (one_size _) fun h₄ t4 k₄ hx₄ => ?_
  have nx : ∀ {b : Addr} {o : Obj}, K.lookup b = some o → b ≠ x := fun {b o} e z => by rw [z, hnx] at e; cases e
  have X₄ : K.In h₄ := kept_but (X₂.keeps k₃) hnx k₄
  have hns₄ : h₄.Ns hp.objs.size (fun y => ([(("self" : Str), Value.ref x), (f, v)] : List (Str × Value)).reverse.lookup y) := by
    obtain ⟨oL, es, ep, hL, r⟩ := hns₃
    exact ⟨oL, es, ep, k₄ _ _ hxL hL, r⟩
  refine wpAt_of_wpAny (wpAny_execs_cons (plainObj_wpAny_Assign_Attribute ?_))
  refine wpAny_Name (wpAny_loadName_local hk T.lf hns₄ mf ?_) T.ndb
  refine wpAny_Name (wpAny_loadName_local hk T.lself hns₄ mself ?_) (by decide)
  refine set_plain X₄ (ox := excO C t4) (od := none) ⟨hx₄, rfl, rfl, trivial⟩ T.sa ?_
  refine exc_osa X₄ hx₄ hcl (show refsVE (.ref C :: bm) = true from hbm) rfl T.noN (fun h₅ tk₅ dx k₅ dn dne hx₅ hn₅ => ?_)
  show wpAny _ _ (execs _ _) _ _ _
  have z : hp.objs.size < h₄.objs.size := hns₄.lt
  exact wpAny_execs_nil (hq h₅ tk₅ dx t4 ⟨fun b o hb e => k₅ b o hb (k₄ b o hb (k₃ b o (k₂ b o (k b o e)))), hx₅, Nat.le_of_lt (Nat.lt_of_lt_of_le z dn), dne, hn₅⟩)
theorem sup_made (T : XTxt prog K mg c f C fI) (Y : L2.Mod K mg base) (bk : ∀ b o, base.get? b = some o → s.heap.get? b = some o) {v : Value} (X : K.In s.heap) (hlim : s.heap.NoLimit) (hroom : A.depth + 1 < recursionLimit) (hf : fmtOk v)
    (hq : ∀ h' tk e d, OwnMade f s.heap h' e C d v → R (.ok (.ret (.ref e))) { s with heap := h', toks := tk }) :
    codeAny (model prog w) A (.call (.ref C) ⟨[v], []⟩) R s := by
  obtain ⟨nm, q, N, bs, bm, sn, sub, ab, col, dd, k0, k1, k2, k3, k5, hC, hbm⟩ := T.cls
  obtain ⟨hp, g, dr, tk, os⟩ := s
  have k : ∀ b o, hp.get? b = some o → ((hp.push (kdv_tup [v])).push (excO C hp.objs.size)).get? b = some o := fun b o e => Heap.get?_push_of_some _ (Heap.get?_push_of_some _ e)
  have hget : ((hp.push (kdv_tup [v])).push (excO C hp.objs.size)).get? (hp.objs.size + 1) = some (excO C hp.objs.size) := by heap_get
  have hnx : K.lookup (hp.objs.size + 1) = none := by
    cases e : K.lookup (hp.objs.size + 1) with
    | none => rfl
    | some o =>
      have z : hp.get? (hp.objs.size + 1) = some o := X _ _ e
      exact absurd (Nat.lt_of_succ_lt (Heap.lt_size z)) (Nat.lt_irrefl _)
  refine call_own F.excBase_ValueError (fun X => refsVE_contains X bm hbm) (X _ _ hC) (looks_findIn X T.iC) (fun self => bind_fn X self T.tC) (one_size v) ?_
  refine sup_init (s := ⟨(hp.push (kdv_tup [v])).push (excO C hp.objs.size), g, dr, tk, os⟩) T Y (fun b o e => k b o (bk b o e)) (X.keeps k) (hlim.keeps k) hget hnx ?_ hf fun h' tk' dx t1 ⟨k', hx, dn, dne, hns⟩ => ?_
  · show A.depth + 1 < recursionLimit
    exact hroom
  · have old : ∀ b o, hp.get? b = some o → h'.get? b = some o := fun b o e => k' b o (Nat.ne_of_lt (Nat.lt_succ_of_lt (Heap.lt_size e))) (k b o e)
    have z : hp.objs.size + 1 + 1 ≤ dx := by
      first
        | (simpa only [Heap.size_push] using dn)
        | exact dn
        | (have q := dn; rw [Heap.size_push, Heap.size_push] at q; exact q)
    exact ⟨rfl, hq h' tk' (hp.objs.size + 1) dx ⟨old, Nat.le_succ _, ⟨_, _, hx, rfl, rfl, rfl, rfl⟩, Nat.le_trans (Nat.le_trans (Nat.le_succ _) (Nat.le_succ _)) z, dne, hns⟩⟩
end
end SupX
end PySem
namespace L2
open PySem PySem.Spec PyProof.Rows
theorem relO_sup {f : Str} {v : V} {v' : Value} (r : RelV v v') (g : Str) : RelO (List.lookup g [((f : Str), v)]) (if g = f then some v' else none) := by
  by_cases hw : g = f
  · subst hw
    rw [if_pos rfl]
    have q : List.lookup g [((g : Str), v)] = some v := by simp [List.lookup]
    rw [q]
    exact r
  · rw [if_neg hw]
    have qw : (g == f) = false := by simpa using hw
    have q2 : List.lookup g [((f : Str), v)] = none := by simp [List.lookup, qw]
    rw [q2]
    trivial
section
variable {X : Cx} {c f : Str} {C fI : Addr}
/-- a text or an int that can be told -/
def fmtV (v : V) : Prop := (∃ y : Str, v = .str y ∧ y.length ≤ 1000) ∨ ∃ i : Int, v = .int i ∧ i.natAbs.log2 < 1920
theorem fmtV_ok {v : V} {u : Value} (h : fmtV v) (r : RelV v u) : PySem.SupX.fmtOk u := by
  rcases h with ⟨y, rfl, hy⟩ | ⟨i, rfl, hi⟩
  · obtain ⟨t, rfl⟩ := r
    exact .inl ⟨y, t, rfl, hy⟩
  · obtain ⟨t, rfl⟩ := r
    exact .inr ⟨i, t, rfl, hi⟩
def tMkSup (f : Str) (C : Addr) (ta : TA) : St → Hp → XK → Prop := fun σ H Q => ta σ H fun vs H1 => ∃ v, vs = [v] ∧ fmtV v ∧ ∀ d, H1 d = none → Q (.ref C) (some d) (upd H1 d (.xd [(f, v)]))
theorem pmk_sup {a : Expr} {ta : TA} {p pos : Pos} {k : Nat} (T : PySem.SupX.XTxt X.prog X.K X.mg c f C fI) (hr : Room k X.A) (ha : PA X [a] ta) (hg : Gl X c := by rfl) (hdb : (c == ("__debug__" : Str)) = false := by decide)
    (he : starEach (a :: []) X.env = (false, eval a X.env) :: starEach [] X.env := by rfl) (hpl : (backTo pos (starEach [] X.env)).any (·.1) = false := by rfl) :
    PMk X (.Call (.Name c p) [a] [] pos) (tMkSup f C ta) := by
  intro pins s σ H Q I h
  refine wpAny_Call_Name_kw (ld_glob I hg T.gC ?_ hdb)
  refine PySem.W.callWith_K (h₀ := X.base) I.ok.mod.kin T.kC (thn (ha.run pos pins s σ H _ I h) fun us s1 hh => ?_) he hpl
  obtain ⟨vs, H1, I1, r1, v, ev, hf, q1⟩ := hh
  subst ev
  refine ⟨I1.kIn, ?_⟩
  cases r1 with
  | cons rv rn =>
    rename_i v' us'
    cases rn
    show wpAny _ _ (call (.ref C) [v']) _ _ _
    have hlim := I1.nolimit
    have hbk := I1.bk
    obtain ⟨hp, g, dr, tk, os⟩ := s1
    refine wpAny_call (PySem.SupX.sup_made T I1.mod hbk I1.kIn hlim (by have := hr.dp; omega) (fmtV_ok hf rv) fun h' tk' e d M => ?_)
    show MkP X pins σ Q (.ref e) ⟨h', g, dr, tk', os⟩
    obtain ⟨oe, fv, hoe, hc, hd, hdat, h1⟩ := M.obj
    have hns := M.ns
    obtain ⟨G', g1, g2⟩ := restrict h' fun b => decide (b ≠ e)
    have gk : ∀ b, b ≠ e → G'.get? b = h'.get? b := fun b hb => g1 b (decide_eq_true hb)
    have ge : G'.get? e = none := g2 e (by simp)
    have old : ∀ b o, hp.get? b = some o → G'.get? b = some o := fun b o q => (gk b (Nat.ne_of_lt (Nat.lt_of_lt_of_le (Heap.lt_size q) M.new))).trans (M.keep b o q)
    have ob : ObjOk X.prog X.w (upd H1 d (.xd [(f, v)])) G' d (.xd [(f, v)]) :=
      ⟨_, hns.at (fun o q => (gk d M.dne).trans q), fun g => relO_sup rv g⟩
    have J : Inv X pins σ (upd H1 d (.xd [(f, v)])) ⟨G', g, dr, tk', os⟩ := I1.laid (t' := tk') old M.dbig ob
    refine ⟨e, oe, fv, ⟨G', g, dr, tk', os⟩, _, .ref C, some d, rfl, J, fun b o q => ?_, ge, hoe, ⟨hc, hd⟩, hdat, h1, ?_, rfl, I1.bare, raises_own T.exC T.tyC, q1 d (I1.hok.fresh M.dbig)⟩
    · by_cases hb : b = e
      · have q' : G'.get? b = some o := q
        rw [hb, ge] at q'; cases q'
      · exact (gk b hb).symm.trans q
    · rw [upd_ne (Ne.symm M.dne)]
      exact I1.hok.fresh M.new
end
end L2

/-! EvY: raise and try of own exceptions. -/
namespace Ev
open PySem PySem.Spec PyProof.Rows L2
open PySem.SupX (XTxt)
section
variable {X : Cx} {W : WX} {σ : L2.St} {η : Ad} {H : Hp} {h : Hh} {pos : Pos} {c f : Str} {C fI : Addr}
def fmtD : D → Bool
  | .str y => decide (y.length ≤ 1000)
  | .int i => decide (i.natAbs.log2 < 1920)
  | _ => false
theorem fmt_of {d : D} {v : V} (h : fmtD d = true) (r : RD X.K η H d v) : fmtV v := by
  cases d with
  | str y => cases r; exact .inl ⟨y, rfl, of_decide_eq_true h⟩
  | int i => cases r; exact .inr ⟨i, rfl, of_decide_eq_true h⟩
  | _ => cases h
def rsE (c f : Str) (ρ : Env) (l : List D) (h : Hh) : SR := match l with
  | [d] => if fmtD d = true then .rs c [(f, d)] ρ h else .stuck
  | _ => .stuck
def raiseS (c f : Str) (m : EM (List D)) : SS := fun ρ h => toS (m ρ h) ρ (rsE c f ρ)
theorem ms_raise (gx : GX X W) (T : XTxt X.prog X.K X.mg c f C fI) {k : Nat} (hr : Room k X.A) {a : Expr} {ms : EM (List D)} {p cpos : Pos} (ha : MA X W [a] ms) (hg : Gl X c := by rfl) (hdb : (c == ("__debug__" : Str)) = false := by decide)
    (he : starEach (a :: []) X.env = (false, eval a X.env) :: starEach [] X.env := by rfl) (hpl : (backTo cpos (starEach [] X.env)).any (·.1) = false := by rfl) :
    MS X W (.Raise (some (.Call (.Name c p) [a] [] cpos)) none pos) (raiseS c f ms) :=
  ⟨PS.wk (ps_raise gx.calm gx.tk (pmk_sup T hr ha.pa hg hdb he hpl)) fun E σ H q => by
  obtain ⟨ρ, η, h, rs, rh, p⟩ := q
  refine tM.mono (fun xs H1 ⟨l, η1, h1, s1, r1, q1, p1⟩ => ?_) (PoS.seq (R1 := rA X) rs rh p)
  unfold rsE at p1
  split at p1
  · rename_i d
    obtain ⟨v, rfl, r⟩ := rds1 q1
    split at p1
    · rename_i hf
      refine ⟨v, rfl, fmt_of hf r, fun d' hd' => ?_⟩
      have st : Step η1 H1 η1 (upd H1 d' (.xd [(f, v)])) := r1.new1S hd'
      exact p1 σ η1 _ C (some d') st ((rs.step s1).step st) (r1.new1 hd') T.gC ⟨[(f, v)], upd_same, v, [], rfl, r.step st, rfl⟩
    · exact p1.elim
  · exact p1.elim⟩
/-! what a suite says of the exception in slot i -/
structure SX (X : Cx) (i : Nat) (C : Addr) (e : Expr) (g : List (Str × D) → Env → Option D) : Prop where
  se : ∀ (a : Addr) (oe : Obj) (cls : Value) (d : Option Addr) (pn : List (Addr × Obj)), Zc cls d oe → (∃ vs, oe.data = .fields vs) → PE (X.suite a ((a, oe) :: pn)) e (fun σ H Q => ∃ ρ η h fs dd gs d0, RS X.K η H σ ρ ∧ RH X.K X.mg η H h ∧
    σ[i]? = some (some (.ref a)) ∧ cls = .ref C ∧ d = some dd ∧ H dd = some (.xd gs) ∧ RFs X.K η H fs gs ∧ g fs ρ = some d0 ∧ ∀ v, RD X.K η H d0 v → Q v H)
theorem rfs_look {K : PySem.W.Frag} {n : Str} : ∀ {fs : List (Str × D)} {gs : List (Str × V)} {d : D}, RFs K η H fs gs → fs.lookup n = some d → ∃ v, gs.lookup n = some v ∧ RD K η H d v
  | [], _, _, _, e => by cases e
  | (k, d1) :: fs, gs, d, r, e => by
    obtain ⟨x, r', rfl, rd, t⟩ := r
    rw [List.lookup_cons] at e ⊢
    by_cases hk : n == k
    · rw [hk] at e ⊢
      cases e
      exact ⟨x, rfl, rd⟩
    · rw [Bool.not_eq_true] at hk
      rw [hk] at e ⊢
      exact rfs_look t e
def fldX (n : Str) (fs : List (Str × D)) (_ : Env) : Option D := fs.lookup n
def varX (j : Nat) (_ : List (Str × D)) (ρ : Env) : Option D := (ρ[j]?).join
def cX (d : D) (_ : List (Str × D)) (_ : Env) : Option D := some d
def eqX (g1 g2 : List (Str × D) → Env → Option D) (fs : List (Str × D)) (ρ : Env) : Option D := match g1 fs ρ, g2 fs ρ with
  | some a, some b => if scalD a b = true then some (.bl (eqvD a b)) else none
  | _, _ => none
theorem sx_fld {i : Nat} {n x : Str} {p : Pos} (T : XTxt X.prog X.K X.mg c n C fI) (hN : X.N[i]? = some x := by rfl) (hv : Vis X.env.scope x := by first | exact Or.inl rfl | exact Or.inr (Or.inl rfl) | exact Or.inr (Or.inr rfl)) (hd : (x == ("__debug__" : Str)) = false := by decide)
    (hcd : (x == ("__classdict__" : Str)) = false := by decide) (hb : attributeBase (.Name x p) n X.env (eval (.Name x p) X.env) = eval (.Name x p) X.env := by rfl) : SX X i C (.Attribute (.Name x p) n pos) (fldX n) :=
  ⟨fun a oe cls d pn hz hf => PE.wk (pe_xf ⟨T.ga, T.gg, T.exC, T.hdC⟩ T.noN hz hf (pe_var (i := i) hN hv hd hcd) hb) fun σ H Q ⟨ρ, η, h, fs, dd, gs, d0, rs, rh, e1, e2, e3, e4, e5, e6, e7⟩ => by
    obtain ⟨v, ev, rv⟩ := rfs_look e5 e6
    exact ⟨.ref a, e1, rfl, e2, dd, gs, v, e3, e4, ev, e7 v rv⟩⟩
theorem sx_var {i j : Nat} {x : Str} (hN : X.N[j]? = some x := by rfl) (hv : Vis X.env.scope x := by first | exact Or.inl rfl | exact Or.inr (Or.inl rfl) | exact Or.inr (Or.inr rfl)) (hd : (x == ("__debug__" : Str)) = false := by decide)
    (hcd : (x == ("__classdict__" : Str)) = false := by decide) : SX X i C (.Name x pos) (varX j) :=
  ⟨fun a oe cls d pn hz hf => PE.wk (pe_var (i := j) hN hv hd hcd) fun σ H Q ⟨ρ, η, h, fs, dd, gs, d0, rs, rh, e1, e2, e3, e4, e5, e6, e7⟩ => by
    have e8 : ρ[j]? = some (some d0) := by
      have e6 : (ρ[j]?).join = some d0 := e6
      cases e : ρ[j]? with
      | none => rw [e] at e6; cases e6
      | some o => rw [e] at e6; rw [show o = some d0 from e6]
    obtain ⟨v, ev, rd⟩ := rs.at_ j d0 e8
    exact ⟨v, ev, e7 v rd⟩⟩
theorem sx_str {i n : Nat} {x : Str} : SX X i C (.Constant (.str x) n pos) (cX (.str x)) :=
  ⟨fun a oe cls d pn hz hf => PE.wk pe_str fun σ H Q ⟨ρ, η, h, fs, dd, gs, d0, rs, rh, e1, e2, e3, e4, e5, e6, e7⟩ => by cases e6; exact e7 _ rfl⟩
theorem sx_int {i n : Nat} {x : Int} : SX X i C (.Constant (.int x) n pos) (cX (.int x)) :=
  ⟨fun a oe cls d pn hz hf => PE.wk pe_int fun σ H Q ⟨ρ, η, h, fs, dd, gs, d0, rs, rh, e1, e2, e3, e4, e5, e6, e7⟩ => by cases e6; exact e7 _ rfl⟩
theorem sx_non {i n : Nat} : SX X i C (.Constant .none n pos) (cX .non) :=
  ⟨fun a oe cls d pn hz hf => PE.wk pe_non fun σ H Q ⟨ρ, η, h, fs, dd, gs, d0, rs, rh, e1, e2, e3, e4, e5, e6, e7⟩ => by cases e6; exact e7 _ rfl⟩
theorem sx_bl {i n : Nat} {b : Bool} : SX X i C (.Constant (.bool b) n pos) (cX (.bl b)) :=
  ⟨fun a oe cls d pn hz hf => PE.wk pe_bl fun σ H Q ⟨ρ, η, h, fs, dd, gs, d0, rs, rh, e1, e2, e3, e4, e5, e6, e7⟩ => by cases e6; exact e7 _ rfl⟩
theorem sx_eq {i : Nat} {a b : Expr} {g1 g2 : List (Str × D) → Env → Option D} (ha : SX X i C a g1) (hb : SX X i C b g2) (hm : lastMarks [.Eq] [b] = false := by with_unfolding_all rfl) : SX X i C (.Compare a [.Eq] [b] pos) (eqX g1 g2) :=
  ⟨fun a oe cls d pn hz hf => PE.wk (pe_cmpR op_eq (ha.se a oe cls d pn hz hf) (hb.se a oe cls d pn hz hf) hm) fun σ H Q ⟨ρ, η, h, fs, dd, gs, d0, rs, rh, e1, e2, e3, e4, e5, e6, e7⟩ => by
    unfold eqX at e6
    split at e6
    · rename_i x y ex ey
      split at e6
      · rename_i hs
        cases e6
        refine ⟨ρ, η, h, fs, dd, gs, x, rs, rh, e1, e2, e3, e4, e5, ex, fun v rv => ⟨ρ, η, h, fs, dd, gs, y, rs, rh, e1, e2, e3, e4, e5, ey, fun u ru => ?_⟩⟩
        obtain ⟨s1, s2⟩ := scal_of hs rv ru
        exact ⟨s1, by rw [s2]; exact e7 _ rfl⟩
      · cases e6
    · cases e6⟩
structure SU (X : Cx) (i : Nat) (C : Addr) (sts : List Stmt) (u : List (Str × D) → SS) : Prop where
  su : ∀ (a : Addr) (oe : Obj) (cls : Value) (d : Option Addr) (pn : List (Addr × Obj)), Zc cls d oe → (∃ vs, oe.data = .fields vs) → PSs (X.suite a ((a, oe) :: pn)) sts (fun E σ H => ∃ ρ η h fs dd gs d0 h0, RS X.K η H σ ρ ∧ RH X.K X.mg η H h ∧
    σ[i]? = some (some (.ref a)) ∧ cls = .ref C ∧ d = some dd ∧ H dd = some (.xd gs) ∧ RFs X.K η H fs gs ∧ u fs ρ h = .ret d0 h0 ∧ PoS X W0 η H (.ret d0 h0) E)
def retX (g : List (Str × D) → Env → Option D) (fs : List (Str × D)) : SS := fun ρ h => match g fs ρ with
  | some d => .ret d h
  | none => .stuck
theorem su_ret {i : Nat} {e : Expr} {g : List (Str × D) → Env → Option D} (he : SX X i C e g) : SU X i C [.Return (some e) pos] (retX g) :=
  ⟨fun a oe cls d pn hz hf => PSs.wk (pss_one (ps_ret (he.se a oe cls d pn hz hf))) fun E σ H ⟨ρ, η, h, fs, dd, gs, d0, h0, rs, rh, e1, e2, e3, e4, e5, e6, e7⟩ => by
    unfold retX at e6
    split at e6
    · rename_i d1 ed
      cases e6
      exact ⟨ρ, η, h, fs, dd, gs, d0, rs, rh, e1, e2, e3, e4, e5, ed, fun v rv => e7 v η H (.refl _ _) rh rv⟩
    · cases e6⟩
def retX2 (g1 g2 : List (Str × D) → Env → Option D) (fs : List (Str × D)) : SS := fun ρ h => match g1 fs ρ, g2 fs ρ with
  | some a, some b => .ret (.tup [a, b]) h
  | _, _ => .stuck
theorem su_ret2 {i kk : Nat} {e1 e2 : Expr} {p2 : Pos} {g1 g2 : List (Str × D) → Env → Option D} (h1 : SX X i C e1 g1) (h2 : SX X i C e2 g2) (s1 : starEach [e1, e2] X.env = (false, eval e1 X.env) :: starEach [e2] X.env := by rfl) (s2 : starEach [e2] X.env = (false, eval e2 X.env) :: starEach [] X.env := by rfl) : SU X i C [.Return (some (.Tuple [e1, e2] kk p2)) pos] (retX2 g1 g2) :=
  ⟨fun a oe cls d pn hz hf => PSs.wk (pss_one (ps_ret (pe_tup (pa_cons (hs := s1) (h1.se a oe cls d pn hz hf) (pa_cons (hs := s2) (h2.se a oe cls d pn hz hf) pa_nil))))) fun E σ H ⟨ρ, η, h, fs, dd, gs, d0, h0, rs, rh, e1, e2, e3, e4, e5, e6, e7⟩ => by
    unfold retX2 at e6
    split at e6
    · rename_i d1 d2 ed1 ed2
      cases e6
      refine ⟨ρ, η, h, fs, dd, gs, d1, rs, rh, e1, e2, e3, e4, e5, ed1, fun v1 rv1 => ⟨ρ, η, h, fs, dd, gs, d2, rs, rh, e1, e2, e3, e4, e5, ed2, fun v2 rv2 => ?_⟩⟩
      refine ⟨(by show 2 ≤ sizeLine; decide), fun p n => ?_⟩
      have := Ev.newT (X := X) (p := p) (l := [d1, d2]) (xs := [v1, v2]) n rh ⟨v1, [v2], rfl, rv1, v2, [], rfl, rv2, rfl⟩
      exact e7 _ η _ (rh.new1S n) this.1 this.2
    · cases e6⟩
/-! try -/
def tryS (c : Str) (i : Nat) (m : SS) (u : List (Str × D) → SS) : SS := fun ρ h => match m ρ h with
  | .rs cc fs ρ2 h2 => if cc = c ∧ fs ≠ [] ∧ i < ρ2.length then (match u fs (ρ2.set i none) h2 with
    | .ret d h3 => .ret d h3
    | _ => .stuck) else .stuck
  | r => r
theorem ms_try (gx : GX X W) (T : XTxt X.prog X.K X.mg c f C fI) {i : Nat} {n : Str} {body suite : List Stmt} {b₀ : Stmt} {np pos' : Pos} {m : SS} {u : List (Str × D) → SS} (hs : X.stack = X.env :: X.outer) (hf : X.env.frame = some X.env.locals) (hi : X.N[i]? = some n) (hln : X.env.kindOf n = some .local)
    (hb : ∀ (W' : WX) (pn : List (Addr × Obj)) (xe : Value → Shared → Prop), GX (X.tr pn xe) W' → MB (X.tr pn xe) W' body m) (hu : SU X i C (b₀ :: suite) u) (hg : Gl X c := by rfl) (hdb : (c == ("__debug__" : Str)) = false := by decide) :
    MS X W (.Try body [.ExceptHandler (some (.Name c np)) (some n) (b₀ :: suite) pos'] [] [] pos) (tryS c i m u) :=
  ⟨PS.wk (ps_try_as (i := i) (tb := fun W' => tS X W' m) (Wout := W) hs hf gx.nd hi hln ⟨hg, hdb, .inl T.gC⟩ gx.tk (fun W' pn xe tk po => (hb W' pn xe ⟨tk, po, gx.calm, gx.nd, gx.un⟩).ps) (fun a oe cls d pn hz hf' => hu.su a oe cls d pn hz hf')) fun E σ H q => by
  obtain ⟨ρ, η, h, rs, rh, p⟩ := q
  refine ⟨ρ, η, h, rs, rh, ?_⟩
  unfold tryS at p
  cases e : m ρ h with
  | nx ρ2 h2 => rw [e] at p; exact p
  | ret d h2 => rw [e] at p; exact p
  | bk ρ2 h2 => rw [e] at p; exact p
  | ct ρ2 h2 => rw [e] at p; exact p
  | stuck => rw [e] at p; exact p
  | rs cc fs ρ2 h2 =>
    rw [e] at p
    simp only at p
    split at p
    · rename_i hc
      obtain ⟨rfl, hne, hil2⟩ := hc
      split at p
      · rename_i d0 h3 eu
        intro σ' η' H' C2 dx st rs' rh' hm re
        have hC : C2 = C := by
          have := T.gC.symm.trans hm
          cases this
          rfl
        subst hC
        refine ⟨true, T.te, fun _ a na => ?_, fun z => nomatch z⟩
        cases dx with
        | none => exact absurd (show fs = [] from re) hne
        | some dd =>
          obtain ⟨gs, eg, rg⟩ := re
          have hil : i < σ'.length := by rw [rs'.len]; exact hil2
          refine ⟨ρ2.set i none, η', h2, fs, dd, gs, d0, h3, ⟨by rw [List.length_set, List.length_set]; exact rs'.len, fun j d ej => ?_⟩, rh', List.getElem?_set_self hil, rfl, rfl, eg, rg, eu, ?_⟩
          · by_cases hj : i = j
            · subst hj
              by_cases hl : i < ρ2.length
              · rw [List.getElem?_set_self hl] at ej; cases ej
              · rw [List.getElem?_eq_none (by rw [List.length_set]; omega)] at ej; cases ej
            · rw [List.getElem?_set_ne hj] at ej ⊢
              exact rs'.at_ j d ej
          · exact PoS.step (X := X) (W := W0) (r := .ret d0 h3) st p
      · exact p.elim
    · exact p.elim⟩
end
end Ev

/-! EvSimp: how the functions on values compute: rules for simp. -/
namespace Ev
open PySem PySem.Spec PyProof.Rows L2

section
variable {ρ : Env} {h : Hh} {a b m : EM D} {c : EM Bool} {x y : SS}
theorem seqS_nx {ρ' : Env} {h' : Hh} (e : x ρ h = .nx ρ' h') : seqS x y ρ h = y ρ' h' := by simp only [seqS, e]
def SR.andThen (r : SR) (y : SS) : SR := match r with
  | .nx ρ' h' => y ρ' h'
  | r => r
@[simp] theorem andThen_nx (ρ : Env) (h : Hh) (y : SS) : (SR.nx ρ h).andThen y = y ρ h := (rfl)
@[simp] theorem andThen_ret (d : D) (h : Hh) (y : SS) : (SR.ret d h).andThen y = .ret d h := (rfl)
@[simp] theorem andThen_bk (ρ : Env) (h : Hh) (y : SS) : (SR.bk ρ h).andThen y = .bk ρ h := (rfl)
@[simp] theorem andThen_ct (ρ : Env) (h : Hh) (y : SS) : (SR.ct ρ h).andThen y = .ct ρ h := (rfl)
@[simp] theorem andThen_rs (c : Str) (fs : List (Str × D)) (ρ : Env) (h : Hh) (y : SS) : (SR.rs c fs ρ h).andThen y = .rs c fs ρ h := (rfl)
@[simp] theorem andThen_stuck (y : SS) : SR.stuck.andThen y = .stuck := (rfl)
theorem andThen_ite (p : Prop) [Decidable p] (r s : SR) (y : SS) : (if p then r else s).andThen y = if p then r.andThen y else s.andThen y := by split <;> rfl
theorem seqS_run : seqS x y ρ h = (x ρ h).andThen y := (rfl)
@[simp] theorem nilS_run : nilS ρ h = .nx ρ h := (rfl)
theorem exprS_run : exprS m ρ h = toS (m ρ h) ρ fun _ h1 => .nx ρ h1 := (rfl)
theorem retS_run : retS m ρ h = toS (m ρ h) ρ fun d h1 => .ret d h1 := (rfl)
@[simp] theorem retN_run : retN ρ h = .ret .non h := (rfl)
@[simp] theorem brkS_run : brkS ρ h = .bk ρ h := (rfl)
@[simp] theorem contS_run : contS ρ h = .ct ρ h := (rfl)
theorem ifS_run : ifS c x y ρ h = toS (c ρ h) ρ fun b h1 => if b = true then x ρ h1 else y ρ h1 := (rfl)
theorem setS_run (i : Nat) : setS i m ρ h = toS (m ρ h) ρ fun d h1 => .nx (ρ.set i (some d)) h1 := (rfl)
theorem asgS_run (g : GM) : asgS m g ρ h = toS (m ρ h) ρ fun d h1 => match g d ρ with
  | some ρ' => .nx ρ' h1
  | none => .stuck := (rfl)
theorem putS_run (mo mi : EM D) : putS m mo mi ρ h = toS (m ρ h) ρ fun v h1 => toS (mo ρ h1) ρ fun o h2 => toS (mi ρ h2) ρ fun i h3 => match putO o i v h3 with
  | some h4 => .nx ρ h4
  | none => .stuck := (rfl)
@[simp] theorem varE_run (i : Nat) (d : D) (e : ρ[i]? = some (some d)) : varE i ρ h = .ok d h := by unfold varE; rw [e]
@[simp] theorem cE_run (d : D) : cE d ρ h = .ok d h := (rfl)
theorem binE_run (g : D → D → Hh → Res D) : binE g a b ρ h = (a ρ h).bind fun x h1 => (b ρ h1).bind fun y h2 => g x y h2 := (rfl)
theorem unE_run (g : D → Hh → Res D) : unE g a ρ h = (a ρ h).bind fun x h1 => g x h1 := (rfl)
theorem tstE_run : tstE m ρ h = (m ρ h).bind asB := (rfl)
@[simp] theorem asB_run (b : Bool) : asB (.bl b) h = .ok b h := (rfl)
theorem andT_run (c d : EM Bool) : andT c d ρ h = (c ρ h).bind fun x h1 => if x = true then d ρ h1 else .ok false h1 := (rfl)
theorem orT_run (c d : EM Bool) : orT c d ρ h = (c ρ h).bind fun x h1 => if x = true then .ok true h1 else d ρ h1 := (rfl)
theorem notT_run : notT c ρ h = (c ρ h).bind fun x h1 => .ok (!x) h1 := (rfl)
theorem andE_run : andE a b ρ h = ((a ρ h).bind asB).bind fun x h1 => if x = true then b ρ h1 else .ok (.bl false) h1 := (rfl)
theorem orE_run : orE a b ρ h = ((a ρ h).bind asB).bind fun x h1 => if x = true then .ok (.bl true) h1 else b ρ h1 := (rfl)
theorem notE_run : notE a ρ h = ((a ρ h).bind asB).bind fun x h1 => .ok (.bl (!x)) h1 := (rfl)
theorem ifE_run : ifE c a b ρ h = (c ρ h).bind fun x h1 => if x = true then a ρ h1 else b ρ h1 := (rfl)
@[simp] theorem nilA_run : nilA ρ h = .ok [] h := (rfl)
theorem consA_run (r : EM (List D)) : consA m r ρ h = (m ρ h).bind fun d h1 => (r ρ h1).bind fun l h2 => .ok (d :: l) h2 := (rfl)
theorem tupE_run (ms : EM (List D)) : tupE ms ρ h = (ms ρ h).bind fun l h1 => .ok (.tup l) h1 := (rfl)
theorem lstE_run (ms : EM (List D)) : lstE ms ρ h = (ms ρ h).bind fun l h1 => .ok (.lst l) h1 := (rfl)
theorem lstH_run (ms : EM (List D)) : lstH ms ρ h = (ms ρ h).bind newL := (rfl)
@[simp] theorem newL_run (l : List D) : newL l h = .ok (.ref h.length) (h ++ [.lst l]) := (rfl)
theorem callE_run (g : List D → Hh → Res D) (ms : EM (List D)) : callE g ms ρ h = (ms ρ h).bind g := (rfl)
@[simp] theorem noPart_run : noPart ρ h = .ok none h := (rfl)
theorem partE_run : partE m ρ h = (m ρ h).bind asI := (rfl)
@[simp] theorem asI_run (i : Int) : asI (.int i) h = .ok (some i) h := (rfl)
theorem slE_run (g : D → Option Int → Option Int → Hh → Res D) (ml mh : EM (Option Int)) : slE g m ml mh ρ h = (m ρ h).bind fun d h1 => (ml ρ h1).bind fun lo h2 => (mh ρ h2).bind fun hi h3 => g d lo hi h3 := (rfl)
theorem bind_ite {α β : Type} (p : Prop) [Decidable p] (r s : Res α) (f : α → Hh → Res β) : (if p then r else s).bind f = if p then r.bind f else s.bind f := by split <;> rfl
theorem toS_ite {α : Type} (p : Prop) [Decidable p] (r s : Res α) (ρ : Env) (f : α → Hh → SR) : toS (if p then r else s) ρ f = if p then toS r ρ f else toS s ρ f := by split <;> rfl
/-! the parts in turn: no function is a rule's argument, so that simp runs the parts first -/
variable {d d1 d2 : D} {h1 h2 h3 h4 : Hh} {ρ1 ρ2 : Env} {b1 : Bool} {l1 : List D}
def k_bin2 (g : D → D → Hh → Res D) (x : D) (r : Res D) : Res D := match r with
  | .ok y h => g x y h
  | .raise c fs h => .raise c fs h
  | .stuck => .stuck
@[simp] theorem k_bin2_ok (g : D → D → Hh → Res D) (x : D) (y : D) (h : Hh) : k_bin2 g x (.ok y h) = g x y h := (rfl)
def k_bin1 (g : D → D → Hh → Res D) (b : EM D) (ρ : Env) (r : Res D) : Res D := match r with
  | .ok x h => k_bin2 g x (b ρ h)
  | .raise c fs h => .raise c fs h
  | .stuck => .stuck
@[simp] theorem k_bin1_ok (g : D → D → Hh → Res D) (b : EM D) (ρ : Env) (x : D) (h : Hh) : k_bin1 g b ρ (.ok x h) = k_bin2 g x (b ρ h) := (rfl)
@[simp] theorem k_bin (g : D → D → Hh → Res D) (a b : EM D) (ρ : Env) (h : Hh) : binE g a b ρ h = k_bin1 g b ρ (a ρ h) := by unfold binE; cases a ρ h with
  | ok x h => simp only [bind_ok, k_bin1_ok]; cases b ρ h <;> rfl
  | _ => rfl
def k_un1 (g : D → Hh → Res D) (r : Res D) : Res D := match r with
  | .ok x h => g x h
  | .raise c fs h => .raise c fs h
  | .stuck => .stuck
@[simp] theorem k_un1_ok (g : D → Hh → Res D) (x : D) (h : Hh) : k_un1 g (.ok x h) = g x h := (rfl)
@[simp] theorem k_un (g : D → Hh → Res D) (a : EM D) (ρ : Env) (h : Hh) : unE g a ρ h = k_un1 g (a ρ h) := by unfold unE; cases a ρ h <;> rfl
def k_tst1  (r : Res D) : Res Bool := match r with
  | .ok x h => asB x h
  | .raise c fs h => .raise c fs h
  | .stuck => .stuck
@[simp] theorem k_tst1_ok  (x : D) (h : Hh) : k_tst1  (.ok x h) = asB x h := (rfl)
@[simp] theorem k_tst (a : EM D) (ρ : Env) (h : Hh) : tstE a ρ h = k_tst1 (a ρ h) := by unfold tstE; cases a ρ h <;> rfl
def k_and1 (d : EM Bool) (ρ : Env) (r : Res Bool) : Res Bool := match r with
  | .ok x h => if x = true then d ρ h else .ok false h
  | .raise c fs h => .raise c fs h
  | .stuck => .stuck
@[simp] theorem k_and1_ok (d : EM Bool) (ρ : Env) (x : Bool) (h : Hh) : k_and1 d ρ (.ok x h) = if x = true then d ρ h else .ok false h := (rfl)
@[simp] theorem k_and (c d : EM Bool) (ρ : Env) (h : Hh) : andT c d ρ h = k_and1 d ρ (c ρ h) := by unfold andT; cases c ρ h <;> rfl
def k_or1 (d : EM Bool) (ρ : Env) (r : Res Bool) : Res Bool := match r with
  | .ok x h => if x = true then .ok true h else d ρ h
  | .raise c fs h => .raise c fs h
  | .stuck => .stuck
@[simp] theorem k_or1_ok (d : EM Bool) (ρ : Env) (x : Bool) (h : Hh) : k_or1 d ρ (.ok x h) = if x = true then .ok true h else d ρ h := (rfl)
@[simp] theorem k_or (c d : EM Bool) (ρ : Env) (h : Hh) : orT c d ρ h = k_or1 d ρ (c ρ h) := by unfold orT; cases c ρ h <;> rfl
def k_not1  (r : Res Bool) : Res Bool := match r with
  | .ok x h => .ok (!x) h
  | .raise c fs h => .raise c fs h
  | .stuck => .stuck
@[simp] theorem k_not1_ok  (x : Bool) (h : Hh) : k_not1  (.ok x h) = .ok (!x) h := (rfl)
@[simp] theorem k_not (c : EM Bool) (ρ : Env) (h : Hh) : notT c ρ h = k_not1 (c ρ h) := by unfold notT; cases c ρ h <;> rfl
def k_andE2 (b : EM D) (ρ : Env) (r : Res Bool) : Res D := match r with
  | .ok x h => if x = true then b ρ h else .ok (.bl false) h
  | .raise c fs h => .raise c fs h
  | .stuck => .stuck
@[simp] theorem k_andE2_ok (b : EM D) (ρ : Env) (x : Bool) (h : Hh) : k_andE2 b ρ (.ok x h) = if x = true then b ρ h else .ok (.bl false) h := (rfl)
def k_orE2 (b : EM D) (ρ : Env) (r : Res Bool) : Res D := match r with
  | .ok x h => if x = true then .ok (.bl true) h else b ρ h
  | .raise c fs h => .raise c fs h
  | .stuck => .stuck
@[simp] theorem k_orE2_ok (b : EM D) (ρ : Env) (x : Bool) (h : Hh) : k_orE2 b ρ (.ok x h) = if x = true then .ok (.bl true) h else b ρ h := (rfl)
def k_notE2  (r : Res Bool) : Res D := match r with
  | .ok x h => .ok (.bl (!x)) h
  | .raise c fs h => .raise c fs h
  | .stuck => .stuck
@[simp] theorem k_notE2_ok  (x : Bool) (h : Hh) : k_notE2  (.ok x h) = .ok (.bl (!x)) h := (rfl)
@[simp] theorem k_andE (a b : EM D) (ρ : Env) (h : Hh) : andE a b ρ h = k_andE2 b ρ (k_tst1 (a ρ h)) := by
  unfold andE
  cases a ρ h with
  | ok x h => rw [bind_ok, k_tst1_ok]; cases asB x h <;> rfl
  | _ => rfl
@[simp] theorem k_orE (a b : EM D) (ρ : Env) (h : Hh) : orE a b ρ h = k_orE2 b ρ (k_tst1 (a ρ h)) := by
  unfold orE
  cases a ρ h with
  | ok x h => rw [bind_ok, k_tst1_ok]; cases asB x h <;> rfl
  | _ => rfl
@[simp] theorem k_notE (a : EM D) (ρ : Env) (h : Hh) : notE a ρ h = k_notE2 (k_tst1 (a ρ h)) := by
  unfold notE
  cases a ρ h with
  | ok x h => rw [bind_ok, k_tst1_ok]; cases asB x h <;> rfl
  | _ => rfl
def k_ifE1 (a : EM D) (b : EM D) (ρ : Env) (r : Res Bool) : Res D := match r with
  | .ok x h => if x = true then a ρ h else b ρ h
  | .raise c fs h => .raise c fs h
  | .stuck => .stuck
@[simp] theorem k_ifE1_ok (a : EM D) (b : EM D) (ρ : Env) (x : Bool) (h : Hh) : k_ifE1 a b ρ (.ok x h) = if x = true then a ρ h else b ρ h := (rfl)
@[simp] theorem k_ifE (c : EM Bool) (a b : EM D) (ρ : Env) (h : Hh) : ifE c a b ρ h = k_ifE1 a b ρ (c ρ h) := by unfold ifE; cases c ρ h <;> rfl
def k_cons2 (d : D) (r : Res (List D)) : Res (List D) := match r with
  | .ok l h => .ok (d :: l) h
  | .raise c fs h => .raise c fs h
  | .stuck => .stuck
@[simp] theorem k_cons2_ok (d : D) (l : List D) (h : Hh) : k_cons2 d (.ok l h) = .ok (d :: l) h := (rfl)
def k_cons1 (m : EM (List D)) (ρ : Env) (r : Res D) : Res (List D) := match r with
  | .ok d h => k_cons2 d (m ρ h)
  | .raise c fs h => .raise c fs h
  | .stuck => .stuck
@[simp] theorem k_cons1_ok (m : EM (List D)) (ρ : Env) (d : D) (h : Hh) : k_cons1 m ρ (.ok d h) = k_cons2 d (m ρ h) := (rfl)
@[simp] theorem k_cons (a : EM D) (m : EM (List D)) (ρ : Env) (h : Hh) : consA a m ρ h = k_cons1 m ρ (a ρ h) := by unfold consA; cases a ρ h with
  | ok x h => simp only [bind_ok, k_cons1_ok]; cases m ρ h <;> rfl
  | _ => rfl
def k_tup1  (r : Res (List D)) : Res D := match r with
  | .ok l h => .ok (.tup l) h
  | .raise c fs h => .raise c fs h
  | .stuck => .stuck
@[simp] theorem k_tup1_ok  (l : List D) (h : Hh) : k_tup1  (.ok l h) = .ok (.tup l) h := (rfl)
@[simp] theorem k_tup (m : EM (List D)) (ρ : Env) (h : Hh) : tupE m ρ h = k_tup1 (m ρ h) := by unfold tupE; cases m ρ h <;> rfl
def k_lst1  (r : Res (List D)) : Res D := match r with
  | .ok l h => .ok (.lst l) h
  | .raise c fs h => .raise c fs h
  | .stuck => .stuck
@[simp] theorem k_lst1_ok  (l : List D) (h : Hh) : k_lst1  (.ok l h) = .ok (.lst l) h := (rfl)
@[simp] theorem k_lst (m : EM (List D)) (ρ : Env) (h : Hh) : lstE m ρ h = k_lst1 (m ρ h) := by unfold lstE; cases m ρ h <;> rfl
def k_lstH1  (r : Res (List D)) : Res D := match r with
  | .ok l h => newL l h
  | .raise c fs h => .raise c fs h
  | .stuck => .stuck
@[simp] theorem k_lstH1_ok  (l : List D) (h : Hh) : k_lstH1  (.ok l h) = newL l h := (rfl)
@[simp] theorem k_lstH (m : EM (List D)) (ρ : Env) (h : Hh) : lstH m ρ h = k_lstH1 (m ρ h) := by unfold lstH; cases m ρ h <;> rfl
def k_call1 (g : List D → Hh → Res D) (r : Res (List D)) : Res D := match r with
  | .ok l h => g l h
  | .raise c fs h => .raise c fs h
  | .stuck => .stuck
@[simp] theorem k_call1_ok (g : List D → Hh → Res D) (l : List D) (h : Hh) : k_call1 g (.ok l h) = g l h := (rfl)
@[simp] theorem k_call (g : List D → Hh → Res D) (m : EM (List D)) (ρ : Env) (h : Hh) : callE g m ρ h = k_call1 g (m ρ h) := by unfold callE; cases m ρ h <;> rfl
def k_part1  (r : Res D) : Res (Option Int) := match r with
  | .ok x h => asI x h
  | .raise c fs h => .raise c fs h
  | .stuck => .stuck
@[simp] theorem k_part1_ok  (x : D) (h : Hh) : k_part1  (.ok x h) = asI x h := (rfl)
@[simp] theorem k_part (a : EM D) (ρ : Env) (h : Hh) : partE a ρ h = k_part1 (a ρ h) := by unfold partE; cases a ρ h <;> rfl
def k_sl3 (g : D → Option Int → Option Int → Hh → Res D) (d : D) (lo : Option Int) (r : Res (Option Int)) : Res D := match r with
  | .ok hi h => g d lo hi h
  | .raise c fs h => .raise c fs h
  | .stuck => .stuck
@[simp] theorem k_sl3_ok (g : D → Option Int → Option Int → Hh → Res D) (d : D) (lo : Option Int) (hi : Option Int) (h : Hh) : k_sl3 g d lo (.ok hi h) = g d lo hi h := (rfl)
def k_sl2 (g : D → Option Int → Option Int → Hh → Res D) (d : D) (mh : EM (Option Int)) (ρ : Env) (r : Res (Option Int)) : Res D := match r with
  | .ok lo h => k_sl3 g d lo (mh ρ h)
  | .raise c fs h => .raise c fs h
  | .stuck => .stuck
@[simp] theorem k_sl2_ok (g : D → Option Int → Option Int → Hh → Res D) (d : D) (mh : EM (Option Int)) (ρ : Env) (lo : Option Int) (h : Hh) : k_sl2 g d mh ρ (.ok lo h) = k_sl3 g d lo (mh ρ h) := (rfl)
def k_sl1 (g : D → Option Int → Option Int → Hh → Res D) (ml : EM (Option Int)) (mh : EM (Option Int)) (ρ : Env) (r : Res D) : Res D := match r with
  | .ok d h => k_sl2 g d mh ρ (ml ρ h)
  | .raise c fs h => .raise c fs h
  | .stuck => .stuck
@[simp] theorem k_sl1_ok (g : D → Option Int → Option Int → Hh → Res D) (ml : EM (Option Int)) (mh : EM (Option Int)) (ρ : Env) (d : D) (h : Hh) : k_sl1 g ml mh ρ (.ok d h) = k_sl2 g d mh ρ (ml ρ h) := (rfl)
@[simp] theorem k_sl (g : D → Option Int → Option Int → Hh → Res D) (a : EM D) (ml mh : EM (Option Int)) (ρ : Env) (h : Hh) : slE g a ml mh ρ h = k_sl1 g ml mh ρ (a ρ h) := by
  unfold slE
  cases a ρ h with
  | ok x h =>
    simp only [bind_ok, k_sl1_ok]
    cases ml ρ h with
    | ok lo h => simp only [bind_ok, k_sl2_ok]; cases mh ρ h <;> rfl
    | _ => rfl
  | _ => rfl
open Classical in
noncomputable def k_meth2 (g : D → List D → Hh → Res D) (o : D) (r : Res (List D)) : Res D := match r with
  | .ok l h => g o l h
  | .raise c fs h => .raise c fs h
  | .stuck => .stuck
@[simp] theorem k_meth2_ok (g : D → List D → Hh → Res D) (o : D) (l : List D) (h : Hh) : k_meth2 g o (.ok l h) = g o l h := (rfl)
open Classical in
noncomputable def k_meth1 (ty : D → Hh → Prop) (g : D → List D → Hh → Res D) (m : EM (List D)) (ρ : Env) (r : Res D) : Res D := match r with
  | .ok o h => if ty o h then k_meth2 g o (m ρ h) else .stuck
  | .raise c fs h => .raise c fs h
  | .stuck => .stuck
open Classical in
@[simp] theorem k_meth1_ok (ty : D → Hh → Prop) (g : D → List D → Hh → Res D) (m : EM (List D)) (ρ : Env) (o : D) (h : Hh) : k_meth1 ty g m ρ (.ok o h) = if ty o h then k_meth2 g o (m ρ h) else .stuck := (rfl)
@[simp] theorem k_meth (ty : D → Hh → Prop) (g : D → List D → Hh → Res D) (a : EM D) (m : EM (List D)) (ρ : Env) (h : Hh) : methE ty g a m ρ h = k_meth1 ty g m ρ (a ρ h) := by
  unfold methE
  cases a ρ h with
  | ok o h =>
    rw [bind_ok, k_meth1_ok]
    congr 1
    cases m ρ h <;> rfl
  | _ => rfl
def k_seq1 (y : SS) (r : SR) : SR := r.andThen y
@[simp] theorem k_seq1_nx (y : SS) (ρ : Env) (h : Hh) : k_seq1 y (.nx ρ h) = y ρ h := (rfl)
@[simp] theorem k_seq1_ret (y : SS) (d : D) (h : Hh) : k_seq1 y (.ret d h) = .ret d h := (rfl)
@[simp] theorem k_seq1_bk (y : SS) (ρ : Env) (h : Hh) : k_seq1 y (.bk ρ h) = .bk ρ h := (rfl)
@[simp] theorem k_seq1_ct (y : SS) (ρ : Env) (h : Hh) : k_seq1 y (.ct ρ h) = .ct ρ h := (rfl)
@[simp] theorem k_seq1_rs (y : SS) (c : Str) (fs : List (Str × D)) (ρ : Env) (h : Hh) : k_seq1 y (.rs c fs ρ h) = .rs c fs ρ h := (rfl)
@[simp] theorem k_seq (x y : SS) (ρ : Env) (h : Hh) : seqS x y ρ h = k_seq1 y (x ρ h) := (rfl)
def k_expr1 (ρ : Env) (r : Res D) : SR := match r with
  | .ok _d h => .nx ρ h
  | .raise c fs h => .rs c fs ρ h
  | .stuck => .stuck
@[simp] theorem k_expr1_ok (ρ : Env) (_d : D) (h : Hh) : k_expr1 ρ (.ok _d h) = .nx ρ h := (rfl)
@[simp] theorem k_expr1_raise (ρ : Env) (c : Str) (fs : List (Str × D)) (h : Hh) : k_expr1 ρ (.raise c fs h) = .rs c fs ρ h := (rfl)
@[simp] theorem k_expr (a : EM D) (ρ : Env) (h : Hh) : exprS a ρ h = k_expr1 ρ (a ρ h) := by unfold exprS; cases a ρ h <;> rfl
def k_ret1 (ρ : Env) (r : Res D) : SR := match r with
  | .ok d h => .ret d h
  | .raise c fs h => .rs c fs ρ h
  | .stuck => .stuck
@[simp] theorem k_ret1_ok (ρ : Env) (d : D) (h : Hh) : k_ret1 ρ (.ok d h) = .ret d h := (rfl)
@[simp] theorem k_ret1_raise (ρ : Env) (c : Str) (fs : List (Str × D)) (h : Hh) : k_ret1 ρ (.raise c fs h) = .rs c fs ρ h := (rfl)
@[simp] theorem k_ret (a : EM D) (ρ : Env) (h : Hh) : retS a ρ h = k_ret1 ρ (a ρ h) := by unfold retS; cases a ρ h <;> rfl
def k_if1 (x : SS) (y : SS) (ρ : Env) (r : Res Bool) : SR := match r with
  | .ok b h => if b = true then x ρ h else y ρ h
  | .raise c fs h => .rs c fs ρ h
  | .stuck => .stuck
@[simp] theorem k_if1_ok (x : SS) (y : SS) (ρ : Env) (b : Bool) (h : Hh) : k_if1 x y ρ (.ok b h) = if b = true then x ρ h else y ρ h := (rfl)
@[simp] theorem k_if1_raise (x : SS) (y : SS) (ρ : Env) (c : Str) (fs : List (Str × D)) (h : Hh) : k_if1 x y ρ (.raise c fs h) = .rs c fs ρ h := (rfl)
@[simp] theorem k_if (c : EM Bool) (x y : SS) (ρ : Env) (h : Hh) : ifS c x y ρ h = k_if1 x y ρ (c ρ h) := by unfold ifS; cases c ρ h <;> rfl
def k_set1 (i : Nat) (ρ : Env) (r : Res D) : SR := match r with
  | .ok d h => .nx (ρ.set i (some d)) h
  | .raise c fs h => .rs c fs ρ h
  | .stuck => .stuck
@[simp] theorem k_set1_ok (i : Nat) (ρ : Env) (d : D) (h : Hh) : k_set1 i ρ (.ok d h) = .nx (ρ.set i (some d)) h := (rfl)
@[simp] theorem k_set1_raise (i : Nat) (ρ : Env) (c : Str) (fs : List (Str × D)) (h : Hh) : k_set1 i ρ (.raise c fs h) = .rs c fs ρ h := (rfl)
@[simp] theorem k_set (i : Nat) (a : EM D) (ρ : Env) (h : Hh) : setS i a ρ h = k_set1 i ρ (a ρ h) := by unfold setS; cases a ρ h <;> rfl
def k_opt (o : Option Env) (h : Hh) : SR := match o with
  | some ρ' => .nx ρ' h
  | none => .stuck
@[simp] theorem k_opt_some (ρ' : Env) (h : Hh) : k_opt (some ρ') h = .nx ρ' h := (rfl)
def k_optH (o : Option Hh) (ρ : Env) : SR := match o with
  | some h => .nx ρ h
  | none => .stuck
@[simp] theorem k_optH_some (ρ : Env) (h : Hh) : k_optH (some h) ρ = .nx ρ h := (rfl)
def k_asg1 (g : GM) (ρ : Env) (r : Res D) : SR := match r with
  | .ok d h => k_opt (g d ρ) h
  | .raise c fs h => .rs c fs ρ h
  | .stuck => .stuck
@[simp] theorem k_asg1_ok (g : GM) (ρ : Env) (d : D) (h : Hh) : k_asg1 g ρ (.ok d h) = k_opt (g d ρ) h := (rfl)
@[simp] theorem k_asg1_raise (g : GM) (ρ : Env) (c : Str) (fs : List (Str × D)) (h : Hh) : k_asg1 g ρ (.raise c fs h) = .rs c fs ρ h := (rfl)
@[simp] theorem k_asg (a : EM D) (g : GM) (ρ : Env) (h : Hh) : asgS a g ρ h = k_asg1 g ρ (a ρ h) := by
  unfold asgS
  cases a ρ h with
  | ok d h => rw [toS_ok, k_asg1_ok]; cases g d ρ <;> rfl
  | _ => rfl
def k_put3 (v : D) (o : D) (ρ : Env) (r : Res D) : SR := match r with
  | .ok i h => k_optH (putO o i v h) ρ
  | .raise c fs h => .rs c fs ρ h
  | .stuck => .stuck
@[simp] theorem k_put3_ok (v : D) (o : D) (ρ : Env) (i : D) (h : Hh) : k_put3 v o ρ (.ok i h) = k_optH (putO o i v h) ρ := (rfl)
@[simp] theorem k_put3_raise (v : D) (o : D) (ρ : Env) (c : Str) (fs : List (Str × D)) (h : Hh) : k_put3 v o ρ (.raise c fs h) = .rs c fs ρ h := (rfl)
def k_put2 (v : D) (mi : EM D) (ρ : Env) (r : Res D) : SR := match r with
  | .ok o h => k_put3 v o ρ (mi ρ h)
  | .raise c fs h => .rs c fs ρ h
  | .stuck => .stuck
@[simp] theorem k_put2_ok (v : D) (mi : EM D) (ρ : Env) (o : D) (h : Hh) : k_put2 v mi ρ (.ok o h) = k_put3 v o ρ (mi ρ h) := (rfl)
@[simp] theorem k_put2_raise (v : D) (mi : EM D) (ρ : Env) (c : Str) (fs : List (Str × D)) (h : Hh) : k_put2 v mi ρ (.raise c fs h) = .rs c fs ρ h := (rfl)
def k_put1 (mo : EM D) (mi : EM D) (ρ : Env) (r : Res D) : SR := match r with
  | .ok v h => k_put2 v mi ρ (mo ρ h)
  | .raise c fs h => .rs c fs ρ h
  | .stuck => .stuck
@[simp] theorem k_put1_ok (mo : EM D) (mi : EM D) (ρ : Env) (v : D) (h : Hh) : k_put1 mo mi ρ (.ok v h) = k_put2 v mi ρ (mo ρ h) := (rfl)
@[simp] theorem k_put1_raise (mo : EM D) (mi : EM D) (ρ : Env) (c : Str) (fs : List (Str × D)) (h : Hh) : k_put1 mo mi ρ (.raise c fs h) = .rs c fs ρ h := (rfl)
@[simp] theorem k_put (a mo mi : EM D) (ρ : Env) (h : Hh) : putS a mo mi ρ h = k_put1 mo mi ρ (a ρ h) := by
  unfold putS
  cases a ρ h with
  | ok v h =>
    rw [toS_ok, k_put1_ok]
    cases mo ρ h with
    | ok o h =>
      rw [toS_ok, k_put2_ok]
      cases mi ρ h with
      | ok i h => rw [toS_ok, k_put3_ok]; cases putO o i v h <;> rfl
      | _ => rfl
    | _ => rfl
  | _ => rfl
def k_aug2 (i : Nat) (ρ : Env) (r : Res D) : SR := match r with
  | .ok z h => .nx (ρ.set i (some z)) h
  | .raise c fs h => .rs c fs ρ h
  | .stuck => .stuck
@[simp] theorem k_aug2_ok (i : Nat) (ρ : Env) (z : D) (h : Hh) : k_aug2 i ρ (.ok z h) = .nx (ρ.set i (some z)) h := (rfl)
@[simp] theorem k_aug2_raise (i : Nat) (ρ : Env) (c : Str) (fs : List (Str × D)) (h : Hh) : k_aug2 i ρ (.raise c fs h) = .rs c fs ρ h := (rfl)
def k_aug1 (i : Nat) (g : D → D → Hh → Res D) (x : D) (ρ : Env) (r : Res D) : SR := match r with
  | .ok y h => k_aug2 i ρ (g x y h)
  | .raise c fs h => .rs c fs ρ h
  | .stuck => .stuck
@[simp] theorem k_aug1_ok (i : Nat) (g : D → D → Hh → Res D) (x : D) (ρ : Env) (y : D) (h : Hh) : k_aug1 i g x ρ (.ok y h) = k_aug2 i ρ (g x y h) := (rfl)
@[simp] theorem k_aug1_raise (i : Nat) (g : D → D → Hh → Res D) (x : D) (ρ : Env) (c : Str) (fs : List (Str × D)) (h : Hh) : k_aug1 i g x ρ (.raise c fs h) = .rs c fs ρ h := (rfl)
theorem k_aug {i : Nat} {g : D → D → Hh → Res D} {a : EM D} {x : D} (e : ρ[i]? = some (some x)) : augS i g a ρ h = k_aug1 i g x ρ (a ρ h) := by
  unfold augS
  rw [e]
  simp only
  cases a ρ h with
  | ok y h => rw [toS_ok, k_aug1_ok]; cases g x y h <;> rfl
  | _ => rfl
def k_rngI1 (r : Res (List D)) : Res IT := match r with
  | .ok l h => rngD l h
  | .raise c fs h => .raise c fs h
  | .stuck => .stuck
@[simp] theorem k_rngI1_ok (l : List D) (h : Hh) : k_rngI1 (.ok l h) = rngD l h := (rfl)
@[simp] theorem k_rngI (m : EM (List D)) (ρ : Env) (h : Hh) : rngI m ρ h = k_rngI1 (m ρ h) := by unfold rngI; cases m ρ h <;> rfl
def k_zipI1 (r : Res (List D)) : Res IT := match r with
  | .ok l h => zipD l h
  | .raise c fs h => .raise c fs h
  | .stuck => .stuck
@[simp] theorem k_zipI1_ok (l : List D) (h : Hh) : k_zipI1 (.ok l h) = zipD l h := (rfl)
@[simp] theorem k_zipI (m : EM (List D)) (ρ : Env) (h : Hh) : zipI m ρ h = k_zipI1 (m ρ h) := by unfold zipI; cases m ρ h <;> rfl
def k_enumI1 (r : Res (List D)) : Res IT := match r with
  | .ok l h => enumD l h
  | .raise c fs h => .raise c fs h
  | .stuck => .stuck
@[simp] theorem k_enumI1_ok (l : List D) (h : Hh) : k_enumI1 (.ok l h) = enumD l h := (rfl)
@[simp] theorem k_enumI (m : EM (List D)) (ρ : Env) (h : Hh) : enumI m ρ h = k_enumI1 (m ρ h) := by unfold enumI; cases m ρ h <;> rfl
def k_seqI1 (r : Res D) : Res IT := match r with
  | .ok d h => itOf d h
  | .raise c fs h => .raise c fs h
  | .stuck => .stuck
@[simp] theorem k_seqI1_ok (d : D) (h : Hh) : k_seqI1 (.ok d h) = itOf d h := (rfl)
@[simp] theorem k_seqI (a : EM D) (ρ : Env) (h : Hh) : seqI a ρ h = k_seqI1 (a ρ h) := by unfold seqI; cases a ρ h <;> rfl
noncomputable def k_for1 (g : GM) (x : SS) (ρ : Env) (r : Res IT) : SR := match r with
  | .ok it h => loopS it.chk g x it.items ρ h
  | .raise c fs h => .rs c fs ρ h
  | .stuck => .stuck
@[simp] theorem k_for1_ok (g : GM) (x : SS) (ρ : Env) (l : List D) (h : Hh) : k_for1 g x ρ (.ok ⟨l, none⟩ h) = loopS (fun _ => True) g x l ρ h := (rfl)
@[simp] theorem k_for1_okS (g : GM) (x : SS) (ρ : Env) (l : List D) (n : Nat) (h : Hh) : k_for1 g x ρ (.ok ⟨l, some n⟩ h) = loopS (fun h => h[n]? = some (.lst l)) g x l ρ h := (rfl)
@[simp] theorem k_for (mi : EM IT) (g : GM) (x : SS) (ρ : Env) (h : Hh) : forS mi g x ρ h = k_for1 g x ρ (mi ρ h) := by unfold forS; cases mi ρ h <;> rfl
/-! on the mutable lists and dicts: by what stands there -/
def oL (o : Option O) : Option (List D) := match o with
  | some (.lst l) => some l
  | _ => none
def oK (o : Option O) : Option (List (D × D)) := match o with
  | some (.dic l) => some l
  | _ => none
@[simp] theorem oL_lst (l : List D) : oL (some (.lst l)) = some l := (rfl)
@[simp] theorem oL_dic (l : List (D × D)) : oL (some (.dic l)) = none := (rfl)
@[simp] theorem oK_dic (l : List (D × D)) : oK (some (.dic l)) = some l := (rfl)
@[simp] theorem oK_lst (l : List D) : oK (some (.lst l)) = none := (rfl)
@[simp] theorem lstOf_refK (n : Nat) : lstOf (.ref n) h = oL h[n]? := by
  unfold lstOf
  simp only
  cases h[n]? with
  | none => rfl
  | some o => cases o <;> rfl
@[simp] theorem dicOf_refK (n : Nat) : dicOf (.ref n) h = oK h[n]? := by
  unfold dicOf
  simp only
  cases h[n]? with
  | none => rfl
  | some o => cases o <;> rfl
def k_ml (n : Nat) (o : Option (List D)) : Option (Nat × List D) := match o with
  | some l => some (n, l)
  | none => none
@[simp] theorem k_ml_some (n : Nat) (l : List D) : k_ml n (some l) = some (n, l) := (rfl)
@[simp] theorem k_ml_none (n : Nat) : k_ml n none = none := (rfl)
theorem mlOf_refK (n : Nat) : mlOf (.ref n) h = k_ml n (oL h[n]?) := by
  unfold mlOf
  simp only
  cases h[n]? with
  | none => rfl
  | some o => cases o <;> rfl
def k_app (n : Nat) (d : D) (h : Hh) (o : Option (List D)) : Res D := match o with
  | some xs => if xs.length < sizeLine then .ok .non (h.set n (.lst (xs ++ [d]))) else .stuck
  | none => .stuck
@[simp] theorem k_app_some (n : Nat) (d : D) (h : Hh) (xs : List D) : k_app n d h (some xs) = if xs.length < sizeLine then .ok .non (h.set n (.lst (xs ++ [d]))) else .stuck := (rfl)
@[simp] theorem ev_append (n : Nat) (d : D) : appendD (.ref n) [d] h = k_app n d h (oL h[n]?) := by
  unfold appendD
  rw [mlOf_refK]
  cases oL h[n]? <;> rfl
def k_ext2 (n : Nat) (xs : List D) (h : Hh) (o : Option (List D)) : Res D := match o with
  | some ys => if xs.length + ys.length ≤ sizeLine then .ok .non (h.set n (.lst (xs ++ ys))) else .stuck
  | none => .stuck
@[simp] theorem k_ext2_some (n : Nat) (xs : List D) (h : Hh) (ys : List D) : k_ext2 n xs h (some ys) = if xs.length + ys.length ≤ sizeLine then .ok .non (h.set n (.lst (xs ++ ys))) else .stuck := (rfl)
def k_ext1 (n : Nat) (d : D) (h : Hh) (o : Option (List D)) : Res D := match o with
  | some xs => k_ext2 n xs h (lstOf d h)
  | none => .stuck
@[simp] theorem k_ext1_some (n : Nat) (d : D) (h : Hh) (xs : List D) : k_ext1 n d h (some xs) = k_ext2 n xs h (lstOf d h) := (rfl)
@[simp] theorem ev_extend (n : Nat) (d : D) : extendD (.ref n) [d] h = k_ext1 n d h (oL h[n]?) := by
  unfold extendD
  rw [mlOf_refK]
  cases oL h[n]? with
  | none => rfl
  | some xs => rw [k_ext1_some]; show (match lstOf d h with | some ys => _ | none => _) = _; cases lstOf d h <;> rfl
def k_pop2 (n : Nat) (xs : List D) (h : Hh) (o : Option D) : Res D := match o with
  | some d => .ok d (h.set n (.lst xs.dropLast))
  | none => .stuck
@[simp] theorem k_pop2_some (n : Nat) (xs : List D) (h : Hh) (d : D) : k_pop2 n xs h (some d) = .ok d (h.set n (.lst xs.dropLast)) := (rfl)
def k_pop1 (n : Nat) (h : Hh) (o : Option (List D)) : Res D := match o with
  | some xs => k_pop2 n xs h xs.getLast?
  | none => .stuck
@[simp] theorem k_pop1_some (n : Nat) (h : Hh) (xs : List D) : k_pop1 n h (some xs) = k_pop2 n xs h xs.getLast? := (rfl)
@[simp] theorem ev_pop (n : Nat) : popD (.ref n) [] h = k_pop1 n h (oL h[n]?) := by
  unfold popD
  rw [mlOf_refK]
  cases oL h[n]? with
  | none => rfl
  | some xs => rw [k_pop1_some]; show (match xs.getLast? with | some ys => _ | none => _) = _; cases xs.getLast? <;> rfl
def k_okT (h : Hh) (o : Option (List D)) : Res D := match o with
  | some xs => .ok (.tup xs) h
  | none => .stuck
@[simp] theorem k_okT_some (h : Hh) (xs : List D) : k_okT h (some xs) = .ok (.tup xs) h := (rfl)
@[simp] theorem ev_tupleR (n : Nat) : tupleD [.ref n] h = k_okT h (oL h[n]?) := by
  show (match lstOf (.ref n) h with | some l => _ | none => _) = _
  rw [lstOf_refK]
  cases oL h[n]? <;> rfl
def k_okL (h : Hh) (o : Option (List D)) : Res D := match o with
  | some xs => .ok (.lst xs) h
  | none => .stuck
@[simp] theorem k_okL_some (h : Hh) (xs : List D) : k_okL h (some xs) = .ok (.lst xs) h := (rfl)
@[simp] theorem ev_listR (n : Nat) : listD [.ref n] h = k_okL h (oL h[n]?) := by
  show (match lstOf (.ref n) h with | some l => _ | none => _) = _
  rw [lstOf_refK]
  cases oL h[n]? <;> rfl
def k_newL (h : Hh) (o : Option (List D)) : Res D := match o with
  | some xs => newL xs h
  | none => .stuck
@[simp] theorem k_newL_some (h : Hh) (xs : List D) : k_newL h (some xs) = newL xs h := (rfl)
@[simp] theorem ev_listM (d : D) : listM [d] h = k_newL h (seqOf d h) := by
  show (match seqOf d h with | some l => _ | none => _) = _
  cases seqOf d h <;> rfl
@[simp] theorem seqOf_tup (l : List D) : seqOf (.tup l) h = some l := (rfl)
@[simp] theorem seqOf_lst (l : List D) : seqOf (.lst l) h = some l := (rfl)
@[simp] theorem seqOf_ref (n : Nat) : seqOf (.ref n) h = oL h[n]? := by
  show lstOf (.ref n) h = _
  exact lstOf_refK n
def k_lenR (h : Hh) (o : Option O) : Res D := match o with
  | some (.lst l) => .ok (.int l.length) h
  | some (.dic l) => .ok (.int l.length) h
  | _ => .stuck
@[simp] theorem k_lenR_lst (h : Hh) (l : List D) : k_lenR h (some (.lst l)) = .ok (.int l.length) h := (rfl)
@[simp] theorem k_lenR_dic (h : Hh) (l : List (D × D)) : k_lenR h (some (.dic l)) = .ok (.int l.length) h := (rfl)
@[simp] theorem ev_lenR (n : Nat) : lenD [.ref n] h = k_lenR h h[n]? := by
  show (match lstOf (.ref n) h with | some l => _ | none => match dicOf (.ref n) h with | some l => _ | none => _) = _
  rw [lstOf_refK, dicOf_refK]
  cases h[n]? with
  | none => rfl
  | some o => cases o <;> rfl
def k_itR (n : Nat) (h : Hh) (o : Option (List D)) : Res IT := match o with
  | some l => .ok ⟨l, some n⟩ h
  | none => .stuck
@[simp] theorem k_itR_some (n : Nat) (h : Hh) (l : List D) : k_itR n h (some l) = .ok ⟨l, some n⟩ h := (rfl)
@[simp] theorem ev_itR (n : Nat) : itOf (.ref n) h = k_itR n h (oL h[n]?) := by
  show (match h[n]? with | some (.lst l) => _ | _ => _) = _
  cases h[n]? with
  | none => rfl
  | some o => cases o <;> rfl
def k_ix (h : Hh) (o : Option D) : Res D := match o with
  | some d => .ok d h
  | none => .stuck
@[simp] theorem k_ix_some (h : Hh) (d : D) : k_ix h (some d) = .ok d h := (rfl)
def k_ixI (h : Hh) (o : Option Int) : Res D := match o with
  | some d => .ok (.int d) h
  | none => .stuck
@[simp] theorem k_ixI_some (h : Hh) (d : Int) : k_ixI h (some d) = .ok (.int d) h := (rfl)
@[simp] theorem ev_ixT (l : List D) (i : Int) : ixD (.tup l) (.int i) h = k_ix h (atI l i) := (rfl)
@[simp] theorem ev_ixL (l : List D) (i : Int) : ixD (.lst l) (.int i) h = k_ix h (atI l i) := (rfl)
@[simp] theorem ev_ixS (l : List Int) (i : Int) : ixD (.scr l) (.int i) h = k_ixI h (atI l i) := by
  show (match atI l i with | some d => _ | none => _) = _
  cases atI l i <;> rfl
def k_ixR (h : Hh) (i : Int) (o : Option (List D)) : Res D := match o with
  | some l => k_ix h (atI l i)
  | none => .stuck
@[simp] theorem k_ixR_some (h : Hh) (i : Int) (l : List D) : k_ixR h i (some l) = k_ix h (atI l i) := (rfl)
def k_ixL (h : Hh) (b : D) (l : List D) : Res D := match b with
  | .int i => k_ix h (atI l i)
  | _ => .stuck
@[simp] theorem k_ixL_int (h : Hh) (i : Int) (l : List D) : k_ixL h (.int i) l = k_ix h (atI l i) := (rfl)
def k_ixK (h : Hh) (b : D) (l : List (D × D)) : Res D := if (keyD b).isSome = true then k_ix h (lookD l b) else .stuck
theorem k_ixK_run (h : Hh) (b : D) (l : List (D × D)) (hb : (keyD b).isSome = true) : k_ixK h b l = k_ix h (lookD l b) := if_pos hb
@[simp] theorem k_ixK_int (h : Hh) (i : Int) (l : List (D × D)) : k_ixK h (.int i) l = k_ix h (lookD l (.int i)) := (rfl)
@[simp] theorem k_ixK_str (h : Hh) (i : Str) (l : List (D × D)) : k_ixK h (.str i) l = k_ix h (lookD l (.str i)) := (rfl)
def k_ixO (h : Hh) (b : D) (o : Option O) : Res D := match o with
  | some (.lst l) => k_ixL h b l
  | some (.dic l) => k_ixK h b l
  | _ => .stuck
@[simp] theorem k_ixO_lst (h : Hh) (b : D) (l : List D) : k_ixO h b (some (.lst l)) = k_ixL h b l := (rfl)
@[simp] theorem k_ixO_dic (h : Hh) (b : D) (l : List (D × D)) : k_ixO h b (some (.dic l)) = k_ixK h b l := (rfl)
@[simp] theorem ev_ixR (n : Nat) (b : D) : ixD (.ref n) b h = k_ixO h b h[n]? := by
  unfold ixD
  simp only [lstOf_refK, dicOf_refK]
  cases h[n]? with
  | none => rfl
  | some o =>
    cases o with
    | lst l =>
      simp only [oL_lst, k_ixO_lst]
      cases b with
      | int i => simp only [k_ixL_int]; cases atI l i <;> rfl
      | _ => rfl
    | dic l =>
      simp only [oL_dic, oK_dic, k_ixO_dic, k_ixK]
      by_cases hb : (keyD b).isSome = true
      · rw [if_pos hb, if_pos hb]; cases lookD l b <;> rfl
      · rw [if_neg hb, if_neg hb]
    | _ => rfl
@[simp] theorem ev_ixDic (l : List (D × D)) (b : D) : ixD (.dic l) b h = k_ixK h b l := by
  show (if (keyD b).isSome = true then (match lookD l b with | some d => _ | none => _) else _) = _
  unfold k_ixK
  by_cases hb : (keyD b).isSome = true
  · rw [if_pos hb, if_pos hb]; cases lookD l b <;> rfl
  · rw [if_neg hb, if_neg hb]
theorem atI_nn {α : Type} {l : List α} {i : Int} {v : α} (h0 : 0 ≤ i) (e : l[i.toNat]? = some v) : atI l i = some v := by
  have := atI_nat e
  rwa [Int.toNat_of_nonneg h0] at this
theorem atI_natE {α : Type} (l : List α) (k : Nat) : atI l (k : Int) = l[k]? := by
  unfold atI ixN
  rw [if_pos (Int.natCast_nonneg k)]
  by_cases hk : (k : Int) < l.length
  · rw [if_pos hk, Option.bind_some, Int.toNat_natCast]
  · rw [if_neg hk, Option.bind_none, List.getElem?_eq_none (by omega)]
@[simp] theorem atI_l2 {α : Type} (l : List α) : atI l 2 = l[2]? := atI_natE l 2
@[simp] theorem atI_l3 {α : Type} (l : List α) : atI l 3 = l[3]? := atI_natE l 3
@[simp] theorem atI_l4 {α : Type} (l : List α) : atI l 4 = l[4]? := atI_natE l 4
@[simp] theorem atI_l5 {α : Type} (l : List α) : atI l 5 = l[5]? := atI_natE l 5
@[simp] theorem atI_l6 {α : Type} (l : List α) : atI l 6 = l[6]? := atI_natE l 6
@[simp] theorem atI_l7 {α : Type} (l : List α) : atI l 7 = l[7]? := atI_natE l 7
@[simp] theorem atI_l8 {α : Type} (l : List α) : atI l 8 = l[8]? := atI_natE l 8
@[simp] theorem atI_l9 {α : Type} (l : List α) : atI l 9 = l[9]? := atI_natE l 9
@[simp] theorem atI_l0 {α : Type} (l : List α) : atI l 0 = l[0]? := atI_natE l 0
@[simp] theorem atI_l1 {α : Type} (l : List α) : atI l 1 = l[1]? := atI_natE l 1
theorem atI_nnE {α : Type} (l : List α) {i : Int} (h0 : 0 ≤ i) : atI l i = l[i.toNat]? := by
  rw [← atI_natE, Int.toNat_of_nonneg h0]
@[simp] theorem atI_m1 {α : Type} (l : List α) : atI l (-1) = l.getLast? := by
  unfold atI ixN
  rw [if_neg (by omega), List.getLast?_eq_getElem?]
  by_cases hk : -(l.length : Int) ≤ -1
  · rw [if_pos hk, Option.bind_some]
    congr 1
    omega
  · rw [if_neg hk, Option.bind_none, List.getElem?_eq_none (by omega)]
@[simp] theorem ev_slS (z : Str) (lo hi : Option Int) : slD (.str z) lo hi h = if z.length ≤ sizeLine then .ok (.str (cutS z lo hi)) h else .stuck := (rfl)
@[simp] theorem ev_slT (l : List D) (lo hi : Option Int) : slD (.tup l) lo hi h = .ok (.tup (cutD l lo hi)) h := (rfl)
@[simp] theorem ev_slL (l : List D) (lo hi : Option Int) : slD (.lst l) lo hi h = .ok (.lst (cutD l lo hi)) h := (rfl)
def k_slR (h : Hh) (lo hi : Option Int) (o : Option (List D)) : Res D := match o with
  | some l => .ok (.lst (cutD l lo hi)) h
  | none => .stuck
@[simp] theorem k_slR_some (h : Hh) (lo hi : Option Int) (l : List D) : k_slR h lo hi (some l) = .ok (.lst (cutD l lo hi)) h := (rfl)
@[simp] theorem ev_slR (n : Nat) (lo hi : Option Int) : slD (.ref n) lo hi h = k_slR h lo hi (oL h[n]?) := by
  show (match lstOf (.ref n) h with | some l => _ | none => _) = _
  rw [lstOf_refK]
  cases oL h[n]? <;> rfl
def k_hset (n : Nat) (l : List D) (v : D) (h : Hh) (o : Option Nat) : Option Hh := match o with
  | some j => some (h.set n (.lst (l.set j v)))
  | none => none
@[simp] theorem k_hset_some (n : Nat) (l : List D) (v : D) (h : Hh) (j : Nat) : k_hset n l v h (some j) = some (h.set n (.lst (l.set j v))) := (rfl)
def k_putL (n : Nat) (i : D) (v : D) (h : Hh) (l : List D) : Option Hh := match i with
  | .int k => k_hset n l v h (ixN l.length k)
  | _ => none
@[simp] theorem k_putL_int (n : Nat) (k : Int) (v : D) (h : Hh) (l : List D) : k_putL n (.int k) v h l = k_hset n l v h (ixN l.length k) := (rfl)
noncomputable def k_putR (n : Nat) (i v : D) (h : Hh) (o : Option O) : Option Hh := match o with
  | some (.lst l) => k_putL n i v h l
  | some (.dic l) => if (keyD i).isSome = true ∧ l.length < sizeLine then some (h.set n (.dic (putD l i v))) else none
  | _ => none
@[simp] theorem k_putR_lst (n : Nat) (i v : D) (h : Hh) (l : List D) : k_putR n i v h (some (.lst l)) = k_putL n i v h l := (rfl)
@[simp] theorem k_putR_dic (n : Nat) (i v : D) (h : Hh) (l : List (D × D)) : k_putR n i v h (some (.dic l)) = if (keyD i).isSome = true ∧ l.length < sizeLine then some (h.set n (.dic (putD l i v))) else none := (rfl)
@[simp] theorem ev_put (n : Nat) (i v : D) : putO (.ref n) i v h = k_putR n i v h h[n]? := by
  unfold putO
  rw [mlOf_refK]
  have em : mdOf (.ref n) h = (match h[n]? with | some (.dic l) => some (n, l) | _ => none) := rfl
  rw [em]
  cases h[n]? with
  | none => rfl
  | some o =>
    cases o with
    | lst l =>
      simp only [oL_lst, k_ml_some, k_putR_lst]
      cases i with
      | int k => simp only [k_putL_int]; cases ixN l.length k <;> rfl
      | _ => rfl
    | _ => rfl
theorem ixN_natE (n k : Nat) : ixN n (k : Int) = if k < n then some k else none := by
  unfold ixN
  rw [if_pos (Int.natCast_nonneg k)]
  by_cases hk : k < n
  · rw [if_pos (by omega), if_pos hk, Int.toNat_natCast]
  · rw [if_neg (by omega), if_neg hk]
theorem ixN_nn {n : Nat} {k : Int} (h0 : 0 ≤ k) (h1 : k < n) : ixN n k = some k.toNat := by
  unfold ixN
  rw [if_pos h0, if_pos h1]
/-! values -/
@[simp] theorem addD_int (i j : Int) : addD (.int i) (.int j) h = .ok (.int (i + j)) h := (rfl)
@[simp] theorem subD_int (i j : Int) : subD (.int i) (.int j) h = .ok (.int (i - j)) h := (rfl)
theorem addD_tup (l m : List D) (hl : l.length + m.length ≤ sizeLine) : addD (.tup l) (.tup m) h = .ok (.tup (l ++ m)) h := if_pos hl
theorem addD_str (i j : Str) (hl : i.length + j.length ≤ sizeLine) : addD (.str i) (.str j) h = .ok (.str (i ++ j)) h := if_pos hl
theorem addD_lst (l m : List D) (hl : l.length + m.length ≤ sizeLine) : addD (.lst l) (.lst m) h = .ok (.lst (l ++ m)) h := if_pos hl
theorem mulD_int (i j : Int) (hl : small64 i ∨ small64 j) : mulD (.int i) (.int j) h = .ok (.int (i * j)) h := if_pos hl
theorem modD_int (i j : Int) (hj : 0 < j) : modD (.int i) (.int j) h = .ok (.int (i % j)) h := if_pos hj
theorem fdivD_int (i j : Int) (hj : 0 < j ∧ j < 1073741824) : fdivD (.int i) (.int j) h = .ok (.int (i / j)) h := if_pos hj
@[simp] theorem negD_int (i : Int) : negD (.int i) h = .ok (.int (-i)) h := (rfl)
@[simp] theorem ltD_int (i j : Int) : ltD (.int i) (.int j) h = .ok (.bl (decide (i < j))) h := (rfl)
@[simp] theorem leD_int (i j : Int) : leD (.int i) (.int j) h = .ok (.bl (decide (i ≤ j))) h := (rfl)
@[simp] theorem gtD_int (i j : Int) : gtD (.int i) (.int j) h = .ok (.bl (decide (j < i))) h := (rfl)
@[simp] theorem geD_int (i j : Int) : geD (.int i) (.int j) h = .ok (.bl (decide (j ≤ i))) h := (rfl)
theorem eqD_scal {x y : D} (s : scalD x y = true) : eqD x y h = .ok (.bl (eqvD x y)) h := if_pos s
theorem neD_scal {x y : D} (s : scalD x y = true) : neD x y h = .ok (.bl (!eqvD x y)) h := if_pos s
theorem eqD_vw {x y : D} (s : CmpOk (vwD h x)) (t : CmpOk (vwD h y)) (n : scalD x y = false) : eqD x y h = .ok (.bl (eqvD (vwD h x) (vwD h y))) h := by
  unfold eqD
  rw [if_neg (by rw [n]; exact Bool.false_ne_true), if_pos ⟨s, t⟩]
theorem eqD_cmp {x y : D} (s : CmpOk x) (t : CmpOk y) : eqD x y h = .ok (.bl (eqvD x y)) h := by
  unfold eqD
  by_cases q : scalD x y = true
  · rw [if_pos q]
  · rw [if_neg q, vwD_ok s.1, vwD_ok t.1, if_pos ⟨s, t⟩]
theorem neD_vw {x y : D} (s : CmpOk (vwD h x)) (t : CmpOk (vwD h y)) (n : scalD x y = false) : neD x y h = .ok (.bl (!eqvD (vwD h x) (vwD h y))) h := by
  unfold neD
  rw [if_neg (by rw [n]; exact Bool.false_ne_true), if_pos ⟨s, t⟩]
theorem neD_cmp {x y : D} (s : CmpOk x) (t : CmpOk y) : neD x y h = .ok (.bl (!eqvD x y)) h := by
  unfold neD
  by_cases q : scalD x y = true
  · rw [if_pos q]
  · rw [if_neg q, vwD_ok s.1, vwD_ok t.1, if_pos ⟨s, t⟩]
@[simp] theorem eqD_int (i j : Int) : eqD (.int i) (.int j) h = .ok (.bl (decide (i = j))) h := by
  rw [eqD_scal rfl]
  have : eqvD (.int i) (.int j) = decide (i = j) := by show (i == j) = _; rw [Bool.beq_eq_decide_eq]
  rw [this]
@[simp] theorem neD_int (i j : Int) : neD (.int i) (.int j) h = .ok (.bl (!decide (i = j))) h := by
  rw [neD_scal rfl]
  have : eqvD (.int i) (.int j) = decide (i = j) := by show (i == j) = _; rw [Bool.beq_eq_decide_eq]
  rw [this]
@[simp] theorem eqD_bl (i j : Bool) : eqD (.bl i) (.bl j) h = .ok (.bl (i == j)) h := eqD_scal rfl
@[simp] theorem neD_bl (i j : Bool) : neD (.bl i) (.bl j) h = .ok (.bl (!(i == j))) h := neD_scal rfl
@[simp] theorem eqD_str (i j : Str) : eqD (.str i) (.str j) h = .ok (.bl (decide (i = j))) h := by
  rw [eqD_scal rfl]
  have : eqvD (.str i) (.str j) = decide (i = j) := by show (i == j) = _; rw [Bool.beq_eq_decide_eq]
  rw [this]
@[simp] theorem neD_str (i j : Str) : neD (.str i) (.str j) h = .ok (.bl (!decide (i = j))) h := by
  rw [neD_scal rfl]
  have : eqvD (.str i) (.str j) = decide (i = j) := by show (i == j) = _; rw [Bool.beq_eq_decide_eq]
  rw [this]
@[simp] theorem eqD_int_str (i : Int) (j : Str) : eqD (.int i) (.str j) h = .ok (.bl false) h := eqD_scal rfl
@[simp] theorem eqD_str_int (i : Int) (j : Str) : eqD (.str j) (.int i) h = .ok (.bl false) h := eqD_scal rfl
@[simp] theorem eqD_non_str (j : Str) : eqD .non (.str j) h = .ok (.bl false) h := eqD_scal rfl
@[simp] theorem nonD_non : nonD .non = true := (rfl)
@[simp] theorem nonD_int (i : Int) : nonD (.int i) = false := (rfl)
@[simp] theorem nonD_bl (i : Bool) : nonD (.bl i) = false := (rfl)
@[simp] theorem nonD_str (i : Str) : nonD (.str i) = false := (rfl)
@[simp] theorem nonD_tup (i : List D) : nonD (.tup i) = false := (rfl)
@[simp] theorem nonD_lst (i : List D) : nonD (.lst i) = false := (rfl)
@[simp] theorem nonD_ref (i : Nat) : nonD (.ref i) = false := (rfl)
@[simp] theorem isD_run (d : D) : isD d .non h = .ok (.bl (nonD d)) h := (rfl)
@[simp] theorem isntD_run (d : D) : isntD d .non h = .ok (.bl (!nonD d)) h := (rfl)
@[simp] theorem lenD_tup (l : List D) : lenD [.tup l] h = .ok (.int l.length) h := (rfl)
@[simp] theorem lenD_lst (l : List D) : lenD [.lst l] h = .ok (.int l.length) h := (rfl)
@[simp] theorem lenD_scr (l : List Int) : lenD [.scr l] h = .ok (.int l.length) h := (rfl)
theorem lenD_str {x : Str} (hl : x.length ≤ sizeLine) : lenD [.str x] h = .ok (.int x.length) h := if_pos hl
@[simp] theorem tupleD_tup (l : List D) : tupleD [.tup l] h = .ok (.tup l) h := (rfl)
@[simp] theorem tupleD_lst (l : List D) : tupleD [.lst l] h = .ok (.tup l) h := (rfl)
@[simp] theorem listD_tup (l : List D) : listD [.tup l] h = .ok (.lst l) h := (rfl)
@[simp] theorem listD_lst (l : List D) : listD [.lst l] h = .ok (.lst l) h := (rfl)
@[simp] theorem intD_int (i : Int) : intD [.int i] h = .ok (.int i) h := (rfl)
@[simp] theorem intD_bl (b : Bool) : intD [.bl b] h = .ok (.int (if b = true then 1 else 0)) h := (rfl)
open Classical in
noncomputable def guardR {α : Type} (p : Prop) (r : Res α) : Res α := if p then r else .stuck
theorem guardR_pos {α : Type} {p : Prop} {r : Res α} (hp : p) : guardR p r = r := if_pos hp
@[simp] theorem guardR_true {α : Type} (r : Res α) : guardR True r = r := if_pos trivial
theorem methE_run {ty : D → Hh → Prop} {g : D → List D → Hh → Res D} {mo : EM D} {ms : EM (List D)} : methE ty g mo ms ρ h = (mo ρ h).bind fun o h1 => guardR (ty o h1) ((ms ρ h1).bind fun l h2 => g o l h2) := (rfl)
@[simp] theorem isLst_run (d : D) : isLst d h = ((lstOf d h).isSome = true) := (rfl)
@[simp] theorem get_app (l : Hh) : (h ++ l)[h.length]? = l[0]? := by rw [List.getElem?_append_right (Nat.le_refl _), Nat.sub_self]
@[simp] theorem get_app_add (l : Hh) (k : Nat) : (h ++ l)[h.length + k]? = l[k]? := by rw [List.getElem?_append_right (Nat.le_add_right _ _), Nat.add_sub_cancel_left]
@[simp] theorem set_app (l : Hh) (o : O) : (h ++ l).set h.length o = h ++ l.set 0 o := by rw [List.set_append_right _ _ (Nat.le_refl _), Nat.sub_self]
@[simp] theorem set_app_add (l : Hh) (o : O) (k : Nat) : (h ++ l).set (h.length + k) o = h ++ l.set k o := by rw [List.set_append_right _ _ (Nat.le_add_right _ _), Nat.add_sub_cancel_left]

/-! loops -/
@[simp] theorem chk_none (l : List D) : IT.chk ⟨l, none⟩ = fun _ => True := (rfl)
theorem loop_nil {g : GM} : loopS (fun _ => True) g x [] ρ h = .nx ρ h := by unfold loopS; exact if_pos trivial
theorem loop_cons {g : GM} {d : D} {l : List D} {ρ1 : Env} (e : g d ρ = some ρ1) : loopS (fun _ => True) g x (d :: l) ρ h = match x ρ1 h with
  | .nx ρ2 h2 => loopS (fun _ => True) g x l ρ2 h2
  | .ct ρ2 h2 => loopS (fun _ => True) g x l ρ2 h2
  | .bk ρ2 h2 => .nx ρ2 h2
  | r => r := by
  conv => lhs; unfold loopS
  rw [if_pos trivial]
  simp only [e]
  all_goals (cases x ρ1 h <;> rfl)
@[simp] theorem gNm_run (i : Nat) (d : D) : gNm i d ρ = some (ρ.set i (some d)) := (rfl)
/-- a loop that runs through: an invariant by what was taken -/
theorem loop_thru {g : GM} {l : List D} (I : Nat → Env → Hh → Prop) (h0 : I 0 ρ h) (hs : ∀ i d ρ h, l[i]? = some d → I i ρ h → ∃ ρ1, g d ρ = some ρ1 ∧ ∃ ρ2 h2, (x ρ1 h = .nx ρ2 h2 ∨ x ρ1 h = .ct ρ2 h2) ∧ I (i + 1) ρ2 h2) :
    ∃ ρ' h', loopS (fun _ => True) g x l ρ h = .nx ρ' h' ∧ I l.length ρ' h' := by
  induction l generalizing I ρ h with
  | nil => exact ⟨ρ, h, loop_nil, h0⟩
  | cons d l ih =>
    obtain ⟨ρ1, e1, ρ2, h2, e2, i2⟩ := hs 0 d ρ h rfl h0
    obtain ⟨ρ', h', e3, i3⟩ := ih (ρ := ρ2) (h := h2) (fun i => I (i + 1)) i2 fun i d ρ h e q => hs (i + 1) d ρ h e q
    refine ⟨ρ', h', ?_, i3⟩
    rw [loop_cons e1]
    rcases e2 with e2 | e2 <;> rw [e2] <;> exact e3
/-- .. over a range -/
theorem loop_rng {g : GM} {lo : Int} {n : Nat} (I : Nat → Env → Hh → Prop) (h0 : I 0 ρ h) (hs : ∀ i ρ h, i < n → I i ρ h → ∃ ρ1, g (.int (lo + i)) ρ = some ρ1 ∧ ∃ ρ2 h2, (x ρ1 h = .nx ρ2 h2 ∨ x ρ1 h = .ct ρ2 h2) ∧ I (i + 1) ρ2 h2) :
    ∃ ρ' h', loopS (fun _ => True) g x (rngL lo n) ρ h = .nx ρ' h' ∧ I n ρ' h' := by
  have := loop_thru (x := x) (g := g) (l := rngL lo n) I h0 fun i d ρ h e q => by
    have hi : i < n := by
      have := (List.getElem?_eq_some_iff.mp e).1
      rwa [rngL_length] at this
    rw [rngL_get lo n i hi] at e
    cases e
    exact hs i ρ h hi q
  rwa [rngL_length] at this
/-- .. over what a list stands for -/
theorem loop_map {α : Type} {g : GM} {f : α → D} {l : List α} (I : List α → Env → Hh → Prop) (h0 : I [] ρ h) (hs : ∀ pre a post ρ h, l = pre ++ a :: post → I pre ρ h → ∃ ρ1, g (f a) ρ = some ρ1 ∧ ∃ ρ2 h2, (x ρ1 h = .nx ρ2 h2 ∨ x ρ1 h = .ct ρ2 h2) ∧ I (pre ++ [a]) ρ2 h2) :
    ∃ ρ' h', loopS (fun _ => True) g x (l.map f) ρ h = .nx ρ' h' ∧ I l ρ' h' := by
  have := loop_thru (x := x) (g := g) (l := l.map f) (fun i => I (l.take i)) (by simpa using h0) fun i d ρ h e q => by
    rw [List.getElem?_map] at e
    cases ea : l[i]? with
    | none => rw [ea] at e; cases e
    | some a =>
      rw [ea] at e
      cases e
      obtain ⟨hi, ha⟩ := List.getElem?_eq_some_iff.mp ea
      have := hs (l.take i) a (l.drop (i + 1)) ρ h (by rw [← ha, List.getElem_cons_drop, List.take_append_drop]) q
      rw [← ha, List.take_append_getElem hi] at this
      rw [← ha]
      exact this
  simpa using this
/-- a loop that may be left by a return -/
theorem loop_map_or {α : Type} {g : GM} {f : α → D} {l : List α} {r : SR} (I : List α → Env → Hh → Prop) (h0 : I [] ρ h) (hr : ∀ ρ h, r ≠ .nx ρ h ∧ r ≠ .ct ρ h ∧ r ≠ .bk ρ h) (hs : ∀ pre a post ρ h, l = pre ++ a :: post → I pre ρ h → ∃ ρ1, g (f a) ρ = some ρ1 ∧ ((∃ ρ2 h2, (x ρ1 h = .nx ρ2 h2 ∨ x ρ1 h = .ct ρ2 h2) ∧ I (pre ++ [a]) ρ2 h2) ∨ x ρ1 h = r)) :
    (∃ ρ' h', loopS (fun _ => True) g x (l.map f) ρ h = .nx ρ' h' ∧ I l ρ' h') ∨ loopS (fun _ => True) g x (l.map f) ρ h = r := by
  induction l generalizing I ρ h with
  | nil => exact .inl ⟨ρ, h, loop_nil, h0⟩
  | cons a l ih =>
    obtain ⟨ρ1, e1, q⟩ := hs [] a l ρ h rfl h0
    rw [List.map_cons, loop_cons e1]
    rcases q with ⟨ρ2, h2, e2, i2⟩ | q
    · have := ih (ρ := ρ2) (h := h2) (fun pre => I (a :: pre)) i2 fun pre b post ρ h e q => hs (a :: pre) b post ρ h (by rw [e]; rfl) q
      rcases e2 with e2 | e2 <;> rw [e2] <;> exact this
    · right
      rw [q]
      have := hr ρ h
      cases r with
      | nx ρ h => exact absurd rfl (hr ρ h).1
      | ct ρ h => exact absurd rfl (hr ρ h).2.1
      | bk ρ h => exact absurd rfl (hr ρ h).2.2
      | _ => rfl
theorem forS_run (mi : EM IT) (g : GM) : forS mi g x ρ h = toS (mi ρ h) ρ fun it h1 => loopS it.chk g x it.items ρ h1 := (rfl)
theorem seqI_run : seqI m ρ h = (m ρ h).bind itOf := (rfl)
theorem rngI_run (ms : EM (List D)) : rngI ms ρ h = (ms ρ h).bind rngD := (rfl)
theorem zipI_run (ms : EM (List D)) : zipI ms ρ h = (ms ρ h).bind zipD := (rfl)
theorem enumI_run (ms : EM (List D)) : enumI ms ρ h = (ms ρ h).bind enumD := (rfl)
@[simp] theorem itOf_lst (l : List D) : itOf (.lst l) h = .ok ⟨l, none⟩ h := (rfl)
@[simp] theorem itOf_tup (l : List D) : itOf (.tup l) h = .ok ⟨l, none⟩ h := (rfl)
@[simp] theorem itOf_scr (l : List Int) : itOf (.scr l) h = .ok ⟨l.map .int, none⟩ h := (rfl)
theorem rngD_1 {j : Int} (hj : i62 j) : rngD [.int j] h = .ok ⟨rngL 0 j.toNat, none⟩ h := if_pos hj
theorem rngD_2 {i j : Int} (hi : i62 i) (hj : i62 j) : rngD [.int i, .int j] h = .ok ⟨rngL i (j - i).toNat, none⟩ h := if_pos ⟨hi, hj⟩
@[simp] theorem zipD_tup (l m : List D) : zipD [.tup l, .tup m] h = .ok ⟨zipL l m, none⟩ h := (rfl)
@[simp] theorem zipD_lst (l m : List D) : zipD [.lst l, .lst m] h = .ok ⟨zipL l m, none⟩ h := (rfl)
@[simp] theorem enumD_lst (l : List D) : enumD [.lst l] h = .ok ⟨enumL 0 l, none⟩ h := (rfl)
/-- a comprehension whose parts change nothing -/
theorem lc_pure {i : Nat} {tt : EM Bool} {te : EM D} {l : List D} (f : D → Bool) (g : D → D) (ht : ∀ d, d ∈ l → tt (ρ.set i (some d)) h = .ok (f d) h) (he : ∀ d, d ∈ l → f d = true → te (ρ.set i (some d)) h = .ok (g d) h) :
    lcL (fun _ => True) i tt te ρ l h = .ok ((l.filter f).map g) h := by
  induction l with
  | nil => unfold lcL; exact if_pos trivial
  | cons d l ih =>
    unfold lcL
    rw [if_pos trivial, ht d List.mem_cons_self, nrR_ok, bind_ok]
    have ih := ih (fun d hd => ht d (List.mem_cons_of_mem _ hd)) fun d hd => he d (List.mem_cons_of_mem _ hd)
    cases ef : f d with
    | false =>
      rw [if_neg Bool.false_ne_true, ih, List.filter_cons_of_neg (by rw [ef]; exact Bool.false_ne_true)]
    | true =>
      rw [if_pos rfl, he d List.mem_cons_self ef, nrR_ok, bind_ok, ih, bind_ok, List.filter_cons_of_pos ef, List.map_cons]
theorem lc_map {i : Nat} {te : EM D} {l : List D} (g : D → D) (he : ∀ d, d ∈ l → te (ρ.set i (some d)) h = .ok (g d) h) :
    lcL (fun _ => True) i tYesE te ρ l h = .ok (l.map g) h := by
  have := lc_pure (h := h) (ρ := ρ) (i := i) (tt := tYesE) (te := te) (l := l) (fun _ => true) g (fun _ _ => rfl) fun d hd _ => he d hd
  rw [this, List.filter_eq_self.mpr fun _ _ => rfl]
theorem lcE_run {i : Nat} {tt : EM Bool} {te : EM D} {mi : EM IT} {l r : List D} {h1 h2 : Hh} (e : mi ρ h = .ok ⟨l, none⟩ h1) (hl : l.length ≤ sizeLine) (q : lcL (fun _ => True) i tt te ρ l h1 = .ok r h2) : lcE mi i tt te ρ h = .ok (.lst r) h2 := by
  unfold lcE
  rw [e, bind_ok, if_pos hl, chk_none, q, bind_ok]
theorem lcM_run {i : Nat} {tt : EM Bool} {te : EM D} {mi : EM IT} {l r : List D} {h1 h2 : Hh} (e : mi ρ h = .ok ⟨l, none⟩ h1) (hl : l.length ≤ sizeLine) (q : lcL (fun _ => True) i tt te ρ l h1 = .ok r h2) : lcM mi i tt te ρ h = newL r h2 := by
  unfold lcM
  rw [e, bind_ok, if_pos hl, chk_none, q, bind_ok]

/-! defs -/
theorem defF_run {N : Nat} {ds : List D} {b : SS} : defF N b ds h = endF (b (ds.map some ++ List.replicate (N - ds.length) none) h) := rfl
@[simp] theorem endF_ret (d : D) : endF (.ret d h) = .ok d h := (rfl)
@[simp] theorem endF_nx : endF (.nx ρ h) = .ok .non h := (rfl)
@[simp] theorem endF_rs (c : Str) (fs : List (Str × D)) : endF (.rs c fs ρ h) = .raise c fs h := (rfl)
theorem keptH_refl : keptH h h := ⟨Nat.le_refl _, fun _ _ => .inl rfl⟩
theorem keptH_app (g : Hh) : keptH h (h ++ g) := ⟨by simp, fun i hi => .inl (List.getElem?_append_left hi)⟩
/-- a value comes back, what stood is as it was -/
theorem cut_ok {f : List D → Hh → Res D} {ds : List D} {d : D} {g : Hh} (e : f ds h = .ok d (h ++ g)) (b : below h.length d = true) : cutF f ds h = .ok d h := by
  unfold cutF
  rw [e]
  simp only
  rw [if_pos (keptH_app g)]
  have : frzD h.length (h ++ g) 3 d = some d := by unfold frzD; exact if_pos b
  rw [this]
  simp
/-- a new list comes back -/
theorem cut_lst {f : List D → Hh → Res D} {ds : List D} {l : List D} {g : Hh} {n : Nat} (e : f ds h = .ok (.ref n) (h ++ g)) (hn : h.length ≤ n) (r : (h ++ g)[n]? = some (.lst l)) (b : belows h.length l = true) : cutF f ds h = .ok (.lst l) h := by
  unfold cutF
  rw [e]
  simp only
  rw [if_pos (keptH_app g)]
  have b0 : ¬ below h.length (.ref n) = true := by
    show ¬ decide (n < h.length) = true
    simp
    omega
  have bl : ∀ l : List D, belows h.length l = true → l.mapM (frzD h.length (h ++ g) 2) = some l := by
    intro l
    induction l with
    | nil => intro _; rfl
    | cons d l ih =>
      intro b
      have b := Bool.and_eq_true_iff.mp b
      rw [mapM_none, ih b.2]
      have : frzD h.length (h ++ g) 2 d = some d := by unfold frzD; exact if_pos b.1
      rw [this]
      rfl
  have : frzD h.length (h ++ g) 3 (.ref n) = some (.lst l) := by
    unfold frzD
    rw [if_neg b0]
    simp only [r]
    rw [bl l b]
    rfl
  rw [this]
  simp
@[simp] theorem below_non (n : Nat) : below n .non = true := (rfl)
@[simp] theorem below_int (n : Nat) (i : Int) : below n (.int i) = true := (rfl)
@[simp] theorem below_bl (n : Nat) (i : Bool) : below n (.bl i) = true := (rfl)
@[simp] theorem below_str (n : Nat) (i : Str) : below n (.str i) = true := (rfl)
@[simp] theorem below_tup (n : Nat) (l : List D) : below n (.tup l) = belows n l := (rfl)
@[simp] theorem below_lst (n : Nat) (l : List D) : below n (.lst l) = belows n l := (rfl)
@[simp] theorem belows_nil (n : Nat) : belows n [] = true := (rfl)
@[simp] theorem belows_cons (n : Nat) (d : D) (l : List D) : belows n (d :: l) = (below n d && belows n l) := (rfl)
theorem belows_all (n : Nat) : ∀ l : List D, belows n l = true ↔ ∀ d ∈ l, below n d = true
  | [] => by simp
  | d :: l => by simp [belows_all n l]
theorem belows_app (n : Nat) (l m : List D) : belows n (l ++ m) = (belows n l && belows n m) := by
  induction l with
  | nil => rfl
  | cons d l ih => rw [List.cons_append, belows_cons, ih, belows_cons, Bool.and_assoc]
theorem belows_map {α : Type} (n : Nat) (f : α → D) (l : List α) (hf : ∀ x ∈ l, below n (f x) = true) : belows n (l.map f) = true := by
  rw [belows_all]
  intro d hd
  obtain ⟨x, hx, rfl⟩ := List.mem_map.mp hd
  exact hf x hx
end
end Ev

/-! EvM: shared small laws over lists of values. -/
namespace Ev
open PySem PySem.Spec PyProof.Rows L2
section
variable {ρ : Env} {h : Hh} {x y : SS}
/-- lo, lo + 1, .. -/
def ivs (lo : Int) (n : Nat) : List Int := (List.range n).map fun i : Nat => lo + (i : Int)
theorem rngL_ivs (lo : Int) (n : Nat) : rngL lo n = (ivs lo n).map D.int := by
  induction n generalizing lo with
  | zero => rfl
  | succ n ih =>
    rw [rngL, ih]
    simp [ivs, List.range_succ_eq_map, Function.comp_def]
    intro i _
    omega
@[simp] theorem ivs_length (lo : Int) (n : Nat) : (ivs lo n).length = n := by simp [ivs]
@[simp] theorem mem_ivs (lo : Int) (n : Nat) (j : Int) : j ∈ ivs lo n ↔ lo ≤ j ∧ j < lo + n := by
  simp only [ivs, List.mem_map, List.mem_range]
  constructor
  · rintro ⟨i, hi, rfl⟩; omega
  · rintro ⟨h1, h2⟩; exact ⟨(j - lo).toNat, by omega, by omega⟩
theorem eqvD_int (i j : Int) : eqvD (.int i) (.int j) = decide (i = j) := by show (i == j) = _; rw [Bool.beq_eq_decide_eq]
theorem eqvD_str (i j : Str) : eqvD (.str i) (.str j) = decide (i = j) := by show (i == j) = _; rw [Bool.beq_eq_decide_eq]
theorem any_ints (l : List Int) (j : Int) : ((l.map D.int).any fun z => eqvD z (.int j)) = decide (j ∈ l) := by
  induction l with
  | nil => rfl
  | cons i l ih =>
    rw [List.map_cons, List.any_cons, ih, eqvD_int]
    simp [eq_comm]
theorem any_strs (l : List Str) (j : Str) : ((l.map D.str).any fun z => eqvD z (.str j)) = decide (j ∈ l) := by
  induction l with
  | nil => rfl
  | cons i l ih =>
    rw [List.map_cons, List.any_cons, ih, eqvD_str]
    simp [eq_comm]
theorem flat_ints (l : List Int) : (l.map D.int).all flatD = true := by
  rw [List.all_eq_true]; intro d hd; obtain ⟨i, _, rfl⟩ := List.mem_map.mp hd; rfl
theorem flat_strs (l : List Str) : (l.map D.str).all flatD = true := by
  rw [List.all_eq_true]; intro d hd; obtain ⟨i, _, rfl⟩ := List.mem_map.mp hd; rfl
theorem memD_ints (l : List Int) (j : Int) : memD (.int j) (.lst (l.map D.int)) h = some (decide (j ∈ l)) := by
  have : memD (.int j) (.lst (l.map D.int)) h = some ((l.map D.int).any fun z => eqvD z (.int j)) := if_pos (.inl ⟨rfl, flat_ints l⟩)
  rw [this, any_ints]
theorem memD_intsT (l : List Int) (j : Int) : memD (.int j) (.tup (l.map D.int)) h = some (decide (j ∈ l)) := by
  have : memD (.int j) (.tup (l.map D.int)) h = some ((l.map D.int).any fun z => eqvD z (.int j)) := if_pos (.inl ⟨rfl, flat_ints l⟩)
  rw [this, any_ints]
@[simp] theorem ninD_ints (l : List Int) (j : Int) : ninD (.int j) (.lst (l.map D.int)) h = .ok (.bl (!decide (j ∈ l))) h := by unfold ninD; rw [memD_ints]
@[simp] theorem inD_ints (l : List Int) (j : Int) : inD (.int j) (.lst (l.map D.int)) h = .ok (.bl (decide (j ∈ l))) h := by unfold inD; rw [memD_ints]
@[simp] theorem ninD_intsT (l : List Int) (j : Int) : ninD (.int j) (.tup (l.map D.int)) h = .ok (.bl (!decide (j ∈ l))) h := by unfold ninD; rw [memD_intsT]
@[simp] theorem inD_intsT (l : List Int) (j : Int) : inD (.int j) (.tup (l.map D.int)) h = .ok (.bl (decide (j ∈ l))) h := by unfold inD; rw [memD_intsT]
@[simp] theorem sumD_ints (l : List Int) : sumD [.lst (l.map D.int)] h = .ok (.int l.sum) h := by
  show (match (some (l.map D.int)).bind intsOf with | some l => _ | none => _) = _
  rw [Option.bind_some, intsOf_map]
@[simp] theorem anyD_bls (l : List Bool) : anyD [.lst (l.map D.bl)] h = .ok (.bl (l.any id)) h := by
  show (match (some (l.map D.bl)).bind blsOf with | some l => _ | none => _) = _
  rw [Option.bind_some, blsOf_map]
@[simp] theorem sortedD_ints (l : List Int) : sortedD [.lst (l.map D.int)] h = .ok (.lst ((sortI l).map D.int)) h := by
  show (match (some (l.map D.int)).bind intsOf with | some l => _ | none => _) = _
  rw [Option.bind_some, intsOf_map]
theorem zipL_map {α β : Type} (f : α → D) (g : β → D) : ∀ (l : List α) (m : List β), zipL (l.map f) (m.map g) = (l.zip m).map fun p => .tup [f p.1, g p.2]
  | [], _ => by simp [zipL]
  | _ :: _, [] => by simp [zipL]
  | a :: l, b :: m => by
    rw [List.map_cons, List.map_cons, zipL, zipL_map f g l m]
    rfl
@[simp] theorem gTp2 (i j : Nat) (a b : D) : gTp [i, j] (.tup [a, b]) ρ = some ((ρ.set i (some a)).set j (some b)) := (rfl)
@[simp] theorem gTp3 (i j k : Nat) (a b c : D) : gTp [i, j, k] (.tup [a, b, c]) ρ = some (((ρ.set i (some a)).set j (some b)).set k (some c)) := (rfl)
@[simp] theorem gTp4 (i j k n : Nat) (a b c d : D) : gTp [i, j, k, n] (.tup [a, b, c, d]) ρ = some ((((ρ.set i (some a)).set j (some b)).set k (some c)).set n (some d)) := (rfl)
@[simp] theorem gTp5 (i j k n m : Nat) (a b c d e : D) : gTp [i, j, k, n, m] (.tup [a, b, c, d, e]) ρ = some (((((ρ.set i (some a)).set j (some b)).set k (some c)).set n (some d)).set m (some e)) := (rfl)
/-- a loop that looks for the first that fails, and leaves the heap alone -/
theorem loop_all {α : Type} {g : GM} {f : α → D} {l : List α} (I : Env → Prop) (p : α → Bool) (d : D) (h0 : I ρ) (hs : ∀ a, a ∈ l → ∀ ρ, I ρ → ∃ ρ1, g (f a) ρ = some ρ1 ∧ if p a = true then ∃ ρ2, (x ρ1 h = .nx ρ2 h ∨ x ρ1 h = .ct ρ2 h) ∧ I ρ2 else x ρ1 h = .ret d h) :
    (l.all p = true ∧ ∃ ρ', loopS (fun _ => True) g x (l.map f) ρ h = .nx ρ' h ∧ I ρ') ∨ (l.all p = false ∧ loopS (fun _ => True) g x (l.map f) ρ h = .ret d h) := by
  induction l generalizing ρ with
  | nil => exact .inl ⟨rfl, ρ, loop_nil, h0⟩
  | cons a l ih =>
    obtain ⟨ρ1, e1, q⟩ := hs a List.mem_cons_self ρ h0
    rw [List.map_cons, loop_cons e1, List.all_cons]
    by_cases hp : p a = true
    · rw [if_pos hp] at q
      obtain ⟨ρ2, e2, i2⟩ := q
      have := ih i2 fun a ha => hs a (List.mem_cons_of_mem _ ha)
      rw [hp, Bool.true_and]
      rcases e2 with e2 | e2 <;> rw [e2] <;> exact this
    · rw [if_neg hp] at q
      right
      rw [q]
      exact ⟨by rw [Bool.not_eq_true] at hp; rw [hp]; rfl, rfl⟩
/-- a comprehension over what a list stands for -/
theorem lc_mapf {α : Type} {f : α → D} {l : List α} {i : Nat} {tt : EM Bool} {te : EM D} (p : α → Bool) (g : α → D) (ht : ∀ a, a ∈ l → tt (ρ.set i (some (f a))) h = .ok (p a) h) (he : ∀ a, a ∈ l → p a = true → te (ρ.set i (some (f a))) h = .ok (g a) h) :
    lcL (fun _ => True) i tt te ρ (l.map f) h = .ok ((l.filter p).map g) h := by
  induction l with
  | nil => unfold lcL; exact if_pos trivial
  | cons a l ih =>
    unfold lcL
    simp only [List.map_cons]
    rw [if_pos trivial, ht a List.mem_cons_self, nrR_ok, bind_ok]
    have ih := ih (fun d hd => ht d (List.mem_cons_of_mem _ hd)) fun d hd => he d (List.mem_cons_of_mem _ hd)
    cases ef : p a with
    | false =>
      rw [if_neg Bool.false_ne_true, ih, List.filter_cons_of_neg (by rw [ef]; exact Bool.false_ne_true)]
    | true =>
      rw [if_pos rfl, he a List.mem_cons_self ef, nrR_ok, bind_ok, ih, bind_ok, List.filter_cons_of_pos ef, List.map_cons]
end
end Ev
namespace Ev
open PySem PySem.Spec PyProof.Rows L2
section
variable {ρ : Env} {h : Hh} {x y : SS}
theorem lc_mapfC {α : Type} {C : Hh → Prop} {f : α → D} {l : List α} {i : Nat} {tt : EM Bool} {te : EM D} (hC : C h) (p : α → Bool) (g : α → D) (ht : ∀ a, a ∈ l → tt (ρ.set i (some (f a))) h = .ok (p a) h) (he : ∀ a, a ∈ l → p a = true → te (ρ.set i (some (f a))) h = .ok (g a) h) :
    lcL C i tt te ρ (l.map f) h = .ok ((l.filter p).map g) h := by
  induction l with
  | nil => unfold lcL; exact if_pos hC
  | cons a l ih =>
    unfold lcL
    simp only [List.map_cons]
    rw [if_pos hC, ht a List.mem_cons_self, nrR_ok, bind_ok]
    have ih := ih (fun d hd => ht d (List.mem_cons_of_mem _ hd)) fun d hd => he d (List.mem_cons_of_mem _ hd)
    cases ef : p a with
    | false =>
      rw [if_neg Bool.false_ne_true, ih, List.filter_cons_of_neg (by rw [ef]; exact Bool.false_ne_true)]
    | true =>
      rw [if_pos rfl, he a List.mem_cons_self ef, nrR_ok, bind_ok, ih, bind_ok, List.filter_cons_of_pos ef, List.map_cons]
/-- a comprehension with no test over values, or over a mutable list that stands -/
theorem lc_all {α : Type} {C : Hh → Prop} {f : α → D} {l : List α} {i : Nat} {te : EM D} (hC : C h) (g : α → D) (he : ∀ a, a ∈ l → te (ρ.set i (some (f a))) h = .ok (g a) h) :
    lcL C i tYesE te ρ (l.map f) h = .ok (l.map g) h := by
  rw [lc_mapfC hC (fun _ => true) g (fun _ _ => rfl) fun a ha _ => he a ha, List.filter_eq_self.mpr fun _ _ => rfl]
theorem lcE_runR {i n : Nat} {tt : EM Bool} {te : EM D} {mi : EM IT} {l r : List D} {h1 h2 : Hh} (e : mi ρ h = .ok ⟨l, some n⟩ h1) (hl : l.length ≤ sizeLine) (q : lcL (fun h => h[n]? = some (.lst l)) i tt te ρ l h1 = .ok r h2) : lcE mi i tt te ρ h = .ok (.lst r) h2 := by
  unfold lcE
  rw [e, bind_ok, if_pos hl]
  show (lcL (fun h => h[n]? = some (.lst l)) i tt te ρ l h1).bind _ = _
  rw [q, bind_ok]
@[simp] theorem small64_lit (i : Int) : small64 i ↔ (-18446744073709551616 < i ∧ i < 18446744073709551616) := .rfl
theorem powD_int (i j : Int) (hj : 0 ≤ j ∧ j ≤ 1000000 ∧ i.natAbs < 18446744073709551616) : powD (.int i) (.int j) h = .ok (.int (i ^ j.toNat)) h := if_pos hj
theorem memD_strs (l : List Str) (j : Str) : memD (.str j) (.lst (l.map D.str)) h = some (decide (j ∈ l)) := by
  have : memD (.str j) (.lst (l.map D.str)) h = some ((l.map D.str).any fun z => eqvD z (.str j)) := if_pos (.inl ⟨rfl, flat_strs l⟩)
  rw [this, any_strs]
theorem memD_strsT (l : List Str) (j : Str) : memD (.str j) (.tup (l.map D.str)) h = some (decide (j ∈ l)) := by
  have : memD (.str j) (.tup (l.map D.str)) h = some ((l.map D.str).any fun z => eqvD z (.str j)) := if_pos (.inl ⟨rfl, flat_strs l⟩)
  rw [this, any_strs]
@[simp] theorem ninD_strs (l : List Str) (j : Str) : ninD (.str j) (.lst (l.map D.str)) h = .ok (.bl (!decide (j ∈ l))) h := by unfold ninD; rw [memD_strs]
@[simp] theorem inD_strs (l : List Str) (j : Str) : inD (.str j) (.lst (l.map D.str)) h = .ok (.bl (decide (j ∈ l))) h := by unfold inD; rw [memD_strs]
@[simp] theorem ninD_strsT (l : List Str) (j : Str) : ninD (.str j) (.tup (l.map D.str)) h = .ok (.bl (!decide (j ∈ l))) h := by unfold ninD; rw [memD_strsT]
@[simp] theorem inD_strsT (l : List Str) (j : Str) : inD (.str j) (.tup (l.map D.str)) h = .ok (.bl (decide (j ∈ l))) h := by unfold inD; rw [memD_strsT]
def k_ixStr (h : Hh) (o : Option Nat) : Res D := match o with
  | some c => .ok (.str ⟨#[c]⟩) h
  | none => .stuck
@[simp] theorem k_ixStr_some (h : Hh) (c : Nat) : k_ixStr h (some c) = .ok (.str ⟨#[c]⟩) h := (rfl)
theorem ixD_str {z : Str} {i : Int} (hz : z.length ≤ sizeLine) : ixD (.str z) (.int i) h = k_ixStr h (atI z.cps.toList i) := by
  show (if z.length ≤ sizeLine then _ else _) = _
  rw [if_pos hz]
  cases atI z.cps.toList i <;> rfl
end
end Ev
namespace Ev
open PySem PySem.Spec PyProof.Rows L2
/-- a body went on, and this holds then -/
@[irreducible] def Nx (r : SR) (P : Env → Hh → Prop) : Prop := match r with
  | .nx ρ h => P ρ h
  | .ct ρ h => P ρ h
  | _ => False
@[simp] theorem Nx_nx (ρ : Env) (h : Hh) (P : Env → Hh → Prop) : Nx (.nx ρ h) P = P ρ h := by unfold Nx; rfl
@[simp] theorem Nx_ct (ρ : Env) (h : Hh) (P : Env → Hh → Prop) : Nx (.ct ρ h) P = P ρ h := by unfold Nx; rfl
@[simp] theorem Nx_ret (d : D) (h : Hh) (P : Env → Hh → Prop) : Nx (.ret d h) P = False := by unfold Nx; rfl
@[simp] theorem Nx_bk (ρ : Env) (h : Hh) (P : Env → Hh → Prop) : Nx (.bk ρ h) P = False := by unfold Nx; rfl
@[simp] theorem Nx_rs (c : Str) (fs : List (Str × D)) (ρ : Env) (h : Hh) (P : Env → Hh → Prop) : Nx (.rs c fs ρ h) P = False := by unfold Nx; rfl
@[simp] theorem Nx_stuck (P : Env → Hh → Prop) : Nx .stuck P = False := by unfold Nx; rfl

@[irreducible] def Gx (o : Option Env) (x : SS) (h : Hh) (P : Env → Hh → Prop) : Prop := match o with
  | some ρ => Nx (x ρ h) P
  | none => False
@[simp] theorem Gx_some (ρ : Env) (x : SS) (h : Hh) (P : Env → Hh → Prop) : Gx (some ρ) x h P = Nx (x ρ h) P := by unfold Gx; rfl
@[simp] theorem Gx_none (x : SS) (h : Hh) (P : Env → Hh → Prop) : Gx none x h P = False := by unfold Gx; rfl
section
variable {ρ : Env} {h : Hh} {x y : SS}
theorem lpC_nil {C : Hh → Prop} {g : GM} (hC : C h) : loopS C g x [] ρ h = .nx ρ h := by unfold loopS; exact if_pos hC
theorem lpC_cons {C : Hh → Prop} {g : GM} {d : D} {l : List D} {ρ1 : Env} (hC : C h) (e : g d ρ = some ρ1) : loopS C g x (d :: l) ρ h = match x ρ1 h with
  | .nx ρ2 h2 => loopS C g x l ρ2 h2
  | .ct ρ2 h2 => loopS C g x l ρ2 h2
  | .bk ρ2 h2 => .nx ρ2 h2
  | r => r := by
  conv => lhs; unfold loopS
  rw [if_pos hC]
  simp only [e]
  all_goals (cases x ρ1 h <;> rfl)
theorem lpC_thru {C : Hh → Prop} {g : GM} {l : List D} (I : Nat → Env → Hh → Prop) (hC : ∀ i ρ h, I i ρ h → C h) (h0 : I 0 ρ h) (hs : ∀ i d ρ h, l[i]? = some d → I i ρ h → Gx (g d ρ) x h (I (i + 1))) :
    ∃ ρ' h', loopS C g x l ρ h = .nx ρ' h' ∧ I l.length ρ' h' := by
  induction l generalizing I ρ h with
  | nil => exact ⟨ρ, h, lpC_nil (hC _ _ _ h0), h0⟩
  | cons d l ih =>
    have q := hs 0 d ρ h rfl h0
    cases e1 : g d ρ with
    | none => rw [e1, Gx_none] at q; exact q.elim
    | some ρ1 =>
      rw [e1, Gx_some] at q
      rw [lpC_cons (hC _ _ _ h0) e1]
      cases e2 : x ρ1 h with
      | nx ρ2 h2 =>
        rw [e2, Nx_nx] at q
        exact ih (fun i => I (i + 1)) (fun i => hC (i + 1)) q fun i d ρ h e q => hs (i + 1) d ρ h e q
      | ct ρ2 h2 =>
        rw [e2, Nx_ct] at q
        exact ih (fun i => I (i + 1)) (fun i => hC (i + 1)) q fun i d ρ h e q => hs (i + 1) d ρ h e q
      | _ => rw [e2] at q; simp at q
theorem lp_rng {g : GM} {lo : Int} {n : Nat} (I : Nat → Env → Hh → Prop) (h0 : I 0 ρ h) (hs : ∀ i ρ h, i < n → I i ρ h → Gx (g (.int (lo + i)) ρ) x h (I (i + 1))) :
    ∃ ρ' h', loopS (fun _ => True) g x (rngL lo n) ρ h = .nx ρ' h' ∧ I n ρ' h' := by
  have := lpC_thru (C := fun _ => True) (x := x) (g := g) (l := rngL lo n) I (fun _ _ _ _ => trivial) h0 fun i d ρ h e q => by
    have hi : i < n := by
      have := (List.getElem?_eq_some_iff.mp e).1
      rwa [rngL_length] at this
    rw [rngL_get lo n i hi] at e
    cases e
    exact hs i ρ h hi q
  rwa [rngL_length] at this
theorem lpC_map {α : Type} {C : Hh → Prop} {g : GM} {f : α → D} {l : List α} (I : List α → Env → Hh → Prop) (hC : ∀ pre ρ h, I pre ρ h → C h) (h0 : I [] ρ h) (hs : ∀ pre a post ρ h, l = pre ++ a :: post → I pre ρ h → Gx (g (f a) ρ) x h (I (pre ++ [a]))) :
    ∃ ρ' h', loopS C g x (l.map f) ρ h = .nx ρ' h' ∧ I l ρ' h' := by
  have := lpC_thru (C := C) (x := x) (g := g) (l := l.map f) (fun i => I (l.take i)) (fun _ _ _ q => hC _ _ _ q) (by simpa using h0) fun i d ρ h e q => by
    rw [List.getElem?_map] at e
    cases ea : l[i]? with
    | none => rw [ea] at e; cases e
    | some a =>
      rw [ea] at e
      cases e
      obtain ⟨hi, ha⟩ := List.getElem?_eq_some_iff.mp ea
      have := hs (l.take i) a (l.drop (i + 1)) ρ h (by rw [← ha, List.getElem_cons_drop, List.take_append_drop]) q
      rw [← ha, List.take_append_getElem hi] at this
      rw [← ha]
      exact this
  simpa using this
theorem lp_map {α : Type} {g : GM} {f : α → D} {l : List α} (I : List α → Env → Hh → Prop) (h0 : I [] ρ h) (hs : ∀ pre a post ρ h, l = pre ++ a :: post → I pre ρ h → Gx (g (f a) ρ) x h (I (pre ++ [a]))) :
    ∃ ρ' h', loopS (fun _ => True) g x (l.map f) ρ h = .nx ρ' h' ∧ I l ρ' h' := lpC_map (C := fun _ => True) I (fun _ _ _ _ => trivial) h0 hs
/-- search: goes on where p holds, is left with r else; the heap stands -/
theorem lpC_all {α : Type} {C : Hh → Prop} {g : GM} {f : α → D} {l : List α} (hC : C h) (I : Env → Prop) (p : α → Bool) (d : D) (h0 : I ρ) (hs : ∀ a, a ∈ l → ∀ ρ, I ρ → ∃ ρ1, g (f a) ρ = some ρ1 ∧ if p a = true then Nx (x ρ1 h) (fun ρ2 h2 => I ρ2 ∧ h2 = h) else x ρ1 h = .ret d h) :
    (l.all p = true ∧ ∃ ρ', loopS C g x (l.map f) ρ h = .nx ρ' h ∧ I ρ') ∨ (l.all p = false ∧ loopS C g x (l.map f) ρ h = .ret d h) := by
  induction l generalizing ρ with
  | nil => exact .inl ⟨rfl, ρ, lpC_nil hC, h0⟩
  | cons a l ih =>
    obtain ⟨ρ1, e1, q⟩ := hs a List.mem_cons_self ρ h0
    rw [List.map_cons, lpC_cons hC e1, List.all_cons]
    by_cases hp : p a = true
    · rw [if_pos hp] at q
      rw [hp, Bool.true_and]
      cases e2 : x ρ1 h with
      | nx ρ2 h2 =>
        rw [e2, Nx_nx] at q
        obtain ⟨i2, rfl⟩ := q
        exact ih i2 fun a ha => hs a (List.mem_cons_of_mem _ ha)
      | ct ρ2 h2 =>
        rw [e2, Nx_ct] at q
        obtain ⟨i2, rfl⟩ := q
        exact ih i2 fun a ha => hs a (List.mem_cons_of_mem _ ha)
      | _ => rw [e2] at q; simp at q
    · rw [if_neg hp] at q
      right
      rw [q]
      exact ⟨by rw [Bool.not_eq_true] at hp; rw [hp]; rfl, rfl⟩
theorem lp_all {α : Type} {g : GM} {f : α → D} {l : List α} (I : Env → Prop) (p : α → Bool) (d : D) (h0 : I ρ) (hs : ∀ a, a ∈ l → ∀ ρ, I ρ → ∃ ρ1, g (f a) ρ = some ρ1 ∧ if p a = true then Nx (x ρ1 h) (fun ρ2 h2 => I ρ2 ∧ h2 = h) else x ρ1 h = .ret d h) :
    (l.all p = true ∧ ∃ ρ', loopS (fun _ => True) g x (l.map f) ρ h = .nx ρ' h ∧ I ρ') ∨ (l.all p = false ∧ loopS (fun _ => True) g x (l.map f) ρ h = .ret d h) := lpC_all (C := fun _ => True) trivial I p d h0 hs
end
end Ev
namespace Ev
open PySem PySem.Spec PyProof.Rows L2
section
variable {ρ : Env} {h : Hh}
/-! dicts that are sets of ints -/
def kT (k : Int) : D × D := (.int k, .bl true)
def insK (K : List Int) (k : Int) : List Int := if k ∈ K then K else K ++ [k]
theorem putD_kT (K : List Int) (k : Int) : putD (K.map kT) (.int k) (.bl true) = (insK K k).map kT := by
  unfold putD insK
  have ha : ((K.map kT).any fun p => decide (keyD p.1 = keyD (.int k))) = decide (k ∈ K) := by
    induction K with
    | nil => rfl
    | cons x K ih =>
      rw [List.map_cons, List.any_cons, ih]
      simp [kT, keyD, eq_comm]
  rw [ha]
  by_cases hk : k ∈ K
  · rw [if_pos (by simpa using hk), if_pos hk, List.map_map]
    refine List.map_congr_left fun x _ => ?_
    simp only [Function.comp, kT, keyD]
    exact ite_self _
  · rw [if_neg (by simpa using hk), if_neg hk, List.map_append]
    rfl
theorem insK_mem (K : List Int) (k m : Int) : m ∈ insK K k ↔ m ∈ K ∨ m = k := by
  unfold insK
  split
  · rename_i hk
    exact ⟨.inl, fun q => q.elim id fun e => e ▸ hk⟩
  · simp
theorem insK_nodup {K : List Int} (k : Int) (h : K.Nodup) : (insK K k).Nodup := by
  unfold insK
  split
  · exact h
  · rename_i hk
    rw [List.nodup_append]
    exact ⟨h, by simp, fun a ha b hb e => hk (by rw [← List.mem_singleton.mp hb, ← e]; exact ha)⟩
theorem insK_len (K : List Int) (k : Int) : (insK K k).length ≤ K.length + 1 := by unfold insK; split <;> simp
theorem insK_foldl_mem (l K : List Int) (m : Int) : m ∈ l.foldl insK K ↔ m ∈ K ∨ m ∈ l := by
  induction l generalizing K with
  | nil => simp
  | cons x l ih => rw [List.foldl_cons, ih, insK_mem, List.mem_cons, or_assoc]
theorem insK_foldl_nodup (l : List Int) {K : List Int} (h : K.Nodup) : (l.foldl insK K).Nodup := by
  induction l generalizing K with
  | nil => exact h
  | cons x l ih => exact ih (insK_nodup x h)
theorem nodup_len {K : List Int} {n : Nat} (h : K.Nodup) (hb : ∀ m ∈ K, 0 ≤ m ∧ m < n) : K.length ≤ n := by
  have := h.length_le_of_subset (l₂ := ivs 0 n) fun m hm => by
    have := hb m hm
    rw [mem_ivs]
    omega
  rwa [ivs_length] at this
theorem sorted_of {K l : List Int} (h : K.Nodup) (hl : l.Pairwise (· < ·)) (hm : ∀ m, m ∈ K ↔ m ∈ l) : sortI K = l := by
  have hln : l.Nodup := hl.imp fun q => Int.ne_of_lt q
  have hp : K.Perm l := (List.perm_ext_iff_of_nodup h hln).mpr hm
  exact sorted_uniq ((sortI_perm K).trans hp) (sortI_sorted K) (hl.imp fun q => Int.le_of_lt q)
theorem sortD_kT {n : Nat} {K : List Int} (r : h[n]? = some (.dic (K.map kT))) (hl : K.length < 64) : sortD [.ref n] h = .ok (.lst ((sortI K).map D.int)) h := by
  have e : intsOf ((K.map kT).map (·.1)) = some K := by rw [List.map_map]; exact intsOf_map K
  unfold sortD
  simp only [lstOf_refK, dicOf_refK, r, oL_dic, oK_dic, e]
  exact if_pos hl
@[simp] theorem sortD_ints (l : List Int) : sortD [.lst (l.map D.int)] h = .ok (.lst ((sortI l).map D.int)) h := by
  show (match intsOf (l.map D.int) with | some ns => _ | none => _) = _
  rw [intsOf_map]
theorem sortD_ref {n : Nat} {l : List Int} (r : h[n]? = some (.lst (l.map D.int))) : sortD [.ref n] h = .ok (.lst ((sortI l).map D.int)) h := by
  unfold sortD
  simp only [lstOf_refK, r, oL_lst, intsOf_map]
@[simp] theorem dicH_run : dicH ρ h = .ok (.ref h.length) (h ++ [.dic []]) := (rfl)
@[simp] theorem keyD_int (i : Int) : keyD (.int i) = some (Sum.inl i) := (rfl)
@[simp] theorem keyD_str (i : Str) : keyD (.str i) = some (Sum.inr i) := (rfl)
theorem atI_map {α : Type} [Inhabited α] (f : α → D) (l : List α) (i : Int) (h0 : 0 ≤ i) (h1 : i < l.length) : atI (l.map f) i = some (f ((l[i.toNat]?).getD default)) := by
  rw [atI_nnE _ h0, List.getElem?_map, List.getElem?_eq_getElem (by omega)]
  rfl
end
end Ev
namespace Ev
open PySem PySem.Spec PyProof.Rows L2
section
variable {ρ : Env} {h : Hh}
/-! == of data -/
@[simp] theorem eqvD_nil : eqvD (.tup []) (.tup []) = true := by unfold eqvD; simp [toPy, toPys, PyData.eqv, PyData.eqvAll]
@[simp] theorem eqvD_nilc (b : D) (m : List D) : eqvD (.tup []) (.tup (b :: m)) = false := by unfold eqvD; simp [toPy, toPys, PyData.eqv, PyData.eqvAll]
@[simp] theorem eqvD_cnil (b : D) (m : List D) : eqvD (.tup (b :: m)) (.tup []) = false := by unfold eqvD; simp [toPy, toPys, PyData.eqv, PyData.eqvAll]
@[simp] theorem eqvD_cons (a b : D) (l m : List D) : eqvD (.tup (a :: l)) (.tup (b :: m)) = (eqvD a b && eqvD (.tup l) (.tup m)) := by unfold eqvD; simp [toPy, toPys, PyData.eqv, PyData.eqvAll]
theorem eqvD_lst (l m : List D) : eqvD (.lst l) (.lst m) = eqvD (.tup l) (.tup m) := by unfold eqvD; simp [toPy, PyData.eqv]
theorem eqvD_map {α : Type} [DecidableEq α] {f : α → D} : ∀ l m : List α, (∀ a, a ∈ l → ∀ b, b ∈ m → eqvD (f a) (f b) = decide (a = b)) → eqvD (.tup (l.map f)) (.tup (m.map f)) = decide (l = m)
  | [], [], _ => by simp
  | [], b :: m, _ => by simp
  | a :: l, [], _ => by simp
  | a :: l, b :: m, hf => by
    rw [List.map_cons, List.map_cons, eqvD_cons, hf a List.mem_cons_self b List.mem_cons_self, eqvD_map l m fun a ha b hb => hf a (List.mem_cons_of_mem _ ha) b (List.mem_cons_of_mem _ hb)]
    simp
theorem okDs_map {α : Type} {f : α → D} : ∀ l : List α, (∀ a, a ∈ l → okD (f a) = true) → okDs (l.map f) = true
  | [], _ => rfl
  | a :: l, hf => by
    show (okD (f a) && okDs (l.map f)) = true
    rw [hf a List.mem_cons_self, okDs_map l fun a ha => hf a (List.mem_cons_of_mem _ ha)]
    rfl
theorem depDs_map {α : Type} {f : α → D} {n : Nat} : ∀ l : List α, (∀ a, a ∈ l → depD (f a) ≤ n) → depDs (l.map f) ≤ n
  | [], _ => Nat.zero_le _
  | a :: l, hf => by
    show max (depD (f a)) (depDs (l.map f)) ≤ n
    exact Nat.max_le.mpr ⟨hf a List.mem_cons_self, depDs_map l fun a ha => hf a (List.mem_cons_of_mem _ ha)⟩
theorem cmp_map {α : Type} {f : α → D} (l : List α) (h1 : ∀ a, a ∈ l → okD (f a) = true) (h2 : ∀ a, a ∈ l → depD (f a) ≤ 61) : CmpOk (.tup (l.map f)) :=
  ⟨okDs_map l h1, Nat.succ_le_succ (depDs_map l h2)⟩
theorem cmp_mapL {α : Type} {f : α → D} (l : List α) (h1 : ∀ a, a ∈ l → okD (f a) = true) (h2 : ∀ a, a ∈ l → depD (f a) ≤ 61) : CmpOk (.lst (l.map f)) :=
  ⟨okDs_map l h1, Nat.succ_le_succ (depDs_map l h2)⟩
theorem eqD_tint (l m : List Int) : eqD (.tup (l.map D.int)) (.tup (m.map D.int)) h = .ok (.bl (decide (l = m))) h := by
  rw [eqD_cmp (cmp_map l (fun _ _ => rfl) fun _ _ => Nat.zero_le _) (cmp_map m (fun _ _ => rfl) fun _ _ => Nat.zero_le _), eqvD_map l m fun a _ b _ => eqvD_int a b]
theorem neD_tint (l m : List Int) : neD (.tup (l.map D.int)) (.tup (m.map D.int)) h = .ok (.bl (!decide (l = m))) h := by
  rw [neD_cmp (cmp_map l (fun _ _ => rfl) fun _ _ => Nat.zero_le _) (cmp_map m (fun _ _ => rfl) fun _ _ => Nat.zero_le _), eqvD_map l m fun a _ b _ => eqvD_int a b]
theorem memD_refI {n : Nat} {l : List Int} {j : Int} (r : h[n]? = some (.lst (l.map D.int))) : memD (.int j) (.ref n) h = some (decide (j ∈ l)) := by
  unfold memD
  simp only [lstOf_refK, r, oL_lst]
  exact (if_pos (.inl ⟨rfl, flat_ints l⟩)).trans (by rw [any_ints])
theorem ninD_refI {n : Nat} {l : List Int} {j : Int} (r : h[n]? = some (.lst (l.map D.int))) : ninD (.int j) (.ref n) h = .ok (.bl (!decide (j ∈ l))) h := by unfold ninD; rw [memD_refI r]
theorem inD_refI {n : Nat} {l : List Int} {j : Int} (r : h[n]? = some (.lst (l.map D.int))) : inD (.int j) (.ref n) h = .ok (.bl (decide (j ∈ l))) h := by unfold inD; rw [memD_refI r]
end
end Ev
namespace Ev
open PySem PySem.Spec PyProof.Rows L2
section
variable {h : Hh}
@[simp] theorem isin_non_list  : isinD [.non, .ty "list"] h = .ok (.bl false) h := (rfl)
@[simp] theorem isin_non_tuple  : isinD [.non, .ty "tuple"] h = .ok (.bl false) h := (rfl)
@[simp] theorem isin_non_bool  : isinD [.non, .ty "bool"] h = .ok (.bl false) h := (rfl)
@[simp] theorem isin_non_str  : isinD [.non, .ty "str"] h = .ok (.bl false) h := (rfl)
@[simp] theorem isin_non_int  : isinD [.non, .ty "int"] h = .ok (.bl false) h := (rfl)
@[simp] theorem isin_bl_list (x : Bool) : isinD [(.bl x), .ty "list"] h = .ok (.bl false) h := (rfl)
@[simp] theorem isin_bl_tuple (x : Bool) : isinD [(.bl x), .ty "tuple"] h = .ok (.bl false) h := (rfl)
@[simp] theorem isin_bl_bool (x : Bool) : isinD [(.bl x), .ty "bool"] h = .ok (.bl true) h := (rfl)
@[simp] theorem isin_bl_str (x : Bool) : isinD [(.bl x), .ty "str"] h = .ok (.bl false) h := (rfl)
@[simp] theorem isin_bl_int (x : Bool) : isinD [(.bl x), .ty "int"] h = .ok (.bl true) h := (rfl)
@[simp] theorem isin_int_list (x : Int) : isinD [(.int x), .ty "list"] h = .ok (.bl false) h := (rfl)
@[simp] theorem isin_int_tuple (x : Int) : isinD [(.int x), .ty "tuple"] h = .ok (.bl false) h := (rfl)
@[simp] theorem isin_int_bool (x : Int) : isinD [(.int x), .ty "bool"] h = .ok (.bl false) h := (rfl)
@[simp] theorem isin_int_str (x : Int) : isinD [(.int x), .ty "str"] h = .ok (.bl false) h := (rfl)
@[simp] theorem isin_int_int (x : Int) : isinD [(.int x), .ty "int"] h = .ok (.bl true) h := (rfl)
@[simp] theorem isin_str_list (x : Str) : isinD [(.str x), .ty "list"] h = .ok (.bl false) h := (rfl)
@[simp] theorem isin_str_tuple (x : Str) : isinD [(.str x), .ty "tuple"] h = .ok (.bl false) h := (rfl)
@[simp] theorem isin_str_bool (x : Str) : isinD [(.str x), .ty "bool"] h = .ok (.bl false) h := (rfl)
@[simp] theorem isin_str_str (x : Str) : isinD [(.str x), .ty "str"] h = .ok (.bl true) h := (rfl)
@[simp] theorem isin_str_int (x : Str) : isinD [(.str x), .ty "int"] h = .ok (.bl false) h := (rfl)
@[simp] theorem isin_tup_list (x : List D) : isinD [(.tup x), .ty "list"] h = .ok (.bl false) h := (rfl)
@[simp] theorem isin_tup_tuple (x : List D) : isinD [(.tup x), .ty "tuple"] h = .ok (.bl true) h := (rfl)
@[simp] theorem isin_tup_bool (x : List D) : isinD [(.tup x), .ty "bool"] h = .ok (.bl false) h := (rfl)
@[simp] theorem isin_tup_str (x : List D) : isinD [(.tup x), .ty "str"] h = .ok (.bl false) h := (rfl)
@[simp] theorem isin_tup_int (x : List D) : isinD [(.tup x), .ty "int"] h = .ok (.bl false) h := (rfl)
@[simp] theorem isin_lst_list (x : List D) : isinD [(.lst x), .ty "list"] h = .ok (.bl true) h := (rfl)
@[simp] theorem isin_lst_tuple (x : List D) : isinD [(.lst x), .ty "tuple"] h = .ok (.bl false) h := (rfl)
@[simp] theorem isin_lst_bool (x : List D) : isinD [(.lst x), .ty "bool"] h = .ok (.bl false) h := (rfl)
@[simp] theorem isin_lst_str (x : List D) : isinD [(.lst x), .ty "str"] h = .ok (.bl false) h := (rfl)
@[simp] theorem isin_lst_int (x : List D) : isinD [(.lst x), .ty "int"] h = .ok (.bl false) h := (rfl)
@[simp] theorem absD_int (i : Int) : absD [.int i] h = .ok (.int (if i < 0 then -i else i)) h := (rfl)
end
end Ev
namespace Ev
open PySem PySem.Spec PyProof.Rows L2
@[simp] theorem ofString_inj (s t : String) : (Str.ofString s = Str.ofString t) ↔ s = t := by
  constructor
  · intro h
    rw [Str.ofString_eq_toList, Str.ofString_eq_toList] at h
    injection h with h
    have h := congrArg Array.toList h
    have h2 : s.toList = t.toList := by
      generalize s.toList = l at h
      generalize t.toList = m at h
      simp only at h
      induction l generalizing m with
      | nil => cases m with
        | nil => rfl
        | cons => simp at h
      | cons a l ih => cases m with
        | nil => simp at h
        | cons b m =>
          simp only [List.map_cons, List.cons.injEq] at h
          obtain ⟨h1, h2⟩ := h
          have : a = b := Char.toNat_inj.mp h1
          rw [this, ih m h2]
    exact String.toList_inj.mp h2
  · rintro rfl; rfl
end Ev
namespace Ev
open PySem PySem.Spec PyProof.Rows L2
/-! comparisons in a row -/
def k_ch4 (f2 : Int → Int → Bool) (j : Int) (r : Res D) : Res D := match r with
  | .ok (.int k) h => .ok (.bl (f2 j k)) h
  | .ok _ _ => .stuck
  | .raise c fs h => .raise c fs h
  | .stuck => .stuck
@[simp] theorem k_ch4_ok (f2 : Int → Int → Bool) (j k : Int) (h : Hh) : k_ch4 f2 j (.ok (.int k) h) = .ok (.bl (f2 j k)) h := (rfl)
def k_ch3 (f1 f2 : Int → Int → Bool) (x y : D) (c : EM D) (ρ : Env) (h : Hh) : Res D := match x, y with
  | .int i, .int j => if f1 i j = true then k_ch4 f2 j (c ρ h) else .ok (.bl false) h
  | _, _ => .stuck
@[simp] theorem k_ch3_ok (f1 f2 : Int → Int → Bool) (i j : Int) (c : EM D) (ρ : Env) (h : Hh) : k_ch3 f1 f2 (.int i) (.int j) c ρ h = if f1 i j = true then k_ch4 f2 j (c ρ h) else .ok (.bl false) h := (rfl)
def k_ch2 (f1 f2 : Int → Int → Bool) (x : D) (c : EM D) (ρ : Env) (r : Res D) : Res D := match r with
  | .ok y h => k_ch3 f1 f2 x y c ρ h
  | .raise c fs h => .raise c fs h
  | .stuck => .stuck
@[simp] theorem k_ch2_ok (f1 f2 : Int → Int → Bool) (x y : D) (c : EM D) (ρ : Env) (h : Hh) : k_ch2 f1 f2 x c ρ (.ok y h) = k_ch3 f1 f2 x y c ρ h := (rfl)
def k_ch1 (f1 f2 : Int → Int → Bool) (b c : EM D) (ρ : Env) (r : Res D) : Res D := match r with
  | .ok x h => k_ch2 f1 f2 x c ρ (b ρ h)
  | .raise c fs h => .raise c fs h
  | .stuck => .stuck
@[simp] theorem k_ch1_ok (f1 f2 : Int → Int → Bool) (x : D) (b c : EM D) (ρ : Env) (h : Hh) : k_ch1 f1 f2 b c ρ (.ok x h) = k_ch2 f1 f2 x c ρ (b ρ h) := (rfl)
@[simp] theorem k_ch (f1 f2 : Int → Int → Bool) (a b c : EM D) (ρ : Env) (h : Hh) : chE f1 f2 a b c ρ h = k_ch1 f1 f2 b c ρ (a ρ h) := by
  unfold chE
  cases a ρ h with
  | ok x h1 =>
    rw [bind_ok, k_ch1_ok]
    cases b ρ h1 with
    | ok y h2 =>
      rw [bind_ok, k_ch2_ok]
      cases x with
      | int i =>
        cases y with
        | int j =>
          show (if f1 i j = true then _ else _) = _
          rw [k_ch3_ok]
          congr 1
          cases c ρ h2 with
          | ok w h3 => cases w <;> rfl
          | _ => rfl
        | _ => rfl
      | _ => rfl
    | _ => rfl
  | _ => rfl
def k_dh4 (f2 f3 : Int → Int → Bool) (j : Int) (d : EM D) (ρ : Env) (r : Res D) : Res D := match r with
  | .ok (.int k) h => if f2 j k = true then k_ch4 f3 k (d ρ h) else .ok (.bl false) h
  | .ok _ _ => .stuck
  | .raise c fs h => .raise c fs h
  | .stuck => .stuck
@[simp] theorem k_dh4_ok (f2 f3 : Int → Int → Bool) (j k : Int) (d : EM D) (ρ : Env) (h : Hh) : k_dh4 f2 f3 j d ρ (.ok (.int k) h) = if f2 j k = true then k_ch4 f3 k (d ρ h) else .ok (.bl false) h := (rfl)
def k_dh3 (f1 f2 f3 : Int → Int → Bool) (x y : D) (c d : EM D) (ρ : Env) (h : Hh) : Res D := match x, y with
  | .int i, .int j => if f1 i j = true then k_dh4 f2 f3 j d ρ (c ρ h) else .ok (.bl false) h
  | _, _ => .stuck
@[simp] theorem k_dh3_ok (f1 f2 f3 : Int → Int → Bool) (i j : Int) (c d : EM D) (ρ : Env) (h : Hh) : k_dh3 f1 f2 f3 (.int i) (.int j) c d ρ h = if f1 i j = true then k_dh4 f2 f3 j d ρ (c ρ h) else .ok (.bl false) h := (rfl)
def k_dh2 (f1 f2 f3 : Int → Int → Bool) (x : D) (c d : EM D) (ρ : Env) (r : Res D) : Res D := match r with
  | .ok y h => k_dh3 f1 f2 f3 x y c d ρ h
  | .raise c fs h => .raise c fs h
  | .stuck => .stuck
@[simp] theorem k_dh2_ok (f1 f2 f3 : Int → Int → Bool) (x y : D) (c d : EM D) (ρ : Env) (h : Hh) : k_dh2 f1 f2 f3 x c d ρ (.ok y h) = k_dh3 f1 f2 f3 x y c d ρ h := (rfl)
def k_dh1 (f1 f2 f3 : Int → Int → Bool) (b c d : EM D) (ρ : Env) (r : Res D) : Res D := match r with
  | .ok x h => k_dh2 f1 f2 f3 x c d ρ (b ρ h)
  | .raise c fs h => .raise c fs h
  | .stuck => .stuck
@[simp] theorem k_dh1_ok (f1 f2 f3 : Int → Int → Bool) (x : D) (b c d : EM D) (ρ : Env) (h : Hh) : k_dh1 f1 f2 f3 b c d ρ (.ok x h) = k_dh2 f1 f2 f3 x c d ρ (b ρ h) := (rfl)
@[simp] theorem k_dh (f1 f2 f3 : Int → Int → Bool) (a b c d : EM D) (ρ : Env) (h : Hh) : chE3 f1 f2 f3 a b c d ρ h = k_dh1 f1 f2 f3 b c d ρ (a ρ h) := by
  unfold chE3
  cases a ρ h with
  | ok x h1 =>
    rw [bind_ok, k_dh1_ok]
    cases b ρ h1 with
    | ok y h2 =>
      rw [bind_ok, k_dh2_ok]
      cases x with
      | int i =>
        cases y with
        | int j =>
          show (if f1 i j = true then _ else _) = _
          rw [k_dh3_ok]
          congr 1
          cases c ρ h2 with
          | ok w h3 =>
            cases w with
            | int k =>
              show (if f2 j k = true then _ else _) = _
              rw [k_dh4_ok]
              congr 1
              cases d ρ h3 with
              | ok v h4 => cases v <;> rfl
              | _ => rfl
            | _ => rfl
          | _ => rfl
        | _ => rfl
      | _ => rfl
    | _ => rfl
  | _ => rfl
end Ev

/-! EvM2: texts as lists of signs; while loops. -/
namespace Ev
open PySem PySem.Spec PyProof.Rows L2
def T (l : List Nat) : Str := ⟨l.toArray⟩
section
variable {h : Hh} {ρ : Env}
@[simp] theorem T_len (l : List Nat) : (T l).length = l.length := by unfold T Str.length; simp
@[simp] theorem T_cps (l : List Nat) : (T l).cps.toList = l := by unfold T; simp
theorem T_eta (s : Str) : T s.cps.toList = s := by unfold T; cases s; simp
theorem T_app (l m : List Nat) : T l ++ T m = T (l ++ m) := by
  show Str.append _ _ = _
  unfold Str.append T
  simp
theorem T_inj {l m : List Nat} : T l = T m ↔ l = m := by
  constructor
  · intro e
    have := congrArg (fun s : Str => s.cps.toList) e
    simpa using this
  · rintro rfl; rfl
theorem one_T (c : Nat) : (⟨#[c]⟩ : Str) = T [c] := (rfl)
theorem ixD_T {l : List Nat} {i c : Nat} (hz : l.length ≤ sizeLine) (e : l[i]? = some c) : ixD (.str (T l)) (.int (i : Int)) h = .ok (.str (T [c])) h := by
  rw [ixD_str (by rw [T_len]; exact hz), T_cps, atI_natE, e]
  rfl
theorem ixD_T0 {l : List Nat} {c : Nat} (hz : l.length ≤ sizeLine) (e : l[0]? = some c) : ixD (.str (T l)) (.int 0) h = .ok (.str (T [c])) h := ixD_T (i := 0) hz e
theorem memD_T (l : List Nat) (c : Nat) : memD (.str (T [c])) (.str (T l)) h = some (decide (c ∈ l)) := by
  show (oneS (T [c])).map (fun c => decide (c ∈ (T l).cps.toList)) = _
  rw [T_cps]
  rfl
@[simp] theorem inD_T (l : List Nat) (c : Nat) : inD (.str (T [c])) (.str (T l)) h = .ok (.bl (decide (c ∈ l))) h := by unfold inD; rw [memD_T]
@[simp] theorem ninD_T (l : List Nat) (c : Nat) : ninD (.str (T [c])) (.str (T l)) h = .ok (.bl (!decide (c ∈ l))) h := by unfold ninD; rw [memD_T]
theorem lenD_T {l : List Nat} (hz : l.length ≤ sizeLine) : lenD [.str (T l)] h = .ok (.int l.length) h := by rw [lenD_str (by rw [T_len]; exact hz), T_len]
theorem addD_T {l m : List Nat} (hz : l.length + m.length ≤ sizeLine) : addD (.str (T l)) (.str (T m)) h = .ok (.str (T (l ++ m))) h := by rw [addD_str _ _ (by rw [T_len, T_len]; exact hz), T_app]
theorem iaddD_T {l m : List Nat} (hz : l.length + m.length ≤ sizeLine) : iaddD (.str (T l)) (.str (T m)) h = .ok (.str (T (l ++ m))) h := by
  show (if _ then _ else _) = _
  rw [if_pos (by rw [T_len, T_len]; exact hz), T_app]
@[simp] theorem iaddD_int (i j : Int) : iaddD (.int i) (.int j) h = .ok (.int (i + j)) h := (rfl)
theorem slD_T {l : List Nat} {a b : Nat} (hz : l.length ≤ sizeLine) (ha : a ≤ l.length) (hb : b ≤ l.length) : slD (.str (T l)) (some (a : Int)) (some (b : Int)) h = .ok (.str (T ((l.drop a).take (b - a)))) h := by
  rw [ev_slS, if_pos (by rw [T_len]; exact hz)]
  unfold cutS
  rw [T_cps, T_len, HT.sIx_nat, HT.sIx_nat, Nat.min_eq_left ha, Nat.min_eq_left hb]
  rfl
theorem slD_Tto {l : List Nat} {b : Nat} (hz : l.length ≤ sizeLine) : slD (.str (T l)) none (some (b : Int)) h = .ok (.str (T (l.take b))) h := by
  rw [ev_slS, if_pos (by rw [T_len]; exact hz)]
  unfold cutS
  rw [T_cps, T_len, HT.sIx_nat, HT.sIx_none, List.drop_zero, Nat.sub_zero]
  by_cases hb : b ≤ l.length
  · rw [Nat.min_eq_left hb]; rfl
  · rw [Nat.min_eq_right (by omega), List.take_of_length_le (Nat.le_refl _), List.take_of_length_le (by omega)]; rfl
theorem slD_Tfrom {l : List Nat} {a : Nat} (hz : l.length ≤ sizeLine) : slD (.str (T l)) (some (a : Int)) none h = .ok (.str (T (l.drop a))) h := by
  rw [ev_slS, if_pos (by rw [T_len]; exact hz)]
  unfold cutS
  rw [T_cps, T_len, HT.sIx_nat, HT.sIx_none]
  by_cases ha : a ≤ l.length
  · rw [Nat.min_eq_left ha, List.take_of_length_le (by rw [List.length_drop]; exact Nat.le_refl _)]; rfl
  · rw [Nat.min_eq_right (by omega), Nat.sub_self, List.take_zero, List.drop_eq_nil_of_le (by omega)]; rfl
@[simp] theorem itOf_T (l : List Nat) : itOf (.str (T l)) h = .ok ⟨l.map fun c => .str (T [c]), none⟩ h := by
  show Res.ok (⟨(T l).cps.toList.map fun c => .str ⟨#[c]⟩, none⟩ : IT) h = _
  rw [T_cps]
  rfl
theorem mulD_T {l : List Nat} {n : Nat} (h1 : n ≤ 1000) (h2 : l.length ≤ 1000) : mulD (.str (T l)) (.int (n : Int)) h = .ok (.str (T (List.replicate n l).flatten)) h := by
  have e : mulD (.str (T l)) (.int (n : Int)) h = if -1000 ≤ (n:Int) ∧ (n:Int) ≤ 1000 ∧ (T l).length ≤ 1000 then .ok (D.str (repS (T l) ((n : Int)).toNat)) h else .stuck := rfl
  rw [e, if_pos ⟨by omega, by omega, by rw [T_len]; exact h2⟩, Int.toNat_natCast]
  unfold repS
  rw [T_cps]
  rfl
theorem rep_one (n c : Nat) : (List.replicate n [c]).flatten = List.replicate n c := by
  induction n with
  | zero => rfl
  | succ n ih => rw [List.replicate_succ, List.flatten_cons, ih, List.replicate_succ]; rfl
theorem isin_refE {n : Nat} {k : String} {l : List D} (e : h[n]? = some (.lst l)) (hk : k ∈ ["list", "tuple", "bool", "str", "int"]) : isinD [.ref n, .ty k] h = .ok (.bl (decide ("list" = k))) h := by
  have e3 : lstOf (.ref n) h = some l := by unfold lstOf; simp only [e]
  have e2 : kindD (.ref n) h = some "list" := by unfold kindD; simp only [e3]
  unfold isinD
  simp only [e2]
  simp only [List.mem_cons, List.not_mem_nil, or_false] at hk
  rcases hk with rfl | rfl | rfl | rfl | rfl <;> rfl
def k_augO (i : Nat) (g : D → D → Hh → Res D) (o : Option (Option D)) (ρ : Env) (r : Res D) : SR := match o with
  | some (some x) => k_aug1 i g x ρ r
  | _ => .stuck
@[simp] theorem k_augO_some (i : Nat) (g : D → D → Hh → Res D) (x : D) (ρ : Env) (r : Res D) : k_augO i g (some (some x)) ρ r = k_aug1 i g x ρ r := (rfl)
@[simp] theorem k_augE (i : Nat) (g : D → D → Hh → Res D) (a : EM D) (ρ : Env) (h : Hh) : augS i g a ρ h = k_augO i g ρ[i]? ρ (a ρ h) := by
  cases e : ρ[i]? with
  | none => unfold augS k_augO; rw [e]
  | some o =>
    cases o with
    | none => unfold augS k_augO; rw [e]
    | some x => rw [k_aug e]; rfl
/-! while -/
theorem wh_run {c : EM Bool} {b : SS} (I : Nat → Env → Hh → Prop) (Q : Env → Hh → Prop) (hs : ∀ n ρ h, I n ρ h → (c ρ h = .ok false h ∧ Q ρ h) ∨ (c ρ h = .ok true h ∧ Nx (b ρ h) (fun ρ' h' => ∃ m, m < n ∧ I m ρ' h'))) :
    ∀ n ρ h, I n ρ h → ∃ ρ' h', whileS c b ρ h = .nx ρ' h' ∧ Q ρ' h' := by
  intro n
  induction n using Nat.strongRecOn with
  | _ n ih =>
    intro ρ h hI
    rcases hs n ρ h hI with ⟨e, q⟩ | ⟨e, q⟩
    · exact ⟨ρ, h, by rw [whileS_eq, e, toS_ok, if_neg Bool.false_ne_true], q⟩
    · rw [whileS_eq, e, toS_ok, if_pos rfl]
      unfold Nx at q
      cases eb : b ρ h with
      | nx ρ2 h2 =>
        rw [eb] at q
        obtain ⟨m, hm, hI⟩ := q
        exact ih m hm ρ2 h2 hI
      | ct ρ2 h2 =>
        rw [eb] at q
        obtain ⟨m, hm, hI⟩ := q
        exact ih m hm ρ2 h2 hI
      | bk ρ2 h2 => rw [eb] at q; exact q.elim
      | ret ρ2 h2 => rw [eb] at q; exact q.elim
      | rs _ _ _ _ => rw [eb] at q; exact q.elim
      | stuck => rw [eb] at q; exact q.elim
/-! dicts by ints -/
theorem lookD_mapI (Ks : List Int) (v : Int → D) (t : Int) : lookD (Ks.map fun t => (D.int t, v t)) (.int t) = if t ∈ Ks then some (v t) else none := by
  unfold lookD
  induction Ks with
  | nil => rfl
  | cons a Ks ih =>
    rw [List.map_cons, List.find?_cons]
    by_cases h : a = t
    · subst h
      simp
    · have : decide (keyD (.int a) = keyD (.int t)) = false := decide_eq_false (by simp [h])
      rw [this]
      simp only
      rw [ih]
      simp [show ¬ t = a from fun e => h e.symm]
theorem putD_new {l : List (D × D)} {k d : D} (hk : keyD k ≠ none) (e : lookD l k = none) : putD l k d = l ++ [(k, d)] := by
  unfold putD
  rw [if_neg]
  intro h
  obtain ⟨p, hp, h2⟩ := List.any_eq_true.mp h
  unfold lookD at e
  rw [Option.map_eq_none_iff, List.find?_eq_none] at e
  exact e p hp h2
theorem memD_refK {n : Nat} {K : List Int} {j : Int} (r : h[n]? = some (.dic (K.map kT))) : memD (.int j) (.ref n) h = some (decide (j ∈ K)) := by
  have e1 : lstOf (.ref n) h = none := by unfold lstOf; simp only [r]
  have e2 : dicOf (.ref n) h = some (K.map kT) := by unfold dicOf; simp only [r]
  have e3 : memD (.int j) (.ref n) h = some (lookD (K.map kT) (.int j)).isSome := by
    unfold memD
    simp only [e1, e2]
    rfl
  have e4 : K.map kT = K.map fun t => (D.int t, (fun _ : Int => D.bl true) t) := rfl
  rw [e3, e4, lookD_mapI]
  split <;> rename_i h <;> simp [h]
theorem ninD_refK {n : Nat} {K : List Int} {j : Int} (r : h[n]? = some (.dic (K.map kT))) : ninD (.int j) (.ref n) h = .ok (.bl (!decide (j ∈ K))) h := by unfold ninD; rw [memD_refK r]
theorem inD_refK {n : Nat} {K : List Int} {j : Int} (r : h[n]? = some (.dic (K.map kT))) : inD (.int j) (.ref n) h = .ok (.bl (decide (j ∈ K))) h := by unfold inD; rw [memD_refK r]
theorem setdE_of {mo mk mv : EM D} {n : Nat} {l : List (D × D)} {k v : D} {h1 h2 h3 : Hh} (e1 : mo ρ h = .ok (.ref n) h1) (r : h1[n]? = some (.dic l)) (e2 : mk ρ h1 = .ok k h2) (e3 : mv ρ h2 = .ok v h3) :
    setdE mo mk mv ρ h = setdD (.ref n) k v h3 := by
  have em : mdOf (.ref n) h1 = some (n, l) := by unfold mdOf; simp only [r]
  unfold setdE
  rw [e1, bind_ok, em]
  simp only
  rw [e2, bind_ok, e3, bind_ok]
theorem setdD_of {n : Nat} {l : List (D × D)} {k v : D} (r : h[n]? = some (.dic l)) (hk : (keyD k).isSome = true) (hl : l.length < sizeLine) :
    setdD (.ref n) k v h = match lookD l k with
      | some d => .ok d h
      | none => .ok v (h.set n (.dic (putD l k v))) := by
  have em : mdOf (.ref n) h = some (n, l) := by unfold mdOf; simp only [r]
  unfold setdD
  rw [em]
  simp only
  rw [if_pos ⟨hk, hl⟩]
  all_goals (cases lookD l k <;> rfl)
theorem mapM_some {α β : Type} {f : α → Option β} {g : α → β} : ∀ (l : List α), (∀ x ∈ l, f x = some (g x)) → l.mapM f = some (l.map g)
  | [], _ => rfl
  | a :: l, h => by
    rw [List.mapM_cons, h a List.mem_cons_self, mapM_some l fun x hx => h x (List.mem_cons_of_mem _ hx)]
    rfl
theorem cut_frz {f : List D → Hh → Res D} {ds : List D} {d d' : D} {g : Hh} (e : f ds h = .ok d (h ++ g)) (b : frzD h.length (h ++ g) 3 d = some d') : cutF f ds h = .ok d' h := by
  unfold cutF
  rw [e]
  simp only
  rw [if_pos (keptH_app g), b]
  simp
/-- a frozen list -/
theorem frz_lst {n k m : Nat} {l : List D} (hm : n ≤ m) (r : h[m]? = some (.lst l)) (b : belows n l = true) : frzD n h (k + 2) (.ref m) = some (.lst l) := by
  have h1 : ¬ below n (.ref m) = true := by simp [below]; omega
  unfold frzD
  rw [if_neg h1]
  simp only [r]
  rw [mapM_some (g := id) l fun x hx => by unfold frzD; rw [if_pos ((belows_all n l).mp b x hx)]; rfl]
  simp
theorem cutD_to {l : List D} {k : Nat} (hk : k ≤ l.length) : cutD l none (some (k : Int)) = l.take k := by
  unfold cutD
  rw [HT.sIx_nat, HT.sIx_none, Nat.min_eq_left hk, List.drop_zero, Nat.sub_zero]
theorem cutD_from {l : List D} {k : Nat} (hk : k ≤ l.length) : cutD l (some (k : Int)) none = l.drop k := by
  unfold cutD
  rw [HT.sIx_nat, HT.sIx_none, Nat.min_eq_left hk, List.take_of_length_le (by rw [List.length_drop]; exact Nat.le_refl _)]
theorem cutD_to' {l : List D} {k : Nat} : cutD l none (some (k : Int)) = l.take k := by
  unfold cutD
  rw [HT.sIx_nat, HT.sIx_none, List.drop_zero, Nat.sub_zero]
  by_cases hk : k ≤ l.length
  · rw [Nat.min_eq_left hk]
  · rw [Nat.min_eq_right (by omega), List.take_of_length_le (Nat.le_refl _), List.take_of_length_le (by omega)]
theorem ltD_tint (l m : List Int) : ltD (.tup (l.map D.int)) (.tup (m.map D.int)) h = .ok (.bl (HT.lexLt l m)) h := by
  unfold ltD
  simp only [intsOf_map]
theorem memD_map {α : Type} [DecidableEq α] {f : α → D} (l : List α) (a : α) (heq : ∀ b ∈ l, eqvD (f b) (f a) = decide (b = a)) (h1 : CmpOk (f a)) (h2 : CmpOk (.lst (l.map f))) :
    memD (f a) (.lst (l.map f)) h = some (decide (a ∈ l)) := by
  have e : memD (f a) (.lst (l.map f)) h = some ((l.map f).any fun z => eqvD z (f a)) := if_pos (.inr ⟨h1, h2⟩)
  rw [e]
  congr 1
  rw [Bool.eq_iff_iff, List.any_eq_true, decide_eq_true_eq]
  constructor
  · rintro ⟨z, hz, e⟩
    obtain ⟨b, hb, rfl⟩ := List.mem_map.mp hz
    rw [heq b hb, decide_eq_true_eq] at e
    exact e ▸ hb
  · intro ha
    exact ⟨f a, List.mem_map_of_mem ha, by rw [heq a ha]; simp⟩
theorem memD_refmap {α : Type} [DecidableEq α] {f : α → D} {n : Nat} (l : List α) (a : α) (r : h[n]? = some (.lst (l.map f))) (heq : ∀ b ∈ l, eqvD (f b) (f a) = decide (b = a)) (h1 : CmpOk (f a)) (h2 : CmpOk (.lst (l.map f))) :
    memD (f a) (.ref n) h = some (decide (a ∈ l)) := by
  have e1 : lstOf (.ref n) h = some (l.map f) := by unfold lstOf; simp only [r]
  have e2 : memD (f a) (.ref n) h = memD (f a) (.lst (l.map f)) h := by
    unfold memD
    simp only [e1]
    rfl
  rw [e2, memD_map l a heq h1 h2]
end
end Ev

set_option maxHeartbeats 4000000
namespace G_k53
open PySem PySem.Spec PyProof.Rows L2 Ev
def c_REGISTERS : D := (.tup [(.str "a"), (.str "b"), (.str "c"), (.str "d")])
def c_DIGITS : D := (.str "0123456789")
def c_LETTERS : D := (.str "abcdefghijklmnopqrstuvwxyz")
def c_SIGNS : D := (.str "+-*=<()")
def c_WORD_LENGTH : D := (.int 8)
def c_RESERVED : D := (.tup [(.str "var"), (.str "lock"), (.str "cond"), (.str "of"), (.str "queue"), (.str "thread"), (.str "let"), (.str "get"), (.str "put"), (.str "add"), (.str "unlock"), (.str "wait"), (.str "notify"), (.str "all"), (.str "send"), (.str "take"), (.str "check"), (.str "go"), (.str "if"), (.str "begin"), (.str "end"), (.str "stop"), (.str "and"), (.str "or"), (.str "not")])
def c_KINDS : D := (.tup [(.str "let"), (.str "get"), (.str "put"), (.str "add"), (.str "check")])
def c_MOST_SHARED : D := (.int 6)
def c_MOST_INSTRUCTIONS : D := (.int 12)
noncomputable def x1__run_end : SS :=
  augS 3 iaddD (cE (.int 1))
noncomputable def wt2__run_end : EM Bool :=
  andT (tstE (binE ltD (varE 3) (callE lenD (consA (varE 0) (nilA))))) (tstE (binE inD (binE ixD (varE 0) (varE 3)) (varE 2)))
noncomputable def b__run_end : SS :=
  seqS (setS 3 (varE 1)) (seqS (whileS (wt2__run_end) (x1__run_end)) (retS (varE 3)))
noncomputable def m__run_end : List D → Hh → Res D := defF 4 b__run_end
noncomputable def b__token : SS :=
  seqS (setS 2 (binE ixD (varE 0) (varE 1))) (seqS (ifS (tstE (binE inD (varE 2) (cE c_DIGITS))) (seqS (setS 3 (slE slD (varE 0) (partE (varE 1)) (partE (callE m__run_end (consA (varE 0) (consA (varE 1) (consA (cE c_DIGITS) (nilA)))))))) (seqS (ifS (orT (tstE (binE gtD (callE lenD (consA (varE 3) (nilA))) (cE (.int 2)))) (andT (tstE (binE eqD (callE lenD (consA (varE 3) (nilA))) (cE (.int 2)))) (tstE (binE eqD (binE ixD (varE 3) (cE (.int 0))) (cE (.str "0")))))) (retS (tupE (consA (cE (.str "bad")) (consA (varE 3) (nilA))))) (nilS)) (retS (tupE (consA (cE (.str "number")) (consA (varE 3) (nilA))))))) (nilS)) (seqS (ifS (tstE (binE inD (varE 2) (cE c_LETTERS))) (seqS (setS 3 (slE slD (varE 0) (partE (varE 1)) (partE (callE m__run_end (consA (varE 0) (consA (varE 1) (consA (binE addD (cE c_LETTERS) (cE c_DIGITS)) (nilA)))))))) (seqS (ifS (tstE (binE gtD (callE lenD (consA (varE 3) (nilA))) (cE c_WORD_LENGTH))) (retS (tupE (consA (cE (.str "bad")) (consA (varE 3) (nilA))))) (nilS)) (retS (tupE (consA (cE (.str "word")) (consA (varE 3) (nilA))))))) (nilS)) (seqS (ifS (tstE (binE inD (varE 2) (cE c_SIGNS))) (retS (tupE (consA (cE (.str "sign")) (consA (varE 2) (nilA))))) (nilS)) (retS (tupE (consA (cE (.str "bad")) (consA (varE 2) (nilA))))))))
noncomputable def m__token : List D → Hh → Res D := defF 4 b__token
noncomputable def x1_tokens : SS :=
  ifS (tstE (binE eqD (binE ixD (varE 0) (varE 2)) (cE (.str " ")))) (augS 2 iaddD (cE (.int 1))) (seqS (setS 3 (callE m__token (consA (varE 0) (consA (varE 2) (nilA))))) (seqS (exprS (methE isLst appendD (varE 1) (consA (varE 3) (nilA)))) (augS 2 iaddD (callE lenD (consA (binE ixD (varE 3) (cE (.int 1))) (nilA))))))
noncomputable def wt2_tokens : EM Bool :=
  tstE (binE ltD (varE 2) (callE lenD (consA (varE 0) (nilA))))
noncomputable def b_tokens : SS :=
  seqS (setS 1 (lstH (nilA))) (seqS (setS 2 (cE (.int 0))) (seqS (whileS (wt2_tokens) (x1_tokens)) (retS (varE 1))))
noncomputable def m_tokens : List D → Hh → Res D := cutF (defF 4 b_tokens)
noncomputable def b_is_name : SS :=
  seqS (ifS (orT (tstE (binE inD (varE 0) (cE c_RESERVED))) (orT (tstE (binE inD (varE 0) (cE c_REGISTERS))) (tstE (binE inD (cE (.str " ")) (varE 0))))) (retS (cE (.bl false))) (nilS)) (retS (binE eqD (callE m_tokens (consA (varE 0) (nilA))) (lstE (consA (tupE (consA (cE (.str "word")) (consA (varE 0) (nilA)))) (nilA)))))
noncomputable def m_is_name : List D → Hh → Res D := defF 1 b_is_name
noncomputable def x1_can_be_guarded : SS :=
  ifS (tstE (binE ninD (binE ixD (binE ixD (varE 0) (varE 3)) (cE (.int 0))) (cE c_KINDS))) (retS (cE (.bl false))) (nilS)
noncomputable def x2_can_be_guarded : SS :=
  ifS (andT (tstE (binE eqD (binE ixD (varE 4) (cE (.int 0))) (cE (.str "go")))) (tstE (chE (fun i j => decide (i < j)) (fun i j => decide (i ≤ j)) (varE 1) (binE ixD (varE 4) (cE (.int 1))) (varE 2)))) (retS (cE (.bl false))) (nilS)
noncomputable def b_can_be_guarded : SS :=
  seqS (ifS (orT (tstE (binE ltD (varE 1) (cE (.int 0)))) (orT (tstE (binE gtD (varE 1) (varE 2))) (tstE (binE geD (varE 2) (callE lenD (consA (varE 0) (nilA))))))) (retS (cE (.bl false))) (nilS)) (seqS (forS (rngI (consA (varE 1) (consA (binE addD (varE 2) (cE (.int 1))) (nilA)))) (gNm 3) (x1_can_be_guarded)) (seqS (forS (seqI (varE 0)) (gNm 4) (x2_can_be_guarded)) (retS (cE (.bl true)))))
noncomputable def m_can_be_guarded : List D → Hh → Res D := defF 5 b_can_be_guarded
noncomputable def b_moved_place : SS :=
  seqS (ifS (tstE (binE leD (varE 0) (binE ixD (varE 1) (cE (.int 0))))) (retS (varE 0)) (nilS)) (seqS (ifS (tstE (binE leD (varE 0) (binE ixD (varE 1) (cE (.int 1))))) (retS (binE addD (varE 0) (cE (.int 1)))) (nilS)) (retS (binE addD (varE 0) (cE (.int 2)))))
noncomputable def m_moved_place : List D → Hh → Res D := defF 2 b_moved_place
noncomputable def x1_guarded_thread : SS :=
  ifS (tstE (binE eqD (binE ixD (varE 4) (cE (.int 0))) (cE (.str "go")))) (exprS (methE isLst appendD (varE 3) (consA (tupE (consA (cE (.str "go")) (consA (callE m_moved_place (consA (binE ixD (varE 4) (cE (.int 1))) (consA (varE 1) (nilA)))) (consA (binE ixD (varE 4) (cE (.int 2))) (nilA))))) (nilA)))) (exprS (methE isLst appendD (varE 3) (consA (varE 4) (nilA))))
noncomputable def b_guarded_thread : SS :=
  seqS (ifS (tstE (binE isD (varE 1) (cE .non))) (retS (varE 0)) (nilS)) (seqS (setS 3 (lstH (nilA))) (seqS (forS (seqI (varE 0)) (gNm 4) (x1_guarded_thread)) (seqS (setS 5 (slE slD (varE 3) (partE (binE ixD (varE 1) (cE (.int 0)))) (partE (binE addD (binE ixD (varE 1) (cE (.int 1))) (cE (.int 1)))))) (retS (callE tupleD (consA (binE addD (binE addD (binE addD (binE addD (slE slD (varE 3) (noPart) (partE (binE ixD (varE 1) (cE (.int 0))))) (lstE (consA (tupE (consA (cE (.str "lock")) (consA (varE 2) (nilA)))) (nilA)))) (varE 5)) (lstE (consA (tupE (consA (cE (.str "unlock")) (consA (varE 2) (nilA)))) (nilA)))) (slE slD (varE 3) (partE (binE addD (binE ixD (varE 1) (cE (.int 1))) (cE (.int 1)))) (noPart))) (nilA)))))))
noncomputable def m_guarded_thread : List D → Hh → Res D := cutF (defF 6 b_guarded_thread)
noncomputable def x1_require_guards : SS :=
  ifS (andT (tstE (binE isntD (varE 3) (cE .non))) (notT (tstE (callE m_can_be_guarded (consA (varE 2) (consA (binE ixD (varE 3) (cE (.int 0))) (consA (binE ixD (varE 3) (cE (.int 1))) (nilA)))))))) (raiseS "NoSuchPlace" "word" (consA (cE (.str "guards")) (nilA))) (nilS)
noncomputable def b_require_guards : SS :=
  seqS (ifS (tstE (binE neD (callE lenD (consA (varE 1) (nilA))) (callE lenD (consA (binE ixD (varE 0) (cE (.int 1))) (nilA))))) (raiseS "NoSuchPlace" "word" (consA (cE (.str "guards")) (nilA))) (nilS)) (forS (zipI (consA (binE ixD (varE 0) (cE (.int 1))) (consA (varE 1) (nilA)))) (gTp [2, 3]) (x1_require_guards))
noncomputable def m_require_guards : List D → Hh → Res D := defF 4 b_require_guards
noncomputable def ce1_guarded : EM D :=
  binE ixD (varE 7) (cE (.int 1))
noncomputable def x2_guarded : SS :=
  seqS (setS 6 (callE m_guarded_thread (consA (varE 4) (consA (varE 5) (consA (varE 2) (nilA)))))) (seqS (ifS (tstE (binE gtD (callE lenD (consA (varE 6) (nilA))) (cE c_MOST_INSTRUCTIONS))) (raiseS "NoSuchPlace" "word" (consA (cE (.str "many")) (nilA))) (nilS)) (exprS (methE isLst appendD (varE 3) (consA (varE 6) (nilA)))))
noncomputable def b_guarded : SS :=
  seqS (ifS (orT (notT (tstE (callE m_is_name (consA (varE 2) (nilA))))) (tstE (binE inD (varE 2) (lcE (seqI (binE ixD (varE 0) (cE (.int 0)))) 7 (tYesE) (ce1_guarded))))) (raiseS "NoSuchPlace" "word" (consA (cE (.str "name")) (nilA))) (nilS)) (seqS (ifS (tstE (binE geD (callE lenD (consA (binE ixD (varE 0) (cE (.int 0))) (nilA))) (cE c_MOST_SHARED))) (raiseS "NoSuchPlace" "word" (consA (cE (.str "shared")) (nilA))) (nilS)) (seqS (exprS (callE m_require_guards (consA (varE 0) (consA (varE 1) (nilA))))) (seqS (setS 3 (lstH (nilA))) (seqS (forS (zipI (consA (binE ixD (varE 0) (cE (.int 1))) (consA (varE 1) (nilA)))) (gTp [4, 5]) (x2_guarded)) (retS (tupE (consA (binE addD (binE ixD (varE 0) (cE (.int 0))) (tupE (consA (tupE (consA (cE (.str "lock")) (consA (varE 2) (nilA)))) (nilA)))) (consA (callE tupleD (consA (varE 3) (nilA))) (nilA)))))))))
noncomputable def m_guarded : List D → Hh → Res D := cutF (defF 8 b_guarded)
noncomputable def b__law_cell : SS :=
  seqS (ifS (tstE (binE ltD (varE 1) (callE lenD (consA (varE 0) (nilA))))) (retS (binE ixD (varE 0) (varE 1))) (nilS)) (retS (cE (.int 0)))
noncomputable def m__law_cell : List D → Hh → Res D := defF 2 b__law_cell
noncomputable def x1__law_digits : SS :=
  ifS (andT (tstE (binE gtD (varE 0) (cE (.int 0)))) (tstE (binE ltD (callE lenD (consA (varE 3) (nilA))) (varE 2)))) (seqS (exprS (methE isLst appendD (varE 3) (consA (binE modD (callE intD (consA (varE 0) (nilA))) (cE (.int 1000))) (nilA)))) (setS 0 (binE fdivD (varE 0) (cE (.int 1000))))) (nilS)
noncomputable def x2__law_digits : SS :=
  seqS (setS 5 (binE modD (callE intD (consA (binE addD (binE addD (binE mulD (varE 5) (cE (.int 16807))) (binE mulD (cE (.int 7)) (varE 4))) (cE (.int 1))) (nilA))) (cE (.int 2147483647)))) (exprS (methE isLst appendD (varE 3) (consA (binE modD (callE intD (consA (binE fdivD (varE 5) (cE (.int 997))) (nilA))) (cE (.int 1000))) (nilA))))
noncomputable def b__law_digits : SS :=
  seqS (setS 3 (lstH (nilA))) (seqS (ifS (tstE (binE ltD (varE 0) (cE (.int 0)))) (setS 0 (binE subD (unE negD (cE (.int 1))) (varE 0))) (nilS)) (seqS (ifS (tstE (binE geD (varE 0) (binE powD (cE (.int 10)) (cE (.int 18))))) (forS (rngI (consA (cE (.int 60)) (nilA))) (gNm 4) (x1__law_digits)) (seqS (setS 5 (binE modD (callE intD (consA (binE addD (binE addD (binE mulD (varE 0) (cE (.int 48271))) (binE mulD (varE 1) (cE (.int 69621)))) (cE (.int 11))) (nilA))) (cE (.int 2147483647)))) (forS (rngI (consA (varE 2) (nilA))) (gNm 4) (x2__law_digits)))) (retS (varE 3))))
noncomputable def m__law_digits : List D → Hh → Res D := defF 6 b__law_digits
noncomputable def x1__law_padded : SS :=
  exprS (methE isLst appendD (varE 2) (consA (varE 3) (nilA)))
noncomputable def b__law_padded : SS :=
  seqS (setS 2 (callE m__law_digits (consA (varE 0) (consA (varE 1) (consA (cE (.int 20)) (nilA)))))) (seqS (forS (rngI (consA (cE (.int 20)) (nilA))) (gNm 3) (x1__law_padded)) (retS (varE 2)))
noncomputable def m__law_padded : List D → Hh → Res D := cutF (defF 4 b__law_padded)
noncomputable def b__law_things : SS :=
  retS (tupE (consA (tupE (consA (cE (.str "lock")) (consA (cE (.str "m")) (nilA)))) (consA (tupE (consA (cE (.str "var")) (consA (cE (.str "x")) (consA (cE (.int 0)) (nilA))))) (consA (tupE (consA (cE (.str "cond")) (consA (cE (.str "w")) (consA (cE (.str "m")) (nilA))))) (consA (tupE (consA (cE (.str "queue")) (consA (cE (.str "q")) (consA (cE (.int 1)) (nilA))))) (consA (tupE (consA (cE (.str "var")) (consA (cE (.str "y")) (consA (cE (.int 1)) (nilA))))) (consA (tupE (consA (cE (.str "lock")) (consA (cE (.str "n")) (nilA)))) (nilA))))))))
noncomputable def m__law_things : List D → Hh → Res D := defF 0 b__law_things
noncomputable def b__law_piece : SS :=
  seqS (setS 2 (tupE (consA (cE (.str "op")) (consA (cE (.str "+")) (consA (tupE (consA (cE (.str "reg")) (consA (cE (.str "a")) (nilA)))) (consA (tupE (consA (cE (.str "num")) (consA (cE (.int 1)) (nilA)))) (nilA))))))) (seqS (setS 3 (tupE (consA (cE (.str "op")) (consA (cE (.str "<")) (consA (tupE (consA (cE (.str "reg")) (consA (cE (.str "a")) (nilA)))) (consA (tupE (consA (cE (.str "num")) (consA (cE (.int 2)) (nilA)))) (nilA))))))) (seqS (setS 4 (lstE (consA (lstE (consA (tupE (consA (cE (.str "get")) (consA (cE (.str "a")) (consA (cE (.str "x")) (nilA))))) (consA (tupE (consA (cE (.str "put")) (consA (cE (.str "x")) (consA (varE 2) (nilA))))) (nilA)))) (consA (lstE (consA (tupE (consA (cE (.str "add")) (consA (cE (.str "x")) (consA (tupE (consA (cE (.str "num")) (consA (cE (.int 1)) (nilA)))) (nilA))))) (nilA))) (consA (lstE (consA (tupE (consA (cE (.str "put")) (consA (cE (.str "x")) (consA (tupE (consA (cE (.str "num")) (consA (cE (.int 2)) (nilA)))) (nilA))))) (nilA))) (consA (lstE (consA (tupE (consA (cE (.str "get")) (consA (cE (.str "b")) (consA (cE (.str "y")) (nilA))))) (nilA))) (consA (lstE (consA (tupE (consA (cE (.str "lock")) (consA (cE (.str "m")) (nilA)))) (consA (tupE (consA (cE (.str "add")) (consA (cE (.str "y")) (consA (tupE (consA (cE (.str "num")) (consA (cE (.int 1)) (nilA)))) (nilA))))) (consA (tupE (consA (cE (.str "unlock")) (consA (cE (.str "m")) (nilA)))) (nilA))))) (consA (lstE (consA (tupE (consA (cE (.str "lock")) (consA (cE (.str "m")) (nilA)))) (consA (tupE (consA (cE (.str "lock")) (consA (cE (.str "n")) (nilA)))) (nilA)))) (consA (lstE (consA (tupE (consA (cE (.str "lock")) (consA (cE (.str "n")) (nilA)))) (consA (tupE (consA (cE (.str "lock")) (consA (cE (.str "m")) (nilA)))) (nilA)))) (consA (lstE (consA (tupE (consA (cE (.str "lock")) (consA (cE (.str "m")) (nilA)))) (consA (tupE (consA (cE (.str "wait")) (consA (cE (.str "w")) (nilA)))) (consA (tupE (consA (cE (.str "unlock")) (consA (cE (.str "m")) (nilA)))) (nilA))))) (consA (lstE (consA (tupE (consA (cE (.str "notify")) (consA (cE (.str "w")) (nilA)))) (nilA))) (consA (lstE (consA (tupE (consA (cE (.str "lock")) (consA (cE (.str "m")) (nilA)))) (consA (tupE (consA (cE (.str "notifyall")) (consA (cE (.str "w")) (nilA)))) (consA (tupE (consA (cE (.str "unlock")) (consA (cE (.str "m")) (nilA)))) (nilA))))) (consA (lstE (consA (tupE (consA (cE (.str "send")) (consA (cE (.str "q")) (consA (tupE (consA (cE (.str "num")) (consA (cE (.int 3)) (nilA)))) (nilA))))) (nilA))) (consA (lstE (consA (tupE (consA (cE (.str "take")) (consA (cE (.str "a")) (consA (cE (.str "q")) (nilA))))) (nilA))) (consA (lstE (consA (tupE (consA (cE (.str "get")) (consA (cE (.str "a")) (consA (cE (.str "x")) (nilA))))) (consA (tupE (consA (cE (.str "check")) (consA (varE 3) (nilA)))) (nilA)))) (consA (lstE (consA (tupE (consA (cE (.str "begin")) (nilA))) (consA (tupE (consA (cE (.str "get")) (consA (cE (.str "a")) (consA (cE (.str "x")) (nilA))))) (consA (tupE (consA (cE (.str "put")) (consA (cE (.str "y")) (consA (varE 2) (nilA))))) (consA (tupE (consA (cE (.str "end")) (nilA))) (nilA)))))) (consA (lstE (consA (tupE (consA (cE (.str "unlock")) (consA (cE (.str "m")) (nilA)))) (nilA))) (consA (lstE (consA (tupE (consA (cE (.str "add")) (consA (cE (.str "y")) (consA (tupE (consA (cE (.str "num")) (consA (cE (.int 99)) (nilA)))) (nilA))))) (nilA))) (consA (lstE (consA (tupE (consA (cE (.str "let")) (consA (cE (.str "a")) (consA (varE 2) (nilA))))) (nilA))) (consA (lstE (consA (tupE (consA (cE (.str "go")) (consA (binE addD (varE 1) (cE (.int 2))) (consA (tupE (consA (cE (.str "reg")) (consA (cE (.str "a")) (nilA)))) (nilA))))) (consA (tupE (consA (cE (.str "put")) (consA (cE (.str "y")) (consA (varE 2) (nilA))))) (nilA)))) (consA (lstE (consA (tupE (consA (cE (.str "begin")) (nilA))) (consA (tupE (consA (cE (.str "add")) (consA (cE (.str "x")) (consA (tupE (consA (cE (.str "num")) (consA (cE (.int 1)) (nilA)))) (nilA))))) (consA (tupE (consA (cE (.str "add")) (consA (cE (.str "y")) (consA (tupE (consA (cE (.str "num")) (consA (cE (.int 1)) (nilA)))) (nilA))))) (consA (tupE (consA (cE (.str "end")) (nilA))) (nilA)))))) (consA (lstE (consA (tupE (consA (cE (.str "put")) (consA (cE (.str "y")) (consA (tupE (consA (cE (.str "reg")) (consA (cE (.str "a")) (nilA)))) (nilA))))) (nilA))) (consA (lstE (consA (tupE (consA (cE (.str "stop")) (nilA))) (nilA))) (consA (lstE (consA (tupE (consA (cE (.str "go")) (consA (cE (.int 0)) (consA (cE .non) (nilA))))) (nilA))) (consA (lstE (consA (tupE (consA (cE (.str "go")) (consA (cE (.int 0)) (consA (tupE (consA (cE (.str "reg")) (consA (cE (.str "a")) (nilA)))) (nilA))))) (nilA))) (consA (lstE (consA (tupE (consA (cE (.str "go")) (consA (cE (.int 1)) (consA (tupE (consA (cE (.str "num")) (consA (cE (.int 1)) (nilA)))) (nilA))))) (consA (tupE (consA (cE (.str "get")) (consA (cE (.str "a")) (consA (cE (.str "x")) (nilA))))) (nilA)))) (nilA))))))))))))))))))))))))))) (retS (binE ixD (varE 4) (binE modD (callE intD (consA (varE 0) (nilA))) (cE (.int 24)))))))
noncomputable def m__law_piece : List D → Hh → Res D := defF 5 b__law_piece
noncomputable def x1__law_plain : SS :=
  ifS (tstE (binE inD (binE ixD (varE 2) (cE (.int 0))) (lstE (consA (cE (.str "wait")) (consA (cE (.str "notify")) (consA (cE (.str "notifyall")) (consA (cE (.str "send")) (consA (cE (.str "take")) (nilA))))))))) (exprS (methE isLst appendD (varE 1) (consA (tupE (consA (cE (.str "let")) (consA (cE (.str "d")) (consA (tupE (consA (cE (.str "num")) (consA (cE (.int 0)) (nilA)))) (nilA))))) (nilA)))) (exprS (methE isLst appendD (varE 1) (consA (varE 2) (nilA))))
noncomputable def b__law_plain : SS :=
  seqS (setS 1 (lstH (nilA))) (seqS (forS (seqI (varE 0)) (gNm 2) (x1__law_plain)) (seqS (ifS (tstE (binE eqD (callE lenD (consA (varE 1) (nilA))) (cE (.int 0)))) (exprS (methE isLst appendD (varE 1) (consA (tupE (consA (cE (.str "get")) (consA (cE (.str "a")) (consA (cE (.str "x")) (nilA))))) (nilA)))) (nilS)) (retS (callE tupleD (consA (varE 1) (nilA))))))
noncomputable def m__law_plain : List D → Hh → Res D := cutF (defF 3 b__law_plain)
noncomputable def x1__law_longer : SS :=
  seqS (setS 6 (callE m__law_piece (consA (binE ixD (varE 3) (varE 5)) (consA (callE lenD (consA (varE 4) (nilA))) (nilA))))) (ifS (tstE (binE leD (binE addD (callE lenD (consA (varE 4) (nilA))) (callE lenD (consA (varE 6) (nilA)))) (binE ixD (lstE (consA (cE (.int 7)) (consA (cE (.int 12)) (nilA)))) (binE modD (callE intD (consA (callE m__law_cell (consA (varE 0) (consA (cE (.int 12)) (nilA)))) (nilA))) (cE (.int 2)))))) (setS 4 (binE addD (varE 4) (varE 6))) (nilS))
noncomputable def x2__law_longer : SS :=
  seqS (setS 3 (callE m__law_padded (consA (callE m__law_cell (consA (varE 0) (consA (varE 2) (nilA)))) (consA (varE 2) (nilA))))) (seqS (setS 4 (lstE (nilA))) (seqS (forS (rngI (consA (cE (.int 8)) (nilA))) (gNm 5) (x1__law_longer)) (exprS (methE isLst appendD (varE 1) (consA (callE tupleD (consA (varE 4) (nilA))) (nilA))))))
noncomputable def ce3__law_longer : EM D :=
  callE m__law_plain (consA (varE 4) (nilA))
noncomputable def b__law_longer : SS :=
  seqS (setS 1 (lstH (nilA))) (seqS (forS (rngI (consA (cE (.int 2)) (nilA))) (gNm 2) (x2__law_longer)) (seqS (setS 7 (tupE (consA (tupE (consA (cE (.str "var")) (consA (cE (.str "x")) (consA (cE (.int 0)) (nilA))))) (consA (tupE (consA (cE (.str "lock")) (consA (cE (.str "m")) (nilA)))) (consA (tupE (consA (cE (.str "var")) (consA (cE (.str "y")) (consA (cE (.int 1)) (nilA))))) (consA (tupE (consA (cE (.str "lock")) (consA (cE (.str "n")) (nilA)))) (nilA))))))) (retS (tupE (consA (varE 7) (consA (callE tupleD (consA (lcE (seqI (varE 1)) 4 (tYesE) (ce3__law_longer)) (nilA))) (nilA)))))))
noncomputable def m__law_longer : List D → Hh → Res D := cutF (defF 8 b__law_longer)
noncomputable def x1__law_guardable : SS :=
  ifS (tstE (binE ninD (binE ixD (binE ixD (varE 0) (varE 3)) (cE (.int 0))) (lstE (consA (cE (.str "let")) (consA (cE (.str "get")) (consA (cE (.str "put")) (consA (cE (.str "add")) (consA (cE (.str "check")) (nilA))))))))) (retS (cE (.bl false))) (nilS)
noncomputable def x2__law_guardable : SS :=
  ifS (andT (tstE (binE eqD (binE ixD (varE 4) (cE (.int 0))) (cE (.str "go")))) (tstE (chE (fun i j => decide (i < j)) (fun i j => decide (i ≤ j)) (varE 1) (binE ixD (varE 4) (cE (.int 1))) (varE 2)))) (retS (cE (.bl false))) (nilS)
noncomputable def b__law_guardable : SS :=
  seqS (ifS (notT (tstE (chE3 (fun i j => decide (i ≤ j)) (fun i j => decide (i ≤ j)) (fun i j => decide (i < j)) (cE (.int 0)) (varE 1) (varE 2) (callE lenD (consA (varE 0) (nilA)))))) (retS (cE (.bl false))) (nilS)) (seqS (forS (rngI (consA (varE 1) (consA (binE addD (varE 2) (cE (.int 1))) (nilA)))) (gNm 3) (x1__law_guardable)) (seqS (forS (seqI (varE 0)) (gNm 4) (x2__law_guardable)) (retS (cE (.bl true)))))
noncomputable def m__law_guardable : List D → Hh → Res D := defF 5 b__law_guardable
noncomputable def b__law_place : SS :=
  retS (binE addD (binE addD (varE 0) (callE intD (consA (binE gtD (varE 0) (binE ixD (varE 1) (cE (.int 0)))) (nilA)))) (callE intD (consA (binE gtD (varE 0) (binE ixD (varE 1) (cE (.int 1)))) (nilA))))
noncomputable def m__law_place : List D → Hh → Res D := defF 2 b__law_place
noncomputable def x1__law_code : SS :=
  seqS (ifS (tstE (binE eqD (varE 4) (binE ixD (varE 1) (cE (.int 0))))) (exprS (methE isLst appendD (varE 3) (consA (tupE (consA (cE (.str "lock")) (consA (varE 2) (nilA)))) (nilA)))) (nilS)) (seqS (setS 5 (binE ixD (varE 0) (varE 4))) (seqS (ifS (tstE (binE eqD (binE ixD (varE 5) (cE (.int 0))) (cE (.str "go")))) (setS 5 (tupE (consA (cE (.str "go")) (consA (callE m__law_place (consA (binE ixD (varE 5) (cE (.int 1))) (consA (varE 1) (nilA)))) (consA (binE ixD (varE 5) (cE (.int 2))) (nilA)))))) (nilS)) (seqS (exprS (methE isLst appendD (varE 3) (consA (varE 5) (nilA)))) (ifS (tstE (binE eqD (varE 4) (binE ixD (varE 1) (cE (.int 1))))) (exprS (methE isLst appendD (varE 3) (consA (tupE (consA (cE (.str "unlock")) (consA (varE 2) (nilA)))) (nilA)))) (nilS)))))
noncomputable def b__law_code : SS :=
  seqS (ifS (tstE (binE isD (varE 1) (cE .non))) (retS (varE 0)) (nilS)) (seqS (setS 3 (lstH (nilA))) (seqS (forS (rngI (consA (callE lenD (consA (varE 0) (nilA))) (nilA))) (gNm 4) (x1__law_code)) (retS (callE tupleD (consA (varE 3) (nilA))))))
noncomputable def m__law_code : List D → Hh → Res D := cutF (defF 6 b__law_code)
noncomputable def x1__law_guards : SS :=
  seqS (setS 4 (callE m__law_cell (consA (varE 0) (consA (binE addD (cE (.int 4)) (varE 3)) (nilA))))) (seqS (setS 5 (callE lenD (consA (binE ixD (binE ixD (varE 1) (cE (.int 1))) (varE 3)) (nilA)))) (seqS (setS 6 (tupE (consA (binE modD (callE intD (consA (binE fdivD (varE 4) (cE (.int 3))) (nilA))) (varE 5)) (consA (binE modD (callE intD (consA (binE fdivD (varE 4) (cE (.int 30))) (nilA))) (binE addD (varE 5) (cE (.int 1)))) (nilA))))) (ifS (tstE (binE eqD (binE modD (callE intD (consA (varE 4) (nilA))) (cE (.int 3))) (cE (.int 0)))) (exprS (methE isLst appendD (varE 2) (consA (cE .non) (nilA)))) (exprS (methE isLst appendD (varE 2) (consA (varE 6) (nilA)))))))
noncomputable def b__law_guards : SS :=
  seqS (setS 2 (lstH (nilA))) (seqS (forS (rngI (consA (cE (.int 2)) (nilA))) (gNm 3) (x1__law_guards)) (retS (callE tupleD (consA (varE 2) (nilA)))))
noncomputable def m__law_guards : List D → Hh → Res D := cutF (defF 7 b__law_guards)
noncomputable def x1__law_due : SS :=
  ifS (andT (tstE (binE isntD (binE ixD (varE 1) (varE 3)) (cE .non))) (notT (tstE (callE m__law_guardable (consA (binE ixD (binE ixD (varE 0) (cE (.int 1))) (varE 3)) (consA (binE ixD (binE ixD (varE 1) (varE 3)) (cE (.int 0))) (consA (binE ixD (binE ixD (varE 1) (varE 3)) (cE (.int 1))) (nilA)))))))) (retS (tupE (consA (cE (.str "refused")) (consA (cE (.str "guards")) (nilA))))) (nilS)
noncomputable def x2__law_due : SS :=
  ifS (andT (tstE (binE isntD (binE ixD (varE 1) (varE 3)) (cE .non))) (tstE (binE gtD (callE lenD (consA (binE ixD (binE ixD (varE 0) (cE (.int 1))) (varE 3)) (nilA))) (cE (.int 10))))) (retS (tupE (consA (cE (.str "refused")) (consA (cE (.str "many")) (nilA))))) (nilS)
noncomputable def ce3__law_due : EM D :=
  callE m__law_code (consA (binE ixD (binE ixD (varE 0) (cE (.int 1))) (varE 3)) (consA (binE ixD (varE 1) (varE 3)) (consA (varE 2) (nilA))))
noncomputable def b__law_due : SS :=
  seqS (ifS (tstE (binE inD (varE 2) (lstE (consA (cE (.str "x")) (consA (cE (.str "m")) (consA (cE (.str "lock")) (consA (cE (.str "a")) (consA (cE (.str "toolongname")) (nilA))))))))) (retS (tupE (consA (cE (.str "refused")) (consA (cE (.str "name")) (nilA))))) (nilS)) (seqS (ifS (tstE (binE geD (callE lenD (consA (binE ixD (varE 0) (cE (.int 0))) (nilA))) (cE (.int 6)))) (retS (tupE (consA (cE (.str "refused")) (consA (cE (.str "shared")) (nilA))))) (nilS)) (seqS (ifS (tstE (binE neD (callE lenD (consA (varE 1) (nilA))) (cE (.int 2)))) (retS (tupE (consA (cE (.str "refused")) (consA (cE (.str "guards")) (nilA))))) (nilS)) (seqS (forS (rngI (consA (cE (.int 2)) (nilA))) (gNm 3) (x1__law_due)) (seqS (forS (rngI (consA (cE (.int 2)) (nilA))) (gNm 3) (x2__law_due)) (seqS (setS 4 (callE tupleD (consA (lcE (rngI (consA (cE (.int 2)) (nilA))) 3 (tYesE) (ce3__law_due)) (nilA)))) (retS (tupE (consA (binE addD (binE ixD (varE 0) (cE (.int 0))) (tupE (consA (tupE (consA (cE (.str "lock")) (consA (varE 2) (nilA)))) (nilA)))) (consA (varE 4) (nilA))))))))))
noncomputable def m__law_due : List D → Hh → Res D := defF 5 b__law_due
noncomputable def tb1__law_told : SS :=
  retS (callE m_guarded (consA (varE 0) (consA (varE 1) (consA (varE 2) (nilA)))))
noncomputable def b__law_told : SS :=
  tryS "NoSuchPlace" 3 (tb1__law_told) (retX2 (cX (.str "refused")) (fldX "word"))
noncomputable def m__law_told : List D → Hh → Res D := defF 4 b__law_told
noncomputable def x1_law : SS :=
  seqS (setS 5 (binE ixD (varE 2) (binE modD (callE intD (consA (callE m__law_cell (consA (varE 0) (consA (varE 4) (nilA)))) (nilA))) (cE (.int 7))))) (ifS (tstE (binE neD (callE m__law_told (consA (varE 1) (consA (varE 3) (consA (varE 5) (nilA))))) (callE m__law_due (consA (varE 1) (consA (varE 3) (consA (varE 5) (nilA))))))) (retS (cE (.bl false))) (nilS))
noncomputable def b_law : SS :=
  seqS (setS 1 (callE m__law_longer (consA (varE 0) (nilA)))) (seqS (ifS (tstE (binE eqD (binE modD (callE intD (consA (callE m__law_cell (consA (varE 0) (consA (cE (.int 6)) (nilA)))) (nilA))) (cE (.int 7))) (cE (.int 0)))) (setS 1 (tupE (consA (callE m__law_things (nilA)) (consA (binE ixD (varE 1) (cE (.int 1))) (nilA))))) (nilS)) (seqS (setS 2 (lstE (consA (cE (.str "guard")) (consA (cE (.str "x")) (consA (cE (.str "m")) (consA (cE (.str "lock")) (consA (cE (.str "a")) (consA (cE (.str "toolongname")) (consA (cE (.str "z9")) (nilA)))))))))) (seqS (setS 3 (callE m__law_guards (consA (varE 0) (consA (varE 1) (nilA))))) (seqS (ifS (tstE (binE eqD (binE modD (callE intD (consA (callE m__law_cell (consA (varE 0) (consA (cE (.int 7)) (nilA)))) (nilA))) (cE (.int 9))) (cE (.int 0)))) (setS 3 (slE slD (varE 3) (noPart) (partE (cE (.int 1))))) (nilS)) (seqS (forS (rngI (consA (cE (.int 8)) (consA (cE (.int 12)) (nilA)))) (gNm 4) (x1_law)) (retS (cE (.bl true))))))))
noncomputable def m_law : List D → Hh → Res D := defF 6 b_law
end G_k53

set_option maxHeartbeats 4000000
namespace G_k53
open PySem PySem.Spec PyProof.Rows L2 Ev
def topS (i : Nat) : Stmt := PySem.Challenge.pw_everyturn_k53_guarded_programs.main.body.getD i (.Pass ⟨0, 0, 0, 0⟩)
structure Txt (P : Program) (K : PySem.W.Frag) (mg : Str → Option Value) (w : World) : Prop where
  d__run_end : DefAt K mg "_run_end" (topS 9)
  d__token : DefAt K mg "_token" (topS 10)
  d_tokens : DefAt K mg "tokens" (topS 11)
  d_is_name : DefAt K mg "is_name" (topS 14)
  d_can_be_guarded : DefAt K mg "can_be_guarded" (topS 19)
  d_moved_place : DefAt K mg "moved_place" (topS 20)
  d_guarded_thread : DefAt K mg "guarded_thread" (topS 21)
  d_require_guards : DefAt K mg "require_guards" (topS 22)
  d_guarded : DefAt K mg "guarded" (topS 23)
  d__law_cell : DefAt K mg "_law_cell" (topS 25)
  d__law_digits : DefAt K mg "_law_digits" (topS 26)
  d__law_padded : DefAt K mg "_law_padded" (topS 27)
  d__law_things : DefAt K mg "_law_things" (topS 28)
  d__law_piece : DefAt K mg "_law_piece" (topS 29)
  d__law_longer : DefAt K mg "_law_longer" (topS 30)
  d__law_plain : DefAt K mg "_law_plain" (topS 31)
  d__law_guardable : DefAt K mg "_law_guardable" (topS 32)
  d__law_place : DefAt K mg "_law_place" (topS 33)
  d__law_code : DefAt K mg "_law_code" (topS 34)
  d__law_guards : DefAt K mg "_law_guards" (topS 35)
  d__law_due : DefAt K mg "_law_due" (topS 36)
  d__law_told : DefAt K mg "_law_told" (topS 37)
  d_law : DefAt K mg "law" (topS 38)
  b_int : mg "int" = none
  b_len : mg "len" = none
  b_range : mg "range" = none
  b_tuple : mg "tuple" = none
  b_zip : mg "zip" = none
  g_REGISTERS : GlobAt K mg "REGISTERS" c_REGISTERS
  g_DIGITS : GlobAt K mg "DIGITS" c_DIGITS
  g_LETTERS : GlobAt K mg "LETTERS" c_LETTERS
  g_SIGNS : GlobAt K mg "SIGNS" c_SIGNS
  g_WORD_LENGTH : GlobAt K mg "WORD_LENGTH" c_WORD_LENGTH
  g_RESERVED : GlobAt K mg "RESERVED" c_RESERVED
  g_KINDS : GlobAt K mg "KINDS" c_KINDS
  g_MOST_SHARED : GlobAt K mg "MOST_SHARED" c_MOST_SHARED
  g_MOST_INSTRUCTIONS : GlobAt K mg "MOST_INSTRUCTIONS" c_MOST_INSTRUCTIONS
  x_NoSuchPlace : ∃ C fI, PySem.SupX.XTxt P K mg "NoSuchPlace" "word" C fI
section
variable {P : Program} {w : World} {K : PySem.W.Frag} {mg : Str → Option Value} {base : Heap}
abbrev s__run_end : Stmt := topS 9
abbrev n__run_end : List Str := ["line", "at", "chars", "end"]
theorem sc__run_end : FnScope n__run_end ["line", "at", "chars"] (defScope s__run_end) := ⟨rfl, rfl, rfl, by decide +kernel, rfl, by decide +kernel, by decide +kernel⟩
theorem ok__run_end (T : Txt P K mg w) : Fn P w K mg base "_run_end" 1 3 m__run_end :=
  fn_mk (N := n__run_end) (m := b__run_end) T.d__run_end sc__run_end (fun _ _ _ _ _ _ us hl => match us, hl with | [_, _, _], _ => rfl) fun f cdv A outer s H E hr gx =>
    (mb_cons (ms_set gx 3 (me_var 1))
    (mb_cons (ms_while gx ((mt_w (mw_and ((mt_lt gx (me_var 3) ((me_callB call_lenAll cd_len rfl T.b_len (by decide +kernel) (ma_cons (me_var 0) ma_nil))))) ((mw_and1 ((mt_in gx ((me_sub_ix gx (me_var 0) (me_var 3))) (me_var 2)))))))) (mb_one (ms_aug gx 3 iop_addS od_iadd (me_int))))
    (mb_one (ms_ret (me_var 3)))))
abbrev s__token : Stmt := topS 10
abbrev n__token : List Str := ["line", "at", "char", "run"]
theorem sc__token : FnScope n__token ["line", "at"] (defScope s__token) := ⟨rfl, rfl, rfl, by decide +kernel, rfl, by decide +kernel, by decide +kernel⟩
theorem ok__token (T : Txt P K mg w) : Fn P w K mg base "_token" 2 2 m__token :=
  fn_mk (N := n__token) (m := b__token) T.d__token sc__token (fun _ _ _ _ _ _ us hl => match us, hl with | [_, _], _ => rfl) fun f cdv A outer s H E hr gx =>
    (mb_cons (ms_set gx 2 ((me_sub_ix gx (me_var 0) (me_var 1))))
    (mb_cons (ms_if ((mt_in gx (me_var 2) ((me_gl rfl T.g_DIGITS)))) (mb_cons (ms_set gx 3 ((me_sl (me_var 0) ((mo_some (me_var 1))) ((mo_some ((me_fn gx (ok__run_end T) (hr.mono (by decide)) rfl (ma_cons (me_var 0) (ma_cons (me_var 1) (ma_cons ((me_gl rfl T.g_DIGITS)) ma_nil))))))))))
    (mb_cons (ms_if ((mt_w (mw_or ((mt_gt ((me_callB call_lenAll cd_len rfl T.b_len (by decide +kernel) (ma_cons (me_var 3) ma_nil))) (me_int))) ((mw_or1 ((mt_w (mw_and ((mt_eq gx ((me_callB call_lenAll cd_len rfl T.b_len (by decide +kernel) (ma_cons (me_var 3) ma_nil))) (me_int))) ((mw_and1 ((mt_eq gx ((me_sub_ix gx (me_var 3) (me_int))) (me_str))))))))))))) (mb_one (ms_ret ((me_tup ((ma_cons (me_str) (ma_cons (me_var 3) ma_nil))))))) mb_nil)
    (mb_one (ms_ret ((me_tup ((ma_cons (me_str) (ma_cons (me_var 3) ma_nil))))))))) mb_nil)
    (mb_cons (ms_if ((mt_in gx (me_var 2) ((me_gl rfl T.g_LETTERS)))) (mb_cons (ms_set gx 3 ((me_sl (me_var 0) ((mo_some (me_var 1))) ((mo_some ((me_fn gx (ok__run_end T) (hr.mono (by decide)) rfl (ma_cons (me_var 0) (ma_cons (me_var 1) (ma_cons ((me_add ((me_gl rfl T.g_LETTERS)) ((me_gl rfl T.g_DIGITS)))) ma_nil))))))))))
    (mb_cons (ms_if ((mt_gt ((me_callB call_lenAll cd_len rfl T.b_len (by decide +kernel) (ma_cons (me_var 3) ma_nil))) ((me_gl rfl T.g_WORD_LENGTH)))) (mb_one (ms_ret ((me_tup ((ma_cons (me_str) (ma_cons (me_var 3) ma_nil))))))) mb_nil)
    (mb_one (ms_ret ((me_tup ((ma_cons (me_str) (ma_cons (me_var 3) ma_nil))))))))) mb_nil)
    (mb_cons (ms_if ((mt_in gx (me_var 2) ((me_gl rfl T.g_SIGNS)))) (mb_one (ms_ret ((me_tup ((ma_cons (me_str) (ma_cons (me_var 2) ma_nil))))))) mb_nil)
    (mb_one (ms_ret ((me_tup ((ma_cons (me_str) (ma_cons (me_var 2) ma_nil)))))))))))
abbrev s_tokens : Stmt := topS 11
abbrev n_tokens : List Str := ["line", "found", "at", "token"]
theorem sc_tokens : FnScope n_tokens ["line"] (defScope s_tokens) := ⟨rfl, rfl, rfl, by decide +kernel, rfl, by decide +kernel, by decide +kernel⟩
theorem ok_tokens (T : Txt P K mg w) : Fn P w K mg base "tokens" 3 1 m_tokens :=
  (fn_mk (N := n_tokens) (m := b_tokens) T.d_tokens sc_tokens (fun _ _ _ _ _ _ us hl => match us, hl with | [_], _ => rfl) fun f cdv A outer s H E hr gx =>
    (mb_cons (ms_set gx 1 ((me_lstH (ma_nil))))
    (mb_cons (ms_set gx 2 (me_int))
    (mb_cons (ms_while gx ((mt_lt gx (me_var 2) ((me_callB call_lenAll cd_len rfl T.b_len (by decide +kernel) (ma_cons (me_var 0) ma_nil))))) (mb_one (ms_if ((mt_eq gx ((me_sub_ix gx (me_var 0) (me_var 2))) (me_str))) (mb_one (ms_aug gx 2 iop_addS od_iadd (me_int))) (mb_cons (ms_set gx 3 ((me_fn gx (ok__token T) (hr.mono (by decide)) rfl (ma_cons (me_var 0) (ma_cons (me_var 2) ma_nil)))))
    (mb_cons (ms_expr ((me_bm PySem.F.plainAttrs_list PySem.F.slot_list_append PySem.F.type_list_append mt_append md_append ty_lst (me_var 1) (ma_cons (me_var 3) ma_nil))))
    (mb_one (ms_aug gx 2 iop_addS od_iadd ((me_callB call_lenAll cd_len rfl T.b_len (by decide +kernel) (ma_cons ((me_sub_ix gx (me_var 3) (me_int))) ma_nil))))))))))
    (mb_one (ms_ret (me_var 1))))))).cut
abbrev s_is_name : Stmt := topS 14
abbrev n_is_name : List Str := ["text"]
theorem sc_is_name : FnScope n_is_name ["text"] (defScope s_is_name) := ⟨rfl, rfl, rfl, by decide +kernel, rfl, by decide +kernel, by decide +kernel⟩
theorem ok_is_name (T : Txt P K mg w) : Fn P w K mg base "is_name" 4 1 m_is_name :=
  fn_mk (N := n_is_name) (m := b_is_name) T.d_is_name sc_is_name (fun _ _ _ _ _ _ us hl => match us, hl with | [_], _ => rfl) fun f cdv A outer s H E hr gx =>
    (mb_cons (ms_if ((mt_w (mw_or ((mt_in gx (me_var 0) ((me_gl rfl T.g_RESERVED)))) ((mw_or ((mt_in gx (me_var 0) ((me_gl rfl T.g_REGISTERS)))) ((mw_or1 ((mt_in gx (me_str) (me_var 0)))))))))) (mb_one (ms_ret (me_bl))) mb_nil)
    (mb_one (ms_ret ((me_eq gx ((me_fn gx (ok_tokens T) (hr.mono (by decide)) rfl (ma_cons (me_var 0) ma_nil))) ((me_lst ((ma_cons ((me_tup ((ma_cons (me_str) (ma_cons (me_var 0) ma_nil))))) ma_nil)))))))))
abbrev s_can_be_guarded : Stmt := topS 19
abbrev n_can_be_guarded : List Str := ["thread", "first", "last", "k", "instruction"]
theorem sc_can_be_guarded : FnScope n_can_be_guarded ["thread", "first", "last"] (defScope s_can_be_guarded) := ⟨rfl, rfl, rfl, by decide +kernel, rfl, by decide +kernel, by decide +kernel⟩
theorem ok_can_be_guarded (T : Txt P K mg w) : Fn P w K mg base "can_be_guarded" 1 3 m_can_be_guarded :=
  fn_mk (N := n_can_be_guarded) (m := b_can_be_guarded) T.d_can_be_guarded sc_can_be_guarded (fun _ _ _ _ _ _ us hl => match us, hl with | [_, _, _], _ => rfl) fun f cdv A outer s H E hr gx =>
    (mb_cons (ms_if ((mt_w (mw_or ((mt_lt gx (me_var 1) (me_int))) ((mw_or ((mt_gt (me_var 1) (me_var 2))) ((mw_or1 ((mt_ge (me_var 2) ((me_callB call_lenAll cd_len rfl T.b_len (by decide +kernel) (ma_cons (me_var 0) ma_nil)))))))))))) (mb_one (ms_ret (me_bl))) mb_nil)
    (mb_cons (ms_for gx (mi_range2 rfl T.b_range (ma_cons (me_var 1) (ma_cons ((me_add (me_var 2) (me_int))) ma_nil))) (mg_name gx 3) (mb_one (ms_if ((mt_nin gx ((me_sub_ix gx ((me_sub_ix gx (me_var 0) (me_var 3))) (me_int))) ((me_gl rfl T.g_KINDS)))) (mb_one (ms_ret (me_bl))) mb_nil)))
    (mb_cons (ms_for gx (mi_seq (me_var 0)) (mg_name gx 4) (mb_one (ms_if ((mt_w (mw_and ((mt_eq gx ((me_sub_ix gx (me_var 4) (me_int))) (me_str))) ((mw_and1 ((mt_chain op_lt op_le (me_var 1) ((me_sub_ix gx (me_var 4) (me_int))) (me_var 2)))))))) (mb_one (ms_ret (me_bl))) mb_nil)))
    (mb_one (ms_ret (me_bl))))))
abbrev s_moved_place : Stmt := topS 20
abbrev n_moved_place : List Str := ["place", "span"]
theorem sc_moved_place : FnScope n_moved_place ["place", "span"] (defScope s_moved_place) := ⟨rfl, rfl, rfl, by decide +kernel, rfl, by decide +kernel, by decide +kernel⟩
theorem ok_moved_place (T : Txt P K mg w) : Fn P w K mg base "moved_place" 1 2 m_moved_place :=
  fn_mk (N := n_moved_place) (m := b_moved_place) T.d_moved_place sc_moved_place (fun _ _ _ _ _ _ us hl => match us, hl with | [_, _], _ => rfl) fun f cdv A outer s H E hr gx =>
    (mb_cons (ms_if ((mt_le (me_var 0) ((me_sub_ix gx (me_var 1) (me_int))))) (mb_one (ms_ret (me_var 0))) mb_nil)
    (mb_cons (ms_if ((mt_le (me_var 0) ((me_sub_ix gx (me_var 1) (me_int))))) (mb_one (ms_ret ((me_add (me_var 0) (me_int))))) mb_nil)
    (mb_one (ms_ret ((me_add (me_var 0) (me_int)))))))
abbrev s_guarded_thread : Stmt := topS 21
abbrev n_guarded_thread : List Str := ["thread", "span", "name", "code", "instruction", "inner"]
theorem sc_guarded_thread : FnScope n_guarded_thread ["thread", "span", "name"] (defScope s_guarded_thread) := ⟨rfl, rfl, rfl, by decide +kernel, rfl, by decide +kernel, by decide +kernel⟩
theorem ok_guarded_thread (T : Txt P K mg w) : Fn P w K mg base "guarded_thread" 2 3 m_guarded_thread :=
  (fn_mk (N := n_guarded_thread) (m := b_guarded_thread) T.d_guarded_thread sc_guarded_thread (fun _ _ _ _ _ _ us hl => match us, hl with | [_, _, _], _ => rfl) fun f cdv A outer s H E hr gx =>
    (mb_cons (ms_if ((mt_is (me_var 1) (me_non))) (mb_one (ms_ret (me_var 0))) mb_nil)
    (mb_cons (ms_set gx 3 ((me_lstH (ma_nil))))
    (mb_cons (ms_for gx (mi_seq (me_var 0)) (mg_name gx 4) (mb_one (ms_if ((mt_eq gx ((me_sub_ix gx (me_var 4) (me_int))) (me_str))) (mb_one (ms_expr ((me_bm PySem.F.plainAttrs_list PySem.F.slot_list_append PySem.F.type_list_append mt_append md_append ty_lst (me_var 3) (ma_cons ((me_tup ((ma_cons (me_str) (ma_cons ((me_fn gx (ok_moved_place T) (hr.mono (by decide)) rfl (ma_cons ((me_sub_ix gx (me_var 4) (me_int))) (ma_cons (me_var 1) ma_nil)))) (ma_cons ((me_sub_ix gx (me_var 4) (me_int))) ma_nil)))))) ma_nil))))) (mb_one (ms_expr ((me_bm PySem.F.plainAttrs_list PySem.F.slot_list_append PySem.F.type_list_append mt_append md_append ty_lst (me_var 3) (ma_cons (me_var 4) ma_nil))))))))
    (mb_cons (ms_set gx 5 ((me_sl (me_var 3) ((mo_some ((me_sub_ix gx (me_var 1) (me_int))))) ((mo_some ((me_add ((me_sub_ix gx (me_var 1) (me_int))) (me_int))))))))
    (mb_one (ms_ret ((me_callTy call_tuple_of cd_tuple rfl T.b_tuple (by decide +kernel) (ma_cons ((me_add ((me_add ((me_add ((me_add ((me_sl (me_var 3) (mo_none) ((mo_some ((me_sub_ix gx (me_var 1) (me_int))))))) ((me_lst ((ma_cons ((me_tup ((ma_cons (me_str) (ma_cons (me_var 2) ma_nil))))) ma_nil)))))) (me_var 5))) ((me_lst ((ma_cons ((me_tup ((ma_cons (me_str) (ma_cons (me_var 2) ma_nil))))) ma_nil)))))) ((me_sl (me_var 3) ((mo_some ((me_add ((me_sub_ix gx (me_var 1) (me_int))) (me_int))))) (mo_none))))) ma_nil)))))))))).cut
abbrev s_require_guards : Stmt := topS 22
abbrev n_require_guards : List Str := ["program", "guards", "thread", "span"]
theorem sc_require_guards : FnScope n_require_guards ["program", "guards"] (defScope s_require_guards) := ⟨rfl, rfl, rfl, by decide +kernel, rfl, by decide +kernel, by decide +kernel⟩
theorem ok_require_guards (T : Txt P K mg w) : Fn P w K mg base "require_guards" 2 2 m_require_guards :=
  fn_mk (N := n_require_guards) (m := b_require_guards) T.d_require_guards sc_require_guards (fun _ _ _ _ _ _ us hl => match us, hl with | [_, _], _ => rfl) fun f cdv A outer s H E hr gx =>
    (mb_cons (ms_if ((mt_ne gx ((me_callB call_lenAll cd_len rfl T.b_len (by decide +kernel) (ma_cons (me_var 1) ma_nil))) ((me_callB call_lenAll cd_len rfl T.b_len (by decide +kernel) (ma_cons ((me_sub_ix gx (me_var 0) (me_int))) ma_nil))))) (mb_one (ms_raise gx T.x_NoSuchPlace.choose_spec.choose_spec hr (ma_cons (me_str) ma_nil))) mb_nil)
    (mb_one (ms_for gx (mi_zip rfl T.b_zip (ma_cons ((me_sub_ix gx (me_var 0) (me_int))) (ma_cons (me_var 1) ma_nil))) (mg_tup gx (mgs_cons gx 2 (mgs_cons gx 3 mgs_nil))) (mb_one (ms_if ((mt_w (mw_and ((mt_isnt (me_var 3) (me_non))) ((mw_and1 ((mt_not ((mt_b ((me_fn gx (ok_can_be_guarded T) (hr.mono (by decide)) rfl (ma_cons (me_var 2) (ma_cons ((me_sub_ix gx (me_var 3) (me_int))) (ma_cons ((me_sub_ix gx (me_var 3) (me_int))) ma_nil)))))))))))))) (mb_one (ms_raise gx T.x_NoSuchPlace.choose_spec.choose_spec hr (ma_cons (me_str) ma_nil))) mb_nil)))))
abbrev s_guarded : Stmt := topS 23
abbrev n_guarded : List Str := ["program", "guards", "name", "threads", "thread", "span", "code", "thing"]
theorem sc_guarded : FnScope n_guarded ["program", "guards", "name"] (defScope s_guarded) := ⟨rfl, rfl, rfl, by decide +kernel, rfl, by decide +kernel, by decide +kernel⟩
theorem ok_guarded (T : Txt P K mg w) : Fn P w K mg base "guarded" 5 3 m_guarded :=
  (fn_mk (N := n_guarded) (m := b_guarded) T.d_guarded sc_guarded (fun _ _ _ _ _ _ us hl => match us, hl with | [_, _, _], _ => rfl) fun f cdv A outer s H E hr gx =>
    (mb_cons (ms_if ((mt_w (mw_or ((mt_not ((mt_b ((me_fn gx (ok_is_name T) (hr.mono (by decide)) rfl (ma_cons (me_var 2) ma_nil))))))) ((mw_or1 ((mt_in gx (me_var 2) ((me_lc gx 7 (mi_seq ((me_sub_ix gx (me_var 0) (me_int)))) (blkOk_by (N := n_guarded) (sc := defScope s_guarded) (by decide +kernel)) (fun _ _ _ _ _ => pg_name (i := 7) gx.nd rfl (Or.inl rfl)) (fun _ _ _ _ _ => mts_nil) (fun _ _ _ _ _ => (me_sub_ix (gx.blk _ _ _ _ _) (me_var 7) (me_int)))))))))))) (mb_one (ms_raise gx T.x_NoSuchPlace.choose_spec.choose_spec hr (ma_cons (me_str) ma_nil))) mb_nil)
    (mb_cons (ms_if ((mt_ge ((me_callB call_lenAll cd_len rfl T.b_len (by decide +kernel) (ma_cons ((me_sub_ix gx (me_var 0) (me_int))) ma_nil))) ((me_gl rfl T.g_MOST_SHARED)))) (mb_one (ms_raise gx T.x_NoSuchPlace.choose_spec.choose_spec hr (ma_cons (me_str) ma_nil))) mb_nil)
    (mb_cons (ms_expr ((me_fn gx (ok_require_guards T) (hr.mono (by decide)) rfl (ma_cons (me_var 0) (ma_cons (me_var 1) ma_nil)))))
    (mb_cons (ms_set gx 3 ((me_lstH (ma_nil))))
    (mb_cons (ms_for gx (mi_zip rfl T.b_zip (ma_cons ((me_sub_ix gx (me_var 0) (me_int))) (ma_cons (me_var 1) ma_nil))) (mg_tup gx (mgs_cons gx 4 (mgs_cons gx 5 mgs_nil))) (mb_cons (ms_set gx 6 ((me_fn gx (ok_guarded_thread T) (hr.mono (by decide)) rfl (ma_cons (me_var 4) (ma_cons (me_var 5) (ma_cons (me_var 2) ma_nil))))))
    (mb_cons (ms_if ((mt_gt ((me_callB call_lenAll cd_len rfl T.b_len (by decide +kernel) (ma_cons (me_var 6) ma_nil))) ((me_gl rfl T.g_MOST_INSTRUCTIONS)))) (mb_one (ms_raise gx T.x_NoSuchPlace.choose_spec.choose_spec hr (ma_cons (me_str) ma_nil))) mb_nil)
    (mb_one (ms_expr ((me_bm PySem.F.plainAttrs_list PySem.F.slot_list_append PySem.F.type_list_append mt_append md_append ty_lst (me_var 3) (ma_cons (me_var 6) ma_nil))))))))
    (mb_one (ms_ret ((me_tup ((ma_cons ((me_add ((me_sub_ix gx (me_var 0) (me_int))) ((me_tup ((ma_cons ((me_tup ((ma_cons (me_str) (ma_cons (me_var 2) ma_nil))))) ma_nil)))))) (ma_cons ((me_callTy call_tuple_of cd_tuple rfl T.b_tuple (by decide +kernel) (ma_cons (me_var 3) ma_nil))) ma_nil))))))))))))).cut
abbrev s__law_cell : Stmt := topS 25
abbrev n__law_cell : List Str := ["_law_script", "_law_k"]
theorem sc__law_cell : FnScope n__law_cell ["_law_script", "_law_k"] (defScope s__law_cell) := ⟨rfl, rfl, rfl, by decide +kernel, rfl, by decide +kernel, by decide +kernel⟩
theorem ok__law_cell (T : Txt P K mg w) : Fn P w K mg base "_law_cell" 1 2 m__law_cell :=
  fn_mk (N := n__law_cell) (m := b__law_cell) T.d__law_cell sc__law_cell (fun _ _ _ _ _ _ us hl => match us, hl with | [_, _], _ => rfl) fun f cdv A outer s H E hr gx =>
    (mb_cons (ms_if ((mt_lt gx (me_var 1) ((me_callB call_lenAll cd_len rfl T.b_len (by decide +kernel) (ma_cons (me_var 0) ma_nil))))) (mb_one (ms_ret ((me_sub_ix gx (me_var 0) (me_var 1))))) mb_nil)
    (mb_one (ms_ret (me_int))))
abbrev s__law_digits : Stmt := topS 26
abbrev n__law_digits : List Str := ["_law_cell_here", "_law_k", "_law_most", "_law_digits_here", "_law_turn", "_law_seed"]
theorem sc__law_digits : FnScope n__law_digits ["_law_cell_here", "_law_k", "_law_most"] (defScope s__law_digits) := ⟨rfl, rfl, rfl, by decide +kernel, rfl, by decide +kernel, by decide +kernel⟩
theorem ok__law_digits (T : Txt P K mg w) : Fn P w K mg base "_law_digits" 1 3 m__law_digits :=
  fn_mk (N := n__law_digits) (m := b__law_digits) T.d__law_digits sc__law_digits (fun _ _ _ _ _ _ us hl => match us, hl with | [_, _, _], _ => rfl) fun f cdv A outer s H E hr gx =>
    (mb_cons (ms_set gx 3 ((me_lstH (ma_nil))))
    (mb_cons (ms_if ((mt_lt gx (me_var 0) (me_int))) (mb_one (ms_set gx 0 ((me_sub ((me_neg (me_int))) (me_var 0))))) mb_nil)
    (mb_cons (ms_if ((mt_ge (me_var 0) ((me_pow (me_int) (me_int))))) (mb_one (ms_for gx (mi_range1 rfl T.b_range (ma_cons (me_int) ma_nil)) (mg_name gx 4) (mb_one (ms_if ((mt_w (mw_and ((mt_gt (me_var 0) (me_int))) ((mw_and1 ((mt_lt gx ((me_callB call_lenAll cd_len rfl T.b_len (by decide +kernel) (ma_cons (me_var 3) ma_nil))) (me_var 2)))))))) (mb_cons (ms_expr ((me_bm PySem.F.plainAttrs_list PySem.F.slot_list_append PySem.F.type_list_append mt_append md_append ty_lst (me_var 3) (ma_cons ((me_mod ((me_callTy call_intAll cd_int rfl T.b_int (by decide +kernel) (ma_cons (me_var 0) ma_nil))) (me_int))) ma_nil))))
    (mb_one (ms_set gx 0 ((me_fdiv (me_var 0) (me_int)))))) mb_nil)))) (mb_cons (ms_set gx 5 ((me_mod ((me_callTy call_intAll cd_int rfl T.b_int (by decide +kernel) (ma_cons ((me_add ((me_add ((me_mul (me_var 0) (me_int))) ((me_mul (me_var 1) (me_int))))) (me_int))) ma_nil))) (me_int))))
    (mb_one (ms_for gx (mi_range1 rfl T.b_range (ma_cons (me_var 2) ma_nil)) (mg_name gx 4) (mb_cons (ms_set gx 5 ((me_mod ((me_callTy call_intAll cd_int rfl T.b_int (by decide +kernel) (ma_cons ((me_add ((me_add ((me_mul (me_var 5) (me_int))) ((me_mul (me_int) (me_var 4))))) (me_int))) ma_nil))) (me_int))))
    (mb_one (ms_expr ((me_bm PySem.F.plainAttrs_list PySem.F.slot_list_append PySem.F.type_list_append mt_append md_append ty_lst (me_var 3) (ma_cons ((me_mod ((me_callTy call_intAll cd_int rfl T.b_int (by decide +kernel) (ma_cons ((me_fdiv (me_var 5) (me_int))) ma_nil))) (me_int))) ma_nil))))))))))
    (mb_one (ms_ret (me_var 3))))))
abbrev s__law_padded : Stmt := topS 27
abbrev n__law_padded : List Str := ["_law_cell_here", "_law_k", "_law_d", "_law_turn"]
theorem sc__law_padded : FnScope n__law_padded ["_law_cell_here", "_law_k"] (defScope s__law_padded) := ⟨rfl, rfl, rfl, by decide +kernel, rfl, by decide +kernel, by decide +kernel⟩
theorem ok__law_padded (T : Txt P K mg w) : Fn P w K mg base "_law_padded" 2 2 m__law_padded :=
  (fn_mk (N := n__law_padded) (m := b__law_padded) T.d__law_padded sc__law_padded (fun _ _ _ _ _ _ us hl => match us, hl with | [_, _], _ => rfl) fun f cdv A outer s H E hr gx =>
    (mb_cons (ms_set gx 2 ((me_fn gx (ok__law_digits T) (hr.mono (by decide)) rfl (ma_cons (me_var 0) (ma_cons (me_var 1) (ma_cons (me_int) ma_nil))))))
    (mb_cons (ms_for gx (mi_range1 rfl T.b_range (ma_cons (me_int) ma_nil)) (mg_name gx 3) (mb_one (ms_expr ((me_bm PySem.F.plainAttrs_list PySem.F.slot_list_append PySem.F.type_list_append mt_append md_append ty_lst (me_var 2) (ma_cons (me_var 3) ma_nil))))))
    (mb_one (ms_ret (me_var 2)))))).cut
abbrev s__law_things : Stmt := topS 28
abbrev n__law_things : List Str := []
theorem sc__law_things : FnScope n__law_things [] (defScope s__law_things) := ⟨rfl, rfl, rfl, by decide +kernel, rfl, by decide +kernel, by decide +kernel⟩
theorem ok__law_things (T : Txt P K mg w) : Fn P w K mg base "_law_things" 1 0 m__law_things :=
  fn_mk (N := n__law_things) (m := b__law_things) T.d__law_things sc__law_things (fun _ _ _ _ _ _ us hl => match us, hl with | [], _ => rfl) fun f cdv A outer s H E hr gx =>
    (mb_one (ms_ret ((me_tup ((ma_cons ((me_tup ((ma_cons (me_str) (ma_cons (me_str) ma_nil))))) (ma_cons ((me_tup ((ma_cons (me_str) (ma_cons (me_str) (ma_cons (me_int) ma_nil)))))) (ma_cons ((me_tup ((ma_cons (me_str) (ma_cons (me_str) (ma_cons (me_str) ma_nil)))))) (ma_cons ((me_tup ((ma_cons (me_str) (ma_cons (me_str) (ma_cons (me_int) ma_nil)))))) (ma_cons ((me_tup ((ma_cons (me_str) (ma_cons (me_str) (ma_cons (me_int) ma_nil)))))) (ma_cons ((me_tup ((ma_cons (me_str) (ma_cons (me_str) ma_nil))))) ma_nil)))))))))))
abbrev s__law_piece : Stmt := topS 29
abbrev n__law_piece : List Str := ["_law_digit", "_law_pc", "_law_add", "_law_less", "_law_pieces"]
theorem sc__law_piece : FnScope n__law_piece ["_law_digit", "_law_pc"] (defScope s__law_piece) := ⟨rfl, rfl, rfl, by decide +kernel, rfl, by decide +kernel, by decide +kernel⟩
theorem ok__law_piece (T : Txt P K mg w) : Fn P w K mg base "_law_piece" 1 2 m__law_piece :=
  fn_mk (N := n__law_piece) (m := b__law_piece) T.d__law_piece sc__law_piece (fun _ _ _ _ _ _ us hl => match us, hl with | [_, _], _ => rfl) fun f cdv A outer s H E hr gx =>
    (mb_cons (ms_set gx 2 ((me_tup ((ma_cons (me_str) (ma_cons (me_str) (ma_cons ((me_tup ((ma_cons (me_str) (ma_cons (me_str) ma_nil))))) (ma_cons ((me_tup ((ma_cons (me_str) (ma_cons (me_int) ma_nil))))) ma_nil))))))))
    (mb_cons (ms_set gx 3 ((me_tup ((ma_cons (me_str) (ma_cons (me_str) (ma_cons ((me_tup ((ma_cons (me_str) (ma_cons (me_str) ma_nil))))) (ma_cons ((me_tup ((ma_cons (me_str) (ma_cons (me_int) ma_nil))))) ma_nil))))))))
    (mb_cons (ms_set gx 4 ((me_lst ((ma_cons ((me_lst ((ma_cons ((me_tup ((ma_cons (me_str) (ma_cons (me_str) (ma_cons (me_str) ma_nil)))))) (ma_cons ((me_tup ((ma_cons (me_str) (ma_cons (me_str) (ma_cons (me_var 2) ma_nil)))))) ma_nil))))) (ma_cons ((me_lst ((ma_cons ((me_tup ((ma_cons (me_str) (ma_cons (me_str) (ma_cons ((me_tup ((ma_cons (me_str) (ma_cons (me_int) ma_nil))))) ma_nil)))))) ma_nil)))) (ma_cons ((me_lst ((ma_cons ((me_tup ((ma_cons (me_str) (ma_cons (me_str) (ma_cons ((me_tup ((ma_cons (me_str) (ma_cons (me_int) ma_nil))))) ma_nil)))))) ma_nil)))) (ma_cons ((me_lst ((ma_cons ((me_tup ((ma_cons (me_str) (ma_cons (me_str) (ma_cons (me_str) ma_nil)))))) ma_nil)))) (ma_cons ((me_lst ((ma_cons ((me_tup ((ma_cons (me_str) (ma_cons (me_str) ma_nil))))) (ma_cons ((me_tup ((ma_cons (me_str) (ma_cons (me_str) (ma_cons ((me_tup ((ma_cons (me_str) (ma_cons (me_int) ma_nil))))) ma_nil)))))) (ma_cons ((me_tup ((ma_cons (me_str) (ma_cons (me_str) ma_nil))))) ma_nil)))))) (ma_cons ((me_lst ((ma_cons ((me_tup ((ma_cons (me_str) (ma_cons (me_str) ma_nil))))) (ma_cons ((me_tup ((ma_cons (me_str) (ma_cons (me_str) ma_nil))))) ma_nil))))) (ma_cons ((me_lst ((ma_cons ((me_tup ((ma_cons (me_str) (ma_cons (me_str) ma_nil))))) (ma_cons ((me_tup ((ma_cons (me_str) (ma_cons (me_str) ma_nil))))) ma_nil))))) (ma_cons ((me_lst ((ma_cons ((me_tup ((ma_cons (me_str) (ma_cons (me_str) ma_nil))))) (ma_cons ((me_tup ((ma_cons (me_str) (ma_cons (me_str) ma_nil))))) (ma_cons ((me_tup ((ma_cons (me_str) (ma_cons (me_str) ma_nil))))) ma_nil)))))) (ma_cons ((me_lst ((ma_cons ((me_tup ((ma_cons (me_str) (ma_cons (me_str) ma_nil))))) ma_nil)))) (ma_cons ((me_lst ((ma_cons ((me_tup ((ma_cons (me_str) (ma_cons (me_str) ma_nil))))) (ma_cons ((me_tup ((ma_cons (me_str) (ma_cons (me_str) ma_nil))))) (ma_cons ((me_tup ((ma_cons (me_str) (ma_cons (me_str) ma_nil))))) ma_nil)))))) (ma_cons ((me_lst ((ma_cons ((me_tup ((ma_cons (me_str) (ma_cons (me_str) (ma_cons ((me_tup ((ma_cons (me_str) (ma_cons (me_int) ma_nil))))) ma_nil)))))) ma_nil)))) (ma_cons ((me_lst ((ma_cons ((me_tup ((ma_cons (me_str) (ma_cons (me_str) (ma_cons (me_str) ma_nil)))))) ma_nil)))) (ma_cons ((me_lst ((ma_cons ((me_tup ((ma_cons (me_str) (ma_cons (me_str) (ma_cons (me_str) ma_nil)))))) (ma_cons ((me_tup ((ma_cons (me_str) (ma_cons (me_var 3) ma_nil))))) ma_nil))))) (ma_cons ((me_lst ((ma_cons ((me_tup ((ma_cons (me_str) ma_nil)))) (ma_cons ((me_tup ((ma_cons (me_str) (ma_cons (me_str) (ma_cons (me_str) ma_nil)))))) (ma_cons ((me_tup ((ma_cons (me_str) (ma_cons (me_str) (ma_cons (me_var 2) ma_nil)))))) (ma_cons ((me_tup ((ma_cons (me_str) ma_nil)))) ma_nil))))))) (ma_cons ((me_lst ((ma_cons ((me_tup ((ma_cons (me_str) (ma_cons (me_str) ma_nil))))) ma_nil)))) (ma_cons ((me_lst ((ma_cons ((me_tup ((ma_cons (me_str) (ma_cons (me_str) (ma_cons ((me_tup ((ma_cons (me_str) (ma_cons (me_int) ma_nil))))) ma_nil)))))) ma_nil)))) (ma_cons ((me_lst ((ma_cons ((me_tup ((ma_cons (me_str) (ma_cons (me_str) (ma_cons (me_var 2) ma_nil)))))) ma_nil)))) (ma_cons ((me_lst ((ma_cons ((me_tup ((ma_cons (me_str) (ma_cons ((me_add (me_var 1) (me_int))) (ma_cons ((me_tup ((ma_cons (me_str) (ma_cons (me_str) ma_nil))))) ma_nil)))))) (ma_cons ((me_tup ((ma_cons (me_str) (ma_cons (me_str) (ma_cons (me_var 2) ma_nil)))))) ma_nil))))) (ma_cons ((me_lst ((ma_cons ((me_tup ((ma_cons (me_str) ma_nil)))) (ma_cons ((me_tup ((ma_cons (me_str) (ma_cons (me_str) (ma_cons ((me_tup ((ma_cons (me_str) (ma_cons (me_int) ma_nil))))) ma_nil)))))) (ma_cons ((me_tup ((ma_cons (me_str) (ma_cons (me_str) (ma_cons ((me_tup ((ma_cons (me_str) (ma_cons (me_int) ma_nil))))) ma_nil)))))) (ma_cons ((me_tup ((ma_cons (me_str) ma_nil)))) ma_nil))))))) (ma_cons ((me_lst ((ma_cons ((me_tup ((ma_cons (me_str) (ma_cons (me_str) (ma_cons ((me_tup ((ma_cons (me_str) (ma_cons (me_str) ma_nil))))) ma_nil)))))) ma_nil)))) (ma_cons ((me_lst ((ma_cons ((me_tup ((ma_cons (me_str) ma_nil)))) ma_nil)))) (ma_cons ((me_lst ((ma_cons ((me_tup ((ma_cons (me_str) (ma_cons (me_int) (ma_cons (me_non) ma_nil)))))) ma_nil)))) (ma_cons ((me_lst ((ma_cons ((me_tup ((ma_cons (me_str) (ma_cons (me_int) (ma_cons ((me_tup ((ma_cons (me_str) (ma_cons (me_str) ma_nil))))) ma_nil)))))) ma_nil)))) (ma_cons ((me_lst ((ma_cons ((me_tup ((ma_cons (me_str) (ma_cons (me_int) (ma_cons ((me_tup ((ma_cons (me_str) (ma_cons (me_int) ma_nil))))) ma_nil)))))) (ma_cons ((me_tup ((ma_cons (me_str) (ma_cons (me_str) (ma_cons (me_str) ma_nil)))))) ma_nil))))) ma_nil))))))))))))))))))))))))))))
    (mb_one (ms_ret ((me_sub_ix gx (me_var 4) ((me_mod ((me_callTy call_intAll cd_int rfl T.b_int (by decide +kernel) (ma_cons (me_var 0) ma_nil))) (me_int))))))))))
abbrev s__law_plain : Stmt := topS 31
abbrev n__law_plain : List Str := ["_law_code_here", "_law_found", "_law_instruction"]
theorem sc__law_plain : FnScope n__law_plain ["_law_code_here"] (defScope s__law_plain) := ⟨rfl, rfl, rfl, by decide +kernel, rfl, by decide +kernel, by decide +kernel⟩
theorem ok__law_plain (T : Txt P K mg w) : Fn P w K mg base "_law_plain" 1 1 m__law_plain :=
  (fn_mk (N := n__law_plain) (m := b__law_plain) T.d__law_plain sc__law_plain (fun _ _ _ _ _ _ us hl => match us, hl with | [_], _ => rfl) fun f cdv A outer s H E hr gx =>
    (mb_cons (ms_set gx 1 ((me_lstH (ma_nil))))
    (mb_cons (ms_for gx (mi_seq (me_var 0)) (mg_name gx 2) (mb_one (ms_if ((mt_in gx ((me_sub_ix gx (me_var 2) (me_int))) ((me_lst ((ma_cons (me_str) (ma_cons (me_str) (ma_cons (me_str) (ma_cons (me_str) (ma_cons (me_str) ma_nil)))))))))) (mb_one (ms_expr ((me_bm PySem.F.plainAttrs_list PySem.F.slot_list_append PySem.F.type_list_append mt_append md_append ty_lst (me_var 1) (ma_cons ((me_tup ((ma_cons (me_str) (ma_cons (me_str) (ma_cons ((me_tup ((ma_cons (me_str) (ma_cons (me_int) ma_nil))))) ma_nil)))))) ma_nil))))) (mb_one (ms_expr ((me_bm PySem.F.plainAttrs_list PySem.F.slot_list_append PySem.F.type_list_append mt_append md_append ty_lst (me_var 1) (ma_cons (me_var 2) ma_nil))))))))
    (mb_cons (ms_if ((mt_eq gx ((me_callB call_lenAll cd_len rfl T.b_len (by decide +kernel) (ma_cons (me_var 1) ma_nil))) (me_int))) (mb_one (ms_expr ((me_bm PySem.F.plainAttrs_list PySem.F.slot_list_append PySem.F.type_list_append mt_append md_append ty_lst (me_var 1) (ma_cons ((me_tup ((ma_cons (me_str) (ma_cons (me_str) (ma_cons (me_str) ma_nil)))))) ma_nil))))) mb_nil)
    (mb_one (ms_ret ((me_callTy call_tuple_of cd_tuple rfl T.b_tuple (by decide +kernel) (ma_cons (me_var 1) ma_nil))))))))).cut
abbrev s__law_longer : Stmt := topS 30
abbrev n__law_longer : List Str := ["_law_script", "_law_pieces", "_law_k", "_law_d", "_law_code_here", "_law_j", "_law_piece_here", "_law_things_here"]
theorem sc__law_longer : FnScope n__law_longer ["_law_script"] (defScope s__law_longer) := ⟨rfl, rfl, rfl, by decide +kernel, rfl, by decide +kernel, by decide +kernel⟩
theorem ok__law_longer (T : Txt P K mg w) : Fn P w K mg base "_law_longer" 3 1 m__law_longer :=
  (fn_mk (N := n__law_longer) (m := b__law_longer) T.d__law_longer sc__law_longer (fun _ _ _ _ _ _ us hl => match us, hl with | [_], _ => rfl) fun f cdv A outer s H E hr gx =>
    (mb_cons (ms_set gx 1 ((me_lstH (ma_nil))))
    (mb_cons (ms_for gx (mi_range1 rfl T.b_range (ma_cons (me_int) ma_nil)) (mg_name gx 2) (mb_cons (ms_set gx 3 ((me_fn gx (ok__law_padded T) (hr.mono (by decide)) rfl (ma_cons ((me_fn gx (ok__law_cell T) (hr.mono (by decide)) rfl (ma_cons (me_var 0) (ma_cons (me_var 2) ma_nil)))) (ma_cons (me_var 2) ma_nil)))))
    (mb_cons (ms_set gx 4 ((me_lst (ma_nil))))
    (mb_cons (ms_for gx (mi_range1 rfl T.b_range (ma_cons (me_int) ma_nil)) (mg_name gx 5) (mb_cons (ms_set gx 6 ((me_fn gx (ok__law_piece T) (hr.mono (by decide)) rfl (ma_cons ((me_sub_ix gx (me_var 3) (me_var 5))) (ma_cons ((me_callB call_lenAll cd_len rfl T.b_len (by decide +kernel) (ma_cons (me_var 4) ma_nil))) ma_nil)))))
    (mb_one (ms_if ((mt_le ((me_add ((me_callB call_lenAll cd_len rfl T.b_len (by decide +kernel) (ma_cons (me_var 4) ma_nil))) ((me_callB call_lenAll cd_len rfl T.b_len (by decide +kernel) (ma_cons (me_var 6) ma_nil))))) ((me_sub_ix gx ((me_lst ((ma_cons (me_int) (ma_cons (me_int) ma_nil))))) ((me_mod ((me_callTy call_intAll cd_int rfl T.b_int (by decide +kernel) (ma_cons ((me_fn gx (ok__law_cell T) (hr.mono (by decide)) rfl (ma_cons (me_var 0) (ma_cons (me_int) ma_nil)))) ma_nil))) (me_int))))))) (mb_one (ms_set gx 4 ((me_add (me_var 4) (me_var 6))))) mb_nil))))
    (mb_one (ms_expr ((me_bm PySem.F.plainAttrs_list PySem.F.slot_list_append PySem.F.type_list_append mt_append md_append ty_lst (me_var 1) (ma_cons ((me_callTy call_tuple_of cd_tuple rfl T.b_tuple (by decide +kernel) (ma_cons (me_var 4) ma_nil))) ma_nil)))))))))
    (mb_cons (ms_set gx 7 ((me_tup ((ma_cons ((me_tup ((ma_cons (me_str) (ma_cons (me_str) (ma_cons (me_int) ma_nil)))))) (ma_cons ((me_tup ((ma_cons (me_str) (ma_cons (me_str) ma_nil))))) (ma_cons ((me_tup ((ma_cons (me_str) (ma_cons (me_str) (ma_cons (me_int) ma_nil)))))) (ma_cons ((me_tup ((ma_cons (me_str) (ma_cons (me_str) ma_nil))))) ma_nil))))))))
    (mb_one (ms_ret ((me_tup ((ma_cons (me_var 7) (ma_cons ((me_callTy call_tuple_of cd_tuple rfl T.b_tuple (by decide +kernel) (ma_cons ((me_lc gx 4 (mi_seq (me_var 1)) (blkOk_by (N := n__law_longer) (sc := defScope s__law_longer) (by decide +kernel)) (fun _ _ _ _ _ => pg_name (i := 4) gx.nd rfl (Or.inl rfl)) (fun _ _ _ _ _ => mts_nil) (fun _ _ _ _ _ => (me_fn (gx.blk _ _ _ _ _) (ok__law_plain T) (hr.mono (by decide)) rfl (ma_cons (me_var 4) ma_nil))))) ma_nil))) ma_nil))))))))))).cut
abbrev s__law_guardable : Stmt := topS 32
abbrev n__law_guardable : List Str := ["_law_code_here", "_law_first", "_law_last", "_law_k", "_law_instruction"]
theorem sc__law_guardable : FnScope n__law_guardable ["_law_code_here", "_law_first", "_law_last"] (defScope s__law_guardable) := ⟨rfl, rfl, rfl, by decide +kernel, rfl, by decide +kernel, by decide +kernel⟩
theorem ok__law_guardable (T : Txt P K mg w) : Fn P w K mg base "_law_guardable" 1 3 m__law_guardable :=
  fn_mk (N := n__law_guardable) (m := b__law_guardable) T.d__law_guardable sc__law_guardable (fun _ _ _ _ _ _ us hl => match us, hl with | [_, _, _], _ => rfl) fun f cdv A outer s H E hr gx =>
    (mb_cons (ms_if ((mt_not ((mt_chain3 op_le op_le op_lt (me_int) (me_var 1) (me_var 2) ((me_callB call_lenAll cd_len rfl T.b_len (by decide +kernel) (ma_cons (me_var 0) ma_nil))))))) (mb_one (ms_ret (me_bl))) mb_nil)
    (mb_cons (ms_for gx (mi_range2 rfl T.b_range (ma_cons (me_var 1) (ma_cons ((me_add (me_var 2) (me_int))) ma_nil))) (mg_name gx 3) (mb_one (ms_if ((mt_nin gx ((me_sub_ix gx ((me_sub_ix gx (me_var 0) (me_var 3))) (me_int))) ((me_lst ((ma_cons (me_str) (ma_cons (me_str) (ma_cons (me_str) (ma_cons (me_str) (ma_cons (me_str) ma_nil)))))))))) (mb_one (ms_ret (me_bl))) mb_nil)))
    (mb_cons (ms_for gx (mi_seq (me_var 0)) (mg_name gx 4) (mb_one (ms_if ((mt_w (mw_and ((mt_eq gx ((me_sub_ix gx (me_var 4) (me_int))) (me_str))) ((mw_and1 ((mt_chain op_lt op_le (me_var 1) ((me_sub_ix gx (me_var 4) (me_int))) (me_var 2)))))))) (mb_one (ms_ret (me_bl))) mb_nil)))
    (mb_one (ms_ret (me_bl))))))
abbrev s__law_place : Stmt := topS 33
abbrev n__law_place : List Str := ["_law_place_here", "_law_span"]
theorem sc__law_place : FnScope n__law_place ["_law_place_here", "_law_span"] (defScope s__law_place) := ⟨rfl, rfl, rfl, by decide +kernel, rfl, by decide +kernel, by decide +kernel⟩
theorem ok__law_place (T : Txt P K mg w) : Fn P w K mg base "_law_place" 1 2 m__law_place :=
  fn_mk (N := n__law_place) (m := b__law_place) T.d__law_place sc__law_place (fun _ _ _ _ _ _ us hl => match us, hl with | [_, _], _ => rfl) fun f cdv A outer s H E hr gx =>
    (mb_one (ms_ret ((me_add ((me_add (me_var 0) ((me_callTy call_intAll cd_int rfl T.b_int (by decide +kernel) (ma_cons ((me_gt (me_var 0) ((me_sub_ix gx (me_var 1) (me_int))))) ma_nil))))) ((me_callTy call_intAll cd_int rfl T.b_int (by decide +kernel) (ma_cons ((me_gt (me_var 0) ((me_sub_ix gx (me_var 1) (me_int))))) ma_nil)))))))
abbrev s__law_code : Stmt := topS 34
abbrev n__law_code : List Str := ["_law_code_here", "_law_span", "_law_name", "_law_found", "_law_k", "_law_instruction"]
theorem sc__law_code : FnScope n__law_code ["_law_code_here", "_law_span", "_law_name"] (defScope s__law_code) := ⟨rfl, rfl, rfl, by decide +kernel, rfl, by decide +kernel, by decide +kernel⟩
theorem ok__law_code (T : Txt P K mg w) : Fn P w K mg base "_law_code" 2 3 m__law_code :=
  (fn_mk (N := n__law_code) (m := b__law_code) T.d__law_code sc__law_code (fun _ _ _ _ _ _ us hl => match us, hl with | [_, _, _], _ => rfl) fun f cdv A outer s H E hr gx =>
    (mb_cons (ms_if ((mt_is (me_var 1) (me_non))) (mb_one (ms_ret (me_var 0))) mb_nil)
    (mb_cons (ms_set gx 3 ((me_lstH (ma_nil))))
    (mb_cons (ms_for gx (mi_range1 rfl T.b_range (ma_cons ((me_callB call_lenAll cd_len rfl T.b_len (by decide +kernel) (ma_cons (me_var 0) ma_nil))) ma_nil)) (mg_name gx 4) (mb_cons (ms_if ((mt_eq gx (me_var 4) ((me_sub_ix gx (me_var 1) (me_int))))) (mb_one (ms_expr ((me_bm PySem.F.plainAttrs_list PySem.F.slot_list_append PySem.F.type_list_append mt_append md_append ty_lst (me_var 3) (ma_cons ((me_tup ((ma_cons (me_str) (ma_cons (me_var 2) ma_nil))))) ma_nil))))) mb_nil)
    (mb_cons (ms_set gx 5 ((me_sub_ix gx (me_var 0) (me_var 4))))
    (mb_cons (ms_if ((mt_eq gx ((me_sub_ix gx (me_var 5) (me_int))) (me_str))) (mb_one (ms_set gx 5 ((me_tup ((ma_cons (me_str) (ma_cons ((me_fn gx (ok__law_place T) (hr.mono (by decide)) rfl (ma_cons ((me_sub_ix gx (me_var 5) (me_int))) (ma_cons (me_var 1) ma_nil)))) (ma_cons ((me_sub_ix gx (me_var 5) (me_int))) ma_nil)))))))) mb_nil)
    (mb_cons (ms_expr ((me_bm PySem.F.plainAttrs_list PySem.F.slot_list_append PySem.F.type_list_append mt_append md_append ty_lst (me_var 3) (ma_cons (me_var 5) ma_nil))))
    (mb_one (ms_if ((mt_eq gx (me_var 4) ((me_sub_ix gx (me_var 1) (me_int))))) (mb_one (ms_expr ((me_bm PySem.F.plainAttrs_list PySem.F.slot_list_append PySem.F.type_list_append mt_append md_append ty_lst (me_var 3) (ma_cons ((me_tup ((ma_cons (me_str) (ma_cons (me_var 2) ma_nil))))) ma_nil))))) mb_nil)))))))
    (mb_one (ms_ret ((me_callTy call_tuple_of cd_tuple rfl T.b_tuple (by decide +kernel) (ma_cons (me_var 3) ma_nil))))))))).cut
abbrev s__law_guards : Stmt := topS 35
abbrev n__law_guards : List Str := ["_law_script", "_law_program", "_law_guards_here", "_law_k", "_law_cell_here", "_law_size", "_law_span"]
theorem sc__law_guards : FnScope n__law_guards ["_law_script", "_law_program"] (defScope s__law_guards) := ⟨rfl, rfl, rfl, by decide +kernel, rfl, by decide +kernel, by decide +kernel⟩
theorem ok__law_guards (T : Txt P K mg w) : Fn P w K mg base "_law_guards" 2 2 m__law_guards :=
  (fn_mk (N := n__law_guards) (m := b__law_guards) T.d__law_guards sc__law_guards (fun _ _ _ _ _ _ us hl => match us, hl with | [_, _], _ => rfl) fun f cdv A outer s H E hr gx =>
    (mb_cons (ms_set gx 2 ((me_lstH (ma_nil))))
    (mb_cons (ms_for gx (mi_range1 rfl T.b_range (ma_cons (me_int) ma_nil)) (mg_name gx 3) (mb_cons (ms_set gx 4 ((me_fn gx (ok__law_cell T) (hr.mono (by decide)) rfl (ma_cons (me_var 0) (ma_cons ((me_add (me_int) (me_var 3))) ma_nil)))))
    (mb_cons (ms_set gx 5 ((me_callB call_lenAll cd_len rfl T.b_len (by decide +kernel) (ma_cons ((me_sub_ix gx ((me_sub_ix gx (me_var 1) (me_int))) (me_var 3))) ma_nil))))
    (mb_cons (ms_set gx 6 ((me_tup ((ma_cons ((me_mod ((me_callTy call_intAll cd_int rfl T.b_int (by decide +kernel) (ma_cons ((me_fdiv (me_var 4) (me_int))) ma_nil))) (me_var 5))) (ma_cons ((me_mod ((me_callTy call_intAll cd_int rfl T.b_int (by decide +kernel) (ma_cons ((me_fdiv (me_var 4) (me_int))) ma_nil))) ((me_add (me_var 5) (me_int))))) ma_nil))))))
    (mb_one (ms_if ((mt_eq gx ((me_mod ((me_callTy call_intAll cd_int rfl T.b_int (by decide +kernel) (ma_cons (me_var 4) ma_nil))) (me_int))) (me_int))) (mb_one (ms_expr ((me_bm PySem.F.plainAttrs_list PySem.F.slot_list_append PySem.F.type_list_append mt_append md_append ty_lst (me_var 2) (ma_cons (me_non) ma_nil))))) (mb_one (ms_expr ((me_bm PySem.F.plainAttrs_list PySem.F.slot_list_append PySem.F.type_list_append mt_append md_append ty_lst (me_var 2) (ma_cons (me_var 6) ma_nil)))))))))))
    (mb_one (ms_ret ((me_callTy call_tuple_of cd_tuple rfl T.b_tuple (by decide +kernel) (ma_cons (me_var 2) ma_nil)))))))).cut
abbrev s__law_due : Stmt := topS 36
abbrev n__law_due : List Str := ["_law_program", "_law_guards_here", "_law_name", "_law_k", "_law_threads"]
theorem sc__law_due : FnScope n__law_due ["_law_program", "_law_guards_here", "_law_name"] (defScope s__law_due) := ⟨rfl, rfl, rfl, by decide +kernel, rfl, by decide +kernel, by decide +kernel⟩
theorem ok__law_due (T : Txt P K mg w) : Fn P w K mg base "_law_due" 3 3 m__law_due :=
  fn_mk (N := n__law_due) (m := b__law_due) T.d__law_due sc__law_due (fun _ _ _ _ _ _ us hl => match us, hl with | [_, _, _], _ => rfl) fun f cdv A outer s H E hr gx =>
    (mb_cons (ms_if ((mt_in gx (me_var 2) ((me_lst ((ma_cons (me_str) (ma_cons (me_str) (ma_cons (me_str) (ma_cons (me_str) (ma_cons (me_str) ma_nil)))))))))) (mb_one (ms_ret ((me_tup ((ma_cons (me_str) (ma_cons (me_str) ma_nil))))))) mb_nil)
    (mb_cons (ms_if ((mt_ge ((me_callB call_lenAll cd_len rfl T.b_len (by decide +kernel) (ma_cons ((me_sub_ix gx (me_var 0) (me_int))) ma_nil))) (me_int))) (mb_one (ms_ret ((me_tup ((ma_cons (me_str) (ma_cons (me_str) ma_nil))))))) mb_nil)
    (mb_cons (ms_if ((mt_ne gx ((me_callB call_lenAll cd_len rfl T.b_len (by decide +kernel) (ma_cons (me_var 1) ma_nil))) (me_int))) (mb_one (ms_ret ((me_tup ((ma_cons (me_str) (ma_cons (me_str) ma_nil))))))) mb_nil)
    (mb_cons (ms_for gx (mi_range1 rfl T.b_range (ma_cons (me_int) ma_nil)) (mg_name gx 3) (mb_one (ms_if ((mt_w (mw_and ((mt_isnt ((me_sub_ix gx (me_var 1) (me_var 3))) (me_non))) ((mw_and1 ((mt_not ((mt_b ((me_fn gx (ok__law_guardable T) (hr.mono (by decide)) rfl (ma_cons ((me_sub_ix gx ((me_sub_ix gx (me_var 0) (me_int))) (me_var 3))) (ma_cons ((me_sub_ix gx ((me_sub_ix gx (me_var 1) (me_var 3))) (me_int))) (ma_cons ((me_sub_ix gx ((me_sub_ix gx (me_var 1) (me_var 3))) (me_int))) ma_nil)))))))))))))) (mb_one (ms_ret ((me_tup ((ma_cons (me_str) (ma_cons (me_str) ma_nil))))))) mb_nil)))
    (mb_cons (ms_for gx (mi_range1 rfl T.b_range (ma_cons (me_int) ma_nil)) (mg_name gx 3) (mb_one (ms_if ((mt_w (mw_and ((mt_isnt ((me_sub_ix gx (me_var 1) (me_var 3))) (me_non))) ((mw_and1 ((mt_gt ((me_callB call_lenAll cd_len rfl T.b_len (by decide +kernel) (ma_cons ((me_sub_ix gx ((me_sub_ix gx (me_var 0) (me_int))) (me_var 3))) ma_nil))) (me_int)))))))) (mb_one (ms_ret ((me_tup ((ma_cons (me_str) (ma_cons (me_str) ma_nil))))))) mb_nil)))
    (mb_cons (ms_set gx 4 ((me_callTy call_tuple_of cd_tuple rfl T.b_tuple (by decide +kernel) (ma_cons ((me_lc gx 3 (mi_range1 rfl T.b_range (ma_cons (me_int) ma_nil)) (blkOk_by (N := n__law_due) (sc := defScope s__law_due) (by decide +kernel)) (fun _ _ _ _ _ => pg_name (i := 3) gx.nd rfl (Or.inl rfl)) (fun _ _ _ _ _ => mts_nil) (fun _ _ _ _ _ => (me_fn (gx.blk _ _ _ _ _) (ok__law_code T) (hr.mono (by decide)) rfl (ma_cons ((me_sub_ix (gx.blk _ _ _ _ _) ((me_sub_ix (gx.blk _ _ _ _ _) (me_var 0) (me_int))) (me_var 3))) (ma_cons ((me_sub_ix (gx.blk _ _ _ _ _) (me_var 1) (me_var 3))) (ma_cons (me_var 2) ma_nil))))))) ma_nil))))
    (mb_one (ms_ret ((me_tup ((ma_cons ((me_add ((me_sub_ix gx (me_var 0) (me_int))) ((me_tup ((ma_cons ((me_tup ((ma_cons (me_str) (ma_cons (me_var 2) ma_nil))))) ma_nil)))))) (ma_cons (me_var 4) ma_nil)))))))))))))
abbrev s__law_told : Stmt := topS 37
abbrev n__law_told : List Str := ["_law_program", "_law_guards_here", "_law_name", "e"]
theorem sc__law_told : FnScope n__law_told ["_law_program", "_law_guards_here", "_law_name"] (defScope s__law_told) := ⟨rfl, rfl, rfl, by decide +kernel, rfl, by decide +kernel, by decide +kernel⟩
theorem ok__law_told (T : Txt P K mg w) : Fn P w K mg base "_law_told" 6 3 m__law_told :=
  fn_mk (N := n__law_told) (m := b__law_told) T.d__law_told sc__law_told (fun _ _ _ _ _ _ us hl => match us, hl with | [_, _, _], _ => rfl) fun f cdv A outer s H E hr gx =>
    (mb_one (ms_try gx T.x_NoSuchPlace.choose_spec.choose_spec rfl rfl rfl rfl (fun _ _ _ gx => (mb_one (ms_ret ((me_fn gx (ok_guarded T) (hr.mono (by decide)) rfl (ma_cons (me_var 0) (ma_cons (me_var 1) (ma_cons (me_var 2) ma_nil)))))))) (su_ret2 sx_str (sx_fld T.x_NoSuchPlace.choose_spec.choose_spec))))
abbrev s_law : Stmt := topS 38
abbrev n_law : List Str := ["_law_script", "_law_program", "_law_names", "_law_guards_here", "_law_k", "_law_name"]
theorem sc_law : FnScope n_law ["_law_script"] (defScope s_law) := ⟨rfl, rfl, rfl, by decide +kernel, rfl, by decide +kernel, by decide +kernel⟩
theorem ok_law (T : Txt P K mg w) {f : Addr} {fd : FuncData} (F : Fun K "law" "law" s_law f fd) : FnOk P w K mg base (L2.CX P w) 7 f fd ["_law_script"] (spM K mg 1 m_law) :=
  fn_ok (N := n_law) (b := b_law) F sc_law fun cdv A outer s H E hr gx =>
    (mb_cons (ms_set gx 1 ((me_fn gx (ok__law_longer T) (hr.mono (by decide)) rfl (ma_cons (me_var 0) ma_nil))))
    (mb_cons (ms_if ((mt_eq gx ((me_mod ((me_callTy call_intAll cd_int rfl T.b_int (by decide +kernel) (ma_cons ((me_fn gx (ok__law_cell T) (hr.mono (by decide)) rfl (ma_cons (me_var 0) (ma_cons (me_int) ma_nil)))) ma_nil))) (me_int))) (me_int))) (mb_one (ms_set gx 1 ((me_tup ((ma_cons ((me_fn0 gx (ok__law_things T) (hr.mono (by decide)) rfl ma_nil)) (ma_cons ((me_sub_ix gx (me_var 1) (me_int))) ma_nil))))))) mb_nil)
    (mb_cons (ms_set gx 2 ((me_lst ((ma_cons (me_str) (ma_cons (me_str) (ma_cons (me_str) (ma_cons (me_str) (ma_cons (me_str) (ma_cons (me_str) (ma_cons (me_str) ma_nil)))))))))))
    (mb_cons (ms_set gx 3 ((me_fn gx (ok__law_guards T) (hr.mono (by decide)) rfl (ma_cons (me_var 0) (ma_cons (me_var 1) ma_nil)))))
    (mb_cons (ms_if ((mt_eq gx ((me_mod ((me_callTy call_intAll cd_int rfl T.b_int (by decide +kernel) (ma_cons ((me_fn gx (ok__law_cell T) (hr.mono (by decide)) rfl (ma_cons (me_var 0) (ma_cons (me_int) ma_nil)))) ma_nil))) (me_int))) (me_int))) (mb_one (ms_set gx 3 ((me_sl (me_var 3) (mo_none) ((mo_some (me_int))))))) mb_nil)
    (mb_cons (ms_for gx (mi_range2 rfl T.b_range (ma_cons (me_int) (ma_cons (me_int) ma_nil))) (mg_name gx 4) (mb_cons (ms_set gx 5 ((me_sub_ix gx (me_var 2) ((me_mod ((me_callTy call_intAll cd_int rfl T.b_int (by decide +kernel) (ma_cons ((me_fn gx (ok__law_cell T) (hr.mono (by decide)) rfl (ma_cons (me_var 0) (ma_cons (me_var 4) ma_nil)))) ma_nil))) (me_int))))))
    (mb_one (ms_if ((mt_ne gx ((me_fn gx (ok__law_told T) (hr.mono (by decide)) rfl (ma_cons (me_var 1) (ma_cons (me_var 3) (ma_cons (me_var 5) ma_nil))))) ((me_fn gx (ok__law_due T) (hr.mono (by decide)) rfl (ma_cons (me_var 1) (ma_cons (me_var 3) (ma_cons (me_var 5) ma_nil))))))) (mb_one (ms_ret (me_bl))) mb_nil))))
    (mb_one (ms_ret (me_bl)))))))))
end
end G_k53

namespace G_k53
open PySem PySem.Spec PyProof.Rows L2 Ev
def c0 (ns : List Int) (k : Nat) : Int := (ns[k]?).getD 0
theorem cell_run (ns : List Int) (k : Int) (h : Hh) (h0 : 0 ≤ k) : m__law_cell [.scr ns, .int k] h = .ok (.int (c0 ns k.toNat)) h := by
  unfold c0
  by_cases hk : k < ns.length
  · have e : atI ns k = some ((ns[k.toNat]?).getD 0) := atI_nn h0 (by rw [List.getElem?_eq_getElem (by omega)]; rfl)
    simp [m__law_cell, defF_run, b__law_cell, hk, e]
  · have e : (ns[k.toNat]?).getD 0 = 0 := by rw [List.getElem?_eq_none (by omega)]; rfl
    simp [m__law_cell, defF_run, b__law_cell, hk, e]
/-- the digits of a huge cell -/
def dgA (most : Nat) (c : Int) : Nat → List Int × Int
  | 0 => ([], c)
  | i + 1 => if 0 < (dgA most c i).2 ∧ (dgA most c i).1.length < most then ((dgA most c i).1 ++ [(dgA most c i).2 % 1000], (dgA most c i).2 / 1000) else dgA most c i
/-- the digits that a small cell draws -/
def dgB (c k : Int) : Nat → List Int × Int
  | 0 => ([], (c * 48271 + k * 69621 + 11) % 2147483647)
  | i + 1 => ((dgB c k i).1 ++ [(((dgB c k i).2 * 16807 + 7 * (i : Int) + 1) % 2147483647 / 997) % 1000], ((dgB c k i).2 * 16807 + 7 * (i : Int) + 1) % 2147483647)
def ab (c : Int) : Int := if c < 0 then -1 - c else c
def digits (c k : Int) (most : Nat) : List Int := if 1000000000000000000 ≤ ab c then (dgA most (ab c) 60).1 else (dgB (ab c) k most).1
theorem dgA_len (most : Nat) (c : Int) (i : Nat) : (dgA most c i).1.length ≤ i := by
  induction i with
  | zero => exact Nat.le_refl _
  | succ i ih =>
    unfold dgA
    split
    · simp; omega
    · omega
theorem dgB_len (c k : Int) (i : Nat) : (dgB c k i).1.length = i := by
  induction i with
  | zero => rfl
  | succ i ih => unfold dgB; simp [ih]
theorem dgA_ok (most : Nat) (c : Int) (i : Nat) : ∀ d ∈ (dgA most c i).1, 0 ≤ d ∧ d < 1000 := by
  induction i with
  | zero => intro d hd; cases hd
  | succ i ih =>
    intro d hd
    unfold dgA at hd
    split at hd
    · rcases List.mem_append.mp hd with hd | hd
      · exact ih d hd
      · have := List.mem_singleton.mp hd; omega
    · exact ih d hd
theorem dgB_ok (c k : Int) (i : Nat) : ∀ d ∈ (dgB c k i).1, 0 ≤ d ∧ d < 1000 := by
  induction i with
  | zero => intro d hd; cases hd
  | succ i ih =>
    intro d hd
    unfold dgB at hd
    rcases List.mem_append.mp hd with hd | hd
    · exact ih d hd
    · have := List.mem_singleton.mp hd; omega
theorem digits_ok (c k : Int) (most : Nat) : ∀ d ∈ digits c k most, 0 ≤ d ∧ d < 1000 := by
  unfold digits
  split
  · exact dgA_ok _ _ _
  · exact dgB_ok _ _ _
theorem digits_len (c k : Int) (most : Nat) : (digits c k most).length ≤ 60 ∨ (digits c k most).length ≤ most := by
  unfold digits
  split
  · exact .inl (dgA_len _ _ _)
  · exact .inr (Nat.le_of_eq (dgB_len _ _ _))
theorem loopA (most : Nat) (c k : Int) (h : Hh) (v5 : Option D) : ∃ v4 v5', loopS (fun _ => True) (gNm 4) x1__law_digits (rngL 0 60) [some (.int c), some (.int k), some (.int most), some (.ref h.length), none, v5] (h ++ [.lst []]) = .nx [some (.int (dgA most c 60).2), some (.int k), some (.int most), some (.ref h.length), v4, v5'] (h ++ [.lst ((dgA most c 60).1.map D.int)]) := by
  obtain ⟨ρ', h', e, v, w, rfl, rfl⟩ := loop_rng (x := x1__law_digits) (g := gNm 4) (lo := 0) (n := 60)
    (ρ := [some (.int c), some (.int k), some (.int most), some (.ref h.length), none, v5]) (h := h ++ [.lst []])
    (fun i ρ h' => ∃ v w, ρ = [some (.int (dgA most c i).2), some (.int k), some (.int most), some (.ref h.length), v, w] ∧ h' = h ++ [.lst ((dgA most c i).1.map D.int)])
    ⟨none, v5, rfl, rfl⟩ (by
      rintro i ρ h1 hi ⟨v, w, rfl, rfl⟩
      refine ⟨_, rfl, ?_⟩
      have hz : (dgA most c i).1.length < sizeLine := by have := dgA_len most c i; rw [sizeLine_eq]; omega
      refine ⟨_, _, .inl ?_, some (.int i), w, rfl, rfl⟩
      rw [dgA]
      by_cases h1 : 0 < (dgA most c i).2
      · by_cases h2 : (dgA most c i).1.length < most
        · simp [x1__law_digits, h1, h2, hz, modD_int, fdivD_int]
        · simp [x1__law_digits, h1, h2]
      · simp [x1__law_digits, h1])
  exact ⟨v, w, e⟩
theorem loopB (most : Nat) (c k : Int) (h : Hh) (hm : most ≤ 1000) : ∃ v4 v5', loopS (fun _ => True) (gNm 4) x2__law_digits (rngL 0 most) [some (.int c), some (.int k), some (.int most), some (.ref h.length), none, some (.int ((c * 48271 + k * 69621 + 11) % 2147483647))] (h ++ [.lst []]) = .nx [some (.int c), some (.int k), some (.int most), some (.ref h.length), v4, v5'] (h ++ [.lst ((dgB c k most).1.map D.int)]) := by
  obtain ⟨ρ', h', e, v, rfl, rfl⟩ := loop_rng (x := x2__law_digits) (g := gNm 4) (lo := 0) (n := most)
    (ρ := [some (.int c), some (.int k), some (.int most), some (.ref h.length), none, some (.int ((c * 48271 + k * 69621 + 11) % 2147483647))]) (h := h ++ [.lst []])
    (fun i ρ h' => ∃ v, ρ = [some (.int c), some (.int k), some (.int most), some (.ref h.length), v, some (.int (dgB c k i).2)] ∧ h' = h ++ [.lst ((dgB c k i).1.map D.int)])
    ⟨none, rfl, rfl⟩ (by
      rintro i ρ h1 hi ⟨v, rfl, rfl⟩
      refine ⟨_, rfl, ?_⟩
      have hz : (dgB c k i).1.length < sizeLine := by have := dgB_len c k i; rw [sizeLine_eq]; omega
      refine ⟨_, _, .inl ?_, some (.int i), rfl, rfl⟩
      rw [dgB]
      simp [x2__law_digits, hz, modD_int, fdivD_int, mulD_int])
  exact ⟨v, _, e⟩
theorem digits_run (c k : Int) (most : Nat) (h : Hh) (hm : most ≤ 1000) : m__law_digits [.int c, .int k, .int most] h = .ok (.ref h.length) (h ++ [.lst ((digits c k most).map D.int)]) := by
  have hi : i62 (most : Int) := by unfold i62; omega
  have hj : i62 (60 : Int) := by unfold i62; omega
  obtain ⟨a, b, eA⟩ := loopA most (ab c) k h none
  obtain ⟨a', b', eB⟩ := loopB most (ab c) k h hm
  have hp : powD (.int 10) (.int 18) (h ++ [.lst []]) = .ok (.int 1000000000000000000) (h ++ [.lst []]) := powD_int _ _ (by decide)
  unfold digits
  unfold ab at eA eB ⊢
  by_cases h0 : c < 0
  · simp only [h0, if_true] at eA eB ⊢
    by_cases h1 : 1000000000000000000 ≤ -1 - c
    · simp [m__law_digits, defF_run, b__law_digits, h0, h1, hp, rngD_1 hj, eA]
    · simp [m__law_digits, defF_run, b__law_digits, h0, h1, hp, rngD_1 hi, mulD_int, modD_int, eB]
  · simp only [h0, if_false] at eA eB ⊢
    by_cases h1 : 1000000000000000000 ≤ c
    · simp [m__law_digits, defF_run, b__law_digits, h0, h1, hp, rngD_1 hj, eA]
    · simp [m__law_digits, defF_run, b__law_digits, h0, h1, hp, rngD_1 hi, mulD_int, modD_int, eB]
def padded (c k : Int) : List Int := digits c k 20 ++ ivs 0 20
theorem padded_ok (c k : Int) : ∀ d ∈ padded c k, 0 ≤ d ∧ d < 1000 := by
  intro d hd
  rcases List.mem_append.mp hd with hd | hd
  · exact digits_ok _ _ _ d hd
  · have := (mem_ivs _ _ _).mp hd; omega
theorem padded_len (c k : Int) : 20 ≤ (padded c k).length ∧ (padded c k).length ≤ 80 := by
  have := digits_len c k 20
  simp [padded]
  omega
theorem padded_run (c k : Int) (h : Hh) : m__law_padded [.int c, .int k] h = .ok (.lst ((padded c k).map D.int)) h := by
  unfold m__law_padded
  have hi : i62 (20 : Int) := by unfold i62; omega
  have hd : m__law_digits [.int c, .int k, .int 20] h = .ok (.ref h.length) (h ++ [.lst ((digits c k 20).map D.int)]) := digits_run c k 20 h (by omega)
  have hl := digits_len c k 20
  obtain ⟨ρ', h', e, v, rfl, rfl⟩ := loop_rng (x := x1__law_padded) (g := gNm 3) (lo := 0) (n := 20)
    (ρ := [some (.int c), some (.int k), some (.ref h.length), none]) (h := h ++ [.lst ((digits c k 20).map D.int)])
    (fun i ρ h' => ∃ v, ρ = [some (.int c), some (.int k), some (.ref h.length), v] ∧ h' = h ++ [.lst ((digits c k 20 ++ ivs 0 i).map D.int)])
    ⟨none, rfl, by simp [ivs]⟩ (by
      rintro i ρ h1 hi ⟨v, rfl, rfl⟩
      refine ⟨_, rfl, ?_⟩
      have hz : (digits c k 20).length + i < sizeLine := by rw [sizeLine_eq]; omega
      refine ⟨_, _, .inl ?_, some (.int i), rfl, rfl⟩
      have : ivs 0 (i + 1) = ivs 0 i ++ [(i : Int)] := by simp [ivs, List.range_succ]
      rw [this]
      simp [x1__law_padded, hz])
  refine cut_lst (g := [.lst ((padded c k).map D.int)]) (n := h.length) ?_ (Nat.le_refl _) (by simp) (belows_map _ _ _ fun _ _ => rfl)
  simp [padded] at e ⊢
  simp [defF_run, b__law_padded, hd, rngD_1 hi, e]
/-- expressions -/
inductive Tree where
  | num (n : Int) | reg (r : Str) | op (s : Str) (a b : Tree) | nt (x : Tree) | ng (x : Tree)
deriving DecidableEq
def encTree : Tree → D
  | .num n => .tup [.str "num", .int n]
  | .reg r => .tup [.str "reg", .str r]
  | .op s a b => .tup [.str "op", .str s, encTree a, encTree b]
  | .nt x => .tup [.str "not", encTree x]
  | .ng x => .tup [.str "neg", encTree x]
/-- instructions -/
inductive Ins where
  | lt (r : Str) (e : Tree) | get (r x : Str) | put (x : Str) (e : Tree) | add (x : Str) (e : Tree) | lock (x : Str) | unlock (x : Str) | wait (x : Str) | notify (x : Str) | notifyall (x : Str)
  | send (x : Str) (e : Tree) | take (r x : Str) | check (e : Tree) | go (pc : Int) (e : Option Tree) | begn | nd | stop
def encOT : Option Tree → D
  | none => .non
  | some e => encTree e
def encIns : Ins → D
  | .lt r e => .tup [.str "let", .str r, encTree e]
  | .get r x => .tup [.str "get", .str r, .str x]
  | .put x e => .tup [.str "put", .str x, encTree e]
  | .add x e => .tup [.str "add", .str x, encTree e]
  | .lock x => .tup [.str "lock", .str x]
  | .unlock x => .tup [.str "unlock", .str x]
  | .wait x => .tup [.str "wait", .str x]
  | .notify x => .tup [.str "notify", .str x]
  | .notifyall x => .tup [.str "notifyall", .str x]
  | .send x e => .tup [.str "send", .str x, encTree e]
  | .take r x => .tup [.str "take", .str r, .str x]
  | .check e => .tup [.str "check", encTree e]
  | .go pc e => .tup [.str "go", .int pc, encOT e]
  | .begn => .tup [.str "begin"]
  | .nd => .tup [.str "end"]
  | .stop => .tup [.str "stop"]
def kindI : Ins → String
  | .lt _ _ => "let" | .get _ _ => "get" | .put _ _ => "put" | .add _ _ => "add" | .lock _ => "lock" | .unlock _ => "unlock" | .wait _ => "wait" | .notify _ => "notify" | .notifyall _ => "notifyall"
  | .send _ _ => "send" | .take _ _ => "take" | .check _ => "check" | .go _ _ => "go" | .begn => "begin" | .nd => "end" | .stop => "stop"
theorem kindI_run (i : Ins) (h : Hh) : ixD (encIns i) (.int 0) h = .ok (.str (kindI i)) h := by cases i <;> simp [encIns, kindI]
def thingI : Ins → Option Str
  | .get _ x => some x | .put x _ => some x | .add x _ => some x | .lock x => some x | .unlock x => some x | .wait x => some x | .notify x => some x | .notifyall x => some x
  | .send x _ => some x | .take _ x => some x | _ => none
def encOS : Option Str → D
  | none => .non
  | some x => .str x
instance : Inhabited Ins := ⟨.stop⟩
def gi (C : List Ins) (k : Nat) : Ins := (C[k]?).getD default
theorem gi_run (C : List Ins) (k : Nat) (h : k < C.length) : atI (C.map encIns) (k : Int) = some (encIns (gi C k)) := atI_map encIns C k (by omega) (by omega)
def kinds5 : List String := ["let", "get", "put", "add", "check"]
theorem kinds5_T (s : String) (h : Hh) : ninD (.str (Str.ofString s)) (.tup [.str "let", .str "get", .str "put", .str "add", .str "check"]) h = .ok (.bl (!decide (s ∈ kinds5))) h := by
  have := ninD_strsT (h := h) (kinds5.map Str.ofString) (Str.ofString s)
  refine Eq.trans this ?_
  have e : decide (Str.ofString s ∈ kinds5.map Str.ofString) = decide (s ∈ kinds5) := by
    rw [Bool.eq_iff_iff, decide_eq_true_eq, decide_eq_true_eq, List.mem_map]
    constructor
    · rintro ⟨t, h1, h2⟩; rw [ofString_inj] at h2; rw [← h2]; exact h1
    · intro h; exact ⟨s, h, rfl⟩
  rw [e]
theorem kinds5_L (s : String) (h : Hh) : ninD (.str (Str.ofString s)) (.lst [.str "let", .str "get", .str "put", .str "add", .str "check"]) h = .ok (.bl (!decide (s ∈ kinds5))) h := by
  have := ninD_strs (h := h) (kinds5.map Str.ofString) (Str.ofString s)
  refine Eq.trans this ?_
  have e : decide (Str.ofString s ∈ kinds5.map Str.ofString) = decide (s ∈ kinds5) := by
    rw [Bool.eq_iff_iff, decide_eq_true_eq, decide_eq_true_eq, List.mem_map]
    constructor
    · rintro ⟨t, h1, h2⟩; rw [ofString_inj] at h2; rw [← h2]; exact h1
    · intro h; exact ⟨s, h, rfl⟩
  rw [e]
def goIn (f l : Nat) : Ins → Bool
  | .go pc _ => decide ((f : Int) < pc) && decide (pc ≤ l)
  | _ => false
def kOk (C : List Ins) (k : Nat) : Bool := decide (kindI (gi C k) ∈ kinds5)
/-- the span from f to l can be guarded -/
def guardB (C : List Ins) (f l : Nat) : Bool := decide (f ≤ l) && decide (l < C.length) && ((List.range (l + 1 - f)).all fun k => kOk C (f + k)) && (C.all fun i => !goIn f l i)
theorem rng_map (f n : Nat) : rngL (f : Int) n = (List.range n).map fun k : Nat => D.int ((f : Int) + (k : Int)) := by
  rw [rngL_ivs]
  unfold ivs
  rw [List.map_map]
  rfl
theorem guard_run (C : List Ins) (hC : C.length < 1000) (f l : Nat) (hl : l < 1000) (hf : f < 1000) (h : Hh) : m_can_be_guarded [.tup (C.map encIns), .int f, .int l] h = .ok (.bl (guardB C f l)) h := by
  by_cases h1 : f ≤ l
  · by_cases h2 : l < C.length
    · have hi1 : i62 (f : Int) := by unfold i62; omega
      have hi2 : i62 ((l : Int) + 1) := by unfold i62; omega
      have hn : ((l : Int) + 1 - f).toNat = l + 1 - f := by omega
      have g1 : ¬ (l : Int) < f := by omega
      have g2 : ¬ (C.length : Int) ≤ l := by omega
      have g0 : ¬ (f : Int) < 0 := by omega
      rcases lp_all (x := x1_can_be_guarded) (g := gNm 3) (f := fun k : Nat => D.int ((f : Int) + (k : Int))) (l := List.range (l + 1 - f)) (h := h) (ρ := [some (.tup (C.map encIns)), some (.int f), some (.int l), none, none])
        (fun ρ => ∃ v, ρ = [some (.tup (C.map encIns)), some (.int f), some (.int l), v, none]) (fun k => kOk C (f + k)) (.bl false) ⟨none, rfl⟩ (by
          rintro k hk ρ ⟨v, rfl⟩
          refine ⟨_, rfl, ?_⟩
          have hk := List.mem_range.mp hk
          have e1 := gi_run C (f + k) (by omega)
          have e2 := kindI_run (gi C (f + k))
          have e3 := kinds5_T (kindI (gi C (f + k)))
          unfold kOk
          simp at e1
          by_cases hc : kindI (gi C (f + k)) ∈ kinds5
          · simp [x1_can_be_guarded, c_KINDS, e1, e2, e3, hc]
          · simp [x1_can_be_guarded, c_KINDS, e1, e2, e3, hc]) with ⟨e, ρ', e1, v, rfl⟩ | ⟨e, e1⟩
      · rcases lp_all (x := x2_can_be_guarded) (g := gNm 4) (f := encIns) (l := C) (h := h) (ρ := [some (.tup (C.map encIns)), some (.int f), some (.int l), v, none])
          (fun ρ => ∃ w, ρ = [some (.tup (C.map encIns)), some (.int f), some (.int l), v, w]) (fun i => !goIn f l i) (.bl false) ⟨none, rfl⟩ (by
            rintro i hi ρ ⟨w, rfl⟩
            refine ⟨_, rfl, ?_⟩
            cases i with
            | go pc e =>
              by_cases q1 : (f : Int) < pc
              · by_cases q2 : pc ≤ l
                · simp [x2_can_be_guarded, encIns, goIn, q1, q2]
                · simp [x2_can_be_guarded, encIns, goIn, q1, q2]
              · simp [x2_can_be_guarded, encIns, goIn, q1]
            | _ => simp [x2_can_be_guarded, encIns, goIn]) with ⟨e', ρ', e2, w, rfl⟩ | ⟨e', e2⟩
        · have : guardB C f l = true := by simp only [guardB, e, e', h1, h2, decide_true, Bool.and_self]
          rw [this]
          simp [m_can_be_guarded, defF_run, b_can_be_guarded, g0, g1, g2, rngD_2 hi1 hi2, hn, rng_map, e1, e2]
        · have : guardB C f l = false := by simp only [guardB, e', Bool.and_false]
          rw [this]
          simp [m_can_be_guarded, defF_run, b_can_be_guarded, g0, g1, g2, rngD_2 hi1 hi2, hn, rng_map, e1, e2]
      · have : guardB C f l = false := by simp only [guardB, e, Bool.and_false, Bool.false_and]
        rw [this]
        simp [m_can_be_guarded, defF_run, b_can_be_guarded, g0, g1, g2, rngD_2 hi1 hi2, hn, rng_map, e1]
    · have : guardB C f l = false := by simp [guardB, h2]
      rw [this]
      have g1 : ¬ (l : Int) < f := by omega
      have g2 : (C.length : Int) ≤ l := by omega
      simp [m_can_be_guarded, defF_run, b_can_be_guarded, g1, g2]
  · have : guardB C f l = false := by simp [guardB, h1]
    rw [this]
    have g1 : (l : Int) < f := by omega
    simp [m_can_be_guarded, defF_run, b_can_be_guarded, g1]
theorem lguard_run (C : List Ins) (hC : C.length < 1000) (f l : Nat) (hl : l < 1000) (hf : f < 1000) (h : Hh) : m__law_guardable [.tup (C.map encIns), .int f, .int l] h = .ok (.bl (guardB C f l)) h := by
  by_cases h1 : f ≤ l
  · by_cases h2 : l < C.length
    · have hi1 : i62 (f : Int) := by unfold i62; omega
      have hi2 : i62 ((l : Int) + 1) := by unfold i62; omega
      have hn : ((l : Int) + 1 - f).toNat = l + 1 - f := by omega
      have g1 : (f : Int) ≤ l := by omega
      have g2 : (l : Int) < C.length := by omega
      have g0 : (0 : Int) ≤ f := by omega
      rcases lp_all (x := x1__law_guardable) (g := gNm 3) (f := fun k : Nat => D.int ((f : Int) + (k : Int))) (l := List.range (l + 1 - f)) (h := h) (ρ := [some (.tup (C.map encIns)), some (.int f), some (.int l), none, none])
        (fun ρ => ∃ v, ρ = [some (.tup (C.map encIns)), some (.int f), some (.int l), v, none]) (fun k => kOk C (f + k)) (.bl false) ⟨none, rfl⟩ (by
          rintro k hk ρ ⟨v, rfl⟩
          refine ⟨_, rfl, ?_⟩
          have hk := List.mem_range.mp hk
          have e1 := gi_run C (f + k) (by omega)
          have e2 := kindI_run (gi C (f + k))
          have e3 := kinds5_L (kindI (gi C (f + k)))
          unfold kOk
          simp at e1
          by_cases hc : kindI (gi C (f + k)) ∈ kinds5
          · simp [x1__law_guardable, e1, e2, e3, hc]
          · simp [x1__law_guardable, e1, e2, e3, hc]) with ⟨e, ρ', e1, v, rfl⟩ | ⟨e, e1⟩
      · rcases lp_all (x := x2__law_guardable) (g := gNm 4) (f := encIns) (l := C) (h := h) (ρ := [some (.tup (C.map encIns)), some (.int f), some (.int l), v, none])
          (fun ρ => ∃ w, ρ = [some (.tup (C.map encIns)), some (.int f), some (.int l), v, w]) (fun i => !goIn f l i) (.bl false) ⟨none, rfl⟩ (by
            rintro i hi ρ ⟨w, rfl⟩
            refine ⟨_, rfl, ?_⟩
            cases i with
            | go pc e =>
              by_cases q1 : (f : Int) < pc
              · by_cases q2 : pc ≤ l
                · simp [x2__law_guardable, encIns, goIn, q1, q2]
                · simp [x2__law_guardable, encIns, goIn, q1, q2]
              · simp [x2__law_guardable, encIns, goIn, q1]
            | _ => simp [x2__law_guardable, encIns, goIn]) with ⟨e', ρ', e2, w, rfl⟩ | ⟨e', e2⟩
        · have : guardB C f l = true := by simp only [guardB, e, e', h1, h2, decide_true, Bool.and_self]
          rw [this]
          simp [m__law_guardable, defF_run, b__law_guardable, g0, g1, g2, rngD_2 hi1 hi2, hn, rng_map, e1, e2]
        · have : guardB C f l = false := by simp only [guardB, e', Bool.and_false]
          rw [this]
          simp [m__law_guardable, defF_run, b__law_guardable, g0, g1, g2, rngD_2 hi1 hi2, hn, rng_map, e1, e2]
      · have : guardB C f l = false := by simp only [guardB, e, Bool.and_false, Bool.false_and]
        rw [this]
        simp [m__law_guardable, defF_run, b__law_guardable, g0, g1, g2, rngD_2 hi1 hi2, hn, rng_map, e1]
    · have : guardB C f l = false := by simp [guardB, h2]
      rw [this]
      have g1 : (f : Int) ≤ l := by omega
      have g2 : ¬ (l : Int) < C.length := by omega
      simp [m__law_guardable, defF_run, b__law_guardable, g1, g2]
  · have : guardB C f l = false := by simp [guardB, h1]
    rw [this]
    have g1 : ¬ (f : Int) ≤ l := by omega
    simp [m__law_guardable, defF_run, b__law_guardable, g1]
def addT : Tree := .op "+" (.reg "a") (.num 1)
def lessT : Tree := .op "<" (.reg "a") (.num 2)
def pieces (pc : Int) : List (List Ins) := [[.get "a" "x", .put "x" addT], [.add "x" (.num 1)], [.put "x" (.num 2)], [.get "b" "y"], [.lock "m", .add "y" (.num 1), .unlock "m"], [.lock "m", .lock "n"], [.lock "n", .lock "m"], [.lock "m", .wait "w", .unlock "m"], [.notify "w"], [.lock "m", .notifyall "w", .unlock "m"], [.send "q" (.num 3)], [.take "a" "q"], [.get "a" "x", .check lessT], [.begn, .get "a" "x", .put "y" addT, .nd], [.unlock "m"], [.add "y" (.num 99)], [.lt "a" addT], [.go (pc + 2) (some (.reg "a")), .put "y" addT], [.begn, .add "x" (.num 1), .add "y" (.num 1), .nd], [.put "y" (.reg "a")], [.stop], [.go 0 none], [.go 0 (some (.reg "a"))], [.go 1 (some (.num 1)), .get "a" "x"]]
def pieceAt (d pc : Int) : List Ins := ((pieces pc)[(d % 24).toNat]?).getD []
theorem piece_run (d pc : Int) (h : Hh) : m__law_piece [.int d, .int pc] h = .ok (.lst ((pieceAt d pc).map encIns)) h := by
  obtain ⟨i, hi, hi2⟩ : ∃ i : Nat, d % 24 = (i : Int) ∧ i < 24 := ⟨(d % 24).toNat, by omega, by omega⟩
  have e1 : atI ((pieces pc).map fun p => D.lst (p.map encIns)) (d % 24) = some (.lst ((pieceAt d pc).map encIns)) := by
    rw [hi, atI_natE, List.getElem?_map]
    unfold pieceAt
    have : (pieces pc).length = 24 := rfl
    rw [hi, Int.toNat_natCast, List.getElem?_eq_getElem (by omega)]
    rfl
  simp [pieces, encIns, encTree, encOT, addT, lessT] at e1
  simp [m__law_piece, defF_run, b__law_piece, modD_int, e1]
def thD : D := .tup [.tup [.str "lock", .str "m"], .tup [.str "var", .str "x", .int 0], .tup [.str "cond", .str "w", .str "m"], .tup [.str "queue", .str "q", .int 1], .tup [.str "var", .str "y", .int 1], .tup [.str "lock", .str "n"]]
theorem things_run (h : Hh) : m__law_things [] h = .ok thD h := by
  simp [m__law_things, defF_run, b__law_things, thD]
theorem pieceAt_len (d pc : Int) : (pieceAt d pc).length ≤ 4 := by
  unfold pieceAt
  cases e : (pieces pc)[(d % 24).toNat]? with
  | none => simp
  | some p =>
    have : p ∈ pieces pc := List.mem_of_getElem? e
    simp only [pieces, List.mem_cons, List.not_mem_nil, or_false] at this
    rcases this with rfl | rfl | rfl | rfl | rfl | rfl | rfl | rfl | rfl | rfl | rfl | rfl | rfl | rfl | rfl | rfl | rfl | rfl | rfl | rfl | rfl | rfl | rfl | rfl <;> simp
def encCode (C : List Ins) : D := .tup (C.map encIns)
theorem below_tree (n : Nat) : ∀ t : Tree, below n (encTree t) = true
  | .num _ => rfl
  | .reg _ => rfl
  | .op s a b => by simp [encTree, below_tree n a, below_tree n b]
  | .nt x => by simp [encTree, below_tree n x]
  | .ng x => by simp [encTree, below_tree n x]
theorem below_ins (n : Nat) (i : Ins) : below n (encIns i) = true := by
  cases i <;> simp [encIns, below_tree]
  rename_i e
  cases e with
  | none => rfl
  | some e => exact below_tree n e
/-- tokens, plainly -/
def digC : List Nat := [48, 49, 50, 51, 52, 53, 54, 55, 56, 57]
def letC : List Nat := [97, 98, 99, 100, 101, 102, 103, 104, 105, 106, 107, 108, 109, 110, 111, 112, 113, 114, 115, 116, 117, 118, 119, 120, 121, 122]
def sigC : List Nat := [43, 45, 42, 61, 60, 40, 41]
theorem lit_dig : ("0123456789" : Str) = T digC := by decide +kernel
theorem lit_let : ("abcdefghijklmnopqrstuvwxyz" : Str) = T letC := by decide +kernel
theorem lit_sig : ("+-*=<()" : Str) = T sigC := by decide +kernel
theorem lit_sp : (" " : Str) = T [32] := by decide +kernel
theorem lit_0 : ("0" : Str) = T [48] := by decide +kernel
def runOf (c : Nat) (l : List Nat) : List Nat := if c ∈ digC then l.takeWhile (fun x => decide (x ∈ digC)) else if c ∈ letC then l.takeWhile (fun x => decide (x ∈ letC ++ digC)) else [c]
def kindOf (c : Nat) (r : List Nat) : Str :=
  if c ∈ digC then (if 2 < r.length ∨ (r.length = 2 ∧ c = 48) then "bad" else "number")
  else if c ∈ letC then (if 8 < r.length then "bad" else "word") else if c ∈ sigC then "sign" else "bad"
theorem runOf_cons (c : Nat) (l : List Nat) : ∃ m, runOf c (c :: l) = c :: m ∧ m.length ≤ l.length := by
  unfold runOf
  split
  · rename_i hc
    rw [List.takeWhile_cons_of_pos (p := fun x => decide (x ∈ digC)) (decide_eq_true hc)]
    exact ⟨_, rfl, (List.takeWhile_sublist _).length_le⟩
  · split
    · rename_i hc
      rw [List.takeWhile_cons_of_pos (p := fun x => decide (x ∈ letC ++ digC)) (decide_eq_true (List.mem_append_left _ hc))]
      exact ⟨_, rfl, (List.takeWhile_sublist _).length_le⟩
    · exact ⟨[], rfl, by simp⟩
def toks : Nat → List Nat → List (Str × List Nat)
  | _, [] => []
  | 0, _ => []
  | n + 1, c :: l => if c = 32 then toks n l else (kindOf c (runOf c (c :: l)), runOf c (c :: l)) :: toks n ((c :: l).drop (runOf c (c :: l)).length)
theorem toks_fuel : ∀ (n m : Nat) (l : List Nat), l.length ≤ n → l.length ≤ m → toks n l = toks m l
  | 0, 0, [], _, _ => rfl
  | 0, m + 1, [], _, _ => rfl
  | n + 1, 0, [], _, _ => rfl
  | n + 1, m + 1, [], _, _ => rfl
  | 0, _, c :: l, h, _ => by simp at h
  | _ + 1, 0, c :: l, _, h => by simp at h
  | n + 1, m + 1, c :: l, h1, h2 => by
    simp only [List.length_cons] at h1 h2
    unfold toks
    split
    · exact toks_fuel n m l (by omega) (by omega)
    · obtain ⟨x, e, hx⟩ := runOf_cons c l
      rw [e]
      have : (List.drop (c :: x).length (c :: l)).length ≤ l.length := by rw [List.length_drop]; simp
      rw [toks_fuel n m _ (by omega) (by omega)]
def toksOf (l : List Nat) : List (Str × List Nat) := toks l.length l
theorem toksOf_sp (l : List Nat) : toksOf (32 :: l) = toksOf l := rfl
theorem toksOf_cons (c : Nat) (l : List Nat) (hc : c ≠ 32) : toksOf (c :: l) = (kindOf c (runOf c (c :: l)), runOf c (c :: l)) :: toksOf ((c :: l).drop (runOf c (c :: l)).length) := by
  show toks (l.length + 1) (c :: l) = _
  unfold toks
  rw [if_neg hc]
  obtain ⟨x, e, hx⟩ := runOf_cons c l
  rw [e]
  have : (List.drop (c :: x).length (c :: l)).length ≤ l.length := by rw [List.length_drop]; simp
  unfold toksOf
  rw [toks_fuel l.length _ _ this (Nat.le_refl _)]
def encTok (t : Str × List Nat) : D := .tup [.str t.1, .str (T t.2)]
theorem runEnd_run (l : List Nat) (hl : l.length ≤ 10000) (a : Nat) (ha : a ≤ l.length) (C : List Nat) (h : Hh) : ∃ e : Nat, a ≤ e ∧ e ≤ l.length ∧ (l.drop a).take (e - a) = (l.drop a).takeWhile (fun x => decide (x ∈ C)) ∧
    m__run_end [.str (T l), .int a, .str (T C)] h = .ok (.int e) h := by
  have hz : l.length ≤ sizeLine := by rw [sizeLine_eq]; omega
  have hlen : ∀ h, lenD [.str (T l)] h = .ok (.int l.length) h := fun h => lenD_T hz
  obtain ⟨ρ', h', e, f, hf1, hf2, hf3, rfl, rfl⟩ := wh_run (c := wt2__run_end) (b := x1__run_end)
    (fun n ρ h' => ∃ e : Nat, a ≤ e ∧ e ≤ l.length ∧ n = l.length - e ∧ (l.drop a).takeWhile (fun x => decide (x ∈ C)) = (l.drop a).take (e - a) ++ (l.drop e).takeWhile (fun x => decide (x ∈ C)) ∧ ρ = [some (.str (T l)), some (.int a), some (.str (T C)), some (.int e)] ∧ h' = h)
    (fun ρ h' => ∃ e : Nat, a ≤ e ∧ e ≤ l.length ∧ (l.drop a).take (e - a) = (l.drop a).takeWhile (fun x => decide (x ∈ C)) ∧ ρ = [some (.str (T l)), some (.int a), some (.str (T C)), some (.int e)] ∧ h' = h) (by
      rintro n ρ h1 ⟨e, h2, h3, rfl, h4, rfl, rfl⟩
      by_cases h5 : e < l.length
      · have h6 : l[e]? = some l[e] := List.getElem?_eq_getElem h5
        have e1 := ixD_T (h := h1) hz h6
        have h7 : l.drop e = l[e] :: l.drop (e + 1) := List.drop_eq_getElem_cons h5
        by_cases h8 : l[e] ∈ C
        · right
          refine ⟨by simp [wt2__run_end, hlen, h5, e1, h8], ?_⟩
          simp [x1__run_end]
          refine ⟨l.length - (e + 1), by omega, e + 1, by omega, by omega, rfl, ?_, by simp⟩
          rw [h7, List.takeWhile_cons_of_pos (p := fun x => decide (x ∈ C)) (decide_eq_true h8)] at h4
          rw [h4, show e + 1 - a = (e - a) + 1 from by omega]
          have h9 : (l.drop a)[e - a]? = some l[e] := by rw [List.getElem?_drop, show a + (e - a) = e from by omega, h6]
          rw [List.take_add_one, h9]
          simp
        · left
          refine ⟨by simp [wt2__run_end, hlen, h5, e1, h8], e, h2, h3, ?_, rfl, rfl⟩
          rw [h7, List.takeWhile_cons_of_neg (p := fun x => decide (x ∈ C)) (by simp [h8])] at h4
          rw [h4, List.append_nil]
      · left
        refine ⟨by simp [wt2__run_end, hlen, h5], e, h2, h3, ?_, rfl, rfl⟩
        rw [List.drop_eq_nil_of_le (show l.length ≤ e from by omega)] at h4
        rw [h4]
        simp) (l.length - a) [some (.str (T l)), some (.int a), some (.str (T C)), some (.int a)] h ⟨a, Nat.le_refl _, ha, rfl, by simp, rfl, rfl⟩
  refine ⟨f, hf1, hf2, hf3, ?_⟩
  simp [m__run_end, defF_run, b__run_end, e]
theorem token_run (l : List Nat) (hl : l.length ≤ 10000) (a c : Nat) (ha : l[a]? = some c) (h : Hh) :
    m__token [.str (T l), .int a] h = .ok (encTok (kindOf c (runOf c (l.drop a)), runOf c (l.drop a))) h := by
  have hz : l.length ≤ sizeLine := by rw [sizeLine_eq]; omega
  have ha' : a < l.length := (List.getElem?_eq_some_iff.mp ha).1
  have hd : l.drop a = c :: l.drop (a + 1) := by rw [List.drop_eq_getElem_cons ha']; rw [List.getElem?_eq_getElem ha'] at ha; cases ha; rfl
  have e1 := ixD_T (h := h) hz ha
  have el : ∀ m : List Nat, m.length ≤ l.length → lenD [.str (T m)] h = .ok (.int m.length) h := fun m hm => lenD_T (by omega)
  have e7 : Str.ofString "abcdefghijklmnopqrstuvwxyz" ++ Str.ofString "0123456789" = T (letC ++ digC) := by rw [lit_let, lit_dig, T_app]
  have e8 : addD (.str (T letC)) (.str (T digC)) h = .ok (.str (T (letC ++ digC))) h := addD_T (by rw [sizeLine_eq]; decide)
  by_cases c1 : c ∈ digC
  · obtain ⟨e, he1, he2, he3, e2⟩ := runEnd_run l hl a (by omega) digC h
    have e3 := slD_T (h := h) hz (show a ≤ l.length by omega) he2
    have er : runOf c (l.drop a) = (l.drop a).take (e - a) := by rw [he3]; simp [runOf, c1]
    obtain ⟨m, em, hm⟩ := runOf_cons c (l.drop (a + 1))
    rw [← hd] at em
    have hm2 : (runOf c (l.drop a)).length ≤ l.length := by rw [em]; simp at hm ⊢; omega
    rw [← er] at e3
    have e4 := el _ hm2
    have e5 : ixD (.str (T (runOf c (l.drop a)))) (.int 0) h = .ok (.str (T [c])) h := ixD_T0 (by omega) (by rw [em]; rfl)
    generalize runOf c (l.drop a) = r at e3 e4 e5 ⊢
    by_cases c2 : 2 < r.length
    · have c2' : (2 : Int) < r.length := by omega
      simp [m__token, defF_run, b__token, c_DIGITS, lit_dig, e1, c1, e2, e3, e4, c2, c2', encTok, kindOf]
    · by_cases c3 : r.length = 2
      · by_cases c4 : c = 48
        · simp [m__token, defF_run, b__token, c_DIGITS, lit_dig, e1, c1, e2, e3, e4, c3, encTok, kindOf, e5, lit_0, T_inj, c4]
          simp [c4] at c1
          simp [c1]
        · simp [m__token, defF_run, b__token, c_DIGITS, lit_dig, e1, c1, e2, e3, e4, c3, encTok, kindOf, e5, lit_0, T_inj, c4]
      · have c3' : ¬ ((r.length : Int) = 2) := by omega
        have c2' : ¬ ((2 : Int) < r.length) := by omega
        simp [m__token, defF_run, b__token, c_DIGITS, lit_dig, e1, c1, e2, e3, e4, c2, c3, c2', c3', encTok, kindOf]
  · by_cases c2 : c ∈ letC
    · obtain ⟨e, he1, he2, he3, e2⟩ := runEnd_run l hl a (by omega) (letC ++ digC) h
      have e3 := slD_T (h := h) hz (show a ≤ l.length by omega) he2
      have er : runOf c (l.drop a) = (l.drop a).take (e - a) := by rw [he3]; simp [runOf, c1, c2]
      obtain ⟨m, em, hm⟩ := runOf_cons c (l.drop (a + 1))
      rw [← hd] at em
      have hm2 : (runOf c (l.drop a)).length ≤ l.length := by rw [em]; simp at hm ⊢; omega
      rw [← er] at e3
      have e4 := el _ hm2
      generalize runOf c (l.drop a) = r at e3 e4 ⊢
      by_cases c3 : 8 < r.length
      · have c3' : (8 : Int) < r.length := by omega
        simp [m__token, defF_run, b__token, c_DIGITS, c_LETTERS, c_WORD_LENGTH, lit_dig, lit_let, e1, c1, c2, e8, e2, e3, e4, c3, c3', encTok, kindOf]
      · have c3' : ¬ ((8 : Int) < r.length) := by omega
        simp [m__token, defF_run, b__token, c_DIGITS, c_LETTERS, c_WORD_LENGTH, lit_dig, lit_let, e1, c1, c2, e8, e2, e3, e4, c3, c3', encTok, kindOf]
    · have er : runOf c (l.drop a) = [c] := by simp [runOf, c1, c2]
      rw [er]
      by_cases c3 : c ∈ sigC
      · simp [m__token, defF_run, b__token, c_DIGITS, c_LETTERS, c_SIGNS, lit_dig, lit_let, lit_sig, e1, c1, c2, c3, encTok, kindOf]
      · simp [m__token, defF_run, b__token, c_DIGITS, c_LETTERS, c_SIGNS, lit_dig, lit_let, lit_sig, e1, c1, c2, c3, encTok, kindOf]
theorem below_tok (n : Nat) (t : Str × List Nat) : below n (encTok t) = true := by simp [encTok]
theorem tokens_run (l : List Nat) (hl : l.length ≤ 10000) (h : Hh) : m_tokens [.str (T l)] h = .ok (.lst ((toksOf l).map encTok)) h := by
  have hz : l.length ≤ sizeLine := by rw [sizeLine_eq]; omega
  have hlen : ∀ h, lenD [.str (T l)] h = .ok (.int l.length) h := fun h => lenD_T hz
  obtain ⟨ρ', h', e, ⟨v2, v3, rfl⟩, rfl⟩ := wh_run (c := wt2_tokens) (b := x1_tokens)
    (fun n ρ h' => ∃ a : Nat, a ≤ l.length ∧ n = l.length - a ∧ (∃ v3, ρ = [some (.str (T l)), some (.ref h.length), some (.int a), v3]) ∧ ∃ pre : List (Str × List Nat), pre.length ≤ a ∧ pre ++ toksOf (l.drop a) = toksOf l ∧ h' = h ++ [.lst (pre.map encTok)])
    (fun ρ h' => (∃ v2 v3, ρ = [some (.str (T l)), some (.ref h.length), v2, v3]) ∧ h' = h ++ [.lst ((toksOf l).map encTok)]) (by
      rintro n ρ h1 ⟨a, ha, rfl, ⟨v3, rfl⟩, pre, hp, hq, rfl⟩
      by_cases h5 : a < l.length
      · have h6 : l[a]? = some l[a] := List.getElem?_eq_getElem h5
        generalize hc : l[a] = c at h6
        have hd : l.drop a = c :: l.drop (a + 1) := by rw [List.drop_eq_getElem_cons h5, hc]
        right
        refine ⟨by simp [wt2_tokens, hlen, h5], ?_⟩
        have e1 := fun h => ixD_T (h := h) hz h6
        by_cases h7 : c = 32
        · subst h7
          simp [x1_tokens, e1, lit_sp]
          refine ⟨l.length - (a + 1), by omega, a + 1, by omega, rfl, by simp, pre, by omega, ?_, rfl⟩
          rw [← hq, hd, toksOf_sp]
        · have e2 := fun h => token_run l hl a c h6 h
          obtain ⟨m, em, hm⟩ := runOf_cons c (l.drop (a + 1))
          rw [← hd] at em
          rw [hd, toksOf_cons _ _ h7, ← hd] at hq
          have hlr : (runOf c (l.drop a)).length ≤ l.length - a := by rw [em]; simp at hm ⊢; omega
          have hlr1 : 1 ≤ (runOf c (l.drop a)).length := by rw [em]; simp
          generalize kindOf c (runOf c (l.drop a)) = kk at e2 hq
          generalize runOf c (l.drop a) = rr at e2 hq hlr hlr1
          have e3 : ∀ h, lenD [.str (T rr)] h = .ok (.int rr.length) h := fun h => lenD_T (by omega)
          have hps : pre.length < sizeLine := by rw [sizeLine_eq]; omega
          simp [x1_tokens, e1, lit_sp, T_inj, h7, e2, encTok, e3, methE_run, guardR_pos, appendD, mlOf, lstOf, hps]
          refine ⟨l.length - (a + rr.length), by omega, a + rr.length, by omega, rfl, by simp, pre ++ [(kk, rr)], by simp; omega, ?_, by simp [encTok]⟩
          rw [← hq, List.append_assoc, List.drop_drop]
          rfl
      · left
        refine ⟨by simp [wt2_tokens, hlen, h5], ⟨_, _, rfl⟩, ?_⟩
        rw [List.drop_eq_nil_of_le (show l.length ≤ a from by omega)] at hq
        rw [← hq]
        simp [toksOf, toks]) (l.length - 0) [some (.str (T l)), some (.ref h.length), some (.int 0), none] (h ++ [.lst []]) ⟨0, by omega, rfl, ⟨none, rfl⟩, [], by simp, by simp, rfl⟩
  unfold m_tokens
  refine cut_lst (g := [.lst ((toksOf l).map encTok)]) (n := h.length) ?_ (Nat.le_refl _) (by simp) (belows_map _ _ _ fun _ _ => below_tok _ _)
  simp [defF_run, b_tokens, e]
theorem let_dig {c : Nat} (h : c ∈ letC) : c ∉ digC := by
  have : ∀ c ∈ letC, c ∉ digC := by decide
  exact this c h
theorem tw_mem {p : Nat → Bool} : ∀ {l : List Nat} {x : Nat}, x ∈ l.takeWhile p → p x = true
  | [], x, h => by simp at h
  | c :: l, x, h => by
    cases hc : p c with
    | false => rw [List.takeWhile_cons_of_neg (by rw [hc]; exact Bool.false_ne_true)] at h; simp at h
    | true =>
      rw [List.takeWhile_cons_of_pos hc] at h
      rcases List.mem_cons.mp h with rfl | h
      · exact hc
      · exact tw_mem h
theorem tw_all {p : Nat → Bool} : ∀ {l : List Nat}, (∀ x ∈ l, p x = true) → l.takeWhile p = l
  | [], _ => rfl
  | c :: l, h => by rw [List.takeWhile_cons_of_pos (h c List.mem_cons_self), tw_all fun x hx => h x (List.mem_cons_of_mem _ hx)]
theorem name_iff (l : List Nat) (h32 : 32 ∉ l) : toksOf l = [(("word" : Str), l)] ↔ (∃ c m, l = c :: m ∧ c ∈ letC) ∧ l.length ≤ 8 ∧ ∀ c ∈ l, c ∈ letC ++ digC := by
  cases l with
  | nil => exact ⟨fun h => (by cases h), fun ⟨⟨_, _, h, _⟩, _⟩ => (by cases h)⟩
  | cons c m =>
    have hc : c ≠ 32 := fun e => h32 (by rw [e]; exact List.mem_cons_self)
    rw [toksOf_cons c m hc]
    constructor
    · intro e
      simp only [List.cons.injEq, Prod.mk.injEq] at e
      obtain ⟨⟨e1, e2⟩, -⟩ := e
      rw [e2] at e1
      have c1 : c ∉ digC := fun h => by
        unfold kindOf at e1
        rw [if_pos h] at e1
        split at e1
        · exact absurd e1 (by decide +kernel)
        · exact absurd e1 (by decide +kernel)
      have c2 : c ∈ letC := by
        by_cases h : c ∈ letC
        · exact h
        · unfold kindOf at e1
          rw [if_neg c1, if_neg h] at e1
          split at e1
          · exact absurd e1 (by decide +kernel)
          · exact absurd e1 (by decide +kernel)
      refine ⟨⟨c, m, rfl, c2⟩, ?_, ?_⟩
      · unfold kindOf at e1
        rw [if_neg c1, if_pos c2] at e1
        split at e1
        · exact absurd e1 (by decide +kernel)
        · omega
      · unfold runOf at e2
        rw [if_neg c1, if_pos c2] at e2
        intro x hx
        rw [← e2] at hx
        have := tw_mem hx
        exact of_decide_eq_true this
    · rintro ⟨⟨c', m', e, hc'⟩, h1, h2⟩
      cases e
      have c1 := let_dig hc'
      have er : runOf c (c :: m) = c :: m := by
        unfold runOf
        rw [if_neg c1, if_pos hc']
        exact tw_all fun x hx => decide_eq_true (h2 x hx)
      rw [er, List.drop_length]
      have ek : kindOf c (c :: m) = "word" := by
        unfold kindOf
        rw [if_neg c1, if_pos hc', if_neg (by omega)]
      rw [ek]
      rfl
def resv : List Str := ["var", "lock", "cond", "of", "queue", "thread", "let", "get", "put", "add", "unlock", "wait", "notify", "all", "send", "take", "check", "go", "if", "begin", "end", "stop", "and", "or", "not"]
def regs : List Str := ["a", "b", "c", "d"]
def asc (l : List Nat) : Prop := ∀ c ∈ l, c < 128
theorem okT {l : List Nat} (h : asc l) : okD (.str (T l)) = true := by
  simp only [okD, PyData.canLay0, PyData.strOk, T]
  simp
  intro i hi
  have := h i hi
  omega
def nmP (l : List Nat) : Prop := (T l ∉ resv ∧ T l ∉ regs ∧ (∃ c m, l = c :: m ∧ c ∈ letC) ∧ l.length ≤ 8 ∧ ∀ c ∈ l, c ∈ letC ++ digC)
open Classical in
noncomputable def nm (l : List Nat) : Bool := decide (nmP l)
open Classical in
theorem nm_f {l : List Nat} (h : ¬ nmP l) : nm l = false := by unfold nm; exact decide_eq_false h
open Classical in
theorem nm_iff {l : List Nat} : nm l = true ↔ nmP l := by unfold nm; exact decide_eq_true_iff
theorem asc_tok {l : List Nat} (h : asc l) : ∀ t ∈ toksOf l, asc t.2 := by
  have : ∀ n (l : List Nat), asc l → ∀ t ∈ toks n l, asc t.2 := by
    intro n
    induction n with
    | zero => intro l _ t ht; cases l <;> simp [toks] at ht
    | succ n ih =>
      intro l h t ht
      cases l with
      | nil => simp [toks] at ht
      | cons c m =>
        unfold toks at ht
        split at ht
        · exact ih m (fun x hx => h x (List.mem_cons_of_mem _ hx)) t ht
        · rcases List.mem_cons.mp ht with rfl | ht
          · intro x hx
            refine h x ?_
            have hx : x ∈ runOf c (c :: m) := hx
            unfold runOf at hx
            split at hx
            · exact (List.takeWhile_sublist _).subset hx
            · split at hx
              · exact (List.takeWhile_sublist _).subset hx
              · simp at hx
                rw [hx]; exact List.mem_cons_self
          · exact ih _ (fun x hx => h x ((List.drop_sublist _ _).subset hx)) t ht
  exact this _ l h
theorem kind_ok (c : Nat) (r : List Nat) : okD (.str (kindOf c r)) = true := by
  unfold kindOf
  split
  · split <;> decide +kernel
  · split
    · split <;> decide +kernel
    · split <;> decide +kernel
theorem kinds_ok (l : List Nat) : ∀ t ∈ toksOf l, okD (.str t.1) = true := by
  have : ∀ n (l : List Nat), ∀ t ∈ toks n l, okD (.str t.1) = true := by
    intro n
    induction n with
    | zero => intro l t ht; cases l <;> simp [toks] at ht
    | succ n ih =>
      intro l t ht
      cases l with
      | nil => simp [toks] at ht
      | cons c m =>
        unfold toks at ht
        split at ht
        · exact ih m t ht
        · rcases List.mem_cons.mp ht with rfl | ht
          · exact kind_ok _ _
          · exact ih _ t ht
  exact this _ l
theorem eq_tok (s t : Str × List Nat) : eqvD (encTok s) (encTok t) = decide (s = t) := by
  obtain ⟨a, b⟩ := s
  obtain ⟨c, d⟩ := t
  simp [encTok, eqvD_str, T_inj]
theorem name_run (l : List Nat) (hl : l.length ≤ 1000) (ha : asc l) (h : Hh) : m_is_name [.str (T l)] h = .ok (.bl (nm l)) h := by
  have e1 : inD (.str (T l)) c_RESERVED h = .ok (.bl (decide (T l ∈ resv))) h := inD_strsT resv (T l)
  have e2 : inD (.str (T l)) c_REGISTERS h = .ok (.bl (decide (T l ∈ regs))) h := inD_strsT regs (T l)
  have e3 : inD (.str " ") (.str (T l)) h = .ok (.bl (decide (32 ∈ l))) h := by rw [lit_sp]; exact inD_T l 32
  have e4 := tokens_run l (by omega) h
  have ew : D.lst [.tup [.str "word", .str (T l)]] = .lst ([(("word" : Str), l)].map encTok) := rfl
  have e5 : eqD (.lst ((toksOf l).map encTok)) (.lst [.tup [.str "word", .str (T l)]]) h = .ok (.bl (decide (toksOf l = [(("word" : Str), l)]))) h := by
    have hok : ∀ ts : List (Str × List Nat), (∀ t ∈ ts, okD (.str t.1) = true) → (∀ t ∈ ts, asc t.2) → CmpOk (.lst (ts.map encTok)) := fun ts h1 h2 => cmp_mapL ts (fun t ht => by
      show (okD (.str t.1) && (okD (.str (T t.2)) && true)) = true
      rw [h1 t ht, okT (h2 t ht)]
      rfl) (fun t ht => by simp [encTok, depD, depDs])
    rw [ew, eqD_cmp (hok _ (kinds_ok l) (asc_tok ha)) (hok _ (by simp; decide +kernel) (by simpa using ha)), eqvD_lst, eqvD_map _ _ fun a _ b _ => eq_tok a b]
  by_cases h1 : T l ∈ resv
  · have : nm l = false := nm_f fun h => h.1 h1
    simp [m_is_name, defF_run, b_is_name, e1, h1, this]
  · by_cases h2 : T l ∈ regs
    · have : nm l = false := nm_f fun h => h.2.1 h2
      simp [m_is_name, defF_run, b_is_name, e1, e2, h1, h2, this]
    · by_cases h3 : 32 ∈ l
      · have : nm l = false := nm_f fun h => absurd (h.2.2.2.2 32 h3) (by decide)
        simp [m_is_name, defF_run, b_is_name, e1, e2, e3, h1, h2, h3, this]
      · have : nm l = decide (toksOf l = [(("word" : Str), l)]) := by
          rw [Bool.eq_iff_iff, nm_iff, decide_eq_true_eq, name_iff l h3]
          exact ⟨fun h => h.2.2, fun h => ⟨h1, h2, h⟩⟩
        rw [this]
        simp [m_is_name, defF_run, b_is_name, e1, e2, e3, h1, h2, h3, e4, e5]
/-- nothing odd in it -/
def iok (i : Ins) : Prop := okD (encIns i) = true ∧ depD (encIns i) ≤ 8
def zpc : Ins → Ins
  | .go _ e => .go 0 e
  | i => i
theorem zpc_ok (i : Ins) (h : iok (zpc i)) : iok i := by
  cases i with
  | go pc e => exact h
  | _ => exact h
def iokB (i : Ins) : Bool := okD (encIns (zpc i)) && decide (depD (encIns (zpc i)) ≤ 8)
theorem pieces_ok (pc : Int) : ((pieces pc).all fun p => p.all iokB) = true := by
  have : ((pieces pc).map fun p => p.map zpc) = (pieces 0).map fun p => p.map zpc := rfl
  have h2 : ((pieces 0).all fun p => p.all iokB) = true := by decide +kernel
  have h3 : ∀ L : List (List Ins), (L.all fun p => p.all iokB) = ((L.map fun p => p.map zpc).all fun p => p.all fun i => okD (encIns i) && decide (depD (encIns i) ≤ 8)) := by
    intro L
    rw [List.all_map]
    refine congrArg (fun f => L.all f) (funext fun p => ?_)
    simp only [Function.comp, List.all_map]
    rfl
  rw [h3, this, ← h3]
  exact h2
theorem pieceAt_ok (d pc : Int) : ∀ i ∈ pieceAt d pc, iok i := by
  unfold pieceAt
  cases e : (pieces pc)[(d % 24).toNat]? with
  | none => intro i hi; simp at hi
  | some p =>
    have hp : p ∈ pieces pc := List.mem_of_getElem? e
    intro i hi
    have h1 := List.all_eq_true.mp (pieces_ok pc) p hp
    have h2 := List.all_eq_true.mp h1 i hi
    unfold iokB at h2
    rw [Bool.and_eq_true, decide_eq_true_eq] at h2
    exact zpc_ok i h2
def Cok (C : List Ins) : Prop := ∀ i ∈ C, iok i
theorem code_in (ns : List Int) (lim : Int) (hlim : lim ≤ 12) (hl : atI [D.int 7, .int 12] (c0 ns 12 % 2) = some (.int lim)) (a1 a2 v5 v6 a7 : Option D) (d : List Int) (hd : 20 ≤ d.length) (h : Hh) :
    ∃ (C : List Ins) (w5 w6 : Option D), C.length ≤ 12 ∧ Cok C ∧ loopS (fun _ => True) (gNm 5) x1__law_longer (rngL 0 8) [some (.scr ns), a1, a2, some (.lst (d.map D.int)), some (.lst []), v5, v6, a7] h =
    .nx [some (.scr ns), a1, a2, some (.lst (d.map D.int)), some (.lst (C.map encIns)), w5, w6, a7] h := by
  have ec := fun h => cell_run ns 12 h (by omega)
  rw [show ((12 : Int)).toNat = 12 from rfl] at ec
  obtain ⟨ρ', h', e, C, hC, hk, ⟨w5, w6, rfl⟩, rfl⟩ := lp_rng (x := x1__law_longer) (g := gNm 5) (lo := 0) (n := 8)
    (ρ := [some (.scr ns), a1, a2, some (.lst (d.map D.int)), some (.lst []), v5, v6, a7]) (h := h)
    (fun i ρ h' => ∃ C : List Ins, C.length ≤ 12 ∧ Cok C ∧ (∃ w5 w6, ρ = [some (.scr ns), a1, a2, some (.lst (d.map D.int)), some (.lst (C.map encIns)), w5, w6, a7]) ∧ h' = h)
    ⟨[], by simp, fun i hi => by simp at hi, ⟨v5, v6, rfl⟩, rfl⟩ (by
      rintro i ρ h1 hi ⟨C, hC, hk, ⟨w5, w6, rfl⟩, rfl⟩
      have e1 : atI (d.map D.int) (i : Int) = some (.int ((d[i]?).getD default)) := by
        have := atI_map D.int d i (by omega) (by omega)
        rwa [Int.toNat_natCast] at this
      generalize (d[i]?).getD default = x at e1
      have e2 := fun h => piece_run x C.length h
      have hp := pieceAt_len x C.length
      have hpk := pieceAt_ok x C.length
      generalize pieceAt x C.length = p at e2 hp hpk
      have e3 : ∀ h, addD (.lst (C.map encIns)) (.lst (p.map encIns)) h = .ok (.lst ((C ++ p).map encIns)) h := fun h => by
        rw [addD_lst _ _ (by rw [sizeLine_eq]; simp; omega), List.map_append]
      by_cases hc : (C.length : Int) + p.length ≤ lim
      · have hz : (C ++ p).length ≤ 12 := by simp; omega
        have hk2 : Cok (C ++ p) := fun i hi => by
          rcases List.mem_append.mp hi with h | h
          · exact hk i h
          · exact hpk i h
        generalize C ++ p = C' at e3 hz hk2
        simp [x1__law_longer, e1, e2, ec, modD_int, hl, hc, e3]
        exact ⟨C', hz, hk2, rfl⟩
      · simp [x1__law_longer, e1, e2, ec, modD_int, hl, hc]
        exact ⟨C, hC, hk, rfl⟩)
  exact ⟨C, w5, w6, hC, hk, e⟩
/-- without the threads' other ways -/
def plI (i : Ins) : Ins := if kindI i ∈ ["wait", "notify", "notifyall", "send", "take"] then .lt "d" (.num 0) else i
def plC (C : List Ins) : List Ins := if C = [] then [.get "a" "x"] else C.map plI
theorem kinds_pl (s : String) (h : Hh) : inD (.str (Str.ofString s)) (.lst [.str "wait", .str "notify", .str "notifyall", .str "send", .str "take"]) h = .ok (.bl (decide (s ∈ ["wait", "notify", "notifyall", "send", "take"]))) h := by
  have := inD_strs (h := h) ((["wait", "notify", "notifyall", "send", "take"] : List String).map Str.ofString) (Str.ofString s)
  refine Eq.trans this ?_
  have e : decide (Str.ofString s ∈ (["wait", "notify", "notifyall", "send", "take"] : List String).map Str.ofString) = decide (s ∈ ["wait", "notify", "notifyall", "send", "take"]) := by
    rw [Bool.eq_iff_iff, decide_eq_true_eq, decide_eq_true_eq, List.mem_map]
    constructor
    · rintro ⟨t, h1, h2⟩; rw [ofString_inj] at h2; rw [← h2]; exact h1
    · intro h; exact ⟨s, h, rfl⟩
  rw [e]
theorem plain_run (C : List Ins) (hC : C.length ≤ 1000) (h : Hh) : m__law_plain [encCode C] h = .ok (encCode (plC C)) h := by
  obtain ⟨ρ', h', e, ⟨v2, rfl⟩, rfl⟩ := lp_map (x := x1__law_plain) (g := gNm 2) (f := encIns) (l := C) (ρ := [some (encCode C), some (.ref h.length), none]) (h := h ++ [.lst []])
    (fun pre ρ h' => (∃ v2, ρ = [some (encCode C), some (.ref h.length), v2]) ∧ h' = h ++ [.lst ((pre.map plI).map encIns)]) ⟨⟨none, rfl⟩, rfl⟩ (by
      rintro pre i post ρ h1 hp ⟨⟨v2, rfl⟩, rfl⟩
      have hz : pre.length < sizeLine := by
        have : pre.length ≤ C.length := by rw [hp]; simp
        rw [sizeLine_eq]; omega
      have e1 := fun h => kindI_run i h
      have e2 := fun h => kinds_pl (kindI i) h
      have hpl : plI i = if kindI i ∈ ["wait", "notify", "notifyall", "send", "take"] then .lt "d" (.num 0) else i := rfl
      generalize hk : decide (kindI i ∈ ["wait", "notify", "notifyall", "send", "take"]) = b at e2
      generalize encCode C = CC at *
      cases b with
      | true =>
        rw [if_pos (of_decide_eq_true hk)] at hpl
        have hen : encIns (.lt "d" (.num 0)) = .tup [.str "let", .str "d", .tup [.str "num", .int 0]] := rfl
        simp [x1__law_plain, e1, e2, methE_run, guardR_pos, appendD, mlOf, lstOf, hz, hpl, hen]
      | false =>
        rw [if_neg (of_decide_eq_false hk)] at hpl
        generalize hI : encIns i = I at *
        simp [x1__law_plain, e1, e2, methE_run, guardR_pos, appendD, mlOf, lstOf, hz, hpl, hI])
  have hz0 : 0 < sizeLine := by rw [sizeLine_eq]; omega
  unfold m__law_plain
  have hb : ∀ C : List Ins, below h.length (encCode C) = true := fun C => belows_map _ _ _ fun i _ => below_ins _ i
  have itC : ∀ h, itOf (encCode C) h = .ok ⟨C.map encIns, none⟩ h := fun _ => rfl
  by_cases hc : C = []
  · subst hc
    refine cut_ok (g := [.lst [encIns (.get "a" "x")]]) ?_ (hb _)
    simp only [List.map_nil] at e
    have e2 : encCode (plC []) = .tup [encIns (.get "a" "x")] := rfl
    rw [e2]
    have itC' : ∀ h, itOf (encCode []) h = .ok ⟨[], none⟩ h := fun _ => rfl
    generalize encCode [] = CC at *
    simp [defF_run, b__law_plain, itC', e, hz0, methE_run, guardR_pos, appendD, mlOf, lstOf, encIns]
  · refine cut_ok (g := [.lst ((C.map plI).map encIns)]) ?_ (hb _)
    have e2 : encCode (plC C) = .tup ((C.map plI).map encIns) := by unfold plC encCode; rw [if_neg hc]
    rw [e2]
    have hne' : (C.map plI).map encIns ≠ [] := by simp [hc]
    generalize encCode C = CC at *
    generalize (C.map plI).map encIns = P at *
    simp [defF_run, b__law_plain, itC, e, hne']
theorem plC_ok {C : List Ins} (h : Cok C) : Cok (plC C) := by
  have h0 : iok (.get "a" "x") := by unfold iok; decide +kernel
  have h1 : iok (.lt "d" (.num 0)) := by unfold iok; decide +kernel
  intro i hi
  unfold plC at hi
  split at hi
  · simp at hi; rw [hi]; exact h0
  · obtain ⟨j, hj, rfl⟩ := List.mem_map.mp hi
    unfold plI
    split
    · exact h1
    · exact h j hj
theorem plC_len {C : List Ins} (h : C.length ≤ 12) : 1 ≤ (plC C).length ∧ (plC C).length ≤ 12 := by
  unfold plC
  split
  · simp
  · rename_i hc
    have := List.length_pos_iff.mpr hc
    simp
    omega
def th4 : D := .tup [.tup [.str "var", .str "x", .int 0], .tup [.str "lock", .str "m"], .tup [.str "var", .str "y", .int 1], .tup [.str "lock", .str "n"]]
theorem longer_run (ns : List Int) (h : Hh) : ∃ C1 C2 : List Ins, (1 ≤ C1.length ∧ C1.length ≤ 12 ∧ Cok C1) ∧ (1 ≤ C2.length ∧ C2.length ≤ 12 ∧ Cok C2) ∧ m__law_longer [.scr ns] h = .ok (.tup [th4, .tup [encCode C1, encCode C2]]) h := by
  have h2 : i62 (2 : Int) := by unfold i62; omega
  have h8 : i62 (8 : Int) := by unfold i62; omega
  obtain ⟨lim, hlim, hatl⟩ : ∃ lim : Int, lim ≤ 12 ∧ atI [D.int 7, .int 12] (c0 ns 12 % 2) = some (.int lim) := by
    obtain h | h : c0 ns 12 % 2 = 0 ∨ c0 ns 12 % 2 = 1 := by omega
    · exact ⟨7, by omega, by rw [h]; rfl⟩
    · exact ⟨12, by omega, by rw [h]; rfl⟩
  obtain ⟨ρ', h', e, Cs, hl, hC, ⟨v2, v3, v4, v5, v6, rfl⟩, rfl⟩ := lp_rng (x := x2__law_longer) (g := gNm 2) (lo := 0) (n := 2)
    (ρ := [some (.scr ns), some (.ref h.length), none, none, none, none, none, none]) (h := h ++ [.lst []])
    (fun i ρ h' => ∃ Cs : List (List Ins), Cs.length = i ∧ (∀ C ∈ Cs, C.length ≤ 12 ∧ Cok C) ∧ (∃ v2 v3 v4 v5 v6, ρ = [some (.scr ns), some (.ref h.length), v2, v3, v4, v5, v6, none]) ∧ h' = h ++ [.lst (Cs.map encCode)])
    ⟨[], rfl, by simp, ⟨none, none, none, none, none, rfl⟩, rfl⟩ (by
      rintro i ρ h1 hi ⟨Cs, hl, hC, ⟨v2, v3, v4, v5, v6, rfl⟩, rfl⟩
      have ec := fun h => cell_run ns i h (by omega)
      rw [Int.toNat_natCast] at ec
      generalize c0 ns i = c at ec
      have ep := fun h => padded_run c i h
      obtain ⟨hd, _⟩ := padded_len c i
      generalize padded c i = d at ep hd
      obtain ⟨C, w5, w6, hz, hk, e1⟩ := code_in ns lim hlim hatl (some (.ref h.length)) (some (.int i)) v5 v6 none d hd (h ++ [.lst (Cs.map encCode)])
      have hz2 : Cs.length < sizeLine := by rw [sizeLine_eq]; omega
      have en : ∀ h, tupleD [.lst (C.map encIns)] h = .ok (encCode C) h := fun _ => rfl
      generalize hCC : encCode C = CC at en
      simp [x2__law_longer, ec, ep, rngD_1 h8, e1, en, methE_run, guardR_pos, appendD, mlOf, lstOf, hz2]
      exact ⟨Cs ++ [C], by simp [hl], by
        intro C' hC'
        rcases List.mem_append.mp hC' with h | h
        · exact hC C' h
        · rw [List.mem_singleton.mp h]; exact ⟨hz, hk⟩, by simp [hCC]⟩)
  match Cs, hl with
  | [A, B], _ =>
    obtain ⟨a1, a2⟩ := hC A (by simp)
    obtain ⟨b1, b2⟩ := hC B (by simp)
    have ea := plC_len a1
    have eb := plC_len b1
    refine ⟨plC A, plC B, ⟨ea.1, ea.2, plC_ok a2⟩, ⟨eb.1, eb.2, plC_ok b2⟩, ?_⟩
    unfold m__law_longer
    have ecmp : lcE (seqI (varE 1)) 4 tYesE ce3__law_longer [some (.scr ns), some (.ref h.length), v2, v3, v4, v5, v6, some th4] (h ++ [.lst ([A, B].map encCode)]) = .ok (.lst ([A, B].map fun C => encCode (plC C))) (h ++ [.lst ([A, B].map encCode)]) := by
      refine lcE_runR (n := h.length) (l := [A, B].map encCode) (h1 := h ++ [.lst ([A, B].map encCode)]) (by simp) (by rw [sizeLine_eq]; simp) ?_
      refine lc_all (by simp) (fun C => encCode (plC C)) fun C hC => ?_
      have hCl : C.length ≤ 1000 := by
        simp only [List.mem_cons, List.not_mem_nil, or_false] at hC
        rcases hC with rfl | rfl <;> omega
      have := plain_run C hCl (h ++ [.lst ([A, B].map encCode)])
      simp only [ce3__law_longer]
      generalize h ++ [O.lst ([A, B].map encCode)] = HH at *
      generalize encCode (plC C) = P at *
      generalize encCode C = CC at *
      simp [this]
    have hb : ∀ C : List Ins, below h.length (encCode C) = true := fun C => belows_map _ _ _ fun i _ => below_ins _ i
    refine cut_ok (g := [.lst ([A, B].map encCode)]) ?_ ?_
    · have et : ∀ h, tupleD [.lst ([A, B].map fun C => encCode (plC C))] h = .ok (.tup [encCode (plC A), encCode (plC B)]) h := fun _ => rfl
      generalize [A, B].map (fun C => encCode (plC C)) = M at *
      generalize [A, B].map encCode = N at *
      have hth : ∀ h, tupE (consA (tupE (consA (cE (.str "var")) (consA (cE (.str "x")) (consA (cE (.int 0)) nilA)))) (consA (tupE (consA (cE (.str "lock")) (consA (cE (.str "m")) nilA))) (consA (tupE (consA (cE (.str "var")) (consA (cE (.str "y")) (consA (cE (.int 1)) nilA)))) (consA (tupE (consA (cE (.str "lock")) (consA (cE (.str "n")) nilA))) nilA)))) [some (.scr ns), some (.ref h.length), v2, v3, v4, v5, v6, none] h = .ok th4 h := fun h => by simp [th4]
      simp [defF_run, b__law_longer, rngD_1 h2, e]
      rw [show (D.tup [.tup [.str "var", .str "x", .int 0], .tup [.str "lock", .str "m"], .tup [.str "var", .str "y", .int 1], .tup [.str "lock", .str "n"]]) = th4 from rfl, ecmp]
      simp [et]
    · simp [th4, hb]
  | [], h => simp at h
  | [_], h => simp at h
  | _ :: _ :: _ :: _, h => simp at h
/-! guarded threads -/
def mvp (f l pc : Int) : Int := if pc ≤ f then pc else if pc ≤ l then pc + 1 else pc + 2
def mvI (f l : Int) : Ins → Ins
  | .go pc e => .go (mvp f l pc) e
  | i => i
def gcode (C : List Ins) (f l : Nat) (nm : Str) : List Ins := (C.map (mvI f l)).take f ++ [.lock nm] ++ ((C.map (mvI f l)).drop f).take (l + 1 - f) ++ [.unlock nm] ++ (C.map (mvI f l)).drop (l + 1)
def spD (f l : Nat) : D := .tup [.int f, .int l]
theorem moved_run (f l : Nat) (pc : Int) (h : Hh) : m_moved_place [.int pc, spD f l] h = .ok (.int (mvp f l pc)) h := by
  unfold mvp
  by_cases h1 : pc ≤ f
  · simp [m_moved_place, defF_run, b_moved_place, spD, h1]
  · by_cases h2 : pc ≤ l
    · simp [m_moved_place, defF_run, b_moved_place, spD, h1, h2]
    · simp [m_moved_place, defF_run, b_moved_place, spD, h1, h2]
theorem place_run (f l : Nat) (hfl : f ≤ l) (pc : Int) (h : Hh) : m__law_place [.int pc, spD f l] h = .ok (.int (mvp f l pc)) h := by
  unfold mvp
  by_cases h1 : pc ≤ f
  · have a1 : ¬ (f : Int) < pc := by omega
    have a2 : ¬ (l : Int) < pc := by omega
    simp [m__law_place, defF_run, b__law_place, spD, h1, a1, a2]
  · have a1 : (f : Int) < pc := by omega
    by_cases h2 : pc ≤ l
    · have a2 : ¬ (l : Int) < pc := by omega
      simp [m__law_place, defF_run, b__law_place, spD, h1, h2, a1, a2]
    · have a2 : (l : Int) < pc := by omega
      simp [m__law_place, defF_run, b__law_place, spD, h1, h2, a1, a2]
      omega
theorem gthread_run (C : List Ins) (hC : C.length ≤ 100) (f l : Nat) (hf : f ≤ l) (hl : l < C.length) (nm : Str) (h : Hh) : m_guarded_thread [encCode C, spD f l, .str nm] h = .ok (encCode (gcode C f l nm)) h := by
  obtain ⟨ρ', h', e, ⟨v4, rfl⟩, rfl⟩ := lp_map (x := x1_guarded_thread) (g := gNm 4) (f := encIns) (l := C) (ρ := [some (encCode C), some (spD f l), some (.str nm), some (.ref h.length), none, none]) (h := h ++ [.lst []])
    (fun pre ρ h' => (∃ v4, ρ = [some (encCode C), some (spD f l), some (.str nm), some (.ref h.length), v4, none]) ∧ h' = h ++ [.lst ((pre.map (mvI f l)).map encIns)]) ⟨⟨none, rfl⟩, rfl⟩ (by
      rintro pre i post ρ h1 hp ⟨⟨v4, rfl⟩, rfl⟩
      have hz : pre.length < sizeLine := by
        have : pre.length ≤ C.length := by rw [hp]; simp
        rw [sizeLine_eq]; omega
      generalize encCode C = CC at *
      cases i with
      | go pc e =>
        have e1 := fun h => moved_run f l pc h
        generalize spD f l = S at *
        simp [x1_guarded_thread, encIns, e1, methE_run, guardR_pos, appendD, mlOf, lstOf, hz, mvI]
      | _ => simp [x1_guarded_thread, encIns, methE_run, guardR_pos, appendD, mlOf, lstOf, hz, mvI])
  have hb : ∀ C : List Ins, below h.length (encCode C) = true := fun C => belows_map _ _ _ fun i _ => below_ins _ i
  have itC : ∀ h, itOf (encCode C) h = .ok ⟨C.map encIns, none⟩ h := fun _ => rfl
  unfold m_guarded_thread
  have hML : ((C.map (mvI f l)).map encIns).length = C.length := by simp
  have hg : encCode (gcode C f l nm) = .tup ((((C.map (mvI f l)).map encIns).take f ++ [.tup [.str "lock", .str nm]]) ++ ((((C.map (mvI f l)).map encIns).drop f).take (l + 1 - f)) ++ [.tup [.str "unlock", .str nm]] ++ ((C.map (mvI f l)).map encIns).drop (l + 1)) := by
    unfold encCode gcode
    simp [encIns, List.map_take, List.map_drop]
  refine cut_ok (g := [.lst ((C.map (mvI f l)).map encIns)]) ?_ (hb _)
  rw [hg]
  generalize (C.map (mvI f l)).map encIns = M at *
  have nn : nonD (spD f l) = false := rfl
  have s0 : ∀ h, ixD (spD f l) (.int 0) h = .ok (.int f) h := fun _ => rfl
  have s1 : ∀ h, ixD (spD f l) (.int 1) h = .ok (.int l) h := fun _ => rfl
  have c1 : cutD M none (some (f : Int)) = M.take f := cutD_to'
  have c2 : cutD M (some ((l : Int) + 1)) none = M.drop (l + 1) := by
    have := cutD_from (l := M) (k := l + 1) (by omega)
    rw [← this]; congr 2
  have c3 : cutD M (some (f : Int)) (some ((l : Int) + 1)) = (M.drop f).take (l + 1 - f) := by
    have : ((l : Int) + 1) = ((l + 1 : Nat) : Int) := by omega
    unfold Ev.cutD
    rw [this, HT.sIx_nat, HT.sIx_nat, Nat.min_eq_left (by omega), Nat.min_eq_left (by omega)]
  have z1 : ∀ h, addD (.lst (M.take f)) (.lst [.tup [.str "lock", .str nm]]) h = .ok (.lst (M.take f ++ [.tup [.str "lock", .str nm]])) h := fun h => addD_lst _ _ (by rw [sizeLine_eq]; simp; omega)
  have z2 : ∀ h, addD (.lst (M.take f ++ [.tup [.str "lock", .str nm]])) (.lst ((M.drop f).take (l + 1 - f))) h = .ok (.lst ((M.take f ++ [.tup [.str "lock", .str nm]]) ++ ((M.drop f).take (l + 1 - f)))) h := fun h => addD_lst _ _ (by rw [sizeLine_eq]; simp; omega)
  have z3 : ∀ h, addD (.lst ((M.take f ++ [.tup [.str "lock", .str nm]]) ++ ((M.drop f).take (l + 1 - f)))) (.lst [.tup [.str "unlock", .str nm]]) h = .ok (.lst ((M.take f ++ [.tup [.str "lock", .str nm]]) ++ ((M.drop f).take (l + 1 - f)) ++ [.tup [.str "unlock", .str nm]])) h := fun h => addD_lst _ _ (by rw [sizeLine_eq]; simp; omega)
  have z4 : ∀ h, addD (.lst ((M.take f ++ [.tup [.str "lock", .str nm]]) ++ ((M.drop f).take (l + 1 - f)) ++ [.tup [.str "unlock", .str nm]])) (.lst (M.drop (l + 1))) h = .ok (.lst ((M.take f ++ [.tup [.str "lock", .str nm]]) ++ ((M.drop f).take (l + 1 - f)) ++ [.tup [.str "unlock", .str nm]] ++ M.drop (l + 1))) h := fun h => addD_lst _ _ (by rw [sizeLine_eq]; simp; omega)
  generalize (M.take f ++ [D.tup [.str "lock", .str nm]]) ++ ((M.drop f).take (l + 1 - f)) ++ [.tup [.str "unlock", .str nm]] ++ M.drop (l + 1) = R4 at *
  generalize (M.take f ++ [D.tup [.str "lock", .str nm]]) ++ ((M.drop f).take (l + 1 - f)) ++ [.tup [.str "unlock", .str nm]] = R3 at *
  generalize (M.take f ++ [D.tup [.str "lock", .str nm]]) ++ ((M.drop f).take (l + 1 - f)) = R2 at *
  generalize M.take f ++ [D.tup [.str "lock", .str nm]] = R1 at *
  generalize M.take f = R0 at *
  generalize (M.drop f).take (l + 1 - f) = Q1 at *
  generalize M.drop (l + 1) = Q2 at *
  generalize encCode C = CC at *
  generalize spD f l = S at *
  simp [defF_run, b_guarded_thread, nn, itC, e, s0, s1, c1, c2, c3, z1, z2, z3, z4]
def Gc (M : List Ins) (f l : Nat) (nm : Str) (i : Nat) : List Ins := if i ≤ f then M.take i else if i ≤ l then M.take f ++ [.lock nm] ++ (M.drop f).take (i - f) else M.take f ++ [.lock nm] ++ (M.drop f).take (l + 1 - f) ++ [.unlock nm] ++ (M.drop (l + 1)).take (i - (l + 1))
theorem Gc_step (M : List Ins) (f l : Nat) (hfl : f ≤ l) (nm : Str) (i : Nat) (x : Ins) (hx : M[i]? = some x) : Gc M f l nm (i + 1) = Gc M f l nm i ++ (if i = f then [.lock nm] else []) ++ [x] ++ (if i = l then [.unlock nm] else []) := by
  have tk : ∀ n, f ≤ i → n = i - f → (M.drop f).take (n + 1) = (M.drop f).take n ++ [x] := fun n h1 h2 => by
    rw [List.take_add_one, List.getElem?_drop, show f + n = i from by omega, hx]; rfl
  have tk2 : ∀ n, l + 1 ≤ i → n = i - (l + 1) → (M.drop (l + 1)).take (n + 1) = (M.drop (l + 1)).take n ++ [x] := fun n h1 h2 => by
    rw [List.take_add_one, List.getElem?_drop, show l + 1 + n = i from by omega, hx]; rfl
  have tk0 : M.take (i + 1) = M.take i ++ [x] := by rw [List.take_add_one, hx]; rfl
  unfold Gc
  by_cases h1 : i < f
  · rw [if_pos (by omega), if_pos (by omega), if_neg (by omega), if_neg (by omega), tk0]; simp
  · by_cases h2 : i = f
    · subst h2
      rw [if_neg (by omega), if_pos (Nat.le_refl _), if_pos rfl]
      by_cases h3 : i = l
      · subst h3
        rw [if_neg (by omega), if_pos rfl]
        have := tk 0 (Nat.le_refl _) (by omega)
        simp at this
        simp [show i + 1 - i = 1 from by omega, this]
      · rw [if_pos (by omega), if_neg h3]
        have := tk 0 (Nat.le_refl _) (by omega)
        simp at this
        simp [show i + 1 - i = 1 from by omega, this]
    · rw [if_neg (by omega), if_neg (show ¬ i ≤ f by omega), if_neg h2]
      by_cases h3 : i < l
      · rw [if_pos (by omega), if_pos (by omega), if_neg (by omega), show i + 1 - f = (i - f) + 1 from by omega, tk _ (by omega) rfl]
        simp
      · by_cases h4 : i = l
        · subst h4
          rw [if_neg (by omega), if_pos (Nat.le_refl _), if_pos rfl, show i + 1 - f = (i - f) + 1 from by omega, tk _ (by omega) rfl]
          simp
        · rw [if_neg (by omega), if_neg (by omega), if_neg h4, show i + 1 - (l + 1) = (i - (l + 1)) + 1 from by omega, tk2 _ (by omega) rfl]
          simp
theorem Gc_end (C : List Ins) (f l : Nat) (hl : l < C.length) (hfl : f ≤ l) (nm : Str) : Gc (C.map (mvI f l)) f l nm C.length = gcode C f l nm := by
  unfold Gc gcode
  rw [if_neg (by omega), if_neg (by omega), List.take_of_length_le (i := C.length - (l + 1)) (by rw [List.length_drop, List.length_map]; exact Nat.le_refl _)]
theorem Gc_len (M : List Ins) (f l : Nat) (nm : Str) (i : Nat) : (Gc M f l nm i).length ≤ 3 * M.length + 2 := by
  unfold Gc
  split
  · simp; omega
  · split
    · simp; omega
    · simp; omega
theorem lcode_run (C : List Ins) (hC : C.length ≤ 100) (f l : Nat) (hf : f ≤ l) (hl : l < C.length) (nm : Str) (h : Hh) : m__law_code [encCode C, spD f l, .str nm] h = .ok (encCode (gcode C f l nm)) h := by
  have hi : i62 (C.length : Int) := by unfold i62; omega
  obtain ⟨ρ', h', e, ⟨v4, v5, rfl⟩, rfl⟩ := lp_rng (x := x1__law_code) (g := gNm 4) (lo := 0) (n := C.length) (ρ := [some (encCode C), some (spD f l), some (.str nm), some (.ref h.length), none, none]) (h := h ++ [.lst []])
    (fun i ρ h' => (∃ v4 v5, ρ = [some (encCode C), some (spD f l), some (.str nm), some (.ref h.length), v4, v5]) ∧ h' = h ++ [.lst ((Gc (C.map (mvI f l)) f l nm i).map encIns)]) ⟨⟨none, none, rfl⟩, by simp [Gc]⟩ (by
      rintro i ρ h1 hi ⟨⟨v4, v5, rfl⟩, rfl⟩
      have hgi := gi_run C i hi
      have hx : (C.map (mvI f l))[i]? = some (mvI f l (gi C i)) := by
        rw [List.getElem?_map, List.getElem?_eq_getElem hi]
        unfold gi
        rw [List.getElem?_eq_getElem hi]
        rfl
      have e2 := Gc_step (C.map (mvI f l)) f l hf nm i _ hx
      have hz := Gc_len (C.map (mvI f l)) f l nm i
      rw [List.length_map] at hz
      rw [e2]
      have ixC : ∀ h, ixD (encCode C) (.int i) h = .ok (encIns (gi C i)) h := fun h => by
        unfold encCode
        simp [hgi]
      generalize Gc (C.map (mvI f l)) f l nm i = S at *
      have z1 : S.length < sizeLine := by rw [sizeLine_eq]; omega
      have z2 : S.length + 1 < sizeLine := by rw [sizeLine_eq]; omega
      have z3 : S.length + 1 + 1 < sizeLine := by rw [sizeLine_eq]; omega
      have s0 : ∀ h, ixD (spD f l) (.int 0) h = .ok (.int f) h := fun _ => rfl
      have s1 : ∀ h, ixD (spD f l) (.int 1) h = .ok (.int l) h := fun _ => rfl
      have ep := fun pc h => place_run f l hf pc h
      generalize gi C i = I at *
      generalize encCode C = CC at *
      generalize spD f l = SP at *
      have hk : (∃ pc e, I = .go pc e) ∨ (¬ Str.ofString (kindI I) = Str.ofString "go" ∧ mvI f l I = I) := by
        cases I with
        | go pc e => exact .inl ⟨pc, e, rfl⟩
        | _ => exact .inr ⟨by rw [ofString_inj]; simp [kindI], rfl⟩
      obtain ⟨b1, hb1, q1⟩ : ∃ b : Bool, (if i = f then [Ins.lock nm] else []) = (if b then [Ins.lock nm] else []) ∧ ((i : Int) = (f : Int)) = (b = true) := ⟨decide (i = f), by simp, by rw [decide_eq_true_eq, eq_iff_iff]; omega⟩
      obtain ⟨b2, hb2, q2⟩ : ∃ b : Bool, (if i = l then [Ins.unlock nm] else []) = (if b then [Ins.unlock nm] else []) ∧ ((i : Int) = (l : Int)) = (b = true) := ⟨decide (i = l), by simp, by rw [decide_eq_true_eq, eq_iff_iff]; omega⟩
      rw [hb1, hb2]
      rcases hk with ⟨pc, e, rfl⟩ | ⟨hk, hm⟩
      · cases b1 <;> cases b2 <;> simp [x1__law_code, s0, s1, q1, q2, ixC, encIns, ep, methE_run, guardR_pos, appendD, mlOf, lstOf, z1, z2, z3, mvI]
      · have k0 := fun h => kindI_run I h
        have hk' : (Str.ofString (kindI I) = Str.ofString "go") = False := eq_false hk
        rw [hm]
        have eL : encIns (.lock nm) = .tup [.str "lock", .str nm] := rfl
        have eU : encIns (.unlock nm) = .tup [.str "unlock", .str nm] := rfl
        generalize hII : encIns I = II at *
        cases b1 <;> cases b2 <;> simp [x1__law_code, s0, s1, q1, q2, ixC, k0, hk', eL, eU, methE_run, guardR_pos, appendD, mlOf, lstOf, z1, z2, z3, hII])
  have hb : ∀ C : List Ins, below h.length (encCode C) = true := fun C => belows_map _ _ _ fun i _ => below_ins _ i
  unfold m__law_code
  refine cut_ok (g := [.lst ((Gc (C.map (mvI f l)) f l nm C.length).map encIns)]) ?_ (hb _)
  have hg : encCode (gcode C f l nm) = .tup ((Gc (C.map (mvI f l)) f l nm C.length).map encIns) := by
    rw [Gc_end C f l hl hf nm]; rfl
  rw [hg]
  have nn : nonD (spD f l) = false := rfl
  have lC : ∀ h, lenD [encCode C] h = .ok (.int C.length) h := fun h => by unfold encCode; simp
  generalize (Gc (C.map (mvI f l)) f l nm C.length).map encIns = M at *
  generalize encCode C = CC at *
  generalize spD f l = S at *
  simp [defF_run, b__law_code, nn, lC, rngD_1 hi, e]
/-! guards -/
abbrev Gd := Option (Nat × Nat)
def gE : Gd → D
  | none => .non
  | some p => spD p.1 p.2
def gOk (C : List Ins) : Gd → Bool
  | none => true
  | some p => guardB C p.1 p.2
def gCode (C : List Ins) (nm : Str) : Gd → List Ins
  | none => C
  | some p => gcode C p.1 p.2 nm
def smallG : Gd → Prop
  | none => True
  | some p => p.1 < 1000 ∧ p.2 < 1000
theorem guardB_le {C : List Ins} {f l : Nat} (h : guardB C f l = true) : f ≤ l ∧ l < C.length := by
  unfold guardB at h
  simp only [Bool.and_eq_true, decide_eq_true_eq] at h
  exact ⟨h.1.1.1, h.1.1.2⟩
theorem gcode_len (C : List Ins) (f l : Nat) (nm : Str) (hf : f ≤ l) (hl : l < C.length) : (gcode C f l nm).length = C.length + 2 := by
  unfold gcode
  simp
  omega
theorem below_code (n : Nat) (C : List Ins) : below n (encCode C) = true := belows_map _ _ _ fun i _ => below_ins _ i
theorem gth_run (C : List Ins) (hC : C.length ≤ 100) (nm : Str) (g : Gd) (hg : gOk C g = true) (h : Hh) : m_guarded_thread [encCode C, gE g, .str nm] h = .ok (encCode (gCode C nm g)) h := by
  cases g with
  | none =>
    unfold m_guarded_thread gE gCode
    refine cut_ok (g := []) ?_ (below_code _ _)
    generalize encCode C = CC
    simp [defF_run, b_guarded_thread]
  | some p =>
    obtain ⟨f, l⟩ := p
    have := guardB_le hg
    exact gthread_run C hC f l this.1 this.2 nm h
theorem lth_run (C : List Ins) (hC : C.length ≤ 100) (nm : Str) (g : Gd) (hg : gOk C g = true) (h : Hh) : m__law_code [encCode C, gE g, .str nm] h = .ok (encCode (gCode C nm g)) h := by
  cases g with
  | none =>
    unfold m__law_code gE gCode
    refine cut_ok (g := []) ?_ (below_code _ _)
    generalize encCode C = CC
    simp [defF_run, b__law_code]
  | some p =>
    obtain ⟨f, l⟩ := p
    have := guardB_le hg
    exact lcode_run C hC f l this.1 this.2 nm h
theorem raise_run {c f : Str} {d : D} {ρ : Ev.Env} {h : Hh} (hf : fmtD d = true) : raiseS c f (consA (cE d) nilA) ρ h = .rs c [(f, d)] ρ h := by
  have e : consA (cE d) nilA ρ h = .ok [d] h := rfl
  unfold raiseS
  rw [e, toS_ok]
  unfold rsE
  simp only
  rw [if_pos hf]
theorem cut_raise {f : List D → Hh → Res D} {ds : List D} {c : Str} {fs : List (Str × D)} {h g : Hh} (e : f ds h = .raise c fs (h ++ g)) (b : belowF h.length fs = true) : cutF f ds h = .raise c fs h := by
  unfold cutF
  rw [e]
  simp only
  rw [if_pos ⟨keptH_app g, b⟩]
  simp
theorem try_ret {c : Str} {i : Nat} {m : SS} {u : List (Str × D) → SS} {ρ : Ev.Env} {h h2 : Hh} {d : D} (e : m ρ h = .ret d h2) : tryS c i m u ρ h = .ret d h2 := by
  unfold tryS
  rw [e]
theorem try_rs {c : Str} {i : Nat} {m : SS} {u : List (Str × D) → SS} {ρ ρ2 : Ev.Env} {h h2 : Hh} {fs : List (Str × D)} (e : m ρ h = .rs c fs ρ2 h2) (hf : fs ≠ []) (hi : i < ρ2.length) : tryS c i m u ρ h = match u fs (ρ2.set i none) h2 with
    | .ret d h3 => .ret d h3
    | _ => .stuck := by
  unfold tryS
  rw [e]
  simp only
  rw [if_pos ⟨trivial, hf, hi⟩]
  all_goals (cases u fs (ρ2.set i none) h2 <;> rfl)
def refD (w : Str) : D := .tup [.str "refused", .str w]
/-- what guarded does: a value, or NoSuchPlace with a word -/
def Gres (d : D) (r : Res D) (h : Hh) : Prop := r = .ok d h ∨ ∃ w : Str, d = refD w ∧ r = .raise "NoSuchPlace" [("word", .str w)] h
theorem told_run {P G N d : D} {h : Hh} (hr : Gres d (m_guarded [P, G, N] h) h) : m__law_told [P, G, N] h = .ok d h := by
  rcases hr with e | ⟨w, rfl, e⟩
  · have e2 : tb1__law_told [some P, some G, some N, none] h = .ret d h := by
      simp [tb1__law_told, e]
    unfold m__law_told
    rw [defF_run]
    unfold b__law_told
    rw [show ([P, G, N].map some ++ List.replicate (4 - [P, G, N].length) none : Ev.Env) = [some P, some G, some N, none] from rfl, try_ret e2]
    rfl
  · have e2 : tb1__law_told [some P, some G, some N, none] h = .rs "NoSuchPlace" [("word", .str w)] [some P, some G, some N, none] h := by
      simp [tb1__law_told, e]
    unfold m__law_told
    rw [defF_run]
    unfold b__law_told
    rw [show ([P, G, N].map some ++ List.replicate (4 - [P, G, N].length) none : Ev.Env) = [some P, some G, some N, none] from rfl, try_rs e2 (by simp) (by simp)]
    simp [retX2, cX, fldX, List.lookup, refD]
/-! names -/
def names7 : List Str := ["guard", "x", "m", "lock", "a", "toolongname", "z9"]
theorem name7 (s : Str) (hs : s ∈ names7) (h : Hh) : m_is_name [.str s] h = .ok (.bl (!decide (s ∈ (["lock", "a", "toolongname"] : List Str)))) h := by
  have hp : ∀ l : List Nat, l.length ≤ 1000 → asc l → ∀ b, s = T l → nm l = b → b = (!decide (s ∈ (["lock", "a", "toolongname"] : List Str))) → m_is_name [.str s] h = .ok (.bl (!decide (s ∈ (["lock", "a", "toolongname"] : List Str)))) h := by
    intro l hl ha b e1 e2 e3
    rw [← e3, e1, name_run l hl ha h, e2]
  have hg : ∀ l : List Nat, T l ∉ resv → T l ∉ regs → (∃ c m, l = c :: m ∧ c ∈ letC) → l.length ≤ 8 → (∀ c ∈ l, c ∈ letC ++ digC) → nm l = true := fun l a b c d e => nm_iff.mpr ⟨a, b, c, d, e⟩
  simp only [names7, List.mem_cons, List.not_mem_nil, or_false] at hs
  rcases hs with rfl | rfl | rfl | rfl | rfl | rfl | rfl
  · exact hp [103, 117, 97, 114, 100] (by decide) (by unfold asc; decide) true (by decide +kernel) (hg _ (by decide +kernel) (by decide +kernel) ⟨_, _, rfl, by decide⟩ (by decide) (by decide)) (by decide +kernel)
  · exact hp [120] (by decide) (by unfold asc; decide) true (by decide +kernel) (hg _ (by decide +kernel) (by decide +kernel) ⟨_, _, rfl, by decide⟩ (by decide) (by decide)) (by decide +kernel)
  · exact hp [109] (by decide) (by unfold asc; decide) true (by decide +kernel) (hg _ (by decide +kernel) (by decide +kernel) ⟨_, _, rfl, by decide⟩ (by decide) (by decide)) (by decide +kernel)
  · exact hp [108, 111, 99, 107] (by decide) (by unfold asc; decide) false (by decide +kernel) (nm_f fun h => h.1 (by decide +kernel)) (by decide +kernel)
  · exact hp [97] (by decide) (by unfold asc; decide) false (by decide +kernel) (nm_f fun h => h.2.1 (by decide +kernel)) (by decide +kernel)
  · exact hp [116, 111, 111, 108, 111, 110, 103, 110, 97, 109, 101] (by decide) (by unfold asc; decide) false (by decide +kernel) (nm_f fun h => absurd h.2.2.2.1 (by decide)) (by decide +kernel)
  · exact hp [122, 57] (by decide) (by unfold asc; decide) true (by decide +kernel) (hg _ (by decide +kernel) (by decide +kernel) ⟨_, _, rfl, by decide⟩ (by decide) (by decide)) (by decide +kernel)
/-! the program: its things -/
def bad5 : List Str := ["x", "m", "lock", "a", "toolongname"]
/-- a row of things with their names -/
structure Th (th : List D) (ns : List Str) : Prop where
  run : ∀ (ρ : Ev.Env) (h : Hh) (m : EM D), m ρ h = .ok (.tup th) h → ρ.length = 8 → lcE (seqI m) 7 tYesE ce1_guarded ρ h = .ok (.lst (ns.map D.str)) h
  nms : ∀ s ∈ names7, (decide (s ∈ (["lock", "a", "toolongname"] : List Str)) || decide (s ∈ ns)) = decide (s ∈ bad5)
  ok : okDs th = true ∧ depDs th ≤ 1
  bel : ∀ n, belows n th = true
  len : th.length ≤ 6
def thI (d : D) : Str := match d with
  | .tup [_, .str s] => s
  | .tup [_, .str s, _] => s
  | _ => ""
theorem th_run (th : List D) (hl : th.length ≤ 10) (hd : ∀ d ∈ th, ∀ h, ixD d (.int 1) h = .ok (.str (thI d)) h) : ∀ (ρ : Ev.Env) (h : Hh) (m : EM D), m ρ h = .ok (.tup th) h → ρ.length = 8 → lcE (seqI m) 7 tYesE ce1_guarded ρ h = .ok (.lst ((th.map thI).map D.str)) h := by
  intro ρ h m e hlen
  refine lcE_run (l := th) (h1 := h) (by
    have : seqI m ρ h = (m ρ h).bind fun d h1 => itOf d h1 := rfl
    rw [this, e, bind_ok]; rfl) (by rw [sizeLine_eq]; omega) ?_
  have := lc_all (C := fun _ => True) (h := h) (ρ := ρ) (i := 7) (te := ce1_guarded) (f := fun d : D => d) (l := th) trivial (fun d => .str (thI d)) (by
    intro d hd'
    have h1 := hd d hd' h
    have hr : (ρ.set 7 (some d))[7]? = some (some d) := List.getElem?_set_self (by omega)
    simp [ce1_guarded, hr, h1])
  simpa [Function.comp_def] using this
theorem th4_ok : Th [.tup [.str "var", .str "x", .int 0], .tup [.str "lock", .str "m"], .tup [.str "var", .str "y", .int 1], .tup [.str "lock", .str "n"]] ["x", "m", "y", "n"] :=
  ⟨th_run _ (by decide) (by
    intro d hd h
    simp only [List.mem_cons, List.not_mem_nil, or_false] at hd
    rcases hd with rfl | rfl | rfl | rfl <;> rfl), by decide +kernel, by decide +kernel, fun _ => rfl, by decide⟩
theorem thD_ok : Th [.tup [.str "lock", .str "m"], .tup [.str "var", .str "x", .int 0], .tup [.str "cond", .str "w", .str "m"], .tup [.str "queue", .str "q", .int 1], .tup [.str "var", .str "y", .int 1], .tup [.str "lock", .str "n"]] ["m", "x", "w", "q", "y", "n"] :=
  ⟨th_run _ (by decide) (by
    intro d hd h
    simp only [List.mem_cons, List.not_mem_nil, or_false] at hd
    rcases hd with rfl | rfl | rfl | rfl | rfl | rfl <;> rfl), by decide +kernel, by decide +kernel, fun _ => rfl, by decide⟩
/-! guarded -/
def prD (th : List D) (A B : List Ins) : D := .tup [.tup th, .tup [encCode A, encCode B]]
theorem req_run (th : List D) (A B : List Ins) (hA : A.length < 1000) (hB : B.length < 1000) (g1 g2 : Gd) (s1 : smallG g1) (s2 : smallG g2) (h : Hh) :
    m_require_guards [prD th A B, .tup [gE g1, gE g2]] h = if (gOk A g1 && gOk B g2) = true then .ok .non h else .raise "NoSuchPlace" [("word", .str "guards")] h := by
  have hx : ∀ (C : List Ins) (g : Gd) (P G : D), C.length < 1000 → smallG g → x1_require_guards [some P, some G, some (encCode C), some (gE g)] h = if gOk C g = true then .nx [some P, some G, some (encCode C), some (gE g)] h else .rs "NoSuchPlace" [("word", .str "guards")] [some P, some G, some (encCode C), some (gE g)] h := by
    intro C g P G hC hs
    cases g with
    | none =>
      generalize encCode C = CC
      simp [x1_require_guards, gE, gOk]
    | some p =>
      obtain ⟨f, l⟩ := p
      have e1 := guard_run C hC f l hs.2 hs.1 h
      have e1 : m_can_be_guarded [encCode C, .int f, .int l] h = .ok (.bl (guardB C f l)) h := e1
      have er : ∀ ρ : Ev.Env, raiseS "NoSuchPlace" "word" (consA (cE (.str "guards")) nilA) ρ h = .rs "NoSuchPlace" [("word", .str "guards")] ρ h := fun ρ => raise_run (by decide +kernel)
      have nn : nonD (spD f l) = false := rfl
      have s0 : ∀ h, ixD (spD f l) (.int 0) h = .ok (.int f) h := fun _ => rfl
      have s1 : ∀ h, ixD (spD f l) (.int 1) h = .ok (.int l) h := fun _ => rfl
      show x1_require_guards [some P, some G, some (encCode C), some (spD f l)] h = if guardB C f l = true then .nx [some P, some G, some (encCode C), some (spD f l)] h else .rs "NoSuchPlace" [("word", .str "guards")] [some P, some G, some (encCode C), some (spD f l)] h
      generalize encCode C = CC at *
      generalize spD f l = S at *
      generalize guardB C f l = b at *
      cases b with
      | true => simp [x1_require_guards, nn, s0, s1, e1]
      | false => simp [x1_require_guards, nn, s0, s1, e1, er]
  have x1 := hx A g1 (prD th A B) (.tup [gE g1, gE g2]) hA s1
  have x2 := hx B g2 (prD th A B) (.tup [gE g1, gE g2]) hB s2
  have l0 : ∀ h, ixD (prD th A B) (.int 1) h = .ok (.tup [encCode A, encCode B]) h := fun _ => rfl
  generalize prD th A B = P at *
  have el : ∀ h, zipD [.tup [encCode A, encCode B], .tup [gE g1, gE g2]] h = .ok ⟨[.tup [encCode A, gE g1], .tup [encCode B, gE g2]], none⟩ h := fun _ => rfl
  have lG : ∀ h, lenD [.tup [gE g1, gE g2]] h = .ok (.int 2) h := fun _ => rfl
  have lP : ∀ h, lenD [.tup [encCode A, encCode B]] h = .ok (.int 2) h := fun _ => rfl
  have l1 : loopS (fun _ => True) (gTp [2, 3]) x1_require_guards [.tup [encCode A, gE g1], .tup [encCode B, gE g2]] [some P, some (.tup [gE g1, gE g2]), none, none] h = if (gOk A g1 && gOk B g2) = true then .nx [some P, some (.tup [gE g1, gE g2]), some (encCode B), some (gE g2)] h else if gOk A g1 = true then .rs "NoSuchPlace" [("word", .str "guards")] [some P, some (.tup [gE g1, gE g2]), some (encCode B), some (gE g2)] h else .rs "NoSuchPlace" [("word", .str "guards")] [some P, some (.tup [gE g1, gE g2]), some (encCode A), some (gE g1)] h := by
    rw [lpC_cons (ρ1 := [some P, some (.tup [gE g1, gE g2]), some (encCode A), some (gE g1)]) trivial rfl, x1]
    cases gOk A g1 with
    | false => simp
    | true =>
      simp only [if_true, Bool.true_and]
      rw [lpC_cons (ρ1 := [some P, some (.tup [gE g1, gE g2]), some (encCode B), some (gE g2)]) trivial rfl, x2]
      cases gOk B g2 with
      | false => simp
      | true => simp [lpC_nil]
  generalize gOk A g1 = b1 at *
  generalize gOk B g2 = b2 at *
  generalize gE g1 = G1 at *
  generalize gE g2 = G2 at *
  generalize encCode A = CA at *
  generalize encCode B = CB at *
  cases b1 <;> cases b2 <;> simp [m_require_guards, defF_run, b_require_guards, l0, lG, lP, el, l1]
theorem req1_run (th : List D) (A B : List Ins) (g1 : Gd) (h : Hh) :
    m_require_guards [prD th A B, .tup [gE g1]] h = .raise "NoSuchPlace" [("word", .str "guards")] h := by
  have l0 : ∀ h, ixD (prD th A B) (.int 1) h = .ok (.tup [encCode A, encCode B]) h := fun _ => rfl
  generalize prD th A B = P at *
  have lG : ∀ h, lenD [.tup [gE g1]] h = .ok (.int 1) h := fun _ => rfl
  have lP : ∀ h, lenD [.tup [encCode A, encCode B]] h = .ok (.int 2) h := fun _ => rfl
  have er : ∀ ρ : Ev.Env, raiseS "NoSuchPlace" "word" (consA (cE (.str "guards")) nilA) ρ h = .rs "NoSuchPlace" [("word", .str "guards")] ρ h := fun ρ => raise_run (by decide +kernel)
  generalize gE g1 = G1 at *
  generalize encCode A = CA at *
  generalize encCode B = CB at *
  simp [m_require_guards, defF_run, b_require_guards, l0, lG, lP, er]
def fits (A B : List Ins) (nm : Str) (g1 g2 : Gd) : Bool := decide ((gCode A nm g1).length ≤ 12) && decide ((gCode B nm g2).length ≤ 12)
def goodD (th : List D) (A B : List Ins) (nm : Str) (g1 g2 : Gd) : D := .tup [.tup (th ++ [.tup [.str "lock", .str nm]]), .tup [encCode (gCode A nm g1), encCode (gCode B nm g2)]]
def outD2 (th : List D) (A B : List Ins) (nm : Str) (g1 g2 : Gd) : D := if nm ∈ bad5 then refD "name" else if 6 ≤ th.length then refD "shared" else if (gOk A g1 && gOk B g2) = true then (if fits A B nm g1 g2 = true then goodD th A B nm g1 g2 else refD "many") else refD "guards"
def outD1 (th : List D) (nm : Str) : D := if nm ∈ bad5 then refD "name" else if 6 ≤ th.length then refD "shared" else refD "guards"
def outD (th : List D) (A B : List Ins) (nm : Str) : List Gd → D
  | [g1, g2] => outD2 th A B nm g1 g2
  | _ => outD1 th nm
theorem outD_bad {th : List D} {A B : List Ins} {nm : Str} {gs : List Gd} (hb : nm ∈ bad5) : outD th A B nm gs = refD "name" := by
  unfold outD
  split
  · unfold outD2; rw [if_pos hb]
  · unfold outD1; rw [if_pos hb]
theorem outD_six {th : List D} {A B : List Ins} {nm : Str} {gs : List Gd} (hb : ¬ nm ∈ bad5) (h6 : 6 ≤ th.length) : outD th A B nm gs = refD "shared" := by
  unfold outD
  split
  · unfold outD2; rw [if_neg hb, if_pos h6]
  · unfold outD1; rw [if_neg hb, if_pos h6]
theorem addth (th : List D) (nm : Str) (hl : th.length ≤ 6) (h : Hh) : addD (.tup th) (.tup [.tup [.str "lock", .str nm]]) h = .ok (.tup (th ++ [.tup [.str "lock", .str nm]])) h := addD_tup _ _ (by rw [sizeLine_eq]; simp; omega)
theorem x2_run (C : List Ins) (hC : C.length ≤ 100) (nm : Str) (g : Gd) (hg : gOk C g = true) (P G : D) (n : Nat) (l : List D) (v7 v6 : Option D) (h : Hh) (r : h[n]? = some (.lst l)) (hl : l.length < 100) :
    x2_guarded [some P, some G, some (.str nm), some (.ref n), some (encCode C), some (gE g), v6, v7] h = if decide ((gCode C nm g).length ≤ 12) = true then .nx [some P, some G, some (.str nm), some (.ref n), some (encCode C), some (gE g), some (encCode (gCode C nm g)), v7] (h.set n (.lst (l ++ [encCode (gCode C nm g)]))) else .rs "NoSuchPlace" [("word", .str "many")] [some P, some G, some (.str nm), some (.ref n), some (encCode C), some (gE g), some (encCode (gCode C nm g)), v7] h := by
  have e1 := gth_run C hC nm g hg h
  have e2 : lenD [encCode (gCode C nm g)] h = .ok (.int (gCode C nm g).length) h := by
    have : (gCode C nm g).length ≤ 102 := by
      cases g with
      | none => exact Nat.le_trans hC (by omega)
      | some p =>
        obtain ⟨f, l⟩ := p
        have := guardB_le hg
        show (gcode C f l nm).length ≤ 102
        rw [gcode_len C f l nm this.1 this.2]
        omega
    unfold encCode
    simp
  have er : ∀ ρ : Ev.Env, raiseS "NoSuchPlace" "word" (consA (cE (.str "many")) nilA) ρ h = .rs "NoSuchPlace" [("word", .str "many")] ρ h := fun ρ => raise_run (by decide +kernel)
  have hz : l.length < sizeLine := by rw [sizeLine_eq]; omega
  have q : ((12 : Int) < ((gCode C nm g).length : Int)) = ¬ (gCode C nm g).length ≤ 12 := by rw [eq_iff_iff]; omega
  generalize (gCode C nm g).length = m at *
  generalize encCode (gCode C nm g) = GC at *
  generalize encCode C = CC at *
  generalize gE g = GG at *
  by_cases hm : m ≤ 12
  · simp [x2_guarded, e1, e2, c_MOST_INSTRUCTIONS, q, hm, methE_run, guardR_pos, appendD, mlOf, lstOf, r, hz]
  · simp [x2_guarded, e1, e2, c_MOST_INSTRUCTIONS, q, hm, er]
theorem guarded_run (th : List D) (ns : List Str) (ht : Th th ns) (A B : List Ins) (hA : A.length ≤ 100) (hB : B.length ≤ 100) (nm : Str) (hn : nm ∈ names7) (gs : List Gd) (hg : ∀ g ∈ gs, smallG g) (hl : gs.length = 1 ∨ gs.length = 2) (h : Hh) :
    Gres (outD th A B nm gs) (m_guarded [prD th A B, .tup (gs.map gE), .str nm] h) h := by
  have en := name7 nm hn h
  have hnm := ht.nms nm hn
  have l0 : ∀ h, ixD (prD th A B) (.int 0) h = .ok (.tup th) h := fun _ => rfl
  have l1 : ∀ h, ixD (prD th A B) (.int 1) h = .ok (.tup [encCode A, encCode B]) h := fun _ => rfl
  have ein : inD (.str nm) (.lst (ns.map D.str)) h = .ok (.bl (decide (nm ∈ ns))) h := inD_strs ns nm
  have elc := ht.run [some (prD th A B), some (.tup (gs.map gE)), some (.str nm), none, none, none, none, none] h (binE ixD (varE 0) (cE (.int 0))) (by simp [l0]) rfl
  have er : ∀ (w : Str), fmtD (.str w) = true → ∀ ρ : Ev.Env, raiseS "NoSuchPlace" "word" (consA (cE (.str w)) nilA) ρ h = .rs "NoSuchPlace" [("word", .str w)] ρ h := fun w hw ρ => raise_run hw
  have er1 := er "name" (by decide +kernel)
  have er2 := er "shared" (by decide +kernel)
  have lT : lenD [.tup th] h = .ok (.int th.length) h := by have := ht.len; simp
  by_cases hb : nm ∈ bad5
  · have ho : outD th A B nm gs = refD "name" := outD_bad hb
    refine .inr ⟨"name", ho, ?_⟩
    unfold m_guarded
    refine cut_raise (g := []) ?_ rfl
    rw [List.append_nil]
    rw [decide_eq_true hb] at hnm
    generalize hb1 : decide (nm ∈ (["lock", "a", "toolongname"] : List Str)) = b1 at en hnm
    generalize decide (nm ∈ ns) = b2 at *
    generalize prD th A B = P at *
    cases b1 with
    | true => simp [defF_run, b_guarded, en, er1]
    | false =>
      have : b2 = true := by simpa using hnm
      subst this
      simp [defF_run, b_guarded, en, elc, ein, er1]
  · rw [decide_eq_false hb, Bool.or_eq_false_iff] at hnm
    rw [hnm.1] at en
    rw [hnm.2] at ein
    by_cases h6 : 6 ≤ th.length
    · have ho : outD th A B nm gs = refD "shared" := outD_six hb h6
      refine .inr ⟨"shared", ho, ?_⟩
      unfold m_guarded
      refine cut_raise (g := []) ?_ rfl
      rw [List.append_nil]
      have q : ((6 : Int) ≤ (th.length : Int)) = True := by rw [eq_iff_iff]; simp; omega
      generalize prD th A B = P at *
      simp [defF_run, b_guarded, en, elc, ein, er2, l0, lT, c_MOST_SHARED, q]
    · have q : ((6 : Int) ≤ (th.length : Int)) = False := by rw [eq_iff_iff]; simp; omega
      match gs, hl with
      | [g1], _ =>
        have ho : outD th A B nm [g1] = refD "guards" := by show outD1 th nm = _; unfold outD1; rw [if_neg hb, if_neg h6]
        have e3 := req1_run th A B g1 h
        refine .inr ⟨"guards", ho, ?_⟩
        unfold m_guarded
        refine cut_raise (g := []) ?_ rfl
        rw [List.append_nil]
        simp only [List.map_cons, List.map_nil] at elc ⊢
        generalize prD th A B = P at *
        simp [defF_run, b_guarded, en, elc, ein, er2, l0, lT, c_MOST_SHARED, q, e3]
      | [g1, g2], _ =>
        have e3 := req_run th A B (by omega) (by omega) g1 g2 (hg g1 (by simp)) (hg g2 (by simp)) h
        by_cases hok : (gOk A g1 && gOk B g2) = true
        · rw [if_pos hok] at e3
          have hok' := hok
          rw [Bool.and_eq_true] at hok
          have el : ∀ h, zipD [.tup [encCode A, encCode B], .tup [gE g1, gE g2]] h = .ok ⟨[.tup [encCode A, gE g1], .tup [encCode B, gE g2]], none⟩ h := fun _ => rfl
          have hs : ∀ (x y : O), (h ++ [x]).set h.length y = h ++ [y] := fun x y => by simp
          have a1 := x2_run A hA nm g1 hok.1 (prD th A B) (.tup [gE g1, gE g2]) h.length [] none none (h ++ [.lst []]) (by simp) (by simp)
          have a2 := x2_run B hB nm g2 hok.2 (prD th A B) (.tup [gE g1, gE g2]) h.length [encCode (gCode A nm g1)] none (some (encCode (gCode A nm g1))) (h ++ [.lst [encCode (gCode A nm g1)]]) (by simp) (by simp)
          by_cases hf : fits A B nm g1 g2 = true
          · have ho : outD th A B nm [g1, g2] = goodD th A B nm g1 g2 := by show outD2 th A B nm g1 g2 = _; unfold outD2; rw [if_neg hb, if_neg h6, if_pos hok', if_pos hf]
            refine .inl ?_
            rw [ho]
            unfold fits at hf
            rw [Bool.and_eq_true] at hf
            rw [if_pos hf.1] at a1
            rw [if_pos hf.2] at a2
            have lp : loopS (fun _ => True) (gTp [4, 5]) x2_guarded [.tup [encCode A, gE g1], .tup [encCode B, gE g2]] [some (prD th A B), some (.tup [gE g1, gE g2]), some (.str nm), some (.ref h.length), none, none, none, none] (h ++ [.lst []]) = .nx [some (prD th A B), some (.tup [gE g1, gE g2]), some (.str nm), some (.ref h.length), some (encCode B), some (gE g2), some (encCode (gCode B nm g2)), none] (h ++ [.lst [encCode (gCode A nm g1), encCode (gCode B nm g2)]]) := by
              rw [lpC_cons (ρ1 := [some (prD th A B), some (.tup [gE g1, gE g2]), some (.str nm), some (.ref h.length), some (encCode A), some (gE g1), none, none]) trivial rfl, a1]
              simp only
              rw [lpC_cons (ρ1 := [some (prD th A B), some (.tup [gE g1, gE g2]), some (.str nm), some (.ref h.length), some (encCode B), some (gE g2), some (encCode (gCode A nm g1)), none]) trivial rfl]
              simp only [hs, List.nil_append]
              rw [a2]
              simp [lpC_nil]
            have ha := fun h => addth th nm ht.len h
            have et : ∀ g, tupleD [.ref h.length] (h ++ [.lst g]) = .ok (.tup g) (h ++ [.lst g]) := fun g => by simp
            unfold m_guarded
            refine cut_ok (g := [.lst [encCode (gCode A nm g1), encCode (gCode B nm g2)]]) ?_ ?_
            · unfold goodD
              simp only [List.map_cons, List.map_nil] at elc ⊢
              generalize encCode (gCode A nm g1) = C1 at *
              generalize encCode (gCode B nm g2) = C2 at *
              generalize prD th A B = P at *
              generalize encCode A = CA at *
              generalize encCode B = CB at *
              generalize gE g1 = G1 at *
              generalize gE g2 = G2 at *
              generalize th ++ [D.tup [.str "lock", .str nm]] = TH at *
              simp [defF_run, b_guarded, en, elc, ein, er2, l0, l1, lT, c_MOST_SHARED, q, e3, el, lp, ha, et]
            · unfold goodD
              have hb : belows h.length (th ++ [D.tup [.str "lock", .str nm]]) = true := (belows_all _ _).mpr fun d hd => by
                rcases List.mem_append.mp hd with hd | hd
                · exact (belows_all _ _).mp (ht.bel _) d hd
                · rw [List.mem_singleton.mp hd]; rfl
              have e : below h.length (D.tup (th ++ [D.tup [.str "lock", .str nm]])) = true := hb
              simp [below_code, e]
          · have ho : outD th A B nm [g1, g2] = refD "many" := by show outD2 th A B nm g1 g2 = _; unfold outD2; rw [if_neg hb, if_neg h6, if_pos hok', if_neg hf]
            refine .inr ⟨"many", ho, ?_⟩
            rw [Bool.not_eq_true] at hf
            unfold fits at hf
            have lp : ∃ ρ l, ρ.length = 8 ∧ loopS (fun _ => True) (gTp [4, 5]) x2_guarded [.tup [encCode A, gE g1], .tup [encCode B, gE g2]] [some (prD th A B), some (.tup [gE g1, gE g2]), some (.str nm), some (.ref h.length), none, none, none, none] (h ++ [.lst []]) = .rs "NoSuchPlace" [("word", .str "many")] ρ (h ++ [.lst l]) := by
              rw [lpC_cons (ρ1 := [some (prD th A B), some (.tup [gE g1, gE g2]), some (.str nm), some (.ref h.length), some (encCode A), some (gE g1), none, none]) trivial rfl, a1]
              cases hc1 : decide ((gCode A nm g1).length ≤ 12) with
              | false =>
                simp only [Bool.false_eq_true, if_false]
                exact ⟨_, _, rfl, rfl⟩
              | true =>
                rw [hc1, Bool.true_and] at hf
                simp only [if_true]
                rw [lpC_cons (ρ1 := [some (prD th A B), some (.tup [gE g1, gE g2]), some (.str nm), some (.ref h.length), some (encCode B), some (gE g2), some (encCode (gCode A nm g1)), none]) trivial rfl]
                simp only [hs, List.nil_append]
                rw [a2, hf]
                simp only [Bool.false_eq_true, if_false]
                exact ⟨_, _, rfl, rfl⟩
            obtain ⟨ρ, l, _, lp⟩ := lp
            unfold m_guarded
            refine cut_raise (g := [.lst l]) ?_ rfl
            simp only [List.map_cons, List.map_nil] at elc ⊢
            generalize encCode (gCode A nm g1) = C1 at *
            generalize encCode (gCode B nm g2) = C2 at *
            generalize prD th A B = P at *
            generalize encCode A = CA at *
            generalize encCode B = CB at *
            generalize gE g1 = G1 at *
            generalize gE g2 = G2 at *
            simp [defF_run, b_guarded, en, elc, ein, er2, l0, l1, lT, c_MOST_SHARED, q, e3, el, lp]
        · have ho : outD th A B nm [g1, g2] = refD "guards" := by show outD2 th A B nm g1 g2 = _; unfold outD2; rw [if_neg hb, if_neg h6, if_neg hok]
          rw [if_neg hok] at e3
          refine .inr ⟨"guards", ho, ?_⟩
          unfold m_guarded
          refine cut_raise (g := []) ?_ rfl
          rw [List.append_nil]
          simp only [List.map_cons, List.map_nil] at elc ⊢
          generalize prD th A B = P at *
          simp [defF_run, b_guarded, en, elc, ein, er2, l0, lT, c_MOST_SHARED, q, e3]
      | [], h => simp at h
      | _ :: _ :: _ :: _, h => simp at h
/-! what is due -/
theorem fits_iff {A B : List Ins} (nm : Str) {g1 g2 : Gd} (hA : A.length ≤ 12) (hB : B.length ≤ 12) (h1 : gOk A g1 = true) (h2 : gOk B g2 = true) : fits A B nm g1 g2 = ((g1.isNone || decide (A.length ≤ 10)) && (g2.isNone || decide (B.length ≤ 10))) := by
  have : ∀ {C : List Ins} {g : Gd}, C.length ≤ 12 → gOk C g = true → decide ((gCode C nm g).length ≤ 12) = (g.isNone || decide (C.length ≤ 10)) := by
    intro C g hC hg
    cases g with
    | none => show decide (C.length ≤ 12) = true; exact decide_eq_true hC
    | some p =>
      obtain ⟨f, l⟩ := p
      have := guardB_le hg
      show decide ((gcode C f l nm).length ≤ 12) = decide (C.length ≤ 10)
      rw [gcode_len C f l nm this.1 this.2, decide_eq_decide]
      omega
  unfold fits
  rw [this hA h1, this hB h2]
theorem due_run (th : List D) (ht : th.length ≤ 6) (A B : List Ins) (hA : A.length ≤ 12) (hB : B.length ≤ 12) (nm : Str) (gs : List Gd) (hg : ∀ g ∈ gs, smallG g) (hl : gs.length = 1 ∨ gs.length = 2) (h : Hh) :
    m__law_due [prD th A B, .tup (gs.map gE), .str nm] h = .ok (outD th A B nm gs) h := by
  have l0 : ∀ h, ixD (prD th A B) (.int 0) h = .ok (.tup th) h := fun _ => rfl
  have l1 : ∀ h, ixD (prD th A B) (.int 1) h = .ok (.tup [encCode A, encCode B]) h := fun _ => rfl
  have ein : inD (.str nm) (.lst [.str "x", .str "m", .str "lock", .str "a", .str "toolongname"]) h = .ok (.bl (decide (nm ∈ bad5))) h := inD_strs bad5 nm
  have lT : ∀ h, lenD [.tup th] h = .ok (.int th.length) h := fun h => by simp
  by_cases hb : nm ∈ bad5
  · rw [outD_bad hb]
    rw [decide_eq_true hb] at ein
    generalize prD th A B = P at *
    simp [m__law_due, defF_run, b__law_due, ein, refD]
  · rw [decide_eq_false hb] at ein
    by_cases h6 : 6 ≤ th.length
    · have q : ((6 : Int) ≤ (th.length : Int)) = True := by rw [eq_iff_iff]; simp; omega
      rw [outD_six hb h6]
      generalize prD th A B = P at *
      simp [m__law_due, defF_run, b__law_due, ein, refD, l0, lT, q]
    · have q : ((6 : Int) ≤ (th.length : Int)) = False := by rw [eq_iff_iff]; simp; omega
      match gs, hl with
      | [g1], _ =>
        have ho : outD th A B nm [g1] = refD "guards" := by show outD1 th nm = _; unfold outD1; rw [if_neg hb, if_neg h6]
        have lG : ∀ h, lenD [.tup [gE g1]] h = .ok (.int 1) h := fun _ => rfl
        rw [ho]
        simp only [List.map_cons, List.map_nil]
        generalize prD th A B = P at *
        generalize gE g1 = G1 at *
        simp [m__law_due, defF_run, b__law_due, ein, refD, l0, lT, q, lG]
      | [g1, g2], _ =>
        show m__law_due [prD th A B, .tup [gE g1, gE g2], .str nm] h = .ok (outD2 th A B nm g1 g2) h
        have i2 : i62 (2 : Int) := by unfold i62; omega
        have lG : ∀ h, lenD [.tup [gE g1, gE g2]] h = .ok (.int 2) h := fun _ => rfl
        have G0 : ∀ h, ixD (.tup [gE g1, gE g2]) (.int 0) h = .ok (gE g1) h := fun _ => rfl
        have G1 : ∀ h, ixD (.tup [gE g1, gE g2]) (.int 1) h = .ok (gE g2) h := fun _ => rfl
        have C0 : ∀ h, ixD (.tup [encCode A, encCode B]) (.int 0) h = .ok (encCode A) h := fun _ => rfl
        have C1 : ∀ h, ixD (.tup [encCode A, encCode B]) (.int 1) h = .ok (encCode B) h := fun _ => rfl
        have hx1 : ∀ (G CC : D) (k : Int) (C : List Ins) (g : Gd) (v : Option D), C.length ≤ 12 → smallG g → (∀ h, ixD (prD th A B) (.int 1) h = .ok CC h) → (∀ h, ixD G (.int k) h = .ok (gE g) h) → (∀ h, ixD CC (.int k) h = .ok (encCode C) h) →
            x1__law_due [some (prD th A B), some G, some (.str nm), some (.int k), v] h = if gOk C g = true then .nx [some (prD th A B), some G, some (.str nm), some (.int k), v] h else .ret (refD "guards") h := by
          intro G CC k C g v hC hs e1 e2 e3
          cases g with
          | none =>
            have e2 : ∀ h, ixD G (.int k) h = .ok .non h := e2
            generalize prD th A B = P at *
            simp [x1__law_due, e2, gOk]
          | some p =>
            obtain ⟨f, l⟩ := p
            have e4 := lguard_run C (by omega) f l hs.2 hs.1 h
            have e4 : m__law_guardable [encCode C, .int f, .int l] h = .ok (.bl (guardB C f l)) h := e4
            have nn : nonD (spD f l) = false := rfl
            have s0 : ∀ h, ixD (spD f l) (.int 0) h = .ok (.int f) h := fun _ => rfl
            have s1 : ∀ h, ixD (spD f l) (.int 1) h = .ok (.int l) h := fun _ => rfl
            have e2 : ∀ h, ixD G (.int k) h = .ok (spD f l) h := e2
            show _ = if guardB C f l = true then _ else _
            generalize prD th A B = P at *
            generalize encCode C = CD at *
            generalize spD f l = S at *
            generalize guardB C f l = b at *
            cases b with
            | true => simp [x1__law_due, nn, e1, e2, e3, s0, s1, e4]
            | false => simp [x1__law_due, nn, e1, e2, e3, s0, s1, e4, refD]
        have hx2 : ∀ (G CC : D) (k : Int) (C : List Ins) (g : Gd) (v : Option D), C.length ≤ 12 → (∀ h, ixD (prD th A B) (.int 1) h = .ok CC h) → (∀ h, ixD G (.int k) h = .ok (gE g) h) → (∀ h, ixD CC (.int k) h = .ok (encCode C) h) →
            x2__law_due [some (prD th A B), some G, some (.str nm), some (.int k), v] h = if (g.isNone || decide (C.length ≤ 10)) = true then .nx [some (prD th A B), some G, some (.str nm), some (.int k), v] h else .ret (refD "many") h := by
          intro G CC k C g v hC e1 e2 e3
          cases g with
          | none =>
            have e2 : ∀ h, ixD G (.int k) h = .ok .non h := e2
            generalize prD th A B = P at *
            simp [x2__law_due, e2]
          | some p =>
            obtain ⟨f, l⟩ := p
            have nn : nonD (spD f l) = false := rfl
            have e2 : ∀ h, ixD G (.int k) h = .ok (spD f l) h := e2
            have e4 : lenD [encCode C] h = .ok (.int C.length) h := by unfold encCode; simp
            have q : ((10 : Int) < (C.length : Int)) = ¬ C.length ≤ 10 := by rw [eq_iff_iff]; omega
            generalize prD th A B = P at *
            generalize encCode C = CD at *
            generalize spD f l = S at *
            generalize C.length = m at *
            by_cases hm : m ≤ 10
            · simp [x2__law_due, nn, e1, e2, e3, e4, q, hm]
            · simp [x2__law_due, nn, e1, e2, e3, e4, q, hm, refD]
        have y1 := fun v => hx1 (.tup [gE g1, gE g2]) _ 0 A g1 v hA (hg g1 (by simp)) l1 G0 C0
        have y2 := fun v => hx1 (.tup [gE g1, gE g2]) _ 1 B g2 v hB (hg g2 (by simp)) l1 G1 C1
        have z1 := fun v => hx2 (.tup [gE g1, gE g2]) _ 0 A g1 v hA l1 G0 C0
        have z2 := fun v => hx2 (.tup [gE g1, gE g2]) _ 1 B g2 v hB l1 G1 C1
        have hr : rngL 0 2 = [.int 0, .int 1] := by rfl
        have lp1 : loopS (fun _ => True) (gNm 3) x1__law_due (rngL 0 2) [some (prD th A B), some (.tup [gE g1, gE g2]), some (.str nm), none, none] h = if (gOk A g1 && gOk B g2) = true then .nx [some (prD th A B), some (.tup [gE g1, gE g2]), some (.str nm), some (.int 1), none] h else .ret (refD "guards") h := by
          rw [hr, lpC_cons (ρ1 := [some (prD th A B), some (.tup [gE g1, gE g2]), some (.str nm), some (.int 0), none]) trivial rfl, y1]
          cases gOk A g1 with
          | false => simp
          | true =>
            simp only [if_true, Bool.true_and]
            rw [lpC_cons (ρ1 := [some (prD th A B), some (.tup [gE g1, gE g2]), some (.str nm), some (.int 1), none]) trivial rfl, y2]
            cases gOk B g2 with
            | false => simp
            | true => simp [lpC_nil]
        have lp2 : loopS (fun _ => True) (gNm 3) x2__law_due (rngL 0 2) [some (prD th A B), some (.tup [gE g1, gE g2]), some (.str nm), some (.int 1), none] h = if ((g1.isNone || decide (A.length ≤ 10)) && (g2.isNone || decide (B.length ≤ 10))) = true then .nx [some (prD th A B), some (.tup [gE g1, gE g2]), some (.str nm), some (.int 1), none] h else .ret (refD "many") h := by
          rw [hr, lpC_cons (ρ1 := [some (prD th A B), some (.tup [gE g1, gE g2]), some (.str nm), some (.int 0), none]) trivial rfl, z1]
          cases (g1.isNone || decide (A.length ≤ 10)) with
          | false => simp
          | true =>
            simp only [if_true, Bool.true_and]
            rw [lpC_cons (ρ1 := [some (prD th A B), some (.tup [gE g1, gE g2]), some (.str nm), some (.int 1), none]) trivial rfl, z2]
            cases (g2.isNone || decide (B.length ≤ 10)) with
            | false => simp
            | true => simp [lpC_nil]
        unfold outD2
        rw [if_neg hb, if_neg h6]
        by_cases hok : (gOk A g1 && gOk B g2) = true
        · rw [if_pos hok] at lp1 ⊢
          rw [Bool.and_eq_true] at hok
          rw [fits_iff nm hA hB hok.1 hok.2]
          by_cases hf : ((g1.isNone || decide (A.length ≤ 10)) && (g2.isNone || decide (B.length ≤ 10))) = true
          · rw [if_pos hf] at lp2 ⊢
            have ecm : lcE (rngI (consA (cE (.int 2)) nilA)) 3 tYesE ce3__law_due [some (prD th A B), some (.tup [gE g1, gE g2]), some (.str nm), some (.int 1), none] h = .ok (.lst [encCode (gCode A nm g1), encCode (gCode B nm g2)]) h := by
              refine lcE_run (l := [.int 0, .int 1]) (h1 := h) (by simp [rngD_1 i2, hr]) (by rw [sizeLine_eq]; simp) ?_
              have := lc_all (C := fun _ => True) (h := h) (ρ := [some (prD th A B), some (.tup [gE g1, gE g2]), some (.str nm), some (.int 1), none]) (i := 3) (te := ce3__law_due) (f := fun p : Int × List Ins × Gd => D.int p.1) (l := [(0, A, g1), (1, B, g2)]) trivial (fun p => encCode (gCode p.2.1 nm p.2.2)) (by
                have a1 := lth_run A (by omega) nm g1 hok.1 h
                have a2 := lth_run B (by omega) nm g2 hok.2 h
                generalize prD th A B = P at *
                intro a ha
                simp only [List.mem_cons, List.not_mem_nil, or_false] at ha
                rcases ha with rfl | rfl
                · simp only [ce3__law_due]
                  generalize encCode (gCode A nm g1) = R1 at *
                  generalize encCode A = CA at *
                  generalize encCode B = CB at *
                  generalize gE g1 = H1 at *
                  generalize gE g2 = H2 at *
                  simp [l1, C0, G0, a1]
                · simp only [ce3__law_due]
                  generalize encCode (gCode B nm g2) = R1 at *
                  generalize encCode A = CA at *
                  generalize encCode B = CB at *
                  generalize gE g1 = H1 at *
                  generalize gE g2 = H2 at *
                  simp [l1, C1, G1, a2])
              exact this
            have ha := fun h => addth th nm ht h
            unfold goodD
            generalize encCode (gCode A nm g1) = R1 at *
            generalize encCode (gCode B nm g2) = R2 at *
            have et : ∀ h, tupleD [.lst [R1, R2]] h = .ok (.tup [R1, R2]) h := fun _ => rfl
            generalize prD th A B = P at *
            generalize encCode A = CA at *
            generalize encCode B = CB at *
            generalize gE g1 = H1 at *
            generalize gE g2 = H2 at *
            generalize th ++ [D.tup [.str "lock", .str nm]] = TH at *
            rw [hr] at lp1 lp2
            simp [m__law_due, defF_run, b__law_due, ein, l0, lT, q, lG, rngD_1 i2, hr, lp1, lp2, ecm, ha, et]
          · rw [if_neg hf] at lp2 ⊢
            generalize prD th A B = P at *
            generalize encCode A = CA at *
            generalize encCode B = CB at *
            generalize gE g1 = H1 at *
            generalize gE g2 = H2 at *
            rw [hr] at lp1 lp2
            simp [m__law_due, defF_run, b__law_due, ein, l0, lT, q, lG, rngD_1 i2, hr, lp1, lp2]
        · rw [if_neg hok] at lp1 ⊢
          generalize prD th A B = P at *
          generalize encCode A = CA at *
          generalize encCode B = CB at *
          generalize gE g1 = H1 at *
          generalize gE g2 = H2 at *
          rw [hr] at lp1
          simp [m__law_due, defF_run, b__law_due, ein, l0, lT, q, lG, rngD_1 i2, hr, lp1]
      | [], h => simp at h
      | _ :: _ :: _ :: _, h => simp at h
/-! both are the same -/
theorem mvI_ok (f l : Int) (i : Ins) (h : iok i) : iok (mvI f l i) := by
  cases i with
  | go pc e =>
    refine zpc_ok _ ?_
    show iok (.go 0 e)
    exact h
  | _ => exact h
theorem gcode_ok (C : List Ins) (f l : Nat) (nm : Str) (h : Cok C) (h1 : iok (.lock nm)) (h2 : iok (.unlock nm)) : Cok (gcode C f l nm) := by
  have hm : Cok (C.map (mvI f l)) := fun i hi => by
    obtain ⟨j, hj, rfl⟩ := List.mem_map.mp hi
    exact mvI_ok _ _ _ (h j hj)
  intro i hi
  unfold gcode at hi
  simp only [List.mem_append, List.mem_singleton] at hi
  rcases hi with (((hi | rfl) | hi) | rfl) | hi
  · exact hm i (List.mem_of_mem_take hi)
  · exact h1
  · exact hm i (List.mem_of_mem_drop (List.mem_of_mem_take hi))
  · exact h2
  · exact hm i (List.mem_of_mem_drop hi)
theorem names7_ok : ∀ nm ∈ names7, iok (.lock nm) ∧ iok (.unlock nm) := by
  have : ∀ nm ∈ names7, (okD (encIns (.lock nm)) = true ∧ depD (encIns (.lock nm)) ≤ 8) ∧ (okD (encIns (.unlock nm)) = true ∧ depD (encIns (.unlock nm)) ≤ 8) := by decide +kernel
  exact this
theorem gCode_ok (C : List Ins) (g : Gd) (nm : Str) (hn : nm ∈ names7) (h : Cok C) : Cok (gCode C nm g) := by
  cases g with
  | none => exact h
  | some p => exact gcode_ok C p.1 p.2 nm h (names7_ok nm hn).1 (names7_ok nm hn).2
theorem code_ok {C : List Ins} (h : Cok C) : okD (encCode C) = true ∧ depD (encCode C) ≤ 9 :=
  ⟨okDs_map C fun i hi => (h i hi).1, Nat.succ_le_succ (depDs_map C fun i hi => (h i hi).2)⟩
theorem okDs_app (l m : List D) : okDs (l ++ m) = (okDs l && okDs m) := by
  induction l with
  | nil => rfl
  | cons a l ih => show (okD a && okDs (l ++ m)) = ((okD a && okDs l) && okDs m); rw [ih, Bool.and_assoc]
theorem depDs_app (l m : List D) : depDs (l ++ m) = max (depDs l) (depDs m) := by
  induction l with
  | nil => show depDs m = max 0 (depDs m); omega
  | cons a l ih => show max (depD a) (depDs (l ++ m)) = max (max (depD a) (depDs l)) (depDs m); rw [ih]; omega
theorem out_cmp (th : List D) (h1 : okDs th = true) (h2 : depDs th ≤ 1) (A B : List Ins) (hA : Cok A) (hB : Cok B) (nm : Str) (hn : nm ∈ names7) (gs : List Gd) : CmpOk (outD th A B nm gs) := by
  have r1 : CmpOk (refD "name") := by unfold CmpOk; decide +kernel
  have r2 : CmpOk (refD "shared") := by unfold CmpOk; decide +kernel
  have r3 : CmpOk (refD "guards") := by unfold CmpOk; decide +kernel
  have r4 : CmpOk (refD "many") := by unfold CmpOk; decide +kernel
  have hg : ∀ g1 g2, CmpOk (goodD th A B nm g1 g2) := by
    intro g1 g2
    have a := code_ok (gCode_ok A g1 nm hn hA)
    have b := code_ok (gCode_ok B g2 nm hn hB)
    have n : okD (.tup [.str "lock", .str nm]) = true ∧ depD (.tup [.str "lock", .str nm]) ≤ 8 := (names7_ok nm hn).1
    constructor
    · show (okDs (th ++ [D.tup [.str "lock", .str nm]]) && ((okD (encCode (gCode A nm g1)) && (okD (encCode (gCode B nm g2)) && true)) && true)) = true
      have n1 : okDs [D.tup [.str "lock", .str nm]] = true := by show (okD _ && true) = true; rw [n.1]; rfl
      rw [okDs_app, h1, a.1, b.1, n1]
      rfl
    · show max (depDs (th ++ [D.tup [.str "lock", .str nm]]) + 1) (max (max (depD (encCode (gCode A nm g1))) (max (depD (encCode (gCode B nm g2))) 0) + 1) 0) + 1 ≤ 62
      have n2 : depDs [D.tup [.str "lock", .str nm]] ≤ 8 := by show max (depD _) 0 ≤ 8; have := n.2; omega
      rw [depDs_app]
      omega
  unfold outD
  split
  · unfold outD2
    split
    · exact r1
    · split
      · exact r2
      · split
        · split
          · exact hg _ _
          · exact r4
        · exact r3
  · unfold outD1
    split
    · exact r1
    · split
      · exact r2
      · exact r3
theorem neD_self {d : D} (hd : CmpOk d) (h : Hh) : neD d d h = .ok (.bl false) h := by
  have : eqvD d d = true := PySem.SeqAt.eqv_refl _ (canLay_of d hd.1)
  rw [neD_cmp hd hd, this]
  rfl
/-! the guards -/
theorem guards_run (ns : List Int) (th : List D) (A B : List Ins) (hA : 1 ≤ A.length ∧ A.length ≤ 12) (hB : 1 ≤ B.length ∧ B.length ≤ 12) (h : Hh) : ∃ g1 g2 : Gd, smallG g1 ∧ smallG g2 ∧ m__law_guards [.scr ns, prD th A B] h = .ok (.tup [gE g1, gE g2]) h := by
  have l1 : ∀ h, ixD (prD th A B) (.int 1) h = .ok (.tup [encCode A, encCode B]) h := fun _ => rfl
  have C0 : ∀ h, ixD (.tup [encCode A, encCode B]) (.int 0) h = .ok (encCode A) h := fun _ => rfl
  have C1 : ∀ h, ixD (.tup [encCode A, encCode B]) (.int 1) h = .ok (encCode B) h := fun _ => rfl
  have i2 : i62 (2 : Int) := by unfold i62; omega
  have hr : rngL 0 2 = [.int 0, .int 1] := by rfl
  have hx : ∀ (k : Nat) (C : List Ins) (CC : D) (v4 v5 v6 : Option D) (l : List D), (∀ h, ixD (prD th A B) (.int 1) h = .ok CC h) → (∀ h, ixD CC (.int k) h = .ok (encCode C) h) → 1 ≤ C.length → C.length ≤ 12 → l.length < 10 → k < 10 →
      ∃ g, smallG g ∧ ∃ w4 w5 w6, x1__law_guards [some (.scr ns), some (prD th A B), some (.ref h.length), some (.int k), v4, v5, v6] (h ++ [.lst l]) = .nx [some (.scr ns), some (prD th A B), some (.ref h.length), some (.int k), w4, w5, w6] (h ++ [.lst (l ++ [gE g])]) := by
    intro k C CC v4 v5 v6 l e1 e2 c1 c2 hl hk
    have ec := fun h => cell_run ns (4 + (k : Int)) h (by omega)
    have e3 : ∀ h, lenD [encCode C] h = .ok (.int C.length) h := fun h => by unfold encCode; simp
    generalize c0 ns (4 + (k : Int)).toNat = c at ec
    have m1 : (C.length : Int) ≠ 0 := by omega
    have m2 : (C.length : Int) + 1 ≠ 0 := by omega
    obtain ⟨f, hf, hf2⟩ : ∃ f : Nat, (c / 3) % (C.length : Int) = (f : Int) ∧ f < 1000 := by
      have a1 := Int.emod_nonneg (c / 3) m1
      have a2 := Int.emod_lt_of_pos (c / 3) (show (0 : Int) < C.length by omega)
      exact ⟨((c / 3) % (C.length : Int)).toNat, by omega, by omega⟩
    obtain ⟨g, hg, hg2⟩ : ∃ g : Nat, (c / 30) % ((C.length : Int) + 1) = (g : Int) ∧ g < 1000 := by
      have a1 := Int.emod_nonneg (c / 30) m2
      have a2 := Int.emod_lt_of_pos (c / 30) (show (0 : Int) < (C.length : Int) + 1 by omega)
      exact ⟨((c / 30) % ((C.length : Int) + 1)).toNat, by omega, by omega⟩
    have d1 : ∀ h, modD (.int (c / 3)) (.int C.length) h = .ok (.int f) h := fun h => by rw [modD_int _ _ (by omega), hf]
    have d2 : ∀ h, modD (.int (c / 30)) (.int ((C.length : Int) + 1)) h = .ok (.int g) h := fun h => by rw [modD_int _ _ (by omega), hg]
    have hz : l.length < sizeLine := by rw [sizeLine_eq]; omega
    generalize C.length = m at *
    generalize prD th A B = P at *
    generalize encCode C = CD at *
    by_cases h3 : c % 3 = 0
    · refine ⟨none, trivial, some (.int c), some (.int m), some (.tup [.int f, .int g]), ?_⟩
      simp [x1__law_guards, ec, e1, e2, e3, fdivD_int, modD_int, d1, d2, h3, methE_run, guardR_pos, appendD, mlOf, lstOf, hz, gE]
    · refine ⟨some (f, g), ⟨hf2, hg2⟩, some (.int c), some (.int m), some (.tup [.int f, .int g]), ?_⟩
      simp [x1__law_guards, ec, e1, e2, e3, fdivD_int, modD_int, d1, d2, h3, methE_run, guardR_pos, appendD, mlOf, lstOf, hz, gE, spD]
  obtain ⟨g1, s1, w4, w5, w6, x1⟩ := hx 0 A _ none none none [] l1 C0 hA.1 hA.2 (by simp) (by omega)
  obtain ⟨g2, s2, v4, v5, v6, x2⟩ := hx 1 B _ w4 w5 w6 [gE g1] l1 C1 hB.1 hB.2 (by simp) (by omega)
  refine ⟨g1, g2, s1, s2, ?_⟩
  have x1 : x1__law_guards [some (.scr ns), some (prD th A B), some (.ref h.length), some (.int 0), none, none, none] (h ++ [.lst []]) = _ := x1
  have x2 : x1__law_guards [some (.scr ns), some (prD th A B), some (.ref h.length), some (.int 1), w4, w5, w6] (h ++ [.lst [gE g1]]) = .nx [some (.scr ns), some (prD th A B), some (.ref h.length), some (.int 1), v4, v5, v6] (h ++ [.lst [gE g1, gE g2]]) := x2
  have lp : loopS (fun _ => True) (gNm 3) x1__law_guards (rngL 0 2) [some (.scr ns), some (prD th A B), some (.ref h.length), none, none, none, none] (h ++ [.lst []]) = .nx [some (.scr ns), some (prD th A B), some (.ref h.length), some (.int 1), v4, v5, v6] (h ++ [.lst [gE g1, gE g2]]) := by
    rw [hr, lpC_cons (ρ1 := [some (.scr ns), some (prD th A B), some (.ref h.length), some (.int 0), none, none, none]) trivial rfl, x1]
    simp only [List.nil_append]
    rw [lpC_cons (ρ1 := [some (.scr ns), some (prD th A B), some (.ref h.length), some (.int 1), w4, w5, w6]) trivial rfl, x2]
    simp [lpC_nil]
  unfold m__law_guards
  have hb : ∀ g : Gd, below h.length (gE g) = true := fun g => by cases g <;> rfl
  refine cut_ok (g := [.lst [gE g1, gE g2]]) ?_ (by simp [hb])
  have et : tupleD [.ref h.length] (h ++ [.lst [gE g1, gE g2]]) = .ok (.tup [gE g1, gE g2]) (h ++ [.lst [gE g1, gE g2]]) := by simp
  generalize prD th A B = P at *
  generalize gE g1 = H1 at *
  generalize gE g2 = H2 at *
  rw [hr] at lp
  simp [defF_run, b__law_guards, rngD_1 i2, hr, lp, et]
theorem same_out (th : List D) (nms : List Str) (ht : Th th nms) (A B : List Ins) (hA : A.length ≤ 12) (hB : B.length ≤ 12) (oA : Cok A) (oB : Cok B) (nm : Str) (hn : nm ∈ names7) (gs : List Gd) (hg : ∀ g ∈ gs, smallG g) (hl : gs.length = 1 ∨ gs.length = 2) (h : Hh) :
    ∃ d, m__law_told [prD th A B, .tup (gs.map gE), .str nm] h = .ok d h ∧ m__law_due [prD th A B, .tup (gs.map gE), .str nm] h = .ok d h ∧ neD d d h = .ok (.bl false) h :=
  ⟨outD th A B nm gs, told_run (guarded_run th nms ht A B (by omega) (by omega) nm hn gs hg hl h), due_run th ht.len A B hA hB nm gs hg hl h, neD_self (out_cmp th ht.ok.1 ht.ok.2 A B oA oB nm hn gs) h⟩
theorem law_in (ns : List Int) (P G : D) (hP : ∀ nm ∈ names7, ∀ h, ∃ d, m__law_told [P, G, .str nm] h = .ok d h ∧ m__law_due [P, G, .str nm] h = .ok d h ∧ neD d d h = .ok (.bl false) h) (h : Hh) :
    ∃ ρ', loopS (fun _ => True) (gNm 4) x1_law (rngL 8 4) [some (.scr ns), some P, some (.lst (names7.map D.str)), some G, none, none] h = .nx ρ' h := by
  obtain ⟨ρ', h', e, ⟨v4, v5, rfl⟩, rfl⟩ := lp_rng (x := x1_law) (g := gNm 4) (lo := 8) (n := 4) (ρ := [some (.scr ns), some P, some (.lst (names7.map D.str)), some G, none, none]) (h := h)
    (fun i ρ h' => (∃ v4 v5, ρ = [some (.scr ns), some P, some (.lst (names7.map D.str)), some G, v4, v5]) ∧ h' = h) ⟨⟨none, none, rfl⟩, rfl⟩ (by
      rintro i ρ h1 hi ⟨⟨v4, v5, rfl⟩, rfl⟩
      have ec := fun h => cell_run ns (8 + (i : Int)) h (by omega)
      generalize c0 ns (8 + (i : Int)).toNat = c at ec
      obtain ⟨j, hj, hj2⟩ : ∃ j : Nat, c % 7 = (j : Int) ∧ j < 7 := ⟨(c % 7).toNat, by omega, by omega⟩
      have hj3 : j < names7.length := hj2
      have en : ∀ h, ixD (.lst (names7.map D.str)) (.int (c % 7)) h = .ok (.str names7[j]) h := fun h => by
        rw [hj]
        have : (names7.map D.str)[j]? = some (.str names7[j]) := by rw [List.getElem?_map, List.getElem?_eq_getElem hj3]; rfl
        simp [atI_natE, this]
      obtain ⟨d, e1, e2, e3⟩ := hP names7[j] (List.getElem_mem hj3) h1
      generalize names7[j] = nm at *
      generalize names7.map D.str = NM at *
      simp [x1_law, ec, modD_int, en, e1, e2, e3])
  exact ⟨_, e⟩
theorem law_true (ns : List Int) (hl : ns.length ≤ 63) : ∃ h', m_law [.scr ns] [] = .ok (.bl true) h' := by
  refine ⟨[], ?_⟩
  obtain ⟨A, B, ⟨a1, a2, a3⟩, ⟨b1, b2, b3⟩, e1⟩ := longer_run ns []
  have ec6 := fun h => cell_run ns 6 h (by omega)
  have ec7 := fun h => cell_run ns 7 h (by omega)
  rw [show ((6 : Int)).toNat = 6 from rfl] at ec6
  rw [show ((7 : Int)).toNat = 7 from rfl] at ec7
  have i8 : i62 (8 : Int) := by unfold i62; omega
  have i12 : i62 (12 : Int) := by unfold i62; omega
  have main : ∀ (th : List D) (nms : List Str), Th th nms → ∃ G ρ', m__law_guards [.scr ns, prD th A B] [] = .ok G [] ∧ ∃ G2, (if c0 ns 7 % 9 = 0 then slD G none (some 1) [] = .ok G2 [] else G2 = G) ∧ loopS (fun _ => True) (gNm 4) x1_law (rngL 8 4) [some (.scr ns), some (prD th A B), some (.lst (names7.map D.str)), some G2, none, none] [] = .nx ρ' [] := by
    intro th nms ht
    obtain ⟨g1, g2, s1, s2, eg⟩ := guards_run ns th A B ⟨a1, a2⟩ ⟨b1, b2⟩ []
    by_cases h9 : c0 ns 7 % 9 = 0
    · obtain ⟨ρ', el⟩ := law_in ns (prD th A B) (.tup [gE g1]) (fun nm hn h => same_out th nms ht A B a2 b2 a3 b3 nm hn [g1] (by simpa using s1) (by simp) h) []
      refine ⟨_, ρ', eg, .tup [gE g1], ?_, el⟩
      rw [if_pos h9]; rfl
    · obtain ⟨ρ', el⟩ := law_in ns (prD th A B) (.tup [gE g1, gE g2]) (fun nm hn h => same_out th nms ht A B a2 b2 a3 b3 nm hn [g1, g2] (by simpa using ⟨s1, s2⟩) (by simp) h) []
      exact ⟨_, ρ', eg, .tup [gE g1, gE g2], by rw [if_neg h9], el⟩
  obtain ⟨G, ρ', m1, G2, m2, m3⟩ := main _ _ th4_ok
  obtain ⟨H, ρ2, n1, H2, n2, n3⟩ := main _ _ thD_ok
  have et := things_run
  have q1 : prD [.tup [.str "var", .str "x", .int 0], .tup [.str "lock", .str "m"], .tup [.str "var", .str "y", .int 1], .tup [.str "lock", .str "n"]] A B = .tup [th4, .tup [encCode A, encCode B]] := rfl
  have q2 : prD [.tup [.str "lock", .str "m"], .tup [.str "var", .str "x", .int 0], .tup [.str "cond", .str "w", .str "m"], .tup [.str "queue", .str "q", .int 1], .tup [.str "var", .str "y", .int 1], .tup [.str "lock", .str "n"]] A B = .tup [thD, .tup [encCode A, encCode B]] := rfl
  rw [q1] at m1 m3
  rw [q2] at n1 n3
  have hn : names7.map D.str = [.str "guard", .str "x", .str "m", .str "lock", .str "a", .str "toolongname", .str "z9"] := rfl
  rw [hn] at m3 n3
  have i7 : ∀ h, ixD (.tup [th4, .tup [encCode A, encCode B]]) (.int 1) h = .ok (.tup [encCode A, encCode B]) h := fun _ => rfl
  generalize D.tup [encCode A, encCode B] = CD at *
  generalize th4 = T4 at *
  generalize thD = TD at *
  by_cases h7 : c0 ns 6 % 7 = 0
  · by_cases h9 : c0 ns 7 % 9 = 0
    · rw [if_pos h9] at n2
      simp [m_law, defF_run, b_law, e1, ec6, ec7, modD_int, h7, h9, et, n1, n2, rngD_2 i8 i12, n3]
    · rw [if_neg h9] at n2
      subst n2
      simp [m_law, defF_run, b_law, e1, ec6, ec7, modD_int, h7, h9, et, n1, rngD_2 i8 i12, n3]
  · by_cases h9 : c0 ns 7 % 9 = 0
    · rw [if_pos h9] at m2
      simp [m_law, defF_run, b_law, e1, ec6, ec7, modD_int, h7, h9, et, m1, m2, rngD_2 i8 i12, m3]
    · rw [if_neg h9] at m2
      subst m2
      simp [m_law, defF_run, b_law, e1, ec6, ec7, modD_int, h7, h9, et, m1, rngD_2 i8 i12, m3]
end G_k53

set_option maxHeartbeats 4000000
namespace G_k53
open PySem PySem.Spec PyProof.Rows L2 Ev
theorem all_mk {l : PySem.W.OpenLaw} {w : World} {K : PySem.W.Frag} {h : Heap} {mg : Str → Option Value} {fa : Addr} (X : K.In h) (G : h.Ns mainGlobals mg) (hfa : mg "law" = some (.ref fa))
    {f0 : Addr} {od0 an0 : Option Addr} {sl0 : Array (Option Value)} {oc0 kV0 dc0 pm0 cd0 ct0 : Value} {f1 : Addr} {od1 an1 : Option Addr} {sl1 : Array (Option Value)} {oc1 kV1 dc1 pm1 cd1 ct1 : Value} {f2 : Addr} {od2 an2 : Option Addr} {sl2 : Array (Option Value)} {oc2 kV2 dc2 pm2 cd2 ct2 : Value} {f3 : Addr} {od3 an3 : Option Addr} {sl3 : Array (Option Value)} {oc3 kV3 dc3 pm3 cd3 ct3 : Value} {f4 : Addr} {od4 an4 : Option Addr} {sl4 : Array (Option Value)} {oc4 kV4 dc4 pm4 cd4 ct4 : Value} {f5 : Addr} {od5 an5 : Option Addr} {sl5 : Array (Option Value)} {oc5 kV5 dc5 pm5 cd5 ct5 : Value} {f6 : Addr} {od6 an6 : Option Addr} {sl6 : Array (Option Value)} {oc6 kV6 dc6 pm6 cd6 ct6 : Value} {f7 : Addr} {od7 an7 : Option Addr} {sl7 : Array (Option Value)} {oc7 kV7 dc7 pm7 cd7 ct7 : Value} {f8 : Addr} {od8 an8 : Option Addr} {sl8 : Array (Option Value)} {oc8 kV8 dc8 pm8 cd8 ct8 : Value} {f9 : Addr} {od9 an9 : Option Addr} {sl9 : Array (Option Value)} {oc9 kV9 dc9 pm9 cd9 ct9 : Value} {f10 : Addr} {od10 an10 : Option Addr} {sl10 : Array (Option Value)} {oc10 kV10 dc10 pm10 cd10 ct10 : Value} {f11 : Addr} {od11 an11 : Option Addr} {sl11 : Array (Option Value)} {oc11 kV11 dc11 pm11 cd11 ct11 : Value} {f12 : Addr} {od12 an12 : Option Addr} {sl12 : Array (Option Value)} {oc12 kV12 dc12 pm12 cd12 ct12 : Value} {f13 : Addr} {od13 an13 : Option Addr} {sl13 : Array (Option Value)} {oc13 kV13 dc13 pm13 cd13 ct13 : Value} {f14 : Addr} {od14 an14 : Option Addr} {sl14 : Array (Option Value)} {oc14 kV14 dc14 pm14 cd14 ct14 : Value} {f15 : Addr} {od15 an15 : Option Addr} {sl15 : Array (Option Value)} {oc15 kV15 dc15 pm15 cd15 ct15 : Value} {f16 : Addr} {od16 an16 : Option Addr} {sl16 : Array (Option Value)} {oc16 kV16 dc16 pm16 cd16 ct16 : Value} {f17 : Addr} {od17 an17 : Option Addr} {sl17 : Array (Option Value)} {oc17 kV17 dc17 pm17 cd17 ct17 : Value} {f18 : Addr} {od18 an18 : Option Addr} {sl18 : Array (Option Value)} {oc18 kV18 dc18 pm18 cd18 ct18 : Value} {f19 : Addr} {od19 an19 : Option Addr} {sl19 : Array (Option Value)} {oc19 kV19 dc19 pm19 cd19 ct19 : Value} {f20 : Addr} {od20 an20 : Option Addr} {sl20 : Array (Option Value)} {oc20 kV20 dc20 pm20 cd20 ct20 : Value} {f21 : Addr} {od21 an21 : Option Addr} {sl21 : Array (Option Value)} {oc21 kV21 dc21 pm21 cd21 ct21 : Value} {f22 : Addr} {od22 an22 : Option Addr} {sl22 : Array (Option Value)} {oc22 kV22 dc22 pm22 cd22 ct22 : Value} {u_REGISTERS : Value} {t_DIGITS : Tok} {t_LETTERS : Tok} {t_SIGNS : Tok} {t_WORD_LENGTH : Tok} {u_RESERVED : Value} {u_KINDS : Value} {t_MOST_SHARED : Tok} {t_MOST_INSTRUCTIONS : Tok} {C_NoSuchPlace fI_NoSuchPlace cda_NoSuchPlace cc_NoSuchPlace N_NoSuchPlace : Addr} {nm_NoSuchPlace qn_NoSuchPlace pre_NoSuchPlace qual_NoSuchPlace : Str} {nn_NoSuchPlace : Nat} {bs_NoSuchPlace bm_NoSuchPlace sub_NoSuchPlace : List Value} {sn_NoSuchPlace : List Str} {ab_NoSuchPlace : Bool} {col_NoSuchPlace : Option Bool} {dd_NoSuchPlace od_NoSuchPlace an_NoSuchPlace cld_NoSuchPlace cdd_NoSuchPlace : Option Addr} {m0_NoSuchPlace m1_NoSuchPlace m2_NoSuchPlace m3_NoSuchPlace m5_NoSuchPlace : Option Value} {oc_NoSuchPlace kV_NoSuchPlace dc_NoSuchPlace pm_NoSuchPlace ct_NoSuchPlace cl_NoSuchPlace ccl_NoSuchPlace : Value} {sl_NoSuchPlace csl_NoSuchPlace ccs_NoSuchPlace : Array (Option Value)} {vs_NoSuchPlace : Array Value} {file_NoSuchPlace : Str} {tf_NoSuchPlace : Tok} {p1_NoSuchPlace p2_NoSuchPlace q1_NoSuchPlace q2_NoSuchPlace q3_NoSuchPlace q4_NoSuchPlace q5_NoSuchPlace q6_NoSuchPlace q7_NoSuchPlace q8_NoSuchPlace q9_NoSuchPlace r1_NoSuchPlace r2_NoSuchPlace r3_NoSuchPlace r4_NoSuchPlace : Pos}
    (a0 : PySem.W.nsIn K mainGlobals "_run_end" = some (some (.ref f0))) (l0 : K.lookup f0 = some ⟨oc0, od0, .func (PySem.W.fnOf "_run_end" "_run_end" (defArgs (topS 9)) (defBody (topS 9)) (defScope (topS 9)) .none kV0 dc0 pm0 an0 cd0 ct0), sl0⟩) (e0 : PySem.W.codeIn K cd0 "_run_end" = true) (k0 : PySem.W.keepIn K (.ref f0) = true)
    (a1 : PySem.W.nsIn K mainGlobals "_token" = some (some (.ref f1))) (l1 : K.lookup f1 = some ⟨oc1, od1, .func (PySem.W.fnOf "_token" "_token" (defArgs (topS 10)) (defBody (topS 10)) (defScope (topS 10)) .none kV1 dc1 pm1 an1 cd1 ct1), sl1⟩) (e1 : PySem.W.codeIn K cd1 "_token" = true) (k1 : PySem.W.keepIn K (.ref f1) = true)
    (a2 : PySem.W.nsIn K mainGlobals "tokens" = some (some (.ref f2))) (l2 : K.lookup f2 = some ⟨oc2, od2, .func (PySem.W.fnOf "tokens" "tokens" (defArgs (topS 11)) (defBody (topS 11)) (defScope (topS 11)) .none kV2 dc2 pm2 an2 cd2 ct2), sl2⟩) (e2 : PySem.W.codeIn K cd2 "tokens" = true) (k2 : PySem.W.keepIn K (.ref f2) = true)
    (a3 : PySem.W.nsIn K mainGlobals "is_name" = some (some (.ref f3))) (l3 : K.lookup f3 = some ⟨oc3, od3, .func (PySem.W.fnOf "is_name" "is_name" (defArgs (topS 14)) (defBody (topS 14)) (defScope (topS 14)) .none kV3 dc3 pm3 an3 cd3 ct3), sl3⟩) (e3 : PySem.W.codeIn K cd3 "is_name" = true) (k3 : PySem.W.keepIn K (.ref f3) = true)
    (a4 : PySem.W.nsIn K mainGlobals "can_be_guarded" = some (some (.ref f4))) (l4 : K.lookup f4 = some ⟨oc4, od4, .func (PySem.W.fnOf "can_be_guarded" "can_be_guarded" (defArgs (topS 19)) (defBody (topS 19)) (defScope (topS 19)) .none kV4 dc4 pm4 an4 cd4 ct4), sl4⟩) (e4 : PySem.W.codeIn K cd4 "can_be_guarded" = true) (k4 : PySem.W.keepIn K (.ref f4) = true)
    (a5 : PySem.W.nsIn K mainGlobals "moved_place" = some (some (.ref f5))) (l5 : K.lookup f5 = some ⟨oc5, od5, .func (PySem.W.fnOf "moved_place" "moved_place" (defArgs (topS 20)) (defBody (topS 20)) (defScope (topS 20)) .none kV5 dc5 pm5 an5 cd5 ct5), sl5⟩) (e5 : PySem.W.codeIn K cd5 "moved_place" = true) (k5 : PySem.W.keepIn K (.ref f5) = true)
    (a6 : PySem.W.nsIn K mainGlobals "guarded_thread" = some (some (.ref f6))) (l6 : K.lookup f6 = some ⟨oc6, od6, .func (PySem.W.fnOf "guarded_thread" "guarded_thread" (defArgs (topS 21)) (defBody (topS 21)) (defScope (topS 21)) .none kV6 dc6 pm6 an6 cd6 ct6), sl6⟩) (e6 : PySem.W.codeIn K cd6 "guarded_thread" = true) (k6 : PySem.W.keepIn K (.ref f6) = true)
    (a7 : PySem.W.nsIn K mainGlobals "require_guards" = some (some (.ref f7))) (l7 : K.lookup f7 = some ⟨oc7, od7, .func (PySem.W.fnOf "require_guards" "require_guards" (defArgs (topS 22)) (defBody (topS 22)) (defScope (topS 22)) .none kV7 dc7 pm7 an7 cd7 ct7), sl7⟩) (e7 : PySem.W.codeIn K cd7 "require_guards" = true) (k7 : PySem.W.keepIn K (.ref f7) = true)
    (a8 : PySem.W.nsIn K mainGlobals "guarded" = some (some (.ref f8))) (l8 : K.lookup f8 = some ⟨oc8, od8, .func (PySem.W.fnOf "guarded" "guarded" (defArgs (topS 23)) (defBody (topS 23)) (defScope (topS 23)) .none kV8 dc8 pm8 an8 cd8 ct8), sl8⟩) (e8 : PySem.W.codeIn K cd8 "guarded" = true) (k8 : PySem.W.keepIn K (.ref f8) = true)
    (a9 : PySem.W.nsIn K mainGlobals "_law_cell" = some (some (.ref f9))) (l9 : K.lookup f9 = some ⟨oc9, od9, .func (PySem.W.fnOf "_law_cell" "_law_cell" (defArgs (topS 25)) (defBody (topS 25)) (defScope (topS 25)) .none kV9 dc9 pm9 an9 cd9 ct9), sl9⟩) (e9 : PySem.W.codeIn K cd9 "_law_cell" = true) (k9 : PySem.W.keepIn K (.ref f9) = true)
    (a10 : PySem.W.nsIn K mainGlobals "_law_digits" = some (some (.ref f10))) (l10 : K.lookup f10 = some ⟨oc10, od10, .func (PySem.W.fnOf "_law_digits" "_law_digits" (defArgs (topS 26)) (defBody (topS 26)) (defScope (topS 26)) .none kV10 dc10 pm10 an10 cd10 ct10), sl10⟩) (e10 : PySem.W.codeIn K cd10 "_law_digits" = true) (k10 : PySem.W.keepIn K (.ref f10) = true)
    (a11 : PySem.W.nsIn K mainGlobals "_law_padded" = some (some (.ref f11))) (l11 : K.lookup f11 = some ⟨oc11, od11, .func (PySem.W.fnOf "_law_padded" "_law_padded" (defArgs (topS 27)) (defBody (topS 27)) (defScope (topS 27)) .none kV11 dc11 pm11 an11 cd11 ct11), sl11⟩) (e11 : PySem.W.codeIn K cd11 "_law_padded" = true) (k11 : PySem.W.keepIn K (.ref f11) = true)
    (a12 : PySem.W.nsIn K mainGlobals "_law_things" = some (some (.ref f12))) (l12 : K.lookup f12 = some ⟨oc12, od12, .func (PySem.W.fnOf "_law_things" "_law_things" (defArgs (topS 28)) (defBody (topS 28)) (defScope (topS 28)) .none kV12 dc12 pm12 an12 cd12 ct12), sl12⟩) (e12 : PySem.W.codeIn K cd12 "_law_things" = true) (k12 : PySem.W.keepIn K (.ref f12) = true)
    (a13 : PySem.W.nsIn K mainGlobals "_law_piece" = some (some (.ref f13))) (l13 : K.lookup f13 = some ⟨oc13, od13, .func (PySem.W.fnOf "_law_piece" "_law_piece" (defArgs (topS 29)) (defBody (topS 29)) (defScope (topS 29)) .none kV13 dc13 pm13 an13 cd13 ct13), sl13⟩) (e13 : PySem.W.codeIn K cd13 "_law_piece" = true) (k13 : PySem.W.keepIn K (.ref f13) = true)
    (a14 : PySem.W.nsIn K mainGlobals "_law_longer" = some (some (.ref f14))) (l14 : K.lookup f14 = some ⟨oc14, od14, .func (PySem.W.fnOf "_law_longer" "_law_longer" (defArgs (topS 30)) (defBody (topS 30)) (defScope (topS 30)) .none kV14 dc14 pm14 an14 cd14 ct14), sl14⟩) (e14 : PySem.W.codeIn K cd14 "_law_longer" = true) (k14 : PySem.W.keepIn K (.ref f14) = true)
    (a15 : PySem.W.nsIn K mainGlobals "_law_plain" = some (some (.ref f15))) (l15 : K.lookup f15 = some ⟨oc15, od15, .func (PySem.W.fnOf "_law_plain" "_law_plain" (defArgs (topS 31)) (defBody (topS 31)) (defScope (topS 31)) .none kV15 dc15 pm15 an15 cd15 ct15), sl15⟩) (e15 : PySem.W.codeIn K cd15 "_law_plain" = true) (k15 : PySem.W.keepIn K (.ref f15) = true)
    (a16 : PySem.W.nsIn K mainGlobals "_law_guardable" = some (some (.ref f16))) (l16 : K.lookup f16 = some ⟨oc16, od16, .func (PySem.W.fnOf "_law_guardable" "_law_guardable" (defArgs (topS 32)) (defBody (topS 32)) (defScope (topS 32)) .none kV16 dc16 pm16 an16 cd16 ct16), sl16⟩) (e16 : PySem.W.codeIn K cd16 "_law_guardable" = true) (k16 : PySem.W.keepIn K (.ref f16) = true)
    (a17 : PySem.W.nsIn K mainGlobals "_law_place" = some (some (.ref f17))) (l17 : K.lookup f17 = some ⟨oc17, od17, .func (PySem.W.fnOf "_law_place" "_law_place" (defArgs (topS 33)) (defBody (topS 33)) (defScope (topS 33)) .none kV17 dc17 pm17 an17 cd17 ct17), sl17⟩) (e17 : PySem.W.codeIn K cd17 "_law_place" = true) (k17 : PySem.W.keepIn K (.ref f17) = true)
    (a18 : PySem.W.nsIn K mainGlobals "_law_code" = some (some (.ref f18))) (l18 : K.lookup f18 = some ⟨oc18, od18, .func (PySem.W.fnOf "_law_code" "_law_code" (defArgs (topS 34)) (defBody (topS 34)) (defScope (topS 34)) .none kV18 dc18 pm18 an18 cd18 ct18), sl18⟩) (e18 : PySem.W.codeIn K cd18 "_law_code" = true) (k18 : PySem.W.keepIn K (.ref f18) = true)
    (a19 : PySem.W.nsIn K mainGlobals "_law_guards" = some (some (.ref f19))) (l19 : K.lookup f19 = some ⟨oc19, od19, .func (PySem.W.fnOf "_law_guards" "_law_guards" (defArgs (topS 35)) (defBody (topS 35)) (defScope (topS 35)) .none kV19 dc19 pm19 an19 cd19 ct19), sl19⟩) (e19 : PySem.W.codeIn K cd19 "_law_guards" = true) (k19 : PySem.W.keepIn K (.ref f19) = true)
    (a20 : PySem.W.nsIn K mainGlobals "_law_due" = some (some (.ref f20))) (l20 : K.lookup f20 = some ⟨oc20, od20, .func (PySem.W.fnOf "_law_due" "_law_due" (defArgs (topS 36)) (defBody (topS 36)) (defScope (topS 36)) .none kV20 dc20 pm20 an20 cd20 ct20), sl20⟩) (e20 : PySem.W.codeIn K cd20 "_law_due" = true) (k20 : PySem.W.keepIn K (.ref f20) = true)
    (a21 : PySem.W.nsIn K mainGlobals "_law_told" = some (some (.ref f21))) (l21 : K.lookup f21 = some ⟨oc21, od21, .func (PySem.W.fnOf "_law_told" "_law_told" (defArgs (topS 37)) (defBody (topS 37)) (defScope (topS 37)) .none kV21 dc21 pm21 an21 cd21 ct21), sl21⟩) (e21 : PySem.W.codeIn K cd21 "_law_told" = true) (k21 : PySem.W.keepIn K (.ref f21) = true)
    (a22 : PySem.W.nsIn K mainGlobals "law" = some (some (.ref f22))) (l22 : K.lookup f22 = some ⟨oc22, od22, .func (PySem.W.fnOf "law" "law" (defArgs (topS 38)) (defBody (topS 38)) (defScope (topS 38)) .none kV22 dc22 pm22 an22 cd22 ct22), sl22⟩) (e22 : PySem.W.codeIn K cd22 "law" = true) (k22 : PySem.W.keepIn K (.ref f22) = true)
    (z_int : PySem.W.nsIn K mainGlobals "int" = some none)
    (z_len : PySem.W.nsIn K mainGlobals "len" = some none)
    (z_range : PySem.W.nsIn K mainGlobals "range" = some none)
    (z_tuple : PySem.W.nsIn K mainGlobals "tuple" = some none)
    (z_zip : PySem.W.nsIn K mainGlobals "zip" = some none)
    (g_REGISTERS : PySem.W.nsIn K mainGlobals "REGISTERS" = some (some u_REGISTERS)) (gv_REGISTERS : GV K c_REGISTERS u_REGISTERS)
    (g_DIGITS : PySem.W.nsIn K mainGlobals "DIGITS" = some (some (.str "0123456789" t_DIGITS)))
    (g_LETTERS : PySem.W.nsIn K mainGlobals "LETTERS" = some (some (.str "abcdefghijklmnopqrstuvwxyz" t_LETTERS)))
    (g_SIGNS : PySem.W.nsIn K mainGlobals "SIGNS" = some (some (.str "+-*=<()" t_SIGNS)))
    (g_WORD_LENGTH : PySem.W.nsIn K mainGlobals "WORD_LENGTH" = some (some (.int 8 t_WORD_LENGTH)))
    (g_RESERVED : PySem.W.nsIn K mainGlobals "RESERVED" = some (some u_RESERVED)) (gv_RESERVED : GV K c_RESERVED u_RESERVED)
    (g_KINDS : PySem.W.nsIn K mainGlobals "KINDS" = some (some u_KINDS)) (gv_KINDS : GV K c_KINDS u_KINDS)
    (g_MOST_SHARED : PySem.W.nsIn K mainGlobals "MOST_SHARED" = some (some (.int 6 t_MOST_SHARED)))
    (g_MOST_INSTRUCTIONS : PySem.W.nsIn K mainGlobals "MOST_INSTRUCTIONS" = some (some (.int 12 t_MOST_INSTRUCTIONS)))
    (xa_NoSuchPlace : PySem.W.nsIn K mainGlobals "NoSuchPlace" = some (some (.ref C_NoSuchPlace)))
    (xl_NoSuchPlace : K.lookup C_NoSuchPlace = some (PySem.excClassObj nm_NoSuchPlace qn_NoSuchPlace C_NoSuchPlace N_NoSuchPlace bs_NoSuchPlace bm_NoSuchPlace true sn_NoSuchPlace sub_NoSuchPlace ab_NoSuchPlace col_NoSuchPlace dd_NoSuchPlace m0_NoSuchPlace m1_NoSuchPlace m2_NoSuchPlace m3_NoSuchPlace m5_NoSuchPlace "ValueError.__new__"))
    (xm_NoSuchPlace : PySem.HandSPX.refsVE bm_NoSuchPlace = true)
    (x1_NoSuchPlace : PySem.W.findIn K (.ref C_NoSuchPlace) "__setattr__" = some (some (.builtin "object.__setattr__")))
    (x2_NoSuchPlace : PySem.W.findIn K (.ref C_NoSuchPlace) "__getattribute__" = some (some (.builtin "BaseException.__getattribute__")))
    (x3_NoSuchPlace : PySem.W.findIn K (.ref C_NoSuchPlace) "__getattr__" = some none)
    (x4_NoSuchPlace : PySem.W.findIn K (.ref C_NoSuchPlace) "word" = some none)
    (x5_NoSuchPlace : PySem.W.findIn K (.ref C_NoSuchPlace) "__init__" = some (some (.ref fI_NoSuchPlace)))
    (x6_NoSuchPlace : PySem.W.typeIn K (.ref fI_NoSuchPlace) = some (.type "function"))
    (x7_NoSuchPlace : PySem.W.keepIn K (.ref C_NoSuchPlace) = true)
    (x8_NoSuchPlace : PySem.W.subIn K (.ref C_NoSuchPlace) (.type "BaseException") = some true)
    (x9_NoSuchPlace : PySem.W.subIn K (.ref C_NoSuchPlace) (.type "ValueError") = some true)
    (y1_NoSuchPlace : PySem.W.typeIn K (.ref C_NoSuchPlace) = some (.type "type"))
    (y2_NoSuchPlace : PySem.W.hasDictIn K C_NoSuchPlace = true)
    (y3_NoSuchPlace : PySem.W.isClsIn K C_NoSuchPlace = true)
    (y4_NoSuchPlace : PySem.W.subIn K (.ref C_NoSuchPlace) (.ref C_NoSuchPlace) = some true)
    (y5_NoSuchPlace : PySem.W.ks_superIn K C_NoSuchPlace C_NoSuchPlace "__init__" = some (some (.builtin "ValueError.__init__")))
    (y6_NoSuchPlace : PySem.W.mroIn K C_NoSuchPlace (.ref C_NoSuchPlace) = some true)
    (y7_NoSuchPlace : PySem.W.nsIn K cStatics "thirdparty.any" = some none)
    (y8_NoSuchPlace : PySem.W.nsIn K mainGlobals "super" = some none)
    (z1_NoSuchPlace : (l.prog.main.scope.names.lookup ("super" : Str)).isSome = false)
    (z2_NoSuchPlace : K.lookup fI_NoSuchPlace = some ⟨oc_NoSuchPlace, od_NoSuchPlace, .func (PySem.W.ksFn "__init__" qual_NoSuchPlace (PySem.SupX.iA "word" p1_NoSuchPlace p2_NoSuchPlace) [.Expr (PySem.SupX.supE pre_NoSuchPlace "word" nn_NoSuchPlace q1_NoSuchPlace q2_NoSuchPlace q3_NoSuchPlace q4_NoSuchPlace q5_NoSuchPlace q6_NoSuchPlace q7_NoSuchPlace q8_NoSuchPlace) q9_NoSuchPlace, PySem.SupX.asgE "word" r1_NoSuchPlace r2_NoSuchPlace r3_NoSuchPlace r4_NoSuchPlace] (PySem.SupX.iS "word") .none kV_NoSuchPlace dc_NoSuchPlace pm_NoSuchPlace an_NoSuchPlace (.ref cda_NoSuchPlace) ct_NoSuchPlace cc_NoSuchPlace), sl_NoSuchPlace⟩)
    (z3_NoSuchPlace : PySem.W.codeIn K (.ref cda_NoSuchPlace) qual_NoSuchPlace = true)
    (z4_NoSuchPlace : pre_NoSuchPlace.length ≤ 1000)
    (z5_NoSuchPlace : PySem.SupX.SupEv pre_NoSuchPlace "word" nn_NoSuchPlace q1_NoSuchPlace q2_NoSuchPlace q3_NoSuchPlace q4_NoSuchPlace q5_NoSuchPlace q6_NoSuchPlace q7_NoSuchPlace q8_NoSuchPlace)
    (z6_NoSuchPlace : K.lookup cc_NoSuchPlace = some ⟨cl_NoSuchPlace, cld_NoSuchPlace, .cell (some (.ref C_NoSuchPlace)), csl_NoSuchPlace⟩)
    (z7_NoSuchPlace : K.lookup cda_NoSuchPlace = some ⟨ccl_NoSuchPlace, cdd_NoSuchPlace, .fields vs_NoSuchPlace, ccs_NoSuchPlace⟩)
    (z8_NoSuchPlace : vs_NoSuchPlace[2]? = some (.str file_NoSuchPlace tf_NoSuchPlace))
    (z9_NoSuchPlace : ((l.prog.main.file : Str) == file_NoSuchPlace) = true)
    : ∃ fd : FuncData, (∀ (s : Shared) (v : Value), BindsTo s fd ⟨[v], []⟩ [("_law_script", v)]) ∧ ∀ base : Heap, K.In base → base.Ns mainGlobals mg → FnOk l.prog w K mg base (L2.CX l.prog w) 7 fa fd ["_law_script"] (Ev.spL K m_law) := by
  have ea := hfa.symm.trans (PySem.W.mg_of X G a22)
  cases ea
  have T : Txt l.prog K mg w := ⟨⟨⟨_, _, fun_mk (st := topS 9) l0 e0 k0, PySem.W.mg_of X G a0⟩⟩, ⟨⟨_, _, fun_mk (st := topS 10) l1 e1 k1, PySem.W.mg_of X G a1⟩⟩, ⟨⟨_, _, fun_mk (st := topS 11) l2 e2 k2, PySem.W.mg_of X G a2⟩⟩, ⟨⟨_, _, fun_mk (st := topS 14) l3 e3 k3, PySem.W.mg_of X G a3⟩⟩, ⟨⟨_, _, fun_mk (st := topS 19) l4 e4 k4, PySem.W.mg_of X G a4⟩⟩, ⟨⟨_, _, fun_mk (st := topS 20) l5 e5 k5, PySem.W.mg_of X G a5⟩⟩, ⟨⟨_, _, fun_mk (st := topS 21) l6 e6 k6, PySem.W.mg_of X G a6⟩⟩, ⟨⟨_, _, fun_mk (st := topS 22) l7 e7 k7, PySem.W.mg_of X G a7⟩⟩, ⟨⟨_, _, fun_mk (st := topS 23) l8 e8 k8, PySem.W.mg_of X G a8⟩⟩, ⟨⟨_, _, fun_mk (st := topS 25) l9 e9 k9, PySem.W.mg_of X G a9⟩⟩, ⟨⟨_, _, fun_mk (st := topS 26) l10 e10 k10, PySem.W.mg_of X G a10⟩⟩, ⟨⟨_, _, fun_mk (st := topS 27) l11 e11 k11, PySem.W.mg_of X G a11⟩⟩, ⟨⟨_, _, fun_mk (st := topS 28) l12 e12 k12, PySem.W.mg_of X G a12⟩⟩, ⟨⟨_, _, fun_mk (st := topS 29) l13 e13 k13, PySem.W.mg_of X G a13⟩⟩, ⟨⟨_, _, fun_mk (st := topS 30) l14 e14 k14, PySem.W.mg_of X G a14⟩⟩, ⟨⟨_, _, fun_mk (st := topS 31) l15 e15 k15, PySem.W.mg_of X G a15⟩⟩, ⟨⟨_, _, fun_mk (st := topS 32) l16 e16 k16, PySem.W.mg_of X G a16⟩⟩, ⟨⟨_, _, fun_mk (st := topS 33) l17 e17 k17, PySem.W.mg_of X G a17⟩⟩, ⟨⟨_, _, fun_mk (st := topS 34) l18 e18 k18, PySem.W.mg_of X G a18⟩⟩, ⟨⟨_, _, fun_mk (st := topS 35) l19 e19 k19, PySem.W.mg_of X G a19⟩⟩, ⟨⟨_, _, fun_mk (st := topS 36) l20 e20 k20, PySem.W.mg_of X G a20⟩⟩, ⟨⟨_, _, fun_mk (st := topS 37) l21 e21 k21, PySem.W.mg_of X G a21⟩⟩, ⟨⟨_, _, fun_mk (st := topS 38) l22 e22 k22, PySem.W.mg_of X G a22⟩⟩, PySem.W.mg_none_of X G z_int, PySem.W.mg_none_of X G z_len, PySem.W.mg_none_of X G z_range, PySem.W.mg_none_of X G z_tuple, PySem.W.mg_none_of X G z_zip, .gv (PySem.W.mg_of X G g_REGISTERS) gv_REGISTERS, .str (PySem.W.mg_of X G g_DIGITS), .str (PySem.W.mg_of X G g_LETTERS), .str (PySem.W.mg_of X G g_SIGNS), .int (PySem.W.mg_of X G g_WORD_LENGTH), .gv (PySem.W.mg_of X G g_RESERVED) gv_RESERVED, .gv (PySem.W.mg_of X G g_KINDS) gv_KINDS, .int (PySem.W.mg_of X G g_MOST_SHARED), .int (PySem.W.mg_of X G g_MOST_INSTRUCTIONS), ⟨_, _, { gC := PySem.W.mg_of X G xa_NoSuchPlace, cls := ⟨_, _, _, _, _, _, _, _, _, _, _, _, _, _, _, xl_NoSuchPlace, xm_NoSuchPlace⟩, sa := x1_NoSuchPlace, ga := x2_NoSuchPlace, gg := x3_NoSuchPlace, noN := x4_NoSuchPlace, iC := x5_NoSuchPlace, tC := x6_NoSuchPlace, kC := x7_NoSuchPlace, exC := x8_NoSuchPlace, veC := x9_NoSuchPlace, tyC := y1_NoSuchPlace, hdC := y2_NoSuchPlace, te := PySem.SupX.exm_self x8_NoSuchPlace y3_NoSuchPlace y1_NoSuchPlace y4_NoSuchPlace, sup := y5_NoSuchPlace, selfsub := y6_NoSuchPlace, any := y7_NoSuchPlace, gsup := PySem.W.mg_none_of X G y8_NoSuchPlace, htop := z1_NoSuchPlace, nself := by decide, ndb := by decide, lself := rfl, lf := rfl, lsup := rfl, lcls := rfl, fn := ⟨_, _, _, _, _, _, _, _, _, _, _, _, _, _, _, _, _, _, _, _, _, _, _, _, _, _, _, _, z2_NoSuchPlace, z3_NoSuchPlace, z4_NoSuchPlace, fun _ _ _ => .of_eq rfl, z5_NoSuchPlace, ⟨_, _, _, z6_NoSuchPlace⟩, ⟨_, _, _, _, _, _, z7_NoSuchPlace, z8_NoSuchPlace, z9_NoSuchPlace⟩⟩ }⟩⟩
  have F := fun_mk (st := topS 38) l22 e22 k22
  refine ⟨_, ?b, fun base _ _ => Ev.fnok_spL (ok_law T F)⟩
  exact fun s v => .of_eq rfl
end G_k53
open PySem PySem.Spec PySem.W PyProof.Rows
set_option maxHeartbeats 0 in
theorem PySem.Challenge.cw_everyturn_k53_guarded_programs_holds : PySem.Challenge.rw_everyturn_k53_guarded_programs.Holds := by
  w_on; o_law; k_head; (case hw => w_witness2)
  k_fill
  refine L2.walk_of (l := PySem.Challenge.rw_everyturn_k53_guarded_programs) (n := 63) (k := 7) (x := "_law_script") (CX := fun w => L2.CX PySem.Challenge.rw_everyturn_k53_guarded_programs.prog w) (sp := fun w => Ev.spL _ G_k53.m_law) rfl (by decide) rfl ⟨rfl, by decide, by decide⟩ (fun w h Y => PySem.W.kIn_of Y) ?F (fun _ _ a ns hl hO hS => Ev.spL_of hS (G_k53.law_true ns hl)) (fun _ _ _ _ _ h => Ev.cx_no h)
  case F =>
    intro w mg fa h KX G hmg
    refine' G_k53.all_mk (l := PySem.Challenge.rw_everyturn_k53_guarded_programs) KX G hmg ?a0 ?l0 ?e0 ?k0 ?a1 ?l1 ?e1 ?k1 ?a2 ?l2 ?e2 ?k2 ?a3 ?l3 ?e3 ?k3 ?a4 ?l4 ?e4 ?k4 ?a5 ?l5 ?e5 ?k5 ?a6 ?l6 ?e6 ?k6 ?a7 ?l7 ?e7 ?k7 ?a8 ?l8 ?e8 ?k8 ?a9 ?l9 ?e9 ?k9 ?a10 ?l10 ?e10 ?k10 ?a11 ?l11 ?e11 ?k11 ?a12 ?l12 ?e12 ?k12 ?a13 ?l13 ?e13 ?k13 ?a14 ?l14 ?e14 ?k14 ?a15 ?l15 ?e15 ?k15 ?a16 ?l16 ?e16 ?k16 ?a17 ?l17 ?e17 ?k17 ?a18 ?l18 ?e18 ?k18 ?a19 ?l19 ?e19 ?k19 ?a20 ?l20 ?e20 ?k20 ?a21 ?l21 ?e21 ?k21 ?a22 ?l22 ?e22 ?k22 ?z_int ?z_len ?z_range ?z_tuple ?z_zip ?g_REGISTERS ?gv_REGISTERS ?g_DIGITS ?g_LETTERS ?g_SIGNS ?g_WORD_LENGTH ?g_RESERVED ?gv_RESERVED ?g_KINDS ?gv_KINDS ?g_MOST_SHARED ?g_MOST_INSTRUCTIONS ?xa_NoSuchPlace ?xl_NoSuchPlace ?xm_NoSuchPlace ?x1_NoSuchPlace ?x2_NoSuchPlace ?x3_NoSuchPlace ?x4_NoSuchPlace ?x5_NoSuchPlace ?x6_NoSuchPlace ?x7_NoSuchPlace ?x8_NoSuchPlace ?x9_NoSuchPlace ?y1_NoSuchPlace ?y2_NoSuchPlace ?y3_NoSuchPlace ?y4_NoSuchPlace ?y5_NoSuchPlace ?y6_NoSuchPlace ?y7_NoSuchPlace ?y8_NoSuchPlace ?z1_NoSuchPlace ?z2_NoSuchPlace ?z3_NoSuchPlace ?z4_NoSuchPlace ?z5_NoSuchPlace ?z6_NoSuchPlace ?z7_NoSuchPlace ?z8_NoSuchPlace ?z9_NoSuchPlace
    (case a0 => k_is)
    (case l0 => k_is)
    (case e0 => k_is)
    (case k0 => k_is)
    (case a1 => k_is)
    (case l1 => k_is)
    (case e1 => k_is)
    (case k1 => k_is)
    (case a2 => k_is)
    (case l2 => k_is)
    (case e2 => k_is)
    (case k2 => k_is)
    (case a3 => k_is)
    (case l3 => k_is)
    (case e3 => k_is)
    (case k3 => k_is)
    (case a4 => k_is)
    (case l4 => k_is)
    (case e4 => k_is)
    (case k4 => k_is)
    (case a5 => k_is)
    (case l5 => k_is)
    (case e5 => k_is)
    (case k5 => k_is)
    (case a6 => k_is)
    (case l6 => k_is)
    (case e6 => k_is)
    (case k6 => k_is)
    (case a7 => k_is)
    (case l7 => k_is)
    (case e7 => k_is)
    (case k7 => k_is)
    (case a8 => k_is)
    (case l8 => k_is)
    (case e8 => k_is)
    (case k8 => k_is)
    (case a9 => k_is)
    (case l9 => k_is)
    (case e9 => k_is)
    (case k9 => k_is)
    (case a10 => k_is)
    (case l10 => k_is)
    (case e10 => k_is)
    (case k10 => k_is)
    (case a11 => k_is)
    (case l11 => k_is)
    (case e11 => k_is)
    (case k11 => k_is)
    (case a12 => k_is)
    (case l12 => k_is)
    (case e12 => k_is)
    (case k12 => k_is)
    (case a13 => k_is)
    (case l13 => k_is)
    (case e13 => k_is)
    (case k13 => k_is)
    (case a14 => k_is)
    (case l14 => k_is)
    (case e14 => k_is)
    (case k14 => k_is)
    (case a15 => k_is)
    (case l15 => k_is)
    (case e15 => k_is)
    (case k15 => k_is)
    (case a16 => k_is)
    (case l16 => k_is)
    (case e16 => k_is)
    (case k16 => k_is)
    (case a17 => k_is)
    (case l17 => k_is)
    (case e17 => k_is)
    (case k17 => k_is)
    (case a18 => k_is)
    (case l18 => k_is)
    (case e18 => k_is)
    (case k18 => k_is)
    (case a19 => k_is)
    (case l19 => k_is)
    (case e19 => k_is)
    (case k19 => k_is)
    (case a20 => k_is)
    (case l20 => k_is)
    (case e20 => k_is)
    (case k20 => k_is)
    (case a21 => k_is)
    (case l21 => k_is)
    (case e21 => k_is)
    (case k21 => k_is)
    (case a22 => k_is)
    (case l22 => k_is)
    (case e22 => k_is)
    (case k22 => k_is)
    (case z_int => k_is)
    (case z_len => k_is)
    (case z_range => k_is)
    (case z_tuple => k_is)
    (case z_zip => k_is)
    (case g_REGISTERS => k_is)
    (case gv_REGISTERS => exact ⟨_, _, _, _, _, rfl, (by k_is), (by rw [sizeLine_eq]; decide), ⟨_, _, rfl, ⟨_, rfl⟩, ⟨_, _, rfl, ⟨_, rfl⟩, ⟨_, _, rfl, ⟨_, rfl⟩, ⟨_, _, rfl, ⟨_, rfl⟩, rfl⟩⟩⟩⟩⟩)
    (case g_DIGITS => k_is)
    (case g_LETTERS => k_is)
    (case g_SIGNS => k_is)
    (case g_WORD_LENGTH => k_is)
    (case g_RESERVED => k_is)
    (case gv_RESERVED => exact ⟨_, _, _, _, _, rfl, (by k_is), (by rw [sizeLine_eq]; decide), ⟨_, _, rfl, ⟨_, rfl⟩, ⟨_, _, rfl, ⟨_, rfl⟩, ⟨_, _, rfl, ⟨_, rfl⟩, ⟨_, _, rfl, ⟨_, rfl⟩, ⟨_, _, rfl, ⟨_, rfl⟩, ⟨_, _, rfl, ⟨_, rfl⟩, ⟨_, _, rfl, ⟨_, rfl⟩, ⟨_, _, rfl, ⟨_, rfl⟩, ⟨_, _, rfl, ⟨_, rfl⟩, ⟨_, _, rfl, ⟨_, rfl⟩, ⟨_, _, rfl, ⟨_, rfl⟩, ⟨_, _, rfl, ⟨_, rfl⟩, ⟨_, _, rfl, ⟨_, rfl⟩, ⟨_, _, rfl, ⟨_, rfl⟩, ⟨_, _, rfl, ⟨_, rfl⟩, ⟨_, _, rfl, ⟨_, rfl⟩, ⟨_, _, rfl, ⟨_, rfl⟩, ⟨_, _, rfl, ⟨_, rfl⟩, ⟨_, _, rfl, ⟨_, rfl⟩, ⟨_, _, rfl, ⟨_, rfl⟩, ⟨_, _, rfl, ⟨_, rfl⟩, ⟨_, _, rfl, ⟨_, rfl⟩, ⟨_, _, rfl, ⟨_, rfl⟩, ⟨_, _, rfl, ⟨_, rfl⟩, ⟨_, _, rfl, ⟨_, rfl⟩, rfl⟩⟩⟩⟩⟩⟩⟩⟩⟩⟩⟩⟩⟩⟩⟩⟩⟩⟩⟩⟩⟩⟩⟩⟩⟩⟩)
    (case g_KINDS => k_is)
    (case gv_KINDS => exact ⟨_, _, _, _, _, rfl, (by k_is), (by rw [sizeLine_eq]; decide), ⟨_, _, rfl, ⟨_, rfl⟩, ⟨_, _, rfl, ⟨_, rfl⟩, ⟨_, _, rfl, ⟨_, rfl⟩, ⟨_, _, rfl, ⟨_, rfl⟩, ⟨_, _, rfl, ⟨_, rfl⟩, rfl⟩⟩⟩⟩⟩⟩)
    (case g_MOST_SHARED => k_is)
    (case g_MOST_INSTRUCTIONS => k_is)
    (case xa_NoSuchPlace => k_is)
    (case xl_NoSuchPlace => k_is)
    (case xm_NoSuchPlace => decide +kernel)
    (case x1_NoSuchPlace => k_is)
    (case x2_NoSuchPlace => k_is)
    (case x3_NoSuchPlace => k_is)
    (case x4_NoSuchPlace => k_is)
    (case x5_NoSuchPlace => k_is)
    (case x6_NoSuchPlace => k_is)
    (case x7_NoSuchPlace => k_is)
    (case x8_NoSuchPlace => k_is)
    (case x9_NoSuchPlace => k_is)
    (case y1_NoSuchPlace => k_is)
    (case y2_NoSuchPlace => k_is)
    (case y3_NoSuchPlace => k_is)
    (case y4_NoSuchPlace => first | rfl | k_is)
    (case y5_NoSuchPlace => first | k_is | ks_is | kernel_rfl)
    (case y6_NoSuchPlace => first | k_is | rfl | kernel_rfl)
    (case y7_NoSuchPlace => k_is)
    (case y8_NoSuchPlace => k_is)
    (case z1_NoSuchPlace => first | rfl | decide +kernel)
    (case z2_NoSuchPlace => k_is)
    (case z3_NoSuchPlace => k_is)
    (case z4_NoSuchPlace => decide +kernel)
    (case z5_NoSuchPlace => exact ⟨_, fun _ => rfl⟩)
    (case z6_NoSuchPlace => k_is)
    (case z7_NoSuchPlace => k_is)
    (case z8_NoSuchPlace => rfl)
    (case z9_NoSuchPlace => first | rfl | decide +kernel)
