import PyProof.Rows.All
import HandS.ForMost
import HandS.ForExc
import HandS.CallSlots
import KE.KeyNested
import PyProof.DictRoadsH
import HandS.Deep
import HandS.TupAny
import HandS.TupMul
import HandS.IsInst
import HandS.SortInts
import HandS.RaiseMore
import HandS.Small
import HandS.ExcCtx
import HandS.HotCalls
import HandS.WordsExc
import HandS.Comp
import HandS.Iter
import HandS.Zip
import HandS.Ends
import HandS.More
import HandS.Strs
import HandS.Replace
import HandS.SetKeys
import KE.KExcSuper
import HandS.Exc
import HandS.ExcInit
import HandS.ExcSuper
import HandS.ExcField
import HandS.FStr
import KE.GoesMore
import PyProof.Rows.TupTab
import KE.KDictDisplayH
import HandS.Text
import PySem.Challenge.RW_everyturn_k04_what_is_no_expression
set_option Elab.async false
set_option linter.all false
set_option maxRecDepth 100000
/-! EvBase: values without addresses, a heap of the mutable objects alone, results; how they stand to the hand layer's values. -/
namespace Ev
open PySem PySem.Spec PyProof.Rows L2

/-- a value; ref n: the n-th mutable object -/
inductive D where
  | non | bl (b : Bool) | int (i : Int) | str (x : Str) | tup (l : List D) | lst (l : List D) | dic (l : List (D × D)) | scr (l : List Int) | ref (n : Nat) | ty (n : String) | ntp (l : List Str)
/-- a mutable object -/
inductive O where
  | lst (l : List D) | dic (l : List (D × D)) | ins (c : Str) (fs : List (Str × D)) | dtn (l : List (D × D))
abbrev Hh := List O
inductive Res (α : Type) where
  | ok (a : α) (h : Hh) | raise (c : Str) (fs : List (Str × D)) (h : Hh) | stuck
/-- what a statement does -/
inductive Fl where
  | nx (ρ : List (Option D)) | ret (d : D) | bk (ρ : List (Option D)) | ct (ρ : List (Option D))
abbrev Env := List (Option D)
abbrev EM (α : Type) := Env → Hh → Res α
abbrev SM := Env → Hh → Res Fl
def Res.bind {α β : Type} (r : Res α) (f : α → Hh → Res β) : Res β := match r with
  | .ok a h => f a h
  | .raise c fs h => .raise c fs h
  | .stuck => .stuck
@[simp] theorem bind_ok {α β : Type} (a : α) (h : Hh) (f : α → Hh → Res β) : (Res.ok a h).bind f = f a h := (rfl)
@[simp] theorem bind_raise {α β : Type} (c : Str) (fs : List (Str × D)) (h : Hh) (f : α → Hh → Res β) : (Res.raise c fs h).bind f = .raise c fs h := (rfl)
@[simp] theorem bind_stuck {α β : Type} (f : α → Hh → Res β) : (Res.stuck : Res α).bind f = .stuck := (rfl)

/-- the addresses of the mutable objects: those that are counted, and those that are being made and are not seen -/
structure Ad where
  c : List Addr
  d : List Addr
def Ad.In (η : Ad) (a : Addr) : Prop := a ∈ η.c ∨ a ∈ η.d
def Ad.push (η : Ad) (a : Addr) : Ad := ⟨η.c ++ [a], η.d⟩
/-- a new one that is not seen -/
def Ad.hide (η : Ad) (a : Addr) : Ad := ⟨η.c, a :: η.d⟩

def keyD : D → Option Key
  | .int i => some (.inl i)
  | .str x => some (.inr x)
  | _ => none

section
/-- a key of any depth -/
def nkD : D → Option NestedKey
  | .non => some .none
  | .bl b => some (.num (if b then 1 else 0))
  | .int i => some (.num i)
  | .str x => some (.text x)
  | .tup l => (nkDs l).map .tup
  | _ => none
where nkDs : List D → Option (List NestedKey)
  | [] => some []
  | d :: l => match nkD d, nkDs l with
    | some k, some r => some (k :: r)
    | _, _ => none
abbrev NL := List (NestedKey × Addr × V)
abbrev NU := List (NestedKey × Addr × Value)
/-- the dict's raw object -/
def rawN (w : World) (a : Addr) (us : NU) (h : Heap) : Prop := ∃ o es ep, h.get? a = some o ∧ o.ExactDict ∧ o.data = .dict es ep ∧ es.toList = us.map (fun x => (⟨x.1.hash w, .ref x.2.1, x.2.2⟩ : DictEntry)) ∧ (us.map (·.1)).Nodup ∧ us.length ≤ sizeLine ∧ (a == sysModules) = false
abbrev NR : NL → NU → Prop := Paired fun p q => p.1 = q.1 ∧ p.2.1 = q.2.1 ∧ RelV p.2.2 q.2.2
def dnO (w : World) (a : Addr) (xs : NL) : HO := .ext fun h => ∃ us, NR xs us ∧ rawN w a us h
variable (K : PySem.W.Frag) (mg : Str → Option Value) (w : World) (η : Ad) (H : Hp)
mutual
/-- d is what v means -/
def RD : D → V → Prop
  | .non, v => v = .non
  | .bl b, v => v = .bl b
  | .int i, v => v = .int i
  | .str x, v => v = .str x
  | .tup l, v => ∃ a xs, v = .ref a ∧ SqT K H a xs ∧ RDs l xs
  | .lst l, v => ∃ a xs, v = .ref a ∧ H a = some (.lst xs) ∧ ¬ η.In a ∧ RDs l xs
  | .dic l, v => ∃ a xs, v = .ref a ∧ H a = some (.dK xs) ∧ ¬ η.In a ∧ RKs l xs
  | .scr l, v => ∃ a, v = .ref a ∧ ((¬ η.In a ∧ Rd H a (.lst (l.map V.int))) ∨ ∀ H, SqL K H a (l.map V.int))
  | .ref n, v => ∃ a, η.c[n]? = some a ∧ v = .ref a
  | .ty n, v => v = .ty n
  | .ntp l, v => ∃ a ob, v = .ref a ∧ H a = some (.frz ob (.tup (l.map V.str))) ∧ ob.cls = .type "tuple" ∧ ob.dict = none ∧ ¬ η.In a
def RDs : List D → List V → Prop
  | [], xs => xs = []
  | d :: l, xs => ∃ x r, xs = x :: r ∧ RD d x ∧ RDs l r
def RKs : List (D × D) → List (Key × V) → Prop
  | [], xs => xs = []
  | (k, d) :: l, xs => ∃ k' x r, xs = (k', x) :: r ∧ keyD k = some k' ∧ RD d x ∧ RKs l r
end
def RNs : List (D × D) → NL → Prop
  | [], xs => xs = []
  | (k, d) :: l, xs => ∃ k' b v r, xs = (k', b, v) :: r ∧ nkD k = some k' ∧ k'.depth ≤ 8 ∧ RD K η H k (.ref b) ∧ RD K η H d v ∧ RNs l r
def RFs : List (Str × D) → List (Str × V) → Prop
  | [], xs => xs = []
  | (k, d) :: l, xs => ∃ x r, xs = (k, x) :: r ∧ RD K η H d x ∧ RFs l r
/-- the object at a is o -/
def RO (a : Addr) : O → Prop
  | .lst l => ∃ xs, H a = some (.lst xs) ∧ RDs K η H l xs
  | .dic l => ∃ xs, H a = some (.dK xs) ∧ RKs K η H l xs
  | .ins c fs => ∃ C dx gs, mg c = some (.ref C) ∧ H a = some (.ins C dx gs) ∧ ¬ η.In dx ∧ H dx = some (.own a) ∧ RFs K η H fs gs
  | .dtn l => ∃ xs, H a = some (dnO w a xs) ∧ RNs K η H l xs
structure RH (h : Hh) : Prop where
  len : η.c.length = h.length
  nd : η.c.Nodup
  ap : ∀ a ∈ η.c, a ∉ η.d
  hid : ∀ a ∈ η.d, ∃ u, H a = some u
  ob : ∀ (i : Nat) (a : Addr) (o : O), η.c[i]? = some a → h[i]? = some o → RO K mg w η H a o
/-- the slots -/
structure RS (σ : L2.St) (ρ : Env) : Prop where
  len : σ.length = ρ.length
  at_ : ∀ (i : Nat) (d : D), ρ[i]? = some (some d) → ∃ v, σ[i]? = some (some v) ∧ RD K η H d v
end
/-- nothing but the mutable objects has changed; the new ones are new -/
structure Stw (η : Ad) (H : Hp) (η' : Ad) (H' : Hp) : Prop where
  pre : ∃ ζ, η'.c = η.c ++ ζ
  new : ∀ b, η'.In b → η.In b ∨ H b = none
  keep : ∀ a o, ¬ η.In a → H a = some o → H' a = some o
  tup : ∀ a xs, Rd H a (.tup xs) → Rd H' a (.tup xs)
structure Step (η : Ad) (H : Hp) (η' : Ad) (H' : Hp) : Prop extends Stw η H η' H' where
  hid : η'.d = η.d
  kh : ∀ a ∈ η.d, H' a = H a
theorem Step.refl (η : Ad) (H : Hp) : Step η H η H := ⟨⟨⟨[], by simp⟩, fun _ h => .inl h, fun _ _ _ h => h, fun _ _ h => h⟩, rfl, fun _ _ => rfl⟩
theorem Step.trans {η η1 η2 : Ad} {H H1 H2 : Hp} (a : Step η H η1 H1) (b : Step η1 H1 η2 H2) : Step η H η2 H2 where
  pre := by
    obtain ⟨z1, e1⟩ := a.pre
    obtain ⟨z2, e2⟩ := b.pre
    exact ⟨z1 ++ z2, by rw [e2, e1, List.append_assoc]⟩
  hid := b.hid.trans a.hid
  new := fun c hc => by
    rcases b.new c hc with h | h
    · exact a.new c h
    · by_cases q : η.In c
      · exact .inl q
      · cases e : H c with
        | none => exact .inr rfl
        | some o =>
          rw [a.keep c o q e] at h
          cases h
  keep := fun c o hc e => by
    refine b.keep c o (fun q => ?_) (a.keep c o hc e)
    rcases a.new c q with h | h
    · exact hc h
    · rw [h] at e
      cases e
  kh := fun c hc => (b.kh c (by rw [a.hid]; exact hc)).trans (a.kh c hc)
  tup := fun c xs h => b.tup c xs (a.tup c xs h)
theorem Stw.nin {η η' : Ad} {H H' : Hp} (s : Stw η H η' H') {a : Addr} {o : HO} (n : ¬ η.In a) (e : H a = some o) : ¬ η'.In a := fun q => by
  rcases s.new a q with h | h
  · exact n h
  · rw [h] at e
    cases e
theorem Stw.at_ {η η' : Ad} {H H' : Hp} (s : Stw η H η' H') {n : Nat} {a : Addr} (e : η.c[n]? = some a) : η'.c[n]? = some a := by
  obtain ⟨z, h⟩ := s.pre
  rw [h, List.getElem?_append_left (List.getElem?_eq_some_iff.mp e).1]
  exact e
theorem Stw.sqT {K : PySem.W.Frag} {η η' : Ad} {H H' : Hp} (s : Stw η H η' H') {a : Addr} {xs : List V} (h : SqT K H a xs) : SqT K H' a xs := by
  rcases h with h | h
  · exact .inl (s.tup a xs h)
  · exact .inr h
section
variable {K : PySem.W.Frag} {mg : Str → Option Value} {w : World} {η η' : Ad} {H H' : Hp}
theorem Stw.rd1 {u : HO} {a : Addr} (s : Stw η H η' H') (n : ¬ η.In a) (h : Rd H a u) : Rd H' a u ∧ ¬ η'.In a := by
  rcases h with h | ⟨o, h⟩
  · exact ⟨.inl (s.keep a _ n h), s.nin n h⟩
  · exact ⟨.inr ⟨o, s.keep a _ n h⟩, s.nin n h⟩
mutual
theorem RD.stw (s : Stw η H η' H') : ∀ (d : D) (v : V), RD K η H d v → RD K η' H' d v
  | .non, v, h => h
  | .bl b, v, h => h
  | .int i, v, h => h
  | .str x, v, h => h
  | .tup l, v, h => by
    obtain ⟨a, xs, e, q, r⟩ := h
    exact ⟨a, xs, e, s.sqT q, RDs.stw s l xs r⟩
  | .lst l, v, h => by
    obtain ⟨a, xs, e, q, n, r⟩ := h
    exact ⟨a, xs, e, s.keep _ _ n q, s.nin n q, RDs.stw s l xs r⟩
  | .dic l, v, h => by
    obtain ⟨a, xs, e, q, n, r⟩ := h
    exact ⟨a, xs, e, s.keep _ _ n q, s.nin n q, RKs.stw s l xs r⟩
  | .scr l, v, h => by
    obtain ⟨a, e, h | h⟩ := h
    · have q := s.rd1 h.1 h.2
      exact ⟨a, e, .inl ⟨q.2, q.1⟩⟩
    · exact ⟨a, e, .inr h⟩
  | .ref n, v, h => by
    obtain ⟨a, e, q⟩ := h
    exact ⟨a, s.at_ e, q⟩
  | .ty n, v, h => h
  | .ntp l, v, h => by
    obtain ⟨a, ob, e, q, c, d, n⟩ := h
    exact ⟨a, ob, e, s.keep _ _ n q, c, d, s.nin n q⟩
theorem RDs.stw (s : Stw η H η' H') : ∀ (l : List D) (xs : List V), RDs K η H l xs → RDs K η' H' l xs
  | [], xs, h => h
  | d :: l, xs, h => by
    obtain ⟨x, r, e, q, t⟩ := h
    exact ⟨x, r, e, RD.stw s d x q, RDs.stw s l r t⟩
theorem RKs.stw (s : Stw η H η' H') : ∀ (l : List (D × D)) (xs : List (Key × V)), RKs K η H l xs → RKs K η' H' l xs
  | [], xs, h => h
  | (k, d) :: l, xs, h => by
    obtain ⟨k', x, r, e, q, t, u⟩ := h
    exact ⟨k', x, r, e, q, RD.stw s d x t, RKs.stw s l r u⟩
end
theorem RFs.stw (s : Stw η H η' H') : ∀ (l : List (Str × D)) (xs : List (Str × V)), RFs K η H l xs → RFs K η' H' l xs
  | [], xs, h => h
  | (k, d) :: l, xs, h => by
    obtain ⟨x, r, e, t, u⟩ := h
    exact ⟨x, r, e, RD.stw s d x t, RFs.stw s l r u⟩
theorem RNs.stw (s : Stw η H η' H') : ∀ (l : List (D × D)) (xs : NL), RNs K η H l xs → RNs K η' H' l xs
  | [], xs, h => h
  | (k, d) :: l, xs, h => by
    obtain ⟨k', b, v, r, e, q, z, t, u, y⟩ := h
    exact ⟨k', b, v, r, e, q, z, RD.stw s k _ t, RD.stw s d v u, RNs.stw s l r y⟩
theorem RD.step (s : Step η H η' H') (d : D) (v : V) (r : RD K η H d v) : RD K η' H' d v := RD.stw s.toStw d v r
theorem RDs.step (s : Step η H η' H') (d : List D) (v : List V) (r : RDs K η H d v) : RDs K η' H' d v := RDs.stw s.toStw d v r
theorem RKs.step (s : Step η H η' H') (d : List (D × D)) (v : List (Key × V)) (r : RKs K η H d v) : RKs K η' H' d v := RKs.stw s.toStw d v r
theorem RFs.step (s : Step η H η' H') (d : List (Str × D)) (v : List (Str × V)) (r : RFs K η H d v) : RFs K η' H' d v := RFs.stw s.toStw d v r
theorem RS.stw {σ : L2.St} {ρ : Env} (s : Stw η H η' H') (r : RS K η H σ ρ) : RS K η' H' σ ρ :=
  ⟨r.len, fun i d e => let ⟨v, e1, q⟩ := r.at_ i d e; ⟨v, e1, q.stw s⟩⟩
theorem RS.step {σ : L2.St} {ρ : Env} (s : Step η H η' H') (r : RS K η H σ ρ) : RS K η' H' σ ρ := r.stw s.toStw
theorem RDs.length : ∀ {l : List D} {xs : List V}, RDs K η H l xs → xs.length = l.length
  | [], _, h => by cases h; rfl
  | d :: l, xs, h => by
    obtain ⟨x, r, rfl, _, t⟩ := h
    rw [List.length_cons, List.length_cons, t.length]
theorem RDs.get : ∀ {l : List D} {xs : List V} {i : Nat} {d : D}, RDs K η H l xs → l[i]? = some d → ∃ x, xs[i]? = some x ∧ RD K η H d x
  | [], _, _, _, h, e => by simp at e
  | d :: l, xs, 0, d', h, e => by
    obtain ⟨x, r, rfl, q, t⟩ := h
    cases (Option.some.inj e)
    exact ⟨x, rfl, q⟩
  | d :: l, xs, i + 1, d', h, e => by
    obtain ⟨x, r, rfl, q, t⟩ := h
    exact RDs.get (i := i) t e
theorem RDs.app : ∀ {l l' : List D} {xs xs' : List V}, RDs K η H l xs → RDs K η H l' xs' → RDs K η H (l ++ l') (xs ++ xs')
  | [], _, _, _, h, h' => by cases h; exact h'
  | d :: l, l', xs, xs', h, h' => by
    obtain ⟨x, r, rfl, q, t⟩ := h
    exact ⟨x, r ++ xs', rfl, q, RDs.app t h'⟩
theorem RDs.take : ∀ {l : List D} {xs : List V} (n : Nat), RDs K η H l xs → RDs K η H (l.take n) (xs.take n)
  | _, _, 0, _ => rfl
  | [], _, n + 1, h => by cases h; rfl
  | d :: l, xs, n + 1, h => by
    obtain ⟨x, r, rfl, q, t⟩ := h
    exact ⟨x, r.take n, rfl, q, RDs.take n t⟩
theorem RDs.drop : ∀ {l : List D} {xs : List V} (n : Nat), RDs K η H l xs → RDs K η H (l.drop n) (xs.drop n)
  | _, _, 0, h => h
  | [], _, n + 1, h => by cases h; rfl
  | d :: l, xs, n + 1, h => by
    obtain ⟨x, r, rfl, q, t⟩ := h
    exact RDs.drop (l := l) n t
theorem RDs.set : ∀ {l : List D} {xs : List V} (n : Nat) {d : D} {x : V}, RDs K η H l xs → RD K η H d x → RDs K η H (l.set n d) (xs.set n x)
  | [], _, _, _, _, h, _ => by cases h; rfl
  | d :: l, xs, 0, d', x', h, k => by
    obtain ⟨x, r, rfl, q, t⟩ := h
    exact ⟨x', r, rfl, k, t⟩
  | d :: l, xs, n + 1, d', x', h, k => by
    obtain ⟨x, r, rfl, q, t⟩ := h
    exact ⟨x, r.set n x', rfl, q, RDs.set n t k⟩
theorem RDs.ints : ∀ {l : List Int} {xs : List V}, RDs K η H (l.map D.int) xs → xs = l.map V.int
  | [], _, h => h
  | i :: l, xs, h => by
    obtain ⟨x, r, rfl, q, t⟩ := h
    rw [t.ints, q]
    rfl
theorem RDs.of_ints : ∀ (l : List Int), RDs K η H (l.map D.int) (l.map V.int)
  | [] => rfl
  | i :: l => ⟨.int i, l.map V.int, rfl, rfl, RDs.of_ints l⟩

/-! ### a mutable object changes, a new one comes -/
def mutO : HO → Prop
  | .lst _ | .dK _ | .ins _ _ _ | .ext _ => True
  | _ => False
theorem RO.mut {a : Addr} {o : O} (h : RO K mg w η H a o) : ∃ u, H a = some u ∧ mutO u := by
  cases o with
  | lst l => obtain ⟨xs, e, _⟩ := h; exact ⟨_, e, trivial⟩
  | dic l => obtain ⟨xs, e, _⟩ := h; exact ⟨_, e, trivial⟩
  | ins c fs => obtain ⟨C, dx, gs, _, e, _⟩ := h; exact ⟨_, e, trivial⟩
  | dtn l => obtain ⟨xs, e, _⟩ := h; exact ⟨_, e, trivial⟩
theorem mem_of_at {n : Nat} {a : Addr} (e : η.c[n]? = some a) : a ∈ η.c := List.mem_of_getElem? e
theorem Step.upd {a : Addr} {u o : HO} (ha : a ∈ η.c) (hd : a ∉ η.d) (e : H a = some u) (m : mutO u) : Step η H η (L2.upd H a o) where
  pre := ⟨[], by simp⟩
  hid := rfl
  new := fun _ h => .inl h
  keep := fun b u n q => by
    have ne : b ≠ a := fun z => n (by rw [z]; exact .inl ha)
    rw [upd_ne ne]
    exact q
  kh := fun b hb => by
    have ne : b ≠ a := fun z => hd (by rw [← z]; exact hb)
    rw [upd_ne ne]
  tup := fun b xs h => by
    have ne : b ≠ a := fun z => by
      subst z
      rcases h with h | ⟨ob, h⟩
      · rw [e] at h; cases h; exact m
      · rw [e] at h; cases h; exact m
    rcases h with h | ⟨ob, h⟩
    · exact .inl (by rw [upd_ne ne]; exact h)
    · exact .inr ⟨ob, by rw [upd_ne ne]; exact h⟩
/-- new objects, not counted -/
theorem Step.new1 {a : Addr} {o : HO} (n : H a = none) (hd : ∀ b ∈ η.d, ∃ u, H b = some u) : Step η H η (L2.upd H a o) where
  pre := ⟨[], by simp⟩
  hid := rfl
  new := fun _ h => .inl h
  keep := fun b u _ q => by
    rw [upd_ne (ne_of_none q n)]
    exact q
  kh := fun b hb => by
    obtain ⟨xs, q⟩ := hd b hb
    rw [upd_ne (ne_of_none q n)]
  tup := fun b xs h => by
    rcases h with h | ⟨ob, h⟩
    · exact .inl (by rw [upd_ne (ne_of_none h n)]; exact h)
    · exact .inr ⟨ob, by rw [upd_ne (ne_of_none h n)]; exact h⟩
/-- an object elsewhere stays -/
theorem RO.stw {a : Addr} {o : O} (s : Stw η H η' H') (k : ∀ u, H a = some u → H' a = some u) (h : RO K mg w η H a o) : RO K mg w η' H' a o := by
  cases o with
  | lst l => obtain ⟨xs, e, r⟩ := h; exact ⟨xs, k _ e, r.stw s⟩
  | dic l => obtain ⟨xs, e, r⟩ := h; exact ⟨xs, k _ e, r.stw s⟩
  | ins c fs =>
    obtain ⟨C, dx, gs, m, e, n, d, r⟩ := h
    exact ⟨C, dx, gs, m, k _ e, s.nin n d, s.keep _ _ n d, r.stw s⟩
  | dtn l => obtain ⟨xs, e, r⟩ := h; exact ⟨xs, k _ e, r.stw s⟩
theorem RO.step {a : Addr} {o : O} (s : Step η H η' H') (k : ∀ u, H a = some u → H' a = some u) (h : RO K mg w η H a o) : RO K mg w η' H' a o := h.stw s.toStw k
theorem RH.lt {h : Hh} (r : RH K mg w η H h) {n : Nat} {a : Addr} (e : η.c[n]? = some a) : n < h.length := by
  rw [← r.len]
  exact (List.getElem?_eq_some_iff.mp e).1
theorem RH.addr {h : Hh} (r : RH K mg w η H h) {n : Nat} {o : O} (e : h[n]? = some o) : ∃ a, η.c[n]? = some a ∧ RO K mg w η H a o := by
  have hn : n < η.c.length := by
    rw [r.len]
    exact (List.getElem?_eq_some_iff.mp e).1
  exact ⟨η.c[n], List.getElem?_eq_getElem hn, r.ob n _ o (List.getElem?_eq_getElem hn) e⟩
theorem RH.inj {h : Hh} (r : RH K mg w η H h) {n m : Nat} {a : Addr} (e : η.c[n]? = some a) (e' : η.c[m]? = some a) : n = m := by
  obtain ⟨h1, e1⟩ := List.getElem?_eq_some_iff.mp e
  obtain ⟨h2, e2⟩ := List.getElem?_eq_some_iff.mp e'
  exact (List.getElem_inj r.nd).mp (e1.trans e2.symm)
theorem RH.nin {h : Hh} {a : Addr} (r : RH K mg w η H h) (n : H a = none) : ¬ η.In a := fun q => by
  rcases q with q | q
  · obtain ⟨i, hi, e⟩ := List.getElem_of_mem q
    have hl : i < h.length := by rw [← r.len]; exact hi
    obtain ⟨u, e2, _⟩ := (r.ob i a _ (by rw [List.getElem?_eq_getElem hi, e]) (List.getElem?_eq_getElem hl)).mut
    rw [n] at e2
    cases e2
  · obtain ⟨xs, e⟩ := r.hid a q
    rw [n] at e
    cases e
theorem RH.updS {h : Hh} (r : RH K mg w η H h) {n : Nat} {a : Addr} {u o : HO} (e : η.c[n]? = some a) (eu : H a = some u) (mu : mutO u) : Step η H η (L2.upd H a o) :=
  .upd (mem_of_at e) (r.ap a (mem_of_at e)) eu mu
/-- one object changes -/
theorem RH.set {h : Hh} {n : Nat} {a : Addr} {o : O} {ho : HO} (r : RH K mg w η H h) (e : η.c[n]? = some a) {u : HO} (eu : H a = some u) (mu : mutO u) (new : RO K mg w η (upd H a ho) a o) : RH K mg w η (upd H a ho) (h.set n o) where
  len := by rw [List.length_set]; exact r.len
  nd := r.nd
  ap := r.ap
  hid := fun b hb => by
    have ne : b ≠ a := fun z => r.ap a (mem_of_at e) (by rw [← z]; exact hb)
    rw [upd_ne ne]
    exact r.hid b hb
  ob := fun i b o' e1 e2 => by
    by_cases q : i = n
    · subst q
      rw [e] at e1
      cases e1
      rw [List.getElem?_set_self (r.lt e)] at e2
      cases e2
      exact new
    · rw [List.getElem?_set_ne (Ne.symm q)] at e2
      have ne : b ≠ a := fun z => q (r.inj e1 (z ▸ e))
      exact (r.ob i b o' e1 e2).step (r.updS e eu mu) fun u q => by rw [upd_ne ne]; exact q
theorem RH.mono {h : Hh} (r : RH K mg w η H h) (s : Step η H η H') (k : ∀ b ∈ η.c, ∀ u, H b = some u → H' b = some u) : RH K mg w η H' h :=
  ⟨r.len, r.nd, r.ap, fun a ha => by rw [s.kh a ha]; exact r.hid a ha, fun i b o e1 e2 => (r.ob i b o e1 e2).step s (k b (mem_of_at e1))⟩
theorem RH.new1S {h : Hh} {a : Addr} {o : HO} (r : RH K mg w η H h) (n : H a = none) : Step η H η (L2.upd H a o) := .new1 n r.hid
/-- a new object that is not counted -/
theorem RH.new1 {h : Hh} {a : Addr} {o : HO} (r : RH K mg w η H h) (n : H a = none) : RH K mg w η (upd H a o) h :=
  r.mono (r.new1S n) fun b _ u q => by rw [upd_ne (ne_of_none q n)]; exact q
theorem RH.allocS {h : Hh} {a : Addr} {u : HO} (r : RH K mg w η H h) (n : H a = none) : Step η H (η.push a) (L2.upd H a u) where
  pre := ⟨[a], rfl⟩
  hid := rfl
  new := fun b hb => by
    rcases hb with hb | hb
    · rcases List.mem_append.mp hb with h | h
      · exact .inl (.inl h)
      · rw [List.mem_singleton.mp h]
        exact .inr n
    · exact .inl (.inr hb)
  keep := (r.new1S (o := u) n).keep
  kh := (r.new1S (o := u) n).kh
  tup := (r.new1S (o := u) n).tup
/-- a new one that is counted -/
theorem RH.alloc {h : Hh} {a : Addr} {o : O} {u : HO} (r : RH K mg w η H h) (n : H a = none) (new : RO K mg w (η.push a) (upd H a u) a o) : RH K mg w (η.push a) (upd H a u) (h ++ [o]) where
  len := by
    show (η.c ++ [a]).length = _
    simp [r.len]
  nd := by
    show (η.c ++ [a]).Nodup
    rw [List.nodup_append]
    refine ⟨r.nd, by simp, fun x hx y hy => ?_⟩
    rw [List.mem_singleton.mp hy]
    exact fun z => r.nin n (.inl (z ▸ hx))
  ap := fun b hb => by
    rcases List.mem_append.mp hb with h | h
    · exact r.ap b h
    · rw [List.mem_singleton.mp h]
      exact fun z => r.nin n (.inr z)
  hid := fun b hb => by
    obtain ⟨xs, q⟩ := r.hid b hb
    exact ⟨xs, by rw [upd_ne (ne_of_none q n)]; exact q⟩
  ob := fun i b o' e1 e2 => by
    have e1 : (η.c ++ [a])[i]? = some b := e1
    by_cases q : i < η.c.length
    · rw [List.getElem?_append_left q] at e1
      rw [List.getElem?_append_left (by rw [← r.len]; exact q)] at e2
      exact (r.ob i b o' e1 e2).step (r.allocS n) fun u q => by rw [upd_ne (ne_of_none q n)]; exact q
    · rw [List.getElem?_append_right (by omega)] at e1
      rw [List.getElem?_append_right (by have := r.len; omega)] at e2
      rw [r.len] at e1
      have h0 : i - h.length = 0 := by
        have := (List.getElem?_eq_some_iff.mp e1).1
        simpa using this
      rw [h0] at e1 e2
      cases e1
      cases e2
      exact new
/-! ### a list that is being made, not seen -/
theorem In_hide {p a : Addr} : (η.hide p).In a ↔ η.In a ∨ a = p := by
  unfold Ad.In Ad.hide
  simp only [List.mem_cons]
  constructor
  · rintro (h | h | h)
    · exact .inl (.inl h)
    · exact .inr h
    · exact .inl (.inr h)
  · rintro ((h | h) | h)
    · exact .inl h
    · exact .inr (.inr h)
    · exact .inr (.inl h)
/-- from the outside to a step within -/
theorem Step.under {θ : Ad} {H1 : Hp} {p : Addr} (s : Step η H1 θ H) (n : H1 p = none) (t : Step (θ.hide p) H η' H') : ∃ θ' : Ad, η' = θ'.hide p ∧ Step η H1 θ' H' := by
  refine ⟨⟨η'.c, θ.d⟩, ?_, ⟨⟨?_, fun b hb => ?_, fun a o hn e => ?_, fun a xs h => t.tup a xs (s.tup a xs h)⟩, s.hid, fun a ha => ?_⟩⟩
  · have := t.hid
    cases η'
    simp only at this
    rw [this]
    rfl
  · obtain ⟨z1, e1⟩ := s.pre
    obtain ⟨z2, e2⟩ := t.pre
    refine ⟨z1 ++ z2, ?_⟩
    show η'.c = _
    rw [e2]
    show θ.c ++ z2 = _
    rw [e1, List.append_assoc]
  · have hb' : η'.In b := by
      rcases hb with h | h
      · exact .inl h
      · exact .inr (by rw [t.hid]; exact List.mem_cons_of_mem _ h)
    rcases t.new b hb' with h | h
    · rcases In_hide.mp h with h | h
      · exact s.new b h
      · rw [h]
        exact .inr n
    · by_cases q : η.In b
      · exact .inl q
      · cases e : H1 b with
        | none => exact .inr rfl
        | some o =>
          rw [s.keep b o q e] at h
          cases h
  · refine t.keep a o (fun q => ?_) (s.keep a o hn e)
    rcases In_hide.mp q with h | h
    · exact s.nin hn e h
    · rw [h, n] at e
      cases e
  · have h1 : a ∈ θ.d := by rw [s.hid]; exact ha
    rw [t.kh a (List.mem_cons_of_mem _ h1), s.kh a ha]
theorem Stw.grown {θ : Ad} {p : Addr} {xs ys : List V} (e : H p = some (.lst xs)) : Stw (θ.hide p) H (θ.hide p) (L2.upd H p (.lst ys)) where
  pre := ⟨[], by simp⟩
  new := fun _ h => .inl h
  keep := fun a o hn q => by
    have ne : a ≠ p := fun z => hn (In_hide.mpr (.inr z))
    rw [upd_ne ne]
    exact q
  tup := fun a zs h => by
    have ne : a ≠ p := fun z => by
      subst z
      rcases h with h | ⟨o, h⟩
      · rw [e] at h; cases h
      · rw [e] at h; cases h
    rcases h with h | ⟨o, h⟩
    · exact .inl (by rw [upd_ne ne]; exact h)
    · exact .inr ⟨o, by rw [upd_ne ne]; exact h⟩
theorem Step.grown {θ : Ad} {H1 : Hp} {p : Addr} {xs ys : List V} (s : Step η H1 θ H) (n : H1 p = none) (hd : ∀ b ∈ η.d, ∃ u, H1 b = some u) (e : H p = some (.lst xs)) : Step η H1 θ (L2.upd H p (.lst ys)) where
  pre := s.pre
  new := s.new
  keep := fun a o hn q => by
    rw [upd_ne (ne_of_none q n)]
    exact s.keep a o hn q
  tup := fun a zs h => (Stw.grown (θ := θ) e).tup a zs (s.tup a zs h)
  hid := s.hid
  kh := fun a ha => by
    obtain ⟨zs, q⟩ := hd a ha
    rw [upd_ne (ne_of_none q n)]
    exact s.kh a ha
theorem RH.grown {h : Hh} {θ : Ad} {p : Addr} {xs ys : List V} (r : RH K mg w (θ.hide p) H h) (e : H p = some (.lst xs)) : RH K mg w (θ.hide p) (L2.upd H p (.lst ys)) h where
  len := r.len
  nd := r.nd
  ap := r.ap
  hid := fun a ha => by
    by_cases q : a = p
    · rw [q, upd_same]
      exact ⟨_, rfl⟩
    · rw [upd_ne q]
      exact r.hid a ha
  ob := fun i b o e1 e2 => by
    have ne : b ≠ p := fun z => r.ap b (mem_of_at e1) (by rw [z]; exact List.mem_cons_self)
    exact (r.ob i b o e1 e2).stw (.grown e) fun u q => by rw [upd_ne ne]; exact q
/-- it is seen -/
theorem Stw.shown {θ : Ad} {p : Addr} : ∀ b, θ.In b → (θ.hide p).In b := fun _ h => In_hide.mpr (.inl h)
mutual
theorem RD.sub (hc : η'.c = η.c) (i : ∀ b, η'.In b → η.In b) : ∀ (d : D) (v : V), RD K η H d v → RD K η' H d v
  | .non, v, h => h
  | .bl b, v, h => h
  | .int i, v, h => h
  | .str x, v, h => h
  | .tup l, v, h => by
    obtain ⟨a, xs, e, q, r⟩ := h
    exact ⟨a, xs, e, q, RDs.sub hc i l xs r⟩
  | .lst l, v, h => by
    obtain ⟨a, xs, e, q, n, r⟩ := h
    exact ⟨a, xs, e, q, fun z => n (i a z), RDs.sub hc i l xs r⟩
  | .dic l, v, h => by
    obtain ⟨a, xs, e, q, n, r⟩ := h
    exact ⟨a, xs, e, q, fun z => n (i a z), RKs.sub hc i l xs r⟩
  | .scr l, v, h => by
    obtain ⟨a, e, h | h⟩ := h
    · exact ⟨a, e, .inl ⟨fun z => h.1 (i a z), h.2⟩⟩
    · exact ⟨a, e, .inr h⟩
  | .ref n, v, h => by
    obtain ⟨a, e, q⟩ := h
    exact ⟨a, by rw [hc]; exact e, q⟩
  | .ty n, v, h => h
  | .ntp l, v, h => by
    obtain ⟨a, ob, e, q, c, d, n⟩ := h
    exact ⟨a, ob, e, q, c, d, fun z => n (i a z)⟩
theorem RDs.sub (hc : η'.c = η.c) (i : ∀ b, η'.In b → η.In b) : ∀ (l : List D) (xs : List V), RDs K η H l xs → RDs K η' H l xs
  | [], xs, h => h
  | d :: l, xs, h => by
    obtain ⟨x, r, e, q, t⟩ := h
    exact ⟨x, r, e, RD.sub hc i d x q, RDs.sub hc i l r t⟩
theorem RKs.sub (hc : η'.c = η.c) (i : ∀ b, η'.In b → η.In b) : ∀ (l : List (D × D)) (xs : List (Key × V)), RKs K η H l xs → RKs K η' H l xs
  | [], xs, h => h
  | (k, d) :: l, xs, h => by
    obtain ⟨k', x, r, e, q, t, u⟩ := h
    exact ⟨k', x, r, e, q, RD.sub hc i d x t, RKs.sub hc i l r u⟩
end
theorem RFs.sub (hc : η'.c = η.c) (i : ∀ b, η'.In b → η.In b) : ∀ (l : List (Str × D)) (xs : List (Str × V)), RFs K η H l xs → RFs K η' H l xs
  | [], xs, h => h
  | (k, d) :: l, xs, h => by
    obtain ⟨x, r, e, t, u⟩ := h
    exact ⟨x, r, e, RD.sub hc i d x t, RFs.sub hc i l r u⟩
theorem RNs.sub (hc : η'.c = η.c) (i : ∀ b, η'.In b → η.In b) : ∀ (l : List (D × D)) (xs : NL), RNs K η H l xs → RNs K η' H l xs
  | [], xs, h => h
  | (k, d) :: l, xs, h => by
    obtain ⟨k', b, v, r, e, q, z, t, u, y⟩ := h
    exact ⟨k', b, v, r, e, q, z, RD.sub hc i k _ t, RD.sub hc i d v u, RNs.sub hc i l r y⟩
theorem RO.sub (hc : η'.c = η.c) (i : ∀ b, η'.In b → η.In b) {a : Addr} {o : O} (h : RO K mg w η H a o) : RO K mg w η' H a o := by
  cases o with
  | lst l => obtain ⟨xs, e, r⟩ := h; exact ⟨xs, e, RDs.sub hc i _ _ r⟩
  | dic l => obtain ⟨xs, e, r⟩ := h; exact ⟨xs, e, RKs.sub hc i _ _ r⟩
  | ins c fs =>
    obtain ⟨C, dx, gs, m, e, n, d, r⟩ := h
    exact ⟨C, dx, gs, m, e, fun z => n (i _ z), d, RFs.sub hc i _ _ r⟩
  | dtn l => obtain ⟨xs, e, r⟩ := h; exact ⟨xs, e, RNs.sub hc i _ _ r⟩
theorem RH.shown {h : Hh} {θ : Ad} {p : Addr} (r : RH K mg w (θ.hide p) H h) : RH K mg w θ H h where
  len := r.len
  nd := r.nd
  ap := fun a ha z => r.ap a ha (List.mem_cons_of_mem _ z)
  hid := fun a ha => r.hid a (List.mem_cons_of_mem _ ha)
  ob := fun i b o e1 e2 => RO.sub (η := θ.hide p) (η' := θ) rfl Stw.shown (r.ob i b o e1 e2)
theorem Stw.hidden {p : Addr} {xs : List V} (n : H p = none) : Stw η H (η.hide p) (L2.upd H p (.lst xs)) where
  pre := ⟨[], by simp [Ad.hide]⟩
  new := fun b hb => by
    rcases In_hide.mp hb with h | h
    · exact .inl h
    · rw [h]
      exact .inr n
  keep := fun a o _ q => by
    rw [upd_ne (ne_of_none q n)]
    exact q
  tup := fun a zs h => by
    rcases h with h | ⟨o, h⟩
    · exact .inl (by rw [upd_ne (ne_of_none h n)]; exact h)
    · exact .inr ⟨o, by rw [upd_ne (ne_of_none h n)]; exact h⟩
theorem RH.hidden {h : Hh} {p : Addr} {xs : List V} (r : RH K mg w η H h) (n : H p = none) : RH K mg w (η.hide p) (L2.upd H p (.lst xs)) h where
  len := r.len
  nd := r.nd
  ap := fun a ha z => by
    rcases List.mem_cons.mp z with z | z
    · exact r.nin n (.inl (z ▸ ha))
    · exact r.ap a ha z
  hid := fun a ha => by
    rcases List.mem_cons.mp ha with z | z
    · rw [z, upd_same]
      exact ⟨_, rfl⟩
    · obtain ⟨ys, q⟩ := r.hid a z
      exact ⟨ys, by rw [upd_ne (ne_of_none q n)]; exact q⟩
  ob := fun i b o e1 e2 => by
    obtain ⟨u, eu, _⟩ := (r.ob i b o e1 e2).mut
    exact (r.ob i b o e1 e2).stw (Stw.hidden n) fun u q => by rw [upd_ne (ne_of_none q n)]; exact q
end
end Ev

/-! EvJ: the judgements: an expression, a test, arguments, a statement of the program, and what it does on values without addresses. -/
namespace Ev
open PySem PySem.Spec PyProof.Rows L2

inductive SR where
  | nx (ρ : Env) (h : Hh) | ret (d : D) (h : Hh) | bk (ρ : Env) (h : Hh) | ct (ρ : Env) (h : Hh) | rs (c : Str) (fs : List (Str × D)) (ρ : Env) (h : Hh) | stuck
abbrev SS := Env → Hh → SR

/-- the exception's own dict holds its fields -/
def RE (K : PySem.W.Frag) (η : Ad) (H : Hp) (dx : Option Addr) (fs : List (Str × D)) : Prop := match dx with
  | none => fs = []
  | some a => ∃ gs, H a = some (.xd gs) ∧ RFs K η H fs gs

section
variable (X : Cx) (W : WX)
/-- what an end must give -/
def Po {α β : Type} (R : α → β → Ad → Hp → Prop) (σ : L2.St) (η : Ad) (H : Hp) (r : Res α) (Q : β → Hp → Prop) : Prop := match r with
  | .ok a h => ∀ b η' H', Step η H η' H' → RH X.K X.mg X.w η' H' h → R a b η' H' → Q b H'
  | .raise c fs h => ∀ η' H' C dx, Step η H η' H' → RH X.K X.mg X.w η' H' h → X.mg c = some (.ref C) → RE X.K η' H' dx fs → W (.ref C) dx σ H'
  | .stuck => False
def PoS (η : Ad) (H : Hp) (r : SR) (E : Ends) : Prop := match r with
  | .nx ρ h => ∀ σ' η' H', Step η H η' H' → RS X.K η' H' σ' ρ → RH X.K X.mg X.w η' H' h → E.nx σ' H'
  | .ret d h => ∀ v η' H', Step η H η' H' → RH X.K X.mg X.w η' H' h → RD X.K η' H' d v → E.rt v H'
  | .bk ρ h => ∀ σ' η' H', Step η H η' H' → RS X.K η' H' σ' ρ → RH X.K X.mg X.w η' H' h → E.bk σ' H'
  | .ct ρ h => ∀ σ' η' H', Step η H η' H' → RS X.K η' H' σ' ρ → RH X.K X.mg X.w η' H' h → E.ct σ' H'
  | .rs c fs ρ h => ∀ σ' η' H' C dx, Step η H η' H' → RS X.K η' H' σ' ρ → RH X.K X.mg X.w η' H' h → X.mg c = some (.ref C) → RE X.K η' H' dx fs → W (.ref C) dx σ' H'
  | .stuck => False
def rD (X : Cx) : D → V → Ad → Hp → Prop := fun d v η H => RD X.K η H d v
def rB : Bool → Bool → Ad → Hp → Prop := fun a b _ _ => a = b
def rA (X : Cx) : List D → List V → Ad → Hp → Prop := fun d v η H => RDs X.K η H d v
def rI : Option Int → Option Int → Ad → Hp → Prop := fun a b _ _ => a = b
def tM {α β : Type} (R : α → β → Ad → Hp → Prop) (m : EM α) : L2.St → Hp → (β → Hp → Prop) → Prop := fun σ H Q =>
  ∃ ρ η h, RS X.K η H σ ρ ∧ RH X.K X.mg X.w η H h ∧ Po X W R σ η H (m ρ h) Q
def tS (m : SS) : TS := fun E σ H => ∃ ρ η h, RS X.K η H σ ρ ∧ RH X.K X.mg X.w η H h ∧ PoS X W η H (m ρ h) E
structure ME (e : Expr) (m : EM D) : Prop where
  pe : PE X e (tM X W (rD X) m)
structure MT (e : Expr) (m : EM Bool) : Prop where
  pt : PT X e (tM X W rB m)
structure MW (e : Expr) (m : EM Bool) : Prop where
  pw : PW X e (tM X W rB m)
structure MA (es : List Expr) (m : EM (List D)) : Prop where
  pa : PA X es (tM X W (rA X) m)
  len : ∀ ρ h ds h', m ρ h = .ok ds h' → ds.length = es.length
structure MO (e : Option Expr) (m : EM (Option Int)) : Prop where
  po : PO X e (tM X W rI m)
structure MS (st : Stmt) (m : SS) : Prop where
  ps : PS X st (tS X W m)
structure MB (st : List Stmt) (m : SS) : Prop where
  ps : PSs X st (tS X W m)
end

/-! ### weakening -/
section
variable {X : Cx} {W : WX}
theorem PE.wk {e : Expr} {t t' : TE} (h : PE X e t) (i : ∀ σ H Q, t' σ H Q → t σ H Q) : PE X e t' := ⟨fun pins s σ H Q I q => h.run pins s σ H Q I (i σ H Q q)⟩
theorem PT.wk {e : Expr} {t t' : TT} (h : PT X e t) (i : ∀ σ H Q, t' σ H Q → t σ H Q) : PT X e t' := ⟨fun pins s σ H Q I q => h.run pins s σ H Q I (i σ H Q q)⟩
theorem PW.wk {e : Expr} {t t' : TT} (h : PW X e t) (i : ∀ σ H Q, t' σ H Q → t σ H Q) : PW X e t' := ⟨fun w pins s σ H Q I q => h.run w pins s σ H Q I (i σ H Q q)⟩
theorem PA.wk {es : List Expr} {t t' : TA} (h : PA X es t) (i : ∀ σ H Q, t' σ H Q → t σ H Q) : PA X es t' := ⟨fun p pins s σ H Q I q => h.run p pins s σ H Q I (i σ H Q q)⟩
theorem PO.wk {e : Option Expr} {t t' : TO} (h : PO X e t) (i : ∀ σ H Q, t' σ H Q → t σ H Q) : PO X e t' := ⟨fun pins s σ H Q I q => h.run pins s σ H Q I (i σ H Q q)⟩
theorem PS.wk {e : Stmt} {t t' : TS} (h : PS X e t) (i : ∀ E σ H, t' E σ H → t E σ H) : PS X e t' := ⟨fun pins s σ H E I q => h.run pins s σ H E I (i E σ H q)⟩
theorem PSs.wk {e : List Stmt} {t t' : TS} (h : PSs X e t) (i : ∀ E σ H, t' E σ H → t E σ H) : PSs X e t' := ⟨fun pins s σ H E I q => h.run pins s σ H E I (i E σ H q)⟩

variable {σ : L2.St} {η η1 : Ad} {H H1 : Hp} {α β γ δ : Type} {R1 : α → β → Ad → Hp → Prop} {Rz : γ → δ → Ad → Hp → Prop}
theorem Po.step {r : Res α} {Q : β → Hp → Prop} (s : Step η H η1 H1) (p : Po X W R1 σ η H r Q) : Po X W R1 σ η1 H1 r Q := by
  cases r with
  | ok a h => exact fun b η' H' s' => p b η' H' (s.trans s')
  | raise c fs h => exact fun η' H' C dx s' => p η' H' C dx (s.trans s')
  | stuck => exact p
theorem Po.mono {r : Res α} {Q Q' : β → Hp → Prop} (i : ∀ b H', Q b H' → Q' b H') (p : Po X W R1 σ η H r Q) : Po X W R1 σ η H r Q' := by
  cases r with
  | ok a h => exact fun b η' H' s' r1 r2 => i _ _ (p b η' H' s' r1 r2)
  | raise c fs h => exact p
  | stuck => exact p
theorem PoS.step {r : SR} {E : Ends} (s : Step η H η1 H1) (p : PoS X W η H r E) : PoS X W η1 H1 r E := by
  cases r with
  | nx ρ h => exact fun a b c s' => p a b c (s.trans s')
  | ret ρ h => exact fun a b c s' => p a b c (s.trans s')
  | bk ρ h => exact fun a b c s' => p a b c (s.trans s')
  | ct ρ h => exact fun a b c s' => p a b c (s.trans s')
  | rs c fs ρ h => exact fun a b c d e s' => p a b c d e (s.trans s')
  | stuck => exact p
/-- one thing after another -/
theorem Po.seq {ρ : Env} {h : Hh} {m : EM α} {k : α → Hh → Res γ} {Q : δ → Hp → Prop} (rs : RS X.K η H σ ρ) (rh : RH X.K X.mg X.w η H h) (p : Po X W Rz σ η H ((m ρ h).bind k) Q) :
    tM X W R1 m σ H fun b H1 => ∃ a η1 h1, Step η H η1 H1 ∧ RH X.K X.mg X.w η1 H1 h1 ∧ R1 a b η1 H1 ∧ Po X W Rz σ η1 H1 (k a h1) Q := by
  refine ⟨ρ, η, h, rs, rh, ?_⟩
  cases e : m ρ h with
  | ok a h1 =>
    rw [e] at p
    exact fun b η1 H1 s r q => ⟨a, η1, h1, s, r, q, Po.step s p⟩
  | raise c fs h1 =>
    rw [e] at p
    exact p
  | stuck =>
    rw [e] at p
    exact p
/-- an expression's end as a statement's -/
def toS {α : Type} (r : Res α) (ρ : Env) (k : α → Hh → SR) : SR := match r with
  | .ok a h => k a h
  | .raise c fs h => .rs c fs ρ h
  | .stuck => .stuck
@[simp] theorem toS_ok {α : Type} (a : α) (h : Hh) (ρ : Env) (k : α → Hh → SR) : toS (.ok a h) ρ k = k a h := (rfl)
@[simp] theorem toS_raise {α : Type} (c : Str) (fs : List (Str × D)) (h : Hh) (ρ : Env) (k : α → Hh → SR) : toS (.raise c fs h) ρ k = .rs c fs ρ h := (rfl)
@[simp] theorem toS_stuck {α : Type} (ρ : Env) (k : α → Hh → SR) : toS .stuck ρ k = .stuck := (rfl)
theorem PoS.seq {ρ : Env} {h : Hh} {m : EM α} {k : α → Hh → SR} {E : Ends} (rs : RS X.K η H σ ρ) (rh : RH X.K X.mg X.w η H h) (p : PoS X W η H (toS (m ρ h) ρ k) E) :
    tM X W R1 m σ H fun b H1 => ∃ a η1 h1, Step η H η1 H1 ∧ RH X.K X.mg X.w η1 H1 h1 ∧ R1 a b η1 H1 ∧ PoS X W η1 H1 (k a h1) E := by
  refine ⟨ρ, η, h, rs, rh, ?_⟩
  cases e : m ρ h with
  | ok a h1 =>
    rw [e] at p
    exact fun b η1 H1 s r q => ⟨a, η1, h1, s, r, q, p.step s⟩
  | raise c fs h1 =>
    rw [e] at p
    exact fun η' H' C dx s r m q => p σ η' H' C dx s (rs.step s) r m q
  | stuck =>
    rw [e] at p
    exact p
theorem tM.mono {m : EM α} {Q Q' : β → Hp → Prop} (i : ∀ b H', Q b H' → Q' b H') (p : tM X W R1 m σ H Q) : tM X W R1 m σ H Q' := by
  obtain ⟨ρ, η, h, rs, rh, q⟩ := p
  exact ⟨ρ, η, h, rs, rh, q.mono i⟩

/-! ### names and constants -/
variable {e a b : Expr} {pos : Pos}
def varE (i : Nat) : EM D := fun ρ h => match ρ[i]? with
  | some (some d) => .ok d h
  | _ => .stuck
def cE (d : D) : EM D := fun _ h => .ok d h
theorem me_var (i : Nat) {x : Str} (hN : X.N[i]? = some x := by rfl) (hv : Vis X.env.scope x := by first | exact Or.inl rfl | exact Or.inr (Or.inl rfl) | exact Or.inr (Or.inr rfl)) (hd : (x == ("__debug__" : Str)) = false := by decide)
    (hcd : (x == ("__classdict__" : Str)) = false := by decide) : ME X W (.Name x pos) (varE i) := by
  refine ⟨PE.wk (pe_var (i := i) hN hv hd hcd) fun σ H Q q => ?_⟩
  obtain ⟨ρ, η, h, rs, rh, p⟩ := q
  unfold varE at p
  split at p
  · rename_i d ed
    obtain ⟨v, ev, rd⟩ := rs.at_ i d ed
    exact ⟨v, ev, p v η H (.refl _ _) rh rd⟩
  · exact p.elim
theorem me_c {t : TE} {d : D} {v : V} (h : PE X e t) (ht : t = tC v) (r : ∀ η H, RD X.K η H d v) : ME X W e (cE d) := by
  subst ht
  refine ⟨PE.wk h fun σ H Q q => ?_⟩
  obtain ⟨ρ, η, h, rs, rh, p⟩ := q
  exact p v η H (.refl _ _) rh (r η H)
theorem me_int {i j} : ME X W (.Constant (.int i) j pos) (cE (.int i)) := me_c pe_int rfl fun _ _ => rfl
theorem me_bl {b : Bool} {j} : ME X W (.Constant (.bool b) j pos) (cE (.bl b)) := me_c pe_bl rfl fun _ _ => rfl
theorem me_non {j} : ME X W (.Constant .none j pos) (cE .non) := me_c pe_non rfl fun _ _ => rfl
theorem me_str {x : Str} {j} : ME X W (.Constant (.str x) j pos) (cE (.str x)) := me_c pe_str rfl fun _ _ => rfl
theorem me_glob {x : Str} {d : D} {v : V} {u : Value} (hg : Gl X x) (hm : X.mg x = some u) (r : RelV v u) (q : ∀ η H, RD X.K η H d v) (hd : (x == ("__debug__" : Str)) = false := by decide) : ME X W (.Name x pos) (cE d) :=
  me_c (pe_glob hg hm r hd) rfl q

/-! ### operators, by values -/
def binE (g : D → D → Hh → Res D) (ma mb : EM D) : EM D := fun ρ h => (ma ρ h).bind fun x h1 => (mb ρ h1).bind fun y h2 => g x y h2
def unE (g : D → Hh → Res D) (ma : EM D) : EM D := fun ρ h => (ma ρ h).bind fun x h1 => g x h1
/-- g says what r asks -/
def OpD (X : Cx) (W : WX) (r : R2) (g : D → D → Hh → Res D) : Prop :=
  ∀ (σ : L2.St) (η : Ad) (H : Hp) (h : Hh) (a b : D) (x y : V) (Q : VK), RH X.K X.mg X.w η H h → RD X.K η H a x → RD X.K η H b y → Po X W (rD X) σ η H (g a b h) Q → r x y H Q
def UnD (X : Cx) (W : WX) (r : V → Hp → VK → Prop) (g : D → Hh → Res D) : Prop :=
  ∀ (σ : L2.St) (η : Ad) (H : Hp) (h : Hh) (a : D) (x : V) (Q : VK), RH X.K X.mg X.w η H h → RD X.K η H a x → Po X W (rD X) σ η H (g a h) Q → r x H Q
def CallD (X : Cx) (W : WX) (r : List V → Hp → VK → Prop) (g : List D → Hh → Res D) : Prop :=
  ∀ (σ : L2.St) (η : Ad) (H : Hp) (h : Hh) (a : List D) (x : List V) (Q : VK), RH X.K X.mg X.w η H h → RDs X.K η H a x → Po X W (rD X) σ η H (g a h) Q → r x H Q
theorem OpR.or {f : Value → Value → Sem Value} {r r' : R2} (h : OpR X f r) (h' : OpR X f r') : OpR X f (fun x y H Q => r x y H Q ∨ r' x y H Q) := by
  intro pins s σ H x y v u Q I rx ry q
  rcases q with q | q
  · exact h pins s σ H x y v u Q I rx ry q
  · exact h' pins s σ H x y v u Q I rx ry q
theorem tOp_of {r : R2} {g : D → D → Hh → Res D} {ma mb : EM D} (hg : OpD X W r g) {Q : VK} (q : tM X W (rD X) (binE g ma mb) σ H Q) : tOp r (tM X W (rD X) ma) (tM X W (rD X) mb) σ H Q := by
  obtain ⟨ρ, η, h, rs, rh, p⟩ := q
  refine tM.mono (fun x H1 ⟨a, η1, h1, s1, r1, q1, p1⟩ => ?_) (Po.seq (R1 := rD X) rs rh p)
  refine tM.mono (fun y H2 ⟨b, η2, h2, s2, r2, q2, p2⟩ => ?_) (Po.seq (R1 := rD X) (rs.step s1) r1 p1)
  exact hg σ η2 H2 h2 a b x y Q r2 (RD.step s2 _ _ q1) q2 p2
theorem me_op {op : Operator} {r : R2} {g : D → D → Hh → Res D} {ma mb : EM D} (ho : OpR X (binaryOp op) r) (hg : OpD X W r g) (ha : ME X W a ma) (hb : ME X W b mb) : ME X W (.BinOp a op b pos) (binE g ma mb) :=
  ⟨PE.wk (pe_op ho ha.pe hb.pe) fun σ H Q q => tOp_of hg q⟩
theorem me_cmpR {op : CmpOp} {r : R2} {g : D → D → Hh → Res D} {ma mb : EM D} (ho : OpR X (compareOp op) r) (hg : OpD X W r g) (ha : ME X W a ma) (hb : ME X W b mb) (hm : behindInMarks op b = false) : ME X W (.Compare a [op] [b] pos) (binE g ma mb) :=
  ⟨PE.wk (pe_cmpR ho ha.pe hb.pe hm) fun σ H Q q => tOp_of hg q⟩
theorem me_un {op : UnaryOp} {r : V → Hp → VK → Prop} {g : D → Hh → Res D} {ma : EM D} (ho : UnR X (unaryOp op) r) (hg : UnD X W r g) (ha : ME X W a ma) : ME X W (.UnaryOp op a pos) (unE g ma) :=
  ⟨PE.wk (pe_un ho ha.pe) fun σ H Q q => by
    obtain ⟨ρ, η, h, rs, rh, p⟩ := q
    refine tM.mono (fun x H1 ⟨a, η1, h1, s1, r1, q1, p1⟩ => ?_) (Po.seq (R1 := rD X) rs rh p)
    exact hg σ η1 H1 h1 a x Q r1 q1 p1⟩
theorem me_ix {r : R2} {g : D → D → Hh → Res D} {ma mb : EM D} (hr : IxR X r) (hg : OpD X W r g) (ha : ME X W a ma) (hb : ME X W b mb) (hs : PlainIx b) : ME X W (.Subscript a b pos) (binE g ma mb) :=
  ⟨PE.wk (pe_ix hr ha.pe hb.pe hs) fun σ H Q q => tOp_of hg q⟩

/-! ### tests -/
def asB : D → Hh → Res Bool
  | .bl b, h => .ok b h
  | _, _ => .stuck
/-- an expression that gives a bool, as a test -/
def tstE (m : EM D) : EM Bool := fun ρ h => (m ρ h).bind asB
theorem tB_of {m : EM D} {Q : Bool → Hp → Prop} (q : tM X W rB (tstE m) σ H Q) : tB (tM X W (rD X) m) σ H Q := by
  obtain ⟨ρ, η, h, rs, rh, p⟩ := q
  refine tM.mono (fun x H1 ⟨a, η1, h1, s1, r1, q1, p1⟩ => ?_) (Po.seq (R1 := rD X) rs rh p)
  cases a with
  | bl c => exact ⟨c, q1, p1 c η1 H1 (.refl _ _) r1 rfl⟩
  | _ => exact p1.elim
theorem mt_val {m : EM D} (h : ME X W e m) (he : ∀ whole, isTrue e X.env whole = (do let v ← whole; standAt e.pos; holding [v] (truthy v)) := by intro _; rfl) : MT X W e (tstE m) :=
  ⟨PT.wk (pt_val h.pe he) fun σ H Q q => tB_of q⟩
theorem mt_cmpR {op : CmpOp} {r : R2} {g : D → D → Hh → Res D} {ma mb : EM D} (ho : OpR X (compareOp op) r) (hg : OpD X W r g) (ha : ME X W a ma) (hb : ME X W b mb) (hm : behindInMarks op b = false) : MT X W (.Compare a [op] [b] pos) (tstE (binE g ma mb)) :=
  ⟨PT.wk (pt_cmpR ho ha.pe hb.pe hm) fun σ H Q q => by
    obtain ⟨ρ, η, h, rs, rh, p⟩ := q
    have p' : Po X W rB σ η H (((binE g ma mb) ρ h).bind asB) Q := p
    have q2 : tM X W rB (tstE (binE g ma mb)) σ H Q := ⟨ρ, η, h, rs, rh, p⟩
    have z := tB_of q2
    obtain ⟨ρ, η, h, rs, rh, p⟩ := z
    exact tOp_of hg ⟨ρ, η, h, rs, rh, p⟩⟩

/-! ### and, or, not, if .. else -/
def andT (a b : EM Bool) : EM Bool := fun ρ h => (a ρ h).bind fun x h1 => if x = true then b ρ h1 else .ok false h1
def orT (a b : EM Bool) : EM Bool := fun ρ h => (a ρ h).bind fun x h1 => if x = true then .ok true h1 else b ρ h1
def notT (a : EM Bool) : EM Bool := fun ρ h => (a ρ h).bind fun x h1 => .ok (!x) h1
def andE (a b : EM D) : EM D := fun ρ h => ((a ρ h).bind asB).bind fun x h1 => if x = true then b ρ h1 else .ok (.bl false) h1
def orE (a b : EM D) : EM D := fun ρ h => ((a ρ h).bind asB).bind fun x h1 => if x = true then .ok (.bl true) h1 else b ρ h1
def notE (a : EM D) : EM D := fun ρ h => ((a ρ h).bind asB).bind fun x h1 => .ok (.bl (!x)) h1
def ifE (c : EM Bool) (a b : EM D) : EM D := fun ρ h => (c ρ h).bind fun x h1 => if x = true then a ρ h1 else b ρ h1
variable {es rest : List Expr} {ta tb : EM Bool} {ma mb : EM D}
theorem tM.of_ok {m : EM α} {ρ : Env} {h : Hh} {Q : β → Hp → Prop} (rs : RS X.K η H σ ρ) (rh : RH X.K X.mg X.w η H h) (p : Po X W R1 σ η H (m ρ h) Q) : tM X W R1 m σ H Q := ⟨ρ, η, h, rs, rh, p⟩
theorem Po.ok {a : α} {b : β} {h : Hh} {Q : β → Hp → Prop} (p : Po X W R1 σ η H (.ok a h) Q) (rh : RH X.K X.mg X.w η H h) (r : R1 a b η H) : Q b H := p b η H (.refl _ _) rh r
theorem tAnd_of {Q : Bool → Hp → Prop} (q : tM X W rB (andT ta tb) σ H Q) : tAnd (tM X W rB ta) (tM X W rB tb) σ H Q := by
  obtain ⟨ρ, η, h, rs, rh, p⟩ := q
  refine tM.mono (fun x H1 ⟨c, η1, h1, s1, r1, q1, p1⟩ => ?_) (Po.seq (R1 := rB) rs rh p)
  have q1 : c = x := q1
  subst q1
  cases c with
  | true => exact ⟨ρ, η1, h1, rs.step s1, r1, p1⟩
  | false => exact Po.ok p1 r1 rfl
theorem tOr_of {Q : Bool → Hp → Prop} (q : tM X W rB (orT ta tb) σ H Q) : tOr (tM X W rB ta) (tM X W rB tb) σ H Q := by
  obtain ⟨ρ, η, h, rs, rh, p⟩ := q
  refine tM.mono (fun x H1 ⟨c, η1, h1, s1, r1, q1, p1⟩ => ?_) (Po.seq (R1 := rB) rs rh p)
  have q1 : c = x := q1
  subst q1
  cases c with
  | false => exact ⟨ρ, η1, h1, rs.step s1, r1, p1⟩
  | true => exact Po.ok p1 r1 rfl
theorem mw_and1 (ha : MT X W a ta) : MW X W (.BoolOp .And [a] pos) ta := ⟨pw_and1 ha.pt⟩
theorem mw_or1 (ha : MT X W a ta) : MW X W (.BoolOp .Or [a] pos) ta := ⟨pw_or1 ha.pt⟩
theorem mw_and (ha : MT X W a ta) (hb : MW X W (.BoolOp .And (b :: rest) pos) tb) : MW X W (.BoolOp .And (a :: b :: rest) pos) (andT ta tb) := ⟨PW.wk (pw_and ha.pt hb.pw) fun _ _ _ q => tAnd_of q⟩
theorem mw_or (ha : MT X W a ta) (hb : MW X W (.BoolOp .Or (b :: rest) pos) tb) : MW X W (.BoolOp .Or (a :: b :: rest) pos) (orT ta tb) := ⟨PW.wk (pw_or ha.pt hb.pw) fun _ _ _ q => tOr_of q⟩
theorem mt_w (h : MW X W a ta) : MT X W a ta := ⟨h.pw.pt⟩
theorem mt_not (ha : MT X W a ta) : MT X W (.UnaryOp .Not a pos) (notT ta) := ⟨PT.wk (pt_not ha.pt) fun σ H Q q => by
  obtain ⟨ρ, η, h, rs, rh, p⟩ := q
  refine tM.mono (fun x H1 ⟨c, η1, h1, s1, r1, q1, p1⟩ => ?_) (Po.seq (R1 := rB) rs rh p)
  have q1 : c = x := q1
  subst q1
  exact Po.ok p1 r1 rfl⟩
theorem bind_assoc {r : Res α} {f : α → Hh → Res β} {g : β → Hh → Res γ} : (r.bind f).bind g = r.bind fun a h => (f a h).bind g := by cases r <;> rfl
theorem asB_of {η : Ad} {H : Hp} {a : D} {x : V} {h : Hh} {k : Bool → Hh → Res γ} {Q : δ → Hp → Prop} (q1 : RD X.K η H a x) (p : Po X W Rz σ η H ((asB a h).bind k) Q) : ∃ c, x = .bl c ∧ Po X W Rz σ η H (k c h) Q := by
  cases a with
  | bl c => exact ⟨c, q1, p⟩
  | _ => exact p.elim
theorem me_one {op : BoolOp} {m : EM D} (h : ME X W a m) : ME X W (.BoolOp op [a] pos) m := ⟨pe_one h.pe⟩
theorem me_and (ha : ME X W a ma) (hb : ME X W (.BoolOp .And (b :: rest) pos) mb) : ME X W (.BoolOp .And (a :: b :: rest) pos) (andE ma mb) := ⟨PE.wk (pe_and ha.pe hb.pe) fun σ H Q q => by
  obtain ⟨ρ, η, h, rs, rh, p⟩ := q
  rw [andE, bind_assoc] at p
  refine tM.mono (fun x H1 ⟨d, η1, h1, s1, r1, q1, p1⟩ => ?_) (Po.seq (R1 := rD X) rs rh p)
  obtain ⟨c, e, p2⟩ := asB_of q1 p1
  refine ⟨c, e, ?_⟩
  cases c with
  | true => exact ⟨ρ, η1, h1, rs.step s1, r1, p2⟩
  | false => exact Po.ok (b := V.bl false) p2 r1 rfl⟩
theorem me_or (ha : ME X W a ma) (hb : ME X W (.BoolOp .Or (b :: rest) pos) mb) : ME X W (.BoolOp .Or (a :: b :: rest) pos) (orE ma mb) := ⟨PE.wk (pe_or ha.pe hb.pe) fun σ H Q q => by
  obtain ⟨ρ, η, h, rs, rh, p⟩ := q
  rw [orE, bind_assoc] at p
  refine tM.mono (fun x H1 ⟨d, η1, h1, s1, r1, q1, p1⟩ => ?_) (Po.seq (R1 := rD X) rs rh p)
  obtain ⟨c, e, p2⟩ := asB_of q1 p1
  refine ⟨c, e, ?_⟩
  cases c with
  | false => exact ⟨ρ, η1, h1, rs.step s1, r1, p2⟩
  | true => exact Po.ok (b := V.bl true) p2 r1 rfl⟩
theorem me_not (ha : ME X W a ma) : ME X W (.UnaryOp .Not a pos) (notE ma) := ⟨PE.wk (pe_not ha.pe) fun σ H Q q => by
  obtain ⟨ρ, η, h, rs, rh, p⟩ := q
  rw [notE, bind_assoc] at p
  refine tM.mono (fun x H1 ⟨d, η1, h1, s1, r1, q1, p1⟩ => ?_) (Po.seq (R1 := rD X) rs rh p)
  obtain ⟨c, e, p2⟩ := asB_of q1 p1
  exact ⟨c, e, Po.ok (b := V.bl (!c)) p2 r1 rfl⟩⟩
theorem me_if {c : Expr} {tc : EM Bool} (hc : MT X W c tc) (ha : ME X W a ma) (hb : ME X W b mb) : ME X W (.IfExp c a b pos) (ifE tc ma mb) := ⟨PE.wk (pe_ifExp hc.pt ha.pe hb.pe) fun σ H Q q => by
  obtain ⟨ρ, η, h, rs, rh, p⟩ := q
  refine tM.mono (fun x H1 ⟨c, η1, h1, s1, r1, q1, p1⟩ => ?_) (Po.seq (R1 := rB) rs rh p)
  have q1 : c = x := q1
  subst q1
  cases c with
  | true => exact ⟨ρ, η1, h1, rs.step s1, r1, p1⟩
  | false => exact ⟨ρ, η1, h1, rs.step s1, r1, p1⟩⟩

/-! ### arguments, displays -/
def nilA : EM (List D) := fun _ h => .ok [] h
def consA (m : EM D) (r : EM (List D)) : EM (List D) := fun ρ h => (m ρ h).bind fun d h1 => (r ρ h1).bind fun l h2 => .ok (d :: l) h2
theorem ma_nil : MA X W [] nilA := ⟨PA.wk pa_nil fun σ H Q q => by
  obtain ⟨ρ, η, h, rs, rh, p⟩ := q
  exact Po.ok (b := []) p rh rfl, fun ρ h ds h' e => by cases e; rfl⟩
theorem ma_cons {m : EM D} {ms : EM (List D)} (ha : ME X W e m) (hr : MA X W es ms) (hs : starEach (e :: es) X.env = (false, eval e X.env) :: starEach es X.env := by rfl) : MA X W (e :: es) (consA m ms) := ⟨PA.wk (pa_cons ha.pe hr.pa hs) fun σ H Q q => by
  obtain ⟨ρ, η, h, rs, rh, p⟩ := q
  refine tM.mono (fun x H1 ⟨d, η1, h1, s1, r1, q1, p1⟩ => ?_) (Po.seq (R1 := rD X) rs rh p)
  refine tM.mono (fun y H2 ⟨b, η2, h2, s2, r2, q2, p2⟩ => ?_) (Po.seq (R1 := rA X) (rs.step s1) r1 p1)
  exact Po.ok (b := x :: y) p2 r2 ⟨x, y, rfl, RD.step s2 _ _ q1, q2⟩, fun ρ h ds h' q => by
    unfold consA at q
    cases e1 : m ρ h with
    | ok d h1 =>
      rw [e1, bind_ok] at q
      cases e2 : ms ρ h1 with
      | ok l h2 =>
        rw [e2, bind_ok] at q
        cases q
        rw [List.length_cons, List.length_cons, hr.len _ _ _ _ e2]
      | raise _ _ _ => rw [e2] at q; cases q
      | stuck => rw [e2] at q; cases q
    | raise _ _ _ => rw [e1] at q; cases q
    | stuck => rw [e1] at q; cases q⟩
def tupE (ms : EM (List D)) : EM D := fun ρ h => (ms ρ h).bind fun l h1 => .ok (.tup l) h1
def lstE (ms : EM (List D)) : EM D := fun ρ h => (ms ρ h).bind fun l h1 => .ok (.lst l) h1
def newL (l : List D) (h : Hh) : Res D := .ok (.ref h.length) (h ++ [.lst l])
def lstH (ms : EM (List D)) : EM D := fun ρ h => (ms ρ h).bind newL
/-- a new frozen thing -/
theorem newT {η : Ad} {H : Hp} {h : Hh} {p : Addr} {l : List D} {xs : List V} (n : H p = none) (rh : RH X.K X.mg X.w η H h) (r : RDs X.K η H l xs) :
    RH X.K X.mg X.w η (upd H p (.tup xs)) h ∧ RD X.K η (upd H p (.tup xs)) (.tup l) (.ref p) :=
  ⟨rh.new1 n, p, xs, rfl, .inl (.inl upd_same), RDs.step (rh.new1S n) l xs r⟩
theorem newF {η : Ad} {H : Hp} {h : Hh} {p : Addr} {l : List D} {xs : List V} (n : H p = none) (rh : RH X.K X.mg X.w η H h) (r : RDs X.K η H l xs) :
    RH X.K X.mg X.w η (upd H p (.lst xs)) h ∧ RD X.K η (upd H p (.lst xs)) (.lst l) (.ref p) :=
  ⟨rh.new1 n, p, xs, rfl, upd_same, rh.nin n, RDs.step (rh.new1S n) l xs r⟩
theorem newM {η : Ad} {H : Hp} {h : Hh} {p : Addr} {l : List D} {xs : List V} (n : H p = none) (rh : RH X.K X.mg X.w η H h) (r : RDs X.K η H l xs) :
    RH X.K X.mg X.w (η.push p) (upd H p (.lst xs)) (h ++ [.lst l]) ∧ RD X.K (η.push p) (upd H p (.lst xs)) (.ref h.length) (.ref p) :=
  ⟨rh.alloc n ⟨xs, upd_same, RDs.step (rh.allocS n) l xs r⟩, p, by show (η.c ++ [p])[h.length]? = _; rw [← rh.len]; simp, rfl⟩
theorem Po.newT {η : Ad} {H : Hp} {h : Hh} {l : List D} {xs : List V} {Q : VK} (p : Po X W (rD X) σ η H (.ok (.tup l) h) Q) (rh : RH X.K X.mg X.w η H h) (r : RDs X.K η H l xs) (a : Addr) (n : H a = none) : Q (.ref a) (upd H a (.tup xs)) :=
  p _ η _ (rh.new1S n) (Ev.newT n rh r).1 (Ev.newT n rh r).2
theorem Po.newF {η : Ad} {H : Hp} {h : Hh} {l : List D} {xs : List V} {Q : VK} (p : Po X W (rD X) σ η H (.ok (.lst l) h) Q) (rh : RH X.K X.mg X.w η H h) (r : RDs X.K η H l xs) (a : Addr) (n : H a = none) : Q (.ref a) (upd H a (.lst xs)) :=
  p _ η _ (rh.new1S n) (Ev.newF n rh r).1 (Ev.newF n rh r).2
theorem Po.newM {η : Ad} {H : Hp} {h : Hh} {l : List D} {xs : List V} {Q : VK} (p : Po X W (rD X) σ η H (newL l h) Q) (rh : RH X.K X.mg X.w η H h) (r : RDs X.K η H l xs) (a : Addr) (n : H a = none) : Q (.ref a) (upd H a (.lst xs)) :=
  p _ _ _ (rh.allocS n) (Ev.newM n rh r).1 (Ev.newM n rh r).2
theorem tM.args {ms : EM (List D)} (hm : MA X W es ms) {k : List D → Hh → Res γ} {Q : δ → Hp → Prop} (q : tM X W Rz (fun ρ h => (ms ρ h).bind k) σ H Q) :
    tM X W (rA X) ms σ H fun xs H1 => ∃ ρ l η1 h1, RS X.K η1 H1 σ ρ ∧ RH X.K X.mg X.w η1 H1 h1 ∧ RDs X.K η1 H1 l xs ∧ xs.length = es.length ∧ Po X W Rz σ η1 H1 (k l h1) Q := by
  obtain ⟨ρ, η, h, rs, rh, p⟩ := q
  have p : Po X W Rz σ η H ((ms ρ h).bind k) Q := p
  refine ⟨ρ, η, h, rs, rh, ?_⟩
  cases e : ms ρ h with
  | ok a h1 =>
    rw [e] at p
    exact fun b η1 H1 s r q => ⟨ρ, a, η1, h1, rs.step s, r, q, (RDs.length q).trans (hm.len _ _ _ _ e), Po.step s p⟩
  | raise c fs h1 =>
    rw [e] at p
    exact p
  | stuck =>
    rw [e] at p
    exact p
theorem me_tup {x1} {ms : EM (List D)} (h : MA X W es ms) (hl : es.length ≤ sizeLine := by decide) : ME X W (.Tuple es x1 pos) (tupE ms) := ⟨PE.wk (pe_tup h.pa) fun σ H Q q => by
  refine tM.mono (fun xs H1 ⟨ρ, l, η1, h1, rs, r1, q1, e, p1⟩ => ?_) (tM.args h q)
  exact ⟨by rw [e]; exact hl, fun a n => Po.newT p1 r1 q1 a n⟩⟩
theorem me_lst {ms : EM (List D)} (h : MA X W es ms) (hl : es.length ≤ sizeLine := by decide) : ME X W (.List es pos) (lstE ms) := ⟨PE.wk (pe_lst h.pa) fun σ H Q q => by
  refine tM.mono (fun xs H1 ⟨ρ, l, η1, h1, rs, r1, q1, e, p1⟩ => ?_) (tM.args h q)
  exact ⟨by rw [e]; exact hl, fun a n => Po.newF p1 r1 q1 a n⟩⟩
theorem me_lstH {ms : EM (List D)} (h : MA X W es ms) (hl : es.length ≤ sizeLine := by decide) : ME X W (.List es pos) (lstH ms) := ⟨PE.wk (pe_lst h.pa) fun σ H Q q => by
  refine tM.mono (fun xs H1 ⟨ρ, l, η1, h1, rs, r1, q1, e, p1⟩ => ?_) (tM.args h q)
  exact ⟨by rw [e]; exact hl, fun a n => Po.newM p1 r1 q1 a n⟩⟩

/-! ### built-in functions, methods of built-in types -/
def callE (g : List D → Hh → Res D) (ms : EM (List D)) : EM D := fun ρ h => (ms ρ h).bind g
theorem me_callB {id : String} {x : Str} {p : Pos} {r : List V → Hp → VK → Prop} {g : List D → Hh → Res D} {ms : EM (List D)} (hc : CallR X (.builtin id) r) (hd : CallD X W r g) (hg : Gl X x) (hm : X.mg x = none) (hv : bootBuiltins x = some (.builtin id)) (ha : MA X W (e :: es) ms)
    (hn : x ≠ "__name__" := by decide) (hdb : (x == ("__debug__" : Str)) = false := by decide) (he : starEach (e :: es) X.env = (false, eval e X.env) :: starEach es X.env := by rfl) (hpl : (backTo pos (starEach es X.env)).any (·.1) = false := by rfl) :
    ME X W (.Call (.Name x p) (e :: es) [] pos) (callE g ms) := ⟨PE.wk (pe_callB hc hg hm hv ha.pa hn hdb he hpl) fun σ H Q q => by
  refine tM.mono (fun xs H1 ⟨ρ, l, η1, h1, rs, r1, q1, e, p1⟩ => ?_) (tM.args ha q)
  exact hd σ η1 H1 h1 l xs Q r1 q1 p1⟩
theorem me_callTy {T : String} {x : Str} {p : Pos} {r : List V → Hp → VK → Prop} {g : List D → Hh → Res D} {ms : EM (List D)} (hc : CallR X (.type T) r) (hd : CallD X W r g) (hg : Gl X x) (hm : X.mg x = none) (hv : bootBuiltins x = some (.type T)) (ha : MA X W (e :: es) ms)
    (hn : x ≠ "__name__" := by decide) (hdb : (x == ("__debug__" : Str)) = false := by decide) (he : starEach (e :: es) X.env = (false, eval e X.env) :: starEach es X.env := by rfl) (hpl : (backTo pos (starEach es X.env)).any (·.1) = false := by rfl) :
    ME X W (.Call (.Name x p) (e :: es) [] pos) (callE g ms) := ⟨PE.wk (pe_callTy hc hg hm hv ha.pa hn hdb he hpl) fun σ H Q q => by
  refine tM.mono (fun xs H1 ⟨ρ, l, η1, h1, rs, r1, q1, e, p1⟩ => ?_) (tM.args ha q)
  exact hd σ η1 H1 h1 l xs Q r1 q1 p1⟩
/-- a method of a built-in type, by values; g tells the type too -/
def MtD (X : Cx) (W : WX) (T : String) (r : V → List V → Hp → VK → Prop) (g : D → List D → Hh → Res D) : Prop :=
  ∀ (σ : L2.St) (η : Ad) (H : Hp) (h : Hh) (a : D) (l : List D) (x : V) (xs : List V) (Q : VK), RH X.K X.mg X.w η H h → RD X.K η H a x → RDs X.K η H l xs → Po X W (rD X) σ η H (g a l h) Q → r x xs H Q
/-- the receiver is of the type -/
def TyD (X : Cx) (T : String) (ty : D → Hh → Prop) : Prop := ∀ (η : Ad) (H : Hp) (h : Hh) (a : D) (x : V), RH X.K X.mg X.w η H h → RD X.K η H a x → ty a h → tyV X.K T x H
open Classical in
noncomputable def methE (ty : D → Hh → Prop) (g : D → List D → Hh → Res D) (mo : EM D) (ms : EM (List D)) : EM D := fun ρ h => (mo ρ h).bind fun o h1 => if ty o h1 then (ms ρ h1).bind fun l h2 => g o l h2 else .stuck
theorem me_bm {T id : String} {name : Str} {apos cpos : Pos} {o : Expr} {r : V → List V → Hp → VK → Prop} {ty : D → Hh → Prop} {g : D → List D → Hh → Res D} {mo : EM D} {ms : EM (List D)} (pa : PlainAttrs T) (slot : Slot T name id)
    (hty : typeOf (.builtin id) = pure (.type "method_descriptor")) (hm : MtR X id r) (hd : MtD X W T r g) (hT : TyD X T ty) (ho : ME X W o mo) (ha : MA X W (e :: es) ms)
    (hbase : attributeBase o name X.env (eval o X.env) = eval o X.env := by rfl)
    (hfew : ((backTo cpos (starEach (e :: es) X.env)).all (fun x => !x.1) && (backToKw cpos (keywordEach [] X.env)).all (fun x => x.1.isSome)
      && decide ((e :: es).length + ([] : List Keyword).length + (if ([] : List Keyword).isEmpty then 0 else 1) < 30)) = true := by rfl)
    (hline : (apos.endLine == cpos.line) = true := by rfl) (hs : starEach (e :: es) X.env = (false, eval e X.env) :: starEach es X.env := by rfl) (hplain : (backTo cpos (starEach es X.env)).any (·.1) = false := by rfl) :
    ME X W (.Call (.Attribute o name apos) (e :: es) [] cpos) (methE ty g mo ms) := ⟨PE.wk (pe_bm pa slot hty hm ho.pe ha.pa hbase hfew hline hs hplain) fun σ H Q q => by
  obtain ⟨ρ, η, h, rs, rh, p⟩ := q
  refine tM.mono (fun x H1 ⟨d, η1, h1, s1, r1, q1, p1⟩ => ?_) (Po.seq (R1 := rD X) rs rh p)
  split at p1
  · rename_i t
    refine ⟨hT η1 H1 h1 d x r1 q1 t, ?_⟩
    refine tM.mono (fun y H2 ⟨l, η2, h2, s2, r2, q2, p2⟩ => ?_) (Po.seq (R1 := rA X) (rs.step s1) r1 p1)
    exact hd σ η2 H2 h2 d l x y Q r2 (RD.step s2 _ _ q1) q2 p2
  · exact p1.elim⟩
theorem me_bm0 {T id : String} {name : Str} {apos cpos : Pos} {o : Expr} {r : V → List V → Hp → VK → Prop} {ty : D → Hh → Prop} {g : D → List D → Hh → Res D} {mo : EM D} (pa : PlainAttrs T) (slot : Slot T name id)
    (hty : typeOf (.builtin id) = pure (.type "method_descriptor")) (hm : MtR X id r) (hd : MtD X W T r g) (hT : TyD X T ty) (ho : ME X W o mo)
    (hbase : attributeBase o name X.env (eval o X.env) = eval o X.env := by rfl) (hline : (apos.endLine == cpos.line) = true := by rfl) :
    ME X W (.Call (.Attribute o name apos) [] [] cpos) (methE ty g mo nilA) := ⟨PE.wk (pe_bm0 pa slot hty hm ho.pe hbase hline) fun σ H Q q => by
  obtain ⟨ρ, η, h, rs, rh, p⟩ := q
  refine tM.mono (fun x H1 ⟨d, η1, h1, s1, r1, q1, p1⟩ => ?_) (Po.seq (R1 := rD X) rs rh p)
  split at p1
  · rename_i t
    exact ⟨hT η1 H1 h1 d x r1 q1 t, hd σ η1 H1 h1 d [] x [] Q r1 q1 rfl p1⟩
  · exact p1.elim⟩

/-! ### slices -/
def noPart : EM (Option Int) := fun _ h => .ok none h
def asI : D → Hh → Res (Option Int)
  | .int i, h => .ok (some i) h
  | _, _ => .stuck
def partE (m : EM D) : EM (Option Int) := fun ρ h => (m ρ h).bind asI
theorem mo_none : MO X W none noPart := ⟨PO.wk po_none fun σ H Q q => by
  obtain ⟨ρ, η, h, rs, rh, p⟩ := q
  exact Po.ok (b := none) p rh rfl⟩
theorem mo_some {m : EM D} (he : ME X W e m) : MO X W (some e) (partE m) := ⟨PO.wk (po_some he.pe) fun σ H Q q => by
  obtain ⟨ρ, η, h, rs, rh, p⟩ := q
  refine tM.mono (fun x H1 ⟨d, η1, h1, s1, r1, q1, p1⟩ => ?_) (Po.seq (R1 := rD X) rs rh p)
  cases d with
  | int i => exact ⟨i, q1, Po.ok (b := some i) p1 r1 rfl⟩
  | _ => exact p1.elim⟩
def SlD (X : Cx) (W : WX) (r : V → Option Int → Option Int → Hp → VK → Prop) (g : D → Option Int → Option Int → Hh → Res D) : Prop :=
  ∀ (σ : L2.St) (η : Ad) (H : Hp) (h : Hh) (a : D) (x : V) (lo hi : Option Int) (Q : VK), RH X.K X.mg X.w η H h → RD X.K η H a x → Po X W (rD X) σ η H (g a lo hi h) Q → r x lo hi H Q
def slE (g : D → Option Int → Option Int → Hh → Res D) (m : EM D) (ml mh : EM (Option Int)) : EM D := fun ρ h => (m ρ h).bind fun d h1 => (ml ρ h1).bind fun lo h2 => (mh ρ h2).bind fun hi h3 => g d lo hi h3
theorem me_slice {lo hi : Option Expr} {p2 : Pos} {r : V → Option Int → Option Int → Hp → VK → Prop} {g : D → Option Int → Option Int → Hh → Res D} {m : EM D} {ml mh : EM (Option Int)} (hr : SlR X r) (hd : SlD X W r g) (he : ME X W e m) (hl : MO X W lo ml) (hh : MO X W hi mh) :
    ME X W (.Subscript e (.Slice lo hi none p2) pos) (slE g m ml mh) := ⟨PE.wk (pe_slice hr he.pe hl.po hh.po) fun σ H Q q => by
  obtain ⟨ρ, η, h, rs, rh, p⟩ := q
  refine tM.mono (fun x H1 ⟨d, η1, h1, s1, r1, q1, p1⟩ => ?_) (Po.seq (R1 := rD X) rs rh p)
  refine tM.mono (fun y H2 ⟨l, η2, h2, s2, r2, q2, p2⟩ => ?_) (Po.seq (R1 := rI) (rs.step s1) r1 p1)
  refine tM.mono (fun z H3 ⟨u, η3, h3, s3, r3, q3, p3⟩ => ?_) (Po.seq (R1 := rI) (rs.step (s1.trans s2)) r2 p2)
  have q2 : l = y := q2
  have q3 : u = z := q3
  subst q2
  subst q3
  exact hd σ η3 H3 h3 d x l u Q r3 (RD.step (s2.trans s3) _ _ q1) p3⟩
end
end Ev

/-! EvO: the operators, the built-in functions and methods, on values without addresses. -/
namespace Ev
open PySem PySem.Spec PyProof.Rows L2

/-! ### data -/
mutual
def toPy : D → PyData
  | .non => .none
  | .bl b => .bool b
  | .int i => .int i
  | .str x => .str x
  | .tup l => .tuple (toPys l)
  | .lst l => .list (toPys l)
  | _ => .none
def toPys : List D → List PyData
  | [] => []
  | d :: l => toPy d :: toPys l
end
mutual
/-- no dicts, no mutable objects in it; the texts' signs are signs -/
def okD : D → Bool
  | .non => true
  | .bl _ => true
  | .int _ => true
  | .str x => PyData.canLay0 (.str x)
  | .tup l => okDs l
  | .lst l => okDs l
  | _ => false
def okDs : List D → Bool
  | [] => true
  | d :: l => okD d && okDs l
end
mutual
def depD : D → Nat
  | .tup l => depDs l + 1
  | .lst l => depDs l + 1
  | _ => 0
def depDs : List D → Nat
  | [] => 0
  | d :: l => max (depD d) (depDs l)
end
/-- == of data -/
def eqvD (a b : D) : Bool := PyData.eqv (toPy a) (toPy b)
def flatD : D → Bool
  | .non => true
  | .bl _ => true
  | .int _ => true
  | .str _ => true
  | _ => false
def scalD : D → D → Bool
  | .non, .non => true | .non, .int _ => true | .int _, .non => true | .non, .bl _ => true | .bl _, .non => true | .non, .str _ => true | .str _, .non => true
  | .int _, .int _ => true | .bl _, .bl _ => true | .str _, .str _ => true
  | .int _, .str _ => true | .str _, .int _ => true | .bl _, .str _ => true | .str _, .bl _ => true
  | _, _ => false
/-- what == is known of at any depth -/
def CmpOk (d : D) : Prop := okD d = true ∧ depD d ≤ 62

section
variable {K : PySem.W.Frag} {η : Ad} {H : Hp}
mutual
theorem dp_of : ∀ (d : D) (v : V), okD d = true → RD K η H d v → Dp K H v (toPy d)
  | .non, v, _, h => by cases (show v = .non from h); exact .non
  | .bl b, v, _, h => by cases (show v = .bl b from h); exact .bl b
  | .int i, v, _, h => by cases (show v = .int i from h); exact .int i
  | .str x, v, _, h => by cases (show v = .str x from h); exact .str x
  | .tup l, v, o, h => by
    obtain ⟨a, xs, rfl, q, r⟩ := h
    exact .tup q (dps_of l xs o r)
  | .lst l, v, o, h => by
    obtain ⟨a, xs, rfl, q, n, r⟩ := h
    exact .lst (.of q) (dps_of l xs o r)
  | .dic l, v, o, h => by cases o
  | .scr l, v, o, h => by cases o
  | .ref l, v, o, h => by cases o
  | .ty l, v, o, h => by cases o
  | .ntp l, v, o, h => by cases o
theorem dps_of : ∀ (l : List D) (xs : List V), okDs l = true → RDs K η H l xs → DpAll K H xs (toPys l)
  | [], xs, _, h => by cases (show xs = [] from h); exact .nil
  | d :: l, xs, o, h => by
    obtain ⟨x, r, rfl, q, t⟩ := h
    have o := Bool.and_eq_true_iff.mp o
    exact .cons (dp_of d x o.1 q) (dps_of l r o.2 t)
end
mutual
theorem canLay_of : ∀ (d : D), okD d = true → (toPy d).canLay0 = true
  | .non, _ => rfl
  | .bl b, _ => rfl
  | .int i, _ => rfl
  | .str x, o => o
  | .tup l, o => canLays_of l o
  | .lst l, o => canLays_of l o
  | .dic l, o => by cases o
  | .scr l, o => by cases o
  | .ref l, o => by cases o
  | .ty l, o => by cases o
  | .ntp l, o => by cases o
theorem canLays_of : ∀ (l : List D), okDs l = true → PyData.canLayAll0 (toPys l) = true
  | [], _ => rfl
  | d :: l, o => by
    have o := Bool.and_eq_true_iff.mp o
    show (PyData.canLay0 (toPy d) && PyData.canLayAll0 (toPys l)) = true
    rw [canLay_of d o.1, canLays_of l o.2]
    rfl
end
mutual
theorem dep_of : ∀ (d : D), (toPy d).depth = depD d
  | .non => rfl
  | .bl b => rfl
  | .int i => rfl
  | .str x => rfl
  | .tup l => by show PyData.depthAll (toPys l) + 1 = depDs l + 1; rw [deps_of l]
  | .lst l => by show PyData.depthAll (toPys l) + 1 = depDs l + 1; rw [deps_of l]
  | .dic l => rfl
  | .scr l => rfl
  | .ref l => rfl
  | .ty l => rfl
  | .ntp l => rfl
theorem deps_of : ∀ (l : List D), PyData.depthAll (toPys l) = depDs l
  | [] => rfl
  | d :: l => by show max (PyData.depth (toPy d)) (PyData.depthAll (toPys l)) = max (depD d) (depDs l); rw [dep_of d, deps_of l]
end
theorem shaped_of {d : D} (h : CmpOk d) : SeqAt.shaped (toPy d) = true := by
  unfold SeqAt.shaped
  rw [canLay_of d h.1, dep_of d]
  exact decide_eq_true (by have := h.2; omega)
theorem scal_of {a b : D} {x y : V} (h : scalD a b = true) (ra : RD K η H a x) (rb : RD K η H b y) : scal x y = true ∧ decide (x = y) = eqvD a b := by
  cases a <;> cases b <;> first
    | exact absurd (show false = true from h) Bool.false_ne_true
    | (cases ra; cases rb; first | exact ⟨rfl, rfl⟩ | exact ⟨rfl, dec_int⟩ | exact ⟨rfl, dec_bl⟩ | exact ⟨rfl, dec_str⟩ | exact ⟨rfl, by rfl⟩)
theorem flat_of {a : D} {x : V} (h : flatD a = true) (ra : RD K η H a x) : flatV x = true := by
  cases a <;> first | exact absurd (show false = true from h) Bool.false_ne_true | (cases ra; rfl)
theorem eqV_of {a b : D} {x y : V} (ha : flatD a = true) (hb : flatD b = true) (ra : RD K η H a x) (rb : RD K η H b y) : eqV x y = eqvD a b := by
  cases a <;> cases b <;> first
    | exact absurd (show false = true from ha) Bool.false_ne_true
    | exact absurd (show false = true from hb) Bool.false_ne_true
    | (cases ra; cases rb; rfl)
theorem flats_of : ∀ {l : List D} {xs : List V}, l.all flatD = true → RDs K η H l xs → xs.all flatV = true
  | [], _, _, h => by cases h; rfl
  | d :: l, xs, o, h => by
    obtain ⟨x, r, rfl, q, t⟩ := h
    rw [List.all_cons, Bool.and_eq_true] at o ⊢
    exact ⟨flat_of o.1 q, flats_of o.2 t⟩
theorem inV_of {a : D} {x : V} (ha : flatD a = true) (ra : RD K η H a x) : ∀ {l : List D} {xs : List V}, l.all flatD = true → RDs K η H l xs → inV x xs = l.any fun z => eqvD z a
  | [], _, _, h => by cases h; rfl
  | d :: l, xs, o, h => by
    obtain ⟨y, r, rfl, q, t⟩ := h
    rw [List.all_cons, Bool.and_eq_true] at o
    show (eqV y x || inV x r) = (eqvD d a || l.any fun z => eqvD z a)
    rw [eqV_of o.1 ha q ra, inV_of ha ra o.2 t]
theorem any_toPys (a : D) : ∀ (l : List D), ((toPys l).any fun z => PyData.eqv z (toPy a)) = l.any fun z => eqvD z a
  | [] => rfl
  | d :: l => by
    show (PyData.eqv (toPy d) (toPy a) || (toPys l).any _) = _
    rw [any_toPys a l]
    rfl
end

/-! ### a list that is read: frozen, or mutable as it stands -/
def lstOf (d : D) (h : Hh) : Option (List D) := match d with
  | .lst l => some l
  | .ref n => match h[n]? with
    | some (.lst l) => some l
    | _ => none
  | _ => none
@[simp] theorem lstOf_lst (l : List D) (h : Hh) : lstOf (.lst l) h = some l := (rfl)
section
variable {X : Cx} {W : WX} {σ : L2.St} {η : Ad} {H : Hp} {h : Hh} {Q : VK}
theorem lstOf_of {d : D} {v : V} {l : List D} (rh : RH X.K X.mg X.w η H h) (r : RD X.K η H d v) (e : lstOf d h = some l) : ∃ a xs, v = .ref a ∧ H a = some (.lst xs) ∧ RDs X.K η H l xs := by
  cases d with
  | lst m =>
    obtain ⟨a, xs, e1, q, n, t⟩ := r
    cases e
    exact ⟨a, xs, e1, q, t⟩
  | ref n =>
    obtain ⟨a, ea, e1⟩ := r
    unfold lstOf at e
    simp only at e
    split at e
    · rename_i m em
      cases e
      obtain ⟨b, eb, xs, q, t⟩ := rh.addr em
      rw [ea] at eb
      cases eb
      exact ⟨a, xs, e1, q, t⟩
    · cases e
  | _ => cases e

/-! ### arithmetic -/
def addD : D → D → Hh → Res D
  | .int i, .int j, h => .ok (.int (i + j)) h
  | .str i, .str j, h => if i.length + j.length ≤ sizeLine then .ok (.str (i ++ j)) h else .stuck
  | .tup l, .tup m, h => if l.length + m.length ≤ sizeLine then .ok (.tup (l ++ m)) h else .stuck
  | a, b, h => match lstOf a h, lstOf b h with
    | some l, some m => if l.length + m.length ≤ sizeLine then .ok (.lst (l ++ m)) h else .stuck
    | _, _ => .stuck
def rAddAll (K : PySem.W.Frag) : R2 := fun x y H Q => rI0 (fun i j => .int (i + j)) x y H Q ∨ (∃ i j, x = .str i ∧ y = .str j ∧ i.length + j.length ≤ sizeLine ∧ Q (.str (i ++ j)) H) ∨ rCatA K x y H Q ∨ rCat x y H Q
theorem op_addAll : OpR X (binaryOp .Add) (rAddAll X.K) := op_add.or (op_add_str.or (op_catA.or op_cat))
theorem Po.scal {d : D} {v : V} (p : Po X W (rD X) σ η H (.ok d h) Q) (rh : RH X.K X.mg X.w η H h) (r : RD X.K η H d v) : Q v H := p v η H (.refl _ _) rh r
theorem od_add : OpD X W (rAddAll X.K) addD := by
  intro σ η H h a b x y Q rh ra rb p
  have lists : ∀ {a b : D} {x y : V}, RD X.K η H a x → RD X.K η H b y → Po X W (rD X) σ η H (match lstOf a h, lstOf b h with
    | some l, some m => if l.length + m.length ≤ sizeLine then .ok (.lst (l ++ m)) h else .stuck
    | _, _ => .stuck) Q → rAddAll X.K x y H Q := by
    intro a b x y ra rb p
    cases ea : lstOf a h with
    | none => rw [ea] at p; exact p.elim
    | some l =>
      cases eb : lstOf b h with
      | none => rw [ea, eb] at p; exact p.elim
      | some m =>
        rw [ea, eb] at p
        obtain ⟨p1, xs, rfl, q1, t1⟩ := lstOf_of rh ra ea
        obtain ⟨p2, ys, rfl, q2, t2⟩ := lstOf_of rh rb eb
        simp only at p
        split at p
        · rename_i hz
          exact .inr (.inr (.inr ⟨p1, p2, xs, ys, rfl, rfl, q1, q2, by rw [t1.length, t2.length]; exact hz, fun c n => Po.newF p rh (t1.app t2) c n⟩))
        · exact p.elim
  unfold addD at p
  split at p
  · rename_i i j
    cases ra; cases rb
    exact .inl ⟨i, j, rfl, rfl, Po.scal p rh rfl⟩
  · rename_i i j
    cases ra; cases rb
    split at p
    · rename_i hz
      exact .inr (.inl ⟨i, j, rfl, rfl, hz, Po.scal p rh rfl⟩)
    · exact p.elim
  · rename_i l m
    split at p
    · rename_i hz
      have ra' := ra
      have rb' := rb
      obtain ⟨c, xs, rfl, s1, t1⟩ := ra
      obtain ⟨d, ys, rfl, s2, t2⟩ := rb
      refine .inr (.inr (.inl ⟨c, d, xs, ys, rfl, rfl, s1, s2, by rw [t1.length, t2.length]; exact hz, fun e => ?_, fun _ e => ?_, fun _ _ e n => Po.newT p rh (t1.app t2) e n⟩))
      · have e0 : l = [] := by
          have := t1.length
          rw [e] at this
          exact List.eq_nil_of_length_eq_zero this.symm
        subst e0
        exact Po.scal p rh rb'
      · have e0 : m = [] := by
          have := t2.length
          rw [e] at this
          exact List.eq_nil_of_length_eq_zero this.symm
        subst e0
        rw [List.append_nil] at p
        exact Po.scal p rh ra'
    · exact p.elim
  · exact lists ra rb p
def subD : D → D → Hh → Res D
  | .int i, .int j, h => .ok (.int (i - j)) h
  | _, _, _ => .stuck
theorem od_sub : OpD X W (rI0 fun i j => .int (i - j)) subD := by
  intro σ η H h a b x y Q rh ra rb p
  unfold subD at p
  split at p
  · rename_i i j
    cases ra; cases rb
    exact ⟨i, j, rfl, rfl, Po.scal p rh rfl⟩
  · exact p.elim
def small64 (i : Int) : Prop := -18446744073709551616 < i ∧ i < 18446744073709551616
instance (i : Int) : Decidable (small64 i) := inferInstanceAs (Decidable (_ ∧ _))
/-- a text, so many times -/
def repS (x : Str) (n : Nat) : Str := ⟨(List.replicate n x.cps.toList).flatten.toArray⟩
def mulD : D → D → Hh → Res D
  | .int i, .int j, h => if small64 i ∨ small64 j then .ok (.int (i * j)) h else .stuck
  | .tup l, .int k, h => if l ≠ [] ∧ 2 ≤ k ∧ k ≤ 1000 ∧ l.length ≤ 1000 then .ok (.tup (List.replicate k.toNat l).flatten) h else if k = 1 then .ok (.tup l) h else if k = 0 ∧ l ≠ [] then .ok (.tup []) h else .stuck
  | .str x, .int k, h => if -1000 ≤ k ∧ k ≤ 1000 ∧ x.length ≤ 1000 then .ok (.str (repS x k.toNat)) h else .stuck
  | a, .int k, h => match lstOf a h with
    | some l => if 0 ≤ k ∧ k ≤ 1000 ∧ l.length ≤ 1000 then .ok (.lst (List.replicate k.toNat l).flatten) h else .stuck
    | none => .stuck
  | _, _, _ => .stuck
theorem RDs.rep {K : PySem.W.Frag} {l : List D} {xs : List V} (t : RDs K η H l xs) : ∀ (n : Nat), RDs K η H (List.replicate n l).flatten (List.replicate n xs).flatten
  | 0 => rfl
  | n + 1 => by
    rw [List.replicate_succ, List.replicate_succ, List.flatten_cons, List.flatten_cons]
    exact t.app (RDs.rep t n)
def rMulS : R2 := fun x y H Q => ∃ z k, x = .str z ∧ y = .int k ∧ -1000 ≤ k ∧ k ≤ 1000 ∧ z.length ≤ 1000 ∧ Q (.str (repS z k.toNat)) H
theorem repS_fold (z : Str) (n : Nat) : (⟨(List.replicate n z.cps).foldl (· ++ ·) #[]⟩ : Str) = repS z n := by
  have h : ∀ (n : Nat) (a : Array Nat), (List.replicate n z.cps).foldl (· ++ ·) a = a ++ (List.replicate n z.cps.toList).flatten.toArray := by
    intro n
    induction n with
    | zero => intro a; simp
    | succ n ih =>
      intro a
      rw [List.replicate_succ, List.foldl_cons, ih, List.replicate_succ, List.flatten_cons]
      apply Array.toList_inj.mp
      simp
  rw [h n #[]]
  unfold repS
  simp
theorem op_mulS : OpR X (binaryOp .Mult) rMulS := by
  intro pins s σ H x y v u Q I rx ry h
  obtain ⟨z, k, rfl, rfl, h1, h2, h3, q⟩ := h
  obtain ⟨t, rfl⟩ := rx
  obtain ⟨t', rfl⟩ := ry
  have hk : k.toNat ≤ 1000 := by omega
  have hm : z.length * k.toNat ≤ 1000 * 1000 := Nat.mul_le_mul h3 hk
  have hlen : (repS z k.toNat).length = z.length * k.toNat := by
    unfold repS Str.length
    simp [Nat.mul_comm]
  refine PySem.P.mul_str ?_ (fun a _ => ?_) (fun a _ => ?_) ?_
  · rw [decide_eq_false (by omega), decide_eq_false (by omega)]; rfl
  · have h4 : (1000 : Int) ≤ (2 ^ 63 - 1) / k := (Int.le_ediv_iff_mul_le (by omega)).mpr (by omega)
    omega
  · exact decide_eq_false (by rw [sizeLine_eq]; omega)
  · by_cases a : k < 1
    · rw [if_pos a]
      have e : k.toNat = 0 := by omega
      rw [e] at q
      exact ⟨by decide, .str (repS z 0), H, I.tok _, ⟨_, rfl⟩, q⟩
    · rw [if_neg a]
      by_cases b : (k == 1 || z.length == 0) = true
      · rw [if_pos b]
        have e : repS z k.toNat = z := by
          unfold repS
          cases z with
          | mk c =>
            rcases Bool.or_eq_true_iff.mp b with b | b
            · have b := of_decide_eq_true b
              subst b
              simp
            · have b : c.size = 0 := by simpa [Str.length] using b
              have : c = #[] := Array.eq_empty_of_size_eq_zero b
              subst this
              simp
        rw [e] at q
        exact ⟨.str z, H, I, ⟨_, rfl⟩, q⟩
      · rw [if_neg b, repS_fold]
        exact ⟨by rw [hlen, sizeLine_eq]; omega, .str (repS z k.toNat), H, I.tok _, ⟨_, rfl⟩, q⟩
theorem tuple_mulW1 (l : Addr) (items : Array Value) (n : Nat) (dd : Option Addr) (sl : Array (Option Value)) (u : Tok) :
    Meets (Builtin.«tuple.__mul__» ⟨[.ref l, .int 1 u], []⟩) (fun _ R s => s.heap.get? l = some { cls := .type "tuple", dict := dd, data := .seq items n, slots := sl } ∧
      R (.ok (.ret (Value.ref l))) s) :=
  .of_wp fun prog w A R s h => by
    obtain ⟨hp, g, d, tk, os⟩ := s
    obtain ⟨hl, h⟩ := h
    have f1 := AutoSeq1.idx_int
    wp_walk using wpAny_loadPart' hl
    exact ⟨_, rfl, h⟩
theorem tuple_mulW0 (l : Addr) (items : Array Value) (n : Nat) (dd : Option Addr) (sl : Array (Option Value)) (u : Tok) (hi : items.isEmpty = false) :
    Meets (Builtin.«tuple.__mul__» ⟨[.ref l, .int 0 u], []⟩) (fun _ R s => s.heap.get? l = some { cls := .type "tuple", dict := dd, data := .seq items n, slots := sl } ∧
      R (.ok (.ret (Value.ref s.heap.objs.size))) { s with heap := s.heap.push { cls := Value.type "tuple", data := Data.seq #[] }, toks := s.toks }) :=
  .of_wp fun prog w A R s h => by
    obtain ⟨hp, g, d, tk, os⟩ := s
    obtain ⟨hl, h⟩ := h
    have f1 := AutoSeq1.idx_int
    wp_walk using wpAny_loadPart' hl
    exact ⟨_, rfl, h⟩
/-- tuple * 1, tuple * 0 -/
def rRep1 (K : PySem.W.Frag) : R2 := fun x y H Q => ∃ l xs, x = .ref l ∧ y = .int 1 ∧ SqT K H l xs ∧ Q (.ref l) H
def rRep0 (K : PySem.W.Frag) : R2 := fun x y H Q => ∃ l xs, x = .ref l ∧ y = .int 0 ∧ SqT K H l xs ∧ xs ≠ [] ∧ ∀ p, H p = none → Q (.ref p) (upd H p (.tup []))
theorem op_rep1 : OpR X (binaryOp .Mult) (rRep1 X.K) := by
  intro pins s σ H x y v u Q I rx ry h
  obtain ⟨l, xs, rfl, rfl, hT, q⟩ := h
  cases rx
  obtain ⟨t, rfl⟩ := ry
  obtain ⟨its, r, ⟨⟨cls, dd, data, sl⟩, ho, hc, n, hd⟩, hs⟩ := I.tuple hT
  simp only at hc hd
  subst hc hd
  refine wpAny_binaryOp_repeat_ref (T := "tuple") (U := "int") (by decide) ⟨_, ho, rfl⟩ (fun s' => typeIs_int s' 1 t) noFill_tuple_mul F.fills_int_mul F.slot_int_rmul repeat_tuple F.slot_int_index.lookup
    (call_meets F.slot_int_rmul (typeIs_int s 1 t) F.entry_int_rmul (F.args_int_rmul_2 _ _) (int_rmul_tuple 1 t l its.toArray n dd sl)
      ⟨ho, rfl, ⟨_, ho, rfl⟩, call_meets F.slot_tuple_mul ⟨_, ho, rfl⟩ F.entry_tuple_mul (F.args_tuple_mul_2 _ _) (tuple_mulW1 l its.toArray n dd sl t) ⟨ho, ?_⟩⟩)
  exact ⟨.ref l, H, I, rfl, q⟩
theorem op_rep0 : OpR X (binaryOp .Mult) (rRep0 X.K) := by
  intro pins s σ H x y v u Q I rx ry h
  obtain ⟨l, xs, rfl, rfl, hT, hne, q⟩ := h
  cases rx
  obtain ⟨t, rfl⟩ := ry
  obtain ⟨its, r, ⟨⟨cls, dd, data, sl⟩, ho, hc, n, hd⟩, hs⟩ := I.tuple hT
  simp only at hc hd
  subst hc hd
  have hle : its.length = xs.length := r.length.symm
  have hi : its.toArray.isEmpty = false := by
    cases its with
    | nil => exact absurd (List.eq_nil_of_length_eq_zero hle.symm) hne
    | cons a b => rfl
  refine wpAny_binaryOp_repeat_ref (T := "tuple") (U := "int") (by decide) ⟨_, ho, rfl⟩ (fun s' => typeIs_int s' 0 t) noFill_tuple_mul F.fills_int_mul F.slot_int_rmul repeat_tuple F.slot_int_index.lookup
    (call_meets F.slot_int_rmul (typeIs_int s 0 t) F.entry_int_rmul (F.args_int_rmul_2 _ _) (int_rmul_tuple 0 t l its.toArray n dd sl)
      ⟨ho, rfl, ⟨_, ho, rfl⟩, call_meets F.slot_tuple_mul ⟨_, ho, rfl⟩ F.entry_tuple_mul (F.args_tuple_mul_2 _ _) (tuple_mulW0 l its.toArray n dd sl t hi) ⟨ho, ?_⟩⟩)
  exact ⟨.ref s.heap.objs.size, _, I.laid (t' := s.toks) (o := .tup []) (fun b ob q => Heap.get?_push_of_some _ q) (Nat.le_refl _) ⟨Nat.zero_le _, [], .nil, IsTup.new _ _⟩, rfl, q _ (I.hok.fresh (Nat.le_refl _))⟩
def rMulAll (K : PySem.W.Frag) : R2 := fun x y H Q => L2.rI CMul (fun i j => .int (i * j)) x y H Q ∨ rRepT K x y H Q ∨ rMulS x y H Q ∨ rRep x y H Q ∨ rRep1 K x y H Q ∨ rRep0 K x y H Q
theorem op_mulAll : OpR X (binaryOp .Mult) (rMulAll X.K) := op_mul.or (op_repT.or (op_mulS.or (op_rep.or (op_rep1.or op_rep0))))
theorem od_mul : OpD X W (rMulAll X.K) mulD := by
  intro σ η H h a b x y Q rh ra rb p
  unfold mulD at p
  split at p
  · rename_i i j
    cases ra; cases rb
    split at p
    · rename_i hz
      refine .inl ⟨i, j, rfl, rfl, ?_, Po.scal p rh rfl⟩
      unfold small64 at hz
      unfold CMul
      rcases hz with hz | hz
      · exact .inl ⟨by omega, by omega⟩
      · exact .inr ⟨by omega, by omega⟩
    · exact p.elim
  · rename_i l k
    cases rb
    split at p
    · rename_i hz
      obtain ⟨c, xs, rfl, s1, t1⟩ := ra
      have hl := t1.length
      refine .inr (.inl ⟨c, k, xs, rfl, rfl, s1, fun e => hz.1 (List.eq_nil_of_length_eq_zero (by rw [← hl, e]; rfl)), hz.2.1, hz.2.2.1, by rw [hl]; exact hz.2.2.2, fun e n => Po.newT p rh (t1.rep _) e n⟩)
    · split at p
      · rename_i hk
        subst hk
        obtain ⟨c, xs, rfl, s1, t1⟩ := ra
        exact .inr (.inr (.inr (.inr (.inl ⟨c, xs, rfl, rfl, s1, Po.scal p rh ⟨c, xs, rfl, s1, t1⟩⟩))))
      · split at p
        · rename_i hk
          obtain ⟨hk, hne⟩ := hk
          subst hk
          obtain ⟨c, xs, rfl, s1, t1⟩ := ra
          have hl := t1.length
          exact .inr (.inr (.inr (.inr (.inr ⟨c, xs, rfl, rfl, s1, fun e => hne (List.eq_nil_of_length_eq_zero (by rw [← hl, e]; rfl)), fun e n => Po.newT p rh rfl e n⟩))))
        · exact p.elim
  · rename_i x k
    cases ra; cases rb
    split at p
    · rename_i hz
      exact .inr (.inr (.inl ⟨x, k, rfl, rfl, hz.1, hz.2.1, hz.2.2, Po.scal p rh rfl⟩))
    · exact p.elim
  · rename_i d k _ _ _
    cases rb
    cases ea : lstOf a h with
    | none => rw [ea] at p; exact p.elim
    | some l =>
      rw [ea] at p
      obtain ⟨p1, xs, rfl, q1, t1⟩ := lstOf_of rh ra ea
      simp only at p
      split at p
      · rename_i hz
        have hl := t1.length
        refine .inr (.inr (.inr (.inl ⟨p1, k, xs, rfl, rfl, q1, by omega, by omega, ?_, fun e n => Po.newF p rh (t1.rep _) e n⟩)))
        rw [sizeLine_eq, hl]
        have h1 : k.toNat ≤ 1000 := by omega
        have h2 : l.length ≤ 1000 := hz.2.2
        calc l.length * k.toNat ≤ 1000 * 1000 := Nat.mul_le_mul h2 h1
          _ ≤ 16777216 := by decide
      · exact p.elim
  · exact p.elim
def modD : D → D → Hh → Res D
  | .int i, .int j, h => if 0 < j then .ok (.int (i % j)) h else .stuck
  | _, _, _ => .stuck
theorem od_mod : OpD X W (L2.rI (fun _ j => 0 < j) fun i j => .int (i % j)) modD := by
  intro σ η H h a b x y Q rh ra rb p
  unfold modD at p
  split at p
  · rename_i i j
    cases ra; cases rb
    split at p
    · rename_i hz
      exact ⟨i, j, rfl, rfl, hz, Po.scal p rh rfl⟩
    · exact p.elim
  · exact p.elim
def fdivD : D → D → Hh → Res D
  | .int i, .int j, h => if 0 < j ∧ j < 1073741824 then .ok (.int (i / j)) h else .stuck
  | _, _, _ => .stuck
theorem od_fdiv : OpD X W (L2.rI CDiv fun i j => .int (i / j)) fdivD := by
  intro σ η H h a b x y Q rh ra rb p
  unfold fdivD at p
  split at p
  · rename_i i j
    cases ra; cases rb
    split at p
    · rename_i hz
      exact ⟨i, j, rfl, rfl, hz, Po.scal p rh rfl⟩
    · exact p.elim
  · exact p.elim
def powD : D → D → Hh → Res D
  | .int i, .int j, h => if 0 ≤ j ∧ j ≤ 1000000 ∧ i.natAbs < 18446744073709551616 then .ok (.int (i ^ j.toNat)) h else .stuck
  | _, _, _ => .stuck
theorem od_pow : OpD X W (L2.rI CPow fun i j => .int (i ^ j.toNat)) powD := by
  intro σ η H h a b x y Q rh ra rb p
  unfold powD at p
  split at p
  · rename_i i j
    cases ra; cases rb
    split at p
    · rename_i hz
      exact ⟨i, j, rfl, rfl, ⟨hz.1, hz.2.1, hz.2.2⟩, Po.scal p rh rfl⟩
    · exact p.elim
  · exact p.elim
def negD : D → Hh → Res D
  | .int i, h => .ok (.int (-i)) h
  | _, _ => .stuck
theorem ud_neg : UnD X W (rU fun i => .int (-i)) negD := by
  intro σ η H h a x Q rh ra p
  unfold negD at p
  split at p
  · rename_i i
    cases ra
    exact ⟨i, rfl, Po.scal p rh rfl⟩
  · exact p.elim

/-! ### order -/
def intsOf : List D → Option (List Int)
  | [] => some []
  | .int i :: l => (intsOf l).map (i :: ·)
  | _ :: _ => none
theorem intsOf_map (l : List Int) : intsOf (l.map D.int) = some l := by
  induction l with
  | nil => rfl
  | cons i l ih => rw [List.map_cons, intsOf, ih]; rfl
theorem intsOf_eq : ∀ {l : List D} {ns : List Int}, intsOf l = some ns → l = ns.map D.int
  | [], ns, e => by cases e; rfl
  | d :: l, ns, e => by
    cases d with
    | int i =>
      unfold intsOf at e
      cases q : intsOf l with
      | none => rw [q] at e; cases e
      | some m =>
        rw [q] at e
        cases e
        rw [intsOf_eq q]
        rfl
    | _ => cases e
def ltD : D → D → Hh → Res D
  | .int i, .int j, h => .ok (.bl (decide (i < j))) h
  | .str i, .str j, h => .ok (.bl (decide (i.cps.toList < j.cps.toList))) h
  | .tup l, .tup m, h => match intsOf l, intsOf m with
    | some a, some b => .ok (.bl (HT.lexLt a b)) h
    | _, _ => .stuck
  | _, _, _ => .stuck
def rLtAll (K : PySem.W.Frag) : R2 := fun x y H Q => rI0 (fun i j => .bl (decide (i < j))) x y H Q ∨ (∃ i j, x = .str i ∧ y = .str j ∧ Q (.bl (decide (i.cps.toList < j.cps.toList))) H) ∨ rLtT K x y H Q
theorem op_ltAll (hu : X.A.units < cLine) : OpR X (compareOp .Lt) (rLtAll X.K) := op_lt.or (op_lt_str.or (op_ltT hu))
theorem od_lt : OpD X W (rLtAll X.K) ltD := by
  intro σ η H h a b x y Q rh ra rb p
  unfold ltD at p
  split at p
  · rename_i i j
    cases ra; cases rb
    exact .inl ⟨i, j, rfl, rfl, Po.scal p rh rfl⟩
  · rename_i i j
    cases ra; cases rb
    exact .inr (.inl ⟨i, j, rfl, rfl, Po.scal p rh rfl⟩)
  · rename_i l m
    cases el : intsOf l with
    | none => rw [el] at p; exact p.elim
    | some ns =>
      cases em : intsOf m with
      | none => rw [el, em] at p; exact p.elim
      | some ms =>
        rw [el, em] at p
        obtain ⟨c, xs, rfl, s1, t1⟩ := ra
        obtain ⟨d, ys, rfl, s2, t2⟩ := rb
        rw [intsOf_eq el] at t1
        rw [intsOf_eq em] at t2
        rw [t1.ints] at s1
        rw [t2.ints] at s2
        exact .inr (.inr ⟨c, d, ns, ms, rfl, rfl, s1, s2, Po.scal p rh rfl⟩)
  · exact p.elim
def cmpI (f : Int → Int → Bool) : D → D → Hh → Res D
  | .int i, .int j, h => .ok (.bl (f i j)) h
  | _, _, _ => .stuck
theorem od_cmpI {f : Int → Int → Bool} : OpD X W (rI0 fun i j => .bl (f i j)) (cmpI f) := by
  intro σ η H h a b x y Q rh ra rb p
  unfold cmpI at p
  split at p
  · rename_i i j
    cases ra; cases rb
    exact ⟨i, j, rfl, rfl, Po.scal p rh rfl⟩
  · exact p.elim
def leD : D → D → Hh → Res D := cmpI fun i j => decide (i ≤ j)
def gtD : D → D → Hh → Res D := cmpI fun i j => decide (j < i)
def geD : D → D → Hh → Res D := cmpI fun i j => decide (j ≤ i)

/-! ### ==, != -/
/-- a mutable list as it stands -/
def vwD (h : Hh) (d : D) : D := match d with
  | .ref n => (match h[n]? with
    | some (.lst l) => .lst l
    | _ => .ref n)
  | d => d
theorem vwD_ok {d : D} (h : okD d = true) (hh : Hh) : vwD hh d = d := by cases d <;> first | rfl | cases h
theorem dp_vw {d : D} {v : V} (rh : RH X.K X.mg X.w η H h) (r : RD X.K η H d v) (o : okD (vwD h d) = true) : Dp X.K H v (toPy (vwD h d)) := by
  cases d with
  | ref n =>
    unfold vwD at o ⊢
    simp only at o ⊢
    split at o
    · rename_i l el
      have e : lstOf (.ref n) h = some l := by unfold lstOf; simp only [el]
      obtain ⟨a, xs, rfl, q, t⟩ := lstOf_of rh r e
      exact .lst (.of q) (dps_of l xs o t)
    · cases o
  | _ => exact dp_of _ v o r
open Classical in
noncomputable def eqD (a b : D) (h : Hh) : Res D := if scalD a b = true then .ok (.bl (eqvD a b)) h else if CmpOk (vwD h a) ∧ CmpOk (vwD h b) then .ok (.bl (eqvD (vwD h a) (vwD h b))) h else .stuck
open Classical in
noncomputable def neD (a b : D) (h : Hh) : Res D := if scalD a b = true then .ok (.bl (!eqvD a b)) h else if CmpOk (vwD h a) ∧ CmpOk (vwD h b) then .ok (.bl (!eqvD (vwD h a) (vwD h b))) h else .stuck
theorem op_eqAll (hu : X.A.units + 64 < cLine) : OpR X (compareOp .Eq) (fun x y H Q => rEq x y H Q ∨ rEqD X.K x y H Q) := op_eq.or (op_eqD hu)
theorem op_neAll (hu : X.A.units + 64 < cLine) : OpR X (compareOp .NotEq) (fun x y H Q => rNe x y H Q ∨ rNeD X.K x y H Q) := op_ne.or (op_neD hu)
theorem od_eq : OpD X W (fun x y H Q => rEq x y H Q ∨ rEqD X.K x y H Q) eqD := by
  intro σ η H h a b x y Q rh ra rb p
  unfold eqD at p
  split at p
  · rename_i hc
    obtain ⟨e1, e2⟩ := scal_of hc ra rb
    exact .inl ⟨e1, by rw [e2]; exact Po.scal p rh rfl⟩
  · split at p
    · rename_i hc
      exact .inr ⟨toPy (vwD h a), toPy (vwD h b), dp_vw rh ra hc.1.1, dp_vw rh rb hc.2.1, shaped_of hc.1, shaped_of hc.2, Po.scal p rh rfl⟩
    · exact p.elim
theorem od_ne : OpD X W (fun x y H Q => rNe x y H Q ∨ rNeD X.K x y H Q) neD := by
  intro σ η H h a b x y Q rh ra rb p
  unfold neD at p
  split at p
  · rename_i hc
    obtain ⟨e1, e2⟩ := scal_of hc ra rb
    exact .inl ⟨e1, by rw [e2]; exact Po.scal p rh rfl⟩
  · split at p
    · rename_i hc
      exact .inr ⟨toPy (vwD h a), toPy (vwD h b), dp_vw rh ra hc.1.1, dp_vw rh rb hc.2.1, shaped_of hc.1, shaped_of hc.2, Po.scal p rh rfl⟩
    · exact p.elim
def nonD : D → Bool
  | .non => true
  | _ => false
theorem nonD_of {a : D} {x : V} (ra : RD X.K η H a x) : decide (x = .non) = nonD a := by
  cases a with
  | non => cases ra; rfl
  | bl b => cases ra; rfl
  | int b => cases ra; rfl
  | str b => cases ra; rfl
  | ty b => cases ra; rfl
  | ntp l => obtain ⟨a, ob, rfl, _⟩ := ra; rfl
  | tup l => obtain ⟨a, xs, rfl, _⟩ := ra; rfl
  | lst l => obtain ⟨a, xs, rfl, _⟩ := ra; rfl
  | dic l => obtain ⟨a, xs, rfl, _⟩ := ra; rfl
  | scr l => obtain ⟨a, rfl, _⟩ := ra; rfl
  | ref l => obtain ⟨a, _, rfl⟩ := ra; rfl
/-- is None -/
def isD (a b : D) (h : Hh) : Res D := if nonD b = true then .ok (.bl (nonD a)) h else .stuck
def isntD (a b : D) (h : Hh) : Res D := if nonD b = true then .ok (.bl (!nonD a)) h else .stuck
theorem od_is : OpD X W (fun x y H Q => y = .non ∧ Q (.bl (decide (x = .non))) H) isD := by
  intro σ η H h a b x y Q rh ra rb p
  unfold isD at p
  split at p
  · rename_i hb
    have eb : decide (y = .non) = true := (nonD_of rb).trans hb
    exact ⟨of_decide_eq_true eb, by rw [nonD_of ra]; exact Po.scal p rh rfl⟩
  · exact p.elim
theorem od_isnt : OpD X W (fun x y H Q => y = .non ∧ Q (.bl (!decide (x = .non))) H) isntD := by
  intro σ η H h a b x y Q rh ra rb p
  unfold isntD at p
  split at p
  · rename_i hb
    have eb : decide (y = .non) = true := (nonD_of rb).trans hb
    exact ⟨of_decide_eq_true eb, by rw [nonD_of ra]; exact Po.scal p rh rfl⟩
  · exact p.elim
end
end Ev

/-! EvO2: in, subscripts, slices, len and the other built-ins, methods of lists. -/
namespace Ev
open PySem PySem.Spec PyProof.Rows L2
section
variable {X : Cx} {W : WX} {σ : L2.St} {η : Ad} {H : Hp} {h : Hh} {Q : VK}

/-! ### dicts as they are read -/
def dicOf (d : D) (h : Hh) : Option (List (D × D)) := match d with
  | .dic l => some l
  | .ref n => match h[n]? with
    | some (.dic l) => some l
    | _ => none
  | _ => none
theorem dicOf_of {d : D} {v : V} {l : List (D × D)} (rh : RH X.K X.mg X.w η H h) (r : RD X.K η H d v) (e : dicOf d h = some l) : ∃ a xs, v = .ref a ∧ H a = some (.dK xs) ∧ RKs X.K η H l xs := by
  cases d with
  | dic m =>
    obtain ⟨a, xs, e1, q, n, t⟩ := r
    cases e
    exact ⟨a, xs, e1, q, t⟩
  | ref n =>
    obtain ⟨a, ea, e1⟩ := r
    unfold dicOf at e
    simp only at e
    split at e
    · rename_i m em
      cases e
      obtain ⟨b, eb, xs, q, t⟩ := rh.addr em
      rw [ea] at eb
      cases eb
      exact ⟨a, xs, e1, q, t⟩
    · cases e
  | _ => cases e
/-- the value at a key -/
def lookD (l : List (D × D)) (k : D) : Option D := (l.find? fun p => decide (keyD p.1 = keyD k)).map (·.2)
theorem keyD_of {K : PySem.W.Frag} {k : D} {y : V} {k' : Key} (e : keyD k = some k') (r : RD K η H k y) : y = kV k' := by
  cases k with
  | int i => cases e; exact r
  | str i => cases e; exact r
  | _ => cases e
theorem lookD_of {K : PySem.W.Frag} {k : D} {k' : Key} (e : keyD k = some k') : ∀ {l : List (D × D)} {xs : List (Key × V)}, RKs K η H l xs →
    match lookD l k with
    | some d => ∃ v, valV xs k' = some v ∧ RD K η H d v
    | none => valV xs k' = none
  | [], xs, r => by cases r; rfl
  | (k1, d) :: l, xs, r => by
    obtain ⟨k2, x, r', rfl, e2, rd, t⟩ := r
    by_cases q : k2 = k'
    · subst q
      have e3 : lookD ((k1, d) :: l) k = some d := by simp [lookD, List.find?_cons, e2, e]
      rw [e3]
      exact ⟨x, valV_pos rfl, rd⟩
    · have e3 : lookD ((k1, d) :: l) k = lookD l k := by
        have : ¬ (some k2 = some k') := fun z => q (Option.some.inj z)
        simp [lookD, List.find?_cons, e2, e, this]
      have e4 : valV ((k2, x) :: r') k' = valV r' k' := by simp [valV, List.find?_cons, q]
      rw [e3, e4]
      exact lookD_of e t

/-! ### in, not in -/
def oneS (x : Str) : Option Nat := match x.cps.toList with
  | [c] => some c
  | _ => none
theorem oneS_eq {x : Str} {c : Nat} (e : oneS x = some c) : x = ⟨#[c]⟩ := by
  unfold oneS at e
  split at e
  · rename_i c' ec
    cases e
    have : x.cps = #[c] := by
      apply Array.toList_inj.mp
      rw [ec]
    cases x
    simp only at this
    rw [this]
  · cases e
open Classical in
/-- does a hold in b -/
noncomputable def memD (a b : D) (h : Hh) : Option Bool := match b with
  | .str z => match a with
    | .str x => (oneS x).map fun c => decide (c ∈ z.cps.toList)
    | _ => none
  | .tup l => if (flatD a = true ∧ l.all flatD = true) ∨ (CmpOk a ∧ CmpOk (.tup l)) then some (l.any fun z => eqvD z a) else none
  | b => match lstOf b h with
    | some l => if (flatD a = true ∧ l.all flatD = true) ∨ (CmpOk a ∧ CmpOk (.lst l)) then some (l.any fun z => eqvD z a) else none
    | none => match dicOf b h with
      | some l => if (keyD a).isSome then some (lookD l a).isSome else none
      | none => none
noncomputable def inD (a b : D) (h : Hh) : Res D := match memD a b h with
  | some c => .ok (.bl c) h
  | none => .stuck
noncomputable def ninD (a b : D) (h : Hh) : Res D := match memD a b h with
  | some c => .ok (.bl (!c)) h
  | none => .stuck
def rInT (K : PySem.W.Frag) (neg : Bool) : R2 := fun x y H Q => ∃ d ds, Dp K H x d ∧ Dp K H y (.tuple ds) ∧ SeqAt.shaped d = true ∧ SeqAt.shaped (.tuple ds) = true ∧ Q (.bl (neg != (ds.any fun z => PyData.eqv z d))) H
def rInX (neg : Bool) : R2 := fun x y H Q => ∃ a o, y = .ref a ∧ DGet H a x o ∧ Q (.bl (neg != o.isSome)) H
def rInS (neg : Bool) : R2 := fun x y H Q => ∃ (c : Nat) (z : Str), x = .str ⟨#[c]⟩ ∧ y = .str z ∧ Q (.bl (neg != decide (c ∈ z.cps.toList))) H
def rInL (K : PySem.W.Frag) (neg : Bool) : R2 := fun x y H Q => ∃ d ds, Dp K H x d ∧ Dp K H y (.list ds) ∧ SeqAt.shaped d = true ∧ SeqAt.shaped (.list ds) = true ∧ Q (.bl (neg != (ds.any fun z => PyData.eqv z d))) H
def rInAll (K : PySem.W.Frag) (neg : Bool) : R2 := fun x y H Q => rInS neg x y H Q ∨ rIn K neg x y H Q ∨ rInT K neg x y H Q ∨ rInL K neg x y H Q ∨ rInX neg x y H Q
theorem op_inT (hu : X.A.units + 65 < cLine) : OpR X (compareOp .In) (rInT X.K false) := by
  intro pins s σ H x y v u Q I rx ry h
  obtain ⟨d, ds, hd, he, sd, se, q⟩ := h
  obtain ⟨as, r1⟩ := Dp.reads I d x v hd rx
  obtain ⟨bs, r2⟩ := Dp.reads I (.tuple ds) y u he ry
  refine SeqAt.in_tuple_reads r2 r1 (SeqAt.canLay_of_shaped se) (SeqAt.canLay_of_shaped sd) (room_in_shaped sd hu) ⟨.bl _, H, I, rfl, ?_⟩
  rw [Bool.false_bne] at q
  exact q
theorem op_ninT (hu : X.A.units + 65 < cLine) : OpR X (compareOp .NotIn) (rInT X.K true) := by
  intro pins s σ H x y v u Q I rx ry h
  obtain ⟨d, ds, hd, he, sd, se, q⟩ := h
  obtain ⟨as, r1⟩ := Dp.reads I d x v hd rx
  obtain ⟨bs, r2⟩ := Dp.reads I (.tuple ds) y u he ry
  refine SeqAt.notIn_tuple_reads r2 r1 (SeqAt.canLay_of_shaped se) (SeqAt.canLay_of_shaped sd) (room_in_shaped sd hu) ⟨.bl _, H, I, rfl, ?_⟩
  rw [Bool.true_bne] at q
  exact q
theorem op_inL (hu : X.A.units + 65 < cLine) : OpR X (compareOp .In) (rInL X.K false) := by
  intro pins s σ H x y v u Q I rx ry h
  obtain ⟨d, ds, hd, he, sd, se, q⟩ := h
  rw [Bool.false_bne] at q
  exact op_inD hu pins s σ H x y v u Q I rx ry ⟨d, ds, hd, he, sd, se, q⟩
theorem op_ninL (hu : X.A.units + 65 < cLine) : OpR X (compareOp .NotIn) (rInL X.K true) := by
  intro pins s σ H x y v u Q I rx ry h
  obtain ⟨d, ds, hd, he, sd, se, q⟩ := h
  rw [Bool.true_bne] at q
  exact op_notInD hu pins s σ H x y v u Q I rx ry ⟨d, ds, hd, he, sd, se, q⟩
theorem op_inX (hu : X.A.units + 1 < cLine) : OpR X (compareOp .In) (rInX false) := by
  intro pins s σ H x y v u Q I rx ry h
  obtain ⟨a, o, rfl, g, q⟩ := h
  rw [Bool.false_bne] at q
  obtain rfl : u = Value.ref a := ry
  exact d_in hu I g rx fun s3 I3 => ⟨.bl o.isSome, H, I3, rfl, q⟩
theorem op_ninX (hu : X.A.units + 1 < cLine) : OpR X (compareOp .NotIn) (rInX true) := by
  intro pins s σ H x y v u Q I rx ry h
  obtain ⟨a, o, rfl, g, q⟩ := h
  rw [Bool.true_bne] at q
  obtain rfl : u = Value.ref a := ry
  exact d_notIn hu I g rx fun s3 I3 => ⟨.bl (!o.isSome), H, I3, rfl, q⟩
theorem op_inS : OpR X (compareOp .In) (rInS false) := by
  intro pins s σ H x y v u Q I rx ry h
  obtain ⟨c, z, rfl, rfl, q⟩ := h
  rw [Bool.false_bne] at q
  exact op_in_sign pins s σ H _ _ v u Q I rx ry ⟨c, z, rfl, rfl, q⟩
theorem op_ninS : OpR X (compareOp .NotIn) (rInS true) := by
  intro pins s σ H x y v u Q I rx ry h
  obtain ⟨c, z, rfl, rfl, q⟩ := h
  rw [Bool.true_bne] at q
  exact op_notIn_sign pins s σ H _ _ v u Q I rx ry ⟨c, z, rfl, rfl, q⟩
theorem op_inAll (hu : X.A.units + 65 < cLine) : OpR X (compareOp .In) (rInAll X.K false) :=
  op_inS.or (op_in_seq.or ((op_inT hu).or ((op_inL hu).or (op_inX (by omega)))))
theorem op_ninAll (hu : X.A.units + 65 < cLine) : OpR X (compareOp .NotIn) (rInAll X.K true) :=
  op_ninS.or (op_notIn_seq.or ((op_ninT hu).or ((op_ninL hu).or (op_ninX (by omega)))))
open Classical in
theorem mem_of {neg : Bool} {a b : D} {x y : V} {c : Bool} (rh : RH X.K X.mg X.w η H h) (ra : RD X.K η H a x) (rb : RD X.K η H b y) (e : memD a b h = some c) (q : Q (.bl (neg != c)) H) : rInAll X.K neg x y H Q := by
  have lists : ∀ {b : D}, RD X.K η H b y → (match lstOf b h with
    | some l => if (flatD a = true ∧ l.all flatD = true) ∨ (CmpOk a ∧ CmpOk (.lst l)) then some (l.any fun z => eqvD z a) else none
    | none => match dicOf b h with
      | some l => if (keyD a).isSome then some (lookD l a).isSome else none
      | none => none) = some c → rInAll X.K neg x y H Q := by
    intro b rb e
    split at e
    · rename_i l el
      obtain ⟨p, xs, rfl, qp, t⟩ := lstOf_of rh rb el
      split at e
      · rename_i hc
        cases e
        rcases hc with hc | hc
        · refine .inr (.inl ⟨p, xs, rfl, .inl (.of qp), flat_of hc.1 ra, flats_of hc.2 t, ?_⟩)
          rw [inV_of hc.1 ra hc.2 t]
          cases neg <;> simpa using q
        · refine .inr (.inr (.inr (.inl ⟨toPy a, toPys l, dp_of a x hc.1.1 ra, .lst (.of qp) (dps_of l xs hc.2.1 t), shaped_of hc.1, shaped_of hc.2, ?_⟩)))
          rw [any_toPys]
          exact q
      · cases e
    · split at e
      · rename_i l el
        obtain ⟨p, xs, rfl, qp, t⟩ := dicOf_of rh rb el
        split at e
        · rename_i hk
          cases e
          obtain ⟨k', ek⟩ := Option.isSome_iff_exists.mp hk
          have z := lookD_of ek t
          refine .inr (.inr (.inr (.inr ⟨p, valV xs k', rfl, ?_, ?_⟩)))
          · rw [keyD_of ek ra]
            exact DGet.k qp
          · split at z
            · rename_i d ed
              obtain ⟨v, ev, _⟩ := z
              rw [ed] at q
              rw [ev]
              exact q
            · rename_i ed
              rw [ed] at q
              rw [z]
              exact q
        · cases e
      · cases e
  unfold memD at e
  split at e
  · rename_i z
    split at e
    · rename_i w
      cases eo : oneS w with
      | none => rw [eo] at e; cases e
      | some n =>
        rw [eo] at e
        cases e
        cases ra
        cases rb
        refine .inl ⟨n, z, by rw [oneS_eq eo], rfl, ?_⟩
        exact q
    · cases e
  · rename_i l
    split at e
    · rename_i hc
      cases e
      rcases hc with hc | hc
      · obtain ⟨p, xs, rfl, qp, t⟩ := rb
        refine .inr (.inl ⟨p, xs, rfl, .inr qp, flat_of hc.1 ra, flats_of hc.2 t, ?_⟩)
        rw [inV_of hc.1 ra hc.2 t]
        cases neg <;> simpa using q
      · refine .inr (.inr (.inl ⟨toPy a, toPys l, dp_of a x hc.1.1 ra, dp_of (.tup l) y hc.2.1 rb, shaped_of hc.1, shaped_of hc.2, ?_⟩))
        rw [any_toPys]
        exact q
    · cases e
  · exact lists rb e
theorem od_in : OpD X W (rInAll X.K false) inD := by
  intro σ η H h a b x y Q rh ra rb p
  unfold inD at p
  split at p
  · rename_i c ec
    exact mem_of rh ra rb ec (by rw [Bool.false_bne]; exact Po.scal p rh rfl)
  · exact p.elim
theorem od_nin : OpD X W (rInAll X.K true) ninD := by
  intro σ η H h a b x y Q rh ra rb p
  unfold ninD at p
  split at p
  · rename_i c ec
    exact mem_of rh ra rb ec (by rw [Bool.true_bne]; exact Po.scal p rh rfl)
  · exact p.elim

/-! ### subscripts -/
theorem atI_rds {K : PySem.W.Frag} {l : List D} {xs : List V} {i : Int} {d : D} (t : RDs K η H l xs) (e : atI l i = some d) : ∃ v, atI xs i = some v ∧ RD K η H d v := by
  unfold atI at e ⊢
  rw [t.length]
  cases q : ixN l.length i with
  | none => rw [q] at e; cases e
  | some j =>
    rw [q] at e
    exact t.get e
def ixD (a b : D) (h : Hh) : Res D := match a with
  | .str z => match b with
    | .int i => if z.length ≤ sizeLine then (match atI z.cps.toList i with
      | some c => .ok (.str ⟨#[c]⟩) h
      | none => .stuck) else .stuck
    | _ => .stuck
  | .tup l => match b with
    | .int i => (match atI l i with
      | some d => .ok d h
      | none => .stuck)
    | _ => .stuck
  | .scr l => match b with
    | .int i => (match atI l i with
      | some d => .ok (.int d) h
      | none => .stuck)
    | _ => .stuck
  | a => match lstOf a h with
    | some l => (match b with
      | .int i => (match atI l i with
        | some d => .ok d h
        | none => .stuck)
      | _ => .stuck)
    | none => match dicOf a h with
      | some l => if (keyD b).isSome then (match lookD l b with
        | some d => .ok d h
        | none => .stuck) else .stuck
      | none => .stuck
def rIxX : R2 := fun x y H Q => ∃ a v, x = .ref a ∧ DGet H a y (some v) ∧ Q v H
theorem ix_dic (hu : X.A.units + 1 < cLine) : IxR X rIxX := by
  intro value slice pins s σ H x y v u Q I rx ry h hs
  obtain ⟨a, w, rfl, g, q⟩ := h
  obtain rfl : v = Value.ref a := rx
  exact tail_any (dict_typeIs I g) PySem.F.slot_dict_getitem.lookup (d_getItem hu I g ry fun w' s3 I3 rw' => ⟨w, H, I3, rw', q⟩) hs
def rIxAll (K : PySem.W.Frag) : R2 := fun x y H Q => rIx K x y H Q ∨ rIxX x y H Q
theorem ix_all (hu : X.A.units + 1 < cLine) : IxR X (rIxAll X.K) := ix_seq.or (ix_dic hu)
theorem sqL_scr {K : PySem.W.Frag} {l : List Int} {a : Addr} (h : (¬ η.In a ∧ Rd H a (.lst (l.map V.int))) ∨ ∀ H, SqL K H a (l.map V.int)) : SqL K H a (l.map V.int) := by
  rcases h with h | h
  · exact .inl h.2
  · exact h H
theorem od_ix : OpD X W (rIxAll X.K) ixD := by
  intro σ η H h a b x y Q rh ra rb p
  unfold ixD at p
  split at p
  · rename_i z
    split at p
    · rename_i i
      split at p
      · rename_i hz
        split at p
        · rename_i c ec
          cases ra; cases rb
          exact .inl (.inr (.inr ⟨z, i, c, rfl, rfl, hz, ec, Po.scal p rh rfl⟩))
        · exact p.elim
      · exact p.elim
    · exact p.elim
  · rename_i l
    split at p
    · rename_i i
      split at p
      · rename_i d ed
        cases rb
        obtain ⟨c, xs, rfl, s, t⟩ := ra
        obtain ⟨v, ev, r⟩ := atI_rds t ed
        exact .inl (.inr (.inl ⟨c, xs, i, v, rfl, rfl, s, ev, Po.scal p rh r⟩))
      · exact p.elim
    · exact p.elim
  · rename_i l
    split at p
    · rename_i i
      split at p
      · rename_i d ed
        cases rb
        obtain ⟨c, rfl, s⟩ := ra
        refine .inl (.inl ⟨c, l.map V.int, i, .int d, rfl, rfl, sqL_scr s, ?_, Po.scal p rh rfl⟩)
        unfold atI at ed ⊢
        rw [List.length_map]
        cases q : ixN l.length i with
        | none => rw [q] at ed; cases ed
        | some j =>
          rw [q] at ed
          show (l.map V.int)[j]? = _
          have ed : l[j]? = some d := ed
          rw [List.getElem?_map, ed]
          rfl
      · exact p.elim
    · exact p.elim
  · split at p
    · rename_i l el
      split at p
      · rename_i i
        split at p
        · rename_i d ed
          cases rb
          obtain ⟨c, xs, rfl, s, t⟩ := lstOf_of rh ra el
          obtain ⟨v, ev, r⟩ := atI_rds t ed
          exact .inl (.inl ⟨c, xs, i, v, rfl, rfl, .of s, ev, Po.scal p rh r⟩)
        · exact p.elim
      · exact p.elim
    · split at p
      · rename_i l el
        split at p
        · rename_i hk
          split at p
          · rename_i d ed
            obtain ⟨c, xs, rfl, s, t⟩ := dicOf_of rh ra el
            obtain ⟨k', ek⟩ := Option.isSome_iff_exists.mp hk
            have z := lookD_of ek t
            rw [ed] at z
            obtain ⟨v, ev, r⟩ := z
            refine .inr ⟨c, v, rfl, ?_, Po.scal p rh r⟩
            rw [keyD_of ek rb, ← ev]
            exact DGet.k s
          · exact p.elim
        · exact p.elim
      · exact p.elim

/-! ### slices -/
def cutD (l : List D) (lo hi : Option Int) : List D := (l.drop (HT.sIx l.length 0 lo)).take (HT.sIx l.length l.length hi - HT.sIx l.length 0 lo)
theorem cutD_of {K : PySem.W.Frag} {l : List D} {xs : List V} (t : RDs K η H l xs) (lo hi : Option Int) : RDs K η H (cutD l lo hi) (cutV xs lo hi) := by
  unfold cutD cutV
  rw [t.length]
  exact (t.drop _).take _
theorem cutD_all {l : List D} {lo hi : Option Int} (h : HT.sIx l.length 0 lo = 0 ∧ HT.sIx l.length l.length hi = l.length) : cutD l lo hi = l := by
  unfold cutD
  rw [h.1, h.2]
  simp
def slD (a : D) (lo hi : Option Int) (h : Hh) : Res D := match a with
  | .str z => if z.length ≤ sizeLine then .ok (.str (cutS z lo hi)) h else .stuck
  | .tup l => .ok (.tup (cutD l lo hi)) h
  | a => match lstOf a h with
    | some l => .ok (.lst (cutD l lo hi)) h
    | none => .stuck
def rSlAll (K : PySem.W.Frag) : V → Option Int → Option Int → Hp → VK → Prop := fun x lo hi H Q => rSlS x lo hi H Q ∨ rSlA K x lo hi H Q ∨ rSlL K x lo hi H Q
theorem sl_all : SlR X (rSlAll X.K) := sl_str.or (sl_tupA.or sl_list)
theorem sd_sl : SlD X W (rSlAll X.K) slD := by
  intro σ η H h a x lo hi Q rh ra p
  unfold slD at p
  split at p
  · rename_i z
    split at p
    · rename_i hz
      cases ra
      exact .inl ⟨z, rfl, hz, Po.scal p rh rfl⟩
    · exact p.elim
  · rename_i l
    have ra' := ra
    obtain ⟨c, xs, rfl, s, t⟩ := ra
    refine .inr (.inl ⟨c, xs, rfl, s, fun e => ?_, fun _ q n => Po.newT p rh (cutD_of t lo hi) q n⟩)
    rw [t.length] at e
    rw [cutD_all e] at p
    exact Po.scal p rh ra'
  · split at p
    · rename_i l el
      obtain ⟨c, xs, rfl, s, t⟩ := lstOf_of rh ra el
      exact .inr (.inr ⟨c, xs, rfl, .of s, fun q n => Po.newF p rh (cutD_of t lo hi) q n⟩)
    · exact p.elim

/-! ### built-in functions -/
def lenD (a : List D) (h : Hh) : Res D := match a with
  | [.str z] => if z.length ≤ sizeLine then .ok (.int z.length) h else .stuck
  | [.tup l] => .ok (.int l.length) h
  | [.scr l] => .ok (.int l.length) h
  | [a] => match lstOf a h with
    | some l => .ok (.int l.length) h
    | none => match dicOf a h with
      | some l => .ok (.int l.length) h
      | none => .stuck
  | _ => .stuck
def rLenAll (K : PySem.W.Frag) : List V → Hp → VK → Prop := fun xs H Q => (∃ z, xs = [.str z] ∧ z.length ≤ sizeLine ∧ Q (.int z.length) H) ∨ (∃ p ys, xs = [.ref p] ∧ (SqL K H p ys ∨ SqT K H p ys) ∧ Q (.int ys.length) H) ∨
  (∃ d kvs, xs = [.ref d] ∧ H d = some (.dK kvs) ∧ Q (.int kvs.length) H)
theorem rds1 {K : PySem.W.Frag} {a : D} {xs : List V} (r : RDs K η H [a] xs) : ∃ v, xs = [v] ∧ RD K η H a v := by
  obtain ⟨x, t, rfl, q, e⟩ := r
  cases e
  exact ⟨x, rfl, q⟩
theorem rds2 {K : PySem.W.Frag} {a b : D} {xs : List V} (r : RDs K η H [a, b] xs) : ∃ v w, xs = [v, w] ∧ RD K η H a v ∧ RD K η H b w := by
  obtain ⟨x, t, rfl, q, y, u, rfl, q2, e⟩ := r
  cases e
  exact ⟨x, y, rfl, q, q2⟩
theorem rks_length {K : PySem.W.Frag} : ∀ {l : List (D × D)} {xs : List (Key × V)}, RKs K η H l xs → xs.length = l.length
  | [], _, h => by cases h; rfl
  | (k, d) :: l, xs, h => by
    obtain ⟨k', x, r, rfl, _, _, t⟩ := h
    rw [List.length_cons, List.length_cons, rks_length t]
theorem call_lenAll : CallR X (.builtin "len") (rLenAll X.K) := call_len_str.or (call_len_seq.or (by
  intro pins s σ H xs us Q I r h
  obtain ⟨d, kvs, rfl, e, q⟩ := h
  exact call_lenD pins s σ H _ us Q I r ⟨d, kvs, rfl, e, q⟩))
theorem cd_len : CallD X W (rLenAll X.K) lenD := by
  intro σ η H h a x Q rh ra p
  unfold lenD at p
  split at p
  · rename_i z
    obtain ⟨v, rfl, r⟩ := rds1 ra
    split at p
    · rename_i hz
      cases r
      exact .inl ⟨z, rfl, hz, Po.scal p rh rfl⟩
    · exact p.elim
  · rename_i l
    obtain ⟨v, rfl, c, xs, rfl, s, t⟩ := rds1 ra
    exact .inr (.inl ⟨c, xs, rfl, .inr s, by rw [t.length]; exact Po.scal p rh rfl⟩)
  · rename_i l
    obtain ⟨v, rfl, c, rfl, s⟩ := rds1 ra
    refine .inr (.inl ⟨c, _, rfl, .inl (sqL_scr s), ?_⟩)
    rw [List.length_map]
    exact Po.scal p rh rfl
  · obtain ⟨v, rfl, r⟩ := rds1 ra
    split at p
    · rename_i l el
      obtain ⟨c, xs, rfl, s, t⟩ := lstOf_of rh r el
      exact .inr (.inl ⟨c, xs, rfl, .inl (.of s), by rw [t.length]; exact Po.scal p rh rfl⟩)
    · split at p
      · rename_i l el
        obtain ⟨c, xs, rfl, s, t⟩ := dicOf_of rh r el
        exact .inr (.inr ⟨c, xs, rfl, s, by rw [rks_length t]; exact Po.scal p rh rfl⟩)
      · exact p.elim
  · exact p.elim
/-- a list or tuple that is read -/
def seqOf (d : D) (h : Hh) : Option (List D) := match d with
  | .tup l => some l
  | d => lstOf d h
theorem seqOf_of {d : D} {v : V} {l : List D} (rh : RH X.K X.mg X.w η H h) (r : RD X.K η H d v) (e : seqOf d h = some l) : ∃ a xs, v = .ref a ∧ (SqL X.K H a xs ∨ SqT X.K H a xs) ∧ RDs X.K η H l xs := by
  unfold seqOf at e
  split at e
  · cases e
    obtain ⟨a, xs, e1, q, t⟩ := r
    exact ⟨a, xs, e1, .inr q, t⟩
  · obtain ⟨a, xs, e1, q, t⟩ := lstOf_of rh r e
    exact ⟨a, xs, e1, .inl (.of q), t⟩
def tupleD (a : List D) (h : Hh) : Res D := match a with
  | [.tup l] => .ok (.tup l) h
  | [a] => match lstOf a h with
    | some l => .ok (.tup l) h
    | none => .stuck
  | _ => .stuck
theorem cd_tuple : CallD X W (fun xs H Q => ∃ p ys, xs = [.ref p] ∧ ((SqL X.K H p ys ∧ ∀ l, H l = none → Q (.ref l) (upd H l (.tup ys))) ∨ (SqT X.K H p ys ∧ Q (.ref p) H))) tupleD := by
  intro σ η H h a x Q rh ra p
  unfold tupleD at p
  split at p
  · rename_i l
    obtain ⟨v, rfl, r⟩ := rds1 ra
    have r' := r
    obtain ⟨c, xs, rfl, s, t⟩ := r
    exact ⟨c, xs, rfl, .inr ⟨s, Po.scal p rh r'⟩⟩
  · obtain ⟨v, rfl, r⟩ := rds1 ra
    split at p
    · rename_i l el
      obtain ⟨c, xs, rfl, s, t⟩ := lstOf_of rh r el
      exact ⟨c, xs, rfl, .inl ⟨.of s, fun q n => Po.newT p rh t q n⟩⟩
    · exact p.elim
  · exact p.elim
def listD (a : List D) (h : Hh) : Res D := match a with
  | [a] => match seqOf a h with
    | some l => .ok (.lst l) h
    | none => .stuck
  | _ => .stuck
/-- a list that will change -/
def listM (a : List D) (h : Hh) : Res D := match a with
  | [a] => match seqOf a h with
    | some l => newL l h
    | none => .stuck
  | _ => .stuck
theorem cd_list : CallD X W (fun xs H Q => ∃ p ys, xs = [.ref p] ∧ (SqL X.K H p ys ∨ SqT X.K H p ys) ∧ ∀ l, H l = none → Q (.ref l) (upd H l (.lst ys))) listD := by
  intro σ η H h a x Q rh ra p
  unfold listD at p
  split at p
  · obtain ⟨v, rfl, r⟩ := rds1 ra
    split at p
    · rename_i l el
      obtain ⟨c, xs, rfl, s, t⟩ := seqOf_of rh r el
      exact ⟨c, xs, rfl, s, fun q n => Po.newF p rh t q n⟩
    · exact p.elim
  · exact p.elim
theorem cd_listM : CallD X W (fun xs H Q => ∃ p ys, xs = [.ref p] ∧ (SqL X.K H p ys ∨ SqT X.K H p ys) ∧ ∀ l, H l = none → Q (.ref l) (upd H l (.lst ys))) listM := by
  intro σ η H h a x Q rh ra p
  unfold listM at p
  split at p
  · obtain ⟨v, rfl, r⟩ := rds1 ra
    split at p
    · rename_i l el
      obtain ⟨c, xs, rfl, s, t⟩ := seqOf_of rh r el
      exact ⟨c, xs, rfl, s, fun q n => Po.newM p rh t q n⟩
    · exact p.elim
  · exact p.elim
def absD (a : List D) (h : Hh) : Res D := match a with
  | [.int i] => .ok (.int (if i < 0 then -i else i)) h
  | _ => .stuck
theorem cd_abs : CallD X W (fun xs H Q => ∃ i, xs = [.int i] ∧ Q (.int (if i < 0 then -i else i)) H) absD := by
  intro σ η H h a x Q rh ra p
  unfold absD at p
  split at p
  · rename_i i
    obtain ⟨v, rfl, r⟩ := rds1 ra
    cases r
    exact ⟨i, rfl, Po.scal p rh rfl⟩
  · exact p.elim
def max2D (a : List D) (h : Hh) : Res D := match a with
  | [.int i, .int j] => .ok (.int (if j > i then j else i)) h
  | _ => .stuck
theorem cd_max2 : CallD X W (fun xs H Q => ∃ i j, xs = [.int i, .int j] ∧ Q (.int (if j > i then j else i)) H) max2D := by
  intro σ η H h a x Q rh ra p
  unfold max2D at p
  split at p
  · rename_i i j
    obtain ⟨v, w, rfl, r, r2⟩ := rds2 ra
    cases r; cases r2
    exact ⟨i, j, rfl, Po.scal p rh rfl⟩
  · exact p.elim
def min2D (a : List D) (h : Hh) : Res D := match a with
  | [.int i, .int j] => .ok (.int (if j < i then j else i)) h
  | _ => .stuck
theorem cd_min2 : CallD X W (fun xs H Q => ∃ i j, xs = [.int i, .int j] ∧ Q (.int (if j < i then j else i)) H) min2D := by
  intro σ η H h a x Q rh ra p
  unfold min2D at p
  split at p
  · rename_i i j
    obtain ⟨v, w, rfl, r, r2⟩ := rds2 ra
    cases r; cases r2
    exact ⟨i, j, rfl, Po.scal p rh rfl⟩
  · exact p.elim
def intD (a : List D) (h : Hh) : Res D := match a with
  | [.int i] => .ok (.int i) h
  | [.bl b] => .ok (.int (if b = true then 1 else 0)) h
  | [.str x] => if x.length ≤ 640 then (match intText? x with
    | some n => .ok (.int n) h
    | none => .stuck) else .stuck
  | _ => .stuck
def rIntAll : List V → Hp → VK → Prop := fun xs H Q => ((∃ i, xs = [.int i] ∧ Q (.int i) H) ∨ ∃ k, xs = [.bl k] ∧ Q (.int (if k then 1 else 0)) H) ∨ ∃ a n, xs = [.str a] ∧ PySem.intText? a = some n ∧ a.length ≤ 640 ∧ Q (.int n) H
theorem call_intAll : CallR X (.type "int") rIntAll := call_int1.or call_int_str
theorem cd_int : CallD X W rIntAll intD := by
  intro σ η H h a x Q rh ra p
  unfold intD at p
  split at p
  · rename_i i
    obtain ⟨v, rfl, r⟩ := rds1 ra
    cases r
    exact .inl (.inl ⟨i, rfl, Po.scal p rh rfl⟩)
  · rename_i b
    obtain ⟨v, rfl, r⟩ := rds1 ra
    cases r
    exact .inl (.inr ⟨b, rfl, Po.scal p rh rfl⟩)
  · rename_i z
    obtain ⟨v, rfl, r⟩ := rds1 ra
    split at p
    · rename_i hz
      split at p
      · rename_i n en
        cases r
        exact .inr ⟨z, n, rfl, en, hz, Po.scal p rh rfl⟩
      · exact p.elim
    · exact p.elim
  · exact p.elim
def strD (a : List D) (h : Hh) : Res D := match a with
  | [.int i] => if i.natAbs.log2 < 1920 then .ok (.str (toString i)) h else .stuck
  | [.str x] => .ok (.str x) h
  | _ => .stuck
def rStrAll : List V → Hp → VK → Prop := fun xs H Q => (∃ i, xs = [.int i] ∧ i.natAbs.log2 < 1920 ∧ Q (.str (toString i)) H) ∨ ∃ a, xs = [.str a] ∧ Q (.str a) H
theorem call_strAll : CallR X (.type "str") rStrAll := call_str_int.or SkE.call_str_str
theorem cd_str : CallD X W rStrAll strD := by
  intro σ η H h a x Q rh ra p
  unfold strD at p
  split at p
  · rename_i i
    obtain ⟨v, rfl, r⟩ := rds1 ra
    split at p
    · rename_i hz
      cases r
      exact .inl ⟨i, rfl, hz, Po.scal p rh rfl⟩
    · exact p.elim
  · obtain ⟨v, rfl, r⟩ := rds1 ra
    cases r
    exact .inr ⟨_, rfl, Po.scal p rh rfl⟩
  · exact p.elim
/-- sum of a list of ints -/
def sumD (a : List D) (h : Hh) : Res D := match a with
  | [a] => match (lstOf a h).bind intsOf with
    | some l => .ok (.int l.sum) h
    | none => .stuck
  | _ => .stuck
theorem ints_of {d : D} {v : V} {l : List Int} (rh : RH X.K X.mg X.w η H h) (r : RD X.K η H d v) (e : (lstOf d h).bind intsOf = some l) : ∃ a, v = .ref a ∧ H a = some (.lst (l.map V.int)) := by
  cases q : lstOf d h with
  | none => rw [q] at e; cases e
  | some m =>
    rw [q] at e
    obtain ⟨a, xs, rfl, s, t⟩ := lstOf_of rh r q
    rw [intsOf_eq e] at t
    rw [t.ints] at s
    exact ⟨a, rfl, s⟩
theorem cd_sum : CallD X W (rSum X.K) sumD := by
  intro σ η H h a x Q rh ra p
  unfold sumD at p
  split at p
  · obtain ⟨v, rfl, r⟩ := rds1 ra
    split at p
    · rename_i l el
      obtain ⟨c, rfl, s⟩ := ints_of rh r el
      exact ⟨c, l, rfl, .of s, Po.scal p rh rfl⟩
    · exact p.elim
  · exact p.elim
def blsOf : List D → Option (List Bool)
  | [] => some []
  | .bl i :: l => (blsOf l).map (i :: ·)
  | _ :: _ => none
theorem blsOf_map (l : List Bool) : blsOf (l.map D.bl) = some l := by
  induction l with
  | nil => rfl
  | cons i l ih => rw [List.map_cons, blsOf, ih]; rfl
theorem blsOf_eq : ∀ {l : List D} {ns : List Bool}, blsOf l = some ns → l = ns.map D.bl
  | [], ns, e => by cases e; rfl
  | d :: l, ns, e => by
    cases d with
    | bl i =>
      unfold blsOf at e
      cases q : blsOf l with
      | none => rw [q] at e; cases e
      | some m =>
        rw [q] at e
        cases e
        rw [blsOf_eq q]
        rfl
    | _ => cases e
theorem RDs.bls {K : PySem.W.Frag} : ∀ {l : List Bool} {xs : List V}, RDs K η H (l.map D.bl) xs → xs = l.map V.bl
  | [], _, h => h
  | i :: l, xs, h => by
    obtain ⟨x, r, rfl, q, t⟩ := h
    rw [RDs.bls t, q]
    rfl
/-- any of a list of bools -/
def anyD (a : List D) (h : Hh) : Res D := match a with
  | [a] => match (lstOf a h).bind blsOf with
    | some l => .ok (.bl (l.any id)) h
    | none => .stuck
  | _ => .stuck
theorem bls_of {d : D} {v : V} {l : List Bool} (rh : RH X.K X.mg X.w η H h) (r : RD X.K η H d v) (e : (lstOf d h).bind blsOf = some l) : ∃ a, v = .ref a ∧ H a = some (.lst (l.map V.bl)) := by
  cases q : lstOf d h with
  | none => rw [q] at e; cases e
  | some m =>
    rw [q] at e
    obtain ⟨a, xs, rfl, s, t⟩ := lstOf_of rh r q
    rw [blsOf_eq e] at t
    rw [RDs.bls t] at s
    exact ⟨a, rfl, s⟩
theorem cd_any : CallD X W (rAny X.K) anyD := by
  intro σ η H h a x Q rh ra p
  unfold anyD at p
  split at p
  · obtain ⟨v, rfl, r⟩ := rds1 ra
    split at p
    · rename_i l el
      obtain ⟨c, rfl, s⟩ := bls_of rh r el
      exact ⟨c, l, rfl, .of s, Po.scal p rh rfl⟩
    · exact p.elim
  · exact p.elim
/-- the order of ints, put in -/
def insI (x : Int) : List Int → List Int
  | [] => [x]
  | y :: l => if x ≤ y then x :: y :: l else y :: insI x l
def sortI : List Int → List Int
  | [] => []
  | x :: l => insI x (sortI l)
theorem insI_perm (x : Int) : ∀ l, (insI x l).Perm (x :: l)
  | [] => .refl _
  | y :: l => by
    unfold insI
    split
    · exact .refl _
    · exact ((insI_perm x l).cons y).trans (.swap x y l)
theorem sortI_perm : ∀ l, (sortI l).Perm l
  | [] => .refl _
  | x :: l => (insI_perm x _).trans ((sortI_perm l).cons x)
theorem insI_sorted (x : Int) : ∀ l, l.Pairwise (· ≤ ·) → (insI x l).Pairwise (· ≤ ·)
  | [], _ => by simp [insI]
  | y :: l, h => by
    have h' := List.pairwise_cons.mp h
    unfold insI
    split
    · rename_i hxy
      exact List.pairwise_cons.mpr ⟨fun z hz => by
        rcases List.mem_cons.mp hz with e | hz
        · rw [e]; exact hxy
        · exact Int.le_trans hxy (h'.1 z hz), h⟩
    · rename_i hxy
      refine List.pairwise_cons.mpr ⟨fun z hz => ?_, insI_sorted x l h'.2⟩
      rcases List.mem_cons.mp ((insI_perm x l).mem_iff.mp hz) with e | hz
      · rw [e]; omega
      · exact h'.1 z hz
theorem sortI_sorted : ∀ l, (sortI l).Pairwise (· ≤ ·)
  | [] => .nil
  | x :: l => insI_sorted x _ (sortI_sorted l)
theorem sorted_uniq : ∀ {l m : List Int}, l.Perm m → l.Pairwise (· ≤ ·) → m.Pairwise (· ≤ ·) → l = m
  | [], m, p, _, _ => (List.Perm.nil_eq p)
  | x :: l, m, p, h1, h2 => by
    cases m with
    | nil => exact absurd p.length_eq (by simp)
    | cons y m =>
      have a1 := List.pairwise_cons.mp h1
      have a2 := List.pairwise_cons.mp h2
      have e : x = y := by
        have m1 := p.mem_iff.mp (List.mem_cons_self (a := x) (l := l))
        have m2 := p.mem_iff.mpr (List.mem_cons_self (a := y) (l := m))
        rcases List.mem_cons.mp m1 with e | m1
        · exact e
        · rcases List.mem_cons.mp m2 with e | m2
          · exact e.symm
          · exact Int.le_antisymm (a1.1 y m2) (a2.1 x m1)
      subst e
      rw [sorted_uniq (List.Perm.cons_inv p) a1.2 a2.2]
/-- sorted of a list of ints -/
def sortedD (a : List D) (h : Hh) : Res D := match a with
  | [a] => match (lstOf a h).bind intsOf with
    | some l => .ok (.lst ((sortI l).map D.int)) h
    | none => .stuck
  | _ => .stuck
theorem cd_sorted : CallD X W (rSortedI X.K) sortedD := by
  intro σ η H h a x Q rh ra p
  unfold sortedD at p
  split at p
  · obtain ⟨v, rfl, r⟩ := rds1 ra
    split at p
    · rename_i l el
      obtain ⟨c, rfl, s⟩ := ints_of rh r el
      refine ⟨c, l, rfl, .of s, fun ns' q e1 e2 n => ?_⟩
      rw [sorted_uniq (e1.trans (sortI_perm l).symm) e2 (sortI_sorted l)]
      exact Po.newF p rh (RDs.of_ints _) q n
    · exact p.elim
  · exact p.elim

/-! ### isinstance -/
def kindD (d : D) (h : Hh) : Option String := match d with
  | .non => some "NoneType"
  | .bl _ => some "bool"
  | .int _ => some "int"
  | .str _ => some "str"
  | .tup _ => some "tuple"
  | .lst _ => some "list"
  | d => match lstOf d h with
    | some _ => some "list"
    | none => none
def isinD (a : List D) (h : Hh) : Res D := match a with
  | [d, .ty T] => match kindD d h with
    | some k => match kitB k T with
      | some b => .ok (.bl b) h
      | none => .stuck
    | none => .stuck
  | _ => .stuck
theorem kind_of {d : D} {v : V} {k : String} (rh : RH X.K X.mg X.w η H h) (r : RD X.K η H d v) (e : kindD d h = some k) : TyX X.K H v (.type k) := by
  unfold kindD at e
  split at e
  · cases e; cases r; exact .base .non
  · cases e; cases r; exact .base (.bl _)
  · cases e; cases r; exact .base (.int _)
  · cases e; cases r; exact .base (.str _)
  · cases e
    obtain ⟨a, xs, rfl, s, t⟩ := r
    rcases s with (s | ⟨o, s⟩) | ⟨o, its, n, s, c, _⟩
    · exact .base (.tup s)
    · exact .fTuple s
    · exact .kTuple s c
  · cases e
    obtain ⟨a, xs, rfl, s, t⟩ := r
    exact .base (.lst s)
  · split at e
    · rename_i l el
      cases e
      obtain ⟨a, xs, rfl, s, t⟩ := lstOf_of rh r el
      exact .base (.lst s)
    · cases e
theorem cd_isin : CallD X W (rIsi X.K) isinD := by
  intro σ η H h a x Q rh ra p
  unfold isinD at p
  split at p
  · rename_i d T
    obtain ⟨v, w', rfl, r, r2⟩ := rds2 ra
    cases r2
    split at p
    · rename_i k ek
      split at p
      · rename_i b eb
        exact ⟨v, .ty T, .type k, .type T, b, rfl, .ty T, kind_of rh r ek, kit_ty eb, Po.scal p rh rfl⟩
      · exact p.elim
    · exact p.elim
  · exact p.elim

/-! ### methods of lists -/
def isLst (d : D) (h : Hh) : Prop := (lstOf d h).isSome = true
theorem ty_lst : TyD X "list" isLst := by
  intro η H h a x rh ra e
  obtain ⟨l, el⟩ := Option.isSome_iff_exists.mp e
  obtain ⟨p, xs, rfl, s, t⟩ := lstOf_of rh ra el
  exact .inl ⟨rfl, xs, .of s⟩
/-- the mutable list at n -/
def mlOf (d : D) (h : Hh) : Option (Nat × List D) := match d with
  | .ref n => match h[n]? with
    | some (.lst l) => some (n, l)
    | _ => none
  | _ => none
theorem mlOf_of {d : D} {v : V} {n : Nat} {l : List D} (rh : RH X.K X.mg X.w η H h) (r : RD X.K η H d v) (e : mlOf d h = some (n, l)) : ∃ a xs, v = .ref a ∧ η.c[n]? = some a ∧ H a = some (.lst xs) ∧ RDs X.K η H l xs := by
  cases d with
  | ref m =>
    obtain ⟨a, ea, rfl⟩ := r
    unfold mlOf at e
    simp only at e
    split at e
    · rename_i l' em
      cases e
      obtain ⟨b, eb, xs, q, t⟩ := rh.addr em
      rw [ea] at eb
      cases eb
      exact ⟨a, xs, rfl, ea, q, t⟩
    · cases e
  | _ => cases e
/-- the list at n becomes l -/
theorem Po.setL {n : Nat} {a : Addr} {xs ys : List V} {l : List D} {d : D} {v : V} (p : Po X W (rD X) σ η H (.ok d (h.set n (.lst l))) Q) (rh : RH X.K X.mg X.w η H h) (ea : η.c[n]? = some a) (e : H a = some (.lst xs)) (t : RDs X.K η H l ys) (r : RD X.K η H d v) :
    Q v (upd H a (.lst ys)) :=
  have s : Step η H η (upd H a (.lst ys)) := rh.updS ea e trivial
  p v η _ s (rh.set ea e trivial ⟨ys, upd_same, t.step s⟩) (r.step s)
def appendD (a : D) (l : List D) (h : Hh) : Res D := match mlOf a h with
  | some (n, xs) => match l with
    | [d] => if xs.length < sizeLine then .ok .non (h.set n (.lst (xs ++ [d]))) else .stuck
    | _ => .stuck
  | none => .stuck
theorem md_append : MtD X W "list" rAppend appendD := by
  intro σ η H h a l x xs Q rh ra rl p
  unfold appendD at p
  split at p
  · rename_i n ys em
    obtain ⟨c, zs, rfl, ec, q, t⟩ := mlOf_of rh ra em
    split at p
    · rename_i d
      obtain ⟨v, rfl, r⟩ := rds1 rl
      split at p
      · rename_i hz
        exact ⟨c, zs, v, rfl, rfl, q, by rw [t.length]; exact hz, Po.setL p rh ec q (t.app ⟨v, [], rfl, r, rfl⟩) rfl⟩
      · exact p.elim
    · exact p.elim
  · exact p.elim
def extendD (a : D) (l : List D) (h : Hh) : Res D := match mlOf a h with
  | some (n, xs) => match l with
    | [d] => match lstOf d h with
      | some ys => if xs.length + ys.length ≤ sizeLine then .ok .non (h.set n (.lst (xs ++ ys))) else .stuck
      | none => .stuck
    | _ => .stuck
  | none => .stuck
theorem md_extend : MtD X W "list" rExtend extendD := by
  intro σ η H h a l x xs Q rh ra rl p
  unfold extendD at p
  split at p
  · rename_i n ys em
    obtain ⟨c, zs, rfl, ec, q, t⟩ := mlOf_of rh ra em
    split at p
    · rename_i d
      obtain ⟨v, rfl, r⟩ := rds1 rl
      split at p
      · rename_i ms el
        obtain ⟨b, ws, rfl, qb, tb⟩ := lstOf_of rh r el
        split at p
        · rename_i hz
          exact ⟨c, b, zs, ws, rfl, rfl, q, qb, by rw [t.length, tb.length]; exact hz, Po.setL p rh ec q (t.app tb) rfl⟩
        · exact p.elim
      · exact p.elim
    · exact p.elim
  · exact p.elim
theorem RDs.dropLast {K : PySem.W.Frag} {l : List D} {xs : List V} (t : RDs K η H l xs) : RDs K η H l.dropLast xs.dropLast := by
  rw [List.dropLast_eq_take, List.dropLast_eq_take, t.length]
  exact t.take _
def popD (a : D) (l : List D) (h : Hh) : Res D := match mlOf a h with
  | some (n, xs) => match l with
    | [] => match xs.getLast? with
      | some d => .ok d (h.set n (.lst xs.dropLast))
      | none => .stuck
    | _ => .stuck
  | none => .stuck
theorem md_pop : MtD X W "list" rPop popD := by
  intro σ η H h a l x xs Q rh ra rl p
  unfold popD at p
  split at p
  · rename_i n ys em
    obtain ⟨c, zs, rfl, ec, q, t⟩ := mlOf_of rh ra em
    split at p
    · cases rl
      split at p
      · rename_i d ed
        rw [List.getLast?_eq_getElem?] at ed
        obtain ⟨v, ev, r⟩ := t.get ed
        rw [← t.length] at ev
        exact ⟨c, zs, v, rfl, rfl, q, ev, Po.setL p rh ec q t.dropLast r⟩
      · exact p.elim
    · exact p.elim
  · exact p.elim
end
end Ev

/-! EvS: statements, loops. -/
namespace Ev
open PySem PySem.Spec PyProof.Rows L2

/-- where one stands well -/
structure GU (X : Cx) (W : WX) : Prop where
  tk : L2N.Takes X W
  po : PassesOwn (model X.prog X.w) X.A X.env X.xe
  nd : X.N.Nodup
  un : X.A.units + 65 < cLine
structure GX (X : Cx) (W : WX) : Prop extends GU X W where
  calm : X.calm = true
instance {X : Cx} {W : WX} : CoeOut (GX X W) (GU X W) := ⟨GX.toGU⟩

section
variable {X : Cx} {W : WX} {σ : L2.St} {η : Ad} {H : Hp} {h : Hh} {E : Ends} {e a b : Expr} {pos : Pos} {st : Stmt} {sts : List Stmt}

/-! ### blocks and the simple statements -/
def nilS : SS := fun ρ h => .nx ρ h
def seqS (a b : SS) : SS := fun ρ h => match a ρ h with
  | .nx ρ' h' => b ρ' h'
  | r => r
def exprS (m : EM D) : SS := fun ρ h => toS (m ρ h) ρ fun _ h1 => .nx ρ h1
def retS (m : EM D) : SS := fun ρ h => toS (m ρ h) ρ fun d h1 => .ret d h1
def retN : SS := fun _ h => .ret .non h
def brkS : SS := fun ρ h => .bk ρ h
def contS : SS := fun ρ h => .ct ρ h
def ifS (c : EM Bool) (a b : SS) : SS := fun ρ h => toS (c ρ h) ρ fun x h1 => if x = true then a ρ h1 else b ρ h1
theorem mb_nil : MB X W [] nilS := ⟨PSs.wk pss_nil fun E σ H q => by
  obtain ⟨ρ, η, h, rs, rh, p⟩ := q
  exact p σ η H (.refl _ _) rs rh⟩
theorem mb_cons {m n : SS} (h1 : MS X W st m) (h2 : MB X W sts n) : MB X W (st :: sts) (seqS m n) := ⟨PSs.wk (pss_cons h1.ps h2.ps) fun E σ H q => by
  obtain ⟨ρ, η, h, rs, rh, p⟩ := q
  refine ⟨ρ, η, h, rs, rh, ?_⟩
  unfold seqS at p
  cases em : m ρ h with
  | nx ρ1 h1 =>
    rw [em] at p
    exact fun σ' η' H' s r1 r2 => ⟨ρ1, η', h1, r1, r2, p.step s⟩
  | ret d h1 => rw [em] at p; exact p
  | bk ρ1 h1 => rw [em] at p; exact p
  | ct ρ1 h1 => rw [em] at p; exact p
  | rs c fs ρ1 h1 => rw [em] at p; exact p
  | stuck => rw [em] at p; exact p⟩
theorem mb_one {m : SS} (h1 : MS X W st m) : MB X W [st] m := ⟨PSs.wk (pss_one h1.ps) fun E σ H q => q⟩
theorem ms_expr {m : EM D} (he : ME X W e m) (hs : swapsWith e none pos.line X.env = pure false := by rfl) : MS X W (.Expr e pos) (exprS m) := ⟨PS.wk (ps_expr he.pe hs) fun E σ H q => by
  obtain ⟨ρ, η, h, rs, rh, p⟩ := q
  refine tM.mono (fun x H1 ⟨d, η1, h1, s1, r1, q1, p1⟩ => ?_) (PoS.seq (R1 := rD X) rs rh p)
  exact p1 σ η1 H1 (.refl _ _) (rs.step s1) r1⟩
theorem ms_doc {x : Str} {j} {pos' : Pos} : MS X W (.Expr (.Constant (.str x) j pos) pos') nilS := ⟨PS.wk ps_doc fun E σ H q => by
  obtain ⟨ρ, η, h, rs, rh, p⟩ := q
  exact p σ η H (.refl _ _) rs rh⟩
theorem ms_pass : MS X W (.Pass pos) nilS := ⟨PS.wk ps_pass fun E σ H q => by
  obtain ⟨ρ, η, h, rs, rh, p⟩ := q
  exact p σ η H (.refl _ _) rs rh⟩
theorem ms_break : MS X W (.Break pos) brkS := ⟨PS.wk ps_break fun E σ H q => by
  obtain ⟨ρ, η, h, rs, rh, p⟩ := q
  exact p σ η H (.refl _ _) rs rh⟩
theorem ms_continue : MS X W (.Continue pos) contS := ⟨PS.wk ps_continue fun E σ H q => by
  obtain ⟨ρ, η, h, rs, rh, p⟩ := q
  exact p σ η H (.refl _ _) rs rh⟩
theorem ms_ret {m : EM D} (he : ME X W e m) : MS X W (.Return (some e) pos) (retS m) := ⟨PS.wk (ps_ret he.pe) fun E σ H q => by
  obtain ⟨ρ, η, h, rs, rh, p⟩ := q
  refine tM.mono (fun x H1 ⟨d, η1, h1, s1, r1, q1, p1⟩ => ?_) (PoS.seq (R1 := rD X) rs rh p)
  exact p1 x η1 H1 (.refl _ _) r1 q1⟩
theorem ms_retN : MS X W (.Return none pos) retN := ⟨PS.wk ps_retN fun E σ H q => by
  obtain ⟨ρ, η, h, rs, rh, p⟩ := q
  exact p .non η H (.refl _ _) rh rfl⟩
theorem ms_if {c : Expr} {xs ys : List Stmt} {tc : EM Bool} {m n : SS} (hc : MT X W c tc) (ha : MB X W xs m) (hb : MB X W ys n) : MS X W (.If c xs ys pos) (ifS tc m n) := ⟨PS.wk (ps_if hc.pt ha.ps hb.ps) fun E σ H q => by
  obtain ⟨ρ, η, h, rs, rh, p⟩ := q
  refine tM.mono (fun x H1 ⟨d, η1, h1, s1, r1, q1, p1⟩ => ?_) (PoS.seq (R1 := rB) rs rh p)
  have q1 : d = x := q1
  subst q1
  cases d with
  | true => exact ⟨ρ, η1, h1, rs.step s1, r1, p1⟩
  | false => exact ⟨ρ, η1, h1, rs.step s1, r1, p1⟩⟩

/-! ### targets -/
abbrev GM := D → Env → Option Env
def tG (X : Cx) (g : GM) : TG := fun v σ H Q => ∃ ρ η h d, RS X.K η H σ ρ ∧ RH X.K X.mg X.w η H h ∧ RD X.K η H d v ∧
  match g d ρ with
  | some ρ' => ∀ σ', RS X.K η H σ' ρ' → Q σ' H
  | none => False
structure MG (X : Cx) (tg : Expr) (g : GM) : Prop where
  pg : PG X tg (tG X g)
theorem PG.wk {tg : Expr} {t t' : TG} (h : PG X tg t) (i : ∀ v σ H Q, t' v σ H Q → t v σ H Q) : PG X tg t' := ⟨fun pins s σ H v u Q I r q => h.run pins s σ H v u Q I r (i v σ H Q q)⟩
def gNm (i : Nat) : GM := fun d ρ => some (ρ.set i (some d))
theorem RS.set {K : PySem.W.Frag} {σ : L2.St} {ρ : Env} {d : D} {v : V} (i : Nat) (r : RS K η H σ ρ) (q : RD K η H d v) : RS K η H (σ.set i (some v)) (ρ.set i (some d)) where
  len := by rw [List.length_set, List.length_set, r.len]
  at_ := fun j d' e => by
    by_cases hj : j = i
    · subst hj
      have hl : j < ρ.length := by
        have := (List.getElem?_eq_some_iff.mp e).1
        rwa [List.length_set] at this
      rw [List.getElem?_set_self hl] at e
      cases e
      exact ⟨v, List.getElem?_set_self (by rw [r.len]; exact hl), q⟩
    · rw [List.getElem?_set_ne (Ne.symm hj)] at e ⊢
      exact r.at_ j d' e
theorem mg_name (g : GU X W) (i : Nat) {x : Str} (hi : X.N[i]? = some x := by rfl) (hx : Loc X.env.scope x := by first | exact Or.inl rfl | exact Or.inr rfl)
    (hf : X.fn x = true ∨ X.env.scope.names.lookup x = some .local := by first | exact .inl rfl | exact .inr rfl) : MG X (.Name x pos) (gNm i) := ⟨PG.wk (pg_name g.nd hi hx hf) fun v σ H Q q => by
  obtain ⟨ρ, η, h, d, rs, rh, rd, p⟩ := q
  exact p _ (rs.set i rd)⟩
structure MGs (X : Cx) (ts : List Expr) (is : List Nat) : Prop where
  pg : ∃ t, PGs X ts t ∧ ∀ (η : Ad) (H : Hp) (σ : L2.St) (ρ : Env) (ds : List D) (vs : List V) (Q : L2.St → Hp → Prop), ds.length = is.length → RS X.K η H σ ρ → RDs X.K η H ds vs →
    (∀ σ', RS X.K η H σ' ((is.zip ds).foldl (fun ρ p => ρ.set p.1 (some p.2)) ρ) → Q σ' H) → t vs σ H Q
theorem mgs_nil : MGs X [] [] := ⟨gNil, pgs_nil, fun η H σ ρ ds vs Q hl rs rd q => by
  have e : ds = [] := List.eq_nil_of_length_eq_zero hl
  subst e
  cases rd
  exact ⟨rfl, q σ rs⟩⟩
theorem mgs_cons (g : GX X W) (i : Nat) {x : Str} {es : List Expr} {is : List Nat} (hr : MGs X es is) (hi : X.N[i]? = some x := by rfl) (hx : Loc X.env.scope x := by first | exact Or.inl rfl | exact Or.inr rfl)
    (hf : X.fn x = true ∨ X.env.scope.names.lookup x = some .local := by first | exact .inl rfl | exact .inr rfl)
    (hs : (assignEach (.Name x pos :: es) X.env).map (·.2) = assign (.Name x pos) X.env :: (assignEach es X.env).map (·.2) := by rfl) : MGs X (.Name x pos :: es) (i :: is) := by
  obtain ⟨t, ht, hq⟩ := hr.pg
  refine ⟨gCons (gName i) t, pgs_cons (pg_name g.nd hi hx hf) ht hs, fun η H σ ρ ds vs Q hl rs rd q => ?_⟩
  cases ds with
  | nil => cases hl
  | cons d ds =>
    obtain ⟨v, r, rfl, rd1, rd2⟩ := rd
    exact ⟨v, r, rfl, hq η H _ _ ds r Q (Nat.succ.inj hl) (rs.set i rd1) rd2 q⟩
/-- a tuple into names -/
def gTp (is : List Nat) : GM := fun d ρ => match d with
  | .tup l => if l.length = is.length then some ((is.zip l).foldl (fun ρ p => ρ.set p.1 (some p.2)) ρ) else none
  | _ => none
theorem mg_tup (g : GX X W) {es : List Expr} {k : Nat} {is : List Nat} (h : MGs X es is) (hn : (assignEach es X.env).length = is.length := by rfl) (hst : (assignEach es X.env).findIdx? (·.1) = none := by rfl) : MG X (.Tuple es k pos) (gTp is) := by
  obtain ⟨t, ht, hq⟩ := h.pg
  refine ⟨PG.wk (pg_tup g.calm ht hn hst) fun v σ H Q q => ?_⟩
  obtain ⟨ρ, η, h, d, rs, rh, rd, p⟩ := q
  unfold gTp at p
  cases d with
  | tup l =>
    simp only at p
    obtain ⟨a, xs, rfl, s, tt⟩ := rd
    by_cases hl : l.length = is.length
    · rw [if_pos hl] at p
      exact ⟨a, xs, rfl, s, by rw [tt.length]; exact hl, hq η H σ ρ l xs Q hl rs tt p⟩
    · rw [if_neg hl] at p
      exact p.elim
  | _ => exact p.elim
def asgS (m : EM D) (g : GM) : SS := fun ρ h => toS (m ρ h) ρ fun d h1 => match g d ρ with
  | some ρ' => .nx ρ' h1
  | none => .stuck
theorem asg_of {m : EM D} {g : GM} (q : tS X W (asgS m g) E σ H) : tAsg (tM X W (rD X) m) (tG X g) E σ H := by
  obtain ⟨ρ, η, h, rs, rh, p⟩ := q
  refine tM.mono (fun x H1 ⟨d, η1, h1, s1, r1, q1, p1⟩ => ?_) (PoS.seq (R1 := rD X) rs rh p)
  refine ⟨ρ, η1, h1, d, rs.step s1, r1, q1, ?_⟩
  cases eg : g d ρ with
  | some ρ' =>
    rw [eg] at p1
    exact fun σ' rs' => p1 σ' η1 H1 (.refl _ _) rs' r1
  | none =>
    rw [eg] at p1
    exact p1
def setS (i : Nat) (m : EM D) : SS := fun ρ h => toS (m ρ h) ρ fun d h1 => .nx (ρ.set i (some d)) h1
theorem ms_set (g : GX X W) (i : Nat) {x : Str} {pos' : Pos} {m : EM D} (he : ME X W e m) (hi : X.N[i]? = some x := by rfl) (hx : Loc X.env.scope x := by first | exact Or.inl rfl | exact Or.inr rfl)
    (hs : swapsWith e (some (.Name x pos')) pos.line X.env = pure false := by rfl) (hf : X.fn x = true ∨ X.env.scope.names.lookup x = some .local := by first | exact .inl rfl | exact .inr rfl) :
    MS X W (.Assign [.Name x pos'] e pos) (setS i m) := ⟨PS.wk (ps_set g.nd hi hx he.pe hs hf) fun E σ H q => by
  obtain ⟨ρ, η, h, rs, rh, p⟩ := q
  refine tM.mono (fun x H1 ⟨d, η1, h1, s1, r1, q1, p1⟩ => ?_) (PoS.seq (R1 := rD X) rs rh p)
  exact p1 _ η1 H1 (.refl _ _) ((rs.step s1).set i q1) r1⟩
theorem ms_asg {tg : Expr} {m : EM D} {g : GM} (he : ME X W e m) (hg : MG X tg g) (hs : swapsWithSole [tg] e pos.line X.env = pure false := by rfl) (hw : swappedStores [tg] e X.env = pure none := by rfl)
    (h1 : (assignEach [tg] X.env).map (·.2) = [assign tg X.env] := by rfl) : MS X W (.Assign [tg] e pos) (asgS m g) := ⟨PS.wk (ps_asg he.pe hg.pg hs hw h1) fun E σ H q => asg_of q⟩
/-- i += e -/
def augS (i : Nat) (g : D → D → Hh → Res D) (m : EM D) : SS := fun ρ h => match ρ[i]? with
  | some (some x) => toS (m ρ h) ρ fun y h1 => toS (g x y h1) ρ fun z h2 => .nx (ρ.set i (some z)) h2
  | _ => .stuck
theorem PoS.res {r : Res D} {ρ : Env} {k : D → Hh → SR} {Q : VK} (rs : RS X.K η H σ ρ) (p : PoS X W η H (toS r ρ k) E) (i : ∀ d h1 v η1 H1, Step η H η1 H1 → RH X.K X.mg X.w η1 H1 h1 → RD X.K η1 H1 d v → PoS X W η1 H1 (k d h1) E → Q v H1) : Po X W (rD X) σ η H r Q := by
  cases r with
  | ok d h1 => exact fun v η1 H1 s r1 r2 => i d h1 v η1 H1 s r1 r2 (PoS.step s p)
  | raise c fs h1 => exact fun η' H' C dx s r m q => p σ η' H' C dx s (rs.step s) r m q
  | stuck => exact p
theorem ms_aug (gx : GX X W) (i : Nat) {x : Str} {op : Operator} {r : R2} {pos' : Pos} {m : EM D} {g : D → D → Hh → Res D} (ho : OpR X (inplaceOp op) r) (hg : OpD X W r g) (he : ME X W e m) (hi : X.N[i]? = some x := by rfl) (hx : Loc X.env.scope x := by first | exact Or.inl rfl | exact Or.inr rfl)
    (hf : X.fn x = true ∨ X.env.scope.names.lookup x = some .local := by first | exact .inl rfl | exact .inr rfl) : MS X W (.AugAssign (.Name x pos') op e pos) (augS i g m) :=
  ⟨PS.wk (ps_aug gx.nd hi hx he.pe (op := op) (ti := r) (fun pins s σ H x y v u Q I rx ry q => ho pins s σ H x y v u Q I rx ry q) hf) fun E σ H q => by
  obtain ⟨ρ, η, h, rs, rh, p⟩ := q
  unfold augS at p
  split at p
  · rename_i x0 ex
    obtain ⟨v, ev, rd⟩ := rs.at_ i x0 ex
    refine ⟨v, ev, ?_⟩
    refine tM.mono (fun y H1 ⟨d, η1, h1, s1, r1, q1, p1⟩ => ?_) (PoS.seq (R1 := rD X) rs rh p)
    refine hg σ η1 H1 h1 x0 d v y _ r1 (rd.step s1) q1 (PoS.res (rs.step s1) p1 fun z h2 w' η2 H2 s2 r2 q2 p2 => ?_)
    exact p2 _ η2 H2 (.refl _ _) ((rs.step (s1.trans s2)).set i q2) r2
  · exact p.elim⟩

/-! ### o[i] = e -/
def putD (l : List (D × D)) (k d : D) : List (D × D) :=
  if (l.any fun p => decide (keyD p.1 = keyD k)) = true then l.map (fun p => if keyD p.1 = keyD k then (p.1, d) else p) else l ++ [(k, d)]
theorem rks_app {K : PySem.W.Frag} : ∀ {l : List (D × D)} {xs : List (Key × V)} {k d : D} {k' : Key} {v : V}, RKs K η H l xs → keyD k = some k' → RD K η H d v → RKs K η H (l ++ [(k, d)]) (xs ++ [(k', v)])
  | [], xs, k, d, k', v, r, e, q => by cases r; exact ⟨k', v, [], rfl, e, q, rfl⟩
  | (k1, d1) :: l, xs, k, d, k', v, r, e, q => by
    obtain ⟨k2, x, r', rfl, e2, rd, t⟩ := r
    exact ⟨k2, x, r' ++ [(k', v)], rfl, e2, rd, rks_app t e q⟩
theorem rks_map {K : PySem.W.Frag} : ∀ {l : List (D × D)} {xs : List (Key × V)} {k d : D} {k' : Key} {v : V}, RKs K η H l xs → keyD k = some k' → RD K η H d v →
    RKs K η H (l.map fun p => if keyD p.1 = keyD k then (p.1, d) else p) (xs.map fun p => if p.1 = k' then (p.1, v) else p)
  | [], xs, k, d, k', v, r, e, q => by cases r; rfl
  | (k1, d1) :: l, xs, k, d, k', v, r, e, q => by
    obtain ⟨k2, x, r', rfl, e2, rd, t⟩ := r
    have ih := rks_map t e q
    by_cases z : k2 = k'
    · subst z
      have z2 : keyD k1 = keyD k := e2.trans e.symm
      show RKs K η H ((if keyD k1 = keyD k then (k1, d) else (k1, d1)) :: _) ((if k2 = k2 then (k2, v) else (k2, x)) :: _)
      rw [if_pos z2, if_pos rfl]
      exact ⟨k2, v, _, rfl, e2, q, ih⟩
    · have z2 : ¬ keyD k1 = keyD k := fun y => z (Option.some.inj (e2.symm.trans (y.trans e)))
      show RKs K η H ((if keyD k1 = keyD k then (k1, d) else (k1, d1)) :: _) ((if k2 = k' then (k2, v) else (k2, x)) :: _)
      rw [if_neg z2, if_neg z]
      exact ⟨k2, x, _, rfl, e2, rd, ih⟩
theorem rks_any {K : PySem.W.Frag} : ∀ {l : List (D × D)} {xs : List (Key × V)} {k : D} {k' : Key}, RKs K η H l xs → keyD k = some k' → (xs.any fun p => decide (p.1 = k')) = l.any fun p => decide (keyD p.1 = keyD k)
  | [], xs, k, k', r, e => by cases r; rfl
  | (k1, d1) :: l, xs, k, k', r, e => by
    obtain ⟨k2, x, r', rfl, e2, rd, t⟩ := r
    show (decide (k2 = k') || _) = (decide (keyD k1 = keyD k) || _)
    rw [rks_any t e]
    congr 1
    rw [e2, e, Bool.eq_iff_iff]
    simp
theorem rks_put {K : PySem.W.Frag} {l : List (D × D)} {xs : List (Key × V)} {k d : D} {k' : Key} {v : V} (r : RKs K η H l xs) (e : keyD k = some k') (q : RD K η H d v) : RKs K η H (putD l k d) (putK xs k' v) := by
  unfold putD putK
  rw [← rks_any r e]
  split
  · exact rks_map r e q
  · exact rks_app r e q
/-- the mutable dict at n -/
def mdOf (d : D) (h : Hh) : Option (Nat × List (D × D)) := match d with
  | .ref n => match h[n]? with
    | some (.dic l) => some (n, l)
    | _ => none
  | _ => none
theorem mdOf_of {d : D} {v : V} {n : Nat} {l : List (D × D)} (rh : RH X.K X.mg X.w η H h) (r : RD X.K η H d v) (e : mdOf d h = some (n, l)) : ∃ a xs, v = .ref a ∧ η.c[n]? = some a ∧ H a = some (.dK xs) ∧ RKs X.K η H l xs := by
  cases d with
  | ref m =>
    obtain ⟨a, ea, rfl⟩ := r
    unfold mdOf at e
    simp only at e
    split at e
    · rename_i l' em
      cases e
      obtain ⟨b, eb, xs, q, t⟩ := rh.addr em
      rw [ea] at eb
      cases eb
      exact ⟨a, xs, rfl, ea, q, t⟩
    · cases e
  | _ => cases e
/-- the heap behind o[i] = v -/
def putO (o i v : D) (h : Hh) : Option Hh := match mlOf o h with
  | some (n, l) => match i with
    | .int k => (ixN l.length k).map fun j => h.set n (.lst (l.set j v))
    | _ => none
  | none => match mdOf o h with
    | some (n, l) => if (keyD i).isSome = true ∧ l.length < sizeLine then some (h.set n (.dic (putD l i v))) else none
    | none => none
def rSetX : V → V → V → Hp → (Hp → Prop) → Prop := fun o i v H Q => ∃ a H', o = .ref a ∧ DPut H a i v H' ∧ Q H'
theorem set_dicX (hu : X.A.units + 1 < cLine) : PSet X rSetX := by
  intro pins s σ H o i v ov iv u Q I ro ri rv h
  obtain ⟨a, H', rfl, g, q⟩ := h
  cases ro
  exact d_setItem hu I g ri rv fun s' I' => ⟨H', I', q⟩
def rSetAll : V → V → V → Hp → (Hp → Prop) → Prop := fun o i v H Q => rSetL o i v H Q ∨ rSetX o i v H Q
theorem set_all (hu : X.A.units + 1 < cLine) : PSet X rSetAll := by
  intro pins s σ H o i v ov iv u Q I ro ri rv h
  rcases h with h | h
  · exact set_list pins s σ H o i v ov iv u Q I ro ri rv h
  · exact set_dicX hu pins s σ H o i v ov iv u Q I ro ri rv h
theorem putO_of {o i v : D} {x y z : V} {h' : Hh} {Q : Hp → Prop} (rh : RH X.K X.mg X.w η H h) (ro : RD X.K η H o x) (ri : RD X.K η H i y) (rv : RD X.K η H v z) (e : putO o i v h = some h') (q : ∀ H', Step η H η H' → RH X.K X.mg X.w η H' h' → Q H') : rSetAll x y z H Q := by
  unfold putO at e
  split at e
  · rename_i n l em
    obtain ⟨a, xs, rfl, ea, s, t⟩ := mlOf_of rh ro em
    split at e
    · rename_i k
      cases ri
      cases ej : ixN l.length k with
      | none => rw [ej] at e; cases e
      | some j =>
        rw [ej] at e
        cases e
        have st : Step η H η (upd H a (.lst (xs.set j z))) := rh.updS ea s trivial
        exact .inl ⟨a, xs, k, j, rfl, rfl, s, by rw [t.length]; exact ej, q _ st (rh.set ea s trivial ⟨_, upd_same, (t.set j rv).step st⟩)⟩
    · cases e
  · split at e
    · rename_i n l em
      obtain ⟨a, xs, rfl, ea, s, t⟩ := mdOf_of rh ro em
      split at e
      · rename_i hk
        cases e
        obtain ⟨k', ek⟩ := Option.isSome_iff_exists.mp hk.1
        have st : Step η H η (upd H a (.dK (putK xs k' z))) := rh.updS ea s trivial
        refine .inr ⟨a, _, rfl, ?_, q _ st (rh.set ea s trivial ⟨_, upd_same, RKs.step st _ _ (rks_put t ek rv)⟩)⟩
        rw [keyD_of ek ri]
        exact DPut.k s (by rw [rks_length t]; exact hk.2)
      · cases e
    · cases e
def putS (m mo mi : EM D) : SS := fun ρ h => toS (m ρ h) ρ fun v h1 => toS (mo ρ h1) ρ fun o h2 => toS (mi ρ h2) ρ fun i h3 => match putO o i v h3 with
  | some h4 => .nx ρ h4
  | none => .stuck
theorem ms_put (g : GX X W) {o i : Expr} {m mo mi : EM D} {pos' : Pos} (he : ME X W e m) (ho : ME X W o mo) (hi : ME X W i mi)
    (ha : ∀ v, assign (.Subscript o i pos') X.env v = (do
      let ov ← holding [v] (eval o X.env)
      let iv ← holding [v, ov] (eval i X.env)
      standAt pos'
      holding [v, ov, iv] (setItem ov iv v)
      release [v, ov, iv] []) := by intro _; rfl)
    (hs : swapsWithSole [.Subscript o i pos'] e pos.line X.env = pure false := by rfl) (hw : swappedStores [.Subscript o i pos'] e X.env = pure none := by rfl)
    (h1 : (assignEach [.Subscript o i pos'] X.env).map (·.2) = [assign (.Subscript o i pos') X.env] := by rfl) : MS X W (.Assign [.Subscript o i pos'] e pos) (putS m mo mi) :=
  ⟨PS.wk (ps_asg he.pe (pg_sub ho.pe hi.pe (set_all (by have := g.un; omega)) ha) hs hw h1) fun E σ H q => by
  obtain ⟨ρ, η, h, rs, rh, p⟩ := q
  refine tM.mono (fun x H1 ⟨d, η1, h1, s1, r1, q1, p1⟩ => ?_) (PoS.seq (R1 := rD X) rs rh p)
  have rs1 := rs.step s1
  refine tM.mono (fun y H2 ⟨o', η2, h2, s2, r2, q2, p2⟩ => ?_) (PoS.seq (R1 := rD X) rs1 r1 p1)
  have rs2 := rs1.step s2
  refine tM.mono (fun z H3 ⟨i', η3, h3, s3, r3, q3, p3⟩ => ?_) (PoS.seq (R1 := rD X) rs2 r2 p2)
  have rs3 := rs2.step s3
  cases ep : putO o' i' d h3 with
  | none => rw [ep] at p3; exact p3.elim
  | some h4 =>
    rw [ep] at p3
    exact putO_of r3 (RD.step s3 _ _ q2) q3 (RD.step (s2.trans s3) _ _ q1) ep fun H' st r4 => p3 σ η3 H' st (rs3.step st) r4⟩
end
end Ev

/-! EvL: loops, comprehensions, defs and their calls. -/
namespace Ev
open PySem PySem.Spec PyProof.Rows L2

/-- what a for walks: the items; where they stand in a mutable list, its place -/
structure IT where
  items : List D
  src : Option Nat
def IT.chk (it : IT) (h : Hh) : Prop := match it.src with
  | none => True
  | some n => h[n]? = some (.lst it.items)

section
variable {X : Cx} {W : WX} {σ : L2.St} {η : Ad} {H : Hp} {h : Hh} {E : Ends} {e a b : Expr} {pos : Pos} {st : Stmt} {sts : List Stmt}

/-! ### while -/
def loopN (c : EM Bool) (b : SS) : Nat → SS
  | 0 => fun _ _ => .stuck
  | n + 1 => fun ρ h => toS (c ρ h) ρ fun x h1 => if x = true then (match b ρ h1 with
    | .nx ρ2 h2 => loopN c b n ρ2 h2
    | .ct ρ2 h2 => loopN c b n ρ2 h2
    | .bk ρ2 h2 => .nx ρ2 h2
    | r => r) else .nx ρ h1
open Classical in
noncomputable def whileS (c : EM Bool) (b : SS) : SS := fun ρ h => if hx : ∃ n, loopN c b n ρ h ≠ .stuck then loopN c b hx.choose ρ h else .stuck
theorem loopN_step (c : EM Bool) (b : SS) (n : Nat) (ρ : Env) (h : Hh) : loopN c b (n + 1) ρ h = toS (c ρ h) ρ fun x h1 => if x = true then (match b ρ h1 with
    | .nx ρ2 h2 => loopN c b n ρ2 h2
    | .ct ρ2 h2 => loopN c b n ρ2 h2
    | .bk ρ2 h2 => .nx ρ2 h2
    | r => r) else .nx ρ h1 := rfl
theorem loopN_mono (c : EM Bool) (b : SS) : ∀ (n : Nat) (ρ : Env) (h : Hh), loopN c b n ρ h ≠ .stuck → loopN c b (n + 1) ρ h = loopN c b n ρ h
  | 0, ρ, h, q => absurd rfl q
  | n + 1, ρ, h, q => by
    rw [loopN_step c b n] at q ⊢
    rw [loopN_step c b (n + 1)]
    cases e1 : c ρ h with
    | raise _ _ _ => rfl
    | stuck => rfl
    | ok x h1 =>
      rw [e1, toS_ok] at q
      rw [toS_ok, toS_ok]
      cases x with
      | false => rfl
      | true =>
        rw [if_pos rfl] at q ⊢
        rw [if_pos rfl]
        cases e2 : b ρ h1 with
        | nx ρ2 h2 =>
          rw [e2] at q
          exact loopN_mono c b n ρ2 h2 q
        | ct ρ2 h2 =>
          rw [e2] at q
          exact loopN_mono c b n ρ2 h2 q
        | _ => rfl
theorem loopN_le (c : EM Bool) (b : SS) {n : Nat} {ρ : Env} {h : Hh} (q : loopN c b n ρ h ≠ .stuck) : ∀ k, loopN c b (n + k) ρ h = loopN c b n ρ h
  | 0 => rfl
  | k + 1 => by
    have ih := loopN_le c b q k
    rw [← Nat.add_assoc, loopN_mono c b (n + k) ρ h (by rw [ih]; exact q), ih]
theorem loopN_uniq (c : EM Bool) (b : SS) {n m : Nat} {ρ : Env} {h : Hh} (q : loopN c b n ρ h ≠ .stuck) (q' : loopN c b m ρ h ≠ .stuck) : loopN c b n ρ h = loopN c b m ρ h := by
  rcases Nat.le_total n m with l | l
  · obtain ⟨k, rfl⟩ := Nat.le.dest l
    exact (loopN_le c b q k).symm
  · obtain ⟨k, rfl⟩ := Nat.le.dest l
    exact loopN_le c b q' k
/-- a while ends so -/
theorem whileS_of {c : EM Bool} {b : SS} {n : Nat} {ρ : Env} {h : Hh} {r : SR} (e : loopN c b n ρ h = r) (hr : r ≠ .stuck) : whileS c b ρ h = r := by
  have hx : ∃ n, loopN c b n ρ h ≠ .stuck := ⟨n, by rw [e]; exact hr⟩
  unfold whileS
  rw [dif_pos hx, ← e]
  exact loopN_uniq c b hx.choose_spec (by rw [e]; exact hr)
theorem whileS_ex {c : EM Bool} {b : SS} {ρ : Env} {h : Hh} (q : whileS c b ρ h ≠ .stuck) : ∃ n, loopN c b n ρ h = whileS c b ρ h := by
  unfold whileS at q ⊢
  by_cases hx : ∃ n, loopN c b n ρ h ≠ .stuck
  · rw [dif_pos hx]
    exact ⟨_, rfl⟩
  · rw [dif_neg hx] at q
    exact absurd rfl q
/-- one turn of it -/
theorem whileS_eq (c : EM Bool) (b : SS) (ρ : Env) (h : Hh) : whileS c b ρ h = toS (c ρ h) ρ fun x h1 => if x = true then (match b ρ h1 with
    | .nx ρ2 h2 => whileS c b ρ2 h2
    | .ct ρ2 h2 => whileS c b ρ2 h2
    | .bk ρ2 h2 => .nx ρ2 h2
    | r => r) else .nx ρ h1 := by
  by_cases hq : (toS (c ρ h) ρ fun x h1 => if x = true then (match b ρ h1 with
    | .nx ρ2 h2 => whileS c b ρ2 h2
    | .ct ρ2 h2 => whileS c b ρ2 h2
    | .bk ρ2 h2 => .nx ρ2 h2
    | r => r) else .nx ρ h1) = .stuck
  · rw [hq]
    by_cases hw : whileS c b ρ h = .stuck
    · exact hw
    · exfalso
      obtain ⟨n, en⟩ := whileS_ex hw
      have hn : loopN c b n ρ h ≠ .stuck := by rw [en]; exact hw
      cases n with
      | zero => exact hn rfl
      | succ n =>
        rw [loopN_step] at hn
        cases e1 : c ρ h with
        | raise _ _ _ => rw [e1] at hq; cases hq
        | stuck => rw [e1] at hn; exact hn rfl
        | ok x h1 =>
          rw [e1, toS_ok] at hq hn
          cases x with
          | false => cases hq
          | true =>
            rw [if_pos rfl] at hq hn
            cases e2 : b ρ h1 with
            | nx ρ2 h2 =>
              rw [e2] at hq hn
              exact hn ((whileS_of rfl hn).symm.trans hq)
            | ct ρ2 h2 =>
              rw [e2] at hq hn
              exact hn ((whileS_of rfl hn).symm.trans hq)
            | bk ρ2 h2 => rw [e2] at hq; cases hq
            | ret d h2 => rw [e2] at hq; cases hq
            | rs c fs ρ2 h2 => rw [e2] at hq; cases hq
            | stuck => rw [e2] at hn; exact hn rfl
  · cases e1 : c ρ h with
    | raise c1 fs h1 => exact whileS_of (n := 1) (by rw [loopN_step, e1]; rfl) (fun z => nomatch z)
    | stuck => rw [e1] at hq; exact absurd rfl hq
    | ok x h1 =>
      rw [e1, toS_ok] at hq
      rw [toS_ok]
      cases x with
      | false => exact whileS_of (n := 1) (by rw [loopN_step, e1]; rfl) (fun z => nomatch z)
      | true =>
        rw [if_pos rfl] at hq ⊢
        cases e2 : b ρ h1 with
        | nx ρ2 h2 =>
          rw [e2] at hq
          obtain ⟨n, en⟩ := whileS_ex hq
          exact whileS_of (n := n + 1) (by rw [loopN_step, e1, toS_ok, if_pos rfl, e2]; exact en) hq
        | ct ρ2 h2 =>
          rw [e2] at hq
          obtain ⟨n, en⟩ := whileS_ex hq
          exact whileS_of (n := n + 1) (by rw [loopN_step, e1, toS_ok, if_pos rfl, e2]; exact en) hq
        | bk ρ2 h2 => exact whileS_of (n := 1) (by rw [loopN_step, e1, toS_ok, if_pos rfl, e2]) (fun z => nomatch z)
        | ret d h2 => exact whileS_of (n := 1) (by rw [loopN_step, e1, toS_ok, if_pos rfl, e2]) (fun z => nomatch z)
        | rs c fs ρ2 h2 => exact whileS_of (n := 1) (by rw [loopN_step, e1, toS_ok, if_pos rfl, e2]) (fun z => nomatch z)
        | stuck => rw [e2] at hq; exact absurd rfl hq
theorem PoS.ne {r : SR} (p : PoS X W η H r E) : r ≠ .stuck := fun e => by rw [e] at p; exact p
theorem ms_while (g : GX X W) {c : Expr} {body : List Stmt} {tc : EM Bool} {m : SS} (hc : MT X W c tc) (hb : MB X W body m) : MS X W (.While c body [] pos) (whileS tc m) := ⟨PS.wk (ps_while g.po hc.pt hb.ps) fun E σ H q => by
  obtain ⟨ρ0, η0, h0, rs0, rh0, p0⟩ := q
  obtain ⟨n0, en⟩ := whileS_ex p0.ne
  rw [← en] at p0
  refine ⟨fun k σ H => ∃ ρ η h, RS X.K η H σ ρ ∧ RH X.K X.mg X.w η H h ∧ PoS X W η H (loopN tc m k ρ h) E, ⟨n0, ρ0, η0, h0, rs0, rh0, p0⟩, ?_⟩
  rintro k σ H ⟨ρ, η, h, rs, rh, p⟩
  cases k with
  | zero => exact p.elim
  | succ k =>
    rw [loopN_step] at p
    refine tM.mono (fun x H1 ⟨d, η1, h1, s1, r1, q1, p1⟩ => ?_) (PoS.seq (R1 := rB) rs rh p)
    have q1 : d = x := q1
    subst q1
    cases d with
    | false => exact p1 σ η1 H1 (.refl _ _) (rs.step s1) r1
    | true =>
      rw [if_pos rfl] at p1 ⊢
      refine ⟨fun σ' H' => ∃ ρ η h, RS X.K η H' σ' ρ ∧ RH X.K X.mg X.w η H' h ∧ PoS X W η H' (loopN tc m k ρ h) E, fun σ' H' w => ⟨k, Nat.lt_succ_self k, w⟩, ρ, η1, h1, rs.step s1, r1, ?_⟩
      cases e2 : m ρ h1 with
      | nx ρ2 h2 => rw [e2] at p1; exact fun σ' η' H' s r1 r2 => ⟨ρ2, η', h2, r1, r2, p1.step s⟩
      | ct ρ2 h2 => rw [e2] at p1; exact fun σ' η' H' s r1 r2 => ⟨ρ2, η', h2, r1, r2, p1.step s⟩
      | bk ρ2 h2 => rw [e2] at p1; exact p1
      | ret d h2 => rw [e2] at p1; exact p1
      | rs c fs ρ2 h2 => rw [e2] at p1; exact p1
      | stuck => rw [e2] at p1; exact p1⟩

/-! ### for -/
/-- J walks the items -/
def Wk (X : Cx) : IT → It → Ad → Hp → Prop := fun it J η H => ∀ (η' : Ad) (H' : Hp) (h' : Hh), Stw η H η' H' → RH X.K X.mg X.w η' H' h' → it.chk h' →
  J.stop it.items.length H' ∧ ∀ (i : Nat) (d : D), it.items[i]? = some d → J.go i H' ∧ ∀ x H'', J.yld i H' x H'' → Same H' H'' ∧ RD X.K η' H'' d x
theorem RH.same {K : PySem.W.Frag} {mg : Str → Option Value} {w : World} {H' : Hp} (r : RH K mg w η H h) (s : Same H H') : Step η H η H' ∧ RH K mg w η H' h := by
  have st : Step η H η H' := ⟨⟨⟨[], by simp⟩, fun _ h => .inl h, fun a o _ q => s a o q, fun a xs q => by
    rcases q with q | ⟨o, q⟩
    · exact .inl (s a _ q)
    · exact .inr ⟨o, s a _ q⟩⟩, rfl, fun a ha => by
    obtain ⟨xs, q⟩ := r.hid a ha
    rw [q, s a _ q]⟩
  exact ⟨st, r.mono st fun b _ u q => s b u q⟩
structure MI (X : Cx) (W : WX) (tg e : Expr) (m : EM IT) : Prop where
  pi : PI X tg e (tM X W (Wk X) m)
theorem PI.wk {tg e : Expr} {t t' : TI} (h : PI X tg e t) (i : ∀ σ H R, t' σ H R → t σ H R) : PI X tg e t' := ⟨fun pins s σ H R I q => h.run pins s σ H R I (i σ H R q)⟩
theorem PI.or {tg e : Expr} {t t' : TI} (h : PI X tg e t) (h' : PI X tg e t') : PI X tg e (fun σ H R => t σ H R ∨ t' σ H R) := ⟨fun pins s σ H R I q => by
  rcases q with q | q
  · exact h.run pins s σ H R I q
  · exact h'.run pins s σ H R I q⟩
open Classical in
noncomputable def loopS (chk : Hh → Prop) (g : GM) (b : SS) : List D → SS
  | [] => fun ρ h => if chk h then .nx ρ h else .stuck
  | d :: l => fun ρ h => if chk h then (match g d ρ with
    | some ρ1 => (match b ρ1 h with
      | .nx ρ2 h2 => loopS chk g b l ρ2 h2
      | .ct ρ2 h2 => loopS chk g b l ρ2 h2
      | .bk ρ2 h2 => .nx ρ2 h2
      | r => r)
    | none => .stuck) else .stuck
noncomputable def forS (mi : EM IT) (g : GM) (b : SS) : SS := fun ρ h => toS (mi ρ h) ρ fun it h1 => loopS it.chk g b it.items ρ h1
theorem ms_for (gx : GX X W) {tg iter : Expr} {body : List Stmt} {mi : EM IT} {g : GM} {m : SS} (hi : MI X W tg iter mi) (hg : MG X tg g) (hb : MB X W body m) (hs : ∀ x, foldedSetIterable iter X.env x = pure x := by intro _; rfl) :
    MS X W (.For tg iter body [] pos) (forS mi g m) := ⟨PS.wk (ps_for gx.po gx.calm hi.pi hg.pg hb.ps hs) fun E σ H q => by
  obtain ⟨ρ, η, h, rs, rh, p⟩ := q
  refine tM.mono (fun J H1 ⟨it, η1, h1, s1, r1, q1, p1⟩ => ?_) (PoS.seq (R1 := Wk X) rs rh p)
  refine ⟨fun i k σ H => ∃ ρ η h, Step η1 H1 η H ∧ RS X.K η H σ ρ ∧ RH X.K X.mg X.w η H h ∧ i + k = it.items.length ∧ PoS X W η H (loopS it.chk g m (it.items.drop i) ρ h) E, ⟨it.items.length, ρ, η1, h1, .refl _ _, rs.step s1, r1, Nat.zero_add _, p1⟩, ?_⟩
  rintro i k σ H ⟨ρ, η, h, st, rs, rh, ei, p⟩
  cases ed : it.items.drop i with
  | nil =>
    rw [ed] at p
    unfold loopS at p
    split at p
    · rename_i hc
      have hi : i = it.items.length := by
        have := congrArg List.length ed
        rw [List.length_drop, List.length_nil] at this
        omega
      subst hi
      exact .inl ⟨(q1 η H h st.toStw rh hc).1, p σ η H (.refl _ _) rs rh⟩
    · exact p.elim
  | cons d l =>
    rw [ed] at p
    unfold loopS at p
    split at p
    · rename_i hc
      have hl : i < it.items.length := by
        have := congrArg List.length ed
        rw [List.length_drop, List.length_cons] at this
        omega
      have hd : it.items[i]? = some d ∧ it.items.drop (i + 1) = l := by
        rw [List.drop_eq_getElem_cons hl] at ed
        injection ed with e1 e2
        exact ⟨by rw [List.getElem?_eq_getElem hl, e1], e2⟩
      obtain ⟨go, yl⟩ := (q1 η H h st.toStw rh hc).2 i d hd.1
      refine .inr ⟨go, fun σ' H' => ∃ ρ η h, Step η1 H1 η H' ∧ RS X.K η H' σ' ρ ∧ RH X.K X.mg X.w η H' h ∧ PoS X W η H' (loopS it.chk g m l ρ h) E, fun σ' H' ⟨ρ, η, h, a1, a2, a3, a4⟩ => ⟨k - 1, by omega, ρ, η, h, a1, a2, a3, by omega, by rw [hd.2]; exact a4⟩, fun x H' y => ?_⟩
      obtain ⟨sm, rd⟩ := yl x H' y
      obtain ⟨s2, r2⟩ := rh.same sm
      refine ⟨ρ, η, h, d, rs.step s2, r2, rd, ?_⟩
      cases eg : g d ρ with
      | none => rw [eg] at p; exact p
      | some ρ1 =>
        rw [eg] at p
        intro σ1 rs1
        refine ⟨ρ1, η, h, rs1, r2, ?_⟩
        simp only at p
        cases em : m ρ1 h with
        | nx ρ2 h2 => rw [em] at p; exact fun σ' η' H' s a b => ⟨ρ2, η', h2, (st.trans s2).trans s, a, b, (p.step s2).step s⟩
        | ct ρ2 h2 => rw [em] at p; exact fun σ' η' H' s a b => ⟨ρ2, η', h2, (st.trans s2).trans s, a, b, (p.step s2).step s⟩
        | bk ρ2 h2 =>
          rw [em] at p
          have p : PoS X W η H (.nx ρ2 h2) E := p
          exact fun σ' η' H'' s a b => p σ' η' H'' (s2.trans s) a b
        | ret d h2 => rw [em] at p; exact PoS.step (r := .ret d h2) (E := E) s2 p
        | rs c fs ρ2 h2 => rw [em] at p; exact PoS.step (r := .rs c fs ρ2 h2) (E := E) s2 p
        | stuck => rw [em] at p; exact p
    · exact p.elim⟩

/-! ### what may be walked -/
/-- a list, a tuple, a text -/
def itOf (d : D) (h : Hh) : Res IT := match d with
  | .lst l => .ok ⟨l, none⟩ h
  | .tup l => .ok ⟨l, none⟩ h
  | .str x => .ok ⟨x.cps.toList.map fun c => .str ⟨#[c]⟩, none⟩ h
  | .scr l => .ok ⟨l.map .int, none⟩ h
  | .ref n => match h[n]? with
    | some (.lst l) => .ok ⟨l, some n⟩ h
    | _ => .stuck
  | _ => .stuck
def seqI (m : EM D) : EM IT := fun ρ h => (m ρ h).bind itOf
theorem sqL_of_rd {K : PySem.W.Frag} {l : List Int} {a : Addr} {η' : Ad} {H' : Hp} (s : Stw η H η' H') (h : (¬ η.In a ∧ Rd H a (.lst (l.map V.int))) ∨ ∀ H, SqL K H a (l.map V.int)) : (¬ η'.In a ∧ Rd H' a (.lst (l.map V.int))) ∨ ∀ H, SqL K H a (l.map V.int) := by
  rcases h with h | h
  · have := s.rd1 h.1 h.2
    exact .inl ⟨this.2, this.1⟩
  · exact .inr h
theorem wkL {X : Cx} {a : Addr} {it : IT} (q : ∀ η' H' h', Stw η H η' H' → RH X.K X.mg X.w η' H' h' → it.chk h' → ∃ xs, SqL X.K H' a xs ∧ RDs X.K η' H' it.items xs) : Wk X it (Itl X.K a) η H := by
  intro η' H' h' s r c
  obtain ⟨xs, sq, t⟩ := q η' H' h' s r c
  refine ⟨⟨xs, sq, by rw [t.length]; exact Nat.le_refl _⟩, fun i d ed => ?_⟩
  obtain ⟨x, ex, rd⟩ := t.get ed
  refine ⟨⟨xs, x, sq, ex⟩, fun y H'' ⟨e1, e2⟩ => ?_⟩
  subst e1
  have := e2 xs sq
  rw [ex] at this
  cases this
  exact ⟨fun _ _ z => z, rd⟩
theorem wkT {X : Cx} {a : Addr} {it : IT} {xs : List V} (sq : SqT X.K H a xs) (t : RDs X.K η H it.items xs) : Wk X it (Itt X.K a) η H := by
  intro η' H' h' s r c
  have sq' := s.sqT sq
  have t' := t.stw s
  refine ⟨⟨xs, sq', by rw [t'.length]; exact Nat.le_refl _⟩, fun i d ed => ?_⟩
  obtain ⟨x, ex, rd⟩ := t'.get ed
  refine ⟨⟨xs, x, sq', ex⟩, fun y H'' ⟨e1, e2⟩ => ?_⟩
  subst e1
  have := e2 xs sq'
  rw [ex] at this
  cases this
  exact ⟨fun _ _ z => z, rd⟩
theorem wkS {X : Cx} {x : Str} : Wk X ⟨x.cps.toList.map fun c => .str ⟨#[c]⟩, none⟩ (Its x) η H := by
  intro η' H' h' s r c
  refine ⟨by show x.cps.size ≤ (x.cps.toList.map _).length; simp, fun i d ed => ?_⟩
  have ed : (x.cps.toList.map fun c => D.str ⟨#[c]⟩)[i]? = some d := ed
  rw [List.getElem?_map] at ed
  cases q : x.cps.toList[i]? with
  | none => rw [q] at ed; cases ed
  | some n =>
    rw [q] at ed
    cases ed
    have hl : i < x.cps.size := by
      have := (List.getElem?_eq_some_iff.mp q).1
      simpa using this
    refine ⟨hl, fun y H'' ⟨e1, n', e2, e3⟩ => ?_⟩
    subst e1
    have : x.cps[i]? = some n := by
      rw [← Array.getElem?_toList]
      exact q
    rw [this] at e2
    cases e2
    exact ⟨fun _ _ z => z, e3⟩
theorem mi_seq {tg : Expr} {m : EM D} (he : ME X W e m) : MI X W tg e (seqI m) := ⟨PI.wk (PI.or (pi_list he.pe) (PI.or (pi_tup he.pe) (pi_str he.pe))) fun σ H R q => by
  obtain ⟨ρ, η, h, rs, rh, p⟩ := q
  have p : Po X W (Wk X) σ η H ((m ρ h).bind itOf) R := p
  -- the value tells the way
  cases em : m ρ h with
  | stuck => rw [em] at p; exact p.elim
  | raise c fs h1 =>
    rw [em] at p
    exact .inl ⟨ρ, η, h, rs, rh, by rw [em]; exact p⟩
  | ok d h1 =>
    rw [em] at p
    have p : Po X W (Wk X) σ η H (itOf d h1) R := p
    cases d with
    | lst l =>
      refine .inl ⟨ρ, η, h, rs, rh, ?_⟩
      rw [em]
      intro v η1 H1 s1 r1 rd
      obtain ⟨a, xs, rfl, q, n, t⟩ := rd
      exact ⟨a, rfl, ⟨xs, .of q⟩, p _ η1 H1 s1 r1 (wkL fun η' H' h' s r c => ⟨xs, .of (s.keep _ _ n q), t.stw s⟩)⟩
    | scr l =>
      refine .inl ⟨ρ, η, h, rs, rh, ?_⟩
      rw [em]
      intro v η1 H1 s1 r1 rd
      obtain ⟨a, rfl, q⟩ := rd
      exact ⟨a, rfl, ⟨_, sqL_scr q⟩, p _ η1 H1 s1 r1 (wkL fun η' H' h' s r c => ⟨_, sqL_scr (sqL_of_rd s q), RDs.of_ints l⟩)⟩
    | ref n =>
      unfold itOf at p
      simp only at p
      split at p
      · rename_i l el
        refine .inl ⟨ρ, η, h, rs, rh, ?_⟩
        rw [em]
        intro v η1 H1 s1 r1 rd
        obtain ⟨a, ea, rfl⟩ := rd
        have look : ∀ (η' : Ad) (H' : Hp) (h' : Hh), η'.c[n]? = some a → RH X.K X.mg X.w η' H' h' → h'[n]? = some (.lst l) → ∃ xs, SqL X.K H' a xs ∧ RDs X.K η' H' l xs := fun η' H' h' e r c => by
          obtain ⟨xs, q, t⟩ := r.ob n a _ e c
          exact ⟨xs, .of q, t⟩
        obtain ⟨xs, q, t⟩ := look η1 H1 h1 ea r1 el
        exact ⟨a, rfl, ⟨xs, q⟩, p _ η1 H1 s1 r1 (wkL fun η' H' h' s r c => look η' H' h' (s.at_ ea) r c)⟩
      · exact p.elim
    | tup l =>
      refine .inr (.inl ⟨ρ, η, h, rs, rh, ?_⟩)
      rw [em]
      intro v η1 H1 s1 r1 rd
      obtain ⟨a, xs, rfl, q, t⟩ := rd
      exact ⟨a, rfl, ⟨xs, q⟩, p _ η1 H1 s1 r1 (wkT q t)⟩
    | str x =>
      refine .inr (.inr ⟨ρ, η, h, rs, rh, ?_⟩)
      rw [em]
      intro v η1 H1 s1 r1 rd
      exact ⟨x, rd, p _ η1 H1 s1 r1 wkS⟩
    | _ => exact p.elim⟩
/-- lo, lo + 1, .. n of them -/
def rngL (lo : Int) : Nat → List D
  | 0 => []
  | n + 1 => .int lo :: rngL (lo + 1) n
theorem rngL_length (lo : Int) (n : Nat) : (rngL lo n).length = n := by
  induction n generalizing lo with
  | zero => rfl
  | succ n ih => rw [rngL, List.length_cons, ih]
theorem rngL_get : ∀ (lo : Int) (n i : Nat), i < n → (rngL lo n)[i]? = some (.int (lo + i))
  | lo, n + 1, 0, _ => by simp [rngL]
  | lo, n + 1, i + 1, h => by
    rw [rngL, List.getElem?_cons_succ, rngL_get (lo + 1) n i (by omega)]
    congr 2
    omega
theorem wkR {X : Cx} {lo : Int} {n : Nat} : Wk X ⟨rngL lo n, none⟩ (Itr lo n) η H := by
  intro η' H' h' s r c
  refine ⟨by show n ≤ (rngL lo n).length; rw [rngL_length]; exact Nat.le_refl _, fun i d ed => ?_⟩
  have ed : (rngL lo n)[i]? = some d := ed
  have hl : i < n := by
    have := (List.getElem?_eq_some_iff.mp ed).1
    rwa [rngL_length] at this
  rw [rngL_get lo n i hl] at ed
  cases ed
  exact ⟨hl, fun y H'' ⟨e1, e2⟩ => by subst e1; exact ⟨fun _ _ z => z, e2⟩⟩
def i62 (i : Int) : Prop := -4611686018427387904 ≤ i ∧ i < 4611686018427387904
instance (i : Int) : Decidable (i62 i) := inferInstanceAs (Decidable (_ ∧ _))
def rngD (l : List D) (h : Hh) : Res IT := match l with
  | [.int j] => if i62 j then .ok ⟨rngL 0 j.toNat, none⟩ h else .stuck
  | [.int i, .int j] => if i62 i ∧ i62 j then .ok ⟨rngL i (j - i).toNat, none⟩ h else .stuck
  | _ => .stuck
def rngI (ms : EM (List D)) : EM IT := fun ρ h => (ms ρ h).bind rngD
theorem tMI.args {es : List Expr} {ms : EM (List D)} (hm : MA X W es ms) {k : List D → Hh → Res IT} {R : It → Hp → Prop} (q : tM X W (Wk X) (fun ρ h => (ms ρ h).bind k) σ H R) :
    tM X W (rA X) ms σ H fun xs H1 => ∃ l η1 h1, RH X.K X.mg X.w η1 H1 h1 ∧ RDs X.K η1 H1 l xs ∧ l.length = es.length ∧ Po X W (Wk X) σ η1 H1 (k l h1) R := by
  obtain ⟨ρ, η, h, rs, rh, p⟩ := q
  have p : Po X W (Wk X) σ η H ((ms ρ h).bind k) R := p
  refine ⟨ρ, η, h, rs, rh, ?_⟩
  cases e : ms ρ h with
  | ok a h1 =>
    rw [e] at p
    exact fun b η1 H1 s r q => ⟨a, η1, h1, r, q, hm.len _ _ _ _ e, Po.step s p⟩
  | raise c fs h1 =>
    rw [e] at p
    exact p
  | stuck =>
    rw [e] at p
    exact p
theorem mi_range1 {tg : Expr} {p : Pos} {ms : EM (List D)} (hg : Gl X "range") (hm : X.mg "range" = none) (ha : MA X W [a] ms) (hs : starEach [a] X.env = [(false, eval a X.env)] := by rfl) : MI X W tg (.Call (.Name "range" p) [a] [] pos) (rngI ms) :=
  ⟨PI.wk (pi_range1 hg hm ha.pa hs) fun σ H R q => by
  refine tM.mono (fun xs H1 ⟨l, η1, h1, r1, q1, hl, p1⟩ => ?_) (tMI.args ha q)
  unfold rngD at p1
  split at p1
  · rename_i j
    obtain ⟨v, rfl, r⟩ := rds1 q1
    cases r
    split at p1
    · rename_i hz
      unfold i62 at hz
      exact ⟨j, rfl, by omega, by omega, p1 _ η1 H1 (.refl _ _) r1 wkR⟩
    · exact p1.elim
  · cases hl
  · exact p1.elim⟩
theorem mi_range2 {tg : Expr} {p : Pos} {ms : EM (List D)} (hg : Gl X "range") (hm : X.mg "range" = none) (ha : MA X W [a, b] ms) (hs : starEach [a, b] X.env = [(false, eval a X.env), (false, eval b X.env)] := by rfl) (hs2 : starEach [b] X.env = [(false, eval b X.env)] := by rfl) : MI X W tg (.Call (.Name "range" p) [a, b] [] pos) (rngI ms) :=
  ⟨PI.wk (pi_range2 hg hm ha.pa hs hs2) fun σ H R q => by
  refine tM.mono (fun xs H1 ⟨l, η1, h1, r1, q1, hl, p1⟩ => ?_) (tMI.args ha q)
  unfold rngD at p1
  split at p1
  · cases hl
  · rename_i i j
    obtain ⟨v, w', rfl, r, r2⟩ := rds2 q1
    cases r
    cases r2
    split at p1
    · rename_i hz
      unfold i62 at hz
      exact ⟨i, j, rfl, ⟨by omega, by omega, by omega, by omega⟩, p1 _ η1 H1 (.refl _ _) r1 wkR⟩
    · exact p1.elim
  · exact p1.elim⟩

/-! ### list comprehensions -/
def nrR {α : Type} (r : Res α) : Res α := match r with
  | .raise _ _ _ => .stuck
  | r => r
@[simp] theorem nrR_ok {α : Type} (a : α) (h : Hh) : nrR (.ok a h) = .ok a h := (rfl)
@[simp] theorem nrR_stuck {α : Type} : nrR (.stuck : Res α) = .stuck := (rfl)
open Classical in
noncomputable def lcL (chk : Hh → Prop) (i : Nat) (tt : EM Bool) (te : EM D) (ρ : Env) : List D → Hh → Res (List D)
  | [], h => if chk h then .ok [] h else .stuck
  | d :: l, h => if chk h then (nrR (tt (ρ.set i (some d)) h)).bind fun b h1 => if b = true then (nrR (te (ρ.set i (some d)) h1)).bind fun y h2 => (lcL chk i tt te ρ l h2).bind fun r h3 => .ok (y :: r) h3 else lcL chk i tt te ρ l h1 else .stuck
noncomputable def lcE (mi : EM IT) (i : Nat) (tt : EM Bool) (te : EM D) : EM D := fun ρ h => (mi ρ h).bind fun it h1 => if it.items.length ≤ sizeLine then (lcL it.chk i tt te ρ it.items h1).bind fun l h2 => .ok (.lst l) h2 else .stuck
def tYesE : EM Bool := fun _ h => .ok true h
structure MTs (X : Cx) (W : WX) (ifs : List Expr) (m : EM Bool) : Prop where
  pt : PTs X ifs (tM X W rB m)
abbrev W0 : WX := fun _ _ _ _ => False
theorem mts_nil : MTs X W [] tYesE := ⟨⟨fun pins s σ H Q I q => pts_nil.run pins s σ H Q I (by
  obtain ⟨ρ, η, h, rs, rh, p⟩ := q
  exact Po.ok (R1 := rB) (b := true) p rh rfl)⟩⟩
theorem mts_one {c : Expr} {m : EM Bool} (h : MT X W c m) : MTs X W [c] m := ⟨pts_one h.pt⟩
/-- a part of a block: what it raises is not carried -/
theorem Po.part {X' : Cx} {α β γ δ : Type} {R1 : α → β → Ad → Hp → Prop} {Rz : γ → δ → Ad → Hp → Prop} {m : EM α} {ρ : Env} {k : α → Hh → Res γ} {Q : δ → Hp → Prop} {σ' : L2.St} {η1 : Ad} {H1 : Hp} (eK : X'.K = X.K) (eM : X'.mg = X.mg ∧ X'.w = X.w) (rs : RS X.K η H σ' ρ) (rh : RH X.K X.mg X.w η H h)
    (p : Po X W Rz σ η1 H1 ((nrR (m ρ h)).bind k) Q) : tM X' W0 R1 m σ' H fun b H2 => ∃ a η2 h2, Step η H η2 H2 ∧ RH X.K X.mg X.w η2 H2 h2 ∧ R1 a b η2 H2 ∧ Po X W Rz σ η1 H1 (k a h2) Q := by
  refine ⟨ρ, η, h, by rw [eK]; exact rs, by rw [eK, eM.1, eM.2]; exact rh, ?_⟩
  cases em : m ρ h with
  | ok a h2 =>
    rw [em] at p
    intro b η2 H2 s r q
    rw [eK, eM.1, eM.2] at r
    exact ⟨a, η2, h2, s, r, q, p⟩
  | raise c fs h2 => rw [em] at p; exact p.elim
  | stuck => rw [em] at p; exact p.elim
theorem lc_of {mi : EM IT} {i : Nat} {tt : EM Bool} {te : EM D} {Q : VK} {fin : List D → Hh → Res D}
    (hfin : ∀ (σ : L2.St) (η θ : Ad) (H1 H : Hp) (h : Hh) (p : Addr) (l : List D) (xs : List V) (Q : VK), Step η H1 θ H → H1 p = none → ¬ θ.In p → RH X.K X.mg X.w (θ.hide p) H h → H p = some (.lst xs) → RDs X.K (θ.hide p) H l xs → Po X W (rD X) σ η H1 (fin l h) Q → Q (.ref p) H)
    (q : tM X W (rD X) (fun ρ h => (mi ρ h).bind fun it h1 => if it.items.length ≤ sizeLine then (lcL it.chk i tt te ρ it.items h1).bind fin else .stuck) σ H Q)
    (B : Shared → Hp → Addr → List (Str × Addr) → List Addr → Cx) (eK : ∀ s H C cl fp, (B s H C cl fp).K = X.K) (eM : ∀ s H C cl fp, (B s H C cl fp).mg = X.mg ∧ (B s H C cl fp).w = X.w) (s0 : Shared) (H0 : Hp) (C0 : Addr) (cl0 : List (Str × Addr)) (fp0 : List Addr) :
    tLc (tM X W (Wk X) mi) (gName i) (tM (B s0 H0 C0 cl0 fp0) W0 rB tt) (tM (B s0 H0 C0 cl0 fp0) W0 (rD X) te) [i] σ H Q := by
  obtain ⟨ρ, η, h, rs, rh, p⟩ := q
  have p : Po X W (rD X) σ η H ((mi ρ h).bind fun it h1 => if it.items.length ≤ sizeLine then (lcL it.chk i tt te ρ it.items h1).bind fin else .stuck) Q := p
  refine tM.mono (fun J H1 ⟨it, η1, h1, s1, r1, q1, p1⟩ => ?_) (Po.seq (R1 := Wk X) rs rh p)
  split at p1
  case isFalse => exact p1.elim
  rename_i hsz
  intro pD nD
  -- the slots of the block
  have rsw : RS X.K η1 H1 (σ.set i none) (ρ.set i none) := by
    have rs1 := rs.step s1
    refine ⟨by rw [List.length_set, List.length_set, rs1.len], fun j d e => ?_⟩
    by_cases hj : j = i
    · subst hj
      have hl : j < ρ.length := by
        have := (List.getElem?_eq_some_iff.mp e).1
        rwa [List.length_set] at this
      rw [List.getElem?_set_self hl] at e
      cases e
    · rw [List.getElem?_set_ne (Ne.symm hj)] at e ⊢
      exact rs1.at_ j d e
  refine ⟨fun j k H => ∃ θ h acc xs, Step η1 H1 θ H ∧ RH X.K X.mg X.w (θ.hide pD) H h ∧ H pD = some (.lst xs) ∧ RDs X.K (θ.hide pD) H acc xs ∧ acc.length ≤ j ∧ j + k = it.items.length ∧
    Po X W (rD X) σ η1 H1 ((lcL it.chk i tt te ρ (it.items.drop j) h).bind fun l h2 => fin (acc ++ l) h2) Q,
    ⟨it.items.length, η1, h1, [], [], r1.new1S nD, r1.hidden nD, upd_same, rfl, Nat.le_refl _, Nat.zero_add _, p1⟩, ?_⟩
  rintro j k H ⟨θ, h, acc, xs, st, rh, eD, ra, hj, ek, p⟩
  have nin : ¬ θ.In pD := fun z => by
    rcases st.new pD z with z | z
    · exact r1.nin nD z
    · rcases z' : H1 pD with _ | o
      · rcases ‹θ.In pD› with w | w
        · exact rh.ap pD w List.mem_cons_self
        · rw [st.hid] at w
          obtain ⟨ys, y⟩ := r1.hid pD w
          rw [nD] at y
          cases y
      · rw [z'] at nD
        cases nD
  -- from the state within to the base of the walk
  have stH : Step η1 H1 θ H := st
  cases ed : it.items.drop j with
  | nil =>
    rw [ed] at p
    unfold lcL at p
    split at p
    · rename_i hc
      have hi : j = it.items.length := by
        have := congrArg List.length ed
        rw [List.length_drop, List.length_nil] at this
        omega
      subst hi
      have p : Po X W (rD X) σ η1 H1 (fin (acc ++ []) h) Q := p
      rw [List.append_nil] at p
      refine .inl ⟨(q1 θ H h st.toStw rh.shown hc).1, ?_⟩
      exact hfin σ η1 θ H1 H h pD acc xs Q st nD nin rh eD ra p
    · exact p.elim
  | cons d l =>
    rw [ed] at p
    unfold lcL at p
    split at p
    · rename_i hc
      have hl : j < it.items.length := by
        have := congrArg List.length ed
        rw [List.length_drop, List.length_cons] at this
        omega
      have hd : it.items[j]? = some d ∧ it.items.drop (j + 1) = l := by
        rw [List.drop_eq_getElem_cons hl] at ed
        injection ed with e1 e2
        exact ⟨by rw [List.getElem?_eq_getElem hl, e1], e2⟩
      have stw : Stw η1 H1 (θ.hide pD) H := ⟨st.pre, fun b hb => by
        rcases In_hide.mp hb with z | z
        · exact st.new b z
        · rw [z]
          exact .inr nD, st.keep, st.tup⟩
      obtain ⟨go, yl⟩ := (q1 (θ.hide pD) H h stw rh hc).2 j d hd.1
      refine .inr ⟨go, fun H' => ∃ θ h acc xs, Step η1 H1 θ H' ∧ RH X.K X.mg X.w (θ.hide pD) H' h ∧ H' pD = some (.lst xs) ∧ RDs X.K (θ.hide pD) H' acc xs ∧ acc.length ≤ j + 1 ∧
        Po X W (rD X) σ η1 H1 ((lcL it.chk i tt te ρ l h).bind fun l h2 => fin (acc ++ l) h2) Q, fun H' ⟨θ, h, acc, xs, a1, a2, a3, a4, a5, a6⟩ => ⟨k - 1, by omega, θ, h, acc, xs, a1, a2, a3, a4, a5, by omega, by rw [hd.2]; exact a6⟩, fun x H' y => ?_⟩
      obtain ⟨sm, rd⟩ := yl x H' y
      obtain ⟨s2, r2⟩ := rh.same sm
      have eD2 := sm _ _ eD
      obtain ⟨θ2, eθ2, st2⟩ := st.under nD s2
      have eθ : θ2 = θ := by
        have e1 := congrArg Ad.c eθ2
        have e2 := congrArg Ad.d eθ2
        cases θ2
        cases θ
        simp only [Ad.hide, List.cons.injEq, true_and] at e1 e2
        rw [e1, e2]
      subst eθ
      have e0 : wipe σ [i] = σ.set i none := rfl
      have rs2 : RS X.K (θ2.hide pD) H' ((wipe σ [i]).set i (some x)) (ρ.set i (some d)) := by
        have z := (rsw.stw stw).stw s2.toStw
        have z2 := z.set i rd
        rw [List.set_set, List.set_set] at z2
        show RS X.K (θ2.hide pD) H' ((σ.set i none).set i (some x)) _
        rw [List.set_set]
        exact z2
      refine ⟨?_, ?_⟩
      · show ((wipe σ [i]).set i (some x)).set i none = σ.set i none
        rw [e0, List.set_set, List.set_set]
      · rw [bind_assoc] at p
        refine tM.mono (fun b H3 ⟨c, η3, h3, s3, r3, q3, p3⟩ => ?_) (Po.part (R1 := rB) (eK s0 H0 C0 cl0 fp0) (eM s0 H0 C0 cl0 fp0) rs2 r2 p)
        obtain ⟨θ3, rfl, st3⟩ := st2.under nD s3
        have q3 : c = b := q3
        subst q3
        have eD3 : H3 pD = some (.lst xs) := (s3.kh pD List.mem_cons_self).trans eD2
        have ra3 := (ra.step s2).step s3
        cases c with
        | false =>
          exact ⟨θ3, h3, acc, xs, st3, r3, eD3, ra3, by omega, p3⟩
        | true =>
          have p3 : Po X W (rD X) σ η1 H1 (((nrR (te (ρ.set i (some d)) h3)).bind fun y h2 => (lcL it.chk i tt te ρ l h2).bind fun r h3 => .ok (y :: r) h3).bind fun l h2 => fin (acc ++ l) h2) Q := p3
          rw [bind_assoc] at p3
          refine tM.mono (fun v H4 ⟨yd, η4, h4, s4, r4, q4, p4⟩ => ?_) (Po.part (R1 := rD X) (eK s0 H0 C0 cl0 fp0) (eM s0 H0 C0 cl0 fp0) (rs2.step s3) r3 p3)
          obtain ⟨θ4, rfl, st4⟩ := st3.under nD s4
          have eD4 : H4 pD = some (.lst xs) := (s4.kh pD List.mem_cons_self).trans eD3
          have ra4 := ra3.step s4
          have hl2 := ra4.length
          have q4 : RD X.K (θ4.hide pD) H4 yd v := q4
          refine ⟨xs, eD4, by omega, θ4, h4, acc ++ [yd], xs ++ [v], st4.grown nD r1.hid eD4, r4.grown eD4, upd_same, RDs.stw (.grown eD4) _ _ (ra4.app ⟨v, [], rfl, q4, rfl⟩), by rw [List.length_append]; simp; omega, ?_⟩
          rw [bind_assoc] at p4
          have e4 : ∀ (r : Res (List D)), (r.bind fun r h3 => (Res.ok (yd :: r) h3).bind fun l h2 => fin (acc ++ l) h2) = r.bind fun l h2 => fin (acc ++ [yd] ++ l) h2 := fun r => by
            cases r with
            | ok a b => simp
            | _ => rfl
          rw [e4] at p4
          exact p4
    · exact p.elim
theorem fin_lst : ∀ (σ : L2.St) (η θ : Ad) (H1 H : Hp) (h : Hh) (p : Addr) (l : List D) (xs : List V) (Q : VK), Step η H1 θ H → H1 p = none → ¬ θ.In p → RH X.K X.mg X.w (θ.hide p) H h → H p = some (.lst xs) → RDs X.K (θ.hide p) H l xs → Po X W (rD X) σ η H1 ((fun l h => .ok (.lst l) h) l h) Q → Q (.ref p) H :=
  fun σ η θ H1 H h p l xs Q s n i r e t q => q (.ref p) θ H s r.shown ⟨p, xs, rfl, e, i, RDs.sub (η := θ.hide p) (η' := θ) rfl Stw.shown _ _ t⟩
theorem fin_new : ∀ (σ : L2.St) (η θ : Ad) (H1 H : Hp) (h : Hh) (p : Addr) (l : List D) (xs : List V) (Q : VK), Step η H1 θ H → H1 p = none → ¬ θ.In p → RH X.K X.mg X.w (θ.hide p) H h → H p = some (.lst xs) → RDs X.K (θ.hide p) H l xs → Po X W (rD X) σ η H1 (newL l h) Q → Q (.ref p) H :=
  fun σ η θ H1 H h p l xs Q s n i r e t q => by
  have sw : Stw (θ.hide p) H (θ.push p) H := ⟨⟨[p], rfl⟩, fun b hb => by
    rcases hb with z | z
    · rcases List.mem_append.mp z with z | z
      · exact .inl (.inl z)
      · exact .inl (In_hide.mpr (.inr (List.mem_singleton.mp z)))
    · exact .inl (In_hide.mpr (.inl (.inr z))), fun _ _ _ z => z, fun _ _ z => z⟩
  have st : Step η H1 (θ.push p) H := ⟨⟨by
    obtain ⟨z, ez⟩ := s.pre
    exact ⟨z ++ [p], by show θ.c ++ [p] = _; rw [ez, List.append_assoc]⟩, fun b hb => by
    rcases hb with z | z
    · rcases List.mem_append.mp z with z | z
      · exact s.new b (.inl z)
      · rw [List.mem_singleton.mp z]
        exact .inr n
    · exact s.new b (.inr z), s.keep, s.tup⟩, s.hid, s.kh⟩
  refine q (.ref p) (θ.push p) H st ⟨?_, ?_, ?_, ?_, ?_⟩ ⟨p, ?_, rfl⟩
  · show (θ.c ++ [p]).length = _
    rw [List.length_append, List.length_append, r.shown.len]
    rfl
  · show (θ.c ++ [p]).Nodup
    rw [List.nodup_append]
    refine ⟨r.nd, by simp, fun x hx y hy => ?_⟩
    rw [List.mem_singleton.mp hy]
    exact fun z => i (.inl (z ▸ hx))
  · intro b hb
    rcases List.mem_append.mp hb with z | z
    · exact r.shown.ap b z
    · rw [List.mem_singleton.mp z]
      exact fun w => i (.inr w)
  · exact fun b hb => r.shown.hid b hb
  · intro j b o e1 e2
    have e1 : (θ.c ++ [p])[j]? = some b := e1
    have hlen := r.shown.len
    by_cases q : j < θ.c.length
    · rw [List.getElem?_append_left q] at e1
      rw [List.getElem?_append_left (by rw [← hlen]; exact q)] at e2
      exact (r.ob j b o e1 e2).stw sw fun _ z => z
    · rw [List.getElem?_append_right (by omega)] at e1
      rw [List.getElem?_append_right (by omega)] at e2
      rw [hlen] at e1
      have h0 : j - h.length = 0 := by
        have := (List.getElem?_eq_some_iff.mp e1).1
        simpa using this
      rw [h0] at e1 e2
      cases e1
      cases e2
      exact ⟨xs, e, RDs.stw sw _ _ t⟩
  · show (θ.c ++ [p])[h.length]? = _
    rw [← r.shown.len]
    simp
/-- the list is to change later -/
noncomputable def lcM (mi : EM IT) (i : Nat) (tt : EM Bool) (te : EM D) : EM D := fun ρ h => (mi ρ h).bind fun it h1 => if it.items.length ≤ sizeLine then (lcL it.chk i tt te ρ it.items h1).bind newL else .stuck
section
variable {elt iter : Expr} {ifs : List Expr} {scope : Scope} {x : Str} {px : Pos} {mi : EM IT} {tt : EM Bool} {te : EM D}
theorem me_lc (gx : GX X W) (i : Nat) (hi : MI X W (.Name x px) iter mi) (ok : BlkOk X.N X.env.scope scope [(x, i)])
    (hg : ∀ (s : Shared) (H : Hp) (C : Addr) (cl : List (Str × Addr)) (fp : List Addr), PG (X.blk s H scope (compEnvC scope cl C X.env) fp) (.Name x px) (gName i))
    (ht : ∀ (s : Shared) (H : Hp) (C : Addr) (cl : List (Str × Addr)) (fp : List Addr), MTs (X.blk s H scope (compEnvC scope cl C X.env) fp) W0 ifs tt)
    (he : ∀ (s : Shared) (H : Hp) (C : Addr) (cl : List (Str × Addr)) (fp : List Addr), ME (X.blk s H scope (compEnvC scope cl C X.env) fp) W0 elt te) (hs : ∀ x, foldedSetIterable iter X.env x = pure x := by intro _; rfl) :
    ME X W (.ListComp elt [⟨.Name x px, iter, ifs, 0⟩] scope pos) (lcE mi i tt te) :=
  ⟨PE.wk (pe_lc (own := [(x, i)]) (tt := tM X W0 rB tt) (te := tM X W0 (rD X) te) gx.calm gx.nd hi.pi ok hg (fun s H C cl fp => (ht s H C cl fp).pt) (fun s H C cl fp => (he s H C cl fp).pe) hs) fun σ H Q q =>
    lc_of fin_lst q (fun _ _ _ _ _ => X) (fun _ _ _ _ _ => rfl) (fun _ _ _ _ _ => ⟨rfl, rfl⟩) {} H 0 [] []⟩
theorem me_lcM (gx : GX X W) (i : Nat) (hi : MI X W (.Name x px) iter mi) (ok : BlkOk X.N X.env.scope scope [(x, i)])
    (hg : ∀ (s : Shared) (H : Hp) (C : Addr) (cl : List (Str × Addr)) (fp : List Addr), PG (X.blk s H scope (compEnvC scope cl C X.env) fp) (.Name x px) (gName i))
    (ht : ∀ (s : Shared) (H : Hp) (C : Addr) (cl : List (Str × Addr)) (fp : List Addr), MTs (X.blk s H scope (compEnvC scope cl C X.env) fp) W0 ifs tt)
    (he : ∀ (s : Shared) (H : Hp) (C : Addr) (cl : List (Str × Addr)) (fp : List Addr), ME (X.blk s H scope (compEnvC scope cl C X.env) fp) W0 elt te) (hs : ∀ x, foldedSetIterable iter X.env x = pure x := by intro _; rfl) :
    ME X W (.ListComp elt [⟨.Name x px, iter, ifs, 0⟩] scope pos) (lcM mi i tt te) :=
  ⟨PE.wk (pe_lc (own := [(x, i)]) (tt := tM X W0 rB tt) (te := tM X W0 (rD X) te) gx.calm gx.nd hi.pi ok hg (fun s H C cl fp => (ht s H C cl fp).pt) (fun s H C cl fp => (he s H C cl fp).pe) hs) fun σ H Q q =>
    lc_of fin_new q (fun _ _ _ _ _ => X) (fun _ _ _ _ _ => rfl) (fun _ _ _ _ _ => ⟨rfl, rfl⟩) {} H 0 [] []⟩
theorem setLc_of {j : Nat} {m : EM D} {t : TE} {E : Ends} (hq : ∀ Q, tM X W (rD X) m σ H Q → t σ H Q) (q : tS X W (setS j m) E σ H) : tAsg t (gName j) E σ H := by
  obtain ⟨ρ, η, h, rs, rh, p⟩ := q
  refine hq _ ?_
  refine tM.mono (fun x H1 ⟨d, η1, h1, s1, r1, q1, p1⟩ => ?_) (PoS.seq (R1 := rD X) rs rh p)
  exact p1 _ η1 H1 (.refl _ _) ((rs.step s1).set j q1) r1
/-- y = [..] -/
theorem ms_setLc (gx : GX X W) (j i : Nat) {y : Str} {py spos : Pos} (hi : MI X W (.Name x px) iter mi) (ok : BlkOk X.N X.env.scope scope [(x, i)])
    (hg : ∀ (s : Shared) (H : Hp) (C : Addr) (cl : List (Str × Addr)) (fp : List Addr), PG (X.blk s H scope (compEnvC scope cl C X.env) fp) (.Name x px) (gName i))
    (ht : ∀ (s : Shared) (H : Hp) (C : Addr) (cl : List (Str × Addr)) (fp : List Addr), MTs (X.blk s H scope (compEnvC scope cl C X.env) fp) W0 ifs tt)
    (he : ∀ (s : Shared) (H : Hp) (C : Addr) (cl : List (Str × Addr)) (fp : List Addr), ME (X.blk s H scope (compEnvC scope cl C X.env) fp) W0 elt te)
    (hsw : swapsWith (.ListComp elt [⟨.Name x px, iter, ifs, 0⟩] scope pos) (some (.Name y py)) spos.line X.env = pure true) (hy : X.N[j]? = some y := by rfl) (hyl : X.env.scope.names.lookup y = some .local := by rfl)
    (hs : ∀ x, foldedSetIterable iter X.env x = pure x := by intro _; rfl) :
    MS X W (.Assign [.Name y py] (.ListComp elt [⟨.Name x px, iter, ifs, 0⟩] scope pos) spos) (setS j (lcE mi i tt te)) :=
  ⟨PS.wk (ps_setLc (own := [(x, i)]) (tt := tM X W0 rB tt) (te := tM X W0 (rD X) te) gx.calm gx.nd hy hyl hsw hi.pi ok hg (fun s H C cl fp => (ht s H C cl fp).pt) (fun s H C cl fp => (he s H C cl fp).pe) hs) fun E σ H q =>
    setLc_of (fun Q z => lc_of fin_lst z (fun _ _ _ _ _ => X) (fun _ _ _ _ _ => rfl) (fun _ _ _ _ _ => ⟨rfl, rfl⟩) {} H 0 [] []) q⟩
theorem ms_setLcM (gx : GX X W) (j i : Nat) {y : Str} {py spos : Pos} (hi : MI X W (.Name x px) iter mi) (ok : BlkOk X.N X.env.scope scope [(x, i)])
    (hg : ∀ (s : Shared) (H : Hp) (C : Addr) (cl : List (Str × Addr)) (fp : List Addr), PG (X.blk s H scope (compEnvC scope cl C X.env) fp) (.Name x px) (gName i))
    (ht : ∀ (s : Shared) (H : Hp) (C : Addr) (cl : List (Str × Addr)) (fp : List Addr), MTs (X.blk s H scope (compEnvC scope cl C X.env) fp) W0 ifs tt)
    (he : ∀ (s : Shared) (H : Hp) (C : Addr) (cl : List (Str × Addr)) (fp : List Addr), ME (X.blk s H scope (compEnvC scope cl C X.env) fp) W0 elt te)
    (hsw : swapsWith (.ListComp elt [⟨.Name x px, iter, ifs, 0⟩] scope pos) (some (.Name y py)) spos.line X.env = pure true) (hy : X.N[j]? = some y := by rfl) (hyl : X.env.scope.names.lookup y = some .local := by rfl)
    (hs : ∀ x, foldedSetIterable iter X.env x = pure x := by intro _; rfl) :
    MS X W (.Assign [.Name y py] (.ListComp elt [⟨.Name x px, iter, ifs, 0⟩] scope pos) spos) (setS j (lcM mi i tt te)) :=
  ⟨PS.wk (ps_setLc (own := [(x, i)]) (tt := tM X W0 rB tt) (te := tM X W0 (rD X) te) gx.calm gx.nd hy hyl hsw hi.pi ok hg (fun s H C cl fp => (ht s H C cl fp).pt) (fun s H C cl fp => (he s H C cl fp).pe) hs) fun E σ H q =>
    setLc_of (fun Q z => lc_of fin_new z (fun _ _ _ _ _ => X) (fun _ _ _ _ _ => rfl) (fun _ _ _ _ _ => ⟨rfl, rfl⟩) {} H 0 [] []) q⟩
end

/-! ### a def -/
/-- a def's promise, by what it does on values -/
def spM (K : PySem.W.Frag) (mg : Str → Option Value) (w : World) (n : Nat) (f : List D → Hh → Res D) : Sp := fun vs H Q E => ∃ ds η h, ds.length = n ∧ RH K mg w η H h ∧ RDs K η H ds vs ∧ (match f ds h with
  | .ok d h' => ∀ v η' H', Step η H η' H' → RH K mg w η' H' h' → RD K η' H' d v → Q v H'
  | .raise c fs h' => ∀ η' H' C dx, Step η H η' H' → RH K mg w η' H' h' → mg c = some (.ref C) → RE K η' H' dx fs → E (.ref C) dx H'
  | .stuck => False)
def endF : SR → Res D
  | .nx _ h => .ok .non h
  | .ret d h => .ok d h
  | .rs c fs _ h => .raise c fs h
  | _ => .stuck
/-- its body, N slots -/
def defF (N : Nat) (b : SS) : List D → Hh → Res D := fun ds h => endF (b (ds.map some ++ List.replicate (N - ds.length) none) h)
theorem rs_start {K : PySem.W.Frag} {N : List Str} {vs : List V} {ds : List D} (r : RDs K η H ds vs) : RS K η H (L2.start N vs) (ds.map some ++ List.replicate (N.length - ds.length) none) := by
  have hl := r.length
  refine ⟨by unfold L2.start; rw [List.length_append, List.length_append, List.length_map, List.length_map, List.length_replicate, List.length_replicate, hl], fun i d e => ?_⟩
  unfold L2.start
  by_cases hi : i < ds.length
  · rw [List.getElem?_append_left (by rw [List.length_map]; exact hi), List.getElem?_map] at e
    cases q : ds[i]? with
    | none => rw [q] at e; cases e
    | some d' =>
      rw [q] at e
      cases e
      obtain ⟨v, ev, rd⟩ := r.get q
      exact ⟨v, by rw [List.getElem?_append_left (by rw [List.length_map, hl]; exact hi), List.getElem?_map, ev]; rfl, rd⟩
  · rw [List.getElem?_append_right (by rw [List.length_map]; omega), List.getElem?_replicate] at e
    split at e <;> cases e
section
variable {P : Program} {w : World} {K : PySem.W.Frag} {mg : Str → Option Value} {base : Heap}
theorem _root_.L2.Fun.okN {x qual : Str} {st : Stmt} {f : Addr} {fd : FuncData} {N ps : List Str} {k : Nat} {sp : Sp} (F : Fun K x qual st f fd) (S : FnScope N ps (defScope st)) (len : ∀ vs H Q E, sp vs H Q E → vs.length = ps.length)
    (hbody : ∀ (cdv : Value) (A : Around) (outer : List PySem.Env) (s : Shared) (H : Hp) (vs : List V) (Q : VK) (E : XK), Room k (A.deeper (envOfC qual (defScope st) s.heap.objs.size f cdv)) → sp vs H Q E →
      ∃ t, PSs (cxOf (L2N.CX P w) P w K mg base N qual (defScope st) f cdv A outer s H E) (defBody st) t ∧ t { nx := fun _ H' => Q .non H', rt := Q } (L2.start N vs) H) : FnOk P w K mg base (L2N.CX P w) (k + 1) f fd ps sp := by
  obtain ⟨oc, od, kV, doc, pm, an, cdv, ct, osl, rfl, lk, hcd⟩ := F.ex
  exact fn_of lk hcd S len fun A outer s H vs Q E hr hsp => hbody cdv A outer s H vs Q E hr hsp
/-- THE RULE for a def -/
theorem fn_ok {x qual : Str} {st : Stmt} {f : Addr} {fd : FuncData} {N ps : List Str} {k : Nat} {b : SS} (F : Fun K x qual st f fd) (S : FnScope N ps (defScope st))
    (hb : ∀ (cdv : Value) (A : Around) (outer : List PySem.Env) (s : Shared) (H : Hp) (E : XK), Room k (A.deeper (envOfC qual (defScope st) s.heap.objs.size f cdv)) →
      GX (cxOf (L2N.CX P w) P w K mg base N qual (defScope st) f cdv A outer s H E) (fun cls d _ H => E cls d H) →
      MB (cxOf (L2N.CX P w) P w K mg base N qual (defScope st) f cdv A outer s H E) (fun cls d _ H => E cls d H) (defBody st) b) : FnOk P w K mg base (L2N.CX P w) (k + 1) f fd ps (spM K mg w ps.length (defF N.length b)) := by
  refine F.okN S (fun vs H Q E h => ?_) fun cdv A outer s H vs Q E hr h => ?_
  · obtain ⟨ds, η, h, hl, _, r, _⟩ := h
    rw [r.length, hl]
  · obtain ⟨ds, η, h, hl, rh, r, q⟩ := h
    refine ⟨_, (hb cdv A outer s H E hr ⟨⟨L2N.takes_of rfl rfl rfl rfl, passes_of rfl, S.nd, by have := hr.un; show (A.deeper _).units + 65 < cLine; omega⟩, rfl⟩).ps, ?_⟩
    refine ⟨_, η, h, rs_start r, rh, ?_⟩
    unfold defF at q
    cases eb : b (ds.map some ++ List.replicate (N.length - ds.length) none) h with
    | nx ρ h' => rw [eb] at q; exact fun σ' η' H' s a c => q .non η' H' s c rfl
    | ret d h' => rw [eb] at q; exact q
    | rs c fs ρ h' => rw [eb] at q; exact fun σ' η' H' C dx s a r m e => q η' H' C dx s r m e
    | bk ρ h' => rw [eb] at q; exact q.elim
    | ct ρ h' => rw [eb] at q; exact q.elim
    | stuck => rw [eb] at q; exact q.elim
/-- f(e, ..) -/
theorem me_call (gx : GX X W) {k : Nat} {f : Addr} {fd : FuncData} {ps : List Str} {n : Nat} {g : List D → Hh → Res D} {x : Str} {p : Pos} {es : List Expr} {ms : EM (List D)} (F : FnOk X.prog X.w X.K X.mg X.base (L2N.CX X.prog X.w) k f fd ps (spM X.K X.mg X.w n g)) (hr : Room k X.A)
    (hg : Gl X x) (hm : X.mg x = some (.ref f)) (hk : PySem.W.keepIn X.K (.ref f) = true) (hb : Binds X.K fd ps []) (ha : MA X W (e :: es) ms) (hn : (e :: es).length = n := by rfl) (hdb : (x == ("__debug__" : Str)) = false := by decide)
    (he : starEach (e :: es) X.env = (false, eval e X.env) :: starEach es X.env := by rfl) (hpl : (backTo pos (starEach es X.env)).any (·.1) = false := by rfl) : ME X W (.Call (.Name x p) (e :: es) [] pos) (callE g ms) :=
  ⟨PE.wk (pe_callS (E := WE W) F hr hg hm hk hb (L2N.passAt gx.tk) ha.pa hdb he hpl) fun σ H Q q => by
  refine tM.mono (fun xs H1 ⟨ρ, l, η1, h1, rs, r1, q1, e1, p1⟩ => ?_) (tM.args ha q)
  refine ⟨l, η1, h1, by rw [← q1.length, e1, hn], r1, q1, ?_⟩
  cases eg : g l h1 with
  | ok d h2 => rw [eg] at p1; exact fun v η' H' s r rd => p1 v η' H' s r rd
  | raise c fs h2 => rw [eg] at p1; exact p1
  | stuck => rw [eg] at p1; exact p1⟩
end
end
end Ev

/-! EvI: zip, enumerate. -/
namespace Ev
open PySem PySem.Spec PyProof.Rows L2
section
variable {X : Cx} {W : WX} {σ : L2.St} {η : Ad} {H : Hp} {h : Hh} {E : Ends} {e e2 : Expr} {pos tpos p : Pos} {elts : List Expr} {kk : Nat}
def zipL : List D → List D → List D
  | x :: l, y :: m => .tup [x, y] :: zipL l m
  | _, _ => []
theorem zipL_get : ∀ (l m : List D) (i : Nat) (d : D), (zipL l m)[i]? = some d → ∃ x y, l[i]? = some x ∧ m[i]? = some y ∧ d = .tup [x, y]
  | x :: l, y :: m, 0, d, e => ⟨x, y, rfl, rfl, (Option.some.inj e).symm⟩
  | x :: l, y :: m, i + 1, d, e => zipL_get l m i d e
  | [], _, _, _, e => by simp [zipL] at e
  | _ :: _, [], _, _, e => by simp [zipL] at e
theorem zipL_length : ∀ (l m : List D), l.length ≤ (zipL l m).length ∨ m.length ≤ (zipL l m).length
  | x :: l, y :: m => by
    rcases zipL_length l m with z | z
    · exact .inl (Nat.succ_le_succ z)
    · exact .inr (Nat.succ_le_succ z)
  | [], _ => .inl (Nat.zero_le _)
  | _ :: _, [] => .inr (Nat.zero_le _)
def zipD (l : List D) (h : Hh) : Res IT := match l with
  | [.lst l, .lst m] => .ok ⟨zipL l m, none⟩ h
  | [.tup l, .tup m] => .ok ⟨zipL l m, none⟩ h
  | _ => .stuck
def zipI (ms : EM (List D)) : EM IT := fun ρ h => (ms ρ h).bind zipD
theorem pair_rd {K : PySem.W.Frag} {mg : Str → Option Value} {w : World} {T : Addr} {a b : D} {x y : V} (r : RH K mg w η H h) (n : H T = none) (ra : RD K η H a x) (rb : RD K η H b y) : Same H (upd H T (.tup [x, y])) ∧ RD K η (upd H T (.tup [x, y])) (.tup [a, b]) (.ref T) := by
  have s := r.new1S (o := .tup [x, y]) n
  exact ⟨fun c o q => by rw [upd_ne (ne_of_none q n)]; exact q, T, [x, y], rfl, .inl (.inl upd_same), x, [y], rfl, ra.step s, y, [], rfl, rb.step s, rfl⟩
theorem mi_zip {ms : EM (List D)} (hg : Gl X "zip") (hm : X.mg "zip" = none) (ha : MA X W [e, e2] ms)
    (hs : starEach [e, e2] X.env = (false, eval e X.env) :: starEach [e2] X.env := by rfl) (hpl : (backTo pos (starEach [e2] X.env)).any (·.1) = false := by rfl) : MI X W (.Tuple elts kk tpos) (.Call (.Name "zip" p) [e, e2] [] pos) (zipI ms) :=
  ⟨PI.wk (RZ.pi_zipA hg hm ha.pa hs hpl) fun σ H R q => by
  refine tM.mono (fun xs H1 ⟨l, η1, h1, r1, q1, hl, p1⟩ => ?_) (tMI.args ha q)
  unfold zipD at p1
  split at p1
  · rename_i l m
    obtain ⟨v, w', rfl, ⟨a, xs, rfl, qa, na, ta⟩, b, ys, rfl, qb, nb, tb⟩ := rds2 q1
    refine ⟨a, b, xs, ys, rfl, .inl ⟨.of qa, .of qb, p1 _ η1 H1 (.refl _ _) r1 fun η' H' h' s r c => ?_⟩⟩
    have qa' : SqL X.K H' a xs := .of (s.keep _ _ na qa)
    have qb' : SqL X.K H' b ys := .of (s.keep _ _ nb qb)
    have ta' := ta.stw s
    have tb' := tb.stw s
    refine ⟨⟨xs, ys, qa', qb', by rw [ta'.length, tb'.length]; exact zipL_length l m⟩, fun i d ed => ?_⟩
    obtain ⟨dx, dy, e1, e2, rfl⟩ := zipL_get l m i d ed
    obtain ⟨x, ex, rx⟩ := ta'.get e1
    obtain ⟨y, ey, ry⟩ := tb'.get e2
    refine ⟨⟨xs, ys, x, y, qa', qb', ex, ey⟩, fun v H'' ⟨T, x', y', e3, n, e4, e5, e6⟩ => ?_⟩
    have e5 := e5 xs qa'
    have e6 := e6 ys qb'
    rw [ex] at e5
    rw [ey] at e6
    cases e5
    cases e6
    subst e3 e4
    exact pair_rd r n rx ry
  · rename_i l m
    obtain ⟨v, w', rfl, ⟨a, xs, rfl, qa, ta⟩, b, ys, rfl, qb, tb⟩ := rds2 q1
    refine ⟨a, b, xs, ys, rfl, .inr ⟨qa, qb, p1 _ η1 H1 (.refl _ _) r1 fun η' H' h' s r c => ?_⟩⟩
    have qa' := s.sqT qa
    have qb' := s.sqT qb
    have ta' := ta.stw s
    have tb' := tb.stw s
    refine ⟨⟨xs, ys, qa', qb', by rw [ta'.length, tb'.length]; exact zipL_length l m⟩, fun i d ed => ?_⟩
    obtain ⟨dx, dy, e1, e2, rfl⟩ := zipL_get l m i d ed
    obtain ⟨x, ex, rx⟩ := ta'.get e1
    obtain ⟨y, ey, ry⟩ := tb'.get e2
    refine ⟨⟨xs, ys, x, y, qa', qb', ex, ey⟩, fun v H'' ⟨T, x', y', e3, n, e4, e5, e6⟩ => ?_⟩
    have e5 := e5 xs qa'
    have e6 := e6 ys qb'
    rw [ex] at e5
    rw [ey] at e6
    cases e5
    cases e6
    subst e3 e4
    exact pair_rd r n rx ry
  · exact p1.elim⟩
def enumL : Nat → List D → List D
  | _, [] => []
  | n, x :: l => .tup [.int n, x] :: enumL (n + 1) l
theorem enumL_get : ∀ (n : Nat) (l : List D) (i : Nat) (d : D), (enumL n l)[i]? = some d → ∃ x, l[i]? = some x ∧ d = .tup [.int ((n + i : Nat) : Int), x]
  | n, x :: l, 0, d, e => ⟨x, rfl, (Option.some.inj e).symm⟩
  | n, x :: l, i + 1, d, e => by
    obtain ⟨y, e1, e2⟩ := enumL_get (n + 1) l i d e
    exact ⟨y, e1, by rw [e2, show n + 1 + i = n + (i + 1) by omega]⟩
  | n, [], _, _, e => by simp [enumL] at e
theorem enumL_length : ∀ (n : Nat) (l : List D), (enumL n l).length = l.length
  | _, [] => rfl
  | n, x :: l => by rw [enumL, List.length_cons, List.length_cons, enumL_length]
def enumD (l : List D) (h : Hh) : Res IT := match l with
  | [.lst l] => .ok ⟨enumL 0 l, none⟩ h
  | _ => .stuck
def enumI (ms : EM (List D)) : EM IT := fun ρ h => (ms ρ h).bind enumD
theorem mi_enum {ms : EM (List D)} (hg : Gl X "enumerate") (hm : X.mg "enumerate" = none) (ha : MA X W [e] ms) (hs : starEach [e] X.env = [(false, eval e X.env)] := by rfl) : MI X W (.Tuple elts kk tpos) (.Call (.Name "enumerate" p) [e] [] pos) (enumI ms) :=
  ⟨PI.wk (pi_enum hg hm ha.pa hs) fun σ H R q => by
  refine tM.mono (fun xs H1 ⟨l, η1, h1, r1, q1, hl, p1⟩ => ?_) (tMI.args ha q)
  unfold enumD at p1
  split at p1
  · rename_i l
    obtain ⟨v, rfl, a, xs, rfl, qa, na, ta⟩ := rds1 q1
    refine ⟨a, xs, rfl, .of qa, p1 _ η1 H1 (.refl _ _) r1 fun η' H' h' s r c => ?_⟩
    have qa' : SqL X.K H' a xs := .of (s.keep _ _ na qa)
    have ta' := ta.stw s
    refine ⟨⟨xs, qa', by rw [ta'.length]; show l.length ≤ (enumL 0 l).length; rw [enumL_length]; exact Nat.le_refl _⟩, fun i d ed => ?_⟩
    obtain ⟨dx, e1, rfl⟩ := enumL_get 0 l i d ed
    obtain ⟨x, ex, rx⟩ := ta'.get e1
    refine ⟨⟨xs, x, qa', ex⟩, fun v H'' ⟨T, x', e3, n, e4, e5⟩ => ?_⟩
    have e5 := e5 xs qa'
    rw [ex] at e5
    cases e5
    subst e3 e4
    refine pair_rd r n ?_ rx
    rw [Nat.zero_add]
    rfl
  · exact p1.elim⟩

/-! ### short rules -/
theorem takes0N {X : Cx} : L2N.Takes X (fun _ _ _ _ => False) := fun _ _ ⟨_, _, _, _, _, _, _, _, _, _, _, _, _, _, _, _, w⟩ => w.elim
theorem GX.blk (gx : GX X W) (s : Shared) (H : Hp) (scope : Scope) (env : PySem.Env) (fp : List Addr) : GX (X.blk s H scope env fp) W0 :=
  ⟨⟨takes0N, PassesOwn.never, gx.nd, gx.un⟩, gx.calm⟩
variable {a b c : Expr} {ma mb mc : EM D}
theorem me_add (ha : ME X W a ma) (hb : ME X W b mb) : ME X W (.BinOp a .Add b pos) (binE addD ma mb) := me_op op_addAll od_add ha hb
theorem me_sub (ha : ME X W a ma) (hb : ME X W b mb) : ME X W (.BinOp a .Sub b pos) (binE subD ma mb) := me_op op_sub od_sub ha hb
theorem me_mul (ha : ME X W a ma) (hb : ME X W b mb) : ME X W (.BinOp a .Mult b pos) (binE mulD ma mb) := me_op op_mulAll od_mul ha hb
theorem me_mod (ha : ME X W a ma) (hb : ME X W b mb) : ME X W (.BinOp a .Mod b pos) (binE modD ma mb) := me_op op_mod od_mod ha hb
theorem me_fdiv (ha : ME X W a ma) (hb : ME X W b mb) : ME X W (.BinOp a .FloorDiv b pos) (binE fdivD ma mb) := me_op op_fdiv od_fdiv ha hb
theorem me_pow (ha : ME X W a ma) (hb : ME X W b mb) : ME X W (.BinOp a .Pow b pos) (binE powD ma mb) := me_op op_pow od_pow ha hb
theorem me_neg (ha : ME X W a ma) : ME X W (.UnaryOp .USub a pos) (unE negD ma) := me_un un_neg ud_neg ha
theorem me_lt (gx : GU X W) (ha : ME X W a ma) (hb : ME X W b mb) : ME X W (.Compare a [.Lt] [b] pos) (binE ltD ma mb) := me_cmpR (op_ltAll (by have := gx.un; omega)) od_lt ha hb (nomark _)
theorem me_le (ha : ME X W a ma) (hb : ME X W b mb) : ME X W (.Compare a [.LtE] [b] pos) (binE leD ma mb) := me_cmpR op_le od_cmpI ha hb (nomark _)
theorem me_gt (ha : ME X W a ma) (hb : ME X W b mb) : ME X W (.Compare a [.Gt] [b] pos) (binE gtD ma mb) := me_cmpR op_gt od_cmpI ha hb (nomark _)
theorem me_ge (ha : ME X W a ma) (hb : ME X W b mb) : ME X W (.Compare a [.GtE] [b] pos) (binE geD ma mb) := me_cmpR op_ge od_cmpI ha hb (nomark _)
theorem me_eq (gx : GU X W) (ha : ME X W a ma) (hb : ME X W b mb) : ME X W (.Compare a [.Eq] [b] pos) (binE eqD ma mb) := me_cmpR (op_eqAll (by have := gx.un; omega)) od_eq ha hb (nomark _)
theorem me_ne (gx : GU X W) (ha : ME X W a ma) (hb : ME X W b mb) : ME X W (.Compare a [.NotEq] [b] pos) (binE neD ma mb) := me_cmpR (op_neAll (by have := gx.un; omega)) od_ne ha hb (nomark _)
theorem me_is (ha : ME X W a ma) (hb : ME X W b mb) : ME X W (.Compare a [.Is] [b] pos) (binE isD ma mb) := me_cmpR op_isN od_is ha hb (nomark _)
theorem me_isnt (ha : ME X W a ma) (hb : ME X W b mb) : ME X W (.Compare a [.IsNot] [b] pos) (binE isntD ma mb) := me_cmpR op_notN od_isnt ha hb (nomark _)
theorem me_in (gx : GU X W) (ha : ME X W a ma) (hb : ME X W b mb) (hm : behindInMarks .In b = false := by rfl) : ME X W (.Compare a [.In] [b] pos) (binE inD ma mb) := me_cmpR (op_inAll gx.un) od_in ha hb hm
theorem me_nin (gx : GU X W) (ha : ME X W a ma) (hb : ME X W b mb) (hm : behindInMarks .NotIn b = false := by rfl) : ME X W (.Compare a [.NotIn] [b] pos) (binE ninD ma mb) := me_cmpR (op_ninAll gx.un) od_nin ha hb hm
theorem mt_lt (gx : GU X W) (ha : ME X W a ma) (hb : ME X W b mb) : MT X W (.Compare a [.Lt] [b] pos) (tstE (binE ltD ma mb)) := mt_cmpR (op_ltAll (by have := gx.un; omega)) od_lt ha hb (nomark _)
theorem mt_le (ha : ME X W a ma) (hb : ME X W b mb) : MT X W (.Compare a [.LtE] [b] pos) (tstE (binE leD ma mb)) := mt_cmpR op_le od_cmpI ha hb (nomark _)
theorem mt_gt (ha : ME X W a ma) (hb : ME X W b mb) : MT X W (.Compare a [.Gt] [b] pos) (tstE (binE gtD ma mb)) := mt_cmpR op_gt od_cmpI ha hb (nomark _)
theorem mt_ge (ha : ME X W a ma) (hb : ME X W b mb) : MT X W (.Compare a [.GtE] [b] pos) (tstE (binE geD ma mb)) := mt_cmpR op_ge od_cmpI ha hb (nomark _)
theorem mt_eq (gx : GU X W) (ha : ME X W a ma) (hb : ME X W b mb) : MT X W (.Compare a [.Eq] [b] pos) (tstE (binE eqD ma mb)) := mt_cmpR (op_eqAll (by have := gx.un; omega)) od_eq ha hb (nomark _)
theorem mt_ne (gx : GU X W) (ha : ME X W a ma) (hb : ME X W b mb) : MT X W (.Compare a [.NotEq] [b] pos) (tstE (binE neD ma mb)) := mt_cmpR (op_neAll (by have := gx.un; omega)) od_ne ha hb (nomark _)
theorem mt_is (ha : ME X W a ma) (hb : ME X W b mb) : MT X W (.Compare a [.Is] [b] pos) (tstE (binE isD ma mb)) := mt_cmpR op_isN od_is ha hb (nomark _)
theorem mt_isnt (ha : ME X W a ma) (hb : ME X W b mb) : MT X W (.Compare a [.IsNot] [b] pos) (tstE (binE isntD ma mb)) := mt_cmpR op_notN od_isnt ha hb (nomark _)
theorem mt_in (gx : GU X W) (ha : ME X W a ma) (hb : ME X W b mb) (hm : behindInMarks .In b = false := by rfl) : MT X W (.Compare a [.In] [b] pos) (tstE (binE inD ma mb)) := mt_cmpR (op_inAll gx.un) od_in ha hb hm
theorem mt_nin (gx : GU X W) (ha : ME X W a ma) (hb : ME X W b mb) (hm : behindInMarks .NotIn b = false := by rfl) : MT X W (.Compare a [.NotIn] [b] pos) (tstE (binE ninD ma mb)) := mt_cmpR (op_ninAll gx.un) od_nin ha hb hm
theorem me_sub_ix (gx : GU X W) (ha : ME X W a ma) (hb : ME X W b mb) (hs : PlainIx b := by exact fun _ _ => rfl) : ME X W (.Subscript a b pos) (binE ixD ma mb) := me_ix (ix_all (by have := gx.un; omega)) od_ix ha hb hs
theorem me_sl {lo hi : Option Expr} {p2 : Pos} {ml mh : EM (Option Int)} (ha : ME X W a ma) (hl : MO X W lo ml) (hh : MO X W hi mh) : ME X W (.Subscript a (.Slice lo hi none p2) pos) (slE slD ma ml mh) := me_slice sl_all sd_sl ha hl hh
/-- a built-in type as a value -/
theorem me_ty {x : Str} {T : String} (hg : Gl X x) (hm : X.mg x = none) (hv : bootBuiltins x = some (.type T)) (hn : x ≠ "__name__" := by decide) (hd : (x == ("__debug__" : Str)) = false := by decide) : ME X W (.Name x pos) (cE (.ty T)) :=
  me_c (pe_bltn (v := .ty T) hg hm hv rfl hn hd) rfl fun _ _ => rfl
theorem mt_b (h : ME X W a ma) (he : ∀ whole, isTrue a X.env whole = (do let v ← whole; standAt a.pos; holding [v] (truthy v)) := by intro _; rfl) : MT X W a (tstE ma) := mt_val h he

/-! ### the defs of a text -/
/-- the def st stands at x -/
structure DefAt (K : PySem.W.Frag) (mg : Str → Option Value) (x : Str) (st : Stmt) : Prop where
  ex : ∃ f fd, Fun K x x st f fd ∧ mg x = some (.ref f)
/-- the def x does g -/
structure Fn (P : Program) (w : World) (K : PySem.W.Frag) (mg : Str → Option Value) (base : Heap) (x : Str) (k n : Nat) (g : List D → Hh → Res D) : Prop where
  ex : ∃ f fd ps, FnOk P w K mg base (L2N.CX P w) k f fd ps (spM K mg w n g) ∧ mg x = some (.ref f) ∧ PySem.W.keepIn K (.ref f) = true ∧ Binds K fd ps []
theorem me_fn (gx : GX X W) {k n : Nat} {g : List D → Hh → Res D} {x : Str} {p : Pos} {es : List Expr} {ms : EM (List D)} (F : Fn X.prog X.w X.K X.mg X.base x k n g) (hr : Room k X.A) (hg : Gl X x) (ha : MA X W (e :: es) ms) (hn : (e :: es).length = n := by rfl)
    (hdb : (x == ("__debug__" : Str)) = false := by decide) (he : starEach (e :: es) X.env = (false, eval e X.env) :: starEach es X.env := by rfl) (hpl : (backTo pos (starEach es X.env)).any (·.1) = false := by rfl) : ME X W (.Call (.Name x p) (e :: es) [] pos) (callE g ms) := by
  obtain ⟨f, fd, ps, F, hm, hk, hb⟩ := F.ex
  exact me_call gx F hr hg hm hk hb ha hn hdb he hpl
section
variable {P : Program} {w : World} {K : PySem.W.Frag} {mg : Str → Option Value} {base : Heap}
theorem fn_mk {x : Str} {st : Stmt} {N ps : List Str} {k : Nat} {m : SS} (F : DefAt K mg x st) (S : FnScope N ps (defScope st))
    (hbind : ∀ (kV doc pm : Value) (an : Option Addr) (cdv ct : Value) (us : List Value), us.length = ps.length → bindArgs (PySem.W.fnOf x x (defArgs st) (defBody st) (defScope st) .none kV doc pm an cdv ct) ⟨us, []⟩ = pure (ps.zip us))
    (hb : ∀ (f : Addr) (cdv : Value) (A : Around) (outer : List PySem.Env) (s : Shared) (H : Hp) (E : XK), Room k (A.deeper (envOfC x (defScope st) s.heap.objs.size f cdv)) →
      GX (cxOf (L2N.CX P w) P w K mg base N x (defScope st) f cdv A outer s H E) (fun cls d _ H => E cls d H) →
      MB (cxOf (L2N.CX P w) P w K mg base N x (defScope st) f cdv A outer s H E) (fun cls d _ H => E cls d H) (defBody st) m) : Fn P w K mg base x (k + 1) ps.length (defF N.length m) := by
  obtain ⟨f, fd, F, hm⟩ := F.ex
  exact ⟨f, fd, ps, fn_ok F S fun cdv A outer s H E hr gx => hb f cdv A outer s H E hr gx, hm, F.kp, F.binds hbind⟩
theorem Fn.mono {x : Str} {j k n : Nat} {g : List D → Hh → Res D} (F : Fn P w K mg base x j n g) (h : j ≤ k) : Fn P w K mg base x k n g := by
  obtain ⟨f, fd, ps, F, r⟩ := F.ex
  exact ⟨f, fd, ps, F.mono h, r⟩
end
end
end Ev

/-! EvC: what a def made and leaves is forgotten at its end; the ends of a law. -/
namespace Ev
open PySem PySem.Spec PyProof.Rows L2

mutual
/-- no mutable object from the n-th on is in it -/
def below (n : Nat) : D → Bool
  | .tup l => belows n l
  | .lst l => belows n l
  | .dic l => belowK n l
  | .ref i => decide (i < n)
  | _ => true
def belows (n : Nat) : List D → Bool
  | [] => true
  | d :: l => below n d && belows n l
def belowK (n : Nat) : List (D × D) → Bool
  | [] => true
  | (_, d) :: l => below n d && belowK n l
end
def belowF (n : Nat) : List (Str × D) → Bool
  | [] => true
  | (_, d) :: l => below n d && belowF n l
def belowN (n : Nat) : List (D × D) → Bool
  | [] => true
  | (k, d) :: l => below n k && (below n d && belowN n l)
def belowO (n : Nat) : O → Bool
  | .lst l => belows n l
  | .dic l => belowK n l
  | .ins _ fs => belowF n fs
  | .dtn l => belowN n l
/-- as a frozen value -/
def frzD (n : Nat) (h : Hh) : Nat → D → Option D
  | 0, _ => none
  | k + 1, d => if below n d = true then some d else match d with
    | .ref i => match h[i]? with
      | some (.lst l) => (l.mapM (frzD n h k)).map .lst
      | some (.dic l) => (l.mapM fun p => (frzD n h k p.2).map fun d => (p.1, d)).map .dic
      | _ => none
    | .tup l => (l.mapM (frzD n h k)).map .tup
    | _ => none
open Classical in
/-- what stood ahead is as it was, or holds nothing newer -/
noncomputable def keptH (h0 h' : Hh) : Prop := h0.length ≤ h'.length ∧ ∀ i, i < h0.length → h'[i]? = h0[i]? ∨ ∃ o, h'[i]? = some o ∧ belowO h0.length o = true
open Classical in
noncomputable def cutF (f : List D → Hh → Res D) : List D → Hh → Res D := fun ds h => match f ds h with
  | .ok d h' => if keptH h h' then (match frzD h.length h' 3 d with
    | some d' => .ok d' (h'.take h.length)
    | none => .stuck) else .stuck
  | .raise c fs h' => if keptH h h' ∧ belowF h.length fs = true then .raise c fs (h'.take h.length) else .stuck
  | .stuck => .stuck
section
variable {K : PySem.W.Frag} {mg : Str → Option Value} {w : World} {η η' : Ad} {H H' : Hp} {h h' : Hh}
mutual
theorem below_of : ∀ (d : D) (v : V), RD K η H d v → below η.c.length d = true
  | .non, _, _ => rfl
  | .bl _, _, _ => rfl
  | .int _, _, _ => rfl
  | .str _, _, _ => rfl
  | .ty _, _, _ => rfl
  | .ntp _, _, _ => rfl
  | .scr _, _, _ => rfl
  | .tup l, v, r => by obtain ⟨a, xs, _, _, t⟩ := r; exact belows_of l xs t
  | .lst l, v, r => by obtain ⟨a, xs, _, _, _, t⟩ := r; exact belows_of l xs t
  | .dic l, v, r => by obtain ⟨a, xs, _, _, _, t⟩ := r; exact belowK_of l xs t
  | .ref i, v, r => by obtain ⟨a, e, _⟩ := r; exact decide_eq_true (List.getElem?_eq_some_iff.mp e).1
theorem belows_of : ∀ (l : List D) (xs : List V), RDs K η H l xs → belows η.c.length l = true
  | [], _, _ => rfl
  | d :: l, xs, r => by
    obtain ⟨x, t, _, q, u⟩ := r
    show (below _ d && belows _ l) = true
    rw [below_of d x q, belows_of l t u]
    rfl
theorem belowK_of : ∀ (l : List (D × D)) (xs : List (Key × V)), RKs K η H l xs → belowK η.c.length l = true
  | [], _, _ => rfl
  | (k, d) :: l, xs, r => by
    obtain ⟨k', x, t, _, _, q, u⟩ := r
    show (below _ d && belowK _ l) = true
    rw [below_of d x q, belowK_of l t u]
    rfl
end
theorem belowF_of : ∀ (l : List (Str × D)) (xs : List (Str × V)), RFs K η H l xs → belowF η.c.length l = true
  | [], _, _ => rfl
  | (k, d) :: l, xs, r => by
    obtain ⟨x, t, _, q, u⟩ := r
    show (below _ d && belowF _ l) = true
    rw [below_of d x q, belowF_of l t u]
    rfl
theorem belowN_of : ∀ (l : List (D × D)) (xs : NL), RNs K η H l xs → belowN η.c.length l = true
  | [], _, _ => rfl
  | (k, d) :: l, xs, r => by
    obtain ⟨k', b, v, t, _, _, _, q, u, z⟩ := r
    show (below _ k && (below _ d && belowN _ l)) = true
    rw [below_of k _ q, below_of d _ u, belowN_of l t z]
    rfl
theorem belowO_of {a : Addr} : ∀ (o : O), RO K mg w η H a o → belowO η.c.length o = true
  | .lst l, r => by obtain ⟨xs, _, t⟩ := r; exact belows_of l xs t
  | .dic l, r => by obtain ⟨xs, _, t⟩ := r; exact belowK_of l xs t
  | .ins c fs, r => by obtain ⟨C, dx, gs, _, _, _, _, t⟩ := r; exact belowF_of fs gs t
  | .dtn l, r => by obtain ⟨xs, _, t⟩ := r; exact belowN_of l xs t
mutual
theorem RD.cut (p : ∃ ζ, η'.c = η.c ++ ζ) (i : ∀ b, η.In b → η'.In b) : ∀ (d : D) (v : V), below η.c.length d = true → RD K η' H d v → RD K η H d v
  | .non, _, _, r => r
  | .bl _, _, _, r => r
  | .int _, _, _, r => r
  | .str _, _, _, r => r
  | .ty _, _, _, r => r
  | .ntp _, _, _, r => by
    obtain ⟨a, ob, e, q, c, d, n⟩ := r
    exact ⟨a, ob, e, q, c, d, fun z => n (i a z)⟩
  | .scr _, _, _, r => by
    obtain ⟨a, e, h | h⟩ := r
    · exact ⟨a, e, .inl ⟨fun z => h.1 (i a z), h.2⟩⟩
    · exact ⟨a, e, .inr h⟩
  | .tup l, v, b, r => by obtain ⟨a, xs, e, q, t⟩ := r; exact ⟨a, xs, e, q, RDs.cut p i l xs b t⟩
  | .lst l, v, b, r => by obtain ⟨a, xs, e, q, n, t⟩ := r; exact ⟨a, xs, e, q, fun z => n (i a z), RDs.cut p i l xs b t⟩
  | .dic l, v, b, r => by obtain ⟨a, xs, e, q, n, t⟩ := r; exact ⟨a, xs, e, q, fun z => n (i a z), RKs.cut p i l xs b t⟩
  | .ref j, v, b, r => by
    obtain ⟨a, e, q⟩ := r
    obtain ⟨ζ, ez⟩ := p
    refine ⟨a, ?_, q⟩
    rw [ez, List.getElem?_append_left (of_decide_eq_true b)] at e
    exact e
theorem RDs.cut (p : ∃ ζ, η'.c = η.c ++ ζ) (i : ∀ b, η.In b → η'.In b) : ∀ (l : List D) (xs : List V), belows η.c.length l = true → RDs K η' H l xs → RDs K η H l xs
  | [], _, _, r => r
  | d :: l, xs, b, r => by
    have b := Bool.and_eq_true_iff.mp b
    obtain ⟨x, t, e, q, u⟩ := r
    exact ⟨x, t, e, RD.cut p i d x b.1 q, RDs.cut p i l t b.2 u⟩
theorem RKs.cut (p : ∃ ζ, η'.c = η.c ++ ζ) (i : ∀ b, η.In b → η'.In b) : ∀ (l : List (D × D)) (xs : List (Key × V)), belowK η.c.length l = true → RKs K η' H l xs → RKs K η H l xs
  | [], _, _, r => r
  | (k, d) :: l, xs, b, r => by
    have b := Bool.and_eq_true_iff.mp b
    obtain ⟨k', x, t, e, q0, q, u⟩ := r
    exact ⟨k', x, t, e, q0, RD.cut p i d x b.1 q, RKs.cut p i l t b.2 u⟩
end
theorem RFs.cut (p : ∃ ζ, η'.c = η.c ++ ζ) (i : ∀ b, η.In b → η'.In b) : ∀ (l : List (Str × D)) (xs : List (Str × V)), belowF η.c.length l = true → RFs K η' H l xs → RFs K η H l xs
  | [], _, _, r => r
  | (k, d) :: l, xs, b, r => by
    have b := Bool.and_eq_true_iff.mp b
    obtain ⟨x, t, e, q, u⟩ := r
    exact ⟨x, t, e, RD.cut p i d x b.1 q, RFs.cut p i l t b.2 u⟩
theorem RNs.cut (p : ∃ ζ, η'.c = η.c ++ ζ) (i : ∀ b, η.In b → η'.In b) : ∀ (l : List (D × D)) (xs : NL), belowN η.c.length l = true → RNs K η' H l xs → RNs K η H l xs
  | [], _, _, r => r
  | (k, d) :: l, xs, b, r => by
    have b := Bool.and_eq_true_iff.mp b
    have b2 := Bool.and_eq_true_iff.mp b.2
    obtain ⟨k', a, v, t, e, q0, q1, q, u, z⟩ := r
    exact ⟨k', a, v, t, e, q0, q1, RD.cut p i k _ b.1 q, RD.cut p i d v b2.1 u, RNs.cut p i l t b2.2 z⟩
theorem RO.cut (p : ∃ ζ, η'.c = η.c ++ ζ) (i : ∀ b, η.In b → η'.In b) {a : Addr} : ∀ (o : O), belowO η.c.length o = true → RO K mg w η' H a o → RO K mg w η H a o
  | .lst l, b, r => by obtain ⟨xs, e, t⟩ := r; exact ⟨xs, e, RDs.cut p i l xs b t⟩
  | .dic l, b, r => by obtain ⟨xs, e, t⟩ := r; exact ⟨xs, e, RKs.cut p i l xs b t⟩
  | .ins c fs, b, r => by obtain ⟨C, dx, gs, m, e, n, o, t⟩ := r; exact ⟨C, dx, gs, m, e, fun z => n (i dx z), o, RFs.cut p i fs gs b t⟩
  | .dtn l, b, r => by obtain ⟨xs, e, t⟩ := r; exact ⟨xs, e, RNs.cut p i l xs b t⟩
theorem Step.sub (s : Step η H η' H') : ∀ b, η.In b → η'.In b := fun b hb => by
  obtain ⟨ζ, ez⟩ := s.pre
  rcases hb with z | z
  · exact .inl (by rw [ez]; exact List.mem_append_left _ z)
  · exact .inr (by rw [s.hid]; exact z)
theorem Step.cut (s : Step η H η' H') : Step η H η H' := ⟨⟨⟨[], by simp⟩, fun _ z => .inl z, s.keep, s.tup⟩, rfl, s.kh⟩
theorem RH.cut (r0 : RH K mg w η H h) (s : Step η H η' H') (r : RH K mg w η' H' h') (k : keptH h h') : RH K mg w η H' (h'.take h.length) where
  len := by rw [List.length_take, r0.len]; have := k.1; omega
  nd := r0.nd
  ap := r0.ap
  hid := fun a ha => r.hid a (by rw [s.hid]; exact ha)
  ob := fun i a o e1 e2 => by
    have hi : i < h.length := by
      rw [← r0.len]
      exact (List.getElem?_eq_some_iff.mp e1).1
    rw [List.getElem?_take_of_lt hi] at e2
    have ro := r.ob i a o (s.at_ e1) e2
    refine RO.cut s.pre s.sub o ?_ ro
    rcases k.2 i hi with z | ⟨o', z, b⟩
    · rw [e2] at z
      have q := r0.ob i a o e1 z.symm
      exact belowO_of o q
    · rw [e2] at z
      cases z
      rw [r0.len]
      exact b
theorem mapM_none {α β : Type} (f : α → Option β) (x : α) (l : List α) : (x :: l).mapM f = (f x).bind fun y => (l.mapM f).bind fun ys => some (y :: ys) := by
  rw [List.mapM_cons]
  rfl
theorem frz_of (s : Step η H η' H') (r : RH K mg w η' H' h') (hl : η.c.length = h.length) : ∀ (k : Nat) (d d' : D) (v : V), frzD h.length h' k d = some d' → RD K η' H' d v → RD K η H' d' v
  | 0, d, d', v, e, _ => by cases e
  | k + 1, d, d', v, e, rd => by
    unfold frzD at e
    by_cases hb : below h.length d = true
    · rw [if_pos hb] at e
      cases e
      exact RD.cut s.pre s.sub d v (by rw [hl]; exact hb) rd
    · rw [if_neg hb] at e
      cases d with
      | ref i =>
        simp only at e
        obtain ⟨a, ea, rfl⟩ := rd
        have hi : ¬ i < h.length := fun z => hb (decide_eq_true z)
        have nin : ¬ η.In a := fun z => by
          rcases z with z | z
          · obtain ⟨j, hj, ej⟩ := List.getElem_of_mem z
            have e2 := s.at_ (List.getElem?_eq_some_iff.mpr ⟨hj, ej⟩)
            have e3 : i = j := r.inj ea e2
            rw [hl] at hj
            omega
          · exact r.ap a (mem_of_at ea) (by rw [s.hid]; exact z)
        split at e
        · rename_i l el
          obtain ⟨xs, q, t⟩ := r.ob i a _ ea el
          cases em : l.mapM (frzD h.length h' k) with
          | none => rw [em] at e; cases e
          | some m =>
            rw [em] at e
            cases e
            refine ⟨a, xs, rfl, q, nin, ?_⟩
            clear q el
            induction l generalizing xs m with
            | nil => cases em; cases t; rfl
            | cons x l ih =>
              rw [mapM_none] at em
              obtain ⟨y, t', rfl, q1, q2⟩ := t
              cases e1 : frzD h.length h' k x with
              | none => rw [e1] at em; cases em
              | some x' =>
                rw [e1] at em
                cases e2 : l.mapM (frzD h.length h' k) with
                | none => rw [e2] at em; cases em
                | some m' =>
                  rw [e2] at em
                  cases em
                  exact ⟨y, t', rfl, frz_of s r hl k x x' y e1 q1, ih _ q2 _ e2⟩
        · rename_i l el
          obtain ⟨xs, q, t⟩ := r.ob i a _ ea el
          cases em : (l.mapM fun p => (frzD h.length h' k p.2).map fun d => (p.1, d)) with
          | none => rw [em] at e; cases e
          | some m =>
            rw [em] at e
            cases e
            refine ⟨a, xs, rfl, q, nin, ?_⟩
            clear q el
            induction l generalizing xs m with
            | nil => cases em; cases t; rfl
            | cons x l ih =>
              rw [mapM_none] at em
              obtain ⟨kx, x⟩ := x
              obtain ⟨k', y, t', rfl, q0, q1, q2⟩ := t
              simp only at em
              cases e1 : frzD h.length h' k x with
              | none => rw [e1] at em; cases em
              | some x' =>
                rw [e1] at em
                cases e2 : (l.mapM fun p => (frzD h.length h' k p.2).map fun d => (p.1, d)) with
                | none => rw [e2] at em; cases em
                | some m' =>
                  rw [e2] at em
                  cases em
                  exact ⟨k', y, t', rfl, q0, frz_of s r hl k x x' y e1 q1, ih _ q2 _ e2⟩
        · cases e
      | tup l =>
        simp only at e
        obtain ⟨a, xs, rfl, q, t⟩ := rd
        cases em : l.mapM (frzD h.length h' k) with
        | none => rw [em] at e; cases e
        | some m =>
          rw [em] at e
          cases e
          refine ⟨a, xs, rfl, q, ?_⟩
          clear q hb
          induction l generalizing xs m with
          | nil => cases em; cases t; rfl
          | cons x l ih =>
            rw [mapM_none] at em
            obtain ⟨y, t', rfl, q1, q2⟩ := t
            cases e1 : frzD h.length h' k x with
            | none => rw [e1] at em; cases em
            | some x' =>
              rw [e1] at em
              cases e2 : l.mapM (frzD h.length h' k) with
              | none => rw [e2] at em; cases em
              | some m' =>
                rw [e2] at em
                cases em
                exact ⟨y, t', rfl, frz_of s r hl k x x' y e1 q1, ih _ q2 _ e2⟩
      | _ => cases e
/-- the promise with what it leaves forgotten -/
theorem spM_cut {n : Nat} {f : List D → Hh → Res D} {vs : List V} {Q : VK} {E : XK} (q : spM K mg w n (cutF f) vs H Q E) : spM K mg w n f vs H Q E := by
  obtain ⟨ds, η, h, hl, rh, r, q⟩ := q
  refine ⟨ds, η, h, hl, rh, r, ?_⟩
  unfold cutF at q
  cases ef : f ds h with
  | stuck => rw [ef] at q; exact q
  | ok d h' =>
    rw [ef] at q
    simp only at q
    split at q
    · rename_i d' h2 eq
      split at eq
      · rename_i kp
        cases ez : frzD h.length h' 3 d with
        | none => rw [ez] at eq; cases eq
        | some d2 =>
          rw [ez] at eq
          cases eq
          exact fun v η' H' s r2 rd => q v η H' s.cut (rh.cut s r2 kp) (frz_of s r2 rh.len 3 d _ v ez rd)
      · cases eq
    · rename_i c fs h2 eq
      split at eq
      · rename_i kp
        cases ez : frzD h.length h' 3 d with
        | none => rw [ez] at eq; cases eq
        | some d2 => rw [ez] at eq; cases eq
      · cases eq
    · exact q.elim
  | raise c fs h' =>
    rw [ef] at q
    simp only at q
    split at q
    · rename_i d' h2 eq
      split at eq <;> cases eq
    · rename_i c2 fs2 h2 eq
      split at eq
      · rename_i kp
        cases eq
        refine fun η' H' C dx s r2 m re => q η H' C dx s.cut (rh.cut s r2 kp.1) m ?_
        cases dx with
        | none => exact re
        | some a =>
          obtain ⟨gs, e1, e2⟩ := re
          exact ⟨gs, e1, RFs.cut s.pre s.sub fs gs (by rw [rh.len]; exact kp.2) e2⟩
      · cases eq
    · exact q.elim
theorem Fn.cut {P : Program} {w : World} {base : Heap} {x : Str} {k n : Nat} {g : List D → Hh → Res D} (F : Fn P w K mg base x k n g) : Fn P w K mg base x k n (cutF g) := by
  obtain ⟨f, fd, ps, F, r⟩ := F.ex
  exact ⟨f, fd, ps, F.imp fun _ _ _ _ q => spM_cut q, r⟩

/-! ### names of the module that hold constants -/
structure GlobAt (K : PySem.W.Frag) (mg : Str → Option Value) (x : Str) (d : D) : Prop where
  ex : ∃ u v, mg x = some u ∧ RelV v u ∧ ∀ η H, RD K η H d v
theorem GlobAt.int {x : Str} {i : Int} {t : Tok} (m : mg x = some (.int i t)) : GlobAt K mg x (.int i) := ⟨_, .int i, m, ⟨t, rfl⟩, fun _ _ => rfl⟩
theorem GlobAt.str {x y : Str} {t : Tok} (m : mg x = some (.str y t)) : GlobAt K mg x (.str y) := ⟨_, .str y, m, ⟨t, rfl⟩, fun _ _ => rfl⟩
theorem me_gl {X : Cx} {W : WX} {x : Str} {d : D} {pos : Pos} (hg : Gl X x) (G : GlobAt X.K X.mg x d) (hd : (x == ("__debug__" : Str)) = false := by decide) : ME X W (.Name x pos) (cE d) := by
  obtain ⟨u, v, m, r, q⟩ := G.ex
  exact me_glob hg m r q hd

/-! ### a law's end -/
/-- the law's promise -/
def spL (K : PySem.W.Frag) (f : List D → Hh → Res D) : Sp := fun vs H Q _ => ∃ (a : Addr) (ns : List Int), vs = [.ref a] ∧ SqL K H a (ns.map V.int) ∧ (∃ h', f [.scr ns] [] = .ok (.bl true) h') ∧ ∀ H', Q (.bl true) H'
theorem spL_of {a : Addr} {ns : List Int} {f : List D → Hh → Res D} (hS : SqL K H a (ns.map V.int)) (q : ∃ h', f [.scr ns] [] = .ok (.bl true) h') : spL K f [.ref a] H (fun v _ => v = .bl true) fun _ _ _ => False := ⟨a, ns, rfl, hS, q, fun _ => rfl⟩
theorem fnok_spL {P : Program} {w : World} {base : Heap} {CX : CXT} {k : Nat} {f : Addr} {fd : FuncData} {ps : List Str} {g : List D → Hh → Res D} (F : FnOk P w K mg base CX k f fd ps (spM K mg w 1 g)) : FnOk P w K mg base CX k f fd ps (spL K g) :=
  F.imp fun vs H Q E q => by
  obtain ⟨a, ns, rfl, hS, ⟨h', eh⟩, q⟩ := q
  refine ⟨[.scr ns], ⟨[], []⟩, [], rfl, ⟨rfl, .nil, fun a h => (nomatch h), fun a h => (nomatch h), fun i a o e => by simp at e⟩, ⟨.ref a, [], rfl, ⟨a, rfl, ?_⟩, rfl⟩, ?_⟩
  · rcases hS with h | h
    · exact .inl ⟨fun z => (by rcases z with z | z <;> cases z), h⟩
    · exact .inr fun _ => .inr h
  · rw [eh]
    exact fun v η' H' s r rd => by cases rd; exact q H'
theorem cx_no {P : Program} {w : World} {H : Hp} {s s' : Shared} {e : Value} (h : L2N.CX P w [] H s (fun _ _ _ => False) e s') : False := by
  obtain ⟨_, _, _, _, _, _, _, _, _, _, _, _, z⟩ := h
  exact z
end
end Ev

/-! EvD: new dicts, sorted dicts. -/
namespace Ev
open PySem PySem.Spec PyProof.Rows L2
section
variable {X : Cx} {W : WX} {σ : L2.St} {η : Ad} {H : Hp} {h : Hh} {pos : Pos}
def newK (h : Hh) : Res D := .ok (.ref h.length) (h ++ [.dic []])
def dicH : EM D := fun _ h => newK h
theorem newKR {p : Addr} (n : H p = none) (rh : RH X.K X.mg X.w η H h) :
    RH X.K X.mg X.w (η.push p) (upd H p (.dK [])) (h ++ [.dic []]) ∧ RD X.K (η.push p) (upd H p (.dK [])) (.ref h.length) (.ref p) :=
  ⟨rh.alloc n ⟨[], upd_same, rfl⟩, p, by show (η.c ++ [p])[h.length]? = _; rw [← rh.len]; simp, rfl⟩
theorem me_dicH : ME X W (.Dict [] [] pos) dicH := ⟨PE.wk pe_dnewK fun σ H Q q => by
  obtain ⟨ρ, η, h, rs, rh, p⟩ := q
  intro a n
  have p : Po X W (rD X) σ η H (newK h) Q := p
  exact p _ _ _ (rh.allocS n) (newKR n rh).1 (newKR n rh).2⟩
/-! sorted -/
theorem rks_ints {K : PySem.W.Frag} : ∀ {l : List (D × D)} {xs : List (Key × V)} {ns : List Int}, RKs K η H l xs → intsOf (l.map (·.1)) = some ns → xs.map (·.1) = ns.map Sum.inl
  | [], xs, ns, r, e => by cases r; cases e; rfl
  | (k, d) :: l, xs, ns, r, e => by
    obtain ⟨k', x, q, rfl, ek, _, t⟩ := r
    have := intsOf_eq e
    cases ns with
    | nil => simp at this
    | cons n ns =>
      simp only [List.map_cons, List.cons.injEq] at this
      obtain ⟨rfl, e2⟩ := this
      cases ek
      have e3 : intsOf (l.map (·.1)) = some ns := by rw [e2]; exact intsOf_map ns
      rw [List.map_cons, List.map_cons, rks_ints t e3]
def sortD (a : List D) (h : Hh) : Res D := match a with
  | [a] => match lstOf a h with
    | some l => (match intsOf l with
      | some ns => .ok (.lst ((sortI ns).map D.int)) h
      | none => .stuck)
    | none => match dicOf a h with
      | some l => (match intsOf (l.map (·.1)) with
        | some ns => if ns.length < 64 then .ok (.lst ((sortI ns).map D.int)) h else .stuck
        | none => .stuck)
      | none => .stuck
  | _ => .stuck
def rSortAll (K : PySem.W.Frag) : List V → Hp → VK → Prop := fun xs H Q => rSortedI K xs H Q ∨ (∃ (a : Addr) (kvs : List (Key × V)) (ks : List Int), xs = [.ref a] ∧ Rd H a (.dK kvs) ∧ kvs.map (·.1) = ks.map Sum.inl ∧ ks.length < 64 ∧
    ∀ (ys : List Int) (p : Addr), ys.Perm ks → ys.Pairwise (· ≤ ·) → H p = none → Q (.ref p) (upd H p (.lst (ys.map V.int))))
theorem cr_sortAll (hc : X.calm = true) : CallR X (.builtin "sorted") (rSortAll X.K) := by
  intro pins s σ H x u Q I rx q
  rcases q with q | q
  · exact cr_sortedI pins s σ H x u Q I rx q
  · exact call_sortedDI hc pins s σ H x u Q I rx q
theorem cd_sort : CallD X W (rSortAll X.K) sortD := by
  intro σ η H h a x Q rh ra p
  unfold sortD at p
  split at p
  · obtain ⟨v, rfl, r⟩ := rds1 ra
    split at p
    · rename_i l el
      split at p
      · rename_i ns en
        obtain ⟨c, rfl, s⟩ := ints_of rh r (show (lstOf _ h).bind intsOf = some ns by rw [el]; exact en)
        refine .inl ⟨c, ns, rfl, .of s, fun ns' q e1 e2 n => ?_⟩
        rw [sorted_uniq (e1.trans (sortI_perm ns).symm) e2 (sortI_sorted ns)]
        exact Po.newF p rh (RDs.of_ints _) q n
      · exact p.elim
    · split at p
      · rename_i l el
        split at p
        · rename_i ns en
          split at p
          · rename_i hz
            obtain ⟨c, xs, rfl, s, t⟩ := dicOf_of rh r el
            refine .inr ⟨c, xs, ns, rfl, .inl s, rks_ints t en, hz, fun ns' q e1 e2 n => ?_⟩
            rw [sorted_uniq (e1.trans (sortI_perm ns).symm) e2 (sortI_sorted ns)]
            exact Po.newF p rh (RDs.of_ints _) q n
          · exact p.elim
        · exact p.elim
      · exact p.elim
  · exact p.elim
/-! new lists that will change -/
def mulM (a b : D) (h : Hh) : Res D := match lstOf a h with
  | some l => (match b with
    | .int k => if 0 ≤ k ∧ k ≤ 1000 ∧ l.length ≤ 1000 then newL (List.replicate k.toNat l).flatten h else .stuck
    | _ => .stuck)
  | none => .stuck
theorem od_mulM : OpD X W (rMulAll X.K) mulM := by
  intro σ η H h a b x y Q rh ra rb p
  unfold mulM at p
  split at p
  · rename_i l ea
    split at p
    · rename_i k
      cases rb
      obtain ⟨p1, xs, rfl, q1, t1⟩ := lstOf_of rh ra ea
      split at p
      · rename_i hz
        have hl := t1.length
        refine .inr (.inr (.inr (.inl ⟨p1, k, xs, rfl, rfl, q1, by omega, by omega, ?_, fun e n => Po.newM p rh (t1.rep _) e n⟩)))
        rw [sizeLine_eq, hl]
        have h1 : k.toNat ≤ 1000 := by omega
        have h2 : l.length ≤ 1000 := hz.2.2
        have h3 : l.length * k.toNat ≤ 1000 * 1000 := Nat.mul_le_mul h2 h1
        omega
      · exact p.elim
    · exact p.elim
  · exact p.elim
def addM (a b : D) (h : Hh) : Res D := match lstOf a h with
  | some l => (match lstOf b h with
    | some m => if l.length + m.length ≤ sizeLine then newL (l ++ m) h else .stuck
    | none => .stuck)
  | none => .stuck
theorem od_addM : OpD X W (rAddAll X.K) addM := by
  intro σ η H h a b x y Q rh ra rb p
  unfold addM at p
  split at p
  · rename_i l ea
    split at p
    · rename_i m eb
      obtain ⟨p1, xs, rfl, q1, t1⟩ := lstOf_of rh ra ea
      obtain ⟨p2, ys, rfl, q2, t2⟩ := lstOf_of rh rb eb
      split at p
      · rename_i hz
        exact .inr (.inr (.inr ⟨p1, p2, xs, ys, rfl, rfl, q1, q2, by rw [t1.length, t2.length]; exact hz, fun c n => Po.newM p rh (t1.app t2) c n⟩))
      · exact p.elim
    · exact p.elim
  · exact p.elim
theorem me_mulM {a b : Expr} {ma mb : EM D} (ha : ME X W a ma) (hb : ME X W b mb) : ME X W (.BinOp a .Mult b pos) (binE mulM ma mb) := me_op op_mulAll od_mulM ha hb
theorem me_addM {a b : Expr} {ma mb : EM D} (ha : ME X W a ma) (hb : ME X W b mb) : ME X W (.BinOp a .Add b pos) (binE addM ma mb) := me_op op_addAll od_addM ha hb
/-! what is never reached -/
def stuckS : SS := fun _ _ => .stuck
theorem mb_stuck {sts : List Stmt} : MB X W sts stuckS := ⟨⟨fun _ _ _ _ _ _ q => by
  obtain ⟨_, _, _, _, _, p⟩ := q
  exact p.elim⟩⟩
/-! comparisons of ints in a row -/
def asInt (d : D) (h : Hh) : Res Int := match d with
  | .int i => .ok i h
  | _ => .stuck
def chE (f1 f2 : Int → Int → Bool) (a b c : EM D) : EM D := fun ρ h => (a ρ h).bind fun x h1 => (b ρ h1).bind fun y h2 => (asInt x h2).bind fun i h2 => (asInt y h2).bind fun j h2 =>
  if f1 i j = true then (c ρ h2).bind fun w h3 => (asInt w h3).bind fun k h3 => .ok (.bl (f2 j k)) h3 else .ok (.bl false) h2
def chE3 (f1 f2 f3 : Int → Int → Bool) (a b c d : EM D) : EM D := fun ρ h => (a ρ h).bind fun x h1 => (b ρ h1).bind fun y h2 => (asInt x h2).bind fun i h2 => (asInt y h2).bind fun j h2 =>
  if f1 i j = true then (c ρ h2).bind fun w h3 => (asInt w h3).bind fun k h3 => (if f2 j k = true then (d ρ h3).bind fun v h4 => (asInt v h4).bind fun l h4 => .ok (.bl (f3 k l)) h4 else .ok (.bl false) h3) else .ok (.bl false) h2
theorem asInt_of {α : Type} {d : D} {v : V} {k : Int → Hh → Res α} {R : α → V → Ad → Hp → Prop} {Q : VK} (p : Po X W R σ η H ((asInt d h).bind k) Q) (r : RD X.K η H d v) : ∃ i, d = .int i ∧ v = .int i ∧ Po X W R σ η H (k i h) Q := by
  cases d with
  | int i => cases r; exact ⟨i, rfl, rfl, p⟩
  | _ => exact p.elim
variable {a b c d : Expr} {ma mb mc md : EM D}
theorem tChain_of {f1 f2 : Int → Int → Bool} {ta tb tc : TE} (ha : ∀ σ H Q, tM X W (rD X) ma σ H Q → ta σ H Q) (hb : ∀ σ H Q, tM X W (rD X) mb σ H Q → tb σ H Q) (hc : ∀ σ H Q, tM X W (rD X) mc σ H Q → tc σ H Q) {Q : VK} (q : tM X W (rD X) (chE f1 f2 ma mb mc) σ H Q) :
    tChain (rI0 fun i j => .bl (f1 i j)) (rI0 fun i j => .bl (f2 i j)) ta tb tc σ H Q := by
  obtain ⟨ρ, η, h, rs, rh, p⟩ := q
  have p : Po X W (rD X) σ η H ((ma ρ h).bind fun x h1 => (mb ρ h1).bind fun y h2 => (asInt x h2).bind fun i h2 => (asInt y h2).bind fun j h2 =>
    if f1 i j = true then (mc ρ h2).bind fun w h3 => (asInt w h3).bind fun k h3 => .ok (.bl (f2 j k)) h3 else .ok (.bl false) h2) Q := p
  refine ha _ _ _ (tM.mono (fun x H1 ⟨d1, η1, h1, s1, r1, q1, p1⟩ => ?_) (Po.seq (R1 := rD X) rs rh p))
  refine hb _ _ _ (tM.mono (fun y H2 ⟨d2, η2, h2, s2, r2, q2, p2⟩ => ?_) (Po.seq (R1 := rD X) (rs.step s1) r1 p1))
  obtain ⟨i, rfl, e1, p2⟩ := asInt_of p2 (RD.step s2 _ _ q1)
  obtain ⟨j, rfl, e2, p2⟩ := asInt_of p2 q2
  subst e1 e2
  refine ⟨i, j, rfl, rfl, f1 i j, rfl, ?_⟩
  cases hf : f1 i j with
  | false =>
    rw [if_neg (by rw [hf]; exact Bool.false_ne_true)] at p2
    rw [if_neg Bool.false_ne_true]
    exact Po.scal p2 r2 rfl
  | true =>
    rw [if_pos hf] at p2
    rw [if_pos rfl]
    refine hc _ _ _ (tM.mono (fun w H3 ⟨d3, η3, h3, s3, r3, q3, p3⟩ => ?_) (Po.seq (R1 := rD X) ((rs.step s1).step s2) r2 p2))
    obtain ⟨k, rfl, e3, p3⟩ := asInt_of p3 q3
    subst e3
    exact ⟨j, k, rfl, rfl, Po.scal p3 r3 rfl⟩
theorem me_chain {op op' : CmpOp} {f1 f2 : Int → Int → Bool} (ho : OpR X (compareOp op) (rI0 fun i j => .bl (f1 i j))) (ho' : OpR X (compareOp op') (rI0 fun i j => .bl (f2 i j))) (ha : ME X W a ma) (hb : ME X W b mb) (hc : ME X W c mc)
    (hm : lastMarks [op, op'] [b, c] = false := by with_unfolding_all rfl) : ME X W (.Compare a [op, op'] [b, c] pos) (chE f1 f2 ma mb mc) :=
  ⟨PE.wk (pe_chain ho ho' ha.pe hb.pe hc.pe hm) fun σ H Q q => tChain_of (fun _ _ _ q => q) (fun _ _ _ q => q) (fun _ _ _ q => q) q⟩
theorem mt_chain {op op' : CmpOp} {f1 f2 : Int → Int → Bool} (ho : OpR X (compareOp op) (rI0 fun i j => .bl (f1 i j))) (ho' : OpR X (compareOp op') (rI0 fun i j => .bl (f2 i j))) (ha : ME X W a ma) (hb : ME X W b mb) (hc : ME X W c mc)
    (hm : lastMarks [op, op'] [b, c] = false := by with_unfolding_all rfl) : MT X W (.Compare a [op, op'] [b, c] pos) (tstE (chE f1 f2 ma mb mc)) :=
  ⟨PT.wk (pt_chain ho ho' ha.pe hb.pe hc.pe hm) fun σ H Q q => tChain_of (fun _ _ _ q => q) (fun _ _ _ q => q) (fun _ _ _ q => q) (tB_of q)⟩
def tChain3 (r r' r'' : R2) (ta tb tc td : TE) : TE := fun σ H Q => ta σ H fun x H1 => tb σ H1 fun y H2 => r x y H2 fun z H3 => ∃ k, z = .bl k ∧
  (if k = true then tc σ H3 fun w H4 => r' y w H4 fun z H5 => ∃ k, z = .bl k ∧ (if k = true then td σ H5 fun v H6 => r'' w v H6 Q else Q (.bl false) H5) else Q (.bl false) H3)
theorem pt_chain3 {op op' op'' : CmpOp} {r r' r'' : R2} {ta tb tc td : TE} (ho : OpR X (compareOp op) r) (ho' : OpR X (compareOp op') r') (ho'' : OpR X (compareOp op'') r'') (ha : PE X a ta) (hb : PE X b tb) (hc : PE X c tc) (hd : PE X d td)
    (hm : lastMarks [op, op', op''] [b, c, d] = false := by with_unfolding_all rfl) : PT X (.Compare a [op, op', op''] [b, c, d] pos) (tTest (tChain3 r r' r'' ta tb tc td)) := by
  refine ⟨fun pins s σ H Q I h => ?_⟩
  refine isTrue_chain (thn (ha.run pins s σ H _ I h) fun v s1 ⟨x, H1, I1, r1, q1⟩ => test_link (thn (hb.run pins s1 σ H1 _ I1 q1) fun u s2 ⟨y, H2, I2, r2, q2⟩ =>
    thn (ho pins s2 σ H2 x y v u _ I2 r1 r2 q2) fun d s3 ⟨z, H3, I3, r3, k, e, q3⟩ => ?_)) hm
  subst e
  cases r3
  refine wpAny_truthy_bool ?_
  cases k with
  | false =>
    obtain ⟨k', e', q'⟩ := q3
    cases e'
    exact ite_ff ⟨H3, I3, q'⟩
  | true =>
    refine ite_tt (test_link (thn (hc.run pins s3 σ H3 _ I3 q3) fun w' s4 ⟨z', H4, I4, r4, q4⟩ => thn (ho' pins s4 σ H4 y z' u w' _ I4 r2 r4 q4) fun d' s5 ⟨z2, H5, I5, r5, k2, e2, q5⟩ => ?_))
    subst e2
    cases r5
    refine wpAny_truthy_bool ?_
    cases k2 with
    | false =>
      obtain ⟨k', e', q'⟩ := q5
      cases e'
      exact ite_ff ⟨H5, I5, q'⟩
    | true =>
      refine ite_tt (test_last (thn (hd.run pins s5 σ H5 _ I5 q5) fun w3 s6 ⟨z3, H6, I6, r6, q6⟩ => thn (ho'' pins s6 σ H6 z' z3 w' w3 _ I6 r4 r6 q6) fun d3 s7 ⟨z4, H7, I7, r7, k3, e3, q7⟩ => ?_))
      subst e3
      cases r7
      exact wpAny_truthy_bool ⟨H7, I7, q7⟩
theorem tChain3_of {f1 f2 f3 : Int → Int → Bool} {Q : VK} (q : tM X W (rD X) (chE3 f1 f2 f3 ma mb mc md) σ H Q) :
    tChain3 (rI0 fun i j => .bl (f1 i j)) (rI0 fun i j => .bl (f2 i j)) (rI0 fun i j => .bl (f3 i j)) (tM X W (rD X) ma) (tM X W (rD X) mb) (tM X W (rD X) mc) (tM X W (rD X) md) σ H Q := by
  obtain ⟨ρ, η, h, rs, rh, p⟩ := q
  have p : Po X W (rD X) σ η H ((ma ρ h).bind fun x h1 => (mb ρ h1).bind fun y h2 => (asInt x h2).bind fun i h2 => (asInt y h2).bind fun j h2 =>
    if f1 i j = true then (mc ρ h2).bind fun w h3 => (asInt w h3).bind fun k h3 => (if f2 j k = true then (md ρ h3).bind fun v h4 => (asInt v h4).bind fun l h4 => .ok (.bl (f3 k l)) h4 else .ok (.bl false) h3) else .ok (.bl false) h2) Q := p
  refine tM.mono (fun x H1 ⟨d1, η1, h1, s1, r1, q1, p1⟩ => ?_) (Po.seq (R1 := rD X) rs rh p)
  refine tM.mono (fun y H2 ⟨d2, η2, h2, s2, r2, q2, p2⟩ => ?_) (Po.seq (R1 := rD X) (rs.step s1) r1 p1)
  obtain ⟨i, rfl, e1, p2⟩ := asInt_of p2 (RD.step s2 _ _ q1)
  obtain ⟨j, rfl, e2, p2⟩ := asInt_of p2 q2
  subst e1 e2
  refine ⟨i, j, rfl, rfl, f1 i j, rfl, ?_⟩
  cases hf : f1 i j with
  | false =>
    rw [if_neg (by rw [hf]; exact Bool.false_ne_true)] at p2
    rw [if_neg Bool.false_ne_true]
    exact Po.scal p2 r2 rfl
  | true =>
    rw [if_pos hf] at p2
    rw [if_pos rfl]
    refine tM.mono (fun w H3 ⟨d3, η3, h3, s3, r3, q3, p3⟩ => ?_) (Po.seq (R1 := rD X) ((rs.step s1).step s2) r2 p2)
    obtain ⟨k, rfl, e3, p3⟩ := asInt_of p3 q3
    subst e3
    refine ⟨j, k, rfl, rfl, f2 j k, rfl, ?_⟩
    cases hg : f2 j k with
    | false =>
      rw [if_neg (by rw [hg]; exact Bool.false_ne_true)] at p3
      rw [if_neg Bool.false_ne_true]
      exact Po.scal p3 r3 rfl
    | true =>
      rw [if_pos hg] at p3
      rw [if_pos rfl]
      refine tM.mono (fun v H4 ⟨d4, η4, h4, s4, r4, q4, p4⟩ => ?_) (Po.seq (R1 := rD X) (((rs.step s1).step s2).step s3) r3 p3)
      obtain ⟨l, rfl, e4, p4⟩ := asInt_of p4 q4
      subst e4
      exact ⟨k, l, rfl, rfl, Po.scal p4 r4 rfl⟩
theorem mt_chain3 {op op' op'' : CmpOp} {f1 f2 f3 : Int → Int → Bool} (ho : OpR X (compareOp op) (rI0 fun i j => .bl (f1 i j))) (ho' : OpR X (compareOp op') (rI0 fun i j => .bl (f2 i j))) (ho'' : OpR X (compareOp op'') (rI0 fun i j => .bl (f3 i j))) (ha : ME X W a ma) (hb : ME X W b mb) (hc : ME X W c mc) (hd : ME X W d md)
    (hm : lastMarks [op, op', op''] [b, c, d] = false := by with_unfolding_all rfl) : MT X W (.Compare a [op, op', op''] [b, c, d] pos) (tstE (chE3 f1 f2 f3 ma mb mc md)) :=
  ⟨PT.wk (pt_chain3 ho ho' ho'' ha.pe hb.pe hc.pe hd.pe hm) fun σ H Q q => tChain3_of (tB_of q)⟩
/-! a call of a def with no arguments -/
theorem me_fn0 (gx : GX X W) {k : Nat} {g : List D → Hh → Res D} {x : Str} {p : Pos} (F : Fn X.prog X.w X.K X.mg X.base x k 0 g) (hr : Room k X.A) (hg : Gl X x) (_ : MA X W [] nilA)
    (hdb : (x == ("__debug__" : Str)) = false := by decide) : ME X W (.Call (.Name x p) [] [] pos) (callE g nilA) := by
  obtain ⟨f, fd, ps, F, hm, hk, hb⟩ := F.ex
  refine ⟨⟨fun pins s σ H Q I q => ?_⟩⟩
  obtain ⟨ρ, η, h, rs, rh, p⟩ := q
  have p : Po X W (rD X) σ η H (g [] h) Q := p
  refine wpAny_Call_Name_kw (ld_glob I hg hm ?_ hdb)
  refine PySem.W.callWith_K0 I.kIn hk (run_fnS (E := WE W) (us := []) (vs := []) F hr hb (L2N.passAt gx.tk σ) I .nil ?_)
  refine ⟨[], η, h, rfl, rh, rfl, ?_⟩
  cases eg : g [] h with
  | ok d h2 => rw [eg] at p; exact fun v η' H' s r rd => p v η' H' s r rd
  | raise c fs h2 => rw [eg] at p; exact fun η' H' C dx s r m re => p η' H' C dx s r m re
  | stuck => rw [eg] at p; exact p.elim
/-! the module's dicts with text keys -/
inductive KEnts (K : PySem.W.Frag) : List DictEntry → List (Str × D) → Prop
  | nil : KEnts K [] []
  | cons {e : DictEntry} {es : List DictEntry} {k : Str} {d : D} {l : List (Str × D)} {t : Tok} {v : V} : e.key = .str k t → RelV v e.val → (∀ η H, RD K η H d v) → KEnts K es l → KEnts K (e :: es) ((k, d) :: l)
structure KD (K : PySem.W.Frag) (mg : Str → Option Value) (w : World) (x : Str) (l : List (Str × D)) : Prop where
  ex : ∃ (a : Addr) (es : Array DictEntry) (n : Nat), mg x = some (.ref a) ∧ K.lookup a = some ⟨.type "dict", none, .dict es n, #[]⟩ ∧ PySem.W.KeysLit w.params es.toList ∧ (a == sysModules) = false ∧ KEnts K es.toList l
def lkG (l : List (Str × D)) (z : Str) : Option D := (l.find? fun p => decide (p.1 = z)).map (·.2)
theorem kents_find {K : PySem.W.Frag} {es : List DictEntry} {l : List (Str × D)} (h : KEnts K es l) (z : Str) :
    es.any (·.refKey) = false ∧ ((∃ e d v, es.find? (·.key.isStr z) = some e ∧ lkG l z = some d ∧ RelV v e.val ∧ ∀ η H, RD K η H d v) ∨ (es.find? (·.key.isStr z) = none ∧ lkG l z = none)) := by
  induction h with
  | nil => exact ⟨rfl, .inr ⟨rfl, rfl⟩⟩
  | @cons e es k d l t v e1 r q _ ih =>
    obtain ⟨i1, i2⟩ := ih
    have er : e.refKey = false := by unfold DictEntry.refKey; rw [e1]; all_goals rfl
    refine ⟨by rw [List.any_cons, er, i1]; rfl, ?_⟩
    have es' : e.key.isStr z = decide (k = z) := by
      rw [e1]
      show (k == z) = _
      rw [Bool.beq_eq_decide_eq]
    by_cases hk : k = z
    · left
      exact ⟨e, d, v, by rw [List.find?_cons, es', decide_eq_true hk], by simp [lkG, List.find?_cons, hk], r, q⟩
    · have a1 : (e :: es).find? (·.key.isStr z) = es.find? (·.key.isStr z) := by rw [List.find?_cons, es', decide_eq_false hk]
      have a2 : lkG ((k, d) :: l) z = lkG l z := by simp [lkG, List.find?_cons, hk]
      rw [a1, a2]
      exact i2
theorem kd_at {K : PySem.W.Frag} {a : Addr} {es : Array DictEntry} {n : Nat} {l : List (Str × D)} (hl : K.lookup a = some ⟨.type "dict", none, .dict es n, #[]⟩) (h : KEnts K es.toList l) (z : Str) :
    (∃ u d v, PySem.W.nsIn K a z = some (some u) ∧ lkG l z = some d ∧ RelV v u ∧ ∀ η H, RD K η H d v) ∨ (PySem.W.nsIn K a z = some none ∧ lkG l z = none) := by
  obtain ⟨h1, h2⟩ := kents_find h z
  unfold PySem.W.nsIn
  rw [hl]
  simp only
  rcases h2 with ⟨e, d, v, e1, e2, r, q⟩ | ⟨e1, e2⟩
  · rw [e1]
    exact .inl ⟨_, d, v, rfl, e2, r, q⟩
  · rw [e1, h1]
    exact .inr ⟨rfl, e2⟩
def inG (l : List (Str × D)) : D → Hh → Res D := fun d h => match d with
  | .str z => .ok (.bl (lkG l z).isSome) h
  | _ => .stuck
def ninG (l : List (Str × D)) : D → Hh → Res D := fun d h => match d with
  | .str z => .ok (.bl (!(lkG l z).isSome)) h
  | _ => .stuck
def ixG (l : List (Str × D)) : D → Hh → Res D := fun d h => match d with
  | .str z => (match lkG l z with
    | some d => .ok d h
    | none => .stuck)
  | _ => .stuck
section
variable {x : Str} {l : List (Str × D)} {p2 : Pos}
theorem inG_of {b : Addr} {es : Array DictEntry} {n : Nat} (hl : X.K.lookup b = some ⟨.type "dict", none, .dict es n, #[]⟩) (en : KEnts X.K es.toList l) {Q : VK} (q : tM X W (rD X) (unE (inG l) ma) σ H Q) :
    tM X W (rD X) ma σ H fun x H1 => ∃ (z : Str) (r : Option Value), x = .str z ∧ V.ref b = .ref b ∧ PySem.W.nsIn X.K b z = some r ∧ Q (.bl r.isSome) H1 := by
  obtain ⟨ρ, η, h, rs, rh, p⟩ := q
  have p : Po X W (rD X) σ η H ((ma ρ h).bind fun x h1 => inG l x h1) Q := p
  refine tM.mono (fun y H1 ⟨d1, η1, h1, s1, r1, q1, p1⟩ => ?_) (Po.seq (R1 := rD X) rs rh p)
  cases d1 with
  | str z =>
    cases q1
    rcases kd_at hl en z with ⟨u, d, v, e1, e2, _⟩ | ⟨e1, e2⟩
    · have p2 : Po X W (rD X) σ η1 H1 (.ok (.bl (lkG l z).isSome) h1) Q := p1
      rw [e2] at p2
      exact ⟨z, _, rfl, rfl, e1, Po.scal p2 r1 rfl⟩
    · have p2 : Po X W (rD X) σ η1 H1 (.ok (.bl (lkG l z).isSome) h1) Q := p1
      rw [e2] at p2
      exact ⟨z, _, rfl, rfl, e1, Po.scal p2 r1 rfl⟩
  | _ => exact p1.elim
theorem ninG_of {b : Addr} {es : Array DictEntry} {n : Nat} (hl : X.K.lookup b = some ⟨.type "dict", none, .dict es n, #[]⟩) (en : KEnts X.K es.toList l) {Q : VK} (q : tM X W (rD X) (unE (ninG l) ma) σ H Q) :
    tM X W (rD X) ma σ H fun x H1 => ∃ (z : Str) (r : Option Value), x = .str z ∧ V.ref b = .ref b ∧ PySem.W.nsIn X.K b z = some r ∧ Q (.bl (!r.isSome)) H1 := by
  obtain ⟨ρ, η, h, rs, rh, p⟩ := q
  have p : Po X W (rD X) σ η H ((ma ρ h).bind fun x h1 => ninG l x h1) Q := p
  refine tM.mono (fun y H1 ⟨d1, η1, h1, s1, r1, q1, p1⟩ => ?_) (Po.seq (R1 := rD X) rs rh p)
  cases d1 with
  | str z =>
    cases q1
    rcases kd_at hl en z with ⟨u, d, v, e1, e2, _⟩ | ⟨e1, e2⟩
    · have p2 : Po X W (rD X) σ η1 H1 (.ok (.bl (!(lkG l z).isSome)) h1) Q := p1
      rw [e2] at p2
      exact ⟨z, _, rfl, rfl, e1, Po.scal p2 r1 rfl⟩
    · have p2 : Po X W (rD X) σ η1 H1 (.ok (.bl (!(lkG l z).isSome)) h1) Q := p1
      rw [e2] at p2
      exact ⟨z, _, rfl, rfl, e1, Po.scal p2 r1 rfl⟩
  | _ => exact p1.elim
theorem me_inG (hg : Gl X x) (G : KD X.K X.mg X.w x l) (ha : ME X W a ma) (hd : (x == ("__debug__" : Str)) = false := by decide) : ME X W (.Compare a [.In] [.Name x p2] pos) (unE (inG l) ma) := by
  obtain ⟨b, es, n, m, hl, hk, lo, en⟩ := G.ex
  exact ⟨PE.wk (pe_cmpR (op_in_kd ⟨hl, hk, lo⟩) ha.pe (pe_glob (v := .ref b) hg m rfl hd) rfl) fun σ H Q q => inG_of hl en q⟩
theorem me_ninG (hg : Gl X x) (G : KD X.K X.mg X.w x l) (ha : ME X W a ma) (hd : (x == ("__debug__" : Str)) = false := by decide) : ME X W (.Compare a [.NotIn] [.Name x p2] pos) (unE (ninG l) ma) := by
  obtain ⟨b, es, n, m, hl, hk, lo, en⟩ := G.ex
  exact ⟨PE.wk (pe_cmpR (op_notIn_kd ⟨hl, hk, lo⟩) ha.pe (pe_glob (v := .ref b) hg m rfl hd) rfl) fun σ H Q q => ninG_of hl en q⟩
theorem mt_inG (hg : Gl X x) (G : KD X.K X.mg X.w x l) (ha : ME X W a ma) (hd : (x == ("__debug__" : Str)) = false := by decide) : MT X W (.Compare a [.In] [.Name x p2] pos) (tstE (unE (inG l) ma)) := by
  obtain ⟨b, es, n, m, hl, hk, lo, en⟩ := G.ex
  exact ⟨PT.wk (pt_cmpR (op_in_kd ⟨hl, hk, lo⟩) ha.pe (pe_glob (v := .ref b) hg m rfl hd) rfl) fun σ H Q q => inG_of hl en (tB_of q)⟩
theorem mt_ninG (hg : Gl X x) (G : KD X.K X.mg X.w x l) (ha : ME X W a ma) (hd : (x == ("__debug__" : Str)) = false := by decide) : MT X W (.Compare a [.NotIn] [.Name x p2] pos) (tstE (unE (ninG l) ma)) := by
  obtain ⟨b, es, n, m, hl, hk, lo, en⟩ := G.ex
  exact ⟨PT.wk (pt_cmpR (op_notIn_kd ⟨hl, hk, lo⟩) ha.pe (pe_glob (v := .ref b) hg m rfl hd) rfl) fun σ H Q q => ninG_of hl en (tB_of q)⟩
theorem me_ixG (hg : Gl X x) (G : KD X.K X.mg X.w x l) (ha : ME X W a ma) (hs : PlainIx a := by exact fun _ _ => rfl) (hd : (x == ("__debug__" : Str)) = false := by decide) : ME X W (.Subscript (.Name x p2) a pos) (unE (ixG l) ma) := by
  obtain ⟨b, es, n, m, hl, hk, lo, en⟩ := G.ex
  refine ⟨PE.wk (pe_ix ix_kdict (pe_glob (v := .ref b) hg m rfl hd) ha.pe hs) fun σ H Q q => ?_⟩
  obtain ⟨ρ, η, h, rs, rh, p⟩ := q
  have p : Po X W (rD X) σ η H ((ma ρ h).bind fun x h1 => ixG l x h1) Q := p
  refine tM.mono (fun y H1 ⟨d1, η1, h1, s1, r1, q1, p1⟩ => ?_) (Po.seq (R1 := rD X) rs rh p)
  cases d1 with
  | str z =>
    cases q1
    rcases kd_at hl en z with ⟨u, d, v, e1, e2, r, qd⟩ | ⟨e1, e2⟩
    · have p2 : Po X W (rD X) σ η1 H1 (match lkG l z with | some d => .ok d h1 | none => .stuck) Q := p1
      rw [e2] at p2
      exact ⟨b, z, v, rfl, rfl, ⟨es, n, u, hl, hk, e1, r⟩, Po.scal p2 r1 (qd _ _)⟩
    · have p2 : Po X W (rD X) σ η1 H1 (match lkG l z with | some d => .ok d h1 | none => .stuck) Q := p1
      rw [e2] at p2
      exact p2.elim
  | _ => exact p1.elim
end
/-! the module's tuples -/
mutual
def GV (K : PySem.W.Frag) : D → Value → Prop
  | .non, u => u = .none
  | .bl b, u => u = .bool b
  | .int i, u => ∃ t, u = .int i t
  | .str x, u => ∃ t, u = .str x t
  | .tup l, u => ∃ a od its n sl, u = .ref a ∧ K.lookup a = some ⟨.type "tuple", od, .seq its n, sl⟩ ∧ its.size ≤ sizeLine ∧ GVs K l its.toList
  | _, _ => False
def GVs (K : PySem.W.Frag) : List D → List Value → Prop
  | [], us => us = []
  | d :: l, us => ∃ u r, us = u :: r ∧ GV K d u ∧ GVs K l r
end
mutual
theorem GV.rd {K : PySem.W.Frag} : ∀ (d : D) (u : Value), GV K d u → ∃ v, RelV v u ∧ ∀ η H, RD K η H d v
  | .non, u, h => by cases (show u = .none from h); exact ⟨.non, rfl, fun _ _ => rfl⟩
  | .bl b, u, h => by cases (show u = .bool b from h); exact ⟨.bl b, rfl, fun _ _ => rfl⟩
  | .int i, u, h => by obtain ⟨t, rfl⟩ := h; exact ⟨.int i, ⟨t, rfl⟩, fun _ _ => rfl⟩
  | .str x, u, h => by obtain ⟨t, rfl⟩ := h; exact ⟨.str x, ⟨t, rfl⟩, fun _ _ => rfl⟩
  | .tup l, u, h => by
    obtain ⟨a, od, its, n, sl, rfl, e, z, g⟩ := h
    obtain ⟨xs, rv, q⟩ := GVs.rd l its.toList g
    exact ⟨.ref a, rfl, fun η H => ⟨a, xs, rfl, .inr ⟨_, its, n, e, rfl, rfl, z, rv⟩, q η H⟩⟩
  | .lst l, u, h => by cases h
  | .dic l, u, h => by cases h
  | .scr l, u, h => by cases h
  | .ref l, u, h => by cases h
  | .ty l, u, h => by cases h
  | .ntp l, u, h => by cases h
theorem GVs.rd {K : PySem.W.Frag} : ∀ (l : List D) (us : List Value), GVs K l us → ∃ xs, Vals xs us ∧ ∀ η H, RDs K η H l xs
  | [], us, h => by cases (show us = [] from h); exact ⟨[], .nil, fun _ _ => rfl⟩
  | d :: l, us, h => by
    obtain ⟨u, r, rfl, g, gs⟩ := h
    obtain ⟨v, r1, q1⟩ := GV.rd d u g
    obtain ⟨xs, r2, q2⟩ := GVs.rd l r gs
    exact ⟨v :: xs, .cons r1 r2, fun η H => ⟨v, xs, rfl, q1 η H, q2 η H⟩⟩
end
theorem GlobAt.gv {K : PySem.W.Frag} {mg : Str → Option Value} {x : Str} {d : D} {u : Value} (m : mg x = some u) (g : GV K d u) : GlobAt K mg x d := by
  obtain ⟨v, r, q⟩ := GV.rd d u g
  exact ⟨u, v, m, r, q⟩
end
end Ev

/-! EvT: index of texts and of the module's tuples of texts. -/
namespace Ev
open PySem PySem.Spec PyProof.Rows L2
/-- a tuple of texts of the module -/
def TupV (K : PySem.W.Frag) (zs : List Str) (u : Value) : Prop := ∃ a its n sl, u = .ref a ∧ K.lookup a = some ⟨.type "tuple", none, .seq its n, sl⟩ ∧ its.size ≤ sizeLine ∧ Vals (zs.map V.str) its.toList
structure TupAt (K : PySem.W.Frag) (mg : Str → Option Value) (x : Str) (zs : List Str) : Prop where
  ex : ∃ u, mg x = some u ∧ TupV K zs u
section
variable {X : Cx} {W : WX} {σ : L2.St} {η : Ad} {H : Hp} {h : Hh} {Q : VK} {pos : Pos}
def tidxG (zs : List Str) (l : List D) (h : Hh) : Res D := match l with
  | [.str z] => (match zs.findIdx? (fun y => decide (y = z)) with
    | some j => .ok (.int ((j : Nat) : Int)) h
    | none => .stuck)
  | _ => .stuck
theorem me_tidxG {x : Str} {zs : List Str} {a : Expr} {ms : EM (List D)} {p2 apos cpos : Pos} (hg : Gl X x) (G : TupAt X.K X.mg x zs) (ha : MA X W [a] ms) (hd : (x == ("__debug__" : Str)) = false := by decide)
    (hbase : attributeBase (.Name x p2) "index" X.env (eval (.Name x p2) X.env) = eval (.Name x p2) X.env := by rfl)
    (hfew : ((backTo cpos (starEach [a] X.env)).all (fun x => !x.1) && (backToKw cpos (keywordEach [] X.env)).all (fun x => x.1.isSome)
      && decide ([a].length + ([] : List Keyword).length + (if ([] : List Keyword).isEmpty then 0 else 1) < 30)) = true := by rfl)
    (hline : (apos.endLine == cpos.line) = true := by rfl) (hs : starEach [a] X.env = (false, eval a X.env) :: starEach [] X.env := by rfl) (hplain : (backTo cpos (starEach [] X.env)).any (·.1) = false := by rfl) :
    ME X W (.Call (.Attribute (.Name x p2) "index" apos) [a] [] cpos) (callE (tidxG zs) ms) := by
  obtain ⟨u, hm, b, its, n, sl, rfl, hl, hz, hv⟩ := G.ex
  refine ⟨PE.wk (pe_bm PySem.F.plainAttrs_tuple PySem.F.slot_tuple_index PySem.F.type_tuple_index mt_tup_index (pe_glob (v := .ref b) hg hm rfl hd) ha.pa hbase hfew hline hs hplain) fun σ H Q q => ?_⟩
  refine ⟨.inr (.inl ⟨rfl, _, hl, rfl, rfl⟩), ?_⟩
  refine tM.mono (fun xs H1 ⟨ρ, l, η1, h1, rs, r1, q1, e, p1⟩ => ?_) (tM.args ha q)
  unfold tidxG at p1
  split at p1
  · rename_i z
    obtain ⟨v, rfl, r⟩ := rds1 q1
    cases r
    split at p1
    · rename_i j ej
      obtain ⟨h1, h2, h3⟩ := List.findIdx?_eq_some_iff_getElem.mp ej
      refine ⟨b, zs, z, j, rfl, rfl, .inr ⟨_, its, n, hl, rfl, rfl, hz, hv⟩, ?_, fun m hm e => ?_, Po.scal p1 r1 rfl⟩
      · rw [List.getElem?_eq_getElem h1]
        exact congrArg some (of_decide_eq_true h2)
      · obtain ⟨h4, h5⟩ := List.getElem?_eq_some_iff.mp e
        exact h3 m hm (decide_eq_true h5)
    · exact p1.elim
  · exact p1.elim
def isStr (d : D) (h : Hh) : Prop := ∃ x, d = .str x
theorem ty_str : TyD X "str" isStr := by
  rintro η H h a x rh ra ⟨z, rfl⟩
  cases ra
  exact rfl
def sidxD (a : D) (l : List D) (h : Hh) : Res D := match a with
  | .str a => (match l with
    | [.str b] => (match Builtin.Str.occurrences a b 0 a.length 1 with
      | i :: _ => .ok (.int ((i : Nat) : Int)) h
      | [] => .stuck)
    | _ => .stuck)
  | _ => .stuck
theorem md_sidx : MtD X W "str" (fun x xs H Q => ∃ a b i rest, x = .str a ∧ xs = [.str b] ∧ Builtin.Str.occurrences a b 0 a.length 1 = i :: rest ∧ Q (.int (i : Nat)) H) sidxD := by
  intro σ η H h a l x xs Q rh ra rl p
  unfold sidxD at p
  split at p
  · rename_i a
    cases ra
    split at p
    · rename_i b
      obtain ⟨v, rfl, r⟩ := rds1 rl
      cases r
      split at p
      · rename_i i rest e
        exact ⟨a, b, i, rest, rfl, rfl, e, Po.scal p rh rfl⟩
      · exact p.elim
    · exact p.elim
  · exact p.elim
/-! range down -/
def rngDn (i : Int) (n : Nat) : List D := (List.range n).map fun t : Nat => .int (i - (t : Int))
def rng3D (l : List D) (h : Hh) : Res IT := match l with
  | [.int i, .int j, .int c] => if i62 i ∧ i62 j ∧ c = -1 then .ok ⟨rngDn i (i - j).toNat, none⟩ h else .stuck
  | _ => .stuck
def rng3I (ms : EM (List D)) : EM IT := fun ρ h => (ms ρ h).bind rng3D
theorem wkR3 {i : Int} {n : Nat} : Wk X ⟨rngDn i n, none⟩ (Itc i (-1) n) η H := by
  intro η' H' h' s r c
  refine ⟨by show n ≤ (rngDn i n).length; unfold rngDn; simp, fun k d ed => ?_⟩
  have ed : (rngDn i n)[k]? = some d := ed
  have hl : k < n := by
    have := (List.getElem?_eq_some_iff.mp ed).1
    unfold rngDn at this
    simpa using this
  have e1 : (rngDn i n)[k]? = some (.int (i - (k : Int))) := by
    unfold rngDn
    rw [List.getElem?_map, List.getElem?_range hl]
    rfl
  rw [e1] at ed
  cases ed
  refine ⟨hl, fun y H'' ⟨e1, e2⟩ => ?_⟩
  subst e1
  refine ⟨fun _ _ z => z, ?_⟩
  rw [e2]
  show V.int _ = V.int _
  congr 1
  omega
theorem mi_range3 {tg a b c : Expr} {p : Pos} {ms : EM (List D)} (hg : Gl X "range") (hm : X.mg "range" = none) (ha : MA X W [a, b, c] ms) (hs : starEach [a, b, c] X.env = (false, eval a X.env) :: starEach [b, c] X.env := by rfl) (hpl : (backTo pos (starEach [b, c] X.env)).any (·.1) = false := by rfl) :
    MI X W tg (.Call (.Name "range" p) [a, b, c] [] pos) (rng3I ms) :=
  ⟨PI.wk (pi_range3 hg hm ha.pa hs hpl) fun σ H R q => by
  refine tM.mono (fun xs H1 ⟨l, η1, h1, r1, q1, hl, p1⟩ => ?_) (tMI.args ha q)
  unfold rng3D at p1
  split at p1
  · rename_i i j c
    obtain ⟨v1, r, rfl, q1a, v2, r2, rfl, q1b, v3, r3, rfl, q1c, e⟩ := q1
    cases q1a; cases q1b; cases q1c; cases e
    split at p1
    · rename_i hz
      obtain ⟨hz1, hz2, rfl⟩ := hz
      unfold i62 at hz1 hz2
      exact ⟨i, j, -1, (i - j).toNat, rfl, RgC.neg (by omega) (by omega) (by omega) (by omega), p1 _ η1 H1 (.refl _ _) r1 wkR3⟩
    · exact p1.elim
  · exact p1.elim⟩
/-! setdefault -/
def setdD (o k v : D) (h : Hh) : Res D := match mdOf o h with
  | some (n, l) => if (keyD k).isSome = true ∧ l.length < sizeLine then (match lookD l k with
    | some d => .ok d h
    | none => .ok v (h.set n (.dic (putD l k v)))) else .stuck
  | none => .stuck
def setdE (mo mk mv : EM D) : EM D := fun ρ h => (mo ρ h).bind fun o h1 => match mdOf o h1 with
  | none => .stuck
  | some _ => (mk ρ h1).bind fun k h2 => (mv ρ h2).bind fun v h3 => setdD o k v h3
theorem me_setd {o e f : Expr} {mo mk mv : EM D} {apos cpos : Pos} (ho : ME X W o mo) (hk : ME X W e mk) (hv : ME X W f mv) (m : M2 X o "setdefault" apos e f cpos) : ME X W (.Call (.Attribute o "setdefault" apos) [e, f] [] cpos) (setdE mo mk mv) :=
  ⟨PE.wk (pe_dsetd ho.pe hk.pe hv.pe m) fun σ H Q q => by
  obtain ⟨ρ, η, h, rs, rh, p⟩ := q
  refine tM.mono (fun x H1 ⟨d, η1, h1, s1, r1, q1, p1⟩ => ?_) (Po.seq (R1 := rD X) rs rh p)
  split at p1
  · exact p1.elim
  · rename_i nl em
    obtain ⟨a, xs, rfl, ea, s, t⟩ := mdOf_of r1 q1 em
    refine ⟨a, rfl, .inl ⟨xs, .inl s⟩, ?_⟩
    refine tM.mono (fun y H2 ⟨k, η2, h2, s2, r2, q2, p2⟩ => ?_) (Po.seq (R1 := rD X) (rs.step s1) r1 p1)
    refine tM.mono (fun z H3 ⟨v, η3, h3, s3, r3, q3, p3⟩ => ?_) (Po.seq (R1 := rD X) ((rs.step s1).step s2) r2 p2)
    unfold setdD at p3
    split at p3
    · rename_i n l em3
      obtain ⟨a3, xs3, e3, ea3, t3, u3⟩ := mdOf_of r3 (RD.step (s2.trans s3) _ _ q1) em3
      cases e3
      split at p3
      · rename_i hz
        obtain ⟨k', ek⟩ := Option.isSome_iff_exists.mp hz.1
        have q2' := RD.step s3 _ _ q2
        have lk := lookD_of ek u3
        refine ⟨xs3, k', t3, keyD_of ek q2', by rw [rks_length u3]; exact hz.2, fun u eu => ?_, fun eu => ?_⟩
        · cases el : lookD l k with
          | none =>
            rw [el] at lk
            rw [lk] at eu
            cases eu
          | some d' =>
            rw [el] at lk p3
            obtain ⟨v', ev, rv⟩ := lk
            rw [ev] at eu
            cases eu
            exact Po.scal p3 r3 rv
        · cases el : lookD l k with
          | some d' =>
            rw [el] at lk
            obtain ⟨v', ev, rv⟩ := lk
            rw [ev] at eu
            cases eu
          | none =>
            rw [el] at p3
            have st : Step η3 H3 η3 (upd H3 a (.dK (putK xs3 k' z))) := r3.updS ea3 t3 trivial
            exact p3 z η3 _ st (r3.set ea3 t3 trivial ⟨_, upd_same, RKs.step st _ _ (rks_put u3 ek q3)⟩) (q3.step st)
      · exact p3.elim
    · exact p3.elim⟩
/-! += -/
def iaddD : D → D → Hh → Res D
  | .int i, .int j, h => .ok (.int (i + j)) h
  | .str i, .str j, h => if i.length + j.length ≤ sizeLine then .ok (.str (i ++ j)) h else .stuck
  | _, _, _ => .stuck
def rIadd : R2 := fun x y H Q => rI0 (fun i j => .int (i + j)) x y H Q ∨ (∃ i j, x = .str i ∧ y = .str j ∧ i.length + j.length ≤ sizeLine ∧ Q (.str (i ++ j)) H)
theorem iop_addS : OpR X (inplaceOp .Add) rIadd := iop_add.or iop_add_str
theorem od_iadd : OpD X W rIadd iaddD := by
  intro σ η H h a b x y Q rh ra rb p
  unfold iaddD at p
  split at p
  · rename_i i j
    cases ra; cases rb
    exact .inl ⟨i, j, rfl, rfl, Po.scal p rh rfl⟩
  · rename_i i j
    cases ra; cases rb
    split at p
    · rename_i hz
      exact .inr ⟨i, j, rfl, rfl, hz, Po.scal p rh rfl⟩
    · exact p.elim
  · exact p.elim
end
end Ev

set_option maxHeartbeats 2000000
/-! EvX: own exceptions whose __init__ says super().__init__(f'..') and self.f = f. -/
namespace PySem
namespace SupX
open PySem.W PySem.Calls PyProof.Rows PySem.HandSPX
def iA (f : Str) (p1 p2 : Pos) : Arguments := { posonlyargs := [], args := [{ arg := "self", annotation := none, pos := p1 }, { arg := f, annotation := none, pos := p2 }], vararg := none, kwonlyargs := [], kw_defaults := [], kwarg := none, defaults := [] }
def supE (pre f : Str) (n : Nat) (q1 q2 q3 q4 q5 q6 q7 q8 : Pos) : Expr := .Call (.Attribute (.Call (.Name "super" q1) [] [] q2) "__init__" q3) [.JoinedStr [.Constant (.str pre) n q4, .FormattedValue (.Name f q5) (-1) none q6] q7] [] q8
def asgE (f : Str) (r1 r2 r3 r4 : Pos) : Stmt := .Assign [.Attribute (.Name "self" r1) f r2] (.Name f r3) r4
def iS (f : Str) : Scope := { kind := .function, names := [(PySem.Str.ofString "self", .local), (f, .local), (PySem.Str.ofString "__class__", .free), (PySem.Str.ofString "super", .globalImplicit)], isGenerator := false, isCoroutine := false, more := [] }
/-- what the written part says of the class and its __init__ -/
structure XTxt (prog : Program) (K : Frag) (mg : Str → Option Value) (c f : Str) (C fI : Addr) : Prop where
  gC : mg c = some (.ref C)
  cls : ∃ nm q N bs bm sn sub ab col dd k0 k1 k2 k3 k5, K.lookup C = some (excClassObj nm q C N bs bm true sn sub ab col dd k0 k1 k2 k3 k5 "ValueError.__new__") ∧ refsVE bm = true
  sa : findIn K (.ref C) "__setattr__" = some (some (.builtin "object.__setattr__"))
  ga : findIn K (.ref C) "__getattribute__" = some (some (.builtin "BaseException.__getattribute__"))
  gg : findIn K (.ref C) "__getattr__" = some none
  noN : findIn K (.ref C) f = some none
  iC : findIn K (.ref C) "__init__" = some (some (.ref fI))
  tC : typeIn K (.ref fI) = some (.type "function")
  kC : keepIn K (.ref C) = true
  exC : subIn K (.ref C) (.type "BaseException") = some true
  veC : subIn K (.ref C) (.type "ValueError") = some true
  tyC : typeIn K (.ref C) = some (.type "type")
  hdC : hasDictIn K C = true
  te : exmOne K (.ref C) (.ref C) = some true
  sup : ks_superIn K C C "__init__" = some (some (.builtin "ValueError.__init__"))
  selfsub : mroIn K C (.ref C) = some true
  any : nsIn K cStatics "thirdparty.any" = some none
  gsup : mg "super" = none
  htop : (prog.main.scope.names.lookup ("super" : Str)).isSome = false
  nself : (("self" : Str) == f) = false
  ndb : (f == ("__debug__" : Str)) = false
  lself : (iS f).names.lookup ("self" : Str) = some .local
  lf : (iS f).names.lookup f = some .local
  lsup : (iS f).names.lookup ("super" : Str) = some .globalImplicit
  lcls : (iS f).names.lookup ("__class__" : Str) = some .free
  fn : ∃ (pre qual : Str) (n : Nat) (oc : Value) (od : Option Addr) (kV doc pm : Value) (an : Option Addr) (cda cc : Addr) (ct : Value) (osl : Array (Option Value)) (p1 p2 q1 q2 q3 q4 q5 q6 q7 q8 q9 r1 r2 r3 r4 : Pos),
    K.lookup fI = some ⟨oc, od, .func (ksFn "__init__" qual (iA f p1 p2) [.Expr (supE pre f n q1 q2 q3 q4 q5 q6 q7 q8) q9, asgE f r1 r2 r3 r4] (iS f) .none kV doc pm an (.ref cda) ct cc), osl⟩ ∧ codeIn K (.ref cda) qual = true ∧ pre.length ≤ 1000 ∧
    (∀ (s : Shared) (x v : Value), BindsTo s (ksFn "__init__" qual (iA f p1 p2) [.Expr (supE pre f n q1 q2 q3 q4 q5 q6 q7 q8) q9, asgE f r1 r2 r3 r4] (iS f) .none kV doc pm an (.ref cda) ct cc) ⟨[x, v], []⟩ [("self", x), (f, v)]) ∧
    (∃ pl : PySem.Env → Sem Bool, ∀ env : PySem.Env, eval (supE pre f n q1 q2 q3 q4 q5 q6 q7 q8) env = (do
      let ov ← attributeBase (.Call (.Name "super" q1) [] [] q2) "__init__" env (eval (.Call (.Name "super" q1) [] [] q2) env)
      standAt q3.atName
      let (fn, first) ← holding [ov] (getMethod ov "__init__" (pl env))
      callWith q8 fn first (backTo q8 (starEach [.JoinedStr [.Constant (.str pre) n q4, .FormattedValue (.Name f q5) (-1) none q6] q7] env)) [])) ∧
    (∃ cl cld csl, K.lookup cc = some ⟨cl, cld, .cell (some (.ref C)), csl⟩) ∧
    (∃ ccl cdd vs ccs file tf, K.lookup cda = some ⟨ccl, cdd, .fields vs, ccs⟩ ∧ vs[2]? = some (.str file tf) ∧ ((prog.main.file : Str) == file) = true)
/-- the call of super().__init__, as the tree says it -/
def SupEv (pre f : Str) (n : Nat) (q1 q2 q3 q4 q5 q6 q7 q8 : Pos) : Prop := ∃ pl : PySem.Env → Sem Bool, ∀ env : PySem.Env, eval (supE pre f n q1 q2 q3 q4 q5 q6 q7 q8) env = (do
  let ov ← attributeBase (.Call (.Name "super" q1) [] [] q2) "__init__" env (eval (.Call (.Name "super" q1) [] [] q2) env)
  standAt q3.atName
  let (fn, first) ← holding [ov] (getMethod ov "__init__" (pl env))
  callWith q8 fn first (backTo q8 (starEach [.JoinedStr [.Constant (.str pre) n q4, .FormattedValue (.Name f q5) (-1) none q6] q7] env)) [])
/-- an error of the class at S is what «except S» names -/
theorem exm_self {K : PySem.W.Frag} {S : Addr} (h1 : PySem.W.subIn K (.ref S) (.type "BaseException") = some true) (h2 : PySem.W.isClsIn K S = true) (h3 : PySem.W.typeIn K (.ref S) = some (.type "type")) (h4 : PySem.W.subIn K (.ref S) (.ref S) = some true) :
    PySem.W.exmOne K (.ref S) (.ref S) = some true := by
  have e1 : (PySem.W.subIn K (.ref S) (.type "BaseException") == some true) = true := by rw [h1] <;> rfl
  have e2 : ((PySem.W.clsIn K S).isSome && PySem.W.typeIn K (.ref S) == some (.type "type")) = true := by
    have h2' : (PySem.W.clsIn K S).isSome = true := h2
    rw [h2', h3] <;> rfl
  show (if (PySem.W.subIn K (.ref S) (.type "BaseException") == some true) = true then (if ((PySem.W.clsIn K S).isSome && PySem.W.typeIn K (.ref S) == some (.type "type")) = true then PySem.W.subIn K (.ref S) (.ref S) else none) else none) = some true
  rw [if_pos e1, if_pos e2]
  exact h4
/-- what can be said in the text of the exception -/
def fmtOk (v : Value) : Prop := (∃ y t, v = .str y t ∧ y.length ≤ 1000) ∨ ∃ i t, v = .int i t ∧ i.natAbs.log2 < 1920
theorem one_size (v : Value) : [v].length ≤ sizeLine := by
  rw [sizeLine_eq]
  exact (by decide : 1 ≤ 16777216)
section
variable {prog : Program} {w : World} {A : Around} {E : Value → Shared → Prop} {h : Heap} {g : Array GenState} {d : Drawn} {t : Nat} {os : OsState}
variable {nm q : Str} {C N : Addr} {bs bm : List Value} {hdct : Bool} {sn : List Str} {sub : List Value} {ab : Bool} {col : Option Bool} {dd : Option Addr} {k0 k1 k2 k3 k5 : Option Value}
theorem check_bound_own (hT : ∀ X : String, bm.contains (.type X) = ([.type "ValueError", .type "Exception", .type "BaseException", .type "object"] : List Value).contains (.type X)) {e : Addr} {oe : Obj} {rest : List Value} {Q : Unit → Shared → Prop}
    (hC : h.get? C = some (excClassObj nm q C N bs bm hdct sn sub ab col dd k0 k1 k2 k3 k5 "ValueError.__new__")) (he : h.get? e = some oe) (hcls : oe.cls = .ref C) (hq : Q () ⟨h, g, d, t, os⟩) :
    wpAny (model prog w) A (checkBoundCall "ValueError.__init__" ⟨.ref e :: rest, []⟩) Q E ⟨h, g, d, t, os⟩ := PySem.ESX.check_bound F.excBase_ValueError hC he hcls hq
theorem call_mw (hT : ∀ X : String, bm.contains (.type X) = ([.type "ValueError", .type "Exception", .type "BaseException", .type "object"] : List Value).contains (.type X)) {u e t0 : Addr} {rest : List Value} {Q : Value → Shared → Prop}
    (hC : h.get? C = some (excClassObj nm q C N bs bm hdct sn sub ab col dd k0 k1 k2 k3 k5 "ValueError.__new__")) (he : h.get? e = some (HandSPX.excO C t0)) (hu : h.get? u = some (kxs_mw "ValueError.__init__" e)) (hrest : rest.length ≤ sizeLine)
    (hq : ∀ h' t1, (∀ b o, b ≠ e → h.get? b = some o → h'.get? b = some o) → h'.get? e = some (HandSPX.excO C t1) → Q .none ⟨h', g, d, t, os⟩) :
    wpAny (model prog w) A (call (.ref u) rest) Q E ⟨h, g, d, t, os⟩ := by
  refine wpAny_call (codeAny_of_tree ?_)
  show wpAny _ A.in1 (callAny (.ref u) ⟨rest, []⟩) _ _ _
  simp only [callAny]
  refine wpAny_bind (wpAny_load hu ?_)
  simp only [kxs_mw, show (Value.type "method-wrapper" == Value.type "method" || Value.type "method-wrapper" == Value.type "builtin_function_or_method" || Value.type "method-wrapper" == Value.type "method-wrapper") = true by decide, if_true]
  refine W.KFB.if_so (by decide) ?_
  refine wpAny_bind (check_bound_own hT hC he rfl ?_)
  refine wpAny_bind (wpAny_pure (wpAny_pure ?_))
  refine ⟨Code.quiet_builtin _ (by decide +kernel), codeAny_builtin F.excBase_ValueError.initEntry ?_⟩
  rw [Around.under_plainId F.excBase_ValueError.init.plain _]
  wp_walk
  refine hq _ h.objs.size (fun b o hb ho => ?_) ?_
  · rw [Heap.get?_update_other _ _ (Ne.symm hb)]
    exact Heap.get?_push_of_some _ ho
  · rw [Heap.get?_update_self _ (Heap.get?_push_of_some _ he) rfl]
    rfl
end
/-- what __init__ leaves of a fresh exception at x -/
structure InitEnd (f : Str) (h h' : Heap) (x C dx t1 : Addr) (v : Value) : Prop where
  keep : ∀ b o, b ≠ x → h.get? b = some o → h'.get? b = some o
  obj : h'.get? x = some { cls := .ref C, dict := some dx, data := .fields #[.ref t1, .none, .none, .none, .bool false, .none] }
  dbig : h.objs.size ≤ dx
  dne : dx ≠ x
  ns : h'.Ns1 dx (fun y => if y = f then some v else none)
/-- a made one -/
structure OwnMade (f : Str) (h h' : Heap) (e C d : Addr) (v : Value) : Prop where
  keep : ∀ b o, h.get? b = some o → h'.get? b = some o
  new : h.objs.size ≤ e
  obj : ∃ oe vs, h'.get? e = some oe ∧ oe.cls = .ref C ∧ oe.dict = some d ∧ oe.data = .fields vs ∧ vs[1]? = some .none ∧ vs[2]? = some .none
  dbig : h.objs.size ≤ d
  dne : d ≠ e
  ns : h'.Ns1 d (fun y => if y = f then some v else none)
section
variable {prog : Program} {w : World} {A : Around} {E : Value → Shared → Prop} {R : Result → Shared → Prop} {s : Shared} {K : Frag} {mg : Str → Option Value} {c f : Str} {C fI : Addr} {base : Heap}
theorem fmt_text {v : Value} (hf : fmtOk v) {pre : Str} (hp : pre.length ≤ 1000) {A : Around} {E : Value → Shared → Prop} {s : Shared} {Q : Value → Shared → Prop}
    (h : ∀ y t s', (pre ++ y).length ≤ sizeLine → s'.heap = s.heap → s'.gens = s.gens → s'.drawn = s.drawn → s'.os = s.os → Q (.str y t) s') : wpAny (model prog w) A (formatField v Str.empty) Q E s := by
  rcases hf with ⟨y, t, rfl, hy⟩ | ⟨i, t, rfl, hi⟩
  · have hz : (pre ++ y).length ≤ sizeLine := by
      rw [strLen_append, sizeLine_eq]
      omega
    exact wpAny_formatField_str (h y t s hz rfl rfl rfl rfl) (h y _ _ hz rfl rfl rfl rfl) (by rw [sizeLine_eq]; omega)
  · refine wpAny_formatField_int hi (h _ _ _ ?_ rfl rfl rfl rfl)
    have e := int_text_length_le (k := 1920) (by decide) hi
    rw [strLen_append, ofString_length, sizeLine_eq]
    omega
theorem kept_but {K : Frag} {h h' : Heap} {x : Addr} (X : K.In h) (hx : K.lookup x = none) (k : ∀ b o, b ≠ x → h.get? b = some o → h'.get? b = some o) : K.In h' := fun a o e =>
  k a o (fun z => by rw [z, hx] at e; cases e) (X a o e)
theorem sup_init (T : XTxt prog K mg c f C fI) (Y : L2.Mod K mg base) (bk : ∀ b o, base.get? b = some o → s.heap.get? b = some o) {x t0 : Addr} {v : Value} (X : K.In s.heap) (hlim : s.heap.NoLimit) (hx : s.heap.get? x = some (excO C t0)) (hnx : K.lookup x = none)
    (hroom : A.depth < recursionLimit) (hf : fmtOk v) (hq : ∀ h' tk dx t1, InitEnd f s.heap h' x C dx t1 v → R (.ok (.ret .none)) { s with heap := h', toks := tk }) :
    codeAny (model prog w) A (.call (.ref fI) ⟨[.ref x, v], []⟩) R s := by
  obtain ⟨pre, qual, n, oc, od, kV, doc, pm, an, cda, cc, ct, osl, p1, p2, q1, q2, q3, q4, q5, q6, q7, q8, q9, r1, r2, r3, r4, ho, hcd, hpre, hbind, ⟨pl, hev⟩, ⟨cl, cld, csl, hcell⟩, ⟨ccl, cdd, vs, ccs, file, tf, hcode, hvs, hfile⟩⟩ := T.fn
  obtain ⟨nm, q, N, bs, bm, sn, sub, ab, col, dd, k0, k1, k2, k3, k5, hC, hbm⟩ := T.cls
  have hcl : clsIn K C = some { name := nm, bases := bs, mro := .ref C :: bm, ns := N, qualname := q, hasDict := true, slotNames := sn, subclasses := sub, abstract := ab, collection := col, hasDel := false } := by unfold clsIn; rw [hC] <;> rfl
  have hnc : ∀ y ∈ (iS f).names, y.2 ≠ .cell := by
    intro y hy
    simp only [iS, List.mem_cons, List.not_mem_nil, or_false] at hy
    rcases hy with rfl | rfl | rfl | rfl <;> exact fun h => nomatch h
  refine ks_codeAny_call_defAt (fd := ksFn "__init__" qual (iA f p1 p2) [.Expr (supE pre f n q1 q2 q3 q4 q5 q6 q7 q8) q9, asgE f r1 r2 r3 r4] (iS f) .none kV doc pm an (.ref cda) ct cc) (body := [.Expr (supE pre f n q1 q2 q3 q4 q5 q6 q7 q8) q9, asgE f r1 r2 r3 r4]) (binds := [("self", .ref x), (f, v)])
    hroom (X _ _ ho) rfl hlim (codeRec_of X hcd) rfl (hbind s (.ref x) v) hnc (fun y hy => ?_) (fun h₁ hns k => ?_) rfl rfl rfl
  · simp only [List.mem_cons, List.not_mem_nil, or_false] at hy
    rcases hy with rfl | rfl
    · exact T.lself
    · exact T.lf
  obtain ⟨hp, g, d, t, os⟩ := s
  have hxL : hp.objs.size ≠ x := Nat.ne_of_gt (Heap.lt_size hx)
  have X₁ : K.In h₁ := X.keeps k
  have hx₁ := k _ _ hx
  have hk : (iS f).kind = .function := rfl
  have mself : ([(("self" : Str), Value.ref x), (f, v)] : List (Str × Value)).reverse.lookup ("self" : Str) = some (Value.ref x) := by
    show ([(f, v), (("self" : Str), Value.ref x)] : List (Str × Value)).lookup ("self" : Str) = _
    rw [List.lookup_cons, T.nself]
    simp
  have mf : ([(("self" : Str), Value.ref x), (f, v)] : List (Str × Value)).reverse.lookup f = some v := by
    show ([(f, v), (("self" : Str), Value.ref x)] : List (Str × Value)).lookup f = _
    rw [List.lookup_cons]
    simp
  refine ks_wpAt_execs_cons (ks_wpAt_Expr_any (ks_wpAt_MethodCall (he := hev _) ?_))
  refine ks_wpAt_super_base T.lsup T.lcls (by decide) rfl (X₁ _ _ ho) rfl rfl rfl (X₁ _ _ hcode) rfl hvs hfile T.htop ?_
  obtain ⟨mb, b1, b2⟩ := Y.blt
  have bk₁ : ∀ b o, base.get? b = some o → h₁.get? b = some o := fun b o e => k b o (bk b o e)
  refine ks_loadName_global hk T.lsup (loadGlobal_builtin (Y.glob.keeps bk₁) T.gsup (b1.keeps bk₁) ((b2 _ (by decide)).trans (show bootBuiltins "super" = some (.type "super") from by first | rfl | kernel_rfl)) ⟨rfl, ?_⟩)
  refine wpAny_loadName_free hk T.lcls rfl ⟨_, X₁ _ _ hcell, rfl⟩ ?_
  refine wpAny_loadName_local hk T.lself hns mself ?_
  have hD1 := X₁ _ _ hC
  refine ks_wpAny_isType_cls hD1 rfl ⟨rfl, ?_⟩
  refine ks_wpAny_call_super hD1 rfl hx₁ rfl (fun c e => nomatch e) (looks_mroIn X₁ T.selfsub) (fun h₂ e₂ k₂ => ?_)
  have X₂ : K.In h₂ := X₁.keeps k₂
  have hx₂ := k₂ _ _ hx₁
  have hxC : x ≠ C := fun z => by
    rw [z] at hnx
    rw [hnx] at hC
    cases hC
  have hsup : alongIn K "__init__" (((.ref C :: bm : List Value).dropWhile (· != .ref C)).drop 1) = some (some (.builtin "ValueError.__init__")) := by
    have := T.sup
    unfold ks_superIn at this
    rw [hcl] at this
    exact this
  have LT : Looks (model prog w) h₂ (typeOf (.ref x)) (.ref C) := fun A Q E s k q => wpAny_typeOf_ref (k _ _ hx₂) q
  have hI : Looks (model prog w) h₂ (isInstance (.ref x) (.type "ValueError")) true := LT.andThen (looks_subIn X₂ T.veC)
  refine kxs_getMethod kxs_ValueError e₂ (looks_opaque X₂ T.any) (l₀ := .ref C :: bm) ((looks_clsIn X₂ hcl).andThen .now) rfl X₂ hsup hI hxC (by decide) ?_
  have hbt : ∀ env : PySem.Env, backTo q8 (starEach [.JoinedStr [.Constant (.str pre) n q4, .FormattedValue (.Name f q5) (-1) none q6] q7] env) = [(false, eval (.JoinedStr [.Constant (.str pre) n q4, .FormattedValue (.Name f q5) (-1) none q6] q7) env)] := fun _ => rfl
  rw [hbt]
  have hu : (h₂.push (kxs_mw "ValueError.__init__" x)).get? h₂.objs.size = some (kxs_mw "ValueError.__init__" x) := Heap.get?_push_at rfl rfl
  have k₃ : ∀ b o, h₂.get? b = some o → (h₂.push (kxs_mw "ValueError.__init__" x)).get? b = some o := fun b o e => Heap.get?_push_of_some _ e
  have hns₃ : (h₂.push (kxs_mw "ValueError.__init__" x)).Ns hp.objs.size (fun y => ([(("self" : Str), Value.ref x), (f, v)] : List (Str × Value)).reverse.lookup y) := (hns.keeps k₂).keeps k₃
  have pz : pre.length ≤ sizeLine := by rw [sizeLine_eq]; omega
  refine kxs_callWith (i := "ValueError.__init__") (x := x) rfl (evalArgs_plain (spliced_cons ?_))
  refine wpAny_JoinedStr ?_
  have lens : ∀ y : Str, (pre ++ y).length ≤ sizeLine → (Str.empty ++ pre ++ y).length ≤ sizeLine := fun y hy => by
    rw [strLen_append] at hy ⊢
    rw [strLen_append]
    have : Str.empty.length = 0 := rfl
    omega
  refine Constant_str ⟨pre, _, rfl, by rw [strLen_append]; have : Str.empty.length = 0 := rfl; omega, ?_⟩
  refine wpAny_FormattedValue_plain (wpAny_Name (wpAny_loadName_local hk T.lf hns₃ mf ?_) T.ndb)
  refine fmt_text hf hpre fun y tt s' hz e1 e2 e3 e4 => ⟨y, tt, rfl, lens y hz, lens y hz, ?_⟩
  obtain ⟨hp', g', d', t', os'⟩ := s'
  cases e1; cases e2; cases e3; cases e4
  refine spliced_nil ⟨hu, ?_⟩
  have hC₃ := k₃ _ _ (X₂ _ _ hC)
  refine call_mw (fun Y => refsVE_contains Y bm hbm) hC₃ (k₃ _ _ hx₂) hu (one_size _) fun h₄ t4 k₄ hx₄ => ?_
  have nx : ∀ {b : Addr} {o : Obj}, K.lookup b = some o → b ≠ x := fun {b o} e z => by rw [z, hnx] at e; cases e
  have X₄ : K.In h₄ := kept_but (X₂.keeps k₃) hnx k₄
  have hns₄ : h₄.Ns hp.objs.size (fun y => ([(("self" : Str), Value.ref x), (f, v)] : List (Str × Value)).reverse.lookup y) := by
    obtain ⟨oL, es, ep, hL, r⟩ := hns₃
    exact ⟨oL, es, ep, k₄ _ _ hxL hL, r⟩
  refine wpAt_of_wpAny (wpAny_execs_cons (plainObj_wpAny_Assign_Attribute ?_))
  refine wpAny_Name (wpAny_loadName_local hk T.lf hns₄ mf ?_) T.ndb
  refine wpAny_Name (wpAny_loadName_local hk T.lself hns₄ mself ?_) (by decide)
  refine set_plain X₄ (ox := excO C t4) (od := none) ⟨hx₄, rfl, rfl, trivial⟩ T.sa ?_
  refine exc_osa X₄ hx₄ hcl (show refsVE (.ref C :: bm) = true from hbm) rfl T.noN (fun h₅ tk₅ dx k₅ dn dne hx₅ hn₅ => ?_)
  show wpAny _ _ (execs _ _) _ _ _
  have z : hp.objs.size < h₄.objs.size := hns₄.lt
  exact wpAny_execs_nil (hq h₅ tk₅ dx t4 ⟨fun b o hb e => k₅ b o hb (k₄ b o hb (k₃ b o (k₂ b o (k b o e)))), hx₅, Nat.le_of_lt (Nat.lt_of_lt_of_le z dn), dne, hn₅⟩)
theorem sup_made (T : XTxt prog K mg c f C fI) (Y : L2.Mod K mg base) (bk : ∀ b o, base.get? b = some o → s.heap.get? b = some o) {v : Value} (X : K.In s.heap) (hlim : s.heap.NoLimit) (hroom : A.depth + 1 < recursionLimit) (hf : fmtOk v)
    (hq : ∀ h' tk e d, OwnMade f s.heap h' e C d v → R (.ok (.ret (.ref e))) { s with heap := h', toks := tk }) :
    codeAny (model prog w) A (.call (.ref C) ⟨[v], []⟩) R s := by
  obtain ⟨nm, q, N, bs, bm, sn, sub, ab, col, dd, k0, k1, k2, k3, k5, hC, hbm⟩ := T.cls
  obtain ⟨hp, g, dr, tk, os⟩ := s
  have k : ∀ b o, hp.get? b = some o → ((hp.push (kdv_tup [v])).push (excO C hp.objs.size)).get? b = some o := fun b o e => Heap.get?_push_of_some _ (Heap.get?_push_of_some _ e)
  have hget : ((hp.push (kdv_tup [v])).push (excO C hp.objs.size)).get? (hp.objs.size + 1) = some (excO C hp.objs.size) := by heap_get
  have hnx : K.lookup (hp.objs.size + 1) = none := by
    cases e : K.lookup (hp.objs.size + 1) with
    | none => rfl
    | some o =>
      have z : hp.get? (hp.objs.size + 1) = some o := X _ _ e
      exact absurd (Nat.lt_of_succ_lt (Heap.lt_size z)) (Nat.lt_irrefl _)
  refine call_own F.excBase_ValueError (fun X => refsVE_contains X bm hbm) (X _ _ hC) (looks_findIn X T.iC) (fun self => bind_fn X self T.tC) (one_size v) ?_
  refine sup_init (s := ⟨(hp.push (kdv_tup [v])).push (excO C hp.objs.size), g, dr, tk, os⟩) T Y (fun b o e => k b o (bk b o e)) (X.keeps k) (hlim.keeps k) hget hnx ?_ hf fun h' tk' dx t1 ⟨k', hx, dn, dne, hns⟩ => ?_
  · show A.depth + 1 < recursionLimit
    exact hroom
  · have old : ∀ b o, hp.get? b = some o → h'.get? b = some o := fun b o e => k' b o (Nat.ne_of_lt (Nat.lt_succ_of_lt (Heap.lt_size e))) (k b o e)
    have z : hp.objs.size + 1 + 1 ≤ dx := by
      first
        | (simpa only [Heap.size_push] using dn)
        | exact dn
        | (have q := dn; rw [Heap.size_push, Heap.size_push] at q; exact q)
    exact ⟨rfl, hq h' tk' (hp.objs.size + 1) dx ⟨old, Nat.le_succ _, ⟨_, _, hx, rfl, rfl, rfl, rfl, rfl⟩, Nat.le_trans (Nat.le_trans (Nat.le_succ _) (Nat.le_succ _)) z, dne, hns⟩⟩
end
end SupX
end PySem
namespace L2
open PySem PySem.Spec PyProof.Rows
theorem relO_sup {f : Str} {v : V} {v' : Value} (r : RelV v v') (g : Str) : RelO (List.lookup g [((f : Str), v)]) (if g = f then some v' else none) := by
  by_cases hw : g = f
  · subst hw
    rw [if_pos rfl]
    have q : List.lookup g [((g : Str), v)] = some v := by simp [List.lookup]
    rw [q]
    exact r
  · rw [if_neg hw]
    have qw : (g == f) = false := by simpa using hw
    have q2 : List.lookup g [((f : Str), v)] = none := by simp [List.lookup, qw]
    rw [q2]
    trivial
section
variable {X : Cx} {c f : Str} {C fI : Addr}
/-- a text or an int that can be told -/
def fmtV (v : V) : Prop := (∃ y : Str, v = .str y ∧ y.length ≤ 1000) ∨ ∃ i : Int, v = .int i ∧ i.natAbs.log2 < 1920
theorem fmtV_ok {v : V} {u : Value} (h : fmtV v) (r : RelV v u) : PySem.SupX.fmtOk u := by
  rcases h with ⟨y, rfl, hy⟩ | ⟨i, rfl, hi⟩
  · obtain ⟨t, rfl⟩ := r
    exact .inl ⟨y, t, rfl, hy⟩
  · obtain ⟨t, rfl⟩ := r
    exact .inr ⟨i, t, rfl, hi⟩
def tMkSup (f : Str) (C : Addr) (ta : TA) : St → Hp → XK → Prop := fun σ H Q => ta σ H fun vs H1 => ∃ v, vs = [v] ∧ fmtV v ∧ ∀ d, H1 d = none → Q (.ref C) (some d) (upd H1 d (.xd [(f, v)]))
theorem pmk_sup {a : Expr} {ta : TA} {p pos : Pos} {k : Nat} (T : PySem.SupX.XTxt X.prog X.K X.mg c f C fI) (hr : Room k X.A) (ha : PA X [a] ta) (hg : Gl X c := by rfl) (hdb : (c == ("__debug__" : Str)) = false := by decide)
    (he : starEach (a :: []) X.env = (false, eval a X.env) :: starEach [] X.env := by rfl) (hpl : (backTo pos (starEach [] X.env)).any (·.1) = false := by rfl) :
    L2N.PMk X (.Call (.Name c p) [a] [] pos) (tMkSup f C ta) := by
  intro pins s σ H Q I h
  refine wpAny_Call_Name_kw (ld_glob I hg T.gC ?_ hdb)
  refine PySem.W.callWith_K (h₀ := X.base) I.ok.mod.kin T.kC (thn (ha.run pos pins s σ H _ I h) fun us s1 hh => ?_) he hpl
  obtain ⟨vs, H1, I1, r1, v, ev, hf, q1⟩ := hh
  subst ev
  refine ⟨I1.kIn, ?_⟩
  cases r1 with
  | cons rv rn =>
    rename_i v' us'
    cases rn
    show wpAny _ _ (call (.ref C) [v']) _ _ _
    have hlim := I1.nolimit
    have hbk := I1.bk
    obtain ⟨hp, g, dr, tk, os⟩ := s1
    refine wpAny_call (PySem.SupX.sup_made T I1.mod hbk I1.kIn hlim (by have := hr.dp; omega) (fmtV_ok hf rv) fun h' tk' e d M => ?_)
    show L2N.MkP X pins σ Q (.ref e) ⟨h', g, dr, tk', os⟩
    obtain ⟨oe, fv, hoe, hc, hd, hdat, h1, h2⟩ := M.obj
    have hns := M.ns
    obtain ⟨G', g1, g2⟩ := restrict h' fun b => decide (b ≠ e)
    have gk : ∀ b, b ≠ e → G'.get? b = h'.get? b := fun b hb => g1 b (decide_eq_true hb)
    have ge : G'.get? e = none := g2 e (by simp)
    have old : ∀ b o, hp.get? b = some o → G'.get? b = some o := fun b o q => (gk b (Nat.ne_of_lt (Nat.lt_of_lt_of_le (Heap.lt_size q) M.new))).trans (M.keep b o q)
    have ob : ObjOk X.prog X.w (upd H1 d (.xd [(f, v)])) G' d (.xd [(f, v)]) :=
      ⟨_, hns.at (fun o q => (gk d M.dne).trans q), fun g => relO_sup rv g⟩
    have J : Inv X pins σ (upd H1 d (.xd [(f, v)])) ⟨G', g, dr, tk', os⟩ := I1.laid (t' := tk') old M.dbig ob
    refine ⟨e, oe, fv, ⟨G', g, dr, tk', os⟩, _, .ref C, some d, rfl, J, fun b o q => ?_, ge, hoe, ⟨hc, hd, fun vs e => by rw [hdat] at e; cases e; exact h2⟩, hdat, h1, ?_, rfl, I1.bare, raises_own T.exC T.tyC, q1 d (I1.hok.fresh M.dbig)⟩
    · by_cases hb : b = e
      · have q' : G'.get? b = some o := q
        rw [hb, ge] at q'; cases q'
      · exact (gk b hb).symm.trans q
    · rw [upd_ne (Ne.symm M.dne)]
      exact I1.hok.fresh M.new
end
end L2

/-! EvY: raise and try of own exceptions. -/
namespace Ev
open PySem PySem.Spec PyProof.Rows L2
open PySem.SupX (XTxt)
section
variable {X : Cx} {W : WX} {σ : L2.St} {η : Ad} {H : Hp} {h : Hh} {pos : Pos} {c f : Str} {C fI : Addr}
def fmtD : D → Bool
  | .str y => decide (y.length ≤ 1000)
  | .int i => decide (i.natAbs.log2 < 1920)
  | _ => false
theorem fmt_of {d : D} {v : V} (h : fmtD d = true) (r : RD X.K η H d v) : fmtV v := by
  cases d with
  | str y => cases r; exact .inl ⟨y, rfl, of_decide_eq_true h⟩
  | int i => cases r; exact .inr ⟨i, rfl, of_decide_eq_true h⟩
  | _ => cases h
def rsE (c f : Str) (ρ : Env) (l : List D) (h : Hh) : SR := match l with
  | [d] => if fmtD d = true then .rs c [(f, d)] ρ h else .stuck
  | _ => .stuck
def raiseS (c f : Str) (m : EM (List D)) : SS := fun ρ h => toS (m ρ h) ρ (rsE c f ρ)
theorem ms_raise (gx : GX X W) (T : XTxt X.prog X.K X.mg c f C fI) {k : Nat} (hr : Room k X.A) {a : Expr} {ms : EM (List D)} {p cpos : Pos} (ha : MA X W [a] ms) (hg : Gl X c := by rfl) (hdb : (c == ("__debug__" : Str)) = false := by decide)
    (he : starEach (a :: []) X.env = (false, eval a X.env) :: starEach [] X.env := by rfl) (hpl : (backTo cpos (starEach [] X.env)).any (·.1) = false := by rfl) :
    MS X W (.Raise (some (.Call (.Name c p) [a] [] cpos)) none pos) (raiseS c f ms) :=
  ⟨PS.wk (L2N.ps_raise gx.calm gx.tk (pmk_sup T hr ha.pa hg hdb he hpl)) fun E σ H q => by
  obtain ⟨ρ, η, h, rs, rh, p⟩ := q
  refine tM.mono (fun xs H1 ⟨l, η1, h1, s1, r1, q1, p1⟩ => ?_) (PoS.seq (R1 := rA X) rs rh p)
  unfold rsE at p1
  split at p1
  · rename_i d
    obtain ⟨v, rfl, r⟩ := rds1 q1
    split at p1
    · rename_i hf
      refine ⟨v, rfl, fmt_of hf r, fun d' hd' => ?_⟩
      have st : Step η1 H1 η1 (upd H1 d' (.xd [(f, v)])) := r1.new1S hd'
      exact p1 σ η1 _ C (some d') st ((rs.step s1).step st) (r1.new1 hd') T.gC ⟨[(f, v)], upd_same, v, [], rfl, r.step st, rfl⟩
    · exact p1.elim
  · exact p1.elim⟩
/-! what a suite says of the exception in slot i -/
structure SX (X : Cx) (i : Nat) (C : Addr) (e : Expr) (g : List (Str × D) → Env → Option D) : Prop where
  se : ∀ (a : Addr) (oe : Obj) (cls : Value) (d : Option Addr) (pn : List (Addr × Obj)), L2N.Zn cls d oe → (∃ vs, oe.data = .fields vs) → PE (X.suite a ((a, oe) :: pn)) e (fun σ H Q => ∃ ρ η h fs dd gs d0, RS X.K η H σ ρ ∧ RH X.K X.mg X.w η H h ∧
    σ[i]? = some (some (.ref a)) ∧ cls = .ref C ∧ d = some dd ∧ H dd = some (.xd gs) ∧ RFs X.K η H fs gs ∧ g fs ρ = some d0 ∧ ∀ v, RD X.K η H d0 v → Q v H)
theorem rfs_look {K : PySem.W.Frag} {n : Str} : ∀ {fs : List (Str × D)} {gs : List (Str × V)} {d : D}, RFs K η H fs gs → fs.lookup n = some d → ∃ v, gs.lookup n = some v ∧ RD K η H d v
  | [], _, _, _, e => by cases e
  | (k, d1) :: fs, gs, d, r, e => by
    obtain ⟨x, r', rfl, rd, t⟩ := r
    rw [List.lookup_cons] at e ⊢
    by_cases hk : n == k
    · rw [hk] at e ⊢
      cases e
      exact ⟨x, rfl, rd⟩
    · rw [Bool.not_eq_true] at hk
      rw [hk] at e ⊢
      exact rfs_look t e
def fldX (n : Str) (fs : List (Str × D)) (_ : Env) : Option D := fs.lookup n
def varX (j : Nat) (_ : List (Str × D)) (ρ : Env) : Option D := (ρ[j]?).join
def cX (d : D) (_ : List (Str × D)) (_ : Env) : Option D := some d
def eqX (g1 g2 : List (Str × D) → Env → Option D) (fs : List (Str × D)) (ρ : Env) : Option D := match g1 fs ρ, g2 fs ρ with
  | some a, some b => if scalD a b = true then some (.bl (eqvD a b)) else none
  | _, _ => none
theorem sx_fld {i : Nat} {n x : Str} {p : Pos} (T : XTxt X.prog X.K X.mg c n C fI) (hN : X.N[i]? = some x := by rfl) (hv : Vis X.env.scope x := by first | exact Or.inl rfl | exact Or.inr (Or.inl rfl) | exact Or.inr (Or.inr rfl)) (hd : (x == ("__debug__" : Str)) = false := by decide)
    (hcd : (x == ("__classdict__" : Str)) = false := by decide) (hb : attributeBase (.Name x p) n X.env (eval (.Name x p) X.env) = eval (.Name x p) X.env := by rfl) : SX X i C (.Attribute (.Name x p) n pos) (fldX n) :=
  ⟨fun a oe cls d pn hz hf => PE.wk (pe_xf ⟨T.ga, T.gg, T.exC, T.hdC⟩ T.noN hz.zc hf (pe_var (i := i) hN hv hd hcd) hb) fun σ H Q ⟨ρ, η, h, fs, dd, gs, d0, rs, rh, e1, e2, e3, e4, e5, e6, e7⟩ => by
    obtain ⟨v, ev, rv⟩ := rfs_look e5 e6
    exact ⟨.ref a, e1, rfl, e2, dd, gs, v, e3, e4, ev, e7 v rv⟩⟩
theorem sx_var {i j : Nat} {x : Str} (hN : X.N[j]? = some x := by rfl) (hv : Vis X.env.scope x := by first | exact Or.inl rfl | exact Or.inr (Or.inl rfl) | exact Or.inr (Or.inr rfl)) (hd : (x == ("__debug__" : Str)) = false := by decide)
    (hcd : (x == ("__classdict__" : Str)) = false := by decide) : SX X i C (.Name x pos) (varX j) :=
  ⟨fun a oe cls d pn hz hf => PE.wk (pe_var (i := j) hN hv hd hcd) fun σ H Q ⟨ρ, η, h, fs, dd, gs, d0, rs, rh, e1, e2, e3, e4, e5, e6, e7⟩ => by
    have e8 : ρ[j]? = some (some d0) := by
      have e6 : (ρ[j]?).join = some d0 := e6
      cases e : ρ[j]? with
      | none => rw [e] at e6; cases e6
      | some o => rw [e] at e6; rw [show o = some d0 from e6]
    obtain ⟨v, ev, rd⟩ := rs.at_ j d0 e8
    exact ⟨v, ev, e7 v rd⟩⟩
theorem sx_str {i n : Nat} {x : Str} : SX X i C (.Constant (.str x) n pos) (cX (.str x)) :=
  ⟨fun a oe cls d pn hz hf => PE.wk pe_str fun σ H Q ⟨ρ, η, h, fs, dd, gs, d0, rs, rh, e1, e2, e3, e4, e5, e6, e7⟩ => by cases e6; exact e7 _ rfl⟩
theorem sx_int {i n : Nat} {x : Int} : SX X i C (.Constant (.int x) n pos) (cX (.int x)) :=
  ⟨fun a oe cls d pn hz hf => PE.wk pe_int fun σ H Q ⟨ρ, η, h, fs, dd, gs, d0, rs, rh, e1, e2, e3, e4, e5, e6, e7⟩ => by cases e6; exact e7 _ rfl⟩
theorem sx_non {i n : Nat} : SX X i C (.Constant .none n pos) (cX .non) :=
  ⟨fun a oe cls d pn hz hf => PE.wk pe_non fun σ H Q ⟨ρ, η, h, fs, dd, gs, d0, rs, rh, e1, e2, e3, e4, e5, e6, e7⟩ => by cases e6; exact e7 _ rfl⟩
theorem sx_bl {i n : Nat} {b : Bool} : SX X i C (.Constant (.bool b) n pos) (cX (.bl b)) :=
  ⟨fun a oe cls d pn hz hf => PE.wk pe_bl fun σ H Q ⟨ρ, η, h, fs, dd, gs, d0, rs, rh, e1, e2, e3, e4, e5, e6, e7⟩ => by cases e6; exact e7 _ rfl⟩
theorem sx_eq {i : Nat} {a b : Expr} {g1 g2 : List (Str × D) → Env → Option D} (ha : SX X i C a g1) (hb : SX X i C b g2) (hm : lastMarks [.Eq] [b] = false := by with_unfolding_all rfl) : SX X i C (.Compare a [.Eq] [b] pos) (eqX g1 g2) :=
  ⟨fun a oe cls d pn hz hf => PE.wk (pe_cmpR op_eq (ha.se a oe cls d pn hz hf) (hb.se a oe cls d pn hz hf) hm) fun σ H Q ⟨ρ, η, h, fs, dd, gs, d0, rs, rh, e1, e2, e3, e4, e5, e6, e7⟩ => by
    unfold eqX at e6
    split at e6
    · rename_i x y ex ey
      split at e6
      · rename_i hs
        cases e6
        refine ⟨ρ, η, h, fs, dd, gs, x, rs, rh, e1, e2, e3, e4, e5, ex, fun v rv => ⟨ρ, η, h, fs, dd, gs, y, rs, rh, e1, e2, e3, e4, e5, ey, fun u ru => ?_⟩⟩
        obtain ⟨s1, s2⟩ := scal_of hs rv ru
        exact ⟨s1, by rw [s2]; exact e7 _ rfl⟩
      · cases e6
    · cases e6⟩
structure SU (X : Cx) (i : Nat) (C : Addr) (sts : List Stmt) (u : List (Str × D) → SS) : Prop where
  su : ∀ (a : Addr) (oe : Obj) (cls : Value) (d : Option Addr) (pn : List (Addr × Obj)), L2N.Zn cls d oe → (∃ vs, oe.data = .fields vs) → PSs (X.suite a ((a, oe) :: pn)) sts (fun E σ H => ∃ ρ η h fs dd gs d0 h0, RS X.K η H σ ρ ∧ RH X.K X.mg X.w η H h ∧
    σ[i]? = some (some (.ref a)) ∧ cls = .ref C ∧ d = some dd ∧ H dd = some (.xd gs) ∧ RFs X.K η H fs gs ∧ u fs ρ h = .ret d0 h0 ∧ PoS X W0 η H (.ret d0 h0) E)
def retX (g : List (Str × D) → Env → Option D) (fs : List (Str × D)) : SS := fun ρ h => match g fs ρ with
  | some d => .ret d h
  | none => .stuck
theorem su_ret {i : Nat} {e : Expr} {g : List (Str × D) → Env → Option D} (he : SX X i C e g) : SU X i C [.Return (some e) pos] (retX g) :=
  ⟨fun a oe cls d pn hz hf => PSs.wk (pss_one (ps_ret (he.se a oe cls d pn hz hf))) fun E σ H ⟨ρ, η, h, fs, dd, gs, d0, h0, rs, rh, e1, e2, e3, e4, e5, e6, e7⟩ => by
    unfold retX at e6
    split at e6
    · rename_i d1 ed
      cases e6
      exact ⟨ρ, η, h, fs, dd, gs, d0, rs, rh, e1, e2, e3, e4, e5, ed, fun v rv => e7 v η H (.refl _ _) rh rv⟩
    · cases e6⟩
def retX2 (g1 g2 : List (Str × D) → Env → Option D) (fs : List (Str × D)) : SS := fun ρ h => match g1 fs ρ, g2 fs ρ with
  | some a, some b => .ret (.tup [a, b]) h
  | _, _ => .stuck
theorem su_ret2 {i kk : Nat} {e1 e2 : Expr} {p2 : Pos} {g1 g2 : List (Str × D) → Env → Option D} (h1 : SX X i C e1 g1) (h2 : SX X i C e2 g2) (s1 : starEach [e1, e2] X.env = (false, eval e1 X.env) :: starEach [e2] X.env := by rfl) (s2 : starEach [e2] X.env = (false, eval e2 X.env) :: starEach [] X.env := by rfl) : SU X i C [.Return (some (.Tuple [e1, e2] kk p2)) pos] (retX2 g1 g2) :=
  ⟨fun a oe cls d pn hz hf => PSs.wk (pss_one (ps_ret (pe_tup (pa_cons (hs := s1) (h1.se a oe cls d pn hz hf) (pa_cons (hs := s2) (h2.se a oe cls d pn hz hf) pa_nil))))) fun E σ H ⟨ρ, η, h, fs, dd, gs, d0, h0, rs, rh, e1, e2, e3, e4, e5, e6, e7⟩ => by
    unfold retX2 at e6
    split at e6
    · rename_i d1 d2 ed1 ed2
      cases e6
      refine ⟨ρ, η, h, fs, dd, gs, d1, rs, rh, e1, e2, e3, e4, e5, ed1, fun v1 rv1 => ⟨ρ, η, h, fs, dd, gs, d2, rs, rh, e1, e2, e3, e4, e5, ed2, fun v2 rv2 => ?_⟩⟩
      refine ⟨(by show 2 ≤ sizeLine; decide), fun p n => ?_⟩
      have := Ev.newT (X := X) (p := p) (l := [d1, d2]) (xs := [v1, v2]) n rh ⟨v1, [v2], rfl, rv1, v2, [], rfl, rv2, rfl⟩
      exact e7 _ η _ (rh.new1S n) this.1 this.2
    · cases e6⟩
/-! try -/
def tryS (c : Str) (i : Nat) (m : SS) (u : List (Str × D) → SS) : SS := fun ρ h => match m ρ h with
  | .rs cc fs ρ2 h2 => if cc = c ∧ fs ≠ [] ∧ i < ρ2.length then (match u fs (ρ2.set i none) h2 with
    | .ret d h3 => .ret d h3
    | _ => .stuck) else .stuck
  | r => r
theorem ms_try (gx : GX X W) (T : XTxt X.prog X.K X.mg c f C fI) {i : Nat} {n : Str} {body suite : List Stmt} {b₀ : Stmt} {np pos' : Pos} {m : SS} {u : List (Str × D) → SS} (hs : X.stack = X.env :: X.outer) (hf : X.env.frame = some X.env.locals) (hi : X.N[i]? = some n) (hln : X.env.kindOf n = some .local)
    (hb : ∀ (W' : WX) (pn : List (Addr × Obj)) (xe : Value → Shared → Prop), GX (X.tr pn xe) W' → MB (X.tr pn xe) W' body m) (hu : SU X i C (b₀ :: suite) u) (hg : Gl X c := by rfl) (hdb : (c == ("__debug__" : Str)) = false := by decide) :
    MS X W (.Try body [.ExceptHandler (some (.Name c np)) (some n) (b₀ :: suite) pos'] [] [] pos) (tryS c i m u) :=
  ⟨PS.wk (L2N.ps_try_as (i := i) (tb := fun W' => tS X W' m) (Wout := W) hs hf gx.nd hi hln ⟨hg, hdb, .inl T.gC⟩ gx.tk (fun W' pn xe tk po => (hb W' pn xe ⟨⟨tk, po, gx.nd, gx.un⟩, gx.calm⟩).ps) (fun a oe cls d pn hz hf' => hu.su a oe cls d pn hz hf')) fun E σ H q => by
  obtain ⟨ρ, η, h, rs, rh, p⟩ := q
  refine ⟨ρ, η, h, rs, rh, ?_⟩
  unfold tryS at p
  cases e : m ρ h with
  | nx ρ2 h2 => rw [e] at p; exact p
  | ret d h2 => rw [e] at p; exact p
  | bk ρ2 h2 => rw [e] at p; exact p
  | ct ρ2 h2 => rw [e] at p; exact p
  | stuck => rw [e] at p; exact p
  | rs cc fs ρ2 h2 =>
    rw [e] at p
    simp only at p
    split at p
    · rename_i hc
      obtain ⟨rfl, hne, hil2⟩ := hc
      split at p
      · rename_i d0 h3 eu
        intro σ' η' H' C2 dx st rs' rh' hm re
        have hC : C2 = C := by
          have := T.gC.symm.trans hm
          cases this
          rfl
        subst hC
        refine ⟨true, T.te, fun _ a na => ?_, fun z => nomatch z⟩
        cases dx with
        | none => exact absurd (show fs = [] from re) hne
        | some dd =>
          obtain ⟨gs, eg, rg⟩ := re
          have hil : i < σ'.length := by rw [rs'.len]; exact hil2
          refine ⟨ρ2.set i none, η', h2, fs, dd, gs, d0, h3, ⟨by rw [List.length_set, List.length_set]; exact rs'.len, fun j d ej => ?_⟩, rh', List.getElem?_set_self hil, rfl, rfl, eg, rg, eu, ?_⟩
          · by_cases hj : i = j
            · subst hj
              by_cases hl : i < ρ2.length
              · rw [List.getElem?_set_self hl] at ej; cases ej
              · rw [List.getElem?_eq_none (by rw [List.length_set]; omega)] at ej; cases ej
            · rw [List.getElem?_set_ne hj] at ej ⊢
              exact rs'.at_ j d ej
          · exact PoS.step (X := X) (W := W0) (r := .ret d0 h3) st p
      · exact p.elim
    · exact p.elim⟩
end
end Ev

/-! EvK: own classes: fields, methods, new instances. -/
namespace L2
open PySem PySem.Spec PyProof.Rows
section
variable {X : Cx} {CX : CXT} {k : Nat} {f C : Addr} {fd : FuncData} {ps : List Str} {sp : Sp} {E : St → XK} {x m : Str} {p pos apos : Pos} {e o : Expr} {es : List Expr} {ta : TE} {t : TA}
/-- o.m(..) of an instance of the class at C -/
def tMethO (m : Str) (C : Addr) (sp : Sp) (E : St → XK) (ta : TE) (t : TA) : TE := fun σ H Q => ta σ H fun x H1 => ∃ a dx fs, x = .ref a ∧ H1 a = some (.ins C dx fs) ∧ fs.lookup m = none ∧
  t σ H1 fun vs H2 => sp (x :: vs) H2 Q (E σ)
theorem pe_methO {pl : Sem Bool} (he : PE X o ta) (c : Cls X.K C) (hm : Meth X.K C m f) (F : FnOk X.prog X.w X.K X.mg X.base CX k f fd ps sp) (hr : Room k X.A) (hb : Binds X.K fd ps []) (hx : ∀ σ, PassesAt CX X σ (E σ)) (ha : PA X (e :: es) t)
    (hst : starEach (e :: es) X.env = (false, eval e X.env) :: starEach es X.env := by rfl) (hpl : (backTo pos (starEach es X.env)).any (·.1) = false := by rfl)
    (ht : eval (.Call (.Attribute o m apos) (e :: es) [] pos) X.env = (do
      let ov ← eval o X.env
      standAt apos.atName
      let (f, first) ← holding [ov] (getMethod ov m pl)
      callWith pos f first (backTo pos (starEach (e :: es) X.env)) (backToKw pos (keywordEach [] X.env))) := by rfl) :
    PE X (.Call (.Attribute o m apos) (e :: es) [] pos) (tMethO m C sp E ta t) := by
  refine ⟨fun pins s σ H Q I h => ?_⟩
  refine PySem.W.methodCall_KW (pl := pl) (thn (he.run pins s σ H _ I h) fun u s1 ⟨x, H1, I1, rx, a, dx, fs, ex, ea, l, q⟩ => ?_) ht
  subst ex
  obtain rfl : u = Value.ref a := rx
  refine getmeth_ok I1 ea c hm l ?_
  refine PySem.W.callWith_K (first := [.ref a]) (h₀ := X.base) I.ok.mod.kin hm.kp (thn (ha.run pos pins s1 σ H1 _ I1 q) fun us s2 ⟨vs, H2, I2, r, q2⟩ => ⟨I2.kIn, ?_⟩) hst hpl
  exact run_fnS (us := .ref a :: us) (vs := .ref a :: vs) F hr hb (hx σ) I2 (.cons rfl r) q2
theorem pe_methO0 {pl : Sem Bool} (he : PE X o ta) (c : Cls X.K C) (hm : Meth X.K C m f) (F : FnOk X.prog X.w X.K X.mg X.base CX k f fd ps sp) (hr : Room k X.A) (hb : Binds X.K fd ps []) (hx : ∀ σ, PassesAt CX X σ (E σ))
    (ht : eval (.Call (.Attribute o m apos) [] [] pos) X.env = (do
      let ov ← eval o X.env
      standAt apos.atName
      let (f, first) ← holding [ov] (getMethod ov m pl)
      callWith pos f first (backTo pos (starEach [] X.env)) (backToKw pos (keywordEach [] X.env))) := by rfl) :
    PE X (.Call (.Attribute o m apos) [] [] pos) (tMethO m C sp E ta tNil) := by
  refine ⟨fun pins s σ H Q I h => ?_⟩
  refine PySem.W.methodCall_KW (pl := pl) (thn (he.run pins s σ H _ I h) fun u s1 ⟨x, H1, I1, rx, a, dx, fs, ex, ea, l, q⟩ => ?_) ht
  subst ex
  obtain rfl : u = Value.ref a := rx
  refine getmeth_ok I1 ea c hm l ?_
  exact PySem.W.callWith_K0 (first := [.ref a]) I1.kIn hm.kp (run_fnS (us := [.ref a]) (vs := [.ref a]) F hr hb (hx σ) I1 (.cons rfl .nil) q)
/-- C(..): a new instance and its dict, then __init__ -/
def tMakeO (C : Addr) (sp : Sp) (E : St → XK) (t : TA) : TE := fun σ H Q => t σ H fun vs H1 => ∀ x dx, H1 x = none → H1 dx = none → dx ≠ x →
  sp (.ref x :: vs) (upd (upd H1 dx (.own x)) x (.ins C dx [])) (fun v H2 => v = .non ∧ Q (.ref x) H2) (E σ)
theorem run_makeO {pins : List (Addr × Obj)} {σ : St} {H : Hp} {s : Shared} {Q : VK} {us : List Value} {vs : List V} (M : Mk X.K C f) (F : FnOk X.prog X.w X.K X.mg X.base CX k f fd ps sp) (hr : Room (k + 1) X.A) (hb : Binds X.K fd ps [])
    (hx : PassesAt CX X σ (E σ)) (I : Inv X pins σ H s) (r : Vals vs us)
    (h : ∀ x dx, H x = none → H dx = none → dx ≠ x → sp (.ref x :: vs) (upd (upd H dx (.own x)) x (.ins C dx [])) (fun v H2 => v = .non ∧ Q (.ref x) H2) (E σ)) :
    wpAny (model X.prog X.w) X.A (call (.ref C) us) (EP X pins σ Q) X.xe s := by
  have hq := h (s.heap.objs.size + 1) s.heap.objs.size (I.hok.fresh (Nat.le_succ _)) (I.hok.fresh (Nat.le_refl _)) (Nat.ne_of_lt (Nat.lt_succ_self _))
  have I2 := Inv.made (C := C) I
  have r2 : Vals (V.ref (s.heap.objs.size + 1) :: vs) (Value.ref (s.heap.objs.size + 1) :: us) := .cons rfl r
  have hl : (Value.ref (s.heap.objs.size + 1) :: us).length = ps.length := by
    have e := r2.length
    rw [F.len _ _ _ _ hq] at e
    exact e.symm
  have b := hb _ (Value.ref (s.heap.objs.size + 1) :: us) I2.kIn (by rw [List.append_nil]; exact hl)
  rw [List.append_nil] at b
  refine wpAny_call (make_map (f := f) I.kIn M.makes M.init (beq_iff_eq.mp M.fn) (codeAny_mono (F.run _ X.stack _ _ ⟨Value.ref (s.heap.objs.size + 1) :: us, []⟩ (Value.ref (s.heap.objs.size + 1) :: us) _ _ (E σ) (hr.make C us [])
    (I2.env0.make C us []) b r2 hq) fun r s' hq' => ?_))
  cases r with
  | error e => exact hx pins _ _ e s' I2 hq'
  | ok fl =>
    cases fl with
    | ret u =>
      obtain ⟨v, H', I3, rv, ev, q3⟩ := I2.after hq'
      subst ev
      exact ⟨rv, ⟨V.ref (s.heap.objs.size + 1), H', I3, rfl, q3⟩⟩
    | next => exact False.elim hq'
    | brk => exact False.elim hq'
    | cont => exact False.elim hq'
theorem pe_makeO (M : Mk X.K C f) (F : FnOk X.prog X.w X.K X.mg X.base CX k f fd ps sp) (hr : Room (k + 1) X.A) (hg : Gl X x) (hm : X.mg x = some (.ref C)) (hb : Binds X.K fd ps []) (hx : ∀ σ, PassesAt CX X σ (E σ))
    (ha : PA X (e :: es) t) (hdb : (x == ("__debug__" : Str)) = false := by decide) (he : starEach (e :: es) X.env = (false, eval e X.env) :: starEach es X.env := by rfl) (hpl : (backTo pos (starEach es X.env)).any (·.1) = false := by rfl) :
    PE X (.Call (.Name x p) (e :: es) [] pos) (tMakeO C sp E t) := by
  refine ⟨fun pins s σ H Q I h => ?_⟩
  refine wpAny_Call_Name_kw (ld_glob I hg hm ?_ hdb)
  refine PySem.W.callWith_K (h₀ := X.base) I.ok.mod.kin M.kp (thn (ha.run pos pins s σ H _ I h) fun us s1 ⟨vs, H1, I1, r, q⟩ => ⟨I1.kIn, ?_⟩) he hpl
  exact run_makeO M F hr hb (hx σ) I1 r q
end
end L2
namespace Ev
open PySem PySem.Spec PyProof.Rows L2
section
variable {X : Cx} {W : WX} {σ : L2.St} {η : Ad} {H : Hp} {h : Hh} {E : Ends} {e o value : Expr} {pos pos' tpos apos p : Pos} {c f m x : Str} {es : List Expr}
/-- the fields of an instance of c -/
def insOf (c : Str) (d : D) (h : Hh) : Option (Nat × List (Str × D)) := match d with
  | .ref n => match h[n]? with
    | some (.ins c' fs) => if c' = c then some (n, fs) else none
    | _ => none
  | _ => none
theorem insOf_eq {d : D} {n : Nat} {fs : List (Str × D)} (e : insOf c d h = some (n, fs)) : d = .ref n ∧ h[n]? = some (.ins c fs) := by
  unfold insOf at e
  split at e
  · rename_i k
    split at e
    · rename_i c' gs eg
      split at e
      · rename_i hc
        cases e
        exact ⟨rfl, by rw [eg, hc]⟩
      · cases e
    · cases e
  · cases e
/-- the class named c, its fields f are plain ones -/
structure FldAt (K : PySem.W.Frag) (mg : Str → Option Value) (c f : Str) : Prop where
  ex : ∃ C, mg c = some (.ref C) ∧ Cls K C ∧ NoAttr K C f
theorem ins_at {K : PySem.W.Frag} {mg : Str → Option Value} {w : World} {d : D} {v : V} {n : Nat} {fs : List (Str × D)} (rh : RH K mg w η H h) (r : RD K η H d v) (e : insOf c d h = some (n, fs)) : ∃ a C dx gs, v = .ref a ∧ η.c[n]? = some a ∧ mg c = some (.ref C) ∧ H a = some (.ins C dx gs) ∧ ¬ η.In dx ∧ H dx = some (.own a) ∧ RFs K η H fs gs := by
  obtain ⟨rfl, eh⟩ := insOf_eq e
  obtain ⟨a, ea, rfl⟩ := r
  obtain ⟨C, dx, gs, e1, e2, e3, e4, e5⟩ := rh.ob n a _ ea eh
  exact ⟨a, C, dx, gs, rfl, ea, e1, e2, e3, e4, e5⟩
theorem rfs_none {K : PySem.W.Frag} {n : Str} : ∀ {fs : List (Str × D)} {gs : List (Str × V)}, RFs K η H fs gs → fs.lookup n = none → gs.lookup n = none
  | [], _, r, _ => by cases r; rfl
  | (k, d1) :: fs, gs, r, e => by
    obtain ⟨x, r', rfl, rd, t⟩ := r
    rw [List.lookup_cons] at e ⊢
    by_cases hk : n == k
    · rw [hk] at e; cases e
    · rw [Bool.not_eq_true] at hk
      rw [hk] at e ⊢
      exact rfs_none t e
theorem rfs_len {K : PySem.W.Frag} : ∀ {fs : List (Str × D)} {gs : List (Str × V)}, RFs K η H fs gs → gs.length = fs.length
  | [], _, r => by cases r; rfl
  | (k, d1) :: fs, gs, r => by
    obtain ⟨x, r', rfl, rd, t⟩ := r
    rw [List.length_cons, List.length_cons, rfs_len t]
/-! e.f -/
def fldD (c f : Str) (d : D) (h : Hh) : Res D := match insOf c d h with
  | some (_, fs) => (match fs.lookup f with
    | some x => .ok x h
    | none => .stuck)
  | none => .stuck
def fldE (c f : Str) (mo : EM D) : EM D := fun ρ h => (mo ρ h).bind (fldD c f)
theorem me_fld {mo : EM D} (A : FldAt X.K X.mg c f) (ho : ME X W o mo) (hb : attributeBase o f X.env (eval o X.env) = eval o X.env := by rfl) : ME X W (.Attribute o f pos) (fldE c f mo) :=
  ⟨PE.wk (pe_fld ho.pe hb) fun σ H Q q => by
  obtain ⟨ρ, η, h, rs, rh, p⟩ := q
  obtain ⟨C0, m0, cl, na⟩ := A.ex
  refine tM.mono (fun v H1 ⟨d, η1, h1, s1, r1, q1, p1⟩ => ?_) (Po.seq (R1 := rD X) rs rh p)
  unfold fldD at p1
  split at p1
  · rename_i n fs ei
    obtain ⟨a, C, dx, gs, rfl, ea, e1, e2, e3, e4, e5⟩ := ins_at r1 q1 ei
    have : C = C0 := by
      have := e1.symm.trans m0
      cases this
      rfl
    subst this
    split at p1
    · rename_i y ey
      obtain ⟨u, eu, ru⟩ := rfs_look e5 ey
      exact ⟨a, C, dx, gs, u, rfl, e2, cl, na, eu, Po.ok p1 r1 ru⟩
    · exact p1.elim
  · exact p1.elim⟩
/-! e.f = v -/
def putFD (f : Str) (v : D) : List (Str × D) → List (Str × D)
  | [] => [(f, v)]
  | (g, x) :: r => if g = f then (g, v) :: r else (g, x) :: putFD f v r
theorem rfs_put {K : PySem.W.Frag} {y : D} {v : V} (r : RD K η H y v) : ∀ {fs : List (Str × D)} {gs : List (Str × V)}, RFs K η H fs gs → RFs K η H (putFD f y fs) (putF f v gs)
  | [], _, t => by cases t; exact ⟨v, [], rfl, r, rfl⟩
  | (k, d1) :: fs, gs, t => by
    obtain ⟨x, r', rfl, rd, t⟩ := t
    unfold putFD putF
    by_cases hk : k = f
    · rw [if_pos hk, if_pos hk]
      exact ⟨v, r', rfl, r, t⟩
    · rw [if_neg hk, if_neg hk]
      exact ⟨x, _, rfl, rd, rfs_put r t⟩
def sfldD (c f : Str) (o y : D) (h : Hh) : Option Hh := match insOf c o h with
  | some (n, fs) => if fs.length < 1000 then some (h.set n (.ins c (putFD f y fs))) else none
  | none => none
def sfldS (c f : Str) (mo mv : EM D) : SS := fun ρ h => toS (mv ρ h) ρ fun y h1 => toS (mo ρ h1) ρ fun o h2 => match sfldD c f o y h2 with
  | some h3 => .nx ρ h3
  | none => .stuck
theorem sfld_of {K : PySem.W.Frag} {mg : Str → Option Value} {w : World} {o y : D} {v u : V} {h' : Hh} (rh : RH K mg w η H h) (r : RD K η H o v) (ry : RD K η H y u) (e : sfldD c f o y h = some h') :
    ∃ a C dx gs, v = .ref a ∧ mg c = some (.ref C) ∧ H a = some (.ins C dx gs) ∧ gs.length < 1000 ∧ Step η H η (upd H a (.ins C dx (putF f u gs))) ∧ RH K mg w η (upd H a (.ins C dx (putF f u gs))) h' := by
  unfold sfldD at e
  split at e
  · rename_i n fs ei
    split at e
    · rename_i hl
      cases e
      obtain ⟨a, C, dx, gs, rfl, ea, e1, e2, e3, e4, e5⟩ := ins_at rh r ei
      have st : Step η H η (upd H a (.ins C dx (putF f u gs))) := rh.updS ea e2 trivial
      refine ⟨a, C, dx, gs, rfl, e1, e2, by rw [rfs_len e5]; exact hl, st, rh.set ea e2 trivial ⟨C, dx, putF f u gs, e1, upd_same, e3, ?_, RFs.step st _ _ (rfs_put ry e5)⟩⟩
      have ne : dx ≠ a := fun z => e3 (z ▸ .inl (mem_of_at ea))
      rw [upd_ne ne]
      exact e4
    · cases e
  · cases e
theorem ms_fld {mo mv : EM D} (A : FldAt X.K X.mg c f) (ho : ME X W o mo) (hv : ME X W value mv) (hs : swapsWith value (some (.Attribute o f pos')) pos.line X.env = pure false := by rfl) : MS X W (.Assign [.Attribute o f pos'] value pos) (sfldS c f mo mv) :=
  ⟨PS.wk (ps_fld ho.pe hv.pe hs) fun E σ H q => by
  obtain ⟨ρ, η, h, rs, rh, p⟩ := q
  obtain ⟨C0, m0, cl, na⟩ := A.ex
  refine tM.mono (fun u H1 ⟨y, η1, h1, s1, r1, q1, p1⟩ => ?_) (PoS.seq (R1 := rD X) rs rh p)
  refine tM.mono (fun v H2 ⟨o', η2, h2, s2, r2, q2, p2⟩ => ?_) (PoS.seq (R1 := rD X) (rs.step s1) r1 p1)
  cases es : sfldD c f o' y h2 with
  | none => rw [es] at p2; exact p2.elim
  | some h3 =>
    rw [es] at p2
    obtain ⟨a, C, dx, gs, rfl, e1, e2, hl, st, r3⟩ := sfld_of r2 q2 (RD.step s2 _ _ q1) es
    have : C = C0 := by
      have := e1.symm.trans m0
      cases this
      rfl
    subst this
    exact ⟨a, C, dx, gs, rfl, e2, cl, na, hl, p2 _ η2 _ st (((rs.step s1).step s2).step st) r3⟩⟩
/-! e.f += v -/
def afldS (c f : Str) (g : D → D → Hh → Res D) (mo mv : EM D) : SS := fun ρ h => toS (mo ρ h) ρ fun o h1 => toS (fldD c f o h1) ρ fun x h1' => toS (mv ρ h1') ρ fun y h2 => toS (g x y h2) ρ fun z h3 => match sfldD c f o z h3 with
  | some h4 => .nx ρ h4
  | none => .stuck
theorem ms_afld {op : Operator} {r : R2} {g : D → D → Hh → Res D} {mo mv : EM D} (A : FldAt X.K X.mg c f) (hop : OpR X (inplaceOp op) r) (hg : OpD X W r g) (ho : ME X W o mo) (hv : ME X W value mv) : MS X W (.AugAssign (.Attribute o f tpos) op value pos) (afldS c f g mo mv) :=
  ⟨PS.wk (ps_fldaug ho.pe hv.pe (rd := r) fun pins s σ H x y u v Q I rx ry q => hop pins s σ H x y u v Q I rx ry q) fun E σ H q => by
  obtain ⟨ρ, η, h, rs, rh, p⟩ := q
  obtain ⟨C0, m0, cl, na⟩ := A.ex
  refine tM.mono (fun v H1 ⟨o', η1, h1, s1, r1, q1, p1⟩ => ?_) (PoS.seq (R1 := rD X) rs rh p)
  cases ef : fldD c f o' h1 with
  | stuck => rw [ef] at p1; exact p1.elim
  | raise _ _ _ =>
    unfold fldD at ef
    split at ef
    · split at ef <;> cases ef
    · cases ef
  | ok x0 h1' =>
    rw [ef, toS_ok] at p1
    unfold fldD at ef
    split at ef
    · rename_i n fs ei
      split at ef
      · rename_i x1 ex
        cases ef
        obtain ⟨a, C, dx, gs, rfl, ea, e1, e2, e3, e4, e5⟩ := ins_at r1 q1 ei
        have : C = C0 := by
          have := e1.symm.trans m0
          cases this
          rfl
        subst this
        obtain ⟨u, eu, ru⟩ := rfs_look e5 ex
        refine ⟨a, C, dx, gs, u, rfl, e2, cl, na, eu, ?_⟩
        have rs1 := rs.step s1
        refine tM.mono (fun w' H2 ⟨y, η2, h2, s2, r2, q2, p2⟩ => ?_) (PoS.seq (R1 := rD X) rs1 r1 p1)
        have rs2 := rs1.step s2
        refine hg σ η2 H2 h2 x0 y u w' _ r2 (RD.step s2 _ _ ru) q2 (PoS.res rs2 p2 fun z h3 wz η3 H3 s3 r3 q3 p3 => ?_)
        have q1' := RD.step s3 _ _ (RD.step s2 _ _ q1)
        cases es : sfldD c f o' z h3 with
        | none => rw [es] at p3; exact p3.elim
        | some h4 =>
          rw [es] at p3
          obtain ⟨a', C', dx', gs', ev, f1, f2, hl, st, r4⟩ := sfld_of r3 q1' q3 es
          cases ev
          have : C' = C := by
            have := f1.symm.trans e1
            cases this
            rfl
          subst this
          exact ⟨dx', gs', f2, hl, p3 _ η3 _ st ((rs2.step s3).step st) r4⟩
      · cases ef
    · cases ef⟩
/-! o.m(..) -/
structure MFn (P : Program) (w : World) (K : PySem.W.Frag) (mg : Str → Option Value) (base : Heap) (c m : Str) (k n : Nat) (g : List D → Hh → Res D) : Prop where
  ex : ∃ C f fd ps, mg c = some (.ref C) ∧ Cls K C ∧ Meth K C m f ∧ FnOk P w K mg base (L2N.CX P w) k f fd ps (spM K mg w n g) ∧ Binds K fd ps []
def mthE (c m : Str) (g : List D → Hh → Res D) (mo : EM D) (ms : EM (List D)) : EM D := fun ρ h => (mo ρ h).bind fun o h1 => match insOf c o h1 with
  | some (_, fs) => if fs.lookup m = none then (ms ρ h1).bind fun l h2 => g (o :: l) h2 else .stuck
  | none => .stuck
theorem me_mth (gx : GX X W) {k n : Nat} {g : List D → Hh → Res D} {mo : EM D} {ms : EM (List D)} {pl : Sem Bool} (F : MFn X.prog X.w X.K X.mg X.base c m k n g) (hr : Room k X.A) (ho : ME X W o mo) (ha : MA X W (e :: es) ms) (hn : (e :: es).length + 1 = n := by rfl)
    (hst : starEach (e :: es) X.env = (false, eval e X.env) :: starEach es X.env := by rfl) (hpl : (backTo pos (starEach es X.env)).any (·.1) = false := by rfl)
    (ht : eval (.Call (.Attribute o m apos) (e :: es) [] pos) X.env = (do
      let ov ← eval o X.env
      standAt apos.atName
      let (f, first) ← holding [ov] (getMethod ov m pl)
      callWith pos f first (backTo pos (starEach (e :: es) X.env)) (backToKw pos (keywordEach [] X.env))) := by rfl) : ME X W (.Call (.Attribute o m apos) (e :: es) [] pos) (mthE c m g mo ms) := by
  obtain ⟨C, f, fd, ps, mc, cl, hm, F, hb⟩ := F.ex
  refine ⟨PE.wk (pe_methO (E := WE W) (pl := pl) ho.pe cl hm F hr hb (L2N.passAt gx.tk) ha.pa hst hpl ht) fun σ H Q q => ?_⟩
  obtain ⟨ρ, η, h, rs, rh, p⟩ := q
  refine tM.mono (fun v H1 ⟨o', η1, h1, s1, r1, q1, p1⟩ => ?_) (Po.seq (R1 := rD X) rs rh p)
  cases ei : insOf c o' h1 with
  | none => rw [ei] at p1; exact p1.elim
  | some nf =>
    obtain ⟨n0, fs⟩ := nf
    rw [ei] at p1
    simp only at p1
    split at p1
    · rename_i hl
      obtain ⟨a, C', dx, gs, rfl, ea, e1, e2, e3, e4, e5⟩ := ins_at r1 q1 ei
      have : C' = C := by
        have := e1.symm.trans mc
        cases this
        rfl
      subst this
      refine ⟨a, dx, gs, rfl, e2, rfs_none e5 hl, ?_⟩
      have q' : tM X W (rD X) (fun ρ h => (ms ρ h).bind fun l h2 => g (o' :: l) h2) σ H1 Q := ⟨ρ, η1, h1, rs.step s1, r1, p1⟩
      have rs1 := rs.step s1
      refine ⟨ρ, η1, h1, rs1, r1, ?_⟩
      cases em : ms ρ h1 with
      | stuck => rw [em] at p1; exact p1.elim
      | raise cc fs' h2 => rw [em] at p1; exact p1
      | ok l h2 =>
        rw [em, bind_ok] at p1
        intro xs η2 H2 s2 r2 q2
        have hlen : (o' :: l).length = n := by rw [List.length_cons, ha.len _ _ _ _ em]; exact hn
        refine ⟨o' :: l, η2, h2, hlen, r2, ⟨_, _, rfl, RD.step s2 _ _ q1, q2⟩, ?_⟩
        have p2 := Po.step s2 p1
        cases eg : g (o' :: l) h2 with
        | ok d h3 => rw [eg] at p2; exact fun v η' H' s r rd => p2 v η' H' s r rd
        | raise cc fs' h3 => rw [eg] at p2; exact p2
        | stuck => rw [eg] at p2; exact p2
    · exact p1.elim
theorem me_mth0 (gx : GX X W) {k : Nat} {g : List D → Hh → Res D} {mo : EM D} {pl : Sem Bool} (F : MFn X.prog X.w X.K X.mg X.base c m k 1 g) (hr : Room k X.A) (ho : ME X W o mo) (_ : MA X W [] nilA)
    (ht : eval (.Call (.Attribute o m apos) [] [] pos) X.env = (do
      let ov ← eval o X.env
      standAt apos.atName
      let (f, first) ← holding [ov] (getMethod ov m pl)
      callWith pos f first (backTo pos (starEach [] X.env)) (backToKw pos (keywordEach [] X.env))) := by rfl) : ME X W (.Call (.Attribute o m apos) [] [] pos) (mthE c m g mo nilA) := by
  obtain ⟨C, f, fd, ps, mc, cl, hm, F, hb⟩ := F.ex
  refine ⟨PE.wk (pe_methO0 (E := WE W) (pl := pl) ho.pe cl hm F hr hb (L2N.passAt gx.tk) ht) fun σ H Q q => ?_⟩
  obtain ⟨ρ, η, h, rs, rh, p⟩ := q
  refine tM.mono (fun v H1 ⟨o', η1, h1, s1, r1, q1, p1⟩ => ?_) (Po.seq (R1 := rD X) rs rh p)
  cases ei : insOf c o' h1 with
  | none => rw [ei] at p1; exact p1.elim
  | some nf =>
    obtain ⟨n0, fs⟩ := nf
    rw [ei] at p1
    simp only at p1
    split at p1
    · rename_i hl
      obtain ⟨a, C', dx, gs, rfl, ea, e1, e2, e3, e4, e5⟩ := ins_at r1 q1 ei
      have : C' = C := by
        have := e1.symm.trans mc
        cases this
        rfl
      subst this
      refine ⟨a, dx, gs, rfl, e2, rfs_none e5 hl, ?_⟩
      have p1 : Po X W (rD X) σ η1 H1 (g [o'] h1) Q := p1
      refine ⟨[o'], η1, h1, rfl, r1, ⟨_, _, rfl, q1, rfl⟩, ?_⟩
      cases eg : g [o'] h1 with
      | ok d h3 => rw [eg] at p1; exact fun v η' H' s r rd => p1 v η' H' s r rd
      | raise cc fs' h3 => rw [eg] at p1; exact p1
      | stuck => rw [eg] at p1; exact p1
    · exact p1.elim
/-! C(..) -/
structure IFn (P : Program) (w : World) (K : PySem.W.Frag) (mg : Str → Option Value) (base : Heap) (c : Str) (k n : Nat) (g : List D → Hh → Res D) : Prop where
  ex : ∃ C f fd ps, mg c = some (.ref C) ∧ Mk K C f ∧ FnOk P w K mg base (L2N.CX P w) k f fd ps (spM K mg w n g) ∧ Binds K fd ps []
def madeR (n : Nat) (r : Res D) : Res D := match r with
  | .ok .non h => .ok (.ref n) h
  | .ok _ _ => .stuck
  | .raise c fs h => .raise c fs h
  | .stuck => .stuck
def mkE (c : Str) (g : List D → Hh → Res D) (ms : EM (List D)) : EM D := fun ρ h => (ms ρ h).bind fun l h1 => madeR h1.length (g (.ref h1.length :: l) (h1 ++ [.ins c []]))
theorem me_mk (gx : GX X W) {k n : Nat} {g : List D → Hh → Res D} {ms : EM (List D)} (F : IFn X.prog X.w X.K X.mg X.base c k n g) (hr : Room (k + 1) X.A) (hg : Gl X c) (ha : MA X W (e :: es) ms) (hn : (e :: es).length + 1 = n := by rfl)
    (hdb : (c == ("__debug__" : Str)) = false := by decide) (he : starEach (e :: es) X.env = (false, eval e X.env) :: starEach es X.env := by rfl) (hpl : (backTo pos (starEach es X.env)).any (·.1) = false := by rfl) : ME X W (.Call (.Name c p) (e :: es) [] pos) (mkE c g ms) := by
  obtain ⟨C, f, fd, ps, mc, M, F, hb⟩ := F.ex
  refine ⟨PE.wk (pe_makeO (E := WE W) M F hr hg mc hb (L2N.passAt gx.tk) ha.pa hdb he hpl) fun σ H Q q => ?_⟩
  refine tM.mono (fun xs H1 ⟨ρ, l, η1, h1, rs, r1, q1, e1, p1⟩ => ?_) (tM.args ha q)
  intro a dx na nd ne
  have hne : a ≠ dx := Ne.symm ne
  have r2 : RH X.K X.mg X.w η1 (upd H1 dx (.own a)) h1 := r1.new1 nd
  have s2 : Step η1 H1 η1 (upd H1 dx (.own a)) := r1.new1S nd
  have na2 : upd H1 dx (.own a) a = none := by rw [upd_ne hne]; exact na
  have s3 : Step η1 (upd H1 dx (.own a)) (η1.push a) (upd (upd H1 dx (.own a)) a (.ins C dx [])) := r2.allocS na2
  have ndx : ¬ (η1.push a).In dx := fun z => by
    rcases z with z | z
    · rcases List.mem_append.mp z with z | z
      · exact r1.nin nd (.inl z)
      · exact ne (List.mem_singleton.mp z)
    · exact r1.nin nd (.inr z)
  have r3 : RH X.K X.mg X.w (η1.push a) (upd (upd H1 dx (.own a)) a (.ins C dx [])) (h1 ++ [.ins c []]) :=
    r2.alloc na2 ⟨C, dx, [], mc, upd_same, ndx, by rw [upd_ne ne, upd_same], rfl⟩
  have q3 := RDs.step s3 _ _ (RDs.step s2 _ _ q1)
  have hc : (η1.push a).c[h1.length]? = some a := by show (η1.c ++ [a])[h1.length]? = _; rw [← r1.len]; simp
  refine ⟨.ref h1.length :: l, η1.push a, _, by rw [List.length_cons, ← q1.length, e1]; exact hn, r3, ⟨_, _, rfl, ⟨a, hc, rfl⟩, q3⟩, ?_⟩
  have s23 := s2.trans s3
  have p2 := p1
  cases eg : g (.ref h1.length :: l) (h1 ++ [.ins c []]) with
  | stuck => rw [eg] at p2; exact p2.elim
  | raise cc fs' h3 => rw [eg] at p2; exact fun η' H' C dx s r m re => p2 η' H' C dx (s23.trans s) r m re
  | ok d h3 =>
    rw [eg] at p2
    cases d with
    | non => exact fun v η' H' s r rd => ⟨rd, p2 (.ref a) η' H' (s23.trans s) r ⟨a, s.at_ hc, rfl⟩⟩
    | _ => exact p2.elim
end
/-! the methods of a text -/
structure MethAt (K : PySem.W.Frag) (mg : Str → Option Value) (c m qual : Str) (st : Stmt) : Prop where
  ex : ∃ C f fd, mg c = some (.ref C) ∧ Cls K C ∧ Meth K C m f ∧ Fun K m qual st f fd
structure InitAt (K : PySem.W.Frag) (mg : Str → Option Value) (c qual : Str) (st : Stmt) : Prop where
  ex : ∃ C f fd, mg c = some (.ref C) ∧ Mk K C f ∧ Fun K "__init__" qual st f fd
section
variable {P : Program} {w : World} {K : PySem.W.Frag} {mg : Str → Option Value} {base : Heap}
theorem mfn_mk {c x qual : Str} {st : Stmt} {N ps : List Str} {k : Nat} {m : SS} (F : MethAt K mg c x qual st) (S : FnScope N ps (defScope st))
    (hbind : ∀ (kV doc pm : Value) (an : Option Addr) (cdv ct : Value) (us : List Value), us.length = ps.length → bindArgs (PySem.W.fnOf x qual (defArgs st) (defBody st) (defScope st) .none kV doc pm an cdv ct) ⟨us, []⟩ = pure (ps.zip us))
    (hb : ∀ (f : Addr) (cdv : Value) (A : Around) (outer : List PySem.Env) (s : Shared) (H : Hp) (E : XK), Room k (A.deeper (envOfC qual (defScope st) s.heap.objs.size f cdv)) →
      GX (cxOf (L2N.CX P w) P w K mg base N qual (defScope st) f cdv A outer s H E) (fun cls d _ H => E cls d H) →
      MB (cxOf (L2N.CX P w) P w K mg base N qual (defScope st) f cdv A outer s H E) (fun cls d _ H => E cls d H) (defBody st) m) : MFn P w K mg base c x (k + 1) ps.length (defF N.length m) := by
  obtain ⟨C, f, fd, mc, cl, hm, F⟩ := F.ex
  exact ⟨C, f, fd, ps, mc, cl, hm, fn_ok F S fun cdv A outer s H E hr gx => hb f cdv A outer s H E hr gx, F.binds hbind⟩
theorem ifn_mk {c qual : Str} {st : Stmt} {N ps : List Str} {k : Nat} {m : SS} (F : InitAt K mg c qual st) (S : FnScope N ps (defScope st))
    (hbind : ∀ (kV doc pm : Value) (an : Option Addr) (cdv ct : Value) (us : List Value), us.length = ps.length → bindArgs (PySem.W.fnOf "__init__" qual (defArgs st) (defBody st) (defScope st) .none kV doc pm an cdv ct) ⟨us, []⟩ = pure (ps.zip us))
    (hb : ∀ (f : Addr) (cdv : Value) (A : Around) (outer : List PySem.Env) (s : Shared) (H : Hp) (E : XK), Room k (A.deeper (envOfC qual (defScope st) s.heap.objs.size f cdv)) →
      GX (cxOf (L2N.CX P w) P w K mg base N qual (defScope st) f cdv A outer s H E) (fun cls d _ H => E cls d H) →
      MB (cxOf (L2N.CX P w) P w K mg base N qual (defScope st) f cdv A outer s H E) (fun cls d _ H => E cls d H) (defBody st) m) : IFn P w K mg base c (k + 1) ps.length (defF N.length m) := by
  obtain ⟨C, f, fd, mc, M, F⟩ := F.ex
  exact ⟨C, f, fd, ps, mc, M, fn_ok F S fun cdv A outer s H E hr gx => hb f cdv A outer s H E hr gx, F.binds hbind⟩
theorem MFn.mono {c x : Str} {j k n : Nat} {g : List D → Hh → Res D} (F : MFn P w K mg base c x j n g) (h : j ≤ k) : MFn P w K mg base c x k n g := by
  obtain ⟨C, f, fd, ps, a, b, d, F, r⟩ := F.ex
  exact ⟨C, f, fd, ps, a, b, d, F.mono h, r⟩
theorem MFn.cut {c x : Str} {k n : Nat} {g : List D → Hh → Res D} (F : MFn P w K mg base c x k n g) : MFn P w K mg base c x k n (cutF g) := by
  obtain ⟨C, f, fd, ps, a, b, d, F, r⟩ := F.ex
  exact ⟨C, f, fd, ps, a, b, d, F.imp fun _ _ _ _ q => spM_cut q, r⟩
end
end Ev

/-! EvN: tuples of texts that were made here, and their .index; list.index. -/
namespace L2
open PySem PySem.Spec PyProof.Rows
section
variable {X : Cx} {pins : List (Addr × Obj)} {σ : St} {H : Hp} {s : Shared}
/-- tuple(a list): a new tuple, with nothing of its own -/
theorem call_tuple_frz : CallR X (.type "tuple") (fun xs H Q => ∃ p ys, xs = [.ref p] ∧ SqL X.K H p ys ∧ ∀ l ob, H l = none → ob.cls = .type "tuple" → ob.dict = none → Q (.ref l) (upd H l (.frz ob (.tup ys)))) := by
  intro pins s σ H xs us Q I r h
  obtain ⟨p, ys, rfl, hq, q⟩ := h
  obtain ⟨u, rfl, rx⟩ := vals1 r
  cases rx
  obtain ⟨its, r', pl, hz⟩ := I.list hq
  have hlen := r'.length
  refine call_tuple_list pl.isList (fun h' kp => ?_) (by simp only [List.size_toArray] <;> omega)
  have I1 : Inv X pins σ H { s with heap := h' } := I.kept (t' := s.toks) kp
  have I2 : Inv X pins σ (upd H h'.objs.size (.frz { cls := .type "tuple", data := .seq its.toArray } (.tup ys))) { s with heap := h'.push { cls := .type "tuple", data := .seq its.toArray } } :=
    I1.laid (t' := s.toks) (fun b o e => Heap.get?_push_of_some _ e) (Nat.le_refl _) (show ObjOk X.prog X.w _ _ _ (.frz _ (.tup ys)) from ⟨Heap.get?_push_size h' rfl, hz, its, r', IsTup.new _ _⟩)
  exact ⟨.ref h'.objs.size, _, I2, rfl, q _ _ (I1.hok.fresh (Nat.le_refl _)) rfl rfl⟩
/-- a tuple with nothing of its own -/
def NakT (x : V) (H : Hp) : Prop := ∃ a ob xs, x = .ref a ∧ H a = some (.frz ob (.tup xs)) ∧ ob.cls = .type "tuple" ∧ ob.dict = none
def tBMN (r : V → List V → Hp → VK → Prop) (to : TE) (t : TA) : TE := fun σ H Q => to σ H fun x H1 => NakT x H1 ∧ t σ H1 fun xs H2 => r x xs H2 Q
theorem pe_bmN {o e : Expr} {es : List Expr} {to : TE} {t : TA} {name : Str} {apos cpos : Pos} {id : String} {r : V → List V → Hp → VK → Prop} (pa : PlainAttrs "tuple") (slot : Slot "tuple" name id) (hty : typeOf (.builtin id) = pure (.type "method_descriptor")) (hm : MtR X id r) (ho : PE X o to) (ha : PA X (e :: es) t)
    (hbase : attributeBase o name X.env (eval o X.env) = eval o X.env := by rfl)
    (hfew : ((backTo cpos (starEach (e :: es) X.env)).all (fun x => !x.1) && (backToKw cpos (keywordEach [] X.env)).all (fun x => x.1.isSome)
      && decide ((e :: es).length + ([] : List Keyword).length + (if ([] : List Keyword).isEmpty then 0 else 1) < 30)) = true := by rfl)
    (hline : (apos.endLine == cpos.line) = true := by rfl) (hs : starEach (e :: es) X.env = (false, eval e X.env) :: starEach es X.env := by rfl) (hplain : (backTo cpos (starEach es X.env)).any (·.1) = false := by rfl) :
    PE X (.Call (.Attribute o name apos) (e :: es) [] cpos) (tBMN r to t) := by
  refine ⟨fun pins s σ H Q I h => ?_⟩
  refine wpAny_Call_method_late hbase hfew hline rfl (thn (ho.run pins s σ H _ I h) fun v s1 ⟨x, H1, I1, r1, ty, q1⟩ => ?_)
  obtain ⟨a, ob, xs0, rfl, ea, ec, ed⟩ := ty
  have r1' := r1
  cases r1
  have go : s1.heap.get? a = some ob := (I1.hok a _ ea).1
  refine ⟨"tuple", id, pa, slot, hty, ⟨ob, go, ec⟩, fun b e2 => ?_, ?_⟩
  · cases e2
    exact ⟨ob, go, ed⟩
  · have hA := ha.run cpos pins s1 σ H1 _ I1 q1
    rw [hs] at hA ⊢
    refine Calls.callWith_builtin (by show (false || (backTo cpos (starEach es X.env)).any (·.1)) = false; rw [hplain] <;> rfl) (Calls.evalArgs_plain ?_)
    exact thn hA fun us s2 ⟨vs, H2, I2, r2, q2⟩ => hm pins s2 σ H2 _ vs _ us Q I2 r1' r2 q2
end
end L2
namespace Ev
open PySem PySem.Spec PyProof.Rows L2
section
variable {X : Cx} {W : WX} {σ : L2.St} {η : Ad} {H : Hp} {h : Hh} {Q : VK} {pos : Pos} {e o : Expr} {es : List Expr}
def strsOf : List D → Option (List Str)
  | [] => some []
  | .str z :: l => (strsOf l).map (z :: ·)
  | _ :: _ => none
theorem strsOf_map (l : List Str) : strsOf (l.map D.str) = some l := by
  induction l with
  | nil => rfl
  | cons a l ih => rw [List.map_cons]; unfold strsOf; rw [ih]; rfl
theorem strsOf_rd {K : PySem.W.Frag} : ∀ {l : List D} {zs : List Str} {xs : List V}, strsOf l = some zs → RDs K η H l xs → xs = zs.map V.str
  | [], zs, xs, e, r => by cases e; cases r; rfl
  | .str z :: l, zs, xs, e, r => by
    unfold strsOf at e
    cases el : strsOf l with
    | none => rw [el] at e; cases e
    | some ws =>
      rw [el] at e
      cases e
      obtain ⟨x, r', rfl, q, t⟩ := r
      cases q
      rw [strsOf_rd el t]
      rfl
  | .non :: l, zs, xs, e, r => by cases e
  | .bl _ :: l, zs, xs, e, r => by cases e
  | .int _ :: l, zs, xs, e, r => by cases e
  | .tup _ :: l, zs, xs, e, r => by cases e
  | .lst _ :: l, zs, xs, e, r => by cases e
  | .dic _ :: l, zs, xs, e, r => by cases e
  | .scr _ :: l, zs, xs, e, r => by cases e
  | .ref _ :: l, zs, xs, e, r => by cases e
  | .ty _ :: l, zs, xs, e, r => by cases e
  | .ntp _ :: l, zs, xs, e, r => by cases e
/-! tuple([..]) of texts, kept as such -/
def ntpD (l : List D) (h : Hh) : Res D := match l with
  | [.lst l] => (match strsOf l with
    | some zs => .ok (.ntp zs) h
    | none => .stuck)
  | _ => .stuck
theorem cd_ntp : CallD X W (fun xs H Q => ∃ p ys, xs = [.ref p] ∧ SqL X.K H p ys ∧ ∀ l ob, H l = none → ob.cls = .type "tuple" → ob.dict = none → Q (.ref l) (upd H l (.frz ob (.tup ys)))) ntpD := by
  intro σ η H h l xs Q rh rl p
  unfold ntpD at p
  split at p
  · rename_i l
    obtain ⟨v, rfl, a, ys, rfl, qa, na, ta⟩ := rds1 rl
    split at p
    · rename_i zs ez
      have := strsOf_rd ez ta
      subst this
      refine ⟨a, _, rfl, .of qa, fun b ob nb ec ed => ?_⟩
      exact p _ η _ (rh.new1S nb) (rh.new1 nb) ⟨b, ob, rfl, upd_same, ec, ed, rh.nin nb⟩
    · exact p.elim
  · exact p.elim
/-- as any tuple -/
def tnD : D → D
  | .ntp l => .tup (l.map D.str)
  | d => d
theorem rds_strs {K : PySem.W.Frag} : ∀ (l : List Str), RDs K η H (l.map D.str) (l.map V.str)
  | [] => rfl
  | z :: l => ⟨.str z, l.map V.str, rfl, rfl, rds_strs l⟩
theorem tn_rd {K : PySem.W.Frag} {d : D} {v : V} (r : RD K η H d v) : RD K η H (tnD d) v := by
  cases d with
  | ntp l =>
    obtain ⟨a, ob, rfl, q, _, _, _⟩ := r
    exact ⟨a, _, rfl, .inl (.inr ⟨ob, q⟩), rds_strs l⟩
  | _ => exact r
def tnE (m : EM D) : EM D := fun ρ h => (m ρ h).bind fun d h1 => .ok (tnD d) h1
theorem me_tn {m : EM D} (he : ME X W e m) : ME X W e (tnE m) := ⟨PE.wk he.pe fun σ H Q q => by
  obtain ⟨ρ, η, h, rs, rh, p⟩ := q
  refine tM.mono (fun x H1 ⟨d, η1, h1, s1, r1, q1, p1⟩ => ?_) (Po.seq (R1 := rD X) rs rh p)
  exact p1 x η1 H1 (.refl _ _) r1 (tn_rd q1)⟩
/-! .index -/
def nidxD (a : D) (l : List D) (h : Hh) : Res D := match a with
  | .ntp zs => (match l with
    | [.str z] => (match zs.findIdx? (fun y => decide (y = z)) with
      | some j => .ok (.int ((j : Nat) : Int)) h
      | none => .stuck)
    | _ => .stuck)
  | _ => .stuck
def nidxE (mo : EM D) (ms : EM (List D)) : EM D := fun ρ h => (mo ρ h).bind fun o h1 => match o with
  | .ntp zs => (ms ρ h1).bind fun l h2 => nidxD (.ntp zs) l h2
  | _ => .stuck
theorem me_nidx {apos cpos : Pos} {mo : EM D} {ms : EM (List D)} (ho : ME X W o mo) (ha : MA X W (e :: es) ms)
    (hbase : attributeBase o "index" X.env (eval o X.env) = eval o X.env := by rfl)
    (hfew : ((backTo cpos (starEach (e :: es) X.env)).all (fun x => !x.1) && (backToKw cpos (keywordEach [] X.env)).all (fun x => x.1.isSome)
      && decide ((e :: es).length + ([] : List Keyword).length + (if ([] : List Keyword).isEmpty then 0 else 1) < 30)) = true := by rfl)
    (hline : (apos.endLine == cpos.line) = true := by rfl) (hs : starEach (e :: es) X.env = (false, eval e X.env) :: starEach es X.env := by rfl) (hplain : (backTo cpos (starEach es X.env)).any (·.1) = false := by rfl) :
    ME X W (.Call (.Attribute o "index" apos) (e :: es) [] cpos) (nidxE mo ms) := ⟨PE.wk (pe_bmN PySem.F.plainAttrs_tuple PySem.F.slot_tuple_index PySem.F.type_tuple_index mt_tup_index ho.pe ha.pa hbase hfew hline hs hplain) fun σ H Q q => by
  obtain ⟨ρ, η, h, rs, rh, p⟩ := q
  refine tM.mono (fun x H1 ⟨d, η1, h1, s1, r1, q1, p1⟩ => ?_) (Po.seq (R1 := rD X) rs rh p)
  split at p1
  · rename_i zs
    have q1' : RD X.K η1 H1 (.ntp zs) x := q1
    obtain ⟨a, ob, rfl, ea, ec, ed, ni⟩ := q1'
    refine ⟨⟨a, ob, _, rfl, ea, ec, ed⟩, ?_⟩
    refine tM.mono (fun y H2 ⟨l, η2, h2, s2, r2, q2, p2⟩ => ?_) (Po.seq (R1 := rA X) (rs.step s1) r1 p1)
    unfold nidxD at p2
    simp only at p2
    split at p2
    · rename_i z
      obtain ⟨v, rfl, r⟩ := rds1 q2
      cases r
      split at p2
      · rename_i j ej
        obtain ⟨h1, h2, h3⟩ := List.findIdx?_eq_some_iff_getElem.mp ej
        refine ⟨a, zs, z, j, rfl, rfl, .inl (.inr ⟨ob, s2.keep a _ ni ea⟩), ?_, fun m hm e => ?_, Po.scal p2 r2 rfl⟩
        · rw [List.getElem?_eq_getElem h1]
          exact congrArg some (of_decide_eq_true h2)
        · obtain ⟨h4, h5⟩ := List.getElem?_eq_some_iff.mp e
          exact h3 m hm (decide_eq_true h5)
      · exact p2.elim
    · exact p2.elim
  · exact p1.elim⟩
def lidxD (a : D) (l : List D) (h : Hh) : Res D := match lstOf a h with
  | some ds => (match strsOf ds, l with
    | some zs, [.str z] => (match zs.findIdx? (fun y => decide (y = z)) with
      | some j => .ok (.int ((j : Nat) : Int)) h
      | none => .stuck)
    | _, _ => .stuck)
  | none => .stuck
theorem md_lidx : MtD X W "list" (rIndex X.K) lidxD := by
  intro σ η H h a l x xs Q rh ra rl p
  unfold lidxD at p
  split at p
  · rename_i ds ed
    obtain ⟨b, ys, rfl, s, t⟩ := lstOf_of rh ra ed
    split at p
    · rename_i zs z ez
      obtain ⟨v, rfl, r⟩ := rds1 rl
      cases r
      have := strsOf_rd ez t
      subst this
      split at p
      · rename_i j ej
        obtain ⟨h1, h2, h3⟩ := List.findIdx?_eq_some_iff_getElem.mp ej
        refine ⟨b, _, .str z, j, .str z, rfl, rfl, .of s, rfl, flat_strs _, ?_, by simp [eqV], fun m z' hm e => ?_, Po.scal p rh rfl⟩
        · rw [List.getElem?_map, List.getElem?_eq_getElem h1]
          exact congrArg (fun z => some (V.str z)) (of_decide_eq_true h2)
        · have hm2 : m < zs.length := by omega
          rw [List.getElem?_map, List.getElem?_eq_getElem hm2] at e
          cases e
          have := h3 m hm
          simp only [decide_eq_true_eq] at this
          show (zs[m] == z) = false
          exact beq_eq_false_iff_ne.mpr this
      · exact p.elim
    · exact p.elim
  · exact p.elim
end
end Ev

set_option maxHeartbeats 1000000
/-! EvE: enumerate over a tuple; min and max of ints. -/
namespace L2
open PySem PySem.Spec PyProof.Rows
open AutoSeq1 (wpAny_loadPart')
theorem meets_enumerate_newT (l : Addr) (items : Array Value) (n : Nat) (dct : Option Addr) (sl : Array (Option Value)) :
    Meets (Builtin.«enumerate.__new__» ⟨[.type "enumerate", .ref l], []⟩) (fun _ R s => s.heap.get? l = some { cls := .type "tuple", dict := dct, data := .seq items n, slots := sl } ∧
      R (.ok (.ret (.ref (s.heap.push { cls := .type "tuple_iterator", data := .fields #[.ref l, .int 0 0] }).objs.size)))
        { s with heap := (s.heap.push { cls := .type "tuple_iterator", data := .fields #[.ref l, .int 0 0] }).push { cls := .type "enumerate", data := .fields #[.none, .bool false, .ref s.heap.objs.size, rawInt 0, .none, .none] } }) :=
  .of_wp fun prog w A R s h => by
    obtain ⟨hp, g, d, tk, os⟩ := s; obtain ⟨hl, h⟩ := h
    have hsub := sub_enumerate
    have hL : Heap.IsTuple (Shared.heap ⟨hp, g, d, tk, os⟩) l items := ⟨_, hl, rfl, n, rfl⟩
    wp_walk using wpAny_loadPart' hl
    refine wpAny_stack_any fun st => wpAny_pure ?_
    split
    · rename_i c _ _ _ _ _
      cases (c == Value.type "enumerate")
      · wp_walk using wpAny_loadPart' hl, wpAny_pyIter_tuple hL
        exact ⟨_, rfl, h⟩
      · wp_walk using wpAny_loadPart' hl, wpAny_pyIter_tuple hL
        exact ⟨_, rfl, h⟩
    · wp_walk using wpAny_loadPart' hl, wpAny_pyIter_tuple hL
      exact ⟨_, rfl, h⟩
section
variable {prog : Program} {w : World} {A : Around} {E : Value → Shared → Prop} {s : Shared}
theorem call_enumerate_tup {l : Addr} {items : Array Value} {Q : Value → Shared → Prop} (hL : s.heap.IsTuple l items)
    (h : ∀ h', IsEnum h' (s.heap.objs.size + 1) s.heap.objs.size 0 .none → h'.IsTupleIter s.heap.objs.size l 0 → h'.objs.size = s.heap.objs.size + 2 →
      (∀ b o, s.heap.get? b = some o → h'.get? b = some o) → Q (.ref (s.heap.objs.size + 1)) { s with heap := h' }) :
    wpAny (model prog w) A (call (.type "enumerate") [.ref l]) Q E s := by
  obtain ⟨⟨c, dct, dt, sl⟩, hl, hc, n, hd⟩ := hL
  replace hc : c = .type "tuple" := hc
  replace hd : dt = .seq items n := hd
  subst hc hd
  refine callType_new F.called_enumerate (by decide) (F.typeCall_enumerate_1 _) (F.newCall_enumerate_1 _) (fun obj => F.args_object_init_2 obj _) F.entry_enumerate_new
    (meets_enumerate_newT l items n dct sl) ⟨hl, ?_⟩
  have hz : (s.heap.push { cls := .type "tuple_iterator", data := .fields #[.ref l, .int 0 0] }).objs.size = s.heap.objs.size + 1 := Heap.size_push ..
  show _ ∧ _
  rw [hz]
  have he : IsEnum ((s.heap.push { cls := .type "tuple_iterator", data := .fields #[.ref l, .int 0 0] }).push
      { cls := .type "enumerate", data := .fields #[.none, .bool false, .ref s.heap.objs.size, rawInt 0, .none, .none] }) (s.heap.objs.size + 1) s.heap.objs.size 0 .none := by
    have := Heap.get?_push_size (s.heap.push { cls := .type "tuple_iterator", data := .fields #[.ref l, .int 0 0] })
      (o := { cls := .type "enumerate", data := .fields #[.none, .bool false, .ref s.heap.objs.size, rawInt 0, .none, .none] }) rfl
    rw [hz] at this; exact this
  refine ⟨⟨_, he, rfl⟩, h _ he ⟨_, Heap.get?_push_of_some _ (Heap.get?_push_size _ rfl), rfl, rfl⟩ (by rw [Heap.size_push, hz]) fun b o x => Heap.get?_push_of_some _ (Heap.get?_push_of_some _ x)⟩
end
/-- the tuple at a as it stands at each turn, each item in a new pair -/
def IteT (K : PySem.W.Frag) (a : Addr) : It :=
  ⟨fun i H => ∃ (xs : List V) (x : V), SqT K H a xs ∧ xs[i]? = some x, fun i H v H' => ∃ T x, v = .ref T ∧ H T = none ∧ H' = upd H T (.tup [.int (i : Nat), x]) ∧ ∀ xs, SqT K H a xs → xs[i]? = some x, fun i H => ∃ xs : List V, SqT K H a xs ∧ xs.length ≤ i⟩
theorem turn_enumT {P : Program} {w : World} {K : PySem.W.Frag} {elts : List Expr} {kk : Nat} {tpos : Pos} (a e it : Addr) :
    Turn P w K (.Tuple elts kk tpos) (IteT K a) [e, it] e (fun i h => (∃ old, IsEnum h e it ((i : Nat) : Int) old) ∧ h.IsTupleIter it a i ∧ e ≠ it ∧ a ≠ it ∧ e ≠ a) where
  mem := by simp
  obj := fun i h st b hb => by
    obtain ⟨⟨old, he⟩, ⟨o, ho, hc, hd⟩, _⟩ := st
    have e' : b = e ∨ b = it := by simpa using hb
    rcases e' with z | z
    · rw [z]; exact ⟨_, he, fun v q => nomatch q⟩
    · rw [z]; exact ⟨o, ho, fun v q => by rw [hd] at q; cases q⟩
  keep := fun i h h' st k => let ⟨⟨old, he⟩, hi, hne⟩ := st; ⟨⟨old, k e (by simp) _ he⟩, hi.at fun o q => k it (by simp) o q, hne⟩
  item := by
    intro X hP hw hK hc i pins s σ H E I hf st hg
    subst hP hw hK
    obtain ⟨⟨old, he⟩, hit, hne, hna, hea⟩ := st
    obtain ⟨xs, x, hq, hx⟩ := hg
    obtain ⟨its, rv, p, hz⟩ := I.tuple hq
    obtain ⟨u, hu, ru⟩ := rv.get hx
    have hel : e < s.heap.objs.size := Heap.lt_size he
    have hil : it < s.heap.objs.size := by obtain ⟨_, q, _⟩ := hit; exact Heap.lt_size q
    have hh : X.A.in1.handled = none := I.ok.hd hc
    have hlt : i < its.toArray.size := by
      have := (List.getElem?_eq_some_iff.mp hu).1
      simpa using this
    refine wpAny_pyNext_enum_itemD (Draws.tuple hh it a hna its.toArray) he ⟨hit, p⟩ hlt hne (by simp [hne, hea]) fun y h' tk hy ho hst hT hsz hk => ?_
    have hyu : y = u := by
      have hy : its.toArray[i]? = some y := hy
      have : its[i]? = some y := by simpa using hy
      rw [hu] at this
      exact (Option.some.inj this).symm
    subst hyu
    have hit' := hst.1
    refine ⟨_, rfl, wpAny_letOwnedTupleGo_enum (s := { s with heap := h', toks := tk + 1 }) ho fun h'' he' sb => ?_⟩
    have hT2 : h''.get? s.heap.objs.size = some { cls := .type "tuple", data := .seq #[.int i tk, y] } := (sb.2 _ (Nat.ne_of_gt hel)).trans hT
    have new : ObjOk X.prog X.w (upd H s.heap.objs.size (.tup [.int (i : Nat), x])) h'' s.heap.objs.size (.tup [.int (i : Nat), x]) :=
      ⟨by show 2 ≤ sizeLine; decide, [.int i tk, y], .cons ⟨_, rfl⟩ (.cons ru .nil), ⟨_, hT2, rfl, _, rfl⟩⟩
    have I1 : Inv X pins σ (upd H s.heap.objs.size (.tup [.int (i : Nat), x])) { s with heap := h'', toks := tk + 1 } :=
      I.turnedNew (ch := [e, it]) (fun b ob hb q => (sb.2 b (fun z => hb (by simp [z]))).trans (hk b ob (fun z => hb (by simp [z])) (fun z => hb (by simp [z])) q)) hf (Nat.le_refl _) new
    refine ⟨.ref s.heap.objs.size, _, I1, rfl, ⟨_, x, rfl, I.hok.fresh (Nat.le_refl _), rfl, fun ys hy => by rw [I.tuple_inj hy hq]; exact hx⟩, ⟨⟨y, ?_⟩, hit'.at fun o q => (sb.2 it (Ne.symm hne)).trans q, hne, hna, hea⟩, fun b hb => ?_⟩
    · have e1 : ((i + 1 : Nat) : Int) = (i : Int) + 1 := by omega
      rw [e1]; exact he'
    · have hb' : b < s.heap.objs.size := by
        have e' : b = e ∨ b = it := by simpa using hb
        rcases e' with z | z
        · rw [z]; exact hel
        · rw [z]; exact hil
      rw [upd_ne (Nat.ne_of_lt hb')]
      exact (hf b hb).1
  done := by
    intro X hP hw hK hc i pins s σ H E I hf st hg
    subst hP hw hK
    obtain ⟨⟨old, he⟩, hit, hne, hna, hea⟩ := st
    obtain ⟨xs, hq, hx⟩ := hg
    obtain ⟨its, rv, p, hz⟩ := I.tuple hq
    obtain ⟨f0, f1, f2, f3, f4, f5⟩ := hf it (by simp)
    have hl := rv.length
    have hh : X.A.in1.handled = none := I.ok.hd hc
    have hT : s.TypeIs (.ref e) "enumerate" := ⟨_, he, rfl⟩
    unfold pyNext
    refine wpAny_bind (wpAny_attempt (wpAny_callSpecial?_slot (name := Str.ofString "__next__") hT F.slot_enumerate_next
      (wpAny_call_entry F.slot_enumerate_next hT F.entry_enumerate_next ?_ (F.args_enumerate_next_1 _))))
    show wpAny _ _ (field (.ref e) 2 >>= _) _ _ _
    refine wpAny_bind (wpAny_field he rfl (x := .ref it) rfl ?_)
    refine wpAny_bind (wpAny_nextOf_tuple_end hh hit p (by simp; omega) fun h' x eb hx' => ?_)
    obtain ⟨o, ho, hcc⟩ := hx'
    refine wpAny_bind (wpAny_isInstance (T := "StopIteration") (b := true) ⟨o, ho, hcc⟩ isSubtype_stop ?_)
    exact wpAny_pure ⟨rfl, I.turned (t' := s.toks) (fun b o hb q => eb b o hb q) f0 f1 f3 f4 f5⟩
  self := fun A i s Q E st h => let ⟨⟨_, he⟩, _⟩ := st; wpAny_pyIter_enum he h
def iEnumA (K : PySem.W.Frag) (ta : TA) : TI := fun σ H R => ta σ H fun vs H1 => ∃ a xs, vs = [.ref a] ∧ ((SqL K H1 a xs ∧ R (Ite K a) H1) ∨ (SqT K H1 a xs ∧ R (IteT K a) H1))
theorem pi_enumA {X : Cx} {e : Expr} {ta : TA} {p pos tpos : Pos} {elts : List Expr} {kk : Nat} (hg : Gl X "enumerate") (hm : X.mg "enumerate" = none) (ha : PA X [e] ta) (hs : starEach [e] X.env = [(false, eval e X.env)] := by rfl) :
    PI X (.Tuple elts kk tpos) (.Call (.Name "enumerate" p) [e] [] pos) (iEnumA X.K ta) := by
  refine ⟨fun pins s σ H R I h => ?_⟩
  refine Call_ (ld_blt I hg hm boot_enumerate (PyProof.Rows.callWith_type1 (thn (ha.run pos pins s σ H _ I h) fun us s1 ⟨vs, H1, I1, r1, q1⟩ => ?_) hs rfl))
  obtain ⟨a, xs, ex, hq⟩ := q1
  subst ex
  cases r1 with
  | cons r rr =>
    cases rr
    cases r
    rcases hq with ⟨hq, q⟩ | ⟨hq, q⟩
    · obtain ⟨its, rv, p', hz⟩ := I1.list hq
      refine call_enumerate_list p'.isList fun h' he hit hsz hk => wpAny_pyIter_enum he ?_
      have I2 : Inv X pins σ H1 { s1 with heap := h' } := I1.kept (t' := s1.toks) hk
      refine ⟨s1.heap.objs.size + 1, [s1.heap.objs.size + 1, s1.heap.objs.size], _, _, H1, rfl, I2, turn_enum a (s1.heap.objs.size + 1) s1.heap.objs.size, ⟨⟨.none, he⟩, hit, Nat.succ_ne_self _⟩, fun b hb => ?_, q⟩
      have e' : b = s1.heap.objs.size + 1 ∨ b = s1.heap.objs.size := by simpa using hb
      have hle : s1.heap.objs.size ≤ b := by
        rcases e' with z | z
        · rw [z]; exact Nat.le_add_right _ _
        · rw [z]; exact Nat.le_refl _
      exact I1.fpOk hle (I1.hok.fresh hle)
    · obtain ⟨its, rv, p', hz⟩ := I1.tuple hq
      have hal : a < s1.heap.objs.size := p'.lt
      refine call_enumerate_tup p' fun h' he hit hsz hk => wpAny_pyIter_enum he ?_
      have I2 : Inv X pins σ H1 { s1 with heap := h' } := I1.kept (t' := s1.toks) hk
      refine ⟨s1.heap.objs.size + 1, [s1.heap.objs.size + 1, s1.heap.objs.size], _, _, H1, rfl, I2, turn_enumT a (s1.heap.objs.size + 1) s1.heap.objs.size, ⟨⟨.none, he⟩, hit, Nat.succ_ne_self _, Nat.ne_of_lt hal, Nat.ne_of_gt (Nat.lt_succ_of_lt hal)⟩, fun b hb => ?_, q⟩
      have e' : b = s1.heap.objs.size + 1 ∨ b = s1.heap.objs.size := by simpa using hb
      have hle : s1.heap.objs.size ≤ b := by
        rcases e' with z | z
        · rw [z]; exact Nat.le_add_right _ _
        · rw [z]; exact Nat.le_refl _
      exact I1.fpOk hle (I1.hok.fresh hle)
end L2
namespace Ev
open PySem PySem.Spec PyProof.Rows L2
section
variable {X : Cx} {W : WX} {σ : L2.St} {η : Ad} {H : Hp} {h : Hh} {E : Ends} {e e2 : Expr} {pos tpos p : Pos} {elts : List Expr} {kk : Nat}
def enumAD (l : List D) (h : Hh) : Res IT := match l with
  | [.lst l] => .ok ⟨enumL 0 l, none⟩ h
  | [.tup l] => .ok ⟨enumL 0 l, none⟩ h
  | _ => .stuck
def enumAI (ms : EM (List D)) : EM IT := fun ρ h => (ms ρ h).bind enumAD
theorem mi_enumA {ms : EM (List D)} (hg : Gl X "enumerate") (hm : X.mg "enumerate" = none) (ha : MA X W [e] ms) (hs : starEach [e] X.env = [(false, eval e X.env)] := by rfl) : MI X W (.Tuple elts kk tpos) (.Call (.Name "enumerate" p) [e] [] pos) (enumAI ms) :=
  ⟨PI.wk (pi_enumA hg hm ha.pa hs) fun σ H R q => by
  refine tM.mono (fun xs H1 ⟨l, η1, h1, r1, q1, hl, p1⟩ => ?_) (tMI.args ha q)
  unfold enumAD at p1
  split at p1
  · rename_i l
    obtain ⟨v, rfl, a, xs, rfl, qa, na, ta⟩ := rds1 q1
    refine ⟨a, xs, rfl, .inl ⟨.of qa, p1 _ η1 H1 (.refl _ _) r1 fun η' H' h' s r c => ?_⟩⟩
    have qa' : SqL X.K H' a xs := .of (s.keep _ _ na qa)
    have ta' := ta.stw s
    refine ⟨⟨xs, qa', by rw [ta'.length]; show l.length ≤ (enumL 0 l).length; rw [enumL_length]; exact Nat.le_refl _⟩, fun i d ed => ?_⟩
    obtain ⟨dx, e1, rfl⟩ := enumL_get 0 l i d ed
    obtain ⟨x, ex, rx⟩ := ta'.get e1
    refine ⟨⟨xs, x, qa', ex⟩, fun v H'' ⟨T, x', e3, n, e4, e5⟩ => ?_⟩
    have e5 := e5 xs qa'
    rw [ex] at e5
    cases e5
    subst e3 e4
    refine pair_rd r n ?_ rx
    rw [Nat.zero_add]
    rfl
  · rename_i l
    obtain ⟨v, rfl, a, xs, rfl, qa, ta⟩ := rds1 q1
    refine ⟨a, xs, rfl, .inr ⟨qa, p1 _ η1 H1 (.refl _ _) r1 fun η' H' h' s r c => ?_⟩⟩
    have qa' := s.sqT qa
    have ta' := ta.stw s
    refine ⟨⟨xs, qa', by rw [ta'.length]; show l.length ≤ (enumL 0 l).length; rw [enumL_length]; exact Nat.le_refl _⟩, fun i d ed => ?_⟩
    obtain ⟨dx, e1, rfl⟩ := enumL_get 0 l i d ed
    obtain ⟨x, ex, rx⟩ := ta'.get e1
    refine ⟨⟨xs, x, qa', ex⟩, fun v H'' ⟨T, x', e3, n, e4, e5⟩ => ?_⟩
    have e5 := e5 xs qa'
    rw [ex] at e5
    cases e5
    subst e3 e4
    refine pair_rd r n ?_ rx
    rw [Nat.zero_add]
    rfl
  · exact p1.elim⟩
/-- a, b = x, y -/
def par2S (i j : Nat) (m : EM (List D)) : SS := fun ρ h => toS (m ρ h) ρ fun l h1 => match l with
  | [a, b] => .nx ((ρ.set i (some a)).set j (some b)) h1
  | _ => .stuck
theorem ms_par (g : GX X W) (i j : Nat) {x y : Str} {a b : Expr} {px py pt pt2 pos : Pos} {kt k2} {m : EM (List D)} (ha : MA X W [a, b] m) (hij : i ≠ j := by decide)
    (hi : X.N[i]? = some x := by rfl) (hj : X.N[j]? = some y := by rfl) (hx : X.env.scope.names.lookup x = some .local := by rfl) (hy : X.env.scope.names.lookup y = some .local := by rfl)
    (hw : swappedStores [.Tuple [.Name x px, .Name y py] kt pt] (.Tuple [a, b] k2 pt2) X.env = pure (some [x, y]) := by rfl)
    (hs : swapsWithSole [.Tuple [.Name x px, .Name y py] kt pt] (.Tuple [a, b] k2 pt2) pos.line X.env = pure false := by rfl) :
    MS X W (.Assign [.Tuple [.Name x px, .Name y py] kt pt] (.Tuple [a, b] k2 pt2) pos) (par2S i j m) := ⟨PS.wk (ps_par g.calm g.nd hi hj hij hx hy ha.pa hw hs) fun E σ H q => by
  obtain ⟨ρ, η, h, rs, rh, p⟩ := q
  refine tM.mono (fun vs H1 ⟨l, η1, h1, s1, r1, q1, p1⟩ => ?_) (PoS.seq (R1 := rA X) rs rh p)
  match l, q1, p1 with
  | [], _, p1 => exact p1.elim
  | [_], _, p1 => exact p1.elim
  | [da, db], q1, p1 =>
    obtain ⟨va, _, rfl, qa, vb, _, rfl, qb, rfl⟩ := q1
    exact ⟨va, vb, rfl, p1 _ η1 H1 (.refl _ _) (((rs.step s1).set i qa).set j qb) r1⟩
  | _ :: _ :: _ :: _, _, p1 => exact p1.elim⟩
end
end Ev

set_option maxHeartbeats 1000000
/-! EvU: sorted of tuples of ints, of dicts by texts. -/
namespace Ev
open PySem
theorem lexLt_no : ∀ x y z : List Int, HT.lexLt y x = false → HT.lexLt z y = false → HT.lexLt z x = false
  | [], _, [], _, _ => rfl
  | [], _, _ :: _, _, _ => rfl
  | _ :: _, [], _, h, _ => by cases h
  | _ :: _, _ :: _, [], _, h => by cases h
  | a :: x, b :: y, c :: z, h1, h2 => by
    rw [HT.lexLt_cons] at h1 h2 ⊢
    by_cases e1 : b = a
    · rw [if_pos e1] at h1
      by_cases e2 : c = b
      · rw [if_pos e2] at h2
        rw [if_pos (e2.trans e1)]
        exact lexLt_no x y z h1 h2
      · rw [if_neg e2, decide_eq_false_iff_not] at h2
        rw [if_neg (fun e => e2 (e.trans e1.symm)), decide_eq_false_iff_not]
        omega
    · rw [if_neg e1, decide_eq_false_iff_not] at h1
      by_cases e2 : c = b
      · rw [if_neg (fun e => e1 (e2.symm.trans e)), decide_eq_false_iff_not]
        omega
      · rw [if_neg e2, decide_eq_false_iff_not] at h2
        rw [if_neg (by omega), decide_eq_false_iff_not]
        omega
theorem lexLt_as : ∀ x y : List Int, HT.lexLt x y = true → HT.lexLt y x = false
  | [], [], h => by cases h
  | [], _ :: _, _ => rfl
  | _ :: _, [], h => by cases h
  | a :: x, b :: y, h => by
    rw [HT.lexLt_cons] at h ⊢
    by_cases e : a = b
    · rw [if_pos e] at h
      rw [if_pos e.symm]
      exact lexLt_as x y h
    · rw [if_neg e, decide_eq_true_eq] at h
      rw [if_neg (fun q => e q.symm), decide_eq_false_iff_not]
      omega
theorem lexLt_tri : ∀ x y : List Int, HT.lexLt x y = false → HT.lexLt y x = false → x = y
  | [], [], _, _ => rfl
  | [], _ :: _, h, _ => by cases h
  | _ :: _, [], _, h => by cases h
  | a :: x, b :: y, h1, h2 => by
    rw [HT.lexLt_cons] at h1 h2
    by_cases e : a = b
    · rw [if_pos e] at h1
      rw [if_pos e.symm] at h2
      rw [e, lexLt_tri x y h1 h2]
    · rw [if_neg e, decide_eq_false_iff_not] at h1
      rw [if_neg (fun q => e q.symm), decide_eq_false_iff_not] at h2
      omega
/-- sorted lists of the same things are one -/
theorem sorted_one {α : Type} {le : α → α → Prop} (tri : ∀ x y, le x y → le y x → x = y) : ∀ {l m : List α}, l.Perm m → l.Pairwise le → m.Pairwise le → l = m
  | [], m, p, _, _ => (List.Perm.eq_nil p.symm).symm
  | x :: l, [], p, _, _ => absurd p.length_eq (by simp)
  | x :: l, y :: m, p, a, b => by
    have e : x = y := by
      rcases List.mem_cons.mp (p.mem_iff.mp (List.mem_cons_self (a := x) (l := l))) with e | hx
      · exact e
      · rcases List.mem_cons.mp (p.mem_iff.mpr (List.mem_cons_self (a := y) (l := m))) with e | hy
        · exact e.symm
        · exact tri x y ((List.pairwise_cons.mp a).1 y hy) ((List.pairwise_cons.mp b).1 x hx)
    subst e
    rw [sorted_one tri (List.Perm.cons_inv p) (List.pairwise_cons.mp a).2 (List.pairwise_cons.mp b).2]
def leT (a b : List Int) : Bool := !HT.lexLt b a
def srtT (l : List (List Int)) : List (List Int) := l.mergeSort leT
theorem leT_trans (a b c : List Int) (h1 : leT a b = true) (h2 : leT b c = true) : leT a c = true := by
  unfold leT at *
  rw [Bool.not_eq_true'] at *
  exact lexLt_no a b c h1 h2
theorem leT_total (a b : List Int) : (leT a b || leT b a) = true := by
  unfold leT
  cases h : HT.lexLt b a with
  | false => rfl
  | true => rw [lexLt_as b a h]; rfl
theorem srtT_perm (l : List (List Int)) : (srtT l).Perm l := List.mergeSort_perm l leT
theorem srtT_sorted (l : List (List Int)) : (srtT l).Pairwise fun a b => leT a b = true := List.pairwise_mergeSort leT_trans leT_total l
theorem srtT_of {l m : List (List Int)} (p : m.Perm l) (h : m.Pairwise fun a b => leT a b = true) : srtT l = m :=
  sorted_one (fun x y h1 h2 => by
    unfold leT at h1 h2
    rw [Bool.not_eq_true'] at h1 h2
    exact lexLt_tri x y h2 h1) ((srtT_perm l).trans p.symm) (srtT_sorted l) h
/-! texts -/
def leS (a b : Str) : Bool := !PySem.Spec.ltCps b.cps.toList a.cps.toList
def srtS (l : List Str) : List Str := l.mergeSort leS
theorem leS_iff (a b : Str) : leS a b = true ↔ a.cps.toList ≤ b.cps.toList := by
  unfold leS
  rw [PyProof.Rows.ltCps_eq, Bool.not_eq_true', decide_eq_false_iff_not, List.not_lt]
theorem leS_trans (a b c : Str) (h1 : leS a b = true) (h2 : leS b c = true) : leS a c = true := by
  rw [leS_iff] at *
  exact List.le_trans h1 h2
theorem leS_total (a b : Str) : (leS a b || leS b a) = true := by
  rw [Bool.or_eq_true, leS_iff, leS_iff]
  exact List.le_total _ _
theorem leS_tri (a b : Str) (h1 : leS a b = true) (h2 : leS b a = true) : a = b := by
  rw [leS_iff] at h1 h2
  have e := List.le_antisymm h1 h2
  cases a; cases b
  simp at e
  rw [e]
theorem srtS_perm (l : List Str) : (srtS l).Perm l := List.mergeSort_perm l leS
theorem srtS_sorted (l : List Str) : (srtS l).Pairwise fun a b => leS a b = true := List.pairwise_mergeSort leS_trans leS_total l
theorem rising_pw : ∀ (p : Str) (l : List Str), PyProof.Rows.risingS p l = true → (p :: l).Pairwise fun a b => leS a b = true
  | p, [], _ => List.pairwise_singleton _ _
  | p, x :: l, h => by
    unfold PyProof.Rows.risingS at h
    rw [Bool.and_eq_true] at h
    have h1 : leS p x = true := h.1
    have ih := rising_pw x l h.2
    refine List.pairwise_cons.mpr ⟨fun y hy => ?_, ih⟩
    rcases List.mem_cons.mp hy with rfl | hy
    · exact h1
    · exact leS_trans p x y h1 ((List.pairwise_cons.mp ih).1 y hy)
theorem sortedS_pw (l : List Str) (h : PyProof.Rows.sortedS l = true) : l.Pairwise fun a b => leS a b = true := by
  cases l with
  | nil => exact List.Pairwise.nil
  | cons p l => exact rising_pw p l h
theorem srtS_of {l m : List Str} (p : m.Perm l) (h : m.Pairwise fun a b => leS a b = true) : srtS l = m := sorted_one leS_tri ((srtS_perm l).trans p.symm) (srtS_sorted l) h
end Ev
namespace SrtO
open PySem PyProof.Rows Srt
theorem swo_lexI (k : Value → List Int) : Swo fun v u => HT.lexLt (k v) (k u) :=
  ⟨fun x y h => Ev.lexLt_as _ _ h, fun x y z h1 h2 => Ev.lexLt_no _ _ _ h1 h2⟩
section
variable {prog : Program} {w : World} {A : Around} {E : Value → Shared → Prop} {s : Shared}
theorem lex_intsL {Q : Bool → Shared → Prop} {b : Bool} {xs ys : List Value} {ns ms : List Int} (i : Nat) (hx : IntsAre xs ns) (hy : IntsAre ys ms) (h : Q (HT.lexLt ns ms) s) :
    PySem.W.KatLex prog w A b (decide (ns.length < ms.length)) Q (xs.zip ys) i s := by
  induction hx generalizing ys ms i with
  | nil =>
    cases hy with
    | nil => exact PySem.W.kat_nil h
    | cons q u hy => exact PySem.W.kat_nil h
  | @cons p t xs ns hx ih =>
    cases hy with
    | nil => exact PySem.W.kat_nil h
    | @cons q u ys ms hy =>
      have ef : decide ((p :: ns).length < (q :: ms).length) = decide (ns.length < ms.length) := by rw [decide_eq_decide, List.length_cons, List.length_cons]; omega
      rw [ef]
      show PySem.W.KatLex prog w A b (decide (ns.length < ms.length)) Q ((Value.int p t, Value.int q u) :: xs.zip ys) i s
      refine PySem.W.kat_cons (wpAny_eqBool_int ?_)
      rw [HT.lexLt_cons] at h
      by_cases e : p = q
      · rw [if_pos e] at h
        rw [e, beq_self_eq_true]
        exact PySem.W.kat_yes (ih (i + 1) hy h)
      · rw [if_neg e] at h
        rw [show (p == q) = false from beq_eq_false_iff_ne.mpr e]
        exact PySem.W.kat_no (TS.oneLt_ints _ h)
theorem tups_firsts {h : Heap} : ∀ vs : List Value, (∀ v ∈ vs, ∃ ns, TS.TupInts h v ns ∧ ns ≠ []) → ∃ fs, PySem.W.KatTups h vs fs ∧ fs.length = vs.length ∧ ∀ f, f ∈ fs → ∃ n t, f = Value.int n t
  | [], _ => ⟨[], PySem.W.KatTups.nil, rfl, fun f hf => by simp at hf⟩
  | v :: vs, x => by
    obtain ⟨fs, k, hl, hi⟩ := tups_firsts vs fun u hu => x u (List.mem_cons_of_mem _ hu)
    obtain ⟨ns, ⟨a, xs, rfl, ⟨o, ho, hc, n, hdt⟩, i⟩, hn⟩ := x v (List.mem_cons_self ..)
    obtain ⟨y, ys, e⟩ : ∃ y ys, xs.toList = y :: ys := by
      cases q : xs.toList with
      | nil =>
        rw [q] at i
        cases i
        exact absurd rfl hn
      | cons y ys => exact ⟨y, ys, rfl⟩
    obtain ⟨m, t, hy⟩ := i.all y (by rw [e]; exact List.mem_cons_self ..)
    refine ⟨y :: fs, PySem.W.KatTups.cons ho hc hdt ?_ k, by simp [hl], ?_⟩
    · have z := congrArg (fun l : List Value => l[0]?) e
      simpa using z
    · intro f hf
      rcases List.mem_cons.mp hf with rfl | hf
      · exact ⟨m, t, hy⟩
      · exact hi f hf
theorem tups_sortable {a : Addr} {vs : List Value} {k : Value → List Int} (h0 : 0 < vs.length) (hp : ∀ v ∈ vs, TS.TupInts s.heap v (k v) ∧ k v ≠ []) (ha : ∀ o, s.heap.get? a = some o → o.cls ≠ .type "tuple") : SortableO prog w A s a vs fun v u => HT.lexLt (k v) (k u) := by
  intro h' keep
  have hp' : ∀ v ∈ vs, TS.TupInts h' v (k v) ∧ k v ≠ [] := fun v hm => ⟨(hp v hm).1.keeps fun b o e c => keep b o (fun z => by subst z; exact ha o e c) e, (hp v hm).2⟩
  obtain ⟨fs, h1, h2, h3⟩ := tups_firsts vs fun v hm => ⟨_, hp' v hm⟩
  refine ⟨tuples' true, fun Q E hq => ?_, fun p q hm hm' => ?_⟩
  · refine PySem.W.kat_kind (T := .type "int") h1 (by omega) (fun f hm => ?_) (by rfl) ?_
    · obtain ⟨x, t, rfl⟩ := h3 f hm
      exact PySem.W.Looks.now
    · have e : (Value.type "int" != Value.type "tuple") = true := by first | decide +kernel | rfl | decide
      rw [e]
      exact hq
  · obtain ⟨a, xs, e1, ⟨o, ho, hc, n, hdt⟩, i⟩ := (hp' _ hm).1
    obtain ⟨a', ys, e2, ⟨o', ho', hc', n', hdt'⟩, i'⟩ := (hp' _ hm').1
    show wpAny (model prog w) A (keyLt' (tuples' true) p.1 q.1) (fun r s' => s' = { s with heap := h' } ∧ r = HT.lexLt (k p.1) (k q.1)) (fun _ _ => False) { s with heap := h' }
    generalize k p.1 = ns at i ⊢
    generalize k q.1 = ms at i' ⊢
    rw [e1, e2]
    refine PySem.W.kat_lt ho hdt ho' hdt' ?_
    have sz : decide (xs.size < ys.size) = decide (ns.length < ms.length) := by
      have l1 := i.length
      have l2 := i'.length
      rw [Array.length_toList] at l1 l2
      rw [l1, l2]
    rw [sz]
    exact lex_intsL 0 i i' ⟨rfl, rfl⟩
theorem sorted_tupsI {l : Addr} {vs : List Value} {k : Value → List Int} {Q : Value → Shared → Prop} (hl : s.heap.IsList l vs.toArray) (hz : vs.length ≤ sizeLine) (hp : ∀ v ∈ vs, TS.TupInts s.heap v (k v) ∧ (2 ≤ vs.length → k v ≠ []))
    (h : ∀ (h' : Heap) (d : Addr) (out : List Value), Srtd (fun v u => HT.lexLt (k v) (k u)) out → Stb (fun v u => HT.lexLt (k v) (k u)) out vs → (∀ b o, s.heap.get? b = some o → h'.get? b = some o) → s.heap.objs.size ≤ d → (∃ n, h'.get? d = some (seqObj "list" out.toArray n)) → Q (.ref d) { s with heap := h' }) :
    wpAny (model prog w) A (call (.builtin "sorted") [.ref l]) Q E s := by
  refine sorted_ord (swo_lexI k) hl hz (fun h2 h₁ a ha kk => ?_) fun out hs hb => ?_
  · refine tups_sortable (s := { s with heap := h₁ }) (by omega) (fun v hm => ⟨(hp v hm).1.keeps fun b o e _ => (kk b o e).2, (hp v hm).2 h2⟩) fun o e => ?_
    have e' : some o = some (seqObj "list" vs.toArray 0) := e.symm.trans ha
    cases e'
    intro c
    exact absurd (Value.type.inj c) (by decide)
  · exact h _ _ out hs hb (fun b o e => sortedAll_old e) (Nat.le_succ _) (sortedAll_at s.heap vs out.toArray)
end
end SrtO
namespace L2
open PySem PySem.Spec PyProof.Rows
/-- sorted(xs), xs a list of tuples of ints, none of them empty -/
def rSortTI (K : PySem.W.Frag) : List V → Hp → VK → Prop := fun vs H Q => ∃ (a : Addr) (L : List (Addr × List Int)), vs = [V.ref a] ∧ SqL K H a (L.map fun p => V.ref p.1) ∧ (∀ p ∈ L, SqT K H p.1 (p.2.map V.int) ∧ (2 ≤ L.length → p.2 ≠ [])) ∧
  ∀ (L' : List (Addr × List Int)) (p : Addr), L'.Perm L → (L'.map (·.2)).Pairwise (fun x y => Ev.leT x y = true) → H p = none → Q (.ref p) (upd H p (.lst (L'.map fun q => V.ref q.1)))
theorem map_int_inj : ∀ {a b : List Int}, a.map V.int = b.map V.int → a = b
  | [], [], _ => rfl
  | [], _ :: _, e => by cases e
  | _ :: _, [], e => by cases e
  | x :: a, y :: b, e => by
    rw [List.map_cons, List.map_cons] at e
    injection e with e1 e2
    injection e1 with e1
    rw [e1, map_int_inj e2]
open Classical in
noncomputable def tiOf (K : PySem.W.Frag) (H : Hp) (v : V) : List Int := match v with
  | .ref a => if hh : ∃ t : List Int, SqT K H a (t.map V.int) then hh.choose else []
  | _ => []
def adOf : V → Addr
  | .ref a => a
  | _ => 0
section
variable {X : Cx}
theorem cr_sortTI : CallR X (.builtin "sorted") (rSortTI X.K) := by
  intro pins s σ H vs us Q I r h
  obtain ⟨a, L, rfl, hs, hx, q⟩ := h
  obtain ⟨its, rv, hl, hz⟩ := I.list hs
  obtain ⟨u, rfl, ru⟩ := vals1 r
  obtain rfl : u = Value.ref a := ru
  have hk : ∀ p ∈ L, tiOf X.K H (.ref p.1) = p.2 := fun p hp => by
    have ex : ∃ t : List Int, SqT X.K H p.1 (t.map V.int) := ⟨p.2, (hx p hp).1⟩
    unfold tiOf
    simp only
    rw [dif_pos ex]
    exact map_int_inj (I.tuple_inj ex.choose_spec (hx p hp).1)
  obtain ⟨e1, e2⟩ := refs_back rv fun x m => by
    obtain ⟨p, _, e⟩ := List.mem_map.mp m
    exact ⟨p.1, e.symm⟩
  generalize hkk : tiOf X.K H = k at hk
  refine SrtO.sorted_tupsI (k := fun u => k (backV u)) hl.isList (by rw [← rv.length]; exact hz) (fun v hv => ?_) fun h' d out h1 h2 kp hd hn => ?_
  · obtain ⟨t, rfl⟩ := e2 v hv
    have hm : V.ref t ∈ L.map fun p => V.ref p.1 := by rw [e1]; exact List.mem_map.mpr ⟨_, hv, rfl⟩
    obtain ⟨p, hp, e⟩ := List.mem_map.mp hm
    cases e
    obtain ⟨ht, hne⟩ := hx p hp
    have hb : backV (Value.ref p.1) = V.ref p.1 := rfl
    simp only [hb, hk p hp]
    obtain ⟨its2, r2, tt, _⟩ := I.tuple ht
    exact ⟨⟨p.1, its2.toArray, rfl, tt, by simpa using r2.ints⟩, fun h2 => hne (by have := rv.length; rw [List.length_map] at this; omega)⟩
  · have h3 : ∀ u ∈ out, ∃ a, u = Value.ref a := fun u hu => e2 u (h2.perm.mem_iff.mp hu)
    obtain ⟨n, hn⟩ := hn
    have hb : (out.map backV).Perm (L.map fun p => V.ref p.1) := by
      rw [e1]
      exact h2.perm.map backV
    have hb2 := hb.map fun v => (adOf v, k v)
    have e3 : (L.map fun p => V.ref p.1).map (fun v => (adOf v, k v)) = L := by
      rw [List.map_map]
      conv => rhs; rw [← List.map_id L]
      refine List.map_congr_left fun p hp => ?_
      show (p.1, k (.ref p.1)) = p
      rw [hk p hp]
    rw [e3] at hb2
    have e4 : ((out.map backV).map fun v => (adOf v, k v)).map (fun q => V.ref q.1) = out.map backV := by
      rw [List.map_map, List.map_map]
      refine List.map_congr_left fun u hu => ?_
      obtain ⟨a, rfl⟩ := h3 u hu
      rfl
    have q1 := q ((out.map backV).map fun v => (adOf v, k v)) d hb2 (by
      rw [List.map_map, List.map_map, List.pairwise_map]
      refine h1.imp fun {x y} hxy => ?_
      show Ev.leT (k (backV x)) (k (backV y)) = true
      have hxy : HT.lexLt (k (backV y)) (k (backV x)) = false := hxy
      unfold Ev.leT
      rw [hxy]; rfl) (I.hok.fresh hd)
    rw [e4] at q1
    refine ⟨.ref d, upd H d (.lst (out.map backV)), I.laid (t' := s.toks) kp hd ⟨?_, out, n, vals_back h3, hn⟩, rfl, q1⟩
    rw [hb.length_eq]
    exact hz
end
end L2
namespace Ev
open PySem PySem.Spec PyProof.Rows L2
section
variable {X : Cx} {W : WX} {σ : L2.St} {η : Ad} {H : Hp} {h : Hh} {pos : Pos}
def tupI : D → Option (List Int)
  | .tup l => intsOf l
  | _ => none
def tupsI : List D → Option (List (List Int))
  | [] => some []
  | d :: l => match tupI d, tupsI l with
    | some t, some r => some (t :: r)
    | _, _ => none
def keyS : List (D × D) → Option (List Str)
  | [] => some []
  | (.str k, _) :: l => match keyS l with
    | some r => some (k :: r)
    | none => none
  | _ => none
def srtX (a : List D) (h : Hh) : Res D := match a with
  | [a] => match lstOf a h with
    | some l => (match tupsI l with
      | some ts => if ts.length < 2 ∨ (ts.all fun t => !t.isEmpty) = true then .ok (.lst ((srtT ts).map fun t => .tup (t.map D.int))) h else .stuck
      | none => .stuck)
    | none => match dicOf a h with
      | some l => (match keyS l with
        | some ks => if ks.length < 64 then .ok (.lst ((srtS ks).map D.str)) h else .stuck
        | none => .stuck)
      | none => .stuck
  | _ => .stuck
/-- sorted: ints, dicts by ints, tuples of ints, dicts by texts -/
def srtD (a : List D) (h : Hh) : Res D := match sortD a h with
  | .stuck => srtX a h
  | r => r
def rSrt (K : PySem.W.Frag) : List V → Hp → VK → Prop := fun xs H Q => rSortAll K xs H Q ∨ rSortTI K xs H Q ∨ (∃ (a : Addr) (kvs : List (Key × V)) (ks : List Str), xs = [.ref a] ∧ Rd H a (.dK kvs) ∧ kvs.map (·.1) = ks.map Sum.inr ∧ ks.length < 64 ∧
    ∀ ys p, ys.Perm ks → sortedS ys = true → H p = none → Q (.ref p) (upd H p (.lst (ys.map V.str))))
theorem cr_srt (hc : X.calm = true) : CallR X (.builtin "sorted") (rSrt X.K) := by
  intro pins s σ H x u Q I rx q
  rcases q with q | q | q
  · exact cr_sortAll hc pins s σ H x u Q I rx q
  · exact cr_sortTI pins s σ H x u Q I rx q
  · exact call_sortedD hc pins s σ H x u Q I rx q
theorem rks_strs {K : PySem.W.Frag} : ∀ {l : List (D × D)} {xs : List (Key × V)} {ns : List Str}, RKs K η H l xs → keyS l = some ns → xs.map (·.1) = ns.map Sum.inr
  | [], xs, ns, r, e => by cases r; cases e; rfl
  | (k, d) :: l, xs, ns, r, e => by
    obtain ⟨k', x, q, rfl, ek, _, t⟩ := r
    cases k with
    | str k =>
      unfold keyS at e
      cases e2 : keyS l with
      | none => rw [e2] at e; cases e
      | some r =>
        rw [e2] at e
        cases e
        cases ek
        rw [List.map_cons, List.map_cons, rks_strs t e2]
    | _ => cases e
theorem tupI_eq {d : D} {t : List Int} (e : tupI d = some t) : d = .tup (t.map D.int) := by
  unfold tupI at e
  split at e
  · rename_i l
    rw [← intsOf_eq e]
  · cases e
theorem tupsI_rd {K : PySem.W.Frag} : ∀ {l : List D} {xs : List V} {ts : List (List Int)}, RDs K η H l xs → tupsI l = some ts → ∃ as : List Addr, xs = as.map V.ref ∧ as.length = ts.length ∧ ∀ p ∈ as.zip ts, SqT K H p.1 (p.2.map V.int)
  | [], xs, ts, r, e => by cases r; cases e; exact ⟨[], rfl, rfl, by simp⟩
  | d :: l, xs, ts, r, e => by
    obtain ⟨x, q, rfl, r1, r2⟩ := r
    unfold tupsI at e
    split at e
    · rename_i t rr e1 e2
      cases e
      obtain rfl := tupI_eq e1
      obtain ⟨as, rfl, hl, hp⟩ := tupsI_rd r2 e2
      obtain ⟨a, ys, rfl, s, ri⟩ := r1
      have := RDs.ints ri
      subst this
      refine ⟨a :: as, rfl, by simp [hl], fun p hp' => ?_⟩
      rw [List.zip_cons_cons] at hp'
      rcases List.mem_cons.mp hp' with rfl | hp'
      · exact s
      · exact hp p hp'
    · cases e
theorem zip_back : ∀ {as : List Addr} {ts : List (List Int)}, as.length = ts.length → (as.zip ts).map (fun p => V.ref p.1) = as.map V.ref ∧ (as.zip ts).map (·.2) = ts
  | [], [], _ => ⟨rfl, rfl⟩
  | a :: as, t :: ts, h => by
    have := zip_back (as := as) (ts := ts) (by simpa using h)
    rw [List.zip_cons_cons, List.map_cons, List.map_cons, List.map_cons]
    exact ⟨by rw [this.1], by rw [this.2]⟩
  | [], _ :: _, h => by simp at h
  | _ :: _, [], h => by simp at h
theorem rds_tups {K : PySem.W.Frag} : ∀ {L : List (Addr × List Int)}, (∀ p ∈ L, SqT K H p.1 (p.2.map V.int)) → RDs K η H (L.map fun p => .tup (p.2.map D.int)) (L.map fun p => V.ref p.1)
  | [], _ => rfl
  | p :: L, h => ⟨_, _, rfl, ⟨p.1, _, rfl, h p List.mem_cons_self, RDs.of_ints _⟩, rds_tups fun q hq => h q (List.mem_cons_of_mem _ hq)⟩
theorem cd_srt : CallD X W (rSrt X.K) srtD := by
  intro σ η H h a x Q rh ra p
  unfold srtD at p
  cases es : sortD a h with
  | ok d h1 => rw [es] at p; exact .inl (cd_sort σ η H h a x Q rh ra (by rw [es]; exact p))
  | raise c fs h1 => rw [es] at p; exact .inl (cd_sort σ η H h a x Q rh ra (by rw [es]; exact p))
  | stuck =>
    rw [es] at p
    simp only at p
    unfold srtX at p
    split at p
    · obtain ⟨v, rfl, r⟩ := rds1 ra
      split at p
      · rename_i l el
        split at p
        · rename_i ts et
          split at p
          · rename_i hc
            obtain ⟨c, xs, rfl, s, t⟩ := lstOf_of rh r el
            obtain ⟨as, rfl, hl, hp⟩ := tupsI_rd t et
            obtain ⟨z1, z2⟩ := zip_back hl
            refine .inr (.inl ⟨c, as.zip ts, rfl, by rw [z1]; exact .of s, fun p hp' => ⟨hp p hp', fun h2 => ?_⟩, fun L' q e1 e2 n => ?_⟩)
            · rcases hc with hc | hc
              · rw [List.length_zip] at h2; omega
              · have hm : p.2 ∈ ts := by rw [← z2]; exact List.mem_map.mpr ⟨p, hp', rfl⟩
                have := List.all_eq_true.mp hc _ hm
                intro e
                rw [e] at this
                cases this
            · have e3 : srtT ts = L'.map (·.2) := srtT_of (by have := e1.map (·.2); rw [z2] at this; exact this) e2
              rw [e3, List.map_map] at p
              exact Po.newF p rh (rds_tups fun q hq => hp q (e1.mem_iff.mp hq)) q n
          · exact p.elim
        · exact p.elim
      · split at p
        · rename_i l el
          split at p
          · rename_i ks ek
            split at p
            · rename_i hz
              obtain ⟨c, xs, rfl, s, t⟩ := dicOf_of rh r el
              refine .inr (.inr ⟨c, xs, ks, rfl, .inl s, rks_strs t ek, hz, fun ys q e1 e2 n => ?_⟩)
              rw [← srtS_of e1 (sortedS_pw _ e2)]
              exact Po.newF p rh (rds_strs _) q n
            · exact p.elim
          · exact p.elim
        · exact p.elim
    · exact p.elim
end
end Ev

/-! EvW: dicts whose keys are tuples of any depth. -/
namespace Ev
open PySem PySem.Spec PyProof.Rows L2
section
variable {X : Cx} {W : WX} {σ : L2.St} {η : Ad} {H : Hp} {h : Hh} {pos : Pos} {pins : List (Addr × Obj)} {s : Shared}
mutual
theorem nk_is (I : Inv X pins σ H s) : ∀ (k : D) (nk : NestedKey) (v : V) (u : Value), nkD k = some nk → RD X.K η H k v → RelV v u → NestedIs s.heap nk u
  | .non, nk, v, u, e, r, q => by
    cases (show some NestedKey.none = some nk from by rw [← e, nkD])
    cases r
    cases (show u = .none from q)
    exact .none
  | .bl b, nk, v, u, e, r, q => by
    rw [nkD] at e
    cases e
    cases r
    cases (show u = .bool b from q)
    exact .bool rfl
  | .int i, nk, v, u, e, r, q => by
    rw [nkD] at e
    cases e
    cases r
    obtain ⟨t, rfl⟩ := (show ∃ t, u = .int i t from q)
    exact .int i t
  | .str x, nk, v, u, e, r, q => by
    rw [nkD] at e
    cases e
    cases r
    obtain ⟨t, rfl⟩ := (show ∃ t, u = .str x t from q)
    exact .text x t
  | .tup l, nk, v, u, e, r, q => by
    rw [nkD] at e
    cases el : nkD.nkDs l with
    | none => rw [el] at e; cases e
    | some ks =>
      rw [el] at e
      cases e
      obtain ⟨a, xs, rfl, sq, rds⟩ := r
      cases (show u = .ref a from q)
      obtain ⟨its, rv, ⟨o, h1, h2, n, h3⟩, _⟩ := I.tuple sq
      exact .tup h1 h2 h3 (by simpa using nk_all I l ks xs its el rds rv)
  | .lst l, nk, v, u, e, r, q => by simp [nkD] at e
  | .dic l, nk, v, u, e, r, q => by simp [nkD] at e
  | .scr l, nk, v, u, e, r, q => by simp [nkD] at e
  | .ref l, nk, v, u, e, r, q => by simp [nkD] at e
  | .ty l, nk, v, u, e, r, q => by simp [nkD] at e
  | .ntp l, nk, v, u, e, r, q => by simp [nkD] at e
theorem nk_all (I : Inv X pins σ H s) : ∀ (l : List D) (ks : List NestedKey) (xs : List V) (us : List Value), nkD.nkDs l = some ks → RDs X.K η H l xs → Vals xs us → NestedAll s.heap ks us
  | [], ks, xs, us, e, r, q => by
    rw [nkD.nkDs] at e
    cases e
    cases r
    cases q
    exact .nil
  | d :: l, ks, xs, us, e, r, q => by
    rw [nkD.nkDs] at e
    cases e1 : nkD d with
    | none => rw [e1] at e; cases e
    | some k =>
      cases e2 : nkD.nkDs l with
      | none => rw [e1, e2] at e; cases e
      | some ks' =>
        rw [e1, e2] at e
        cases e
        obtain ⟨x, xr, rfl, r1, r2⟩ := r
        cases q with
        | cons q1 q2 => exact .cons (nk_is I d k x _ e1 r1 q1) (nk_all I l ks' xr _ e2 r2 q2)
end
theorem dn_at {a : Addr} {xs : NL} (I : Inv X pins σ H s) (e : H a = some (dnO X.w a xs)) : ∃ us, NR xs us ∧ rawN X.w a us s.heap := (show ObjOk X.prog X.w H s.heap a (dnO X.w a xs) from I.hok a _ e).1
theorem rns_is (I : Inv X pins σ H s) : ∀ {l : List (D × D)} {xs : NL} {us : NU}, RNs X.K η H l xs → NR xs us → ∀ x ∈ us, (nestedKind X.prog X.w).is s.heap x.1 x.2.1
  | [], xs, us, r, q, x, hx => by
    cases r
    cases q
    cases hx
  | (k, d) :: l, xs, us, r, q, x, hx => by
    obtain ⟨k', b, v, r', rfl, e1, e2, r1, r2, r3⟩ := r
    cases q with
    | @cons _ q _ _ q1 q2 =>
      rcases List.mem_cons.mp hx with rfl | hx
      · obtain ⟨z1, z2, _⟩ := q1
        have z1 : k' = x.1 := z1
        have z2 : b = x.2.1 := z2
        rw [← z1, ← z2]
        exact ⟨nk_is I k k' (.ref b) (.ref b) e1 r1 rfl, e2⟩
      · exact rns_is I r3 q2 x hx
theorem dn_dict {a : Addr} {l : List (D × D)} {xs : NL} {us : NU} (I : Inv X pins σ H s) (r : RNs X.K η H l xs) (q : NR xs us) (w : rawN X.w a us s.heap) : s.heap.DictOfH (nestedKind X.prog X.w) a us := by
  obtain ⟨o, es, ep, h1, h2, h3, h4, h5, _⟩ := w
  exact ⟨o, es, ep, h1, h2, h3, h4, rns_is I r q, h5⟩
def lookN (l : List (D × D)) (k : D) : Option D := (l.find? fun p => decide (nkD p.1 = nkD k)).map (·.2)
theorem lookN_of {K : PySem.W.Frag} {k : D} {nk : NestedKey} (e : nkD k = some nk) : ∀ {l : List (D × D)} {xs : NL} {us : NU}, RNs K η H l xs → NR xs us →
    match lookN l k with
    | some d => ∃ b v u, atKey us nk = some (b, u) ∧ RelV v u ∧ RD K η H d v
    | none => atKey us nk = none
  | [], xs, us, r, q => by
    cases r
    cases q
    exact rfl
  | (k1, d) :: l, xs, us, r, q => by
    obtain ⟨k', b, v, r', rfl, e1, e2, r1, r2, r3⟩ := r
    cases q with
    | @cons _ q _ us' q1 q2 =>
      obtain ⟨z1, z2, z3⟩ := q1
      have z1 : k' = q.1 := z1
      by_cases hk : k' = nk
      · have hd : decide (nkD k1 = nkD k) = true := decide_eq_true (by rw [e1, e, hk])
        have : lookN ((k1, d) :: l) k = some d := by unfold lookN; rw [List.find?_cons_of_pos (p := fun p : D × D => decide (nkD p.1 = nkD k)) (a := (k1, d)) hd]; rfl
        rw [this]
        refine ⟨q.2.1, v, q.2.2, ?_, z3, r2⟩
        unfold atKey
        rw [List.find?_cons_of_pos (p := fun x : NestedKey × Addr × Value => decide (x.1 = nk)) (a := q) (decide_eq_true (by rw [← z1, hk]))]
        rfl
      · have hd : ¬ decide (nkD k1 = nkD k) = true := fun z => hk (Option.some.inj (e1.symm.trans ((of_decide_eq_true z).trans e)))
        have h1 : lookN ((k1, d) :: l) k = lookN l k := by unfold lookN; rw [List.find?_cons_of_neg (p := fun p : D × D => decide (nkD p.1 = nkD k)) (a := (k1, d)) hd]
        have h2 : atKey (q :: us') nk = atKey us' nk := by
          unfold atKey
          rw [List.find?_cons_of_neg]
          simp only [decide_eq_true_eq]
          rw [← z1]
          exact hk
        rw [h1, h2]
        exact lookN_of e r3 q2
def ndOf (d : D) (h : Hh) : Option (Nat × List (D × D)) := match d with
  | .ref n => match h[n]? with
    | some (.dtn l) => some (n, l)
    | _ => none
  | _ => none
theorem ndOf_of {d : D} {v : V} {n : Nat} {l : List (D × D)} (rh : RH X.K X.mg X.w η H h) (r : RD X.K η H d v) (e : ndOf d h = some (n, l)) : ∃ a xs, v = .ref a ∧ η.c[n]? = some a ∧ H a = some (dnO X.w a xs) ∧ RNs X.K η H l xs := by
  cases d with
  | ref m =>
    obtain ⟨a, ea, rfl⟩ := r
    unfold ndOf at e
    simp only at e
    split at e
    · rename_i l' em
      cases e
      obtain ⟨b, eb, xs, q, t⟩ := rh.addr em
      rw [ea] at eb
      cases eb
      exact ⟨a, xs, rfl, ea, q, t⟩
    · cases e
  | _ => cases e
/-- it is a tuple that may be a key -/
def nkT (k : D) : Bool := match k, nkD k with
  | .tup _, some nk => decide (nk.depth ≤ 8)
  | _, _ => false
theorem nkT_of {K : PySem.W.Frag} {k : D} {v : V} (e : nkT k = true) (r : RD K η H k v) : ∃ nk b, nkD k = some nk ∧ nk.depth ≤ 8 ∧ v = .ref b := by
  unfold nkT at e
  split at e
  · rename_i nk ek
    obtain ⟨a, xs, rfl, _⟩ := r
    exact ⟨nk, a, ek, of_decide_eq_true e, rfl⟩
  · cases e
/-! in -/
def memN (a b : D) (h : Hh) : Option Bool := match ndOf b h with
  | some (_, l) => if nkT a = true then some (lookN l a).isSome else none
  | none => none
def inN (a b : D) (h : Hh) : Res D := match memN a b h with
  | some c => .ok (.bl c) h
  | none => .stuck
def ninN (a b : D) (h : Hh) : Res D := match memN a b h with
  | some c => .ok (.bl (!c)) h
  | none => .stuck
def rInN (X : Cx) (neg : Bool) : R2 := fun x y H Q => ∃ (η : Ad) (l : List (D × D)) (k : D) (nk : NestedKey) (b a : Addr) (xs : NL), y = .ref a ∧ x = .ref b ∧ H a = some (dnO X.w a xs) ∧ RNs X.K η H l xs ∧ RD X.K η H k (.ref b) ∧ nkD k = some nk ∧ nk.depth ≤ 8 ∧ Q (.bl (neg != (lookN l k).isSome)) H
theorem look_some {K : PySem.W.Frag} {k : D} {nk : NestedKey} (e : nkD k = some nk) {l : List (D × D)} {xs : NL} {us : NU} (r : RNs K η H l xs) (q : NR xs us) : (atKey us nk).isSome = (lookN l k).isSome := by
  have := lookN_of e r q
  cases el : lookN l k with
  | none => rw [el] at this; rw [this]; rfl
  | some d => rw [el] at this; obtain ⟨b, v, u, e, _⟩ := this; rw [e]; rfl
theorem op_inN (hu : X.A.units + 65 < cLine) : OpR X (compareOp .In) (rInN X false) := by
  intro pins s σ H x y v u Q I rx ry h
  obtain ⟨η, l, k, nk, b, a, xs, rfl, rfl, e, r, rk, ek, dk, q⟩ := h
  cases (show v = .ref b from rx)
  cases (show u = .ref a from ry)
  obtain ⟨us, qr, w⟩ := dn_at I e
  have hm := dn_dict I r qr w
  refine wpAny_in_heap (knd := nestedKind X.prog X.w) (show X.A.in1.units + 8 < cLine by show X.A.units + 1 + 8 < cLine; omega) ⟨nk_is I k nk _ _ ek rk rfl, dk⟩ w.choose_spec.choose_spec.choose_spec.2.2.2.2.2.2 hm ?_
  rw [look_some ek r qr]
  rw [Bool.false_bne] at q
  exact ⟨.bl _, H, I.tok _, rfl, q⟩
theorem op_ninN (hu : X.A.units + 65 < cLine) : OpR X (compareOp .NotIn) (rInN X true) := by
  intro pins s σ H x y v u Q I rx ry h
  obtain ⟨η, l, k, nk, b, a, xs, rfl, rfl, e, r, rk, ek, dk, q⟩ := h
  cases (show v = .ref b from rx)
  cases (show u = .ref a from ry)
  obtain ⟨us, qr, w⟩ := dn_at I e
  have hm := dn_dict I r qr w
  refine wpAny_notIn_heap (knd := nestedKind X.prog X.w) (show X.A.in1.units + 8 < cLine by show X.A.units + 1 + 8 < cLine; omega) ⟨nk_is I k nk _ _ ek rk rfl, dk⟩ w.choose_spec.choose_spec.choose_spec.2.2.2.2.2.2 hm ?_
  rw [look_some ek r qr]
  rw [Bool.true_bne] at q
  exact ⟨.bl _, H, I.tok _, rfl, q⟩
theorem memN_of {neg : Bool} {a b : D} {x y : V} {c : Bool} {Q : VK} (rh : RH X.K X.mg X.w η H h) (ra : RD X.K η H a x) (rb : RD X.K η H b y) (e : memN a b h = some c) (q : Q (.bl (neg != c)) H) : rInN X neg x y H Q := by
  unfold memN at e
  split at e
  · rename_i n l el
    obtain ⟨p, xs, rfl, _, qp, t⟩ := ndOf_of rh rb el
    split at e
    · rename_i hk
      cases e
      obtain ⟨nk, b', ek, dk, rfl⟩ := nkT_of hk ra
      exact ⟨η, l, a, nk, b', p, xs, rfl, rfl, qp, t, ra, ek, dk, q⟩
    · cases e
  · cases e
theorem od_inN : OpD X W (rInN X false) inN := by
  intro σ η H h a b x y Q rh ra rb p
  unfold inN at p
  split at p
  · rename_i c ec
    exact memN_of rh ra rb ec (by rw [Bool.false_bne]; exact Po.scal p rh rfl)
  · exact p.elim
theorem od_ninN : OpD X W (rInN X true) ninN := by
  intro σ η H h a b x y Q rh ra rb p
  unfold ninN at p
  split at p
  · rename_i c ec
    exact memN_of rh ra rb ec (by rw [Bool.true_bne]; exact Po.scal p rh rfl)
  · exact p.elim
/-! d[k] -/
def ixNd (a b : D) (h : Hh) : Res D := match ndOf a h with
  | some (_, l) => if nkT b = true then (match lookN l b with
    | some d => .ok d h
    | none => .stuck) else .stuck
  | none => .stuck
def rIxN (X : Cx) : R2 := fun x y H Q => ∃ (η : Ad) (l : List (D × D)) (k d : D) (nk : NestedKey) (b a : Addr) (xs : NL), x = .ref a ∧ y = .ref b ∧ H a = some (dnO X.w a xs) ∧ RNs X.K η H l xs ∧ RD X.K η H k (.ref b) ∧ nkD k = some nk ∧ nk.depth ≤ 8 ∧ lookN l k = some d ∧ ∀ v, RD X.K η H d v → Q v H
theorem ix_dn (hu : X.A.units + 65 < cLine) : IxR X (rIxN X) := by
  intro value slice pins s σ H x y v u Q I rx ry h hs
  obtain ⟨η, l, k, d, nk, b, a, xs, rfl, rfl, e, r, rk, ek, dk, el, q⟩ := h
  cases (show v = .ref a from rx)
  cases (show u = .ref b from ry)
  obtain ⟨us, qr, w⟩ := dn_at I e
  have hm := dn_dict I r qr w
  have lk := lookN_of ek r qr
  rw [el] at lk
  obtain ⟨b', v, u, e1, rv, rd⟩ := lk
  exact tail_any hm.typeIs PySem.F.slot_dict_getitem.lookup (wpAny_getItem_heap (knd := nestedKind X.prog X.w) (show X.A.in1.units + 8 < cLine by show X.A.units + 1 + 8 < cLine; omega) ⟨nk_is I k nk _ _ ek rk rfl, dk⟩ hm e1 ⟨v, H, I.tok _, rv, q v rd⟩) hs
theorem od_ixN : OpD X W (rIxN X) ixNd := by
  intro σ η H h a b x y Q rh ra rb p
  unfold ixNd at p
  split at p
  · rename_i n l el
    split at p
    · rename_i hk
      split at p
      · rename_i d ed
        obtain ⟨c, xs, rfl, _, qp, t⟩ := ndOf_of rh ra el
        obtain ⟨nk, b', ek, dk, rfl⟩ := nkT_of hk rb
        exact ⟨η, l, b, d, nk, b', c, xs, rfl, rfl, qp, t, rb, ek, dk, ed, fun v rv => Po.scal p rh rv⟩
      · exact p.elim
    · exact p.elim
  · exact p.elim
/-! d[k] = v -/
def putN (l : List (D × D)) (k d : D) : List (D × D) :=
  if (lookN l k).isSome = true then l.map (fun p => if nkD p.1 = nkD k then (p.1, d) else p) else l ++ [(k, d)]
def putX (xs : NL) (nk : NestedKey) (v : V) : NL := xs.map fun x => if x.1 = nk then (x.1, x.2.1, v) else x
theorem rns_put {K : PySem.W.Frag} {k d : D} {nk : NestedKey} {v : V} (e : nkD k = some nk) (rd : RD K η H d v) : ∀ {l : List (D × D)} {xs : NL}, RNs K η H l xs → RNs K η H (l.map fun p => if nkD p.1 = nkD k then (p.1, d) else p) (putX xs nk v)
  | [], xs, r => by cases r; rfl
  | (k1, d1) :: l, xs, r => by
    obtain ⟨k', b, v1, r', rfl, e1, e2, r1, r2, r3⟩ := r
    have ih := rns_put e rd r3
    rw [List.map_cons]
    by_cases hk : k' = nk
    · have : nkD k1 = nkD k := by rw [e1, e, hk]
      simp only [this, if_pos]
      exact ⟨k', b, v, putX r' nk v, by simp [putX, hk], e1, e2, r1, rd, ih⟩
    · have : ¬ nkD k1 = nkD k := fun z => hk (Option.some.inj (e1.symm.trans (z.trans e)))
      simp only [this, if_false]
      exact ⟨k', b, v1, putX r' nk v, by simp [putX, hk], e1, e2, r1, r2, ih⟩
theorem nr_put {nk : NestedKey} {v : V} {u : Value} (rv : RelV v u) {xs : NL} {us : NU} (q : NR xs us) : NR (putX xs nk v) (us.map (putAt nk u)) := by
  induction q with
  | nil => exact .nil
  | @cons p q ps qs hq t ih =>
    obtain ⟨z1, z2, z3⟩ := hq
    have e1 : putX (p :: ps) nk v = (if p.1 = nk then (p.1, p.2.1, v) else p) :: putX ps nk v := rfl
    rw [e1, List.map_cons]
    refine .cons ?_ ih
    unfold putAt
    by_cases hk : p.1 = nk
    · rw [if_pos hk, if_pos (z1 ▸ hk)]
      exact ⟨z1, z2, rv⟩
    · rw [if_neg hk, if_neg (z1 ▸ hk)]
      exact ⟨z1, z2, z3⟩
theorem rns_app {K : PySem.W.Frag} {k d : D} {nk : NestedKey} {b : Addr} {v : V} (e : nkD k = some nk) (dk : nk.depth ≤ 8) (rk : RD K η H k (.ref b)) (rd : RD K η H d v) : ∀ {l : List (D × D)} {xs : NL}, RNs K η H l xs → RNs K η H (l ++ [(k, d)]) (xs ++ [(nk, b, v)])
  | [], xs, r => by cases r; exact ⟨nk, b, v, [], rfl, e, dk, rk, rd, rfl⟩
  | (k1, d1) :: l, xs, r => by
    obtain ⟨k', b1, v1, r', rfl, e1, e2, r1, r2, r3⟩ := r
    exact ⟨k', b1, v1, r' ++ [(nk, b, v)], rfl, e1, e2, r1, r2, rns_app e dk rk rd r3⟩
theorem put_of {K : PySem.W.Frag} {k d : D} {nk : NestedKey} {b : Addr} {v : V} {u : Value} (e : nkD k = some nk) (dk : nk.depth ≤ 8) (rk : RD K η H k (.ref b)) (rd : RD K η H d v) (rv : RelV v u) {l : List (D × D)} {xs : NL} {us : NU} (r : RNs K η H l xs) (q : NR xs us) :
    ∃ ys, RNs K η H (putN l k d) ys ∧ NR ys (storedH us nk b u) := by
  have hs := look_some e r q
  unfold putN storedH
  rw [hs]
  by_cases h : (lookN l k).isSome = true
  · rw [if_pos h, if_pos h]
    exact ⟨_, rns_put e rd r, nr_put rv q⟩
  · rw [if_neg h, if_neg h]
    exact ⟨_, rns_app e dk rk rd r, Paired.snoc q ⟨rfl, rfl, rv⟩⟩
theorem rns_len {K : PySem.W.Frag} : ∀ {l : List (D × D)} {xs : NL}, RNs K η H l xs → xs.length = l.length
  | [], xs, r => by cases r; rfl
  | (k, d) :: l, xs, r => by
    obtain ⟨k', b, v, r', rfl, _, _, _, _, t⟩ := r
    rw [List.length_cons, List.length_cons, rns_len t]
theorem putN_len (l : List (D × D)) (k d : D) : (putN l k d).length ≤ l.length + 1 := by
  unfold putN
  split
  · rw [List.length_map]; omega
  · rw [List.length_append]; exact Nat.le_refl _
theorem objok_dn {P : Program} {w : World} {h' : Heap} {a : Addr} {xs : NL} {us : NU} (q : NR xs us) (r : rawN w a us h') : ObjOk P w H h' a (dnO w a xs) := by
  refine ⟨⟨us, q, r⟩, ?_, ?_⟩
  · obtain ⟨o, _, _, e, _⟩ := r
    exact ⟨o, e⟩
  · rintro h1 h2 ⟨us, q, o, es, ep, e, z⟩ k
    exact ⟨us, q, o, es, ep, k o e, z⟩
def rSetN (X : Cx) : V → V → V → Hp → (Hp → Prop) → Prop := fun o i v H Q => ∃ (η : Ad) (l : List (D × D)) (k d : D) (nk : NestedKey) (b a : Addr) (xs : NL), o = .ref a ∧ i = .ref b ∧ H a = some (dnO X.w a xs) ∧ RNs X.K η H l xs ∧ RD X.K η H k (.ref b) ∧ RD X.K η H d v ∧ nkD k = some nk ∧ nk.depth ≤ 8 ∧ l.length < sizeLine ∧ ∀ ys, RNs X.K η H (putN l k d) ys → Q (upd H a (dnO X.w a ys))
theorem set_dn (hu : X.A.units + 65 < cLine) : PSet X (rSetN X) := by
  intro pins s σ H o i v ov iv u Q I ro ri rv h
  obtain ⟨η, l, k, d, nk, b, a, xs, rfl, rfl, e, r, rk, rd, ek, dk, hl, q⟩ := h
  cases (show ov = .ref a from ro)
  cases (show iv = .ref b from ri)
  obtain ⟨us, qr, w⟩ := dn_at I e
  have hm := dn_dict I r qr w
  obtain ⟨ys, r2, q2⟩ := put_of ek dk rk rd rv r qr
  have hlu : us.length = l.length := by rw [← Paired.length qr, rns_len r]
  have hls : (storedH us nk b u).length ≤ sizeLine := by
    have := putN_len l k d
    rw [← Paired.length q2, rns_len r2]
    omega
  have hsys := w.choose_spec.choose_spec.choose_spec.2.2.2.2.2.2
  refine wpAny_setItem_heap (knd := nestedKind X.prog X.w) (hsz := by omega) (show X.A.in1.units + 8 < cLine by show X.A.units + 1 + 8 < cLine; omega) ⟨nk_is I k nk _ _ ek rk rfl, dk⟩ hm fun h' dd' hs => ⟨_, ?_, q ys r2⟩
  obtain ⟨z, es, ep, hz, h2, h3, h4, _, h5⟩ := dd'
  exact d_write I (by rw [e]; exact True.intro) hs ⟨z, hz⟩ (objok_dn q2 ⟨z, es, ep, hz, h2, h3, h4, h5, hls, hsys⟩)
def putNO (o i v : D) (h : Hh) : Option Hh := match ndOf o h with
  | some (n, l) => if nkT i = true ∧ l.length < sizeLine then some (h.set n (.dtn (putN l i v))) else none
  | none => none
theorem putNO_of {o i v : D} {x y z : V} {h' : Hh} {Q : Hp → Prop} (rh : RH X.K X.mg X.w η H h) (ro : RD X.K η H o x) (ri : RD X.K η H i y) (rv : RD X.K η H v z) (e : putNO o i v h = some h') (q : ∀ H', Step η H η H' → RH X.K X.mg X.w η H' h' → Q H') : rSetN X x y z H Q := by
  unfold putNO at e
  split at e
  · rename_i n l el
    obtain ⟨a, xs, rfl, ea, s, t⟩ := ndOf_of rh ro el
    split at e
    · rename_i hk
      cases e
      obtain ⟨nk, b, ek, dk, rfl⟩ := nkT_of hk.1 ri
      refine ⟨η, l, i, v, nk, b, a, xs, rfl, rfl, s, t, ri, rv, ek, dk, hk.2, fun ys r => ?_⟩
      have st : Step η H η (upd H a (dnO X.w a ys)) := rh.updS ea s trivial
      exact q _ st (rh.set ea s trivial ⟨ys, upd_same, RNs.stw st.toStw _ _ r⟩)
    · cases e
  · cases e
def putNS (m mo mi : EM D) : SS := fun ρ h => toS (m ρ h) ρ fun v h1 => toS (mo ρ h1) ρ fun o h2 => toS (mi ρ h2) ρ fun i h3 => match putNO o i v h3 with
  | some h4 => .nx ρ h4
  | none => .stuck
theorem ms_putN (g : GX X W) {o i e : Expr} {m mo mi : EM D} {pos' : Pos} (he : ME X W e m) (ho : ME X W o mo) (hi : ME X W i mi)
    (ha : ∀ v, assign (.Subscript o i pos') X.env v = (do
      let ov ← holding [v] (eval o X.env)
      let iv ← holding [v, ov] (eval i X.env)
      standAt pos'
      holding [v, ov, iv] (setItem ov iv v)
      release [v, ov, iv] []) := by intro _; rfl)
    (hs : swapsWithSole [.Subscript o i pos'] e pos.line X.env = pure false := by rfl) (hw : swappedStores [.Subscript o i pos'] e X.env = pure none := by rfl)
    (h1 : (assignEach [.Subscript o i pos'] X.env).map (·.2) = [assign (.Subscript o i pos') X.env] := by rfl) : MS X W (.Assign [.Subscript o i pos'] e pos) (putNS m mo mi) :=
  ⟨PS.wk (ps_asg he.pe (pg_sub ho.pe hi.pe (set_dn (by have := g.un; omega)) ha) hs hw h1) fun E σ H q => by
  obtain ⟨ρ, η, h, rs, rh, p⟩ := q
  refine tM.mono (fun x H1 ⟨d, η1, h1, s1, r1, q1, p1⟩ => ?_) (PoS.seq (R1 := rD X) rs rh p)
  have rs1 := rs.step s1
  refine tM.mono (fun y H2 ⟨o', η2, h2, s2, r2, q2, p2⟩ => ?_) (PoS.seq (R1 := rD X) rs1 r1 p1)
  have rs2 := rs1.step s2
  refine tM.mono (fun z H3 ⟨i', η3, h3, s3, r3, q3, p3⟩ => ?_) (PoS.seq (R1 := rD X) rs2 r2 p2)
  have rs3 := rs2.step s3
  cases ep : putNO o' i' d h3 with
  | none => rw [ep] at p3; exact p3.elim
  | some h4 =>
    rw [ep] at p3
    exact putNO_of r3 (RD.step s3 _ _ q2) q3 (RD.step (s2.trans s3) _ _ q1) ep fun H' st r4 => p3 σ η3 H' st (rs3.step st) r4⟩
/-! {} -/
theorem dn_new (w : World) (h : Heap) (hb : sysModules < h.objs.size) : rawN w h.objs.size [] (h.push { cls := .type "dict", data := .dict #[] }) :=
  ⟨_, #[], 0, Heap.get?_push_size _ rfl, ⟨rfl, rfl, rfl⟩, rfl, rfl, List.nodup_nil, Nat.zero_le _, beq_eq_false_iff_ne.mpr (Ne.symm (Nat.ne_of_lt hb))⟩
def tDNewN (X : Cx) : TE := fun _ H Q => ∀ p, H p = none → Q (.ref p) (upd H p (dnO X.w p []))
theorem pe_dnewN : PE X (.Dict [] [] pos) (tDNewN X) := ⟨fun pins s σ H Q I h =>
  wpAny_Dict_empty ⟨.ref s.heap.objs.size, _, I.laid (a := s.heap.objs.size) (o := dnO X.w s.heap.objs.size []) (t' := s.toks) (fun _ _ q => Heap.get?_push_of_some _ q) (Nat.le_refl _) (objok_dn .nil (dn_new X.w s.heap I.big)), rfl, h _ (I.hok.fresh (Nat.le_refl _))⟩⟩
def newN (h : Hh) : Res D := .ok (.ref h.length) (h ++ [.dtn []])
def dicN : EM D := fun _ h => newN h
theorem newNR {p : Addr} (n : H p = none) (rh : RH X.K X.mg X.w η H h) :
    RH X.K X.mg X.w (η.push p) (upd H p (dnO X.w p [])) (h ++ [.dtn []]) ∧ RD X.K (η.push p) (upd H p (dnO X.w p [])) (.ref h.length) (.ref p) :=
  ⟨rh.alloc n ⟨[], upd_same, rfl⟩, p, by show (η.c ++ [p])[h.length]? = _; rw [← rh.len]; simp, rfl⟩
theorem me_dicN : ME X W (.Dict [] [] pos) dicN := ⟨PE.wk pe_dnewN fun σ H Q q => by
  obtain ⟨ρ, η, h, rs, rh, p⟩ := q
  intro a n
  have p : Po X W (rD X) σ η H (newN h) Q := p
  exact p _ _ _ (rh.allocS n) (newNR n rh).1 (newNR n rh).2⟩
end
/-! {k: v} -/
section
variable {X : Cx} {W : WX} {σ : L2.St} {η : Ad} {H : Hp} {h : Hh} {pos : Pos} {pins : List (Addr × Obj)} {s : Shared}
variable {K : PySem.W.Frag} {mg : Str → Option Value} {w : World}
theorem Stw.grownM {θ : Ad} {p : Addr} {u o : HO} (m : mutO u) (e : H p = some u) : Stw (θ.hide p) H (θ.hide p) (L2.upd H p o) where
  pre := ⟨[], by simp⟩
  new := fun _ h => .inl h
  keep := fun a o hn q => by
    have ne : a ≠ p := fun z => hn (In_hide.mpr (.inr z))
    rw [upd_ne ne]
    exact q
  tup := fun a zs h => by
    have ne : a ≠ p := fun z => by
      subst z
      rcases h with h | ⟨o, h⟩
      · rw [e] at h; cases h; exact m
      · rw [e] at h; cases h; exact m
    rcases h with h | ⟨o, h⟩
    · exact .inl (by rw [upd_ne ne]; exact h)
    · exact .inr ⟨o, by rw [upd_ne ne]; exact h⟩
theorem Step.grownM {θ : Ad} {H1 : Hp} {p : Addr} {u o : HO} (s : Step η H1 θ H) (n : H1 p = none) (hd : ∀ b ∈ η.d, ∃ u, H1 b = some u) (m : mutO u) (e : H p = some u) : Step η H1 θ (L2.upd H p o) where
  pre := s.pre
  new := s.new
  keep := fun a o hn q => by
    rw [upd_ne (ne_of_none q n)]
    exact s.keep a o hn q
  tup := fun a zs h => (Stw.grownM (θ := θ) m e).tup a zs (s.tup a zs h)
  hid := s.hid
  kh := fun a ha => by
    obtain ⟨zs, q⟩ := hd a ha
    rw [upd_ne (ne_of_none q n)]
    exact s.kh a ha
theorem RH.grownM {h : Hh} {θ : Ad} {p : Addr} {u o : HO} (r : RH K mg w (θ.hide p) H h) (m : mutO u) (e : H p = some u) : RH K mg w (θ.hide p) (L2.upd H p o) h where
  len := r.len
  nd := r.nd
  ap := r.ap
  hid := fun a ha => by
    by_cases q : a = p
    · rw [q, upd_same]
      exact ⟨_, rfl⟩
    · rw [upd_ne q]
      exact r.hid a ha
  ob := fun i b o' e1 e2 => by
    have ne : b ≠ p := fun z => r.ap b (mem_of_at e1) (by rw [z]; exact List.mem_cons_self)
    exact (r.ob i b o' e1 e2).stw (.grownM m e) fun u q => by rw [upd_ne ne]; exact q
theorem Stw.hiddenM {p : Addr} {o : HO} (n : H p = none) : Stw η H (η.hide p) (L2.upd H p o) where
  pre := ⟨[], by simp [Ad.hide]⟩
  new := fun b hb => by
    rcases In_hide.mp hb with h | h
    · exact .inl h
    · rw [h]
      exact .inr n
  keep := fun a o _ q => by
    rw [upd_ne (ne_of_none q n)]
    exact q
  tup := fun a zs h => by
    rcases h with h | ⟨o, h⟩
    · exact .inl (by rw [upd_ne (ne_of_none h n)]; exact h)
    · exact .inr ⟨o, by rw [upd_ne (ne_of_none h n)]; exact h⟩
theorem RH.hiddenM {h : Hh} {p : Addr} {o : HO} (r : RH K mg w η H h) (n : H p = none) : RH K mg w (η.hide p) (L2.upd H p o) h where
  len := r.len
  nd := r.nd
  ap := fun a ha z => by
    rcases List.mem_cons.mp z with z | z
    · exact r.nin n (.inl (z ▸ ha))
    · exact r.ap a ha z
  hid := fun a ha => by
    rcases List.mem_cons.mp ha with z | z
    · rw [z, upd_same]
      exact ⟨_, rfl⟩
    · obtain ⟨ys, q⟩ := r.hid a z
      exact ⟨ys, by rw [upd_ne (ne_of_none q n)]; exact q⟩
  ob := fun i b o e1 e2 => by
    obtain ⟨u, eu, _⟩ := (r.ob i b o e1 e2).mut
    exact (r.ob i b o e1 e2).stw (Stw.hiddenM n) fun u q => by rw [upd_ne (ne_of_none q n)]; exact q
theorem fin_newN : ∀ (σ : L2.St) (η θ : Ad) (H1 H : Hp) (h : Hh) (p : Addr) (l : List (D × D)) (xs : NL) (Q : VK), Step η H1 θ H → H1 p = none → ¬ θ.In p → RH X.K X.mg X.w (θ.hide p) H h → H p = some (dnO X.w p xs) → RNs X.K (θ.hide p) H l xs → Po X W (rD X) σ η H1 (.ok (.ref h.length) (h ++ [.dtn l])) Q → Q (.ref p) H :=
  fun σ η θ H1 H h p l xs Q s n i r e t q => by
  have sw : Stw (θ.hide p) H (θ.push p) H := ⟨⟨[p], rfl⟩, fun b hb => by
    rcases hb with z | z
    · rcases List.mem_append.mp z with z | z
      · exact .inl (.inl z)
      · exact .inl (In_hide.mpr (.inr (List.mem_singleton.mp z)))
    · exact .inl (In_hide.mpr (.inl (.inr z))), fun _ _ _ z => z, fun _ _ z => z⟩
  have st : Step η H1 (θ.push p) H := ⟨⟨by
    obtain ⟨z, ez⟩ := s.pre
    exact ⟨z ++ [p], by show θ.c ++ [p] = _; rw [ez, List.append_assoc]⟩, fun b hb => by
    rcases hb with z | z
    · rcases List.mem_append.mp z with z | z
      · exact s.new b (.inl z)
      · rw [List.mem_singleton.mp z]
        exact .inr n
    · exact s.new b (.inr z), s.keep, s.tup⟩, s.hid, s.kh⟩
  refine q (.ref p) (θ.push p) H st ⟨?_, ?_, ?_, ?_, ?_⟩ ⟨p, ?_, rfl⟩
  · show (θ.c ++ [p]).length = _
    rw [List.length_append, List.length_append, r.shown.len]
    rfl
  · show (θ.c ++ [p]).Nodup
    rw [List.nodup_append]
    refine ⟨r.nd, by simp, fun x hx y hy => ?_⟩
    rw [List.mem_singleton.mp hy]
    exact fun z => i (.inl (z ▸ hx))
  · intro b hb
    rcases List.mem_append.mp hb with z | z
    · exact r.shown.ap b z
    · rw [List.mem_singleton.mp z]
      exact fun w => i (.inr w)
  · exact fun b hb => r.shown.hid b hb
  · intro j b o e1 e2
    have e1 : (θ.c ++ [p])[j]? = some b := e1
    have hlen := r.shown.len
    by_cases q : j < θ.c.length
    · rw [List.getElem?_append_left q] at e1
      rw [List.getElem?_append_left (by rw [← hlen]; exact q)] at e2
      exact (r.ob j b o e1 e2).stw sw fun _ z => z
    · rw [List.getElem?_append_right (by omega)] at e1
      rw [List.getElem?_append_right (by omega)] at e2
      rw [hlen] at e1
      have h0 : j - h.length = 0 := by
        have := (List.getElem?_eq_some_iff.mp e1).1
        simpa using this
      rw [h0] at e1 e2
      cases e1
      cases e2
      exact ⟨xs, e, RNs.stw sw _ _ t⟩
  · show (θ.c ++ [p])[h.length]? = _
    rw [← r.shown.len]
    simp
theorem Po.partW {X : Cx} {W W' : WX} {α β γ δ : Type} {R1 : α → β → Ad → Hp → Prop} {Rz : γ → δ → Ad → Hp → Prop} {m : EM α} {ρ : Env} {k : α → Hh → Res γ} {Q : δ → Hp → Prop} {σ σ' : L2.St} {η η1 : Ad} {H H1 : Hp} {h : Hh} (rs : RS X.K η H σ' ρ) (rh : RH X.K X.mg X.w η H h)
    (p : Po X W Rz σ η1 H1 ((nrR (m ρ h)).bind k) Q) : tM X W' R1 m σ' H fun b H2 => ∃ a η2 h2, Step η H η2 H2 ∧ RH X.K X.mg X.w η2 H2 h2 ∧ R1 a b η2 H2 ∧ Po X W Rz σ η1 H1 (k a h2) Q := by
  refine ⟨ρ, η, h, rs, rh, ?_⟩
  cases em : m ρ h with
  | ok a h2 =>
    rw [em] at p
    intro b η2 H2 s r q
    exact ⟨a, η2, h2, s, r, q, p⟩
  | raise c fs h2 => rw [em] at p; exact p.elim
  | stuck => rw [em] at p; exact p.elim
def tDispN (X : Cx) (tk tv : TE) : TE := fun σ H Q => ∀ p, H p = none → tk σ (upd H p (dnO X.w p [])) fun x H1 => tv σ H1 fun y H2 => H2 p = some (dnO X.w p []) ∧
  ∃ (η : Ad) (k : D) (nk : NestedKey) (b : Addr), x = .ref b ∧ RD X.K η H2 k (.ref b) ∧ nkD k = some nk ∧ nk.depth ≤ 8 ∧ Q (.ref p) (upd H2 p (dnO X.w p [(nk, b, y)]))
theorem pe_dispN {k v : Expr} {tk tv : TE} (hk : PE X k tk) (hv : PE X v tv) (hu : X.A.units + 65 < cLine) : PE X (.Dict [some k] [v] pos) (tDispN X tk tv) := by
  refine ⟨fun pins s σ H Q I q => ?_⟩
  have hn := I.hok.fresh (Nat.le_refl s.heap.objs.size)
  have I1 := I.laid (a := s.heap.objs.size) (o := dnO X.w s.heap.objs.size []) (h' := s.heap.push { cls := .type "dict", data := .dict #[] }) (t' := s.toks) (fun _ _ q => Heap.get?_push_of_some _ q) (Nat.le_refl _) (objok_dn .nil (dn_new X.w s.heap I.big))
  rw [arm_eval_Dict, zip_pairTrees [some k] [v] X.env pos rfl rfl, dictDisplay_pairs (pairTrees [some k] [v] X.env pos) (by intro e; cases e) (show 1 < 17 by decide)]
  refine wpAny_bind (wpAny_standAt (wpAny_bind (wpAny_subDictH (knd := nestedKind X.prog X.w) (Q := fun d s' => wpAny (model X.prog X.w) X.A (pure (Value.ref d)) (EP X pins σ Q) X.xe s') (show X.A.units + 8 < cLine by omega) (show 1 ≤ 15 by decide) ?_)))
  refine pairTrees_cons_walk (thn (hk.run pins _ σ _ _ I1 (q _ hn)) fun u s1 ⟨x, H1, I2, rx, q1⟩ => thn (hv.run pins s1 σ H1 _ I2 q1) fun u2 s2 ⟨y, H2, I3, ry, q2⟩ => pairTrees_nil_walk ?_)
  obtain ⟨e, η, kd, nk, b, rfl, rk, ek, dk, q3⟩ := q2
  cases (show u = .ref b from rx)
  obtain ⟨us, qr, wr⟩ := dn_at I3 e
  cases qr
  have hm := dn_dict (η := η) (l := []) I3 rfl .nil wr
  have hsys := wr.choose_spec.choose_spec.choose_spec.2.2.2.2.2.2
  have hkey : (nestedKind X.prog X.w).is s2.heap nk b := ⟨nk_is I3 kd nk _ _ ek rk rfl, dk⟩
  refine ⟨[(nk, b, u2)], ⟨rfl, rfl, hkey, trivial⟩, hm, fun h' tk dd' hs => wpAny_pure ⟨.ref s.heap.objs.size, _, ?_, rfl, q3⟩⟩
  obtain ⟨z, es, ep, hz, h2, h3, h4, _, h5⟩ := dd'
  exact d_write I3 (by rw [e]; exact True.intro) hs ⟨z, hz⟩ (objok_dn (us := [(nk, b, u2)]) (.cons ⟨rfl, rfl, ry⟩ .nil) ⟨z, es, ep, hz, h2, h3, h4, h5, show 1 ≤ sizeLine by rw [sizeLine_eq]; decide, hsys⟩)
def dspN (mk mv : EM D) : EM D := fun ρ h => (nrR (mk ρ h)).bind fun k h1 => (nrR (mv ρ h1)).bind fun v h2 => if nkT k = true then .ok (.ref h2.length) (h2 ++ [.dtn [(k, v)]]) else .stuck
theorem me_dispN (gx : GX X W) {k v : Expr} {mk mv : EM D} (hk : ME X W k mk) (hv : ME X W v mv) : ME X W (.Dict [some k] [v] pos) (dspN mk mv) := ⟨PE.wk (pe_dispN hk.pe hv.pe gx.un) fun σ H Q q => by
  obtain ⟨ρ, η, h, rs, rh, p⟩ := q
  intro pD nD
  have p : Po X W (rD X) σ η H ((nrR (mk ρ h)).bind fun k h1 => (nrR (mv ρ h1)).bind fun v h2 => if nkT k = true then .ok (.ref h2.length) (h2 ++ [.dtn [(k, v)]]) else .stuck) Q := p
  have st0 : Step η H η (upd H pD (dnO X.w pD [])) := rh.new1S nD
  have rs1 : RS X.K (η.hide pD) (upd H pD (dnO X.w pD [])) σ ρ := rs.stw (Stw.hiddenM nD)
  refine tM.mono (fun x H1 ⟨kd, η1, h1, s1, r1, q1, p1⟩ => ?_) (Po.partW (R1 := rD X) rs1 (rh.hiddenM nD) p)
  obtain ⟨θ1, rfl, st1⟩ := st0.under nD s1
  refine tM.mono (fun y H2 ⟨vd, η2, h2, s2, r2, q2, p2⟩ => ?_) (Po.partW (R1 := rD X) (rs1.step s1) r1 p1)
  obtain ⟨θ2, rfl, st2⟩ := st1.under nD s2
  have e2 : H2 pD = some (dnO X.w pD []) := by
    rw [s2.kh pD List.mem_cons_self, s1.kh pD List.mem_cons_self]
    exact upd_same
  split at p2
  · rename_i hkt
    have rk : RD X.K (θ2.hide pD) H2 kd x := RD.step s2 _ _ q1
    obtain ⟨nk, b, ek, dk, rfl⟩ := nkT_of hkt rk
    refine ⟨e2, θ2.hide pD, kd, nk, b, rfl, rk, ek, dk, ?_⟩
    have nin : ¬ θ2.In pD := fun z => by
      rcases st2.new pD z with z | z
      · exact rh.nin nD z
      · rcases ‹θ2.In pD› with w | w
        · exact r2.ap pD w List.mem_cons_self
        · rw [st2.hid] at w
          obtain ⟨ys, y⟩ := rh.hid pD w
          rw [nD] at y
          cases y
    have mu : mutO (dnO X.w pD []) := trivial
    have sg : Stw (θ2.hide pD) H2 (θ2.hide pD) (upd H2 pD (dnO X.w pD [(nk, b, y)])) := Stw.grownM mu e2
    exact fin_newN σ η θ2 H _ h2 pD [(kd, vd)] [(nk, b, y)] Q (st2.grownM nD rh.hid mu e2) nD nin (r2.grownM mu e2) upd_same ⟨nk, b, y, [], rfl, ek, dk, RD.stw sg _ _ rk, RD.stw sg _ _ q2, rfl⟩ p2
  · exact p2.elim⟩
end
section
variable {X : Cx} {W : WX} {a b : Expr} {ma mb : EM D} {pos : Pos}
theorem me_inN (gx : GX X W) (ha : ME X W a ma) (hb : ME X W b mb) (hm : behindInMarks .In b = false := by rfl) : ME X W (.Compare a [.In] [b] pos) (binE inN ma mb) := me_cmpR (op_inN (by have := gx.un; omega)) od_inN ha hb hm
theorem me_ninN (gx : GX X W) (ha : ME X W a ma) (hb : ME X W b mb) (hm : behindInMarks .NotIn b = false := by rfl) : ME X W (.Compare a [.NotIn] [b] pos) (binE ninN ma mb) := me_cmpR (op_ninN (by have := gx.un; omega)) od_ninN ha hb hm
theorem mt_inN (gx : GX X W) (ha : ME X W a ma) (hb : ME X W b mb) (hm : behindInMarks .In b = false := by rfl) : MT X W (.Compare a [.In] [b] pos) (tstE (binE inN ma mb)) := mt_cmpR (op_inN (by have := gx.un; omega)) od_inN ha hb hm
theorem mt_ninN (gx : GX X W) (ha : ME X W a ma) (hb : ME X W b mb) (hm : behindInMarks .NotIn b = false := by rfl) : MT X W (.Compare a [.NotIn] [b] pos) (tstE (binE ninN ma mb)) := mt_cmpR (op_ninN (by have := gx.un; omega)) od_ninN ha hb hm
theorem me_sub_ixN (gx : GX X W) (ha : ME X W a ma) (hb : ME X W b mb) (hs : PlainIx b := by exact fun _ _ => rfl) : ME X W (.Subscript a b pos) (binE ixNd ma mb) := me_ix (ix_dn (by have := gx.un; omega)) od_ixN ha hb hs
end
end Ev

/-! EvH: where an exception is handled: defs called within a suite. -/
namespace Ev
open PySem PySem.Spec PyProof.Rows L2
open L2H (HotC Hot1 RoomH PinOk FnH cxH PIH)
section
variable {X : Cx} {W : WX} {σ : L2.St} {η : Ad} {H : Hp} {h : Hh} {pos : Pos} {E : Ends} {e a b : Expr} {es : List Expr}
structure MIH (X : Cx) (W : WX) (tg e : Expr) (m : EM IT) : Prop where
  pi : PIH X tg e (tM X W (Wk X) m)
theorem PIH.wk {tg e : Expr} {t t' : TI} (h : PIH X tg e t) (i : ∀ σ H R, t' σ H R → t σ H R) : PIH X tg e t' := ⟨fun pins s σ H R I q => h.run pins s σ H R I (i σ H R q)⟩
theorem mi_range1H {tg : Expr} {p : Pos} {ms : EM (List D)} (hg : Gl X "range") (hm : X.mg "range" = none) (ha : MA X W [a] ms) (hs : starEach [a] X.env = [(false, eval a X.env)] := by rfl) : MIH X W tg (.Call (.Name "range" p) [a] [] pos) (rngI ms) :=
  ⟨PIH.wk (L2H.pi_range1H hg hm ha.pa hs) fun σ H R q => by
  refine tM.mono (fun xs H1 ⟨l, η1, h1, r1, q1, hl, p1⟩ => ?_) (tMI.args ha q)
  unfold rngD at p1
  split at p1
  · rename_i j
    obtain ⟨v, rfl, r⟩ := rds1 q1
    cases r
    split at p1
    · rename_i hz
      unfold i62 at hz
      exact ⟨j, rfl, by omega, by omega, p1 _ η1 H1 (.refl _ _) r1 wkR⟩
    · exact p1.elim
  · cases hl
  · exact p1.elim⟩
theorem ms_forH (gx : GU X W) (hc : HotC X) {tg iter : Expr} {body : List Stmt} {mi : EM IT} {g : GM} {m : SS} (hi : MIH X W tg iter mi) (hg : MG X tg g) (hb : MB X W body m) (hs : ∀ x, foldedSetIterable iter X.env x = pure x := by intro _; rfl) :
    MS X W (.For tg iter body [] pos) (forS mi g m) := ⟨PS.wk (L2H.ps_forH gx.po hc hi.pi hg.pg hb.ps hs) fun E σ H q => by
  obtain ⟨ρ, η, h, rs, rh, p⟩ := q
  refine tM.mono (fun J H1 ⟨it, η1, h1, s1, r1, q1, p1⟩ => ?_) (PoS.seq (R1 := Wk X) rs rh p)
  refine ⟨fun i k σ H => ∃ ρ η h, Step η1 H1 η H ∧ RS X.K η H σ ρ ∧ RH X.K X.mg X.w η H h ∧ i + k = it.items.length ∧ PoS X W η H (loopS it.chk g m (it.items.drop i) ρ h) E, ⟨it.items.length, ρ, η1, h1, .refl _ _, rs.step s1, r1, Nat.zero_add _, p1⟩, ?_⟩
  rintro i k σ H ⟨ρ, η, h, st, rs, rh, ei, p⟩
  cases ed : it.items.drop i with
  | nil =>
    rw [ed] at p
    unfold loopS at p
    split at p
    · rename_i hc
      have hi : i = it.items.length := by
        have := congrArg List.length ed
        rw [List.length_drop, List.length_nil] at this
        omega
      subst hi
      exact .inl ⟨(q1 η H h st.toStw rh hc).1, p σ η H (.refl _ _) rs rh⟩
    · exact p.elim
  | cons d l =>
    rw [ed] at p
    unfold loopS at p
    split at p
    · rename_i hc
      have hl : i < it.items.length := by
        have := congrArg List.length ed
        rw [List.length_drop, List.length_cons] at this
        omega
      have hd : it.items[i]? = some d ∧ it.items.drop (i + 1) = l := by
        rw [List.drop_eq_getElem_cons hl] at ed
        injection ed with e1 e2
        exact ⟨by rw [List.getElem?_eq_getElem hl, e1], e2⟩
      obtain ⟨go, yl⟩ := (q1 η H h st.toStw rh hc).2 i d hd.1
      refine .inr ⟨go, fun σ' H' => ∃ ρ η h, Step η1 H1 η H' ∧ RS X.K η H' σ' ρ ∧ RH X.K X.mg X.w η H' h ∧ PoS X W η H' (loopS it.chk g m l ρ h) E, fun σ' H' ⟨ρ, η, h, a1, a2, a3, a4⟩ => ⟨k - 1, by omega, ρ, η, h, a1, a2, a3, by omega, by rw [hd.2]; exact a4⟩, fun x H' y => ?_⟩
      obtain ⟨sm, rd⟩ := yl x H' y
      obtain ⟨s2, r2⟩ := rh.same sm
      refine ⟨ρ, η, h, d, rs.step s2, r2, rd, ?_⟩
      cases eg : g d ρ with
      | none => rw [eg] at p; exact p
      | some ρ1 =>
        rw [eg] at p
        intro σ1 rs1
        refine ⟨ρ1, η, h, rs1, r2, ?_⟩
        simp only at p
        cases em : m ρ1 h with
        | nx ρ2 h2 => rw [em] at p; exact fun σ' η' H' s a b => ⟨ρ2, η', h2, (st.trans s2).trans s, a, b, (p.step s2).step s⟩
        | ct ρ2 h2 => rw [em] at p; exact fun σ' η' H' s a b => ⟨ρ2, η', h2, (st.trans s2).trans s, a, b, (p.step s2).step s⟩
        | bk ρ2 h2 =>
          rw [em] at p
          have p : PoS X W η H (.nx ρ2 h2) E := p
          exact fun σ' η' H'' s a b => p σ' η' H'' (s2.trans s) a b
        | ret d h2 => rw [em] at p; exact PoS.step (r := .ret d h2) (E := E) s2 p
        | rs c fs ρ2 h2 => rw [em] at p; exact PoS.step (r := .rs c fs ρ2 h2) (E := E) s2 p
        | stuck => rw [em] at p; exact p
    · exact p.elim⟩

/-- the def x does g, called where an exception is handled -/
structure FnT (P : Program) (w : World) (K : PySem.W.Frag) (mg : Str → Option Value) (base : Heap) (x : Str) (k n : Nat) (g : List D → Hh → Res D) : Prop where
  ex : ∃ f fd ps, FnH P w K mg base (L2N.CX P w) k f fd ps (spM K mg w n g) ∧ mg x = some (.ref f) ∧ PySem.W.keepIn K (.ref f) = true ∧ Binds K fd ps []
theorem me_fnH (gx : GU X W) (hc : HotC X) {k n : Nat} {g : List D → Hh → Res D} {x : Str} {p : Pos} {ms : EM (List D)} (F : FnT X.prog X.w X.K X.mg X.base x k n g) (hr : RoomH k X.A) (hg : Gl X x) (ha : MA X W (e :: es) ms) (hn : (e :: es).length = n := by rfl)
    (hdb : (x == ("__debug__" : Str)) = false := by decide) (he : starEach (e :: es) X.env = (false, eval e X.env) :: starEach es X.env := by rfl) (hpl : (backTo pos (starEach es X.env)).any (·.1) = false := by rfl) : ME X W (.Call (.Name x p) (e :: es) [] pos) (callE g ms) := by
  obtain ⟨f, fd, ps, F, hm, hk, hb⟩ := F.ex
  refine ⟨PE.wk (L2H.pe_callH (E := WE W) F hr hc hg hm hk hb (L2N.passAt gx.tk) ha.pa hdb he hpl) fun σ H Q q => ?_⟩
  refine tM.mono (fun xs H1 ⟨ρ, l, η1, h1, rs, r1, q1, e1, p1⟩ => ?_) (tM.args ha q)
  refine ⟨l, η1, h1, by rw [← q1.length, e1, hn], r1, q1, ?_⟩
  cases eg : g l h1 with
  | ok d h2 => rw [eg] at p1; exact fun v η' H' s r rd => p1 v η' H' s r rd
  | raise c fs h2 => rw [eg] at p1; exact p1
  | stuck => rw [eg] at p1; exact p1
end
section
variable {P : Program} {w : World} {K : PySem.W.Frag} {mg : Str → Option Value} {base : Heap}
theorem fn_mkH {x : Str} {st : Stmt} {N ps : List Str} {k : Nat} {b : SS} (F : DefAt K mg x st) (S : FnScope N ps (defScope st))
    (hbind : ∀ (kV doc pm : Value) (an : Option Addr) (cdv ct : Value) (us : List Value), us.length = ps.length → bindArgs (PySem.W.fnOf x x (defArgs st) (defBody st) (defScope st) .none kV doc pm an cdv ct) ⟨us, []⟩ = pure (ps.zip us))
    (hb : ∀ (f : Addr) (cdv : Value) (A : Around) (outer : List PySem.Env) (s : Shared) (H : Hp) (E : XK) (p : Addr × Obj), RoomH k (A.deeper (envOfC x (defScope st) s.heap.objs.size f cdv)) →
      GU (cxH (L2N.CX P w) P w K mg base N x (defScope st) f cdv A outer s H E p) (fun cls d _ H => E cls d H) → HotC (cxH (L2N.CX P w) P w K mg base N x (defScope st) f cdv A outer s H E p) →
      MB (cxH (L2N.CX P w) P w K mg base N x (defScope st) f cdv A outer s H E p) (fun cls d _ H => E cls d H) (defBody st) b) : FnT P w K mg base x (k + 1) ps.length (defF N.length b) := by
  obtain ⟨f, fd, F, hm⟩ := F.ex
  refine ⟨f, fd, ps, ?_, hm, F.kp, F.binds hbind⟩
  obtain ⟨oc, od, kV, doc, pm, an, cdv, ct, osl, rfl, lk, hcd⟩ := F.ex
  refine L2H.fn_ofH lk hcd S (fun vs H Q E h => ?_) fun A outer s H vs Q E p hot hr h => ?_
  · obtain ⟨ds, η, h, hl, _, r, _⟩ := h
    rw [r.length, hl]
  · obtain ⟨ds, η, h, hl, rh, r, q⟩ := h
    have gu : GU (cxH (L2N.CX P w) P w K mg base N x (defScope st) f cdv A outer s H E p) (fun cls d _ H => E cls d H) := ⟨L2N.takes_of rfl rfl rfl rfl, passes_of rfl, S.nd, by have := hr.un; show (A.deeper _).units + 65 < cLine; omega⟩
    have hc : HotC (cxH (L2N.CX P w) P w K mg base N x (defScope st) f cdv A outer s H E p) := ⟨p, hot, List.mem_singleton_self _⟩
    refine ⟨_, (hb f cdv A outer s H E p hr gu hc).ps, ?_⟩
    refine ⟨_, η, h, rs_start r, rh, ?_⟩
    unfold defF at q
    cases eb : b (ds.map some ++ List.replicate (N.length - ds.length) none) h with
    | nx ρ h' => rw [eb] at q; exact fun σ' η' H' s a c => q .non η' H' s c rfl
    | ret d h' => rw [eb] at q; exact q
    | rs c fs ρ h' => rw [eb] at q; exact fun σ' η' H' C dx s a r m e => q η' H' C dx s r m e
    | bk ρ h' => rw [eb] at q; exact q.elim
    | ct ρ h' => rw [eb] at q; exact q.elim
    | stuck => rw [eb] at q; exact q.elim
theorem FnT.mono {x : Str} {j k n : Nat} {g : List D → Hh → Res D} (F : FnT P w K mg base x j n g) (h : j ≤ k) : FnT P w K mg base x k n g := by
  obtain ⟨f, fd, ps, F, r⟩ := F.ex
  exact ⟨f, fd, ps, ⟨F.len, fun A outer s H args us vs Q E p hr => F.run A outer s H args us vs Q E p (hr.mono h)⟩, r⟩
end
/-! what a suite says of the exception in slot i -/
section
variable {X : Cx} {W : WX} {σ : L2.St} {η : Ad} {H : Hp} {h : Hh} {pos : Pos} {E : Ends} {e : Expr} {es : List Expr} {i : Nat} {C : Addr}
def XF (X : Cx) (a : Addr) (cls : Value) (d : Option Addr) (i : Nat) (C : Addr) (σ : L2.St) (η : Ad) (H : Hp) (fs : List (Str × D)) : Prop :=
  ∃ dd gs, σ[i]? = some (some (.ref a)) ∧ cls = .ref C ∧ d = some dd ∧ H dd = some (.xd gs) ∧ RFs X.K η H fs gs
theorem XF.step {a : Addr} {cls : Value} {d : Option Addr} {fs : List (Str × D)} {η' : Ad} {H' : Hp} (f : XF X a cls d i C σ η H fs) (rh : RH X.K X.mg X.w η H h) (s : Step η H η' H') : XF X a cls d i C σ η' H' fs := by
  obtain ⟨dd, gs, e1, e2, e3, e4, e5⟩ := f
  refine ⟨dd, gs, e1, e2, e3, ?_, RFs.stw s.toStw _ _ e5⟩
  by_cases hd : dd ∈ η.d
  · rw [s.kh dd hd]; exact e4
  · refine s.keep dd _ (fun q => ?_) e4
    rcases q with q | q
    · obtain ⟨j, hj, ej⟩ := List.getElem_of_mem q
      have hl : j < h.length := by rw [← rh.len]; exact hj
      obtain ⟨u, e6, e7⟩ := (rh.ob j dd _ (by rw [List.getElem?_eq_getElem hj, ej]) (List.getElem?_eq_getElem hl)).mut
      rw [e4] at e6
      cases e6
      exact e7
    · exact hd q
def tX (X : Cx) (a : Addr) (cls : Value) (d : Option Addr) (i : Nat) (C : Addr) {α β : Type} (R : α → β → Ad → Hp → Prop) (m : List (Str × D) → EM α) : L2.St → Hp → (β → Hp → Prop) → Prop := fun σ H Q =>
  ∃ ρ η h fs, RS X.K η H σ ρ ∧ RH X.K X.mg X.w η H h ∧ XF X a cls d i C σ η H fs ∧ Po X W0 R σ η H (m fs ρ h) Q
theorem tX.mono {a : Addr} {cls : Value} {d : Option Addr} {α β : Type} {R : α → β → Ad → Hp → Prop} {m : List (Str × D) → EM α} {Q Q' : β → Hp → Prop} (i0 : ∀ x H, Q x H → Q' x H) (q : tX X a cls d i C R m σ H Q) : tX X a cls d i C R m σ H Q' := by
  obtain ⟨ρ, η, h, fs, rs, rh, xf, p⟩ := q
  refine ⟨ρ, η, h, fs, rs, rh, xf, ?_⟩
  cases e1 : m fs ρ h with
  | ok a h1 => rw [e1] at p; exact fun b η' H' s r q => i0 _ _ (p b η' H' s r q)
  | raise c fs h1 => rw [e1] at p; exact p
  | stuck => rw [e1] at p; exact p
theorem tX.seq {a : Addr} {cls : Value} {d : Option Addr} {α β γ δ : Type} {R1 : α → β → Ad → Hp → Prop} {Rz : γ → δ → Ad → Hp → Prop} {m : List (Str × D) → EM α} {ρ : Env} {fs : List (Str × D)} {k : α → Hh → Res γ} {Q : δ → Hp → Prop} (rs : RS X.K η H σ ρ) (rh : RH X.K X.mg X.w η H h) (xf : XF X a cls d i C σ η H fs)
    (p : Po X W0 Rz σ η H ((m fs ρ h).bind k) Q) : tX X a cls d i C R1 m σ H fun b H1 => ∃ v η1 h1, Step η H η1 H1 ∧ RH X.K X.mg X.w η1 H1 h1 ∧ R1 v b η1 H1 ∧ RS X.K η1 H1 σ ρ ∧ XF X a cls d i C σ η1 H1 fs ∧ Po X W0 Rz σ η1 H1 (k v h1) Q := by
  refine ⟨ρ, η, h, fs, rs, rh, xf, ?_⟩
  cases e1 : m fs ρ h with
  | ok v h1 =>
    rw [e1] at p
    exact fun b η1 H1 s r q => ⟨v, η1, h1, s, r, q, rs.step s, xf.step rh s, Po.step s p⟩
  | raise c fs h1 => rw [e1] at p; exact p
  | stuck => rw [e1] at p; exact p
/-- where a suite stands -/
def InSuite (X : Cx) (a : Addr) (oe : Obj) (cls : Value) (d : Option Addr) : Prop := L2N.Zn cls d oe ∧ ∃ vs, oe.data = .fields vs
theorem suite_hot {a : Addr} {oe : Obj} {cls : Value} {d : Option Addr} {pn : List (Addr × Obj)} (z : InSuite X a oe cls d) : HotC (X.suite a ((a, oe) :: pn)) := by
  obtain ⟨z, vs, hf⟩ := z
  exact ⟨(a, oe), ⟨rfl, vs, hf, z.2.2 vs hf⟩, List.mem_cons_self⟩
theorem suite_gu (gx : GU X W) (a : Addr) (pn : List (Addr × Obj)) : GU (X.suite a pn) W0 := ⟨takes0N, PassesOwn.never, gx.nd, gx.un⟩
structure MEX (X : Cx) (i : Nat) (C : Addr) (e : Expr) (m : List (Str × D) → EM D) : Prop where
  pe : ∀ (a : Addr) (oe : Obj) (cls : Value) (d : Option Addr) (pn : List (Addr × Obj)), InSuite X a oe cls d → PE (X.suite a ((a, oe) :: pn)) e (tX X a cls d i C (rD X) m)
structure MAX (X : Cx) (i : Nat) (C : Addr) (es : List Expr) (m : List (Str × D) → EM (List D)) : Prop where
  pa : ∀ (a : Addr) (oe : Obj) (cls : Value) (d : Option Addr) (pn : List (Addr × Obj)), InSuite X a oe cls d → PA (X.suite a ((a, oe) :: pn)) es (tX X a cls d i C (rA X) m)
  len : ∀ fs ρ h ds h', m fs ρ h = .ok ds h' → ds.length = es.length
theorem mex_me {m : EM D} (hm : ∀ (a : Addr) (oe : Obj) (pn : List (Addr × Obj)), ME (X.suite a ((a, oe) :: pn)) W0 e m) : MEX X i C e (fun _ => m) :=
  ⟨fun a oe cls d pn z => PE.wk (hm a oe pn).pe fun σ H Q ⟨ρ, η, h, fs, rs, rh, xf, p⟩ => ⟨ρ, η, h, rs, rh, p⟩⟩
def fldM (n : Str) (fs : List (Str × D)) : EM D := fun _ h => match fs.lookup n with
  | some d => .ok d h
  | none => .stuck
theorem mex_fld {c n x : Str} {fI : Addr} {p : Pos} (T : PySem.SupX.XTxt X.prog X.K X.mg c n C fI) (hN : X.N[i]? = some x := by rfl) (hv : Vis X.env.scope x := by first | exact Or.inl rfl | exact Or.inr (Or.inl rfl) | exact Or.inr (Or.inr rfl)) (hd : (x == ("__debug__" : Str)) = false := by decide)
    (hcd : (x == ("__classdict__" : Str)) = false := by decide) (hb : attributeBase (.Name x p) n X.env (eval (.Name x p) X.env) = eval (.Name x p) X.env := by rfl) : MEX X i C (.Attribute (.Name x p) n pos) (fldM n) :=
  ⟨fun a oe cls d pn z => PE.wk (pe_xf ⟨T.ga, T.gg, T.exC, T.hdC⟩ T.noN z.1.zc z.2 (pe_var (i := i) hN hv hd hcd) hb) fun σ H Q ⟨ρ, η, h, fs, rs, rh, ⟨dd, gs, e1, e2, e3, e4, e5⟩, p⟩ => by
    unfold fldM at p
    cases el : fs.lookup n with
    | none => rw [el] at p; exact p.elim
    | some d0 =>
      rw [el] at p
      obtain ⟨v, ev, rv⟩ := rfs_look e5 el
      exact ⟨.ref a, e1, rfl, e2, dd, gs, v, e3, e4, ev, p v η H (.refl _ _) rh rv⟩⟩
def nilX (_ : List (Str × D)) : EM (List D) := nilA
def consX (m : List (Str × D) → EM D) (r : List (Str × D) → EM (List D)) (fs : List (Str × D)) : EM (List D) := consA (m fs) (r fs)
theorem max_nil : MAX X i C [] nilX := ⟨fun a oe cls d pn z => PA.wk pa_nil fun σ H Q ⟨ρ, η, h, fs, rs, rh, xf, p⟩ => Po.ok (b := []) p rh rfl, fun fs ρ h ds h' e => by cases e; rfl⟩
theorem max_cons {m : List (Str × D) → EM D} {ms : List (Str × D) → EM (List D)} (ha : MEX X i C e m) (hr : MAX X i C es ms) (hs : starEach (e :: es) X.env = (false, eval e X.env) :: starEach es X.env := by rfl) : MAX X i C (e :: es) (consX m ms) :=
  ⟨fun a oe cls d pn z => PA.wk (pa_cons (ha.pe a oe cls d pn z) (hr.pa a oe cls d pn z) hs) fun σ H Q ⟨ρ, η, h, fs, rs, rh, xf, p⟩ => by
    have p : Po X W0 (rA X) σ η H ((m fs ρ h).bind fun d h1 => (ms fs ρ h1).bind fun l h2 => .ok (d :: l) h2) Q := p
    refine tX.mono (fun x H1 ⟨v, η1, h1, s1, r1, q1, rs1, xf1, p1⟩ => ?_) (tX.seq (R1 := rD X) rs rh xf p)
    refine tX.mono (fun y H2 ⟨v2, η2, h2, s2, r2, q2, rs2, xf2, p2⟩ => ?_) (tX.seq (R1 := rA X) (m := ms) rs1 r1 xf1 p1)
    exact Po.ok (b := x :: y) p2 r2 ⟨x, y, rfl, RD.step s2 _ _ q1, q2⟩, fun fs ρ h ds h' q => by
    unfold consX consA at q
    cases e1 : m fs ρ h with
    | ok d h1 =>
      rw [e1, bind_ok] at q
      cases e2 : ms fs ρ h1 with
      | ok l h2 =>
        rw [e2, bind_ok] at q
        cases q
        rw [List.length_cons, List.length_cons, hr.len _ _ _ _ _ e2]
      | raise c fs h2 => rw [e2] at q; cases q
      | stuck => rw [e2] at q; cases q
    | raise c fs h2 => rw [e1] at q; cases q
    | stuck => rw [e1] at q; cases q⟩
theorem tX.args {a : Addr} {cls : Value} {d : Option Addr} {γ δ : Type} {Rz : γ → δ → Ad → Hp → Prop} {ms : List (Str × D) → EM (List D)} (hl : ∀ fs ρ h ds h', ms fs ρ h = .ok ds h' → ds.length = es.length) {k : List D → Hh → Res γ} {Q : δ → Hp → Prop} (q : tX X a cls d i C Rz (fun fs ρ h => (ms fs ρ h).bind k) σ H Q) :
    tX X a cls d i C (rA X) ms σ H fun xs H1 => ∃ l η1 h1, RH X.K X.mg X.w η1 H1 h1 ∧ RDs X.K η1 H1 l xs ∧ xs.length = es.length ∧ Po X W0 Rz σ η1 H1 (k l h1) Q := by
  obtain ⟨ρ, η, h, fs, rs, rh, xf, p⟩ := q
  have p : Po X W0 Rz σ η H ((ms fs ρ h).bind k) Q := p
  refine ⟨ρ, η, h, fs, rs, rh, xf, ?_⟩
  cases e1 : ms fs ρ h with
  | ok v h1 =>
    rw [e1] at p
    exact fun b η1 H1 s r q => ⟨v, η1, h1, r, q, (RDs.length q).trans (hl _ _ _ _ _ e1), Po.step s p⟩
  | raise c fs h1 => rw [e1] at p; exact p
  | stuck => rw [e1] at p; exact p
def lstX (ms : List (Str × D) → EM (List D)) (fs : List (Str × D)) : EM D := lstE (ms fs)
theorem mex_lst {ms : List (Str × D) → EM (List D)} (hm : MAX X i C es ms) (hl : es.length ≤ sizeLine := by decide) : MEX X i C (.List es pos) (lstX ms) :=
  ⟨fun a oe cls d pn z => PE.wk (pe_lst (hm.pa a oe cls d pn z)) fun σ H Q q => by
    have q : tX X a cls d i C (rD X) (fun fs ρ h => (ms fs ρ h).bind fun l h1 => Res.ok (D.lst l) h1) σ H Q := q
    refine tX.mono (fun xs H1 ⟨l, η1, h1, r1, q1, e1, p1⟩ => ?_) (tX.args (Rz := rD X) (Q := Q) (k := fun l h1 => Res.ok (D.lst l) h1) hm.len q)
    exact ⟨by rw [e1]; exact hl, fun a n => Po.newF (X := X) (W := W0) p1 r1 q1 a n⟩⟩
def callX (g : List D → Hh → Res D) (ms : List (Str × D) → EM (List D)) (fs : List (Str × D)) : EM D := callE g (ms fs)
theorem mex_call {k n : Nat} {g : List D → Hh → Res D} {x : Str} {p : Pos} {ms : List (Str × D) → EM (List D)} (F : FnT X.prog X.w X.K X.mg X.base x k n g) (hr : RoomH k X.A) (hg : Gl X x) (ha : MAX X i C (e :: es) ms) (hn : (e :: es).length = n := by rfl)
    (hdb : (x == ("__debug__" : Str)) = false := by decide) (he : starEach (e :: es) X.env = (false, eval e X.env) :: starEach es X.env := by rfl) (hpl : (backTo pos (starEach es X.env)).any (·.1) = false := by rfl) : MEX X i C (.Call (.Name x p) (e :: es) [] pos) (callX g ms) := by
  obtain ⟨f, fd, ps, F, hm, hk, hb⟩ := F.ex
  refine ⟨fun a oe cls d pn z => PE.wk (L2H.pe_callH (X := X.suite a ((a, oe) :: pn)) (E := WE W0) F ⟨hr.dp, hr.un⟩ (suite_hot z) hg hm hk hb (L2N.passAt takes0N) (ha.pa a oe cls d pn z) hdb he hpl) fun σ H Q q => ?_⟩
  refine tX.mono (fun xs H1 ⟨l, η1, h1, r1, q1, e1, p1⟩ => ?_) (tX.args (k := g) ha.len q)
  refine ⟨l, η1, h1, by rw [← q1.length, e1, hn], r1, q1, ?_⟩
  cases eg : g l h1 with
  | ok d h2 => rw [eg] at p1; exact fun v η' H' s r rd => p1 v η' H' s r rd
  | raise c fs h2 => rw [eg] at p1; exact p1
  | stuck => rw [eg] at p1; exact p1
def retM (m : List (Str × D) → EM D) (fs : List (Str × D)) : SS := fun ρ h => match m fs ρ h with
  | .ok d h1 => .ret d h1
  | _ => .stuck
theorem su_retM {m : List (Str × D) → EM D} (hm : MEX X i C e m) : SU X i C [.Return (some e) pos] (retM m) :=
  ⟨fun a oe cls d pn hz hf => PSs.wk (pss_one (ps_ret (hm.pe a oe cls d pn ⟨hz, hf⟩))) fun E σ H ⟨ρ, η, h, fs, dd, gs, d0, h0, rs, rh, e1, e2, e3, e4, e5, e6, e7⟩ => by
    unfold retM at e6
    refine ⟨ρ, η, h, fs, rs, rh, ⟨dd, gs, e1, e2, e3, e4, e5⟩, ?_⟩
    split at e6
    · rename_i d1 h1 em
      cases e6
      rw [em]
      exact fun v η1 H1 s r q => e7 v η1 H1 s r q
    · cases e6⟩
/-! a suite that sets a variable -/
def setM (j : Nat) (m : List (Str × D) → EM D) (fs : List (Str × D)) : SS := fun ρ h => match m fs ρ h with
  | .ok d h1 => .nx (ρ.set j (some d)) h1
  | _ => .stuck
structure SN (X : Cx) (i : Nat) (C : Addr) (sts : List Stmt) (u : List (Str × D) → SS) : Prop where
  sn : ∀ (a : Addr) (oe : Obj) (cls : Value) (d : Option Addr) (pn : List (Addr × Obj)), InSuite X a oe cls d → PSs (X.suite a ((a, oe) :: pn)) sts (fun E σ H => ∃ ρ η h fs ρ2 h2, RS X.K η H σ ρ ∧ RH X.K X.mg X.w η H h ∧
    XF X a cls d i C σ η H fs ∧ u fs ρ h = .nx ρ2 h2 ∧ PoS X W0 η H (.nx ρ2 h2) E)
theorem sn_set (gx : GU X W) (j : Nat) {x : Str} {pos' : Pos} {m : List (Str × D) → EM D} (hm : MEX X i C e m) (hi : X.N[j]? = some x := by rfl) (hx : Loc X.env.scope x := by first | exact Or.inl rfl | exact Or.inr rfl)
    (hs : swapsWith e (some (.Name x pos')) pos.line X.env = pure false := by rfl) (hf : X.fn x = true ∨ X.env.scope.names.lookup x = some .local := by first | exact .inl rfl | exact .inr rfl) :
    SN X i C [.Assign [.Name x pos'] e pos] (setM j m) :=
  ⟨fun a oe cls d pn z => PSs.wk (pss_one (ps_set (X := X.suite a ((a, oe) :: pn)) gx.nd hi hx (hm.pe a oe cls d pn z) hs hf)) fun E σ H ⟨ρ, η, h, fs, ρ2, h2, rs, rh, xf, eu, p⟩ => by
    refine ⟨ρ, η, h, fs, rs, rh, xf, ?_⟩
    unfold setM at eu
    split at eu
    · rename_i d1 h1 em
      cases eu
      rw [em]
      exact fun v η1 H1 s r q => p _ η1 H1 s ((rs.step s).set j q) r
    · cases eu⟩
def tryN (c : Str) (i : Nat) (m : SS) (u : List (Str × D) → SS) : SS := fun ρ h => match m ρ h with
  | .rs cc fs ρ2 h2 => if cc = c ∧ fs ≠ [] ∧ i < ρ2.length then (match u fs (ρ2.set i none) h2 with
    | .nx ρ3 h3 => .nx (ρ3.set i none) h3
    | _ => .stuck) else .stuck
  | r => r
theorem rs_unset {K : PySem.W.Frag} {η : Ad} {H : Hp} {σ : L2.St} {ρ : Env} (i : Nat) (v : Option V) (rs : RS K η H σ ρ) : RS K η H (σ.set i v) (ρ.set i none) :=
  ⟨by rw [List.length_set, List.length_set]; exact rs.len, fun j d ej => by
    by_cases hj : i = j
    · subst hj
      by_cases hl : i < ρ.length
      · rw [List.getElem?_set_self hl] at ej; cases ej
      · rw [List.getElem?_eq_none (by rw [List.length_set]; omega)] at ej; cases ej
    · rw [List.getElem?_set_ne hj] at ej ⊢
      exact rs.at_ j d ej⟩
theorem ms_tryN (gx : GX X W) {f : Str} (T : PySem.SupX.XTxt X.prog X.K X.mg c f C fI) {i : Nat} {n : Str} {body suite : List Stmt} {b₀ : Stmt} {np pos' : Pos} {m : SS} {u : List (Str × D) → SS} (hs : X.stack = X.env :: X.outer) (hf : X.env.frame = some X.env.locals) (hi : X.N[i]? = some n) (hln : X.env.kindOf n = some .local)
    (hb : ∀ (W' : WX) (pn : List (Addr × Obj)) (xe : Value → Shared → Prop), GX (X.tr pn xe) W' → MB (X.tr pn xe) W' body m) (hu : SN X i C (b₀ :: suite) u) (hg : Gl X c := by rfl) (hdb : (c == ("__debug__" : Str)) = false := by decide) :
    MS X W (.Try body [.ExceptHandler (some (.Name c np)) (some n) (b₀ :: suite) pos'] [] [] pos) (tryN c i m u) :=
  ⟨PS.wk (L2N.ps_try_as (i := i) (tb := fun W' => tS X W' m) (Wout := W) hs hf gx.nd hi hln ⟨hg, hdb, .inl T.gC⟩ gx.tk (fun W' pn xe tk po => (hb W' pn xe ⟨⟨tk, po, gx.nd, gx.un⟩, gx.calm⟩).ps) (fun a oe cls d pn hz hf' => hu.sn a oe cls d pn ⟨hz, hf'⟩)) fun E σ H q => by
  obtain ⟨ρ, η, h, rs, rh, p⟩ := q
  refine ⟨ρ, η, h, rs, rh, ?_⟩
  unfold tryN at p
  cases e : m ρ h with
  | nx ρ2 h2 => rw [e] at p; exact p
  | ret d h2 => rw [e] at p; exact p
  | bk ρ2 h2 => rw [e] at p; exact p
  | ct ρ2 h2 => rw [e] at p; exact p
  | stuck => rw [e] at p; exact p
  | rs cc fs ρ2 h2 =>
    rw [e] at p
    simp only at p
    split at p
    · rename_i hc
      obtain ⟨rfl, hne, hil2⟩ := hc
      split at p
      · rename_i ρ3 h3 eu
        intro σ' η' H' C2 dx st rs' rh' hm re
        have hC : C2 = C := by
          have := T.gC.symm.trans hm
          cases this
          rfl
        subst hC
        refine ⟨true, T.te, fun _ a na => ?_, fun z => nomatch z⟩
        cases dx with
        | none => exact absurd (show fs = [] from re) hne
        | some dd =>
          obtain ⟨gs, eg, rg⟩ := re
          have hil : i < σ'.length := by rw [rs'.len]; exact hil2
          refine ⟨ρ2.set i none, η', h2, fs, ρ3, h3, rs_unset i _ rs', rh', ⟨dd, gs, List.getElem?_set_self hil, rfl, rfl, eg, rg⟩, eu, ?_⟩
          intro σ3 η3 H3 s3 rs3 rh3
          exact p _ η3 H3 (st.trans s3) (rs_unset i none rs3) rh3
      · exact p.elim
    · exact p.elim⟩
end
end Ev

set_option maxHeartbeats 1000000
/-! EvG: join, lower, split of texts. -/
namespace Ev
open PySem PySem.Spec PyProof.Rows L2
section
variable {X : Cx} {W : WX}
def txsOf : List D → Option (List Str)
  | [] => some []
  | .str x :: l => (txsOf l).map (x :: ·)
  | _ :: _ => none
theorem txsOf_of {K : PySem.W.Frag} {η : Ad} {H : Hp} : ∀ {l : List D} {ys : List Str} {xs : List V}, txsOf l = some ys → RDs K η H l xs → xs = ys.map V.str
  | [], ys, xs, e, r => by cases e; exact r
  | d :: l, ys, xs, e, r => by
    obtain ⟨x, r', rfl, q1, q2⟩ := r
    cases d with
    | str z =>
      unfold txsOf at e
      cases e2 : txsOf l with
      | none => rw [e2] at e; cases e
      | some zs =>
        rw [e2] at e
        cases e
        rw [txsOf_of e2 q2]
        cases q1
        rfl
    | _ => cases e
theorem txsOf_map : ∀ l : List Str, txsOf (l.map D.str) = some l
  | [] => rfl
  | x :: l => by rw [List.map_cons, txsOf, txsOf_map l]; rfl
def joinD (a : D) (l : List D) (h : Hh) : Res D := match a with
  | .str a => (match l with
    | [d] => (match seqOf d h with
      | some ds => (match txsOf ds with
        | some ys => if (ys.map (·.length)).sum + ys.length * a.length ≤ 16777216 then .ok (.str (Txt.join a ys)) h else .stuck
        | none => .stuck)
      | none => .stuck)
    | _ => .stuck)
  | _ => .stuck
theorem md_join : MtD X W "str" (fun x xs H Q => ∃ a p, ∃ ys : List Str, x = .str a ∧ xs = [.ref p] ∧ (SqL X.K H p (ys.map V.str) ∨ SqT X.K H p (ys.map V.str)) ∧ (ys.map (·.length)).sum + ys.length * a.length ≤ 16777216 ∧ Q (.str (Txt.join a ys)) H) joinD := by
  intro σ η H h a l x xs Q rh ra rl p
  unfold joinD at p
  split at p
  · rename_i a
    cases ra
    split at p
    · rename_i d
      obtain ⟨v, rfl, r⟩ := rds1 rl
      split at p
      · rename_i ds e1
        obtain ⟨c, zs, rfl, s, t⟩ := seqOf_of rh r e1
        split at p
        · rename_i ys e2
          have := txsOf_of e2 t
          subst this
          split at p
          · rename_i hz
            exact ⟨a, c, ys, rfl, rfl, s, hz, Po.scal p rh rfl⟩
          · exact p.elim
        · exact p.elim
      · exact p.elim
    · exact p.elim
  · exact p.elim
def lowerD (a : D) (l : List D) (h : Hh) : Res D := match a with
  | .str a => (match l with
    | [] => if a.length ≤ 5592405 then .ok (.str (Txt.lower a)) h else .stuck
    | _ => .stuck)
  | _ => .stuck
theorem md_lower : MtD X W "str" (fun x xs H Q => ∃ a, x = .str a ∧ xs = [] ∧ a.length ≤ 5592405 ∧ Q (.str (Txt.lower a)) H) lowerD := by
  intro σ η H h a l x xs Q rh ra rl p
  unfold lowerD at p
  split at p
  · rename_i a
    cases ra
    split at p
    · cases rl
      split at p
      · rename_i hz
        exact ⟨a, rfl, rfl, hz, Po.scal p rh rfl⟩
      · exact p.elim
    · exact p.elim
  · exact p.elim
def splitD (a : D) (l : List D) (h : Hh) : Res D := match a with
  | .str a => (match l with
    | [.str b] => if (b.length == 0) = false ∧ a.length + 2 ≤ sizeLine then .ok (.lst ((Txt.split a b).map D.str)) h else .stuck
    | _ => .stuck)
  | _ => .stuck
theorem rds_txs {K : PySem.W.Frag} {η : Ad} {H : Hp} : ∀ l : List Str, RDs K η H (l.map D.str) (l.map V.str)
  | [] => rfl
  | x :: l => ⟨_, _, rfl, rfl, rds_txs l⟩
theorem md_split : MtD X W "str" (fun x xs H Q => ∃ a b, x = .str a ∧ xs = [.str b] ∧ (b.length == 0) = false ∧ a.length + 2 ≤ sizeLine ∧ rNewStrs (Txt.split a b) H Q) splitD := by
  intro σ η H h a l x xs Q rh ra rl p
  unfold splitD at p
  split at p
  · rename_i a
    cases ra
    split at p
    · rename_i b
      obtain ⟨v, rfl, r⟩ := rds1 rl
      cases r
      split at p
      · rename_i hz
        exact ⟨a, b, rfl, rfl, hz.1, hz.2, fun q n => Po.newF p rh (rds_txs _) q n⟩
      · exact p.elim
    · exact p.elim
  · exact p.elim
/-! a display of texts and ints -/
def dispL (ps : List (Str × Int)) (l : List (D × D)) : List (D × D) := ps.foldl (fun acc p => putD acc (.str p.1) (.int p.2)) l
def dispC (ps : List (Str × Int)) : EM D := fun _ h => .ok (.ref h.length) (h ++ [.dic (dispL ps [])])
def dispT (X : Cx) (W : WX) (ps : List (Str × Int)) : List (TE × TE) := ps.map fun p => (tM X W (rD X) (cE (.str p.1)), tM X W (rD X) (cE (.int p.2)))
theorem disp_pairs {σ : L2.St} {ρ : Env} {h : Hh} : ∀ (ps : List (Str × Int)) (η : Ad) (H : Hp) (Q : List (V × V) → Hp → Prop), RS X.K η H σ ρ → RH X.K X.mg X.w η H h → (∀ η2 H2, Step η H η2 H2 → RH X.K X.mg X.w η2 H2 h → Q (ps.map fun p => (.str p.1, .int p.2)) H2) → tPairs (dispT X W ps) σ H Q
  | [], η, H, Q, _, rh, q => q η H (.refl _ _) rh
  | (x, i) :: ps, η, H, Q, rs, rh, q => by
    refine ⟨ρ, η, h, rs, rh, fun b η1 H1 s1 r1 d1 => ?_⟩
    refine ⟨ρ, η1, h, rs.step s1, r1, fun c η2 H2 s2 r2 d2 => ?_⟩
    cases d1
    cases d2
    exact disp_pairs ps η2 H2 _ ((rs.step s1).step s2) r2 fun η3 H3 s3 r3 => q η3 H3 ((s1.trans s2).trans s3) r3
theorem disp_rks {K : PySem.W.Frag} {η : Ad} {H : Hp} : ∀ (ps : List (Str × Int)) (l : List (D × D)) (xs : List (Key × V)), RKs K η H l xs → RKs K η H (dispL ps l) (mergeK xs (ps.map fun p => (Sum.inr p.1, .int p.2)))
  | [], _, _, r => r
  | (x, i) :: ps, l, xs, r => disp_rks ps _ _ (rks_put r rfl rfl)
theorem me_dispC {pos : Pos} {keys : List (Option Expr)} {values : List Expr} (ps : List (Str × Int)) (h : PPs X pos keys values (dispT X W ps)) (hp : ps.length ≤ 15 := by decide) (hall : keys.all (·.isSome) = true := by rfl) (hl : keys.length = values.length := by rfl) (h0 : keys ≠ [] := by exact fun z => nomatch z) (h15 : keys.length ≤ 15 := by decide) :
    ME X W (.Dict keys values pos) (dispC ps) := ⟨PE.wk (pe_disp h hall hl h0 h15) fun σ H Q q => by
  obtain ⟨ρ, η, h, rs, rh, p⟩ := q
  intro a n
  have s0 := rh.allocS (u := .dK []) n
  have r0 := (newKR n rh).1
  refine disp_pairs ps _ _ _ (rs.step s0) r0 fun η2 H2 s2 r2 => ?_
  have ea : η2.c[h.length]? = some a := by
    refine s2.toStw.at_ ?_
    show (η.c ++ [a])[h.length]? = _
    rw [← rh.len]; simp
  obtain ⟨a', ea', ro⟩ := r2.addr (n := h.length) (o := .dic []) (by rw [List.getElem?_append_right (Nat.le_refl _), Nat.sub_self]; rfl)
  rw [ea] at ea'
  cases ea'
  obtain ⟨xs, e2, rk⟩ := ro
  cases rk
  refine ⟨e2, ps.map fun p => (Sum.inr p.1, .int p.2), ?_, by rw [List.length_map]; exact hp, ?_⟩
  · rw [List.map_map]; rfl
  · have st := r2.updS (o := .dK (mergeK [] (ps.map fun p => (Sum.inr p.1, .int p.2)))) ea e2 trivial
    have rk := disp_rks (K := X.K) (η := η2) (H := upd H2 a (.dK (mergeK [] (ps.map fun p => (Sum.inr p.1, .int p.2))))) ps [] [] rfl
    have rr := r2.set (n := h.length) (o := .dic (dispL ps [])) ea e2 trivial ⟨_, upd_same, rk⟩
    rw [show (h ++ [O.dic []]).set h.length (.dic (dispL ps [])) = h ++ [.dic (dispL ps [])] from by rw [List.set_append_right _ _ (Nat.le_refl _), Nat.sub_self]; rfl] at rr
    exact p (.ref a) η2 _ ((s0.trans s2).trans st) rr ⟨a, ea, rfl⟩⟩
/-! o[i] += e -/
theorem pget_dic (hu : X.A.units + 1 < cLine) : PGet X rIxX := by
  intro pins s σ H o i ov iv Q I ro ri q
  obtain ⟨a, v, rfl, g, q⟩ := q
  obtain rfl : ov = Value.ref a := ro
  exact d_getItem hu I g ri fun w' s' I' r => ⟨v, H, I', r, q⟩
def dixD (a b : D) (h : Hh) : Res D := match dicOf a h with
  | some l => if (keyD b).isSome then (match lookD l b with
    | some d => .ok d h
    | none => .stuck) else .stuck
  | none => .stuck
theorem od_dix : OpD X W rIxX dixD := by
  intro σ η H h a b x y Q rh ra rb p
  unfold dixD at p
  split at p
  · rename_i l el
    split at p
    · rename_i hk
      split at p
      · rename_i d ed
        obtain ⟨c, xs, rfl, s, t⟩ := dicOf_of rh ra el
        obtain ⟨k', ek⟩ := Option.isSome_iff_exists.mp hk
        have z := lookD_of ek t
        rw [ed] at z
        obtain ⟨v, ev, r⟩ := z
        refine ⟨c, v, rfl, ?_, Po.scal p rh r⟩
        rw [keyD_of ek rb, ← ev]
        exact DGet.k s
      · exact p.elim
    · exact p.elim
  · exact p.elim
def augI (g : D → D → Hh → Res D) (mo mi mv : EM D) : SS := fun ρ h => toS (mo ρ h) ρ fun o h1 => toS (mi ρ h1) ρ fun i h2 => toS (dixD o i h2) ρ fun x h3 => toS (mv ρ h3) ρ fun v h4 => toS (g x v h4) ρ fun z h5 => match putO o i z h5 with
  | some h6 => .nx ρ h6
  | none => .stuck
theorem ms_augI (gx : GU X W) {pos tpos : Pos} {o i e : Expr} {op : Operator} {r : R2} {mo mi mv : EM D} {g : D → D → Hh → Res D} (ho : OpR X (inplaceOp op) r) (hg : OpD X W r g) (h1 : ME X W o mo) (h2 : ME X W i mi) (h3 : ME X W e mv)
    (ha : ∀ ov iv new, augStore i ov iv new = (do holding [new, ov, iv] (setItem ov iv new); release [new, ov, iv] []; pure .next) := by intros; rfl) : MS X W (.AugAssign (.Subscript o i tpos) op e pos) (augI g mo mi mv) :=
  ⟨PS.wk (ps_augS h1.pe h2.pe (tget := rIxX) (pget_dic (by have := gx.un; omega)) h3.pe (tip := r) (fun pins s σ H x y v u Q I rx ry q => ho pins s σ H x y v u Q I rx ry q) (set_all (by have := gx.un; omega)) ha) fun E σ H q => by
  obtain ⟨ρ, η, h, rs, rh, p⟩ := q
  refine tM.mono (fun x H1 ⟨d, η1, h1, s1, r1, q1, p1⟩ => ?_) (PoS.seq (R1 := rD X) rs rh p)
  have rs1 := rs.step s1
  refine tM.mono (fun y H2 ⟨i', η2, h2, s2, r2, q2, p2⟩ => ?_) (PoS.seq (R1 := rD X) rs1 r1 p1)
  have rs2 := rs1.step s2
  refine od_dix σ η2 H2 h2 d i' x y _ r2 (RD.step s2 _ _ q1) q2 (PoS.res rs2 p2 fun z h3 w3 η3 H3 s3 r3 q3 p3 => ?_)
  have rs3 := rs2.step s3
  refine tM.mono (fun v H4 ⟨v', η4, h4, s4, r4, q4, p4⟩ => ?_) (PoS.seq (R1 := rD X) rs3 r3 p3)
  have rs4 := rs3.step s4
  refine hg σ η4 H4 h4 z v' w3 v _ r4 (RD.step s4 _ _ q3) q4 (PoS.res rs4 p4 fun u h5 w5 η5 H5 s5 r5 q5 p5 => ?_)
  have rs5 := rs4.step s5
  cases ep : putO d i' u h5 with
  | none => rw [ep] at p5; exact p5.elim
  | some h6 =>
    rw [ep] at p5
    exact putO_of r5 (RD.step (((s2.trans s3).trans s4).trans s5) _ _ q1) (RD.step ((s3.trans s4).trans s5) _ _ q2) q5 ep fun H' st r6 => p5 σ η5 H' st (rs5.step st) r6⟩
/-! targets within targets -/
def gLs : List GM → List D → Env → Option Env
  | [], [], ρ => some ρ
  | g :: gs, d :: ds, ρ => (g d ρ).bind (gLs gs ds)
  | _, _, _ => none
theorem gLs_len : ∀ {gs : List GM} {ds : List D} {ρ ρ' : Env}, gLs gs ds ρ = some ρ' → ds.length = gs.length
  | [], [], _, _, _ => rfl
  | g :: gs, d :: ds, ρ, ρ', e => by
    unfold gLs at e
    cases e1 : g d ρ with
    | none => rw [e1] at e; cases e
    | some ρ1 => rw [e1] at e; rw [List.length_cons, List.length_cons, gLs_len e]
  | [], _ :: _, _, _, e => by cases e
  | _ :: _, [], _, _, e => by cases e
def gTq (gs : List GM) : GM := fun d ρ => match d with
  | .tup l => gLs gs l ρ
  | _ => none
structure MGL (X : Cx) (ts : List Expr) (gs : List GM) : Prop where
  pg : ∃ t, PGs X ts t ∧ ∀ (η : Ad) (H : Hp) (σ : L2.St) (ρ ρ' : Env) (h : Hh) (ds : List D) (vs : List V) (Q : L2.St → Hp → Prop), RS X.K η H σ ρ → RH X.K X.mg X.w η H h → RDs X.K η H ds vs → gLs gs ds ρ = some ρ' →
    (∀ σ', RS X.K η H σ' ρ' → Q σ' H) → t vs σ H Q
theorem mgl_nil : MGL X [] [] := ⟨gNil, pgs_nil, fun η H σ ρ ρ' h ds vs Q rs rh rd e q => by
  cases ds with
  | nil => cases e; cases rd; exact ⟨rfl, q σ rs⟩
  | cons d ds => cases e⟩
theorem mgl_cons {t : Expr} {g : GM} {es : List Expr} {gs : List GM} (h1 : MG X t g) (hr : MGL X es gs)
    (hs : (assignEach (t :: es) X.env).map (·.2) = assign t X.env :: (assignEach es X.env).map (·.2) := by rfl) : MGL X (t :: es) (g :: gs) := by
  obtain ⟨u, hu, hq⟩ := hr.pg
  refine ⟨gCons (tG X g) u, pgs_cons h1.pg hu hs, fun η H σ ρ ρ' h ds vs Q rs rh rd e q => ?_⟩
  cases ds with
  | nil => cases e
  | cons d ds =>
    obtain ⟨v, r, rfl, rd1, rd2⟩ := rd
    unfold gLs at e
    cases e1 : g d ρ with
    | none => rw [e1] at e; cases e
    | some ρ1 =>
      rw [e1] at e
      refine ⟨v, r, rfl, ρ, η, h, d, rs, rh, rd1, ?_⟩
      rw [e1]
      exact fun σ' rs' => hq η H σ' ρ1 ρ' h ds r Q rs' rh rd2 e q
theorem mg_tupQ (g : GX X W) {es : List Expr} {k : Nat} {gs : List GM} {pos : Pos} (h : MGL X es gs) (hn : (assignEach es X.env).length = gs.length := by rfl) (hst : (assignEach es X.env).findIdx? (·.1) = none := by rfl) : MG X (.Tuple es k pos) (gTq gs) := by
  obtain ⟨t, ht, hq⟩ := h.pg
  refine ⟨PG.wk (pg_tup g.calm ht hn hst) fun v σ H Q q => ?_⟩
  obtain ⟨ρ, η, h, d, rs, rh, rd, p⟩ := q
  unfold gTq at p
  cases d with
  | tup l =>
    simp only at p
    obtain ⟨a, xs, rfl, s, tt⟩ := rd
    cases e : gLs gs l ρ with
    | none => rw [e] at p; exact p.elim
    | some ρ' =>
      rw [e] at p
      exact ⟨a, xs, rfl, s, by rw [tt.length]; exact gLs_len e, hq η H σ ρ ρ' h l xs Q rs rh tt e p⟩
  | _ => exact p.elim
end
end Ev

/-! EvSimp: how the functions on values compute: rules for simp. -/
namespace Ev
open PySem PySem.Spec PyProof.Rows L2

section
variable {ρ : Env} {h : Hh} {a b m : EM D} {c : EM Bool} {x y : SS}
theorem seqS_nx {ρ' : Env} {h' : Hh} (e : x ρ h = .nx ρ' h') : seqS x y ρ h = y ρ' h' := by simp only [seqS, e]
def SR.andThen (r : SR) (y : SS) : SR := match r with
  | .nx ρ' h' => y ρ' h'
  | r => r
@[simp] theorem andThen_nx (ρ : Env) (h : Hh) (y : SS) : (SR.nx ρ h).andThen y = y ρ h := (rfl)
@[simp] theorem andThen_ret (d : D) (h : Hh) (y : SS) : (SR.ret d h).andThen y = .ret d h := (rfl)
@[simp] theorem andThen_bk (ρ : Env) (h : Hh) (y : SS) : (SR.bk ρ h).andThen y = .bk ρ h := (rfl)
@[simp] theorem andThen_ct (ρ : Env) (h : Hh) (y : SS) : (SR.ct ρ h).andThen y = .ct ρ h := (rfl)
@[simp] theorem andThen_rs (c : Str) (fs : List (Str × D)) (ρ : Env) (h : Hh) (y : SS) : (SR.rs c fs ρ h).andThen y = .rs c fs ρ h := (rfl)
@[simp] theorem andThen_stuck (y : SS) : SR.stuck.andThen y = .stuck := (rfl)
theorem andThen_ite (p : Prop) [Decidable p] (r s : SR) (y : SS) : (if p then r else s).andThen y = if p then r.andThen y else s.andThen y := by split <;> rfl
theorem seqS_run : seqS x y ρ h = (x ρ h).andThen y := (rfl)
@[simp] theorem nilS_run : nilS ρ h = .nx ρ h := (rfl)
theorem exprS_run : exprS m ρ h = toS (m ρ h) ρ fun _ h1 => .nx ρ h1 := (rfl)
theorem retS_run : retS m ρ h = toS (m ρ h) ρ fun d h1 => .ret d h1 := (rfl)
@[simp] theorem retN_run : retN ρ h = .ret .non h := (rfl)
@[simp] theorem brkS_run : brkS ρ h = .bk ρ h := (rfl)
@[simp] theorem contS_run : contS ρ h = .ct ρ h := (rfl)
theorem ifS_run : ifS c x y ρ h = toS (c ρ h) ρ fun b h1 => if b = true then x ρ h1 else y ρ h1 := (rfl)
theorem setS_run (i : Nat) : setS i m ρ h = toS (m ρ h) ρ fun d h1 => .nx (ρ.set i (some d)) h1 := (rfl)
theorem asgS_run (g : GM) : asgS m g ρ h = toS (m ρ h) ρ fun d h1 => match g d ρ with
  | some ρ' => .nx ρ' h1
  | none => .stuck := (rfl)
theorem putS_run (mo mi : EM D) : putS m mo mi ρ h = toS (m ρ h) ρ fun v h1 => toS (mo ρ h1) ρ fun o h2 => toS (mi ρ h2) ρ fun i h3 => match putO o i v h3 with
  | some h4 => .nx ρ h4
  | none => .stuck := (rfl)
@[simp] theorem varE_run (i : Nat) (d : D) (e : ρ[i]? = some (some d)) : varE i ρ h = .ok d h := by unfold varE; rw [e]
@[simp] theorem cE_run (d : D) : cE d ρ h = .ok d h := (rfl)
theorem binE_run (g : D → D → Hh → Res D) : binE g a b ρ h = (a ρ h).bind fun x h1 => (b ρ h1).bind fun y h2 => g x y h2 := (rfl)
theorem unE_run (g : D → Hh → Res D) : unE g a ρ h = (a ρ h).bind fun x h1 => g x h1 := (rfl)
theorem tstE_run : tstE m ρ h = (m ρ h).bind asB := (rfl)
@[simp] theorem asB_run (b : Bool) : asB (.bl b) h = .ok b h := (rfl)
theorem andT_run (c d : EM Bool) : andT c d ρ h = (c ρ h).bind fun x h1 => if x = true then d ρ h1 else .ok false h1 := (rfl)
theorem orT_run (c d : EM Bool) : orT c d ρ h = (c ρ h).bind fun x h1 => if x = true then .ok true h1 else d ρ h1 := (rfl)
theorem notT_run : notT c ρ h = (c ρ h).bind fun x h1 => .ok (!x) h1 := (rfl)
theorem andE_run : andE a b ρ h = ((a ρ h).bind asB).bind fun x h1 => if x = true then b ρ h1 else .ok (.bl false) h1 := (rfl)
theorem orE_run : orE a b ρ h = ((a ρ h).bind asB).bind fun x h1 => if x = true then .ok (.bl true) h1 else b ρ h1 := (rfl)
theorem notE_run : notE a ρ h = ((a ρ h).bind asB).bind fun x h1 => .ok (.bl (!x)) h1 := (rfl)
theorem ifE_run : ifE c a b ρ h = (c ρ h).bind fun x h1 => if x = true then a ρ h1 else b ρ h1 := (rfl)
@[simp] theorem nilA_run : nilA ρ h = .ok [] h := (rfl)
theorem consA_run (r : EM (List D)) : consA m r ρ h = (m ρ h).bind fun d h1 => (r ρ h1).bind fun l h2 => .ok (d :: l) h2 := (rfl)
theorem tupE_run (ms : EM (List D)) : tupE ms ρ h = (ms ρ h).bind fun l h1 => .ok (.tup l) h1 := (rfl)
theorem lstE_run (ms : EM (List D)) : lstE ms ρ h = (ms ρ h).bind fun l h1 => .ok (.lst l) h1 := (rfl)
theorem lstH_run (ms : EM (List D)) : lstH ms ρ h = (ms ρ h).bind newL := (rfl)
@[simp] theorem newL_run (l : List D) : newL l h = .ok (.ref h.length) (h ++ [.lst l]) := (rfl)
theorem callE_run (g : List D → Hh → Res D) (ms : EM (List D)) : callE g ms ρ h = (ms ρ h).bind g := (rfl)
@[simp] theorem noPart_run : noPart ρ h = .ok none h := (rfl)
theorem partE_run : partE m ρ h = (m ρ h).bind asI := (rfl)
@[simp] theorem asI_run (i : Int) : asI (.int i) h = .ok (some i) h := (rfl)
theorem slE_run (g : D → Option Int → Option Int → Hh → Res D) (ml mh : EM (Option Int)) : slE g m ml mh ρ h = (m ρ h).bind fun d h1 => (ml ρ h1).bind fun lo h2 => (mh ρ h2).bind fun hi h3 => g d lo hi h3 := (rfl)
theorem bind_ite {α β : Type} (p : Prop) [Decidable p] (r s : Res α) (f : α → Hh → Res β) : (if p then r else s).bind f = if p then r.bind f else s.bind f := by split <;> rfl
theorem toS_ite {α : Type} (p : Prop) [Decidable p] (r s : Res α) (ρ : Env) (f : α → Hh → SR) : toS (if p then r else s) ρ f = if p then toS r ρ f else toS s ρ f := by split <;> rfl
/-! the parts in turn: no function is a rule's argument, so that simp runs the parts first -/
variable {d d1 d2 : D} {h1 h2 h3 h4 : Hh} {ρ1 ρ2 : Env} {b1 : Bool} {l1 : List D}
def k_bin2 (g : D → D → Hh → Res D) (x : D) (r : Res D) : Res D := match r with
  | .ok y h => g x y h
  | .raise c fs h => .raise c fs h
  | .stuck => .stuck
@[simp] theorem k_bin2_ok (g : D → D → Hh → Res D) (x : D) (y : D) (h : Hh) : k_bin2 g x (.ok y h) = g x y h := (rfl)
def k_bin1 (g : D → D → Hh → Res D) (b : EM D) (ρ : Env) (r : Res D) : Res D := match r with
  | .ok x h => k_bin2 g x (b ρ h)
  | .raise c fs h => .raise c fs h
  | .stuck => .stuck
@[simp] theorem k_bin1_ok (g : D → D → Hh → Res D) (b : EM D) (ρ : Env) (x : D) (h : Hh) : k_bin1 g b ρ (.ok x h) = k_bin2 g x (b ρ h) := (rfl)
@[simp] theorem k_bin (g : D → D → Hh → Res D) (a b : EM D) (ρ : Env) (h : Hh) : binE g a b ρ h = k_bin1 g b ρ (a ρ h) := by unfold binE; cases a ρ h with
  | ok x h => simp only [bind_ok, k_bin1_ok]; cases b ρ h <;> rfl
  | _ => rfl
def k_un1 (g : D → Hh → Res D) (r : Res D) : Res D := match r with
  | .ok x h => g x h
  | .raise c fs h => .raise c fs h
  | .stuck => .stuck
@[simp] theorem k_un1_ok (g : D → Hh → Res D) (x : D) (h : Hh) : k_un1 g (.ok x h) = g x h := (rfl)
@[simp] theorem k_un (g : D → Hh → Res D) (a : EM D) (ρ : Env) (h : Hh) : unE g a ρ h = k_un1 g (a ρ h) := by unfold unE; cases a ρ h <;> rfl
def k_tst1  (r : Res D) : Res Bool := match r with
  | .ok x h => asB x h
  | .raise c fs h => .raise c fs h
  | .stuck => .stuck
@[simp] theorem k_tst1_ok  (x : D) (h : Hh) : k_tst1  (.ok x h) = asB x h := (rfl)
@[simp] theorem k_tst (a : EM D) (ρ : Env) (h : Hh) : tstE a ρ h = k_tst1 (a ρ h) := by unfold tstE; cases a ρ h <;> rfl
def k_and1 (d : EM Bool) (ρ : Env) (r : Res Bool) : Res Bool := match r with
  | .ok x h => if x = true then d ρ h else .ok false h
  | .raise c fs h => .raise c fs h
  | .stuck => .stuck
@[simp] theorem k_and1_ok (d : EM Bool) (ρ : Env) (x : Bool) (h : Hh) : k_and1 d ρ (.ok x h) = if x = true then d ρ h else .ok false h := (rfl)
@[simp] theorem k_and (c d : EM Bool) (ρ : Env) (h : Hh) : andT c d ρ h = k_and1 d ρ (c ρ h) := by unfold andT; cases c ρ h <;> rfl
def k_or1 (d : EM Bool) (ρ : Env) (r : Res Bool) : Res Bool := match r with
  | .ok x h => if x = true then .ok true h else d ρ h
  | .raise c fs h => .raise c fs h
  | .stuck => .stuck
@[simp] theorem k_or1_ok (d : EM Bool) (ρ : Env) (x : Bool) (h : Hh) : k_or1 d ρ (.ok x h) = if x = true then .ok true h else d ρ h := (rfl)
@[simp] theorem k_or (c d : EM Bool) (ρ : Env) (h : Hh) : orT c d ρ h = k_or1 d ρ (c ρ h) := by unfold orT; cases c ρ h <;> rfl
def k_not1  (r : Res Bool) : Res Bool := match r with
  | .ok x h => .ok (!x) h
  | .raise c fs h => .raise c fs h
  | .stuck => .stuck
@[simp] theorem k_not1_ok  (x : Bool) (h : Hh) : k_not1  (.ok x h) = .ok (!x) h := (rfl)
@[simp] theorem k_not (c : EM Bool) (ρ : Env) (h : Hh) : notT c ρ h = k_not1 (c ρ h) := by unfold notT; cases c ρ h <;> rfl
def k_andE2 (b : EM D) (ρ : Env) (r : Res Bool) : Res D := match r with
  | .ok x h => if x = true then b ρ h else .ok (.bl false) h
  | .raise c fs h => .raise c fs h
  | .stuck => .stuck
@[simp] theorem k_andE2_ok (b : EM D) (ρ : Env) (x : Bool) (h : Hh) : k_andE2 b ρ (.ok x h) = if x = true then b ρ h else .ok (.bl false) h := (rfl)
def k_orE2 (b : EM D) (ρ : Env) (r : Res Bool) : Res D := match r with
  | .ok x h => if x = true then .ok (.bl true) h else b ρ h
  | .raise c fs h => .raise c fs h
  | .stuck => .stuck
@[simp] theorem k_orE2_ok (b : EM D) (ρ : Env) (x : Bool) (h : Hh) : k_orE2 b ρ (.ok x h) = if x = true then .ok (.bl true) h else b ρ h := (rfl)
def k_notE2  (r : Res Bool) : Res D := match r with
  | .ok x h => .ok (.bl (!x)) h
  | .raise c fs h => .raise c fs h
  | .stuck => .stuck
@[simp] theorem k_notE2_ok  (x : Bool) (h : Hh) : k_notE2  (.ok x h) = .ok (.bl (!x)) h := (rfl)
@[simp] theorem k_andE (a b : EM D) (ρ : Env) (h : Hh) : andE a b ρ h = k_andE2 b ρ (k_tst1 (a ρ h)) := by
  unfold andE
  cases a ρ h with
  | ok x h => rw [bind_ok, k_tst1_ok]; cases asB x h <;> rfl
  | _ => rfl
@[simp] theorem k_orE (a b : EM D) (ρ : Env) (h : Hh) : orE a b ρ h = k_orE2 b ρ (k_tst1 (a ρ h)) := by
  unfold orE
  cases a ρ h with
  | ok x h => rw [bind_ok, k_tst1_ok]; cases asB x h <;> rfl
  | _ => rfl
@[simp] theorem k_notE (a : EM D) (ρ : Env) (h : Hh) : notE a ρ h = k_notE2 (k_tst1 (a ρ h)) := by
  unfold notE
  cases a ρ h with
  | ok x h => rw [bind_ok, k_tst1_ok]; cases asB x h <;> rfl
  | _ => rfl
def k_ifE1 (a : EM D) (b : EM D) (ρ : Env) (r : Res Bool) : Res D := match r with
  | .ok x h => if x = true then a ρ h else b ρ h
  | .raise c fs h => .raise c fs h
  | .stuck => .stuck
@[simp] theorem k_ifE1_ok (a : EM D) (b : EM D) (ρ : Env) (x : Bool) (h : Hh) : k_ifE1 a b ρ (.ok x h) = if x = true then a ρ h else b ρ h := (rfl)
@[simp] theorem k_ifE (c : EM Bool) (a b : EM D) (ρ : Env) (h : Hh) : ifE c a b ρ h = k_ifE1 a b ρ (c ρ h) := by unfold ifE; cases c ρ h <;> rfl
def k_cons2 (d : D) (r : Res (List D)) : Res (List D) := match r with
  | .ok l h => .ok (d :: l) h
  | .raise c fs h => .raise c fs h
  | .stuck => .stuck
@[simp] theorem k_cons2_ok (d : D) (l : List D) (h : Hh) : k_cons2 d (.ok l h) = .ok (d :: l) h := (rfl)
def k_cons1 (m : EM (List D)) (ρ : Env) (r : Res D) : Res (List D) := match r with
  | .ok d h => k_cons2 d (m ρ h)
  | .raise c fs h => .raise c fs h
  | .stuck => .stuck
@[simp] theorem k_cons1_ok (m : EM (List D)) (ρ : Env) (d : D) (h : Hh) : k_cons1 m ρ (.ok d h) = k_cons2 d (m ρ h) := (rfl)
@[simp] theorem k_cons (a : EM D) (m : EM (List D)) (ρ : Env) (h : Hh) : consA a m ρ h = k_cons1 m ρ (a ρ h) := by unfold consA; cases a ρ h with
  | ok x h => simp only [bind_ok, k_cons1_ok]; cases m ρ h <;> rfl
  | _ => rfl
def k_tup1  (r : Res (List D)) : Res D := match r with
  | .ok l h => .ok (.tup l) h
  | .raise c fs h => .raise c fs h
  | .stuck => .stuck
@[simp] theorem k_tup1_ok  (l : List D) (h : Hh) : k_tup1  (.ok l h) = .ok (.tup l) h := (rfl)
@[simp] theorem k_tup (m : EM (List D)) (ρ : Env) (h : Hh) : tupE m ρ h = k_tup1 (m ρ h) := by unfold tupE; cases m ρ h <;> rfl
def k_lst1  (r : Res (List D)) : Res D := match r with
  | .ok l h => .ok (.lst l) h
  | .raise c fs h => .raise c fs h
  | .stuck => .stuck
@[simp] theorem k_lst1_ok  (l : List D) (h : Hh) : k_lst1  (.ok l h) = .ok (.lst l) h := (rfl)
@[simp] theorem k_lst (m : EM (List D)) (ρ : Env) (h : Hh) : lstE m ρ h = k_lst1 (m ρ h) := by unfold lstE; cases m ρ h <;> rfl
def k_lstH1  (r : Res (List D)) : Res D := match r with
  | .ok l h => newL l h
  | .raise c fs h => .raise c fs h
  | .stuck => .stuck
@[simp] theorem k_lstH1_ok  (l : List D) (h : Hh) : k_lstH1  (.ok l h) = newL l h := (rfl)
@[simp] theorem k_lstH (m : EM (List D)) (ρ : Env) (h : Hh) : lstH m ρ h = k_lstH1 (m ρ h) := by unfold lstH; cases m ρ h <;> rfl
def k_call1 (g : List D → Hh → Res D) (r : Res (List D)) : Res D := match r with
  | .ok l h => g l h
  | .raise c fs h => .raise c fs h
  | .stuck => .stuck
@[simp] theorem k_call1_ok (g : List D → Hh → Res D) (l : List D) (h : Hh) : k_call1 g (.ok l h) = g l h := (rfl)
@[simp] theorem k_call (g : List D → Hh → Res D) (m : EM (List D)) (ρ : Env) (h : Hh) : callE g m ρ h = k_call1 g (m ρ h) := by unfold callE; cases m ρ h <;> rfl
def k_part1  (r : Res D) : Res (Option Int) := match r with
  | .ok x h => asI x h
  | .raise c fs h => .raise c fs h
  | .stuck => .stuck
@[simp] theorem k_part1_ok  (x : D) (h : Hh) : k_part1  (.ok x h) = asI x h := (rfl)
@[simp] theorem k_part (a : EM D) (ρ : Env) (h : Hh) : partE a ρ h = k_part1 (a ρ h) := by unfold partE; cases a ρ h <;> rfl
def k_sl3 (g : D → Option Int → Option Int → Hh → Res D) (d : D) (lo : Option Int) (r : Res (Option Int)) : Res D := match r with
  | .ok hi h => g d lo hi h
  | .raise c fs h => .raise c fs h
  | .stuck => .stuck
@[simp] theorem k_sl3_ok (g : D → Option Int → Option Int → Hh → Res D) (d : D) (lo : Option Int) (hi : Option Int) (h : Hh) : k_sl3 g d lo (.ok hi h) = g d lo hi h := (rfl)
def k_sl2 (g : D → Option Int → Option Int → Hh → Res D) (d : D) (mh : EM (Option Int)) (ρ : Env) (r : Res (Option Int)) : Res D := match r with
  | .ok lo h => k_sl3 g d lo (mh ρ h)
  | .raise c fs h => .raise c fs h
  | .stuck => .stuck
@[simp] theorem k_sl2_ok (g : D → Option Int → Option Int → Hh → Res D) (d : D) (mh : EM (Option Int)) (ρ : Env) (lo : Option Int) (h : Hh) : k_sl2 g d mh ρ (.ok lo h) = k_sl3 g d lo (mh ρ h) := (rfl)
def k_sl1 (g : D → Option Int → Option Int → Hh → Res D) (ml : EM (Option Int)) (mh : EM (Option Int)) (ρ : Env) (r : Res D) : Res D := match r with
  | .ok d h => k_sl2 g d mh ρ (ml ρ h)
  | .raise c fs h => .raise c fs h
  | .stuck => .stuck
@[simp] theorem k_sl1_ok (g : D → Option Int → Option Int → Hh → Res D) (ml : EM (Option Int)) (mh : EM (Option Int)) (ρ : Env) (d : D) (h : Hh) : k_sl1 g ml mh ρ (.ok d h) = k_sl2 g d mh ρ (ml ρ h) := (rfl)
@[simp] theorem k_sl (g : D → Option Int → Option Int → Hh → Res D) (a : EM D) (ml mh : EM (Option Int)) (ρ : Env) (h : Hh) : slE g a ml mh ρ h = k_sl1 g ml mh ρ (a ρ h) := by
  unfold slE
  cases a ρ h with
  | ok x h =>
    simp only [bind_ok, k_sl1_ok]
    cases ml ρ h with
    | ok lo h => simp only [bind_ok, k_sl2_ok]; cases mh ρ h <;> rfl
    | _ => rfl
  | _ => rfl
open Classical in
noncomputable def k_meth2 (g : D → List D → Hh → Res D) (o : D) (r : Res (List D)) : Res D := match r with
  | .ok l h => g o l h
  | .raise c fs h => .raise c fs h
  | .stuck => .stuck
@[simp] theorem k_meth2_ok (g : D → List D → Hh → Res D) (o : D) (l : List D) (h : Hh) : k_meth2 g o (.ok l h) = g o l h := (rfl)
open Classical in
noncomputable def k_meth1 (ty : D → Hh → Prop) (g : D → List D → Hh → Res D) (m : EM (List D)) (ρ : Env) (r : Res D) : Res D := match r with
  | .ok o h => if ty o h then k_meth2 g o (m ρ h) else .stuck
  | .raise c fs h => .raise c fs h
  | .stuck => .stuck
open Classical in
@[simp] theorem k_meth1_ok (ty : D → Hh → Prop) (g : D → List D → Hh → Res D) (m : EM (List D)) (ρ : Env) (o : D) (h : Hh) : k_meth1 ty g m ρ (.ok o h) = if ty o h then k_meth2 g o (m ρ h) else .stuck := (rfl)
@[simp] theorem k_meth (ty : D → Hh → Prop) (g : D → List D → Hh → Res D) (a : EM D) (m : EM (List D)) (ρ : Env) (h : Hh) : methE ty g a m ρ h = k_meth1 ty g m ρ (a ρ h) := by
  unfold methE
  cases a ρ h with
  | ok o h =>
    rw [bind_ok, k_meth1_ok]
    congr 1
    cases m ρ h <;> rfl
  | _ => rfl
def k_seq1 (y : SS) (r : SR) : SR := r.andThen y
@[simp] theorem k_seq1_nx (y : SS) (ρ : Env) (h : Hh) : k_seq1 y (.nx ρ h) = y ρ h := (rfl)
@[simp] theorem k_seq1_ret (y : SS) (d : D) (h : Hh) : k_seq1 y (.ret d h) = .ret d h := (rfl)
@[simp] theorem k_seq1_bk (y : SS) (ρ : Env) (h : Hh) : k_seq1 y (.bk ρ h) = .bk ρ h := (rfl)
@[simp] theorem k_seq1_ct (y : SS) (ρ : Env) (h : Hh) : k_seq1 y (.ct ρ h) = .ct ρ h := (rfl)
@[simp] theorem k_seq1_rs (y : SS) (c : Str) (fs : List (Str × D)) (ρ : Env) (h : Hh) : k_seq1 y (.rs c fs ρ h) = .rs c fs ρ h := (rfl)
@[simp] theorem k_seq (x y : SS) (ρ : Env) (h : Hh) : seqS x y ρ h = k_seq1 y (x ρ h) := (rfl)
def k_expr1 (ρ : Env) (r : Res D) : SR := match r with
  | .ok _d h => .nx ρ h
  | .raise c fs h => .rs c fs ρ h
  | .stuck => .stuck
@[simp] theorem k_expr1_ok (ρ : Env) (_d : D) (h : Hh) : k_expr1 ρ (.ok _d h) = .nx ρ h := (rfl)
@[simp] theorem k_expr1_raise (ρ : Env) (c : Str) (fs : List (Str × D)) (h : Hh) : k_expr1 ρ (.raise c fs h) = .rs c fs ρ h := (rfl)
@[simp] theorem k_expr (a : EM D) (ρ : Env) (h : Hh) : exprS a ρ h = k_expr1 ρ (a ρ h) := by unfold exprS; cases a ρ h <;> rfl
def k_ret1 (ρ : Env) (r : Res D) : SR := match r with
  | .ok d h => .ret d h
  | .raise c fs h => .rs c fs ρ h
  | .stuck => .stuck
@[simp] theorem k_ret1_ok (ρ : Env) (d : D) (h : Hh) : k_ret1 ρ (.ok d h) = .ret d h := (rfl)
@[simp] theorem k_ret1_raise (ρ : Env) (c : Str) (fs : List (Str × D)) (h : Hh) : k_ret1 ρ (.raise c fs h) = .rs c fs ρ h := (rfl)
@[simp] theorem k_ret (a : EM D) (ρ : Env) (h : Hh) : retS a ρ h = k_ret1 ρ (a ρ h) := by unfold retS; cases a ρ h <;> rfl
def k_if1 (x : SS) (y : SS) (ρ : Env) (r : Res Bool) : SR := match r with
  | .ok b h => if b = true then x ρ h else y ρ h
  | .raise c fs h => .rs c fs ρ h
  | .stuck => .stuck
@[simp] theorem k_if1_ok (x : SS) (y : SS) (ρ : Env) (b : Bool) (h : Hh) : k_if1 x y ρ (.ok b h) = if b = true then x ρ h else y ρ h := (rfl)
@[simp] theorem k_if1_raise (x : SS) (y : SS) (ρ : Env) (c : Str) (fs : List (Str × D)) (h : Hh) : k_if1 x y ρ (.raise c fs h) = .rs c fs ρ h := (rfl)
@[simp] theorem k_if (c : EM Bool) (x y : SS) (ρ : Env) (h : Hh) : ifS c x y ρ h = k_if1 x y ρ (c ρ h) := by unfold ifS; cases c ρ h <;> rfl
def k_set1 (i : Nat) (ρ : Env) (r : Res D) : SR := match r with
  | .ok d h => .nx (ρ.set i (some d)) h
  | .raise c fs h => .rs c fs ρ h
  | .stuck => .stuck
@[simp] theorem k_set1_ok (i : Nat) (ρ : Env) (d : D) (h : Hh) : k_set1 i ρ (.ok d h) = .nx (ρ.set i (some d)) h := (rfl)
@[simp] theorem k_set1_raise (i : Nat) (ρ : Env) (c : Str) (fs : List (Str × D)) (h : Hh) : k_set1 i ρ (.raise c fs h) = .rs c fs ρ h := (rfl)
@[simp] theorem k_set (i : Nat) (a : EM D) (ρ : Env) (h : Hh) : setS i a ρ h = k_set1 i ρ (a ρ h) := by unfold setS; cases a ρ h <;> rfl
def k_opt (o : Option Env) (h : Hh) : SR := match o with
  | some ρ' => .nx ρ' h
  | none => .stuck
@[simp] theorem k_opt_some (ρ' : Env) (h : Hh) : k_opt (some ρ') h = .nx ρ' h := (rfl)
def k_optH (o : Option Hh) (ρ : Env) : SR := match o with
  | some h => .nx ρ h
  | none => .stuck
@[simp] theorem k_optH_some (ρ : Env) (h : Hh) : k_optH (some h) ρ = .nx ρ h := (rfl)
def k_asg1 (g : GM) (ρ : Env) (r : Res D) : SR := match r with
  | .ok d h => k_opt (g d ρ) h
  | .raise c fs h => .rs c fs ρ h
  | .stuck => .stuck
@[simp] theorem k_asg1_ok (g : GM) (ρ : Env) (d : D) (h : Hh) : k_asg1 g ρ (.ok d h) = k_opt (g d ρ) h := (rfl)
@[simp] theorem k_asg1_raise (g : GM) (ρ : Env) (c : Str) (fs : List (Str × D)) (h : Hh) : k_asg1 g ρ (.raise c fs h) = .rs c fs ρ h := (rfl)
@[simp] theorem k_asg (a : EM D) (g : GM) (ρ : Env) (h : Hh) : asgS a g ρ h = k_asg1 g ρ (a ρ h) := by
  unfold asgS
  cases a ρ h with
  | ok d h => rw [toS_ok, k_asg1_ok]; cases g d ρ <;> rfl
  | _ => rfl
def k_put3 (v : D) (o : D) (ρ : Env) (r : Res D) : SR := match r with
  | .ok i h => k_optH (putO o i v h) ρ
  | .raise c fs h => .rs c fs ρ h
  | .stuck => .stuck
@[simp] theorem k_put3_ok (v : D) (o : D) (ρ : Env) (i : D) (h : Hh) : k_put3 v o ρ (.ok i h) = k_optH (putO o i v h) ρ := (rfl)
@[simp] theorem k_put3_raise (v : D) (o : D) (ρ : Env) (c : Str) (fs : List (Str × D)) (h : Hh) : k_put3 v o ρ (.raise c fs h) = .rs c fs ρ h := (rfl)
def k_put2 (v : D) (mi : EM D) (ρ : Env) (r : Res D) : SR := match r with
  | .ok o h => k_put3 v o ρ (mi ρ h)
  | .raise c fs h => .rs c fs ρ h
  | .stuck => .stuck
@[simp] theorem k_put2_ok (v : D) (mi : EM D) (ρ : Env) (o : D) (h : Hh) : k_put2 v mi ρ (.ok o h) = k_put3 v o ρ (mi ρ h) := (rfl)
@[simp] theorem k_put2_raise (v : D) (mi : EM D) (ρ : Env) (c : Str) (fs : List (Str × D)) (h : Hh) : k_put2 v mi ρ (.raise c fs h) = .rs c fs ρ h := (rfl)
def k_put1 (mo : EM D) (mi : EM D) (ρ : Env) (r : Res D) : SR := match r with
  | .ok v h => k_put2 v mi ρ (mo ρ h)
  | .raise c fs h => .rs c fs ρ h
  | .stuck => .stuck
@[simp] theorem k_put1_ok (mo : EM D) (mi : EM D) (ρ : Env) (v : D) (h : Hh) : k_put1 mo mi ρ (.ok v h) = k_put2 v mi ρ (mo ρ h) := (rfl)
@[simp] theorem k_put1_raise (mo : EM D) (mi : EM D) (ρ : Env) (c : Str) (fs : List (Str × D)) (h : Hh) : k_put1 mo mi ρ (.raise c fs h) = .rs c fs ρ h := (rfl)
@[simp] theorem k_put (a mo mi : EM D) (ρ : Env) (h : Hh) : putS a mo mi ρ h = k_put1 mo mi ρ (a ρ h) := by
  unfold putS
  cases a ρ h with
  | ok v h =>
    rw [toS_ok, k_put1_ok]
    cases mo ρ h with
    | ok o h =>
      rw [toS_ok, k_put2_ok]
      cases mi ρ h with
      | ok i h => rw [toS_ok, k_put3_ok]; cases putO o i v h <;> rfl
      | _ => rfl
    | _ => rfl
  | _ => rfl
def k_aug2 (i : Nat) (ρ : Env) (r : Res D) : SR := match r with
  | .ok z h => .nx (ρ.set i (some z)) h
  | .raise c fs h => .rs c fs ρ h
  | .stuck => .stuck
@[simp] theorem k_aug2_ok (i : Nat) (ρ : Env) (z : D) (h : Hh) : k_aug2 i ρ (.ok z h) = .nx (ρ.set i (some z)) h := (rfl)
@[simp] theorem k_aug2_raise (i : Nat) (ρ : Env) (c : Str) (fs : List (Str × D)) (h : Hh) : k_aug2 i ρ (.raise c fs h) = .rs c fs ρ h := (rfl)
def k_aug1 (i : Nat) (g : D → D → Hh → Res D) (x : D) (ρ : Env) (r : Res D) : SR := match r with
  | .ok y h => k_aug2 i ρ (g x y h)
  | .raise c fs h => .rs c fs ρ h
  | .stuck => .stuck
@[simp] theorem k_aug1_ok (i : Nat) (g : D → D → Hh → Res D) (x : D) (ρ : Env) (y : D) (h : Hh) : k_aug1 i g x ρ (.ok y h) = k_aug2 i ρ (g x y h) := (rfl)
@[simp] theorem k_aug1_raise (i : Nat) (g : D → D → Hh → Res D) (x : D) (ρ : Env) (c : Str) (fs : List (Str × D)) (h : Hh) : k_aug1 i g x ρ (.raise c fs h) = .rs c fs ρ h := (rfl)
theorem k_aug {i : Nat} {g : D → D → Hh → Res D} {a : EM D} {x : D} (e : ρ[i]? = some (some x)) : augS i g a ρ h = k_aug1 i g x ρ (a ρ h) := by
  unfold augS
  rw [e]
  simp only
  cases a ρ h with
  | ok y h => rw [toS_ok, k_aug1_ok]; cases g x y h <;> rfl
  | _ => rfl
def k_rngI1 (r : Res (List D)) : Res IT := match r with
  | .ok l h => rngD l h
  | .raise c fs h => .raise c fs h
  | .stuck => .stuck
@[simp] theorem k_rngI1_ok (l : List D) (h : Hh) : k_rngI1 (.ok l h) = rngD l h := (rfl)
@[simp] theorem k_rngI (m : EM (List D)) (ρ : Env) (h : Hh) : rngI m ρ h = k_rngI1 (m ρ h) := by unfold rngI; cases m ρ h <;> rfl
def k_zipI1 (r : Res (List D)) : Res IT := match r with
  | .ok l h => zipD l h
  | .raise c fs h => .raise c fs h
  | .stuck => .stuck
@[simp] theorem k_zipI1_ok (l : List D) (h : Hh) : k_zipI1 (.ok l h) = zipD l h := (rfl)
@[simp] theorem k_zipI (m : EM (List D)) (ρ : Env) (h : Hh) : zipI m ρ h = k_zipI1 (m ρ h) := by unfold zipI; cases m ρ h <;> rfl
def k_enumI1 (r : Res (List D)) : Res IT := match r with
  | .ok l h => enumD l h
  | .raise c fs h => .raise c fs h
  | .stuck => .stuck
@[simp] theorem k_enumI1_ok (l : List D) (h : Hh) : k_enumI1 (.ok l h) = enumD l h := (rfl)
@[simp] theorem k_enumI (m : EM (List D)) (ρ : Env) (h : Hh) : enumI m ρ h = k_enumI1 (m ρ h) := by unfold enumI; cases m ρ h <;> rfl
def k_seqI1 (r : Res D) : Res IT := match r with
  | .ok d h => itOf d h
  | .raise c fs h => .raise c fs h
  | .stuck => .stuck
@[simp] theorem k_seqI1_ok (d : D) (h : Hh) : k_seqI1 (.ok d h) = itOf d h := (rfl)
@[simp] theorem k_seqI (a : EM D) (ρ : Env) (h : Hh) : seqI a ρ h = k_seqI1 (a ρ h) := by unfold seqI; cases a ρ h <;> rfl
noncomputable def k_for1 (g : GM) (x : SS) (ρ : Env) (r : Res IT) : SR := match r with
  | .ok it h => loopS it.chk g x it.items ρ h
  | .raise c fs h => .rs c fs ρ h
  | .stuck => .stuck
@[simp] theorem k_for1_ok (g : GM) (x : SS) (ρ : Env) (l : List D) (h : Hh) : k_for1 g x ρ (.ok ⟨l, none⟩ h) = loopS (fun _ => True) g x l ρ h := (rfl)
@[simp] theorem k_for1_okS (g : GM) (x : SS) (ρ : Env) (l : List D) (n : Nat) (h : Hh) : k_for1 g x ρ (.ok ⟨l, some n⟩ h) = loopS (fun h => h[n]? = some (.lst l)) g x l ρ h := (rfl)
@[simp] theorem k_for (mi : EM IT) (g : GM) (x : SS) (ρ : Env) (h : Hh) : forS mi g x ρ h = k_for1 g x ρ (mi ρ h) := by unfold forS; cases mi ρ h <;> rfl
/-! on the mutable lists and dicts: by what stands there -/
def oL (o : Option O) : Option (List D) := match o with
  | some (.lst l) => some l
  | _ => none
def oK (o : Option O) : Option (List (D × D)) := match o with
  | some (.dic l) => some l
  | _ => none
@[simp] theorem oL_lst (l : List D) : oL (some (.lst l)) = some l := (rfl)
@[simp] theorem oL_dic (l : List (D × D)) : oL (some (.dic l)) = none := (rfl)
@[simp] theorem oK_dic (l : List (D × D)) : oK (some (.dic l)) = some l := (rfl)
@[simp] theorem oK_lst (l : List D) : oK (some (.lst l)) = none := (rfl)
@[simp] theorem lstOf_refK (n : Nat) : lstOf (.ref n) h = oL h[n]? := by
  unfold lstOf
  simp only
  cases h[n]? with
  | none => rfl
  | some o => cases o <;> rfl
@[simp] theorem dicOf_refK (n : Nat) : dicOf (.ref n) h = oK h[n]? := by
  unfold dicOf
  simp only
  cases h[n]? with
  | none => rfl
  | some o => cases o <;> rfl
def k_ml (n : Nat) (o : Option (List D)) : Option (Nat × List D) := match o with
  | some l => some (n, l)
  | none => none
@[simp] theorem k_ml_some (n : Nat) (l : List D) : k_ml n (some l) = some (n, l) := (rfl)
@[simp] theorem k_ml_none (n : Nat) : k_ml n none = none := (rfl)
theorem mlOf_refK (n : Nat) : mlOf (.ref n) h = k_ml n (oL h[n]?) := by
  unfold mlOf
  simp only
  cases h[n]? with
  | none => rfl
  | some o => cases o <;> rfl
def k_app (n : Nat) (d : D) (h : Hh) (o : Option (List D)) : Res D := match o with
  | some xs => if xs.length < sizeLine then .ok .non (h.set n (.lst (xs ++ [d]))) else .stuck
  | none => .stuck
@[simp] theorem k_app_some (n : Nat) (d : D) (h : Hh) (xs : List D) : k_app n d h (some xs) = if xs.length < sizeLine then .ok .non (h.set n (.lst (xs ++ [d]))) else .stuck := (rfl)
@[simp] theorem ev_append (n : Nat) (d : D) : appendD (.ref n) [d] h = k_app n d h (oL h[n]?) := by
  unfold appendD
  rw [mlOf_refK]
  cases oL h[n]? <;> rfl
def k_ext2 (n : Nat) (xs : List D) (h : Hh) (o : Option (List D)) : Res D := match o with
  | some ys => if xs.length + ys.length ≤ sizeLine then .ok .non (h.set n (.lst (xs ++ ys))) else .stuck
  | none => .stuck
@[simp] theorem k_ext2_some (n : Nat) (xs : List D) (h : Hh) (ys : List D) : k_ext2 n xs h (some ys) = if xs.length + ys.length ≤ sizeLine then .ok .non (h.set n (.lst (xs ++ ys))) else .stuck := (rfl)
def k_ext1 (n : Nat) (d : D) (h : Hh) (o : Option (List D)) : Res D := match o with
  | some xs => k_ext2 n xs h (lstOf d h)
  | none => .stuck
@[simp] theorem k_ext1_some (n : Nat) (d : D) (h : Hh) (xs : List D) : k_ext1 n d h (some xs) = k_ext2 n xs h (lstOf d h) := (rfl)
@[simp] theorem ev_extend (n : Nat) (d : D) : extendD (.ref n) [d] h = k_ext1 n d h (oL h[n]?) := by
  unfold extendD
  rw [mlOf_refK]
  cases oL h[n]? with
  | none => rfl
  | some xs => rw [k_ext1_some]; show (match lstOf d h with | some ys => _ | none => _) = _; cases lstOf d h <;> rfl
def k_pop2 (n : Nat) (xs : List D) (h : Hh) (o : Option D) : Res D := match o with
  | some d => .ok d (h.set n (.lst xs.dropLast))
  | none => .stuck
@[simp] theorem k_pop2_some (n : Nat) (xs : List D) (h : Hh) (d : D) : k_pop2 n xs h (some d) = .ok d (h.set n (.lst xs.dropLast)) := (rfl)
def k_pop1 (n : Nat) (h : Hh) (o : Option (List D)) : Res D := match o with
  | some xs => k_pop2 n xs h xs.getLast?
  | none => .stuck
@[simp] theorem k_pop1_some (n : Nat) (h : Hh) (xs : List D) : k_pop1 n h (some xs) = k_pop2 n xs h xs.getLast? := (rfl)
@[simp] theorem ev_pop (n : Nat) : popD (.ref n) [] h = k_pop1 n h (oL h[n]?) := by
  unfold popD
  rw [mlOf_refK]
  cases oL h[n]? with
  | none => rfl
  | some xs => rw [k_pop1_some]; show (match xs.getLast? with | some ys => _ | none => _) = _; cases xs.getLast? <;> rfl
def k_okT (h : Hh) (o : Option (List D)) : Res D := match o with
  | some xs => .ok (.tup xs) h
  | none => .stuck
@[simp] theorem k_okT_some (h : Hh) (xs : List D) : k_okT h (some xs) = .ok (.tup xs) h := (rfl)
@[simp] theorem ev_tupleR (n : Nat) : tupleD [.ref n] h = k_okT h (oL h[n]?) := by
  show (match lstOf (.ref n) h with | some l => _ | none => _) = _
  rw [lstOf_refK]
  cases oL h[n]? <;> rfl
def k_okL (h : Hh) (o : Option (List D)) : Res D := match o with
  | some xs => .ok (.lst xs) h
  | none => .stuck
@[simp] theorem k_okL_some (h : Hh) (xs : List D) : k_okL h (some xs) = .ok (.lst xs) h := (rfl)
@[simp] theorem ev_listR (n : Nat) : listD [.ref n] h = k_okL h (oL h[n]?) := by
  show (match lstOf (.ref n) h with | some l => _ | none => _) = _
  rw [lstOf_refK]
  cases oL h[n]? <;> rfl
def k_newL (h : Hh) (o : Option (List D)) : Res D := match o with
  | some xs => newL xs h
  | none => .stuck
@[simp] theorem k_newL_some (h : Hh) (xs : List D) : k_newL h (some xs) = newL xs h := (rfl)
@[simp] theorem ev_listM (d : D) : listM [d] h = k_newL h (seqOf d h) := by
  show (match seqOf d h with | some l => _ | none => _) = _
  cases seqOf d h <;> rfl
@[simp] theorem seqOf_tup (l : List D) : seqOf (.tup l) h = some l := (rfl)
@[simp] theorem seqOf_lst (l : List D) : seqOf (.lst l) h = some l := (rfl)
@[simp] theorem seqOf_ref (n : Nat) : seqOf (.ref n) h = oL h[n]? := by
  show lstOf (.ref n) h = _
  exact lstOf_refK n
def k_lenR (h : Hh) (o : Option O) : Res D := match o with
  | some (.lst l) => .ok (.int l.length) h
  | some (.dic l) => .ok (.int l.length) h
  | _ => .stuck
@[simp] theorem k_lenR_lst (h : Hh) (l : List D) : k_lenR h (some (.lst l)) = .ok (.int l.length) h := (rfl)
@[simp] theorem k_lenR_dic (h : Hh) (l : List (D × D)) : k_lenR h (some (.dic l)) = .ok (.int l.length) h := (rfl)
@[simp] theorem ev_lenR (n : Nat) : lenD [.ref n] h = k_lenR h h[n]? := by
  show (match lstOf (.ref n) h with | some l => _ | none => match dicOf (.ref n) h with | some l => _ | none => _) = _
  rw [lstOf_refK, dicOf_refK]
  cases h[n]? with
  | none => rfl
  | some o => cases o <;> rfl
def k_itR (n : Nat) (h : Hh) (o : Option (List D)) : Res IT := match o with
  | some l => .ok ⟨l, some n⟩ h
  | none => .stuck
@[simp] theorem k_itR_some (n : Nat) (h : Hh) (l : List D) : k_itR n h (some l) = .ok ⟨l, some n⟩ h := (rfl)
@[simp] theorem ev_itR (n : Nat) : itOf (.ref n) h = k_itR n h (oL h[n]?) := by
  show (match h[n]? with | some (.lst l) => _ | _ => _) = _
  cases h[n]? with
  | none => rfl
  | some o => cases o <;> rfl
def k_ix (h : Hh) (o : Option D) : Res D := match o with
  | some d => .ok d h
  | none => .stuck
@[simp] theorem k_ix_some (h : Hh) (d : D) : k_ix h (some d) = .ok d h := (rfl)
def k_ixI (h : Hh) (o : Option Int) : Res D := match o with
  | some d => .ok (.int d) h
  | none => .stuck
@[simp] theorem k_ixI_some (h : Hh) (d : Int) : k_ixI h (some d) = .ok (.int d) h := (rfl)
@[simp] theorem ev_ixT (l : List D) (i : Int) : ixD (.tup l) (.int i) h = k_ix h (atI l i) := (rfl)
@[simp] theorem ev_ixL (l : List D) (i : Int) : ixD (.lst l) (.int i) h = k_ix h (atI l i) := (rfl)
@[simp] theorem ev_ixS (l : List Int) (i : Int) : ixD (.scr l) (.int i) h = k_ixI h (atI l i) := by
  show (match atI l i with | some d => _ | none => _) = _
  cases atI l i <;> rfl
def k_ixR (h : Hh) (i : Int) (o : Option (List D)) : Res D := match o with
  | some l => k_ix h (atI l i)
  | none => .stuck
@[simp] theorem k_ixR_some (h : Hh) (i : Int) (l : List D) : k_ixR h i (some l) = k_ix h (atI l i) := (rfl)
def k_ixL (h : Hh) (b : D) (l : List D) : Res D := match b with
  | .int i => k_ix h (atI l i)
  | _ => .stuck
@[simp] theorem k_ixL_int (h : Hh) (i : Int) (l : List D) : k_ixL h (.int i) l = k_ix h (atI l i) := (rfl)
def k_ixK (h : Hh) (b : D) (l : List (D × D)) : Res D := if (keyD b).isSome = true then k_ix h (lookD l b) else .stuck
theorem k_ixK_run (h : Hh) (b : D) (l : List (D × D)) (hb : (keyD b).isSome = true) : k_ixK h b l = k_ix h (lookD l b) := if_pos hb
@[simp] theorem k_ixK_int (h : Hh) (i : Int) (l : List (D × D)) : k_ixK h (.int i) l = k_ix h (lookD l (.int i)) := (rfl)
@[simp] theorem k_ixK_str (h : Hh) (i : Str) (l : List (D × D)) : k_ixK h (.str i) l = k_ix h (lookD l (.str i)) := (rfl)
def k_ixO (h : Hh) (b : D) (o : Option O) : Res D := match o with
  | some (.lst l) => k_ixL h b l
  | some (.dic l) => k_ixK h b l
  | _ => .stuck
@[simp] theorem k_ixO_lst (h : Hh) (b : D) (l : List D) : k_ixO h b (some (.lst l)) = k_ixL h b l := (rfl)
@[simp] theorem k_ixO_dic (h : Hh) (b : D) (l : List (D × D)) : k_ixO h b (some (.dic l)) = k_ixK h b l := (rfl)
@[simp] theorem ev_ixR (n : Nat) (b : D) : ixD (.ref n) b h = k_ixO h b h[n]? := by
  unfold ixD
  simp only [lstOf_refK, dicOf_refK]
  cases h[n]? with
  | none => rfl
  | some o =>
    cases o with
    | lst l =>
      simp only [oL_lst, k_ixO_lst]
      cases b with
      | int i => simp only [k_ixL_int]; cases atI l i <;> rfl
      | _ => rfl
    | dic l =>
      simp only [oL_dic, oK_dic, k_ixO_dic, k_ixK]
      by_cases hb : (keyD b).isSome = true
      · rw [if_pos hb, if_pos hb]; cases lookD l b <;> rfl
      · rw [if_neg hb, if_neg hb]
    | _ => rfl
@[simp] theorem ev_ixDic (l : List (D × D)) (b : D) : ixD (.dic l) b h = k_ixK h b l := by
  show (if (keyD b).isSome = true then (match lookD l b with | some d => _ | none => _) else _) = _
  unfold k_ixK
  by_cases hb : (keyD b).isSome = true
  · rw [if_pos hb, if_pos hb]; cases lookD l b <;> rfl
  · rw [if_neg hb, if_neg hb]
theorem atI_nn {α : Type} {l : List α} {i : Int} {v : α} (h0 : 0 ≤ i) (e : l[i.toNat]? = some v) : atI l i = some v := by
  have := atI_nat e
  rwa [Int.toNat_of_nonneg h0] at this
theorem atI_natE {α : Type} (l : List α) (k : Nat) : atI l (k : Int) = l[k]? := by
  unfold atI ixN
  rw [if_pos (Int.natCast_nonneg k)]
  by_cases hk : (k : Int) < l.length
  · rw [if_pos hk, Option.bind_some, Int.toNat_natCast]
  · rw [if_neg hk, Option.bind_none, List.getElem?_eq_none (by omega)]
@[simp] theorem atI_l2 {α : Type} (l : List α) : atI l 2 = l[2]? := atI_natE l 2
@[simp] theorem atI_l3 {α : Type} (l : List α) : atI l 3 = l[3]? := atI_natE l 3
@[simp] theorem atI_l4 {α : Type} (l : List α) : atI l 4 = l[4]? := atI_natE l 4
@[simp] theorem atI_l5 {α : Type} (l : List α) : atI l 5 = l[5]? := atI_natE l 5
@[simp] theorem atI_l6 {α : Type} (l : List α) : atI l 6 = l[6]? := atI_natE l 6
@[simp] theorem atI_l7 {α : Type} (l : List α) : atI l 7 = l[7]? := atI_natE l 7
@[simp] theorem atI_l8 {α : Type} (l : List α) : atI l 8 = l[8]? := atI_natE l 8
@[simp] theorem atI_l9 {α : Type} (l : List α) : atI l 9 = l[9]? := atI_natE l 9
@[simp] theorem atI_l0 {α : Type} (l : List α) : atI l 0 = l[0]? := atI_natE l 0
@[simp] theorem atI_l1 {α : Type} (l : List α) : atI l 1 = l[1]? := atI_natE l 1
theorem atI_nnE {α : Type} (l : List α) {i : Int} (h0 : 0 ≤ i) : atI l i = l[i.toNat]? := by
  rw [← atI_natE, Int.toNat_of_nonneg h0]
@[simp] theorem atI_m1 {α : Type} (l : List α) : atI l (-1) = l.getLast? := by
  unfold atI ixN
  rw [if_neg (by omega), List.getLast?_eq_getElem?]
  by_cases hk : -(l.length : Int) ≤ -1
  · rw [if_pos hk, Option.bind_some]
    congr 1
    omega
  · rw [if_neg hk, Option.bind_none, List.getElem?_eq_none (by omega)]
@[simp] theorem ev_slS (z : Str) (lo hi : Option Int) : slD (.str z) lo hi h = if z.length ≤ sizeLine then .ok (.str (cutS z lo hi)) h else .stuck := (rfl)
@[simp] theorem ev_slT (l : List D) (lo hi : Option Int) : slD (.tup l) lo hi h = .ok (.tup (cutD l lo hi)) h := (rfl)
@[simp] theorem ev_slL (l : List D) (lo hi : Option Int) : slD (.lst l) lo hi h = .ok (.lst (cutD l lo hi)) h := (rfl)
def k_slR (h : Hh) (lo hi : Option Int) (o : Option (List D)) : Res D := match o with
  | some l => .ok (.lst (cutD l lo hi)) h
  | none => .stuck
@[simp] theorem k_slR_some (h : Hh) (lo hi : Option Int) (l : List D) : k_slR h lo hi (some l) = .ok (.lst (cutD l lo hi)) h := (rfl)
@[simp] theorem ev_slR (n : Nat) (lo hi : Option Int) : slD (.ref n) lo hi h = k_slR h lo hi (oL h[n]?) := by
  show (match lstOf (.ref n) h with | some l => _ | none => _) = _
  rw [lstOf_refK]
  cases oL h[n]? <;> rfl
def k_hset (n : Nat) (l : List D) (v : D) (h : Hh) (o : Option Nat) : Option Hh := match o with
  | some j => some (h.set n (.lst (l.set j v)))
  | none => none
@[simp] theorem k_hset_some (n : Nat) (l : List D) (v : D) (h : Hh) (j : Nat) : k_hset n l v h (some j) = some (h.set n (.lst (l.set j v))) := (rfl)
def k_putL (n : Nat) (i : D) (v : D) (h : Hh) (l : List D) : Option Hh := match i with
  | .int k => k_hset n l v h (ixN l.length k)
  | _ => none
@[simp] theorem k_putL_int (n : Nat) (k : Int) (v : D) (h : Hh) (l : List D) : k_putL n (.int k) v h l = k_hset n l v h (ixN l.length k) := (rfl)
noncomputable def k_putR (n : Nat) (i v : D) (h : Hh) (o : Option O) : Option Hh := match o with
  | some (.lst l) => k_putL n i v h l
  | some (.dic l) => if (keyD i).isSome = true ∧ l.length < sizeLine then some (h.set n (.dic (putD l i v))) else none
  | _ => none
@[simp] theorem k_putR_lst (n : Nat) (i v : D) (h : Hh) (l : List D) : k_putR n i v h (some (.lst l)) = k_putL n i v h l := (rfl)
@[simp] theorem k_putR_dic (n : Nat) (i v : D) (h : Hh) (l : List (D × D)) : k_putR n i v h (some (.dic l)) = if (keyD i).isSome = true ∧ l.length < sizeLine then some (h.set n (.dic (putD l i v))) else none := (rfl)
@[simp] theorem ev_put (n : Nat) (i v : D) : putO (.ref n) i v h = k_putR n i v h h[n]? := by
  unfold putO
  rw [mlOf_refK]
  have em : mdOf (.ref n) h = (match h[n]? with | some (.dic l) => some (n, l) | _ => none) := rfl
  rw [em]
  cases h[n]? with
  | none => rfl
  | some o =>
    cases o with
    | lst l =>
      simp only [oL_lst, k_ml_some, k_putR_lst]
      cases i with
      | int k => simp only [k_putL_int]; cases ixN l.length k <;> rfl
      | _ => rfl
    | _ => rfl
theorem ixN_natE (n k : Nat) : ixN n (k : Int) = if k < n then some k else none := by
  unfold ixN
  rw [if_pos (Int.natCast_nonneg k)]
  by_cases hk : k < n
  · rw [if_pos (by omega), if_pos hk, Int.toNat_natCast]
  · rw [if_neg (by omega), if_neg hk]
theorem ixN_nn {n : Nat} {k : Int} (h0 : 0 ≤ k) (h1 : k < n) : ixN n k = some k.toNat := by
  unfold ixN
  rw [if_pos h0, if_pos h1]
/-! values -/
@[simp] theorem addD_int (i j : Int) : addD (.int i) (.int j) h = .ok (.int (i + j)) h := (rfl)
@[simp] theorem subD_int (i j : Int) : subD (.int i) (.int j) h = .ok (.int (i - j)) h := (rfl)
theorem addD_tup (l m : List D) (hl : l.length + m.length ≤ sizeLine) : addD (.tup l) (.tup m) h = .ok (.tup (l ++ m)) h := if_pos hl
theorem addD_str (i j : Str) (hl : i.length + j.length ≤ sizeLine) : addD (.str i) (.str j) h = .ok (.str (i ++ j)) h := if_pos hl
theorem addD_lst (l m : List D) (hl : l.length + m.length ≤ sizeLine) : addD (.lst l) (.lst m) h = .ok (.lst (l ++ m)) h := if_pos hl
theorem mulD_int (i j : Int) (hl : small64 i ∨ small64 j) : mulD (.int i) (.int j) h = .ok (.int (i * j)) h := if_pos hl
theorem modD_int (i j : Int) (hj : 0 < j) : modD (.int i) (.int j) h = .ok (.int (i % j)) h := if_pos hj
theorem fdivD_int (i j : Int) (hj : 0 < j ∧ j < 1073741824) : fdivD (.int i) (.int j) h = .ok (.int (i / j)) h := if_pos hj
@[simp] theorem negD_int (i : Int) : negD (.int i) h = .ok (.int (-i)) h := (rfl)
@[simp] theorem ltD_int (i j : Int) : ltD (.int i) (.int j) h = .ok (.bl (decide (i < j))) h := (rfl)
@[simp] theorem leD_int (i j : Int) : leD (.int i) (.int j) h = .ok (.bl (decide (i ≤ j))) h := (rfl)
@[simp] theorem gtD_int (i j : Int) : gtD (.int i) (.int j) h = .ok (.bl (decide (j < i))) h := (rfl)
@[simp] theorem geD_int (i j : Int) : geD (.int i) (.int j) h = .ok (.bl (decide (j ≤ i))) h := (rfl)
theorem eqD_scal {x y : D} (s : scalD x y = true) : eqD x y h = .ok (.bl (eqvD x y)) h := if_pos s
theorem neD_scal {x y : D} (s : scalD x y = true) : neD x y h = .ok (.bl (!eqvD x y)) h := if_pos s
theorem eqD_vw {x y : D} (s : CmpOk (vwD h x)) (t : CmpOk (vwD h y)) (n : scalD x y = false) : eqD x y h = .ok (.bl (eqvD (vwD h x) (vwD h y))) h := by
  unfold eqD
  rw [if_neg (by rw [n]; exact Bool.false_ne_true), if_pos ⟨s, t⟩]
theorem eqD_cmp {x y : D} (s : CmpOk x) (t : CmpOk y) : eqD x y h = .ok (.bl (eqvD x y)) h := by
  unfold eqD
  by_cases q : scalD x y = true
  · rw [if_pos q]
  · rw [if_neg q, vwD_ok s.1, vwD_ok t.1, if_pos ⟨s, t⟩]
theorem neD_vw {x y : D} (s : CmpOk (vwD h x)) (t : CmpOk (vwD h y)) (n : scalD x y = false) : neD x y h = .ok (.bl (!eqvD (vwD h x) (vwD h y))) h := by
  unfold neD
  rw [if_neg (by rw [n]; exact Bool.false_ne_true), if_pos ⟨s, t⟩]
theorem neD_cmp {x y : D} (s : CmpOk x) (t : CmpOk y) : neD x y h = .ok (.bl (!eqvD x y)) h := by
  unfold neD
  by_cases q : scalD x y = true
  · rw [if_pos q]
  · rw [if_neg q, vwD_ok s.1, vwD_ok t.1, if_pos ⟨s, t⟩]
@[simp] theorem eqD_int (i j : Int) : eqD (.int i) (.int j) h = .ok (.bl (decide (i = j))) h := by
  rw [eqD_scal rfl]
  have : eqvD (.int i) (.int j) = decide (i = j) := by show (i == j) = _; rw [Bool.beq_eq_decide_eq]
  rw [this]
@[simp] theorem neD_int (i j : Int) : neD (.int i) (.int j) h = .ok (.bl (!decide (i = j))) h := by
  rw [neD_scal rfl]
  have : eqvD (.int i) (.int j) = decide (i = j) := by show (i == j) = _; rw [Bool.beq_eq_decide_eq]
  rw [this]
@[simp] theorem eqD_bl (i j : Bool) : eqD (.bl i) (.bl j) h = .ok (.bl (i == j)) h := eqD_scal rfl
@[simp] theorem neD_bl (i j : Bool) : neD (.bl i) (.bl j) h = .ok (.bl (!(i == j))) h := neD_scal rfl
@[simp] theorem eqD_str (i j : Str) : eqD (.str i) (.str j) h = .ok (.bl (decide (i = j))) h := by
  rw [eqD_scal rfl]
  have : eqvD (.str i) (.str j) = decide (i = j) := by show (i == j) = _; rw [Bool.beq_eq_decide_eq]
  rw [this]
@[simp] theorem neD_str (i j : Str) : neD (.str i) (.str j) h = .ok (.bl (!decide (i = j))) h := by
  rw [neD_scal rfl]
  have : eqvD (.str i) (.str j) = decide (i = j) := by show (i == j) = _; rw [Bool.beq_eq_decide_eq]
  rw [this]
@[simp] theorem eqD_int_str (i : Int) (j : Str) : eqD (.int i) (.str j) h = .ok (.bl false) h := eqD_scal rfl
@[simp] theorem eqD_str_int (i : Int) (j : Str) : eqD (.str j) (.int i) h = .ok (.bl false) h := eqD_scal rfl
@[simp] theorem eqD_non_str (j : Str) : eqD .non (.str j) h = .ok (.bl false) h := eqD_scal rfl
@[simp] theorem nonD_non : nonD .non = true := (rfl)
@[simp] theorem nonD_int (i : Int) : nonD (.int i) = false := (rfl)
@[simp] theorem nonD_bl (i : Bool) : nonD (.bl i) = false := (rfl)
@[simp] theorem nonD_str (i : Str) : nonD (.str i) = false := (rfl)
@[simp] theorem nonD_tup (i : List D) : nonD (.tup i) = false := (rfl)
@[simp] theorem nonD_lst (i : List D) : nonD (.lst i) = false := (rfl)
@[simp] theorem nonD_ref (i : Nat) : nonD (.ref i) = false := (rfl)
@[simp] theorem isD_run (d : D) : isD d .non h = .ok (.bl (nonD d)) h := (rfl)
@[simp] theorem isntD_run (d : D) : isntD d .non h = .ok (.bl (!nonD d)) h := (rfl)
@[simp] theorem lenD_tup (l : List D) : lenD [.tup l] h = .ok (.int l.length) h := (rfl)
@[simp] theorem lenD_lst (l : List D) : lenD [.lst l] h = .ok (.int l.length) h := (rfl)
@[simp] theorem lenD_scr (l : List Int) : lenD [.scr l] h = .ok (.int l.length) h := (rfl)
theorem lenD_str {x : Str} (hl : x.length ≤ sizeLine) : lenD [.str x] h = .ok (.int x.length) h := if_pos hl
@[simp] theorem tupleD_tup (l : List D) : tupleD [.tup l] h = .ok (.tup l) h := (rfl)
@[simp] theorem tupleD_lst (l : List D) : tupleD [.lst l] h = .ok (.tup l) h := (rfl)
@[simp] theorem listD_tup (l : List D) : listD [.tup l] h = .ok (.lst l) h := (rfl)
@[simp] theorem listD_lst (l : List D) : listD [.lst l] h = .ok (.lst l) h := (rfl)
@[simp] theorem intD_int (i : Int) : intD [.int i] h = .ok (.int i) h := (rfl)
@[simp] theorem intD_bl (b : Bool) : intD [.bl b] h = .ok (.int (if b = true then 1 else 0)) h := (rfl)
open Classical in
noncomputable def guardR {α : Type} (p : Prop) (r : Res α) : Res α := if p then r else .stuck
theorem guardR_pos {α : Type} {p : Prop} {r : Res α} (hp : p) : guardR p r = r := if_pos hp
@[simp] theorem guardR_true {α : Type} (r : Res α) : guardR True r = r := if_pos trivial
theorem methE_run {ty : D → Hh → Prop} {g : D → List D → Hh → Res D} {mo : EM D} {ms : EM (List D)} : methE ty g mo ms ρ h = (mo ρ h).bind fun o h1 => guardR (ty o h1) ((ms ρ h1).bind fun l h2 => g o l h2) := (rfl)
@[simp] theorem isLst_run (d : D) : isLst d h = ((lstOf d h).isSome = true) := (rfl)
@[simp] theorem get_app (l : Hh) : (h ++ l)[h.length]? = l[0]? := by rw [List.getElem?_append_right (Nat.le_refl _), Nat.sub_self]
@[simp] theorem get_app_add (l : Hh) (k : Nat) : (h ++ l)[h.length + k]? = l[k]? := by rw [List.getElem?_append_right (Nat.le_add_right _ _), Nat.add_sub_cancel_left]
@[simp] theorem set_app (l : Hh) (o : O) : (h ++ l).set h.length o = h ++ l.set 0 o := by rw [List.set_append_right _ _ (Nat.le_refl _), Nat.sub_self]
@[simp] theorem set_app_add (l : Hh) (o : O) (k : Nat) : (h ++ l).set (h.length + k) o = h ++ l.set k o := by rw [List.set_append_right _ _ (Nat.le_add_right _ _), Nat.add_sub_cancel_left]

/-! loops -/
@[simp] theorem chk_none (l : List D) : IT.chk ⟨l, none⟩ = fun _ => True := (rfl)
theorem loop_nil {g : GM} : loopS (fun _ => True) g x [] ρ h = .nx ρ h := by unfold loopS; exact if_pos trivial
theorem loop_cons {g : GM} {d : D} {l : List D} {ρ1 : Env} (e : g d ρ = some ρ1) : loopS (fun _ => True) g x (d :: l) ρ h = match x ρ1 h with
  | .nx ρ2 h2 => loopS (fun _ => True) g x l ρ2 h2
  | .ct ρ2 h2 => loopS (fun _ => True) g x l ρ2 h2
  | .bk ρ2 h2 => .nx ρ2 h2
  | r => r := by
  conv => lhs; unfold loopS
  rw [if_pos trivial]
  simp only [e]
  all_goals (cases x ρ1 h <;> rfl)
@[simp] theorem gNm_run (i : Nat) (d : D) : gNm i d ρ = some (ρ.set i (some d)) := (rfl)
/-- a loop that runs through: an invariant by what was taken -/
theorem loop_thru {g : GM} {l : List D} (I : Nat → Env → Hh → Prop) (h0 : I 0 ρ h) (hs : ∀ i d ρ h, l[i]? = some d → I i ρ h → ∃ ρ1, g d ρ = some ρ1 ∧ ∃ ρ2 h2, (x ρ1 h = .nx ρ2 h2 ∨ x ρ1 h = .ct ρ2 h2) ∧ I (i + 1) ρ2 h2) :
    ∃ ρ' h', loopS (fun _ => True) g x l ρ h = .nx ρ' h' ∧ I l.length ρ' h' := by
  induction l generalizing I ρ h with
  | nil => exact ⟨ρ, h, loop_nil, h0⟩
  | cons d l ih =>
    obtain ⟨ρ1, e1, ρ2, h2, e2, i2⟩ := hs 0 d ρ h rfl h0
    obtain ⟨ρ', h', e3, i3⟩ := ih (ρ := ρ2) (h := h2) (fun i => I (i + 1)) i2 fun i d ρ h e q => hs (i + 1) d ρ h e q
    refine ⟨ρ', h', ?_, i3⟩
    rw [loop_cons e1]
    rcases e2 with e2 | e2 <;> rw [e2] <;> exact e3
/-- .. over a range -/
theorem loop_rng {g : GM} {lo : Int} {n : Nat} (I : Nat → Env → Hh → Prop) (h0 : I 0 ρ h) (hs : ∀ i ρ h, i < n → I i ρ h → ∃ ρ1, g (.int (lo + i)) ρ = some ρ1 ∧ ∃ ρ2 h2, (x ρ1 h = .nx ρ2 h2 ∨ x ρ1 h = .ct ρ2 h2) ∧ I (i + 1) ρ2 h2) :
    ∃ ρ' h', loopS (fun _ => True) g x (rngL lo n) ρ h = .nx ρ' h' ∧ I n ρ' h' := by
  have := loop_thru (x := x) (g := g) (l := rngL lo n) I h0 fun i d ρ h e q => by
    have hi : i < n := by
      have := (List.getElem?_eq_some_iff.mp e).1
      rwa [rngL_length] at this
    rw [rngL_get lo n i hi] at e
    cases e
    exact hs i ρ h hi q
  rwa [rngL_length] at this
/-- .. over what a list stands for -/
theorem loop_map {α : Type} {g : GM} {f : α → D} {l : List α} (I : List α → Env → Hh → Prop) (h0 : I [] ρ h) (hs : ∀ pre a post ρ h, l = pre ++ a :: post → I pre ρ h → ∃ ρ1, g (f a) ρ = some ρ1 ∧ ∃ ρ2 h2, (x ρ1 h = .nx ρ2 h2 ∨ x ρ1 h = .ct ρ2 h2) ∧ I (pre ++ [a]) ρ2 h2) :
    ∃ ρ' h', loopS (fun _ => True) g x (l.map f) ρ h = .nx ρ' h' ∧ I l ρ' h' := by
  have := loop_thru (x := x) (g := g) (l := l.map f) (fun i => I (l.take i)) (by simpa using h0) fun i d ρ h e q => by
    rw [List.getElem?_map] at e
    cases ea : l[i]? with
    | none => rw [ea] at e; cases e
    | some a =>
      rw [ea] at e
      cases e
      obtain ⟨hi, ha⟩ := List.getElem?_eq_some_iff.mp ea
      have := hs (l.take i) a (l.drop (i + 1)) ρ h (by rw [← ha, List.getElem_cons_drop, List.take_append_drop]) q
      rw [← ha, List.take_append_getElem hi] at this
      rw [← ha]
      exact this
  simpa using this
/-- a loop that may be left by a return -/
theorem loop_map_or {α : Type} {g : GM} {f : α → D} {l : List α} {r : SR} (I : List α → Env → Hh → Prop) (h0 : I [] ρ h) (hr : ∀ ρ h, r ≠ .nx ρ h ∧ r ≠ .ct ρ h ∧ r ≠ .bk ρ h) (hs : ∀ pre a post ρ h, l = pre ++ a :: post → I pre ρ h → ∃ ρ1, g (f a) ρ = some ρ1 ∧ ((∃ ρ2 h2, (x ρ1 h = .nx ρ2 h2 ∨ x ρ1 h = .ct ρ2 h2) ∧ I (pre ++ [a]) ρ2 h2) ∨ x ρ1 h = r)) :
    (∃ ρ' h', loopS (fun _ => True) g x (l.map f) ρ h = .nx ρ' h' ∧ I l ρ' h') ∨ loopS (fun _ => True) g x (l.map f) ρ h = r := by
  induction l generalizing I ρ h with
  | nil => exact .inl ⟨ρ, h, loop_nil, h0⟩
  | cons a l ih =>
    obtain ⟨ρ1, e1, q⟩ := hs [] a l ρ h rfl h0
    rw [List.map_cons, loop_cons e1]
    rcases q with ⟨ρ2, h2, e2, i2⟩ | q
    · have := ih (ρ := ρ2) (h := h2) (fun pre => I (a :: pre)) i2 fun pre b post ρ h e q => hs (a :: pre) b post ρ h (by rw [e]; rfl) q
      rcases e2 with e2 | e2 <;> rw [e2] <;> exact this
    · right
      rw [q]
      have := hr ρ h
      cases r with
      | nx ρ h => exact absurd rfl (hr ρ h).1
      | ct ρ h => exact absurd rfl (hr ρ h).2.1
      | bk ρ h => exact absurd rfl (hr ρ h).2.2
      | _ => rfl
theorem forS_run (mi : EM IT) (g : GM) : forS mi g x ρ h = toS (mi ρ h) ρ fun it h1 => loopS it.chk g x it.items ρ h1 := (rfl)
theorem seqI_run : seqI m ρ h = (m ρ h).bind itOf := (rfl)
theorem rngI_run (ms : EM (List D)) : rngI ms ρ h = (ms ρ h).bind rngD := (rfl)
theorem zipI_run (ms : EM (List D)) : zipI ms ρ h = (ms ρ h).bind zipD := (rfl)
theorem enumI_run (ms : EM (List D)) : enumI ms ρ h = (ms ρ h).bind enumD := (rfl)
@[simp] theorem itOf_lst (l : List D) : itOf (.lst l) h = .ok ⟨l, none⟩ h := (rfl)
@[simp] theorem itOf_tup (l : List D) : itOf (.tup l) h = .ok ⟨l, none⟩ h := (rfl)
@[simp] theorem itOf_scr (l : List Int) : itOf (.scr l) h = .ok ⟨l.map .int, none⟩ h := (rfl)
theorem rngD_1 {j : Int} (hj : i62 j) : rngD [.int j] h = .ok ⟨rngL 0 j.toNat, none⟩ h := if_pos hj
theorem rngD_2 {i j : Int} (hi : i62 i) (hj : i62 j) : rngD [.int i, .int j] h = .ok ⟨rngL i (j - i).toNat, none⟩ h := if_pos ⟨hi, hj⟩
@[simp] theorem zipD_tup (l m : List D) : zipD [.tup l, .tup m] h = .ok ⟨zipL l m, none⟩ h := (rfl)
@[simp] theorem zipD_lst (l m : List D) : zipD [.lst l, .lst m] h = .ok ⟨zipL l m, none⟩ h := (rfl)
@[simp] theorem enumD_lst (l : List D) : enumD [.lst l] h = .ok ⟨enumL 0 l, none⟩ h := (rfl)
/-- a comprehension whose parts change nothing -/
theorem lc_pure {i : Nat} {tt : EM Bool} {te : EM D} {l : List D} (f : D → Bool) (g : D → D) (ht : ∀ d, d ∈ l → tt (ρ.set i (some d)) h = .ok (f d) h) (he : ∀ d, d ∈ l → f d = true → te (ρ.set i (some d)) h = .ok (g d) h) :
    lcL (fun _ => True) i tt te ρ l h = .ok ((l.filter f).map g) h := by
  induction l with
  | nil => unfold lcL; exact if_pos trivial
  | cons d l ih =>
    unfold lcL
    rw [if_pos trivial, ht d List.mem_cons_self, nrR_ok, bind_ok]
    have ih := ih (fun d hd => ht d (List.mem_cons_of_mem _ hd)) fun d hd => he d (List.mem_cons_of_mem _ hd)
    cases ef : f d with
    | false =>
      rw [if_neg Bool.false_ne_true, ih, List.filter_cons_of_neg (by rw [ef]; exact Bool.false_ne_true)]
    | true =>
      rw [if_pos rfl, he d List.mem_cons_self ef, nrR_ok, bind_ok, ih, bind_ok, List.filter_cons_of_pos ef, List.map_cons]
theorem lc_map {i : Nat} {te : EM D} {l : List D} (g : D → D) (he : ∀ d, d ∈ l → te (ρ.set i (some d)) h = .ok (g d) h) :
    lcL (fun _ => True) i tYesE te ρ l h = .ok (l.map g) h := by
  have := lc_pure (h := h) (ρ := ρ) (i := i) (tt := tYesE) (te := te) (l := l) (fun _ => true) g (fun _ _ => rfl) fun d hd _ => he d hd
  rw [this, List.filter_eq_self.mpr fun _ _ => rfl]
theorem lcE_run {i : Nat} {tt : EM Bool} {te : EM D} {mi : EM IT} {l r : List D} {h1 h2 : Hh} (e : mi ρ h = .ok ⟨l, none⟩ h1) (hl : l.length ≤ sizeLine) (q : lcL (fun _ => True) i tt te ρ l h1 = .ok r h2) : lcE mi i tt te ρ h = .ok (.lst r) h2 := by
  unfold lcE
  rw [e, bind_ok, if_pos hl, chk_none, q, bind_ok]
theorem lcM_run {i : Nat} {tt : EM Bool} {te : EM D} {mi : EM IT} {l r : List D} {h1 h2 : Hh} (e : mi ρ h = .ok ⟨l, none⟩ h1) (hl : l.length ≤ sizeLine) (q : lcL (fun _ => True) i tt te ρ l h1 = .ok r h2) : lcM mi i tt te ρ h = newL r h2 := by
  unfold lcM
  rw [e, bind_ok, if_pos hl, chk_none, q, bind_ok]

/-! defs -/
theorem defF_run {N : Nat} {ds : List D} {b : SS} : defF N b ds h = endF (b (ds.map some ++ List.replicate (N - ds.length) none) h) := rfl
@[simp] theorem endF_ret (d : D) : endF (.ret d h) = .ok d h := (rfl)
@[simp] theorem endF_nx : endF (.nx ρ h) = .ok .non h := (rfl)
@[simp] theorem endF_rs (c : Str) (fs : List (Str × D)) : endF (.rs c fs ρ h) = .raise c fs h := (rfl)
theorem keptH_refl : keptH h h := ⟨Nat.le_refl _, fun _ _ => .inl rfl⟩
theorem keptH_app (g : Hh) : keptH h (h ++ g) := ⟨by simp, fun i hi => .inl (List.getElem?_append_left hi)⟩
/-- a value comes back, what stood is as it was -/
theorem cut_ok {f : List D → Hh → Res D} {ds : List D} {d : D} {g : Hh} (e : f ds h = .ok d (h ++ g)) (b : below h.length d = true) : cutF f ds h = .ok d h := by
  unfold cutF
  rw [e]
  simp only
  rw [if_pos (keptH_app g)]
  have : frzD h.length (h ++ g) 3 d = some d := by unfold frzD; exact if_pos b
  rw [this]
  simp
/-- a new list comes back -/
theorem cut_lst {f : List D → Hh → Res D} {ds : List D} {l : List D} {g : Hh} {n : Nat} (e : f ds h = .ok (.ref n) (h ++ g)) (hn : h.length ≤ n) (r : (h ++ g)[n]? = some (.lst l)) (b : belows h.length l = true) : cutF f ds h = .ok (.lst l) h := by
  unfold cutF
  rw [e]
  simp only
  rw [if_pos (keptH_app g)]
  have b0 : ¬ below h.length (.ref n) = true := by
    show ¬ decide (n < h.length) = true
    simp
    omega
  have bl : ∀ l : List D, belows h.length l = true → l.mapM (frzD h.length (h ++ g) 2) = some l := by
    intro l
    induction l with
    | nil => intro _; rfl
    | cons d l ih =>
      intro b
      have b := Bool.and_eq_true_iff.mp b
      rw [mapM_none, ih b.2]
      have : frzD h.length (h ++ g) 2 d = some d := by unfold frzD; exact if_pos b.1
      rw [this]
      rfl
  have : frzD h.length (h ++ g) 3 (.ref n) = some (.lst l) := by
    unfold frzD
    rw [if_neg b0]
    simp only [r]
    rw [bl l b]
    rfl
  rw [this]
  simp
@[simp] theorem below_non (n : Nat) : below n .non = true := (rfl)
@[simp] theorem below_int (n : Nat) (i : Int) : below n (.int i) = true := (rfl)
@[simp] theorem below_bl (n : Nat) (i : Bool) : below n (.bl i) = true := (rfl)
@[simp] theorem below_str (n : Nat) (i : Str) : below n (.str i) = true := (rfl)
@[simp] theorem below_tup (n : Nat) (l : List D) : below n (.tup l) = belows n l := (rfl)
@[simp] theorem below_lst (n : Nat) (l : List D) : below n (.lst l) = belows n l := (rfl)
@[simp] theorem belows_nil (n : Nat) : belows n [] = true := (rfl)
@[simp] theorem belows_cons (n : Nat) (d : D) (l : List D) : belows n (d :: l) = (below n d && belows n l) := (rfl)
theorem belows_all (n : Nat) : ∀ l : List D, belows n l = true ↔ ∀ d ∈ l, below n d = true
  | [] => by simp
  | d :: l => by simp [belows_all n l]
theorem belows_app (n : Nat) (l m : List D) : belows n (l ++ m) = (belows n l && belows n m) := by
  induction l with
  | nil => rfl
  | cons d l ih => rw [List.cons_append, belows_cons, ih, belows_cons, Bool.and_assoc]
theorem belows_map {α : Type} (n : Nat) (f : α → D) (l : List α) (hf : ∀ x ∈ l, below n (f x) = true) : belows n (l.map f) = true := by
  rw [belows_all]
  intro d hd
  obtain ⟨x, hx, rfl⟩ := List.mem_map.mp hd
  exact hf x hx
end
end Ev

/-! EvM: shared small laws over lists of values. -/
namespace Ev
open PySem PySem.Spec PyProof.Rows L2
section
variable {ρ : Env} {h : Hh} {x y : SS}
/-- lo, lo + 1, .. -/
def ivs (lo : Int) (n : Nat) : List Int := (List.range n).map fun i : Nat => lo + (i : Int)
theorem rngL_ivs (lo : Int) (n : Nat) : rngL lo n = (ivs lo n).map D.int := by
  induction n generalizing lo with
  | zero => rfl
  | succ n ih =>
    rw [rngL, ih]
    simp [ivs, List.range_succ_eq_map, Function.comp_def]
    intro i _
    omega
@[simp] theorem ivs_length (lo : Int) (n : Nat) : (ivs lo n).length = n := by simp [ivs]
@[simp] theorem mem_ivs (lo : Int) (n : Nat) (j : Int) : j ∈ ivs lo n ↔ lo ≤ j ∧ j < lo + n := by
  simp only [ivs, List.mem_map, List.mem_range]
  constructor
  · rintro ⟨i, hi, rfl⟩; omega
  · rintro ⟨h1, h2⟩; exact ⟨(j - lo).toNat, by omega, by omega⟩
theorem eqvD_int (i j : Int) : eqvD (.int i) (.int j) = decide (i = j) := by show (i == j) = _; rw [Bool.beq_eq_decide_eq]
theorem eqvD_str (i j : Str) : eqvD (.str i) (.str j) = decide (i = j) := by show (i == j) = _; rw [Bool.beq_eq_decide_eq]
theorem any_ints (l : List Int) (j : Int) : ((l.map D.int).any fun z => eqvD z (.int j)) = decide (j ∈ l) := by
  induction l with
  | nil => rfl
  | cons i l ih =>
    rw [List.map_cons, List.any_cons, ih, eqvD_int]
    simp [eq_comm]
theorem any_strs (l : List Str) (j : Str) : ((l.map D.str).any fun z => eqvD z (.str j)) = decide (j ∈ l) := by
  induction l with
  | nil => rfl
  | cons i l ih =>
    rw [List.map_cons, List.any_cons, ih, eqvD_str]
    simp [eq_comm]
theorem flat_ints (l : List Int) : (l.map D.int).all flatD = true := by
  rw [List.all_eq_true]; intro d hd; obtain ⟨i, _, rfl⟩ := List.mem_map.mp hd; rfl
theorem flat_strs (l : List Str) : (l.map D.str).all flatD = true := by
  rw [List.all_eq_true]; intro d hd; obtain ⟨i, _, rfl⟩ := List.mem_map.mp hd; rfl
theorem memD_ints (l : List Int) (j : Int) : memD (.int j) (.lst (l.map D.int)) h = some (decide (j ∈ l)) := by
  have : memD (.int j) (.lst (l.map D.int)) h = some ((l.map D.int).any fun z => eqvD z (.int j)) := if_pos (.inl ⟨rfl, flat_ints l⟩)
  rw [this, any_ints]
theorem memD_intsT (l : List Int) (j : Int) : memD (.int j) (.tup (l.map D.int)) h = some (decide (j ∈ l)) := by
  have : memD (.int j) (.tup (l.map D.int)) h = some ((l.map D.int).any fun z => eqvD z (.int j)) := if_pos (.inl ⟨rfl, flat_ints l⟩)
  rw [this, any_ints]
@[simp] theorem ninD_ints (l : List Int) (j : Int) : ninD (.int j) (.lst (l.map D.int)) h = .ok (.bl (!decide (j ∈ l))) h := by unfold ninD; rw [memD_ints]
@[simp] theorem inD_ints (l : List Int) (j : Int) : inD (.int j) (.lst (l.map D.int)) h = .ok (.bl (decide (j ∈ l))) h := by unfold inD; rw [memD_ints]
@[simp] theorem ninD_intsT (l : List Int) (j : Int) : ninD (.int j) (.tup (l.map D.int)) h = .ok (.bl (!decide (j ∈ l))) h := by unfold ninD; rw [memD_intsT]
@[simp] theorem inD_intsT (l : List Int) (j : Int) : inD (.int j) (.tup (l.map D.int)) h = .ok (.bl (decide (j ∈ l))) h := by unfold inD; rw [memD_intsT]
@[simp] theorem sumD_ints (l : List Int) : sumD [.lst (l.map D.int)] h = .ok (.int l.sum) h := by
  show (match (some (l.map D.int)).bind intsOf with | some l => _ | none => _) = _
  rw [Option.bind_some, intsOf_map]
@[simp] theorem anyD_bls (l : List Bool) : anyD [.lst (l.map D.bl)] h = .ok (.bl (l.any id)) h := by
  show (match (some (l.map D.bl)).bind blsOf with | some l => _ | none => _) = _
  rw [Option.bind_some, blsOf_map]
@[simp] theorem sortedD_ints (l : List Int) : sortedD [.lst (l.map D.int)] h = .ok (.lst ((sortI l).map D.int)) h := by
  show (match (some (l.map D.int)).bind intsOf with | some l => _ | none => _) = _
  rw [Option.bind_some, intsOf_map]
theorem zipL_map {α β : Type} (f : α → D) (g : β → D) : ∀ (l : List α) (m : List β), zipL (l.map f) (m.map g) = (l.zip m).map fun p => .tup [f p.1, g p.2]
  | [], _ => by simp [zipL]
  | _ :: _, [] => by simp [zipL]
  | a :: l, b :: m => by
    rw [List.map_cons, List.map_cons, zipL, zipL_map f g l m]
    rfl
@[simp] theorem gTp2 (i j : Nat) (a b : D) : gTp [i, j] (.tup [a, b]) ρ = some ((ρ.set i (some a)).set j (some b)) := (rfl)
@[simp] theorem gTp3 (i j k : Nat) (a b c : D) : gTp [i, j, k] (.tup [a, b, c]) ρ = some (((ρ.set i (some a)).set j (some b)).set k (some c)) := (rfl)
@[simp] theorem gTp4 (i j k n : Nat) (a b c d : D) : gTp [i, j, k, n] (.tup [a, b, c, d]) ρ = some ((((ρ.set i (some a)).set j (some b)).set k (some c)).set n (some d)) := (rfl)
@[simp] theorem gTp5 (i j k n m : Nat) (a b c d e : D) : gTp [i, j, k, n, m] (.tup [a, b, c, d, e]) ρ = some (((((ρ.set i (some a)).set j (some b)).set k (some c)).set n (some d)).set m (some e)) := (rfl)
/-- a loop that looks for the first that fails, and leaves the heap alone -/
theorem loop_all {α : Type} {g : GM} {f : α → D} {l : List α} (I : Env → Prop) (p : α → Bool) (d : D) (h0 : I ρ) (hs : ∀ a, a ∈ l → ∀ ρ, I ρ → ∃ ρ1, g (f a) ρ = some ρ1 ∧ if p a = true then ∃ ρ2, (x ρ1 h = .nx ρ2 h ∨ x ρ1 h = .ct ρ2 h) ∧ I ρ2 else x ρ1 h = .ret d h) :
    (l.all p = true ∧ ∃ ρ', loopS (fun _ => True) g x (l.map f) ρ h = .nx ρ' h ∧ I ρ') ∨ (l.all p = false ∧ loopS (fun _ => True) g x (l.map f) ρ h = .ret d h) := by
  induction l generalizing ρ with
  | nil => exact .inl ⟨rfl, ρ, loop_nil, h0⟩
  | cons a l ih =>
    obtain ⟨ρ1, e1, q⟩ := hs a List.mem_cons_self ρ h0
    rw [List.map_cons, loop_cons e1, List.all_cons]
    by_cases hp : p a = true
    · rw [if_pos hp] at q
      obtain ⟨ρ2, e2, i2⟩ := q
      have := ih i2 fun a ha => hs a (List.mem_cons_of_mem _ ha)
      rw [hp, Bool.true_and]
      rcases e2 with e2 | e2 <;> rw [e2] <;> exact this
    · rw [if_neg hp] at q
      right
      rw [q]
      exact ⟨by rw [Bool.not_eq_true] at hp; rw [hp]; rfl, rfl⟩
/-- a comprehension over what a list stands for -/
theorem lc_mapf {α : Type} {f : α → D} {l : List α} {i : Nat} {tt : EM Bool} {te : EM D} (p : α → Bool) (g : α → D) (ht : ∀ a, a ∈ l → tt (ρ.set i (some (f a))) h = .ok (p a) h) (he : ∀ a, a ∈ l → p a = true → te (ρ.set i (some (f a))) h = .ok (g a) h) :
    lcL (fun _ => True) i tt te ρ (l.map f) h = .ok ((l.filter p).map g) h := by
  induction l with
  | nil => unfold lcL; exact if_pos trivial
  | cons a l ih =>
    unfold lcL
    simp only [List.map_cons]
    rw [if_pos trivial, ht a List.mem_cons_self, nrR_ok, bind_ok]
    have ih := ih (fun d hd => ht d (List.mem_cons_of_mem _ hd)) fun d hd => he d (List.mem_cons_of_mem _ hd)
    cases ef : p a with
    | false =>
      rw [if_neg Bool.false_ne_true, ih, List.filter_cons_of_neg (by rw [ef]; exact Bool.false_ne_true)]
    | true =>
      rw [if_pos rfl, he a List.mem_cons_self ef, nrR_ok, bind_ok, ih, bind_ok, List.filter_cons_of_pos ef, List.map_cons]
end
end Ev
namespace Ev
open PySem PySem.Spec PyProof.Rows L2
section
variable {ρ : Env} {h : Hh} {x y : SS}
theorem lc_mapfC {α : Type} {C : Hh → Prop} {f : α → D} {l : List α} {i : Nat} {tt : EM Bool} {te : EM D} (hC : C h) (p : α → Bool) (g : α → D) (ht : ∀ a, a ∈ l → tt (ρ.set i (some (f a))) h = .ok (p a) h) (he : ∀ a, a ∈ l → p a = true → te (ρ.set i (some (f a))) h = .ok (g a) h) :
    lcL C i tt te ρ (l.map f) h = .ok ((l.filter p).map g) h := by
  induction l with
  | nil => unfold lcL; exact if_pos hC
  | cons a l ih =>
    unfold lcL
    simp only [List.map_cons]
    rw [if_pos hC, ht a List.mem_cons_self, nrR_ok, bind_ok]
    have ih := ih (fun d hd => ht d (List.mem_cons_of_mem _ hd)) fun d hd => he d (List.mem_cons_of_mem _ hd)
    cases ef : p a with
    | false =>
      rw [if_neg Bool.false_ne_true, ih, List.filter_cons_of_neg (by rw [ef]; exact Bool.false_ne_true)]
    | true =>
      rw [if_pos rfl, he a List.mem_cons_self ef, nrR_ok, bind_ok, ih, bind_ok, List.filter_cons_of_pos ef, List.map_cons]
/-- a comprehension with no test over values, or over a mutable list that stands -/
theorem lc_all {α : Type} {C : Hh → Prop} {f : α → D} {l : List α} {i : Nat} {te : EM D} (hC : C h) (g : α → D) (he : ∀ a, a ∈ l → te (ρ.set i (some (f a))) h = .ok (g a) h) :
    lcL C i tYesE te ρ (l.map f) h = .ok (l.map g) h := by
  rw [lc_mapfC hC (fun _ => true) g (fun _ _ => rfl) fun a ha _ => he a ha, List.filter_eq_self.mpr fun _ _ => rfl]
theorem lcE_runR {i n : Nat} {tt : EM Bool} {te : EM D} {mi : EM IT} {l r : List D} {h1 h2 : Hh} (e : mi ρ h = .ok ⟨l, some n⟩ h1) (hl : l.length ≤ sizeLine) (q : lcL (fun h => h[n]? = some (.lst l)) i tt te ρ l h1 = .ok r h2) : lcE mi i tt te ρ h = .ok (.lst r) h2 := by
  unfold lcE
  rw [e, bind_ok, if_pos hl]
  show (lcL (fun h => h[n]? = some (.lst l)) i tt te ρ l h1).bind _ = _
  rw [q, bind_ok]
@[simp] theorem small64_lit (i : Int) : small64 i ↔ (-18446744073709551616 < i ∧ i < 18446744073709551616) := .rfl
theorem powD_int (i j : Int) (hj : 0 ≤ j ∧ j ≤ 1000000 ∧ i.natAbs < 18446744073709551616) : powD (.int i) (.int j) h = .ok (.int (i ^ j.toNat)) h := if_pos hj
theorem memD_strs (l : List Str) (j : Str) : memD (.str j) (.lst (l.map D.str)) h = some (decide (j ∈ l)) := by
  have : memD (.str j) (.lst (l.map D.str)) h = some ((l.map D.str).any fun z => eqvD z (.str j)) := if_pos (.inl ⟨rfl, flat_strs l⟩)
  rw [this, any_strs]
theorem memD_strsT (l : List Str) (j : Str) : memD (.str j) (.tup (l.map D.str)) h = some (decide (j ∈ l)) := by
  have : memD (.str j) (.tup (l.map D.str)) h = some ((l.map D.str).any fun z => eqvD z (.str j)) := if_pos (.inl ⟨rfl, flat_strs l⟩)
  rw [this, any_strs]
@[simp] theorem ninD_strs (l : List Str) (j : Str) : ninD (.str j) (.lst (l.map D.str)) h = .ok (.bl (!decide (j ∈ l))) h := by unfold ninD; rw [memD_strs]
@[simp] theorem inD_strs (l : List Str) (j : Str) : inD (.str j) (.lst (l.map D.str)) h = .ok (.bl (decide (j ∈ l))) h := by unfold inD; rw [memD_strs]
@[simp] theorem ninD_strsT (l : List Str) (j : Str) : ninD (.str j) (.tup (l.map D.str)) h = .ok (.bl (!decide (j ∈ l))) h := by unfold ninD; rw [memD_strsT]
@[simp] theorem inD_strsT (l : List Str) (j : Str) : inD (.str j) (.tup (l.map D.str)) h = .ok (.bl (decide (j ∈ l))) h := by unfold inD; rw [memD_strsT]
def k_ixStr (h : Hh) (o : Option Nat) : Res D := match o with
  | some c => .ok (.str ⟨#[c]⟩) h
  | none => .stuck
@[simp] theorem k_ixStr_some (h : Hh) (c : Nat) : k_ixStr h (some c) = .ok (.str ⟨#[c]⟩) h := (rfl)
theorem ixD_str {z : Str} {i : Int} (hz : z.length ≤ sizeLine) : ixD (.str z) (.int i) h = k_ixStr h (atI z.cps.toList i) := by
  show (if z.length ≤ sizeLine then _ else _) = _
  rw [if_pos hz]
  cases atI z.cps.toList i <;> rfl
end
end Ev
namespace Ev
open PySem PySem.Spec PyProof.Rows L2
/-- a body went on, and this holds then -/
@[irreducible] def Nx (r : SR) (P : Env → Hh → Prop) : Prop := match r with
  | .nx ρ h => P ρ h
  | .ct ρ h => P ρ h
  | _ => False
@[simp] theorem Nx_nx (ρ : Env) (h : Hh) (P : Env → Hh → Prop) : Nx (.nx ρ h) P = P ρ h := by unfold Nx; rfl
@[simp] theorem Nx_ct (ρ : Env) (h : Hh) (P : Env → Hh → Prop) : Nx (.ct ρ h) P = P ρ h := by unfold Nx; rfl
@[simp] theorem Nx_ret (d : D) (h : Hh) (P : Env → Hh → Prop) : Nx (.ret d h) P = False := by unfold Nx; rfl
@[simp] theorem Nx_bk (ρ : Env) (h : Hh) (P : Env → Hh → Prop) : Nx (.bk ρ h) P = False := by unfold Nx; rfl
@[simp] theorem Nx_rs (c : Str) (fs : List (Str × D)) (ρ : Env) (h : Hh) (P : Env → Hh → Prop) : Nx (.rs c fs ρ h) P = False := by unfold Nx; rfl
@[simp] theorem Nx_stuck (P : Env → Hh → Prop) : Nx .stuck P = False := by unfold Nx; rfl

@[irreducible] def Gx (o : Option Env) (x : SS) (h : Hh) (P : Env → Hh → Prop) : Prop := match o with
  | some ρ => Nx (x ρ h) P
  | none => False
@[simp] theorem Gx_some (ρ : Env) (x : SS) (h : Hh) (P : Env → Hh → Prop) : Gx (some ρ) x h P = Nx (x ρ h) P := by unfold Gx; rfl
@[simp] theorem Gx_none (x : SS) (h : Hh) (P : Env → Hh → Prop) : Gx none x h P = False := by unfold Gx; rfl
section
variable {ρ : Env} {h : Hh} {x y : SS}
theorem lpC_nil {C : Hh → Prop} {g : GM} (hC : C h) : loopS C g x [] ρ h = .nx ρ h := by unfold loopS; exact if_pos hC
theorem lpC_cons {C : Hh → Prop} {g : GM} {d : D} {l : List D} {ρ1 : Env} (hC : C h) (e : g d ρ = some ρ1) : loopS C g x (d :: l) ρ h = match x ρ1 h with
  | .nx ρ2 h2 => loopS C g x l ρ2 h2
  | .ct ρ2 h2 => loopS C g x l ρ2 h2
  | .bk ρ2 h2 => .nx ρ2 h2
  | r => r := by
  conv => lhs; unfold loopS
  rw [if_pos hC]
  simp only [e]
  all_goals (cases x ρ1 h <;> rfl)
theorem lpC_thru {C : Hh → Prop} {g : GM} {l : List D} (I : Nat → Env → Hh → Prop) (hC : ∀ i ρ h, I i ρ h → C h) (h0 : I 0 ρ h) (hs : ∀ i d ρ h, l[i]? = some d → I i ρ h → Gx (g d ρ) x h (I (i + 1))) :
    ∃ ρ' h', loopS C g x l ρ h = .nx ρ' h' ∧ I l.length ρ' h' := by
  induction l generalizing I ρ h with
  | nil => exact ⟨ρ, h, lpC_nil (hC _ _ _ h0), h0⟩
  | cons d l ih =>
    have q := hs 0 d ρ h rfl h0
    cases e1 : g d ρ with
    | none => rw [e1, Gx_none] at q; exact q.elim
    | some ρ1 =>
      rw [e1, Gx_some] at q
      rw [lpC_cons (hC _ _ _ h0) e1]
      cases e2 : x ρ1 h with
      | nx ρ2 h2 =>
        rw [e2, Nx_nx] at q
        exact ih (fun i => I (i + 1)) (fun i => hC (i + 1)) q fun i d ρ h e q => hs (i + 1) d ρ h e q
      | ct ρ2 h2 =>
        rw [e2, Nx_ct] at q
        exact ih (fun i => I (i + 1)) (fun i => hC (i + 1)) q fun i d ρ h e q => hs (i + 1) d ρ h e q
      | _ => rw [e2] at q; simp at q
theorem lp_rng {g : GM} {lo : Int} {n : Nat} (I : Nat → Env → Hh → Prop) (h0 : I 0 ρ h) (hs : ∀ i ρ h, i < n → I i ρ h → Gx (g (.int (lo + i)) ρ) x h (I (i + 1))) :
    ∃ ρ' h', loopS (fun _ => True) g x (rngL lo n) ρ h = .nx ρ' h' ∧ I n ρ' h' := by
  have := lpC_thru (C := fun _ => True) (x := x) (g := g) (l := rngL lo n) I (fun _ _ _ _ => trivial) h0 fun i d ρ h e q => by
    have hi : i < n := by
      have := (List.getElem?_eq_some_iff.mp e).1
      rwa [rngL_length] at this
    rw [rngL_get lo n i hi] at e
    cases e
    exact hs i ρ h hi q
  rwa [rngL_length] at this
theorem lpC_map {α : Type} {C : Hh → Prop} {g : GM} {f : α → D} {l : List α} (I : List α → Env → Hh → Prop) (hC : ∀ pre ρ h, I pre ρ h → C h) (h0 : I [] ρ h) (hs : ∀ pre a post ρ h, l = pre ++ a :: post → I pre ρ h → Gx (g (f a) ρ) x h (I (pre ++ [a]))) :
    ∃ ρ' h', loopS C g x (l.map f) ρ h = .nx ρ' h' ∧ I l ρ' h' := by
  have := lpC_thru (C := C) (x := x) (g := g) (l := l.map f) (fun i => I (l.take i)) (fun _ _ _ q => hC _ _ _ q) (by simpa using h0) fun i d ρ h e q => by
    rw [List.getElem?_map] at e
    cases ea : l[i]? with
    | none => rw [ea] at e; cases e
    | some a =>
      rw [ea] at e
      cases e
      obtain ⟨hi, ha⟩ := List.getElem?_eq_some_iff.mp ea
      have := hs (l.take i) a (l.drop (i + 1)) ρ h (by rw [← ha, List.getElem_cons_drop, List.take_append_drop]) q
      rw [← ha, List.take_append_getElem hi] at this
      rw [← ha]
      exact this
  simpa using this
theorem lp_map {α : Type} {g : GM} {f : α → D} {l : List α} (I : List α → Env → Hh → Prop) (h0 : I [] ρ h) (hs : ∀ pre a post ρ h, l = pre ++ a :: post → I pre ρ h → Gx (g (f a) ρ) x h (I (pre ++ [a]))) :
    ∃ ρ' h', loopS (fun _ => True) g x (l.map f) ρ h = .nx ρ' h' ∧ I l ρ' h' := lpC_map (C := fun _ => True) I (fun _ _ _ _ => trivial) h0 hs
/-- search: goes on where p holds, is left with r else; the heap stands -/
theorem lpC_all {α : Type} {C : Hh → Prop} {g : GM} {f : α → D} {l : List α} (hC : C h) (I : Env → Prop) (p : α → Bool) (d : D) (h0 : I ρ) (hs : ∀ a, a ∈ l → ∀ ρ, I ρ → ∃ ρ1, g (f a) ρ = some ρ1 ∧ if p a = true then Nx (x ρ1 h) (fun ρ2 h2 => I ρ2 ∧ h2 = h) else x ρ1 h = .ret d h) :
    (l.all p = true ∧ ∃ ρ', loopS C g x (l.map f) ρ h = .nx ρ' h ∧ I ρ') ∨ (l.all p = false ∧ loopS C g x (l.map f) ρ h = .ret d h) := by
  induction l generalizing ρ with
  | nil => exact .inl ⟨rfl, ρ, lpC_nil hC, h0⟩
  | cons a l ih =>
    obtain ⟨ρ1, e1, q⟩ := hs a List.mem_cons_self ρ h0
    rw [List.map_cons, lpC_cons hC e1, List.all_cons]
    by_cases hp : p a = true
    · rw [if_pos hp] at q
      rw [hp, Bool.true_and]
      cases e2 : x ρ1 h with
      | nx ρ2 h2 =>
        rw [e2, Nx_nx] at q
        obtain ⟨i2, rfl⟩ := q
        exact ih i2 fun a ha => hs a (List.mem_cons_of_mem _ ha)
      | ct ρ2 h2 =>
        rw [e2, Nx_ct] at q
        obtain ⟨i2, rfl⟩ := q
        exact ih i2 fun a ha => hs a (List.mem_cons_of_mem _ ha)
      | _ => rw [e2] at q; simp at q
    · rw [if_neg hp] at q
      right
      rw [q]
      exact ⟨by rw [Bool.not_eq_true] at hp; rw [hp]; rfl, rfl⟩
theorem lp_all {α : Type} {g : GM} {f : α → D} {l : List α} (I : Env → Prop) (p : α → Bool) (d : D) (h0 : I ρ) (hs : ∀ a, a ∈ l → ∀ ρ, I ρ → ∃ ρ1, g (f a) ρ = some ρ1 ∧ if p a = true then Nx (x ρ1 h) (fun ρ2 h2 => I ρ2 ∧ h2 = h) else x ρ1 h = .ret d h) :
    (l.all p = true ∧ ∃ ρ', loopS (fun _ => True) g x (l.map f) ρ h = .nx ρ' h ∧ I ρ') ∨ (l.all p = false ∧ loopS (fun _ => True) g x (l.map f) ρ h = .ret d h) := lpC_all (C := fun _ => True) trivial I p d h0 hs
end
end Ev
namespace Ev
open PySem PySem.Spec PyProof.Rows L2
section
variable {ρ : Env} {h : Hh}
/-! dicts that are sets of ints -/
def kT (k : Int) : D × D := (.int k, .bl true)
def insK (K : List Int) (k : Int) : List Int := if k ∈ K then K else K ++ [k]
theorem putD_kT (K : List Int) (k : Int) : putD (K.map kT) (.int k) (.bl true) = (insK K k).map kT := by
  unfold putD insK
  have ha : ((K.map kT).any fun p => decide (keyD p.1 = keyD (.int k))) = decide (k ∈ K) := by
    induction K with
    | nil => rfl
    | cons x K ih =>
      rw [List.map_cons, List.any_cons, ih]
      simp [kT, keyD, eq_comm]
  rw [ha]
  by_cases hk : k ∈ K
  · rw [if_pos (by simpa using hk), if_pos hk, List.map_map]
    refine List.map_congr_left fun x _ => ?_
    simp only [Function.comp, kT, keyD]
    exact ite_self _
  · rw [if_neg (by simpa using hk), if_neg hk, List.map_append]
    rfl
theorem insK_mem (K : List Int) (k m : Int) : m ∈ insK K k ↔ m ∈ K ∨ m = k := by
  unfold insK
  split
  · rename_i hk
    exact ⟨.inl, fun q => q.elim id fun e => e ▸ hk⟩
  · simp
theorem insK_nodup {K : List Int} (k : Int) (h : K.Nodup) : (insK K k).Nodup := by
  unfold insK
  split
  · exact h
  · rename_i hk
    rw [List.nodup_append]
    exact ⟨h, by simp, fun a ha b hb e => hk (by rw [← List.mem_singleton.mp hb, ← e]; exact ha)⟩
theorem insK_len (K : List Int) (k : Int) : (insK K k).length ≤ K.length + 1 := by unfold insK; split <;> simp
theorem insK_foldl_mem (l K : List Int) (m : Int) : m ∈ l.foldl insK K ↔ m ∈ K ∨ m ∈ l := by
  induction l generalizing K with
  | nil => simp
  | cons x l ih => rw [List.foldl_cons, ih, insK_mem, List.mem_cons, or_assoc]
theorem insK_foldl_nodup (l : List Int) {K : List Int} (h : K.Nodup) : (l.foldl insK K).Nodup := by
  induction l generalizing K with
  | nil => exact h
  | cons x l ih => exact ih (insK_nodup x h)
theorem nodup_len {K : List Int} {n : Nat} (h : K.Nodup) (hb : ∀ m ∈ K, 0 ≤ m ∧ m < n) : K.length ≤ n := by
  have := h.length_le_of_subset (l₂ := ivs 0 n) fun m hm => by
    have := hb m hm
    rw [mem_ivs]
    omega
  rwa [ivs_length] at this
theorem sorted_of {K l : List Int} (h : K.Nodup) (hl : l.Pairwise (· < ·)) (hm : ∀ m, m ∈ K ↔ m ∈ l) : sortI K = l := by
  have hln : l.Nodup := hl.imp fun q => Int.ne_of_lt q
  have hp : K.Perm l := (List.perm_ext_iff_of_nodup h hln).mpr hm
  exact sorted_uniq ((sortI_perm K).trans hp) (sortI_sorted K) (hl.imp fun q => Int.le_of_lt q)
theorem sortD_kT {n : Nat} {K : List Int} (r : h[n]? = some (.dic (K.map kT))) (hl : K.length < 64) : sortD [.ref n] h = .ok (.lst ((sortI K).map D.int)) h := by
  have e : intsOf ((K.map kT).map (·.1)) = some K := by rw [List.map_map]; exact intsOf_map K
  unfold sortD
  simp only [lstOf_refK, dicOf_refK, r, oL_dic, oK_dic, e]
  exact if_pos hl
@[simp] theorem sortD_ints (l : List Int) : sortD [.lst (l.map D.int)] h = .ok (.lst ((sortI l).map D.int)) h := by
  show (match intsOf (l.map D.int) with | some ns => _ | none => _) = _
  rw [intsOf_map]
theorem sortD_ref {n : Nat} {l : List Int} (r : h[n]? = some (.lst (l.map D.int))) : sortD [.ref n] h = .ok (.lst ((sortI l).map D.int)) h := by
  unfold sortD
  simp only [lstOf_refK, r, oL_lst, intsOf_map]
@[simp] theorem dicH_run : dicH ρ h = .ok (.ref h.length) (h ++ [.dic []]) := (rfl)
@[simp] theorem keyD_int (i : Int) : keyD (.int i) = some (Sum.inl i) := (rfl)
@[simp] theorem keyD_str (i : Str) : keyD (.str i) = some (Sum.inr i) := (rfl)
theorem atI_map {α : Type} [Inhabited α] (f : α → D) (l : List α) (i : Int) (h0 : 0 ≤ i) (h1 : i < l.length) : atI (l.map f) i = some (f ((l[i.toNat]?).getD default)) := by
  rw [atI_nnE _ h0, List.getElem?_map, List.getElem?_eq_getElem (by omega)]
  rfl
end
end Ev
namespace Ev
open PySem PySem.Spec PyProof.Rows L2
section
variable {ρ : Env} {h : Hh}
/-! == of data -/
@[simp] theorem eqvD_nil : eqvD (.tup []) (.tup []) = true := by unfold eqvD; simp [toPy, toPys, PyData.eqv, PyData.eqvAll]
@[simp] theorem eqvD_nilc (b : D) (m : List D) : eqvD (.tup []) (.tup (b :: m)) = false := by unfold eqvD; simp [toPy, toPys, PyData.eqv, PyData.eqvAll]
@[simp] theorem eqvD_cnil (b : D) (m : List D) : eqvD (.tup (b :: m)) (.tup []) = false := by unfold eqvD; simp [toPy, toPys, PyData.eqv, PyData.eqvAll]
@[simp] theorem eqvD_cons (a b : D) (l m : List D) : eqvD (.tup (a :: l)) (.tup (b :: m)) = (eqvD a b && eqvD (.tup l) (.tup m)) := by unfold eqvD; simp [toPy, toPys, PyData.eqv, PyData.eqvAll]
theorem eqvD_lst (l m : List D) : eqvD (.lst l) (.lst m) = eqvD (.tup l) (.tup m) := by unfold eqvD; simp [toPy, PyData.eqv]
theorem eqvD_map {α : Type} [DecidableEq α] {f : α → D} : ∀ l m : List α, (∀ a, a ∈ l → ∀ b, b ∈ m → eqvD (f a) (f b) = decide (a = b)) → eqvD (.tup (l.map f)) (.tup (m.map f)) = decide (l = m)
  | [], [], _ => by simp
  | [], b :: m, _ => by simp
  | a :: l, [], _ => by simp
  | a :: l, b :: m, hf => by
    rw [List.map_cons, List.map_cons, eqvD_cons, hf a List.mem_cons_self b List.mem_cons_self, eqvD_map l m fun a ha b hb => hf a (List.mem_cons_of_mem _ ha) b (List.mem_cons_of_mem _ hb)]
    simp
theorem okDs_map {α : Type} {f : α → D} : ∀ l : List α, (∀ a, a ∈ l → okD (f a) = true) → okDs (l.map f) = true
  | [], _ => rfl
  | a :: l, hf => by
    show (okD (f a) && okDs (l.map f)) = true
    rw [hf a List.mem_cons_self, okDs_map l fun a ha => hf a (List.mem_cons_of_mem _ ha)]
    rfl
theorem depDs_map {α : Type} {f : α → D} {n : Nat} : ∀ l : List α, (∀ a, a ∈ l → depD (f a) ≤ n) → depDs (l.map f) ≤ n
  | [], _ => Nat.zero_le _
  | a :: l, hf => by
    show max (depD (f a)) (depDs (l.map f)) ≤ n
    exact Nat.max_le.mpr ⟨hf a List.mem_cons_self, depDs_map l fun a ha => hf a (List.mem_cons_of_mem _ ha)⟩
theorem cmp_map {α : Type} {f : α → D} (l : List α) (h1 : ∀ a, a ∈ l → okD (f a) = true) (h2 : ∀ a, a ∈ l → depD (f a) ≤ 61) : CmpOk (.tup (l.map f)) :=
  ⟨okDs_map l h1, Nat.succ_le_succ (depDs_map l h2)⟩
theorem cmp_mapL {α : Type} {f : α → D} (l : List α) (h1 : ∀ a, a ∈ l → okD (f a) = true) (h2 : ∀ a, a ∈ l → depD (f a) ≤ 61) : CmpOk (.lst (l.map f)) :=
  ⟨okDs_map l h1, Nat.succ_le_succ (depDs_map l h2)⟩
theorem eqD_tint (l m : List Int) : eqD (.tup (l.map D.int)) (.tup (m.map D.int)) h = .ok (.bl (decide (l = m))) h := by
  rw [eqD_cmp (cmp_map l (fun _ _ => rfl) fun _ _ => Nat.zero_le _) (cmp_map m (fun _ _ => rfl) fun _ _ => Nat.zero_le _), eqvD_map l m fun a _ b _ => eqvD_int a b]
theorem neD_tint (l m : List Int) : neD (.tup (l.map D.int)) (.tup (m.map D.int)) h = .ok (.bl (!decide (l = m))) h := by
  rw [neD_cmp (cmp_map l (fun _ _ => rfl) fun _ _ => Nat.zero_le _) (cmp_map m (fun _ _ => rfl) fun _ _ => Nat.zero_le _), eqvD_map l m fun a _ b _ => eqvD_int a b]
theorem memD_refI {n : Nat} {l : List Int} {j : Int} (r : h[n]? = some (.lst (l.map D.int))) : memD (.int j) (.ref n) h = some (decide (j ∈ l)) := by
  unfold memD
  simp only [lstOf_refK, r, oL_lst]
  exact (if_pos (.inl ⟨rfl, flat_ints l⟩)).trans (by rw [any_ints])
theorem ninD_refI {n : Nat} {l : List Int} {j : Int} (r : h[n]? = some (.lst (l.map D.int))) : ninD (.int j) (.ref n) h = .ok (.bl (!decide (j ∈ l))) h := by unfold ninD; rw [memD_refI r]
theorem inD_refI {n : Nat} {l : List Int} {j : Int} (r : h[n]? = some (.lst (l.map D.int))) : inD (.int j) (.ref n) h = .ok (.bl (decide (j ∈ l))) h := by unfold inD; rw [memD_refI r]
end
end Ev
namespace Ev
open PySem PySem.Spec PyProof.Rows L2
section
variable {h : Hh}
@[simp] theorem isin_non_list  : isinD [.non, .ty "list"] h = .ok (.bl false) h := (rfl)
@[simp] theorem isin_non_tuple  : isinD [.non, .ty "tuple"] h = .ok (.bl false) h := (rfl)
@[simp] theorem isin_non_bool  : isinD [.non, .ty "bool"] h = .ok (.bl false) h := (rfl)
@[simp] theorem isin_non_str  : isinD [.non, .ty "str"] h = .ok (.bl false) h := (rfl)
@[simp] theorem isin_non_int  : isinD [.non, .ty "int"] h = .ok (.bl false) h := (rfl)
@[simp] theorem isin_bl_list (x : Bool) : isinD [(.bl x), .ty "list"] h = .ok (.bl false) h := (rfl)
@[simp] theorem isin_bl_tuple (x : Bool) : isinD [(.bl x), .ty "tuple"] h = .ok (.bl false) h := (rfl)
@[simp] theorem isin_bl_bool (x : Bool) : isinD [(.bl x), .ty "bool"] h = .ok (.bl true) h := (rfl)
@[simp] theorem isin_bl_str (x : Bool) : isinD [(.bl x), .ty "str"] h = .ok (.bl false) h := (rfl)
@[simp] theorem isin_bl_int (x : Bool) : isinD [(.bl x), .ty "int"] h = .ok (.bl true) h := (rfl)
@[simp] theorem isin_int_list (x : Int) : isinD [(.int x), .ty "list"] h = .ok (.bl false) h := (rfl)
@[simp] theorem isin_int_tuple (x : Int) : isinD [(.int x), .ty "tuple"] h = .ok (.bl false) h := (rfl)
@[simp] theorem isin_int_bool (x : Int) : isinD [(.int x), .ty "bool"] h = .ok (.bl false) h := (rfl)
@[simp] theorem isin_int_str (x : Int) : isinD [(.int x), .ty "str"] h = .ok (.bl false) h := (rfl)
@[simp] theorem isin_int_int (x : Int) : isinD [(.int x), .ty "int"] h = .ok (.bl true) h := (rfl)
@[simp] theorem isin_str_list (x : Str) : isinD [(.str x), .ty "list"] h = .ok (.bl false) h := (rfl)
@[simp] theorem isin_str_tuple (x : Str) : isinD [(.str x), .ty "tuple"] h = .ok (.bl false) h := (rfl)
@[simp] theorem isin_str_bool (x : Str) : isinD [(.str x), .ty "bool"] h = .ok (.bl false) h := (rfl)
@[simp] theorem isin_str_str (x : Str) : isinD [(.str x), .ty "str"] h = .ok (.bl true) h := (rfl)
@[simp] theorem isin_str_int (x : Str) : isinD [(.str x), .ty "int"] h = .ok (.bl false) h := (rfl)
@[simp] theorem isin_tup_list (x : List D) : isinD [(.tup x), .ty "list"] h = .ok (.bl false) h := (rfl)
@[simp] theorem isin_tup_tuple (x : List D) : isinD [(.tup x), .ty "tuple"] h = .ok (.bl true) h := (rfl)
@[simp] theorem isin_tup_bool (x : List D) : isinD [(.tup x), .ty "bool"] h = .ok (.bl false) h := (rfl)
@[simp] theorem isin_tup_str (x : List D) : isinD [(.tup x), .ty "str"] h = .ok (.bl false) h := (rfl)
@[simp] theorem isin_tup_int (x : List D) : isinD [(.tup x), .ty "int"] h = .ok (.bl false) h := (rfl)
@[simp] theorem isin_lst_list (x : List D) : isinD [(.lst x), .ty "list"] h = .ok (.bl true) h := (rfl)
@[simp] theorem isin_lst_tuple (x : List D) : isinD [(.lst x), .ty "tuple"] h = .ok (.bl false) h := (rfl)
@[simp] theorem isin_lst_bool (x : List D) : isinD [(.lst x), .ty "bool"] h = .ok (.bl false) h := (rfl)
@[simp] theorem isin_lst_str (x : List D) : isinD [(.lst x), .ty "str"] h = .ok (.bl false) h := (rfl)
@[simp] theorem isin_lst_int (x : List D) : isinD [(.lst x), .ty "int"] h = .ok (.bl false) h := (rfl)
@[simp] theorem absD_int (i : Int) : absD [.int i] h = .ok (.int (if i < 0 then -i else i)) h := (rfl)
end
end Ev
namespace Ev
open PySem PySem.Spec PyProof.Rows L2
@[simp] theorem ofString_inj (s t : String) : (Str.ofString s = Str.ofString t) ↔ s = t := by
  constructor
  · intro h
    rw [Str.ofString_eq_toList, Str.ofString_eq_toList] at h
    injection h with h
    have h := congrArg Array.toList h
    have h2 : s.toList = t.toList := by
      generalize s.toList = l at h
      generalize t.toList = m at h
      simp only at h
      induction l generalizing m with
      | nil => cases m with
        | nil => rfl
        | cons => simp at h
      | cons a l ih => cases m with
        | nil => simp at h
        | cons b m =>
          simp only [List.map_cons, List.cons.injEq] at h
          obtain ⟨h1, h2⟩ := h
          have : a = b := Char.toNat_inj.mp h1
          rw [this, ih m h2]
    exact String.toList_inj.mp h2
  · rintro rfl; rfl
end Ev
namespace Ev
open PySem PySem.Spec PyProof.Rows L2
/-! comparisons in a row -/
def k_ch4 (f2 : Int → Int → Bool) (j : Int) (r : Res D) : Res D := match r with
  | .ok (.int k) h => .ok (.bl (f2 j k)) h
  | .ok _ _ => .stuck
  | .raise c fs h => .raise c fs h
  | .stuck => .stuck
@[simp] theorem k_ch4_ok (f2 : Int → Int → Bool) (j k : Int) (h : Hh) : k_ch4 f2 j (.ok (.int k) h) = .ok (.bl (f2 j k)) h := (rfl)
def k_ch3 (f1 f2 : Int → Int → Bool) (x y : D) (c : EM D) (ρ : Env) (h : Hh) : Res D := match x, y with
  | .int i, .int j => if f1 i j = true then k_ch4 f2 j (c ρ h) else .ok (.bl false) h
  | _, _ => .stuck
@[simp] theorem k_ch3_ok (f1 f2 : Int → Int → Bool) (i j : Int) (c : EM D) (ρ : Env) (h : Hh) : k_ch3 f1 f2 (.int i) (.int j) c ρ h = if f1 i j = true then k_ch4 f2 j (c ρ h) else .ok (.bl false) h := (rfl)
def k_ch2 (f1 f2 : Int → Int → Bool) (x : D) (c : EM D) (ρ : Env) (r : Res D) : Res D := match r with
  | .ok y h => k_ch3 f1 f2 x y c ρ h
  | .raise c fs h => .raise c fs h
  | .stuck => .stuck
@[simp] theorem k_ch2_ok (f1 f2 : Int → Int → Bool) (x y : D) (c : EM D) (ρ : Env) (h : Hh) : k_ch2 f1 f2 x c ρ (.ok y h) = k_ch3 f1 f2 x y c ρ h := (rfl)
def k_ch1 (f1 f2 : Int → Int → Bool) (b c : EM D) (ρ : Env) (r : Res D) : Res D := match r with
  | .ok x h => k_ch2 f1 f2 x c ρ (b ρ h)
  | .raise c fs h => .raise c fs h
  | .stuck => .stuck
@[simp] theorem k_ch1_ok (f1 f2 : Int → Int → Bool) (x : D) (b c : EM D) (ρ : Env) (h : Hh) : k_ch1 f1 f2 b c ρ (.ok x h) = k_ch2 f1 f2 x c ρ (b ρ h) := (rfl)
@[simp] theorem k_ch (f1 f2 : Int → Int → Bool) (a b c : EM D) (ρ : Env) (h : Hh) : chE f1 f2 a b c ρ h = k_ch1 f1 f2 b c ρ (a ρ h) := by
  unfold chE
  cases a ρ h with
  | ok x h1 =>
    rw [bind_ok, k_ch1_ok]
    cases b ρ h1 with
    | ok y h2 =>
      rw [bind_ok, k_ch2_ok]
      cases x with
      | int i =>
        cases y with
        | int j =>
          show (if f1 i j = true then _ else _) = _
          rw [k_ch3_ok]
          congr 1
          cases c ρ h2 with
          | ok w h3 => cases w <;> rfl
          | _ => rfl
        | _ => rfl
      | _ => rfl
    | _ => rfl
  | _ => rfl
def k_dh4 (f2 f3 : Int → Int → Bool) (j : Int) (d : EM D) (ρ : Env) (r : Res D) : Res D := match r with
  | .ok (.int k) h => if f2 j k = true then k_ch4 f3 k (d ρ h) else .ok (.bl false) h
  | .ok _ _ => .stuck
  | .raise c fs h => .raise c fs h
  | .stuck => .stuck
@[simp] theorem k_dh4_ok (f2 f3 : Int → Int → Bool) (j k : Int) (d : EM D) (ρ : Env) (h : Hh) : k_dh4 f2 f3 j d ρ (.ok (.int k) h) = if f2 j k = true then k_ch4 f3 k (d ρ h) else .ok (.bl false) h := (rfl)
def k_dh3 (f1 f2 f3 : Int → Int → Bool) (x y : D) (c d : EM D) (ρ : Env) (h : Hh) : Res D := match x, y with
  | .int i, .int j => if f1 i j = true then k_dh4 f2 f3 j d ρ (c ρ h) else .ok (.bl false) h
  | _, _ => .stuck
@[simp] theorem k_dh3_ok (f1 f2 f3 : Int → Int → Bool) (i j : Int) (c d : EM D) (ρ : Env) (h : Hh) : k_dh3 f1 f2 f3 (.int i) (.int j) c d ρ h = if f1 i j = true then k_dh4 f2 f3 j d ρ (c ρ h) else .ok (.bl false) h := (rfl)
def k_dh2 (f1 f2 f3 : Int → Int → Bool) (x : D) (c d : EM D) (ρ : Env) (r : Res D) : Res D := match r with
  | .ok y h => k_dh3 f1 f2 f3 x y c d ρ h
  | .raise c fs h => .raise c fs h
  | .stuck => .stuck
@[simp] theorem k_dh2_ok (f1 f2 f3 : Int → Int → Bool) (x y : D) (c d : EM D) (ρ : Env) (h : Hh) : k_dh2 f1 f2 f3 x c d ρ (.ok y h) = k_dh3 f1 f2 f3 x y c d ρ h := (rfl)
def k_dh1 (f1 f2 f3 : Int → Int → Bool) (b c d : EM D) (ρ : Env) (r : Res D) : Res D := match r with
  | .ok x h => k_dh2 f1 f2 f3 x c d ρ (b ρ h)
  | .raise c fs h => .raise c fs h
  | .stuck => .stuck
@[simp] theorem k_dh1_ok (f1 f2 f3 : Int → Int → Bool) (x : D) (b c d : EM D) (ρ : Env) (h : Hh) : k_dh1 f1 f2 f3 b c d ρ (.ok x h) = k_dh2 f1 f2 f3 x c d ρ (b ρ h) := (rfl)
@[simp] theorem k_dh (f1 f2 f3 : Int → Int → Bool) (a b c d : EM D) (ρ : Env) (h : Hh) : chE3 f1 f2 f3 a b c d ρ h = k_dh1 f1 f2 f3 b c d ρ (a ρ h) := by
  unfold chE3
  cases a ρ h with
  | ok x h1 =>
    rw [bind_ok, k_dh1_ok]
    cases b ρ h1 with
    | ok y h2 =>
      rw [bind_ok, k_dh2_ok]
      cases x with
      | int i =>
        cases y with
        | int j =>
          show (if f1 i j = true then _ else _) = _
          rw [k_dh3_ok]
          congr 1
          cases c ρ h2 with
          | ok w h3 =>
            cases w with
            | int k =>
              show (if f2 j k = true then _ else _) = _
              rw [k_dh4_ok]
              congr 1
              cases d ρ h3 with
              | ok v h4 => cases v <;> rfl
              | _ => rfl
            | _ => rfl
          | _ => rfl
        | _ => rfl
      | _ => rfl
    | _ => rfl
  | _ => rfl
end Ev

/-! EvM2: texts as lists of signs; while loops. -/
namespace Ev
open PySem PySem.Spec PyProof.Rows L2
def T (l : List Nat) : Str := ⟨l.toArray⟩
section
variable {h : Hh} {ρ : Env}
@[simp] theorem T_len (l : List Nat) : (T l).length = l.length := by unfold T Str.length; simp
@[simp] theorem T_cps (l : List Nat) : (T l).cps.toList = l := by unfold T; simp
theorem T_eta (s : Str) : T s.cps.toList = s := by unfold T; cases s; simp
theorem T_app (l m : List Nat) : T l ++ T m = T (l ++ m) := by
  show Str.append _ _ = _
  unfold Str.append T
  simp
theorem T_inj {l m : List Nat} : T l = T m ↔ l = m := by
  constructor
  · intro e
    have := congrArg (fun s : Str => s.cps.toList) e
    simpa using this
  · rintro rfl; rfl
theorem one_T (c : Nat) : (⟨#[c]⟩ : Str) = T [c] := (rfl)
theorem ixD_T {l : List Nat} {i c : Nat} (hz : l.length ≤ sizeLine) (e : l[i]? = some c) : ixD (.str (T l)) (.int (i : Int)) h = .ok (.str (T [c])) h := by
  rw [ixD_str (by rw [T_len]; exact hz), T_cps, atI_natE, e]
  rfl
theorem ixD_T0 {l : List Nat} {c : Nat} (hz : l.length ≤ sizeLine) (e : l[0]? = some c) : ixD (.str (T l)) (.int 0) h = .ok (.str (T [c])) h := ixD_T (i := 0) hz e
theorem memD_T (l : List Nat) (c : Nat) : memD (.str (T [c])) (.str (T l)) h = some (decide (c ∈ l)) := by
  show (oneS (T [c])).map (fun c => decide (c ∈ (T l).cps.toList)) = _
  rw [T_cps]
  rfl
@[simp] theorem inD_T (l : List Nat) (c : Nat) : inD (.str (T [c])) (.str (T l)) h = .ok (.bl (decide (c ∈ l))) h := by unfold inD; rw [memD_T]
@[simp] theorem ninD_T (l : List Nat) (c : Nat) : ninD (.str (T [c])) (.str (T l)) h = .ok (.bl (!decide (c ∈ l))) h := by unfold ninD; rw [memD_T]
theorem lenD_T {l : List Nat} (hz : l.length ≤ sizeLine) : lenD [.str (T l)] h = .ok (.int l.length) h := by rw [lenD_str (by rw [T_len]; exact hz), T_len]
theorem addD_T {l m : List Nat} (hz : l.length + m.length ≤ sizeLine) : addD (.str (T l)) (.str (T m)) h = .ok (.str (T (l ++ m))) h := by rw [addD_str _ _ (by rw [T_len, T_len]; exact hz), T_app]
theorem iaddD_T {l m : List Nat} (hz : l.length + m.length ≤ sizeLine) : iaddD (.str (T l)) (.str (T m)) h = .ok (.str (T (l ++ m))) h := by
  show (if _ then _ else _) = _
  rw [if_pos (by rw [T_len, T_len]; exact hz), T_app]
@[simp] theorem iaddD_int (i j : Int) : iaddD (.int i) (.int j) h = .ok (.int (i + j)) h := (rfl)
theorem slD_T {l : List Nat} {a b : Nat} (hz : l.length ≤ sizeLine) (ha : a ≤ l.length) (hb : b ≤ l.length) : slD (.str (T l)) (some (a : Int)) (some (b : Int)) h = .ok (.str (T ((l.drop a).take (b - a)))) h := by
  rw [ev_slS, if_pos (by rw [T_len]; exact hz)]
  unfold cutS
  rw [T_cps, T_len, HT.sIx_nat, HT.sIx_nat, Nat.min_eq_left ha, Nat.min_eq_left hb]
  rfl
theorem slD_Tto {l : List Nat} {b : Nat} (hz : l.length ≤ sizeLine) : slD (.str (T l)) none (some (b : Int)) h = .ok (.str (T (l.take b))) h := by
  rw [ev_slS, if_pos (by rw [T_len]; exact hz)]
  unfold cutS
  rw [T_cps, T_len, HT.sIx_nat, HT.sIx_none, List.drop_zero, Nat.sub_zero]
  by_cases hb : b ≤ l.length
  · rw [Nat.min_eq_left hb]; rfl
  · rw [Nat.min_eq_right (by omega), List.take_of_length_le (Nat.le_refl _), List.take_of_length_le (by omega)]; rfl
theorem slD_Tfrom {l : List Nat} {a : Nat} (hz : l.length ≤ sizeLine) : slD (.str (T l)) (some (a : Int)) none h = .ok (.str (T (l.drop a))) h := by
  rw [ev_slS, if_pos (by rw [T_len]; exact hz)]
  unfold cutS
  rw [T_cps, T_len, HT.sIx_nat, HT.sIx_none]
  by_cases ha : a ≤ l.length
  · rw [Nat.min_eq_left ha, List.take_of_length_le (by rw [List.length_drop]; exact Nat.le_refl _)]; rfl
  · rw [Nat.min_eq_right (by omega), Nat.sub_self, List.take_zero, List.drop_eq_nil_of_le (by omega)]; rfl
@[simp] theorem itOf_T (l : List Nat) : itOf (.str (T l)) h = .ok ⟨l.map fun c => .str (T [c]), none⟩ h := by
  show Res.ok (⟨(T l).cps.toList.map fun c => .str ⟨#[c]⟩, none⟩ : IT) h = _
  rw [T_cps]
  rfl
theorem mulD_T {l : List Nat} {n : Nat} (h1 : n ≤ 1000) (h2 : l.length ≤ 1000) : mulD (.str (T l)) (.int (n : Int)) h = .ok (.str (T (List.replicate n l).flatten)) h := by
  have e : mulD (.str (T l)) (.int (n : Int)) h = if -1000 ≤ (n:Int) ∧ (n:Int) ≤ 1000 ∧ (T l).length ≤ 1000 then .ok (D.str (repS (T l) ((n : Int)).toNat)) h else .stuck := rfl
  rw [e, if_pos ⟨by omega, by omega, by rw [T_len]; exact h2⟩, Int.toNat_natCast]
  unfold repS
  rw [T_cps]
  rfl
theorem rep_one (n c : Nat) : (List.replicate n [c]).flatten = List.replicate n c := by
  induction n with
  | zero => rfl
  | succ n ih => rw [List.replicate_succ, List.flatten_cons, ih, List.replicate_succ]; rfl
theorem isin_refE {n : Nat} {k : String} {l : List D} (e : h[n]? = some (.lst l)) (hk : k ∈ ["list", "tuple", "bool", "str", "int"]) : isinD [.ref n, .ty k] h = .ok (.bl (decide ("list" = k))) h := by
  have e3 : lstOf (.ref n) h = some l := by unfold lstOf; simp only [e]
  have e2 : kindD (.ref n) h = some "list" := by unfold kindD; simp only [e3]
  unfold isinD
  simp only [e2]
  simp only [List.mem_cons, List.not_mem_nil, or_false] at hk
  rcases hk with rfl | rfl | rfl | rfl | rfl <;> rfl
def k_augO (i : Nat) (g : D → D → Hh → Res D) (o : Option (Option D)) (ρ : Env) (r : Res D) : SR := match o with
  | some (some x) => k_aug1 i g x ρ r
  | _ => .stuck
@[simp] theorem k_augO_some (i : Nat) (g : D → D → Hh → Res D) (x : D) (ρ : Env) (r : Res D) : k_augO i g (some (some x)) ρ r = k_aug1 i g x ρ r := (rfl)
@[simp] theorem k_augE (i : Nat) (g : D → D → Hh → Res D) (a : EM D) (ρ : Env) (h : Hh) : augS i g a ρ h = k_augO i g ρ[i]? ρ (a ρ h) := by
  cases e : ρ[i]? with
  | none => unfold augS k_augO; rw [e]
  | some o =>
    cases o with
    | none => unfold augS k_augO; rw [e]
    | some x => rw [k_aug e]; rfl
/-! while -/
theorem wh_run {c : EM Bool} {b : SS} (I : Nat → Env → Hh → Prop) (Q : Env → Hh → Prop) (hs : ∀ n ρ h, I n ρ h → (c ρ h = .ok false h ∧ Q ρ h) ∨ (c ρ h = .ok true h ∧ Nx (b ρ h) (fun ρ' h' => ∃ m, m < n ∧ I m ρ' h'))) :
    ∀ n ρ h, I n ρ h → ∃ ρ' h', whileS c b ρ h = .nx ρ' h' ∧ Q ρ' h' := by
  intro n
  induction n using Nat.strongRecOn with
  | _ n ih =>
    intro ρ h hI
    rcases hs n ρ h hI with ⟨e, q⟩ | ⟨e, q⟩
    · exact ⟨ρ, h, by rw [whileS_eq, e, toS_ok, if_neg Bool.false_ne_true], q⟩
    · rw [whileS_eq, e, toS_ok, if_pos rfl]
      unfold Nx at q
      cases eb : b ρ h with
      | nx ρ2 h2 =>
        rw [eb] at q
        obtain ⟨m, hm, hI⟩ := q
        exact ih m hm ρ2 h2 hI
      | ct ρ2 h2 =>
        rw [eb] at q
        obtain ⟨m, hm, hI⟩ := q
        exact ih m hm ρ2 h2 hI
      | bk ρ2 h2 => rw [eb] at q; exact q.elim
      | ret ρ2 h2 => rw [eb] at q; exact q.elim
      | rs _ _ _ _ => rw [eb] at q; exact q.elim
      | stuck => rw [eb] at q; exact q.elim
/-! dicts by ints -/
theorem lookD_mapI (Ks : List Int) (v : Int → D) (t : Int) : lookD (Ks.map fun t => (D.int t, v t)) (.int t) = if t ∈ Ks then some (v t) else none := by
  unfold lookD
  induction Ks with
  | nil => rfl
  | cons a Ks ih =>
    rw [List.map_cons, List.find?_cons]
    by_cases h : a = t
    · subst h
      simp
    · have : decide (keyD (.int a) = keyD (.int t)) = false := decide_eq_false (by simp [h])
      rw [this]
      simp only
      rw [ih]
      simp [show ¬ t = a from fun e => h e.symm]
theorem putD_new {l : List (D × D)} {k d : D} (hk : keyD k ≠ none) (e : lookD l k = none) : putD l k d = l ++ [(k, d)] := by
  unfold putD
  rw [if_neg]
  intro h
  obtain ⟨p, hp, h2⟩ := List.any_eq_true.mp h
  unfold lookD at e
  rw [Option.map_eq_none_iff, List.find?_eq_none] at e
  exact e p hp h2
theorem memD_refK {n : Nat} {K : List Int} {j : Int} (r : h[n]? = some (.dic (K.map kT))) : memD (.int j) (.ref n) h = some (decide (j ∈ K)) := by
  have e1 : lstOf (.ref n) h = none := by unfold lstOf; simp only [r]
  have e2 : dicOf (.ref n) h = some (K.map kT) := by unfold dicOf; simp only [r]
  have e3 : memD (.int j) (.ref n) h = some (lookD (K.map kT) (.int j)).isSome := by
    unfold memD
    simp only [e1, e2]
    rfl
  have e4 : K.map kT = K.map fun t => (D.int t, (fun _ : Int => D.bl true) t) := rfl
  rw [e3, e4, lookD_mapI]
  split <;> rename_i h <;> simp [h]
theorem ninD_refK {n : Nat} {K : List Int} {j : Int} (r : h[n]? = some (.dic (K.map kT))) : ninD (.int j) (.ref n) h = .ok (.bl (!decide (j ∈ K))) h := by unfold ninD; rw [memD_refK r]
theorem inD_refK {n : Nat} {K : List Int} {j : Int} (r : h[n]? = some (.dic (K.map kT))) : inD (.int j) (.ref n) h = .ok (.bl (decide (j ∈ K))) h := by unfold inD; rw [memD_refK r]
theorem setdE_of {mo mk mv : EM D} {n : Nat} {l : List (D × D)} {k v : D} {h1 h2 h3 : Hh} (e1 : mo ρ h = .ok (.ref n) h1) (r : h1[n]? = some (.dic l)) (e2 : mk ρ h1 = .ok k h2) (e3 : mv ρ h2 = .ok v h3) :
    setdE mo mk mv ρ h = setdD (.ref n) k v h3 := by
  have em : mdOf (.ref n) h1 = some (n, l) := by unfold mdOf; simp only [r]
  unfold setdE
  rw [e1, bind_ok, em]
  simp only
  rw [e2, bind_ok, e3, bind_ok]
theorem setdD_of {n : Nat} {l : List (D × D)} {k v : D} (r : h[n]? = some (.dic l)) (hk : (keyD k).isSome = true) (hl : l.length < sizeLine) :
    setdD (.ref n) k v h = match lookD l k with
      | some d => .ok d h
      | none => .ok v (h.set n (.dic (putD l k v))) := by
  have em : mdOf (.ref n) h = some (n, l) := by unfold mdOf; simp only [r]
  unfold setdD
  rw [em]
  simp only
  rw [if_pos ⟨hk, hl⟩]
  all_goals (cases lookD l k <;> rfl)
theorem mapM_some {α β : Type} {f : α → Option β} {g : α → β} : ∀ (l : List α), (∀ x ∈ l, f x = some (g x)) → l.mapM f = some (l.map g)
  | [], _ => rfl
  | a :: l, h => by
    rw [List.mapM_cons, h a List.mem_cons_self, mapM_some l fun x hx => h x (List.mem_cons_of_mem _ hx)]
    rfl
theorem cut_frz {f : List D → Hh → Res D} {ds : List D} {d d' : D} {g : Hh} (e : f ds h = .ok d (h ++ g)) (b : frzD h.length (h ++ g) 3 d = some d') : cutF f ds h = .ok d' h := by
  unfold cutF
  rw [e]
  simp only
  rw [if_pos (keptH_app g), b]
  simp
/-- a frozen list -/
theorem frz_lst {n k m : Nat} {l : List D} (hm : n ≤ m) (r : h[m]? = some (.lst l)) (b : belows n l = true) : frzD n h (k + 2) (.ref m) = some (.lst l) := by
  have h1 : ¬ below n (.ref m) = true := by simp [below]; omega
  unfold frzD
  rw [if_neg h1]
  simp only [r]
  rw [mapM_some (g := id) l fun x hx => by unfold frzD; rw [if_pos ((belows_all n l).mp b x hx)]; rfl]
  simp
theorem cutD_to {l : List D} {k : Nat} (hk : k ≤ l.length) : cutD l none (some (k : Int)) = l.take k := by
  unfold cutD
  rw [HT.sIx_nat, HT.sIx_none, Nat.min_eq_left hk, List.drop_zero, Nat.sub_zero]
theorem cutD_from {l : List D} {k : Nat} (hk : k ≤ l.length) : cutD l (some (k : Int)) none = l.drop k := by
  unfold cutD
  rw [HT.sIx_nat, HT.sIx_none, Nat.min_eq_left hk, List.take_of_length_le (by rw [List.length_drop]; exact Nat.le_refl _)]
theorem cutD_to' {l : List D} {k : Nat} : cutD l none (some (k : Int)) = l.take k := by
  unfold cutD
  rw [HT.sIx_nat, HT.sIx_none, List.drop_zero, Nat.sub_zero]
  by_cases hk : k ≤ l.length
  · rw [Nat.min_eq_left hk]
  · rw [Nat.min_eq_right (by omega), List.take_of_length_le (Nat.le_refl _), List.take_of_length_le (by omega)]
theorem ltD_tint (l m : List Int) : ltD (.tup (l.map D.int)) (.tup (m.map D.int)) h = .ok (.bl (HT.lexLt l m)) h := by
  unfold ltD
  simp only [intsOf_map]
theorem memD_map {α : Type} [DecidableEq α] {f : α → D} (l : List α) (a : α) (heq : ∀ b ∈ l, eqvD (f b) (f a) = decide (b = a)) (h1 : CmpOk (f a)) (h2 : CmpOk (.lst (l.map f))) :
    memD (f a) (.lst (l.map f)) h = some (decide (a ∈ l)) := by
  have e : memD (f a) (.lst (l.map f)) h = some ((l.map f).any fun z => eqvD z (f a)) := if_pos (.inr ⟨h1, h2⟩)
  rw [e]
  congr 1
  rw [Bool.eq_iff_iff, List.any_eq_true, decide_eq_true_eq]
  constructor
  · rintro ⟨z, hz, e⟩
    obtain ⟨b, hb, rfl⟩ := List.mem_map.mp hz
    rw [heq b hb, decide_eq_true_eq] at e
    exact e ▸ hb
  · intro ha
    exact ⟨f a, List.mem_map_of_mem ha, by rw [heq a ha]; simp⟩
theorem memD_refmap {α : Type} [DecidableEq α] {f : α → D} {n : Nat} (l : List α) (a : α) (r : h[n]? = some (.lst (l.map f))) (heq : ∀ b ∈ l, eqvD (f b) (f a) = decide (b = a)) (h1 : CmpOk (f a)) (h2 : CmpOk (.lst (l.map f))) :
    memD (f a) (.ref n) h = some (decide (a ∈ l)) := by
  have e1 : lstOf (.ref n) h = some (l.map f) := by unfold lstOf; simp only [r]
  have e2 : memD (f a) (.ref n) h = memD (f a) (.lst (l.map f)) h := by
    unfold memD
    simp only [e1]
    rfl
  rw [e2, memD_map l a heq h1 h2]
end
end Ev

/-! EvM3: own objects, tuples of texts, raise and try: rules for simp. -/
namespace Ev
open PySem PySem.Spec PyProof.Rows L2
section
variable {h : Hh} {ρ : Env} {c f m : Str}
def insO (c : Str) (n : Nat) (o : Option O) : Option (Nat × List (Str × D)) := match o with
  | some (.ins c' fs) => if c' = c then some (n, fs) else none
  | _ => none
theorem insOf_ref (c : Str) (n : Nat) : insOf c (.ref n) h = insO c n h[n]? := (rfl)
/-! e.f -/
def k_fld1 (c f : Str) (r : Res D) : Res D := match r with
  | .ok d h => fldD c f d h
  | .raise c fs h => .raise c fs h
  | .stuck => .stuck
@[simp] theorem k_fld1_ok (c f : Str) (d : D) (h : Hh) : k_fld1 c f (.ok d h) = fldD c f d h := (rfl)
@[simp] theorem k_fld (c f : Str) (a : EM D) (ρ : Env) (h : Hh) : fldE c f a ρ h = k_fld1 c f (a ρ h) := by unfold fldE; cases a ρ h <;> rfl
def k_fldO (c f : Str) (h : Hh) (o : Option O) : Res D := match o with
  | some (.ins c' fs) => if c' = c then (match fs.lookup f with
    | some x => .ok x h
    | none => .stuck) else .stuck
  | _ => .stuck
@[simp] theorem ev_fld (c f : Str) (n : Nat) : fldD c f (.ref n) h = k_fldO c f h h[n]? := by
  unfold fldD
  rw [insOf_ref]
  cases e : h[n]? with
  | none => rfl
  | some o =>
    cases o with
    | ins c' fs =>
      simp only [k_fldO, insO]
      by_cases hc : c' = c
      · rw [if_pos hc, if_pos hc]
        all_goals rfl
      · rw [if_neg hc, if_neg hc]
        all_goals rfl
    | _ => rfl
theorem k_fldO_of {fs : List (Str × D)} {x : D} (e : fs.lookup f = some x) : k_fldO c f h (some (.ins c fs)) = .ok x h := by
  unfold k_fldO
  simp only
  rw [if_pos trivial, e]
/-! o.m(..) -/
def k_mthO (c m : Str) (g : List D → Hh → Res D) (n : Nat) (r : Res (List D)) (o : Option O) : Res D := match o with
  | some (.ins c' fs) => if c' = c ∧ fs.lookup m = none then (match r with
    | .ok l h2 => g (.ref n :: l) h2
    | .raise c fs h => .raise c fs h
    | .stuck => .stuck) else .stuck
  | _ => .stuck
def k_mth1 (c m : Str) (g : List D → Hh → Res D) (ms : EM (List D)) (ρ : Env) (r : Res D) : Res D := match r with
  | .ok o h1 => (match insOf c o h1 with
    | some (_, fs) => if fs.lookup m = none then (ms ρ h1).bind fun l h2 => g (o :: l) h2 else .stuck
    | none => .stuck)
  | .raise c fs h => .raise c fs h
  | .stuck => .stuck
@[simp] theorem k_mth (c m : Str) (g : List D → Hh → Res D) (mo : EM D) (ms : EM (List D)) (ρ : Env) (h : Hh) : mthE c m g mo ms ρ h = k_mth1 c m g ms ρ (mo ρ h) := by unfold mthE; cases mo ρ h <;> rfl
@[simp] theorem k_mth1_ref (c m : Str) (g : List D → Hh → Res D) (ms : EM (List D)) (ρ : Env) (n : Nat) (h : Hh) : k_mth1 c m g ms ρ (.ok (.ref n) h) = k_mthO c m g n (ms ρ h) h[n]? := by
  unfold k_mth1 k_mthO
  simp only
  rw [insOf_ref]
  cases e : h[n]? with
  | none => rfl
  | some o =>
    cases o with
    | ins c' fs =>
      simp only [insO]
      by_cases hc : c' = c
      · rw [if_pos hc]
        simp only
        by_cases hl : fs.lookup m = none
        · rw [if_pos hl, if_pos ⟨hc, hl⟩]
          cases ms ρ h <;> rfl
        · rw [if_neg hl, if_neg fun z => hl z.2]
      · rw [if_neg hc, if_neg fun z => hc z.1]
    | _ => rfl
theorem k_mthO_of {g : List D → Hh → Res D} {n : Nat} {l : List D} {h2 : Hh} {fs : List (Str × D)} (e : fs.lookup m = none) : k_mthO c m g n (.ok l h2) (some (.ins c fs)) = g (.ref n :: l) h2 := by
  unfold k_mthO
  simp only
  rw [if_pos ⟨trivial, e⟩]
/-! C(..) -/
@[simp] theorem madeR_ok (n : Nat) (h : Hh) : madeR n (.ok .non h) = .ok (.ref n) h := (rfl)
def k_mk1 (c : Str) (g : List D → Hh → Res D) (r : Res (List D)) : Res D := match r with
  | .ok l h1 => madeR h1.length (g (.ref h1.length :: l) (h1 ++ [.ins c []]))
  | .raise c fs h => .raise c fs h
  | .stuck => .stuck
@[simp] theorem k_mk1_ok (c : Str) (g : List D → Hh → Res D) (l : List D) (h : Hh) : k_mk1 c g (.ok l h) = madeR h.length (g (.ref h.length :: l) (h ++ [.ins c []])) := (rfl)
@[simp] theorem k_mk (c : Str) (g : List D → Hh → Res D) (ms : EM (List D)) (ρ : Env) (h : Hh) : mkE c g ms ρ h = k_mk1 c g (ms ρ h) := by unfold mkE; cases ms ρ h <;> rfl
/-! o.f = v -/
def k_nxO (ρ : Env) (o : Option Hh) : SR := match o with
  | some h => .nx ρ h
  | none => .stuck
@[simp] theorem k_nxO_some (ρ : Env) (h : Hh) : k_nxO ρ (some h) = .nx ρ h := (rfl)
def k_sf2 (c f : Str) (y : D) (ρ : Env) (r : Res D) : SR := match r with
  | .ok o h => k_nxO ρ (sfldD c f o y h)
  | .raise c fs h => .rs c fs ρ h
  | .stuck => .stuck
@[simp] theorem k_sf2_ok (c f : Str) (y o : D) (ρ : Env) (h : Hh) : k_sf2 c f y ρ (.ok o h) = k_nxO ρ (sfldD c f o y h) := (rfl)
def k_sf1 (c f : Str) (mo : EM D) (ρ : Env) (r : Res D) : SR := match r with
  | .ok y h => k_sf2 c f y ρ (mo ρ h)
  | .raise c fs h => .rs c fs ρ h
  | .stuck => .stuck
@[simp] theorem k_sf1_ok (c f : Str) (mo : EM D) (ρ : Env) (y : D) (h : Hh) : k_sf1 c f mo ρ (.ok y h) = k_sf2 c f y ρ (mo ρ h) := (rfl)
@[simp] theorem k_sf (c f : Str) (mo mv : EM D) (ρ : Env) (h : Hh) : sfldS c f mo mv ρ h = k_sf1 c f mo ρ (mv ρ h) := by
  unfold sfldS
  cases mv ρ h with
  | ok y h1 =>
    simp only [toS_ok, k_sf1_ok]
    cases mo ρ h1 with
    | ok o h2 => simp only [toS_ok, k_sf2_ok]; cases sfldD c f o y h2 <;> rfl
    | _ => rfl
  | _ => rfl
def k_sfO (c f : Str) (n : Nat) (y : D) (h : Hh) (o : Option O) : Option Hh := match o with
  | some (.ins c' fs) => if c' = c ∧ fs.length < 1000 then some (h.set n (.ins c (putFD f y fs))) else none
  | _ => none
@[simp] theorem ev_sfld (c f : Str) (n : Nat) (y : D) : sfldD c f (.ref n) y h = k_sfO c f n y h h[n]? := by
  unfold sfldD k_sfO
  rw [insOf_ref]
  cases e : h[n]? with
  | none => rfl
  | some o =>
    cases o with
    | ins c' fs =>
      simp only [insO]
      by_cases hc : c' = c
      · rw [if_pos hc]
        simp only
        by_cases hl : fs.length < 1000
        · rw [if_pos hl, if_pos ⟨hc, hl⟩]
        · rw [if_neg hl, if_neg fun z => hl z.2]
      · rw [if_neg hc, if_neg fun z => hc z.1]
    | _ => rfl
theorem k_sfO_of {n : Nat} {y : D} {fs : List (Str × D)} (hl : fs.length < 1000) : k_sfO c f n y h (some (.ins c fs)) = some (h.set n (.ins c (putFD f y fs))) := by
  unfold k_sfO
  simp only
  rw [if_pos ⟨trivial, hl⟩]
/-! o.f += v -/
def k_af4 (c f : Str) (o : D) (ρ : Env) (r : Res D) : SR := match r with
  | .ok z h => k_nxO ρ (sfldD c f o z h)
  | .raise c fs h => .rs c fs ρ h
  | .stuck => .stuck
@[simp] theorem k_af4_ok (c f : Str) (o z : D) (ρ : Env) (h : Hh) : k_af4 c f o ρ (.ok z h) = k_nxO ρ (sfldD c f o z h) := (rfl)
def k_af3 (c f : Str) (g : D → D → Hh → Res D) (o x : D) (ρ : Env) (r : Res D) : SR := match r with
  | .ok y h => k_af4 c f o ρ (g x y h)
  | .raise c fs h => .rs c fs ρ h
  | .stuck => .stuck
@[simp] theorem k_af3_ok (c f : Str) (g : D → D → Hh → Res D) (o x y : D) (ρ : Env) (h : Hh) : k_af3 c f g o x ρ (.ok y h) = k_af4 c f o ρ (g x y h) := (rfl)
def k_af2 (c f : Str) (g : D → D → Hh → Res D) (mv : EM D) (o : D) (ρ : Env) (r : Res D) : SR := match r with
  | .ok x h => k_af3 c f g o x ρ (mv ρ h)
  | .raise c fs h => .rs c fs ρ h
  | .stuck => .stuck
@[simp] theorem k_af2_ok (c f : Str) (g : D → D → Hh → Res D) (mv : EM D) (o x : D) (ρ : Env) (h : Hh) : k_af2 c f g mv o ρ (.ok x h) = k_af3 c f g o x ρ (mv ρ h) := (rfl)
def k_af1 (c f : Str) (g : D → D → Hh → Res D) (mv : EM D) (ρ : Env) (r : Res D) : SR := match r with
  | .ok o h => k_af2 c f g mv o ρ (fldD c f o h)
  | .raise c fs h => .rs c fs ρ h
  | .stuck => .stuck
@[simp] theorem k_af1_ok (c f : Str) (g : D → D → Hh → Res D) (mv : EM D) (o : D) (ρ : Env) (h : Hh) : k_af1 c f g mv ρ (.ok o h) = k_af2 c f g mv o ρ (fldD c f o h) := (rfl)
@[simp] theorem k_af (c f : Str) (g : D → D → Hh → Res D) (mo mv : EM D) (ρ : Env) (h : Hh) : afldS c f g mo mv ρ h = k_af1 c f g mv ρ (mo ρ h) := by
  unfold afldS
  cases mo ρ h with
  | ok o h1 =>
    simp only [toS_ok, k_af1_ok]
    cases fldD c f o h1 with
    | ok x h2 =>
      simp only [toS_ok, k_af2_ok]
      cases mv ρ h2 with
      | ok y h3 =>
        simp only [toS_ok, k_af3_ok]
        cases g x y h3 with
        | ok z h4 => simp only [toS_ok, k_af4_ok]; cases sfldD c f o z h4 <;> rfl
        | _ => rfl
      | _ => rfl
    | _ => rfl
  | _ => rfl
/-! tuples of texts -/
@[simp] theorem tnD_ntp (l : List Str) : tnD (.ntp l) = .tup (l.map D.str) := (rfl)
def k_tn1 (r : Res D) : Res D := match r with
  | .ok d h => .ok (tnD d) h
  | .raise c fs h => .raise c fs h
  | .stuck => .stuck
@[simp] theorem k_tn1_ok (d : D) (h : Hh) : k_tn1 (.ok d h) = .ok (tnD d) h := (rfl)
@[simp] theorem k_tn (a : EM D) (ρ : Env) (h : Hh) : tnE a ρ h = k_tn1 (a ρ h) := by unfold tnE; cases a ρ h <;> rfl
def k_nix3 (h : Hh) (o : Option Nat) : Res D := match o with
  | some j => .ok (.int ((j : Nat) : Int)) h
  | none => .stuck
@[simp] theorem k_nix3_some (h : Hh) (j : Nat) : k_nix3 h (some j) = .ok (.int (j : Int)) h := (rfl)
def k_nix2 (zs : List Str) (r : Res (List D)) : Res D := match r with
  | .ok l h => nidxD (.ntp zs) l h
  | .raise c fs h => .raise c fs h
  | .stuck => .stuck
@[simp] theorem k_nix2_ok (zs : List Str) (z : Str) (h : Hh) : k_nix2 zs (.ok [.str z] h) = k_nix3 h (zs.findIdx? fun y => decide (y = z)) := by
  show nidxD (.ntp zs) [.str z] h = _
  unfold nidxD
  simp only
  cases zs.findIdx? fun y => decide (y = z) <;> rfl
def k_nix1 (ms : EM (List D)) (ρ : Env) (r : Res D) : Res D := match r with
  | .ok (.ntp zs) h => k_nix2 zs (ms ρ h)
  | .ok _ _ => .stuck
  | .raise c fs h => .raise c fs h
  | .stuck => .stuck
@[simp] theorem k_nix1_ok (ms : EM (List D)) (ρ : Env) (zs : List Str) (h : Hh) : k_nix1 ms ρ (.ok (.ntp zs) h) = k_nix2 zs (ms ρ h) := (rfl)
@[simp] theorem k_nix (mo : EM D) (ms : EM (List D)) (ρ : Env) (h : Hh) : nidxE mo ms ρ h = k_nix1 ms ρ (mo ρ h) := by
  unfold nidxE
  cases mo ρ h with
  | ok d h1 =>
    cases d with
    | ntp zs => simp only [bind_ok, k_nix1_ok]; cases ms ρ h1 <;> rfl
    | _ => rfl
  | _ => rfl
@[simp] theorem lidxD_strs (l : List Str) (z : Str) : lidxD (.lst (l.map D.str)) [.str z] h = k_nix3 h (l.findIdx? fun y => decide (y = z)) := by
  have e : lstOf (.lst (l.map D.str)) h = some (l.map D.str) := rfl
  unfold lidxD
  rw [e]
  simp only [strsOf_map]
  cases l.findIdx? fun y => decide (y = z) <;> rfl
@[simp] theorem ntpD_strs (l : List Str) : ntpD [.lst (l.map D.str)] h = .ok (.ntp l) h := by
  unfold ntpD
  simp only [strsOf_map]
/-! raise, try -/
theorem raise_run {d : D} (hf : fmtD d = true) : raiseS c f (consA (cE d) nilA) ρ h = .rs c [(f, d)] ρ h := by
  have e : consA (cE d) nilA ρ h = .ok [d] h := rfl
  unfold raiseS
  rw [e, toS_ok]
  unfold rsE
  simp only
  rw [if_pos hf]
theorem raise_runV {d : D} {a : EM D} (e : a ρ h = .ok d h) (hf : fmtD d = true) : raiseS c f (consA a nilA) ρ h = .rs c [(f, d)] ρ h := by
  have e : consA a nilA ρ h = .ok [d] h := by unfold consA; rw [e, bind_ok]; rfl
  unfold raiseS
  rw [e, toS_ok]
  unfold rsE
  simp only
  rw [if_pos hf]
theorem cut_raise {g0 : List D → Hh → Res D} {ds : List D} {fs : List (Str × D)} {g : Hh} (e : g0 ds h = .raise c fs (h ++ g)) (b : belowF h.length fs = true) : cutF g0 ds h = .raise c fs h := by
  unfold cutF
  rw [e]
  simp only
  rw [if_pos ⟨keptH_app g, b⟩]
  simp
theorem try_nx {i : Nat} {m : SS} {u : List (Str × D) → SS} {h2 : Hh} {ρ2 : Env} (e : m ρ h = .nx ρ2 h2) : tryS c i m u ρ h = .nx ρ2 h2 := by
  unfold tryS
  rw [e]
theorem try_ret {i : Nat} {m : SS} {u : List (Str × D) → SS} {h2 : Hh} {d : D} (e : m ρ h = .ret d h2) : tryS c i m u ρ h = .ret d h2 := by
  unfold tryS
  rw [e]
theorem try_rs {i : Nat} {m : SS} {u : List (Str × D) → SS} {ρ2 : Env} {h2 : Hh} {fs : List (Str × D)} (e : m ρ h = .rs c fs ρ2 h2) (hf : fs ≠ []) (hi : i < ρ2.length) : tryS c i m u ρ h = match u fs (ρ2.set i none) h2 with
    | .ret d h3 => .ret d h3
    | _ => .stuck := by
  unfold tryS
  rw [e]
  simp only
  rw [if_pos ⟨trivial, hf, hi⟩]
  all_goals (cases u fs (ρ2.set i none) h2 <;> rfl)
/-! a def that changes what it was given, and leaves something -/
theorem cut_chg {g0 : List D → Hh → Res D} {ds : List D} {d : D} {h' g : Hh} (e : g0 ds h = .ok d (h' ++ g)) (hl : h'.length = h.length) (hk : ∀ i : Nat, h'[i]? = h[i]? ∨ ∃ o, h'[i]? = some o ∧ belowO h.length o = true) (b : below h.length d = true) : cutF g0 ds h = .ok d h' := by
  unfold cutF
  rw [e]
  simp only
  have hkp : keptH h (h' ++ g) := by
    refine ⟨by rw [List.length_append]; omega, fun i hi => ?_⟩
    rw [List.getElem?_append_left (by omega)]
    exact hk i
  rw [if_pos hkp]
  have : frzD h.length (h' ++ g) 3 d = some d := by unfold frzD; rw [if_pos b]
  rw [this]
  simp only
  rw [← hl, List.take_left]
theorem cut_set {g0 : List D → Hh → Res D} {ds : List D} {d : D} {g : Hh} {n : Nat} {o : O} (e : g0 ds h = .ok d (h.set n o ++ g)) (ho : belowO h.length o = true) (b : below h.length d = true) : cutF g0 ds h = .ok d (h.set n o) := by
  refine cut_chg e (List.length_set ..) (fun i => ?_) b
  by_cases q : i = n
  · subst q
    by_cases hi : i < h.length
    · rw [List.getElem?_set_self hi]; exact .inr ⟨o, rfl, ho⟩
    · rw [List.getElem?_eq_none (by rw [List.length_set]; omega), List.getElem?_eq_none (by omega)]; exact .inl rfl
  · rw [List.getElem?_set_ne (Ne.symm q)]; exact .inl rfl
/-! enumerate -/
def k_enumA (r : Res (List D)) : Res IT := match r with
  | .ok l h => enumAD l h
  | .raise c fs h => .raise c fs h
  | .stuck => .stuck
@[simp] theorem k_enumA_ok (l : List D) (h : Hh) : k_enumA (.ok l h) = enumAD l h := (rfl)
@[simp] theorem k_enumAI (m : EM (List D)) (ρ : Env) (h : Hh) : enumAI m ρ h = k_enumA (m ρ h) := by unfold enumAI; cases m ρ h <;> rfl
@[simp] theorem enumAD_tup (l : List D) : enumAD [.tup l] h = .ok ⟨enumL 0 l, none⟩ h := (rfl)
@[simp] theorem enumAD_lst (l : List D) : enumAD [.lst l] h = .ok ⟨enumL 0 l, none⟩ h := (rfl)
theorem enumL_map {α : Type} (f : α → D) : ∀ (l : List α) (n : Nat), enumL n (l.map f) = (l.zipIdx n).map fun p => .tup [.int (p.2 : Nat), f p.1]
  | [], _ => rfl
  | a :: l, n => by
    rw [List.map_cons, enumL, enumL_map f l (n + 1)]
    rfl
theorem frz_below {n k : Nat} {d : D} (b : below n d = true) : frzD n h (k + 1) d = some d := by unfold frzD; rw [if_pos b]
/-- a pair of a value and a list that was made here -/
theorem frz_pair {n k m : Nat} {a : D} {l : List D} (ha : below n a = true) (hm : n ≤ m) (r : h[m]? = some (.lst l)) (b : belows n l = true) : frzD n h (k + 3) (.tup [a, .ref m]) = some (.tup [a, .lst l]) := by
  have h1 : ¬ below n (.tup [a, .ref m]) = true := by
    show ¬ (below n a && (below n (.ref m) && true)) = true
    rw [ha]
    have : below n (.ref m) = false := decide_eq_false (by omega)
    rw [this]
    exact Bool.false_ne_true
  unfold frzD
  rw [if_neg h1]
  simp only
  rw [List.mapM_cons, frz_below ha, List.mapM_cons, frz_lst hm r b]
  rfl
def k_par1 (i j : Nat) (ρ : Env) (r : Res (List D)) : SR := match r with
  | .ok [a, b] h => .nx ((ρ.set i (some a)).set j (some b)) h
  | .raise c fs h => .rs c fs ρ h
  | _ => .stuck
@[simp] theorem k_par1_ok (i j : Nat) (ρ : Env) (a b : D) (h : Hh) : k_par1 i j ρ (.ok [a, b] h) = .nx ((ρ.set i (some a)).set j (some b)) h := (rfl)
@[simp] theorem k_par (i j : Nat) (m : EM (List D)) (ρ : Env) (h : Hh) : par2S i j m ρ h = k_par1 i j ρ (m ρ h) := by
  unfold par2S
  cases m ρ h with
  | ok l h1 =>
    match l with
    | [] => rfl
    | [_] => rfl
    | [_, _] => rfl
    | _ :: _ :: _ :: _ => rfl
  | _ => rfl
end
end Ev

/-! EvM4: sorted: rules for simp. -/
namespace Ev
open PySem PySem.Spec PyProof.Rows L2
section
variable {h : Hh} {ρ : Env}
theorem srtD_ok {a : List D} {d : D} {h1 : Hh} (e : sortD a h = .ok d h1) : srtD a h = .ok d h1 := by unfold srtD; rw [e]
theorem srtD_kT {n : Nat} {K : List Int} (r : h[n]? = some (.dic (K.map kT))) (hl : K.length < 64) : srtD [.ref n] h = .ok (.lst ((sortI K).map D.int)) h := srtD_ok (sortD_kT r hl)
@[simp] theorem srtD_ints (l : List Int) : srtD [.lst (l.map D.int)] h = .ok (.lst ((sortI l).map D.int)) h := srtD_ok (sortD_ints l)
theorem srtD_ref {n : Nat} {l : List Int} (r : h[n]? = some (.lst (l.map D.int))) : srtD [.ref n] h = .ok (.lst ((sortI l).map D.int)) h := srtD_ok (sortD_ref r)
theorem tupsI_map : ∀ l : List (List Int), tupsI (l.map fun t => .tup (t.map D.int)) = some l
  | [] => rfl
  | t :: l => by
    have ih := tupsI_map l
    have ht : tupI (.tup (t.map D.int)) = some t := by
      unfold tupI
      simp only [intsOf_map]
    rw [List.map_cons]
    unfold tupsI
    rw [ht, ih]
theorem srtD_tups' (l : List (List Int)) (hh : l.length < 2 ∨ ∀ t ∈ l, t ≠ []) : srtD [.lst (l.map fun t => .tup (t.map D.int))] h = .ok (.lst ((srtT l).map fun t => .tup (t.map D.int))) h := by
  cases l with
  | nil => 
    have e : srtT [] = [] := by unfold srtT; simp
    rw [e]
    exact srtD_ok (sortD_ints [])
  | cons t l =>
    have e1 : sortD [.lst ((t :: l).map fun t => .tup (t.map D.int))] h = .stuck := rfl
    unfold srtD
    rw [e1]
    simp only
    unfold srtX
    have e2 : lstOf (.lst ((t :: l).map fun t => .tup (t.map D.int))) h = some ((t :: l).map fun t => .tup (t.map D.int)) := rfl
    simp only [e2, tupsI_map (t :: l)]
    rw [if_pos]
    rcases hh with hh | hh
    · exact .inl hh
    · right
      rw [List.all_eq_true]
      intro t ht
      have := hh t ht
      cases t with
      | nil => exact absurd rfl this
      | cons a r => rfl
theorem srtD_tups (l : List (List Int)) (hh : ∀ t ∈ l, t ≠ []) : srtD [.lst (l.map fun t => .tup (t.map D.int))] h = .ok (.lst ((srtT l).map fun t => .tup (t.map D.int))) h := srtD_tups' l (.inr hh)
theorem srtD_tupsR {n : Nat} (l : List (List Int)) (hh : ∀ t ∈ l, t ≠ []) (r : h[n]? = some (.lst (l.map fun t => .tup (t.map D.int)))) : srtD [.ref n] h = .ok (.lst ((srtT l).map fun t => .tup (t.map D.int))) h := by
  have e0 : lstOf (.ref n) h = some (l.map fun t => .tup (t.map D.int)) := by unfold lstOf; simp only [r]
  have e1 : sortD [.ref n] h = sortD [.lst (l.map fun t => .tup (t.map D.int))] h := by unfold sortD; simp only [e0]; rfl
  have e2 : srtX [.ref n] h = srtX [.lst (l.map fun t => .tup (t.map D.int))] h := by unfold srtX; simp only [e0]; rfl
  have e3 := srtD_tups (h := h) l hh
  unfold srtD at e3 ⊢
  rw [e1, e2]
  exact e3
def kS (k : Str) : D × D := (.str k, .bl true)
theorem keyS_map : ∀ K : List Str, keyS (K.map kS) = some K
  | [] => rfl
  | k :: K => by
    have ih := keyS_map K
    show (match keyS (K.map kS) with | some r => some (k :: r) | none => none) = _
    rw [ih]
theorem srtD_kS {n : Nat} {K : List Str} (r : h[n]? = some (.dic (K.map kS))) (hl : K.length < 64) : srtD [.ref n] h = .ok (.lst ((srtS K).map D.str)) h := by
  have e1 : lstOf (.ref n) h = none := by unfold lstOf; simp only [r]
  have e2 : dicOf (.ref n) h = some (K.map kS) := by unfold dicOf; simp only [r]
  cases K with
  | nil =>
    have e : srtS [] = [] := by unfold srtS; simp
    rw [e]
    exact srtD_ok (sortD_kT (K := []) r (by simp))
  | cons k K =>
    have e3 : sortD [.ref n] h = .stuck := by
      unfold sortD
      simp only [e1, e2]
      rfl
    unfold srtD
    rw [e3]
    simp only
    unfold srtX
    simp only [e1, e2, keyS_map]
    rw [if_pos hl]
def insS' (K : List Str) (k : Str) : List Str := if k ∈ K then K else K ++ [k]
theorem putD_kS (K : List Str) (k : Str) : putD (K.map kS) (.str k) (.bl true) = (insS' K k).map kS := by
  unfold putD insS'
  by_cases hk : k ∈ K
  · rw [if_pos hk, if_pos]
    · have : ∀ K : List Str, (K.map kS).map (fun p => if keyD p.1 = keyD (.str k) then (p.1, D.bl true) else p) = K.map kS := by
        intro K
        rw [List.map_map]
        refine List.map_congr_left fun x _ => ?_
        show (if keyD (kS x).1 = _ then _ else _) = kS x
        split <;> rfl
      first
        | exact this K
        | (rw [List.map_map]; refine List.map_congr_left fun x _ => ?_; simp only [Function.comp, kS]; split <;> simp_all)
    · rw [List.any_eq_true]
      exact ⟨kS k, List.mem_map_of_mem hk, by simp [kS]⟩
  · rw [if_neg hk, if_neg]
    · rw [List.map_append]; rfl
    · rw [List.any_eq_true]
      rintro ⟨p, hp, e⟩
      obtain ⟨x, hx, rfl⟩ := List.mem_map.mp hp
      simp [kS] at e
      exact hk (e ▸ hx)
/-! loops over lists that are written out -/
noncomputable def k_lp (g : GM) (x : SS) (l : List D) (r : SR) : SR := match r with
  | .nx ρ h => loopS (fun _ => True) g x l ρ h
  | .ct ρ h => loopS (fun _ => True) g x l ρ h
  | .bk ρ h => .nx ρ h
  | r => r
@[simp] theorem k_lp_nx (g : GM) (x : SS) (l : List D) (ρ : Env) (h : Hh) : k_lp g x l (.nx ρ h) = loopS (fun _ => True) g x l ρ h := (rfl)
@[simp] theorem k_lp_ct (g : GM) (x : SS) (l : List D) (ρ : Env) (h : Hh) : k_lp g x l (.ct ρ h) = loopS (fun _ => True) g x l ρ h := (rfl)
@[simp] theorem k_lp_bk (g : GM) (x : SS) (l : List D) (ρ : Env) (h : Hh) : k_lp g x l (.bk ρ h) = .nx ρ h := (rfl)
@[simp] theorem k_lp_ret (g : GM) (x : SS) (l : List D) (d : D) (h : Hh) : k_lp g x l (.ret d h) = .ret d h := (rfl)
@[simp] theorem k_lp_rs (g : GM) (x : SS) (l : List D) (c : Str) (fs : List (Str × D)) (ρ : Env) (h : Hh) : k_lp g x l (.rs c fs ρ h) = .rs c fs ρ h := (rfl)
theorem lpN_cons (i : Nat) (x : SS) (d : D) (l : List D) (ρ : Env) (h : Hh) : loopS (fun _ => True) (gNm i) x (d :: l) ρ h = k_lp (gNm i) x l (x (ρ.set i (some d)) h) := by
  rw [lpC_cons (ρ1 := ρ.set i (some d)) trivial rfl]
  cases x (ρ.set i (some d)) h <;> rfl
theorem lpN_nil (g : GM) (x : SS) (ρ : Env) (h : Hh) : loopS (fun _ => True) g x [] ρ h = .nx ρ h := lpC_nil trivial
end
end Ev

/-! EvM5: dicts keyed by tuples of any depth: rules for simp. -/
namespace Ev
open PySem PySem.Spec PyProof.Rows L2
section
variable {h : Hh} {ρ : Env}
def k_putN4 (ρ : Env) (o : Option Hh) : SR := match o with
  | some h4 => .nx ρ h4
  | none => .stuck
@[simp] theorem k_putN4_some (ρ : Env) (h : Hh) : k_putN4 ρ (some h) = .nx ρ h := (rfl)
def k_putN3 (ρ : Env) (v o : D) (r : Res D) : SR := match r with
  | .ok i h3 => k_putN4 ρ (putNO o i v h3)
  | .raise c fs h => .rs c fs ρ h
  | .stuck => .stuck
@[simp] theorem k_putN3_ok (ρ : Env) (v o i : D) (h : Hh) : k_putN3 ρ v o (.ok i h) = k_putN4 ρ (putNO o i v h) := (rfl)
def k_putN2 (mi : EM D) (ρ : Env) (v : D) (r : Res D) : SR := match r with
  | .ok o h2 => k_putN3 ρ v o (mi ρ h2)
  | .raise c fs h => .rs c fs ρ h
  | .stuck => .stuck
@[simp] theorem k_putN2_ok (mi : EM D) (ρ : Env) (v o : D) (h : Hh) : k_putN2 mi ρ v (.ok o h) = k_putN3 ρ v o (mi ρ h) := (rfl)
def k_putN1 (mo mi : EM D) (ρ : Env) (r : Res D) : SR := match r with
  | .ok v h1 => k_putN2 mi ρ v (mo ρ h1)
  | .raise c fs h => .rs c fs ρ h
  | .stuck => .stuck
@[simp] theorem k_putN1_ok (mo mi : EM D) (ρ : Env) (v : D) (h : Hh) : k_putN1 mo mi ρ (.ok v h) = k_putN2 mi ρ v (mo ρ h) := (rfl)
@[simp] theorem k_putNS (a mo mi : EM D) (ρ : Env) (h : Hh) : putNS a mo mi ρ h = k_putN1 mo mi ρ (a ρ h) := by
  unfold putNS
  cases a ρ h with
  | ok v h1 =>
    show toS (mo ρ h1) ρ _ = k_putN2 mi ρ v (mo ρ h1)
    cases mo ρ h1 with
    | ok o h2 =>
      show toS (mi ρ h2) ρ _ = k_putN3 ρ v o (mi ρ h2)
      cases mi ρ h2 with
      | ok i h3 => show (match putNO o i v h3 with | some h4 => _ | none => _) = k_putN4 ρ (putNO o i v h3); cases putNO o i v h3 <;> rfl
      | _ => rfl
    | _ => rfl
  | _ => rfl
@[simp] theorem k_dicN (ρ : Env) (h : Hh) : dicN ρ h = .ok (.ref h.length) (h ++ [.dtn []]) := (rfl)
theorem inN_of {n : Nat} {l : List (D × D)} {k : D} (r : h[n]? = some (.dtn l)) (hk : nkT k = true) : inN k (.ref n) h = .ok (.bl (lookN l k).isSome) h := by
  unfold inN memN ndOf
  simp only [r, hk, if_true]
theorem ninN_of {n : Nat} {l : List (D × D)} {k : D} (r : h[n]? = some (.dtn l)) (hk : nkT k = true) : ninN k (.ref n) h = .ok (.bl !(lookN l k).isSome) h := by
  unfold ninN memN ndOf
  simp only [r, hk, if_true]
theorem ixN_of {n : Nat} {l : List (D × D)} {k d : D} (r : h[n]? = some (.dtn l)) (hk : nkT k = true) (e : lookN l k = some d) : ixNd (.ref n) k h = .ok d h := by
  unfold ixNd ndOf
  simp only [r, hk, if_true, e]
theorem putN_of {n : Nat} {l : List (D × D)} {k d : D} (r : h[n]? = some (.dtn l)) (hk : nkT k = true) (hl : l.length < sizeLine) : putNO (.ref n) k d h = some (h.set n (.dtn (putN l k d))) := by
  unfold putNO ndOf
  simp only [r]
  rw [if_pos ⟨hk, hl⟩]
/-! tables -/
/-- a table whose keys are f a -/
structure Enc {α : Type} (f : α → D) : Prop where
  inj : ∀ a b, nkD (f a) = nkD (f b) → a = b
  key : ∀ a, nkT (f a) = true
def tabN {α : Type} (f : α → D) (l : List (α × D)) : List (D × D) := l.map fun p => (f p.1, p.2)
theorem lookN_tab {α : Type} [DecidableEq α] {f : α → D} (hf : ∀ a b, nkD (f a) = nkD (f b) → a = b) (a : α) : ∀ l : List (α × D), lookN (tabN f l) (f a) = (l.find? fun p => decide (p.1 = a)).map (·.2)
  | [] => rfl
  | p :: l => by
    have ih := lookN_tab hf a l
    have e0 : lookN (tabN f (p :: l)) (f a) = (match decide (nkD (f p.1) = nkD (f a)) with
      | true => some p.2
      | false => lookN (tabN f l) (f a)) := by
      show Option.map _ (List.find? _ ((f p.1, p.2) :: tabN f l)) = _
      rw [List.find?_cons]
      cases decide (nkD (f p.1) = nkD (f a)) <;> rfl
    have e2 : ((p :: l).find? fun p => decide (p.1 = a)).map (·.2) = (match decide (p.1 = a) with
      | true => some p.2
      | false => (l.find? fun p => decide (p.1 = a)).map (·.2)) := by
      rw [List.find?_cons]
      cases decide (p.1 = a) <;> rfl
    rw [e0, e2]
    by_cases h : p.1 = a
    · rw [decide_eq_true h, decide_eq_true (show nkD (f p.1) = nkD (f a) by rw [h])]
    · rw [decide_eq_false h, decide_eq_false (fun e => h (hf _ _ e))]
      exact ih
def putT {α : Type} [DecidableEq α] (l : List (α × D)) (a : α) (d : D) : List (α × D) :=
  if (l.find? fun p => decide (p.1 = a)).isSome = true then l.map (fun p => if p.1 = a then (p.1, d) else p) else l ++ [(a, d)]
theorem putN_tab {α : Type} [DecidableEq α] {f : α → D} (hf : ∀ a b, nkD (f a) = nkD (f b) → a = b) (a : α) (d : D) (l : List (α × D)) : putN (tabN f l) (f a) d = tabN f (putT l a d) := by
  unfold putN putT
  rw [lookN_tab hf, Option.isSome_map]
  split
  · unfold tabN
    rw [List.map_map, List.map_map]
    refine List.map_congr_left fun p _ => ?_
    show (if nkD (f p.1) = nkD (f a) then (f p.1, d) else (f p.1, p.2)) = (f (if p.1 = a then (p.1, d) else p).1, (if p.1 = a then (p.1, d) else p).2)
    by_cases h : p.1 = a
    · rw [if_pos (by rw [h]), if_pos h]
    · rw [if_neg (fun e => h (hf _ _ e)), if_neg h]
  · unfold tabN
    rw [List.map_append]
    rfl
theorem putT_len {α : Type} [DecidableEq α] (l : List (α × D)) (a : α) (d : D) : (putT l a d).length ≤ l.length + 1 := by
  unfold putT
  split
  · rw [List.length_map]; omega
  · rw [List.length_append]; exact Nat.le_refl _
theorem putT_mem {α : Type} [DecidableEq α] {l : List (α × D)} {a : α} {d : D} {p : α × D} (h : p ∈ putT l a d) : p = (a, d) ∨ p ∈ l := by
  unfold putT at h
  split at h
  · obtain ⟨q, hq, rfl⟩ := List.mem_map.mp h
    by_cases e : q.1 = a
    · rw [if_pos e, e]; exact .inl rfl
    · rw [if_neg e]; exact .inr hq
  · rcases List.mem_append.mp h with h | h
    · exact .inr h
    · exact .inl (List.mem_singleton.mp h)
/-! tuples of ints as keys -/
theorem nkDs_ints : ∀ l : List Int, nkD.nkDs (l.map D.int) = some (l.map NestedKey.num)
  | [] => by simp [nkD.nkDs]
  | i :: l => by rw [List.map_cons, nkD.nkDs, nkDs_ints l]; simp [nkD]
theorem nkD_ints (l : List Int) : nkD (.tup (l.map D.int)) = some (.tup (l.map NestedKey.num)) := by
  rw [nkD, nkDs_ints]; rfl
theorem nums_inj : ∀ l m : List Int, l.map NestedKey.num = m.map NestedKey.num → l = m
  | [], [], _ => rfl
  | [], _ :: _, e => by simp at e
  | _ :: _, [], e => by simp at e
  | a :: l, b :: m, e => by
    simp only [List.map_cons, List.cons.injEq, NestedKey.num.injEq] at e
    rw [e.1, nums_inj l m e.2]
theorem nkints_inj (l m : List Int) (e : nkD (.tup (l.map D.int)) = nkD (.tup (m.map D.int))) : l = m := by
  rw [nkD_ints, nkD_ints] at e
  injection e with e
  injection e with e
  exact nums_inj l m e
theorem depth_nums : ∀ l : List Int, NestedKey.depthAll (l.map NestedKey.num) = 0
  | [] => by simp [NestedKey.depthAll]
  | i :: l => by rw [List.map_cons, NestedKey.depthAll, depth_nums l]; simp [NestedKey.depth]
theorem nkT_ints (l : List Int) : nkT (.tup (l.map D.int)) = true := by
  unfold nkT
  rw [nkD_ints]
  simp only [NestedKey.depth, depth_nums]
  rfl
/-! keys in general -/
mutual
theorem nk_depth : ∀ (d : D) (k : NestedKey), nkD d = some k → k.depth ≤ depD d
  | .non, k, e => by rw [nkD] at e; cases e; simp [NestedKey.depth]
  | .bl b, k, e => by rw [nkD] at e; cases e; simp [NestedKey.depth]
  | .int i, k, e => by rw [nkD] at e; cases e; simp [NestedKey.depth]
  | .str x, k, e => by rw [nkD] at e; cases e; simp [NestedKey.depth]
  | .tup l, k, e => by
    rw [nkD] at e
    cases el : nkD.nkDs l with
    | none => rw [el] at e; cases e
    | some ks =>
      rw [el] at e
      cases e
      have := nk_depths l ks el
      simp only [NestedKey.depth, depD]
      omega
  | .lst l, k, e => by simp [nkD] at e
  | .dic l, k, e => by simp [nkD] at e
  | .scr l, k, e => by simp [nkD] at e
  | .ref l, k, e => by simp [nkD] at e
  | .ty l, k, e => by simp [nkD] at e
  | .ntp l, k, e => by simp [nkD] at e
theorem nk_depths : ∀ (l : List D) (ks : List NestedKey), nkD.nkDs l = some ks → NestedKey.depthAll ks ≤ depDs l
  | [], ks, e => by rw [nkD.nkDs] at e; cases e; simp [NestedKey.depthAll]
  | d :: l, ks, e => by
    rw [nkD.nkDs] at e
    cases e1 : nkD d with
    | none => rw [e1] at e; cases e
    | some k =>
      cases e2 : nkD.nkDs l with
      | none => rw [e1, e2] at e; cases e
      | some ks' =>
        rw [e1, e2] at e
        cases e
        have h1 := nk_depth d k e1
        have h2 := nk_depths l ks' e2
        simp only [NestedKey.depthAll, depDs]
        omega
end
def isK (d : D) : Prop := ∃ k, nkD d = some k
def areK (l : List D) : Prop := ∃ ks, nkD.nkDs l = some ks
theorem areK_nil : areK [] := ⟨[], by rw [nkD.nkDs]⟩
theorem areK_cons {d : D} {l : List D} (h1 : isK d) (h2 : areK l) : areK (d :: l) := by
  obtain ⟨k, e1⟩ := h1
  obtain ⟨ks, e2⟩ := h2
  exact ⟨k :: ks, by rw [nkD.nkDs, e1, e2]⟩
theorem areK_map {α : Type} {f : α → D} (hf : ∀ a, isK (f a)) : ∀ l : List α, areK (l.map f)
  | [] => areK_nil
  | a :: l => areK_cons (hf a) (areK_map hf l)
theorem isK_tup {l : List D} (h : areK l) : isK (.tup l) := by
  obtain ⟨ks, e⟩ := h
  exact ⟨.tup ks, by rw [nkD, e]; rfl⟩
theorem isK_int (i : Int) : isK (.int i) := ⟨.num i, by rw [nkD]⟩
theorem isK_str (x : Str) : isK (.str x) := ⟨.text x, by rw [nkD]⟩
theorem isK_non : isK .non := ⟨.none, by rw [nkD]⟩
theorem nk_tup {l m : List D} (hl : areK l) (hm : areK m) (e : nkD (.tup l) = nkD (.tup m)) : nkD.nkDs l = nkD.nkDs m := by
  obtain ⟨ks, e1⟩ := hl
  obtain ⟨ls, e2⟩ := hm
  rw [nkD, nkD, e1, e2] at e
  simp only [Option.map_some, Option.some.injEq, NestedKey.tup.injEq] at e
  rw [e1, e2, e]
theorem nk_cons {a b : D} {l m : List D} (h1 : isK a) (h2 : isK b) (h3 : areK l) (h4 : areK m) (e : nkD.nkDs (a :: l) = nkD.nkDs (b :: m)) : nkD a = nkD b ∧ nkD.nkDs l = nkD.nkDs m := by
  obtain ⟨k1, e1⟩ := h1
  obtain ⟨k2, e2⟩ := h2
  obtain ⟨k3, e3⟩ := h3
  obtain ⟨k4, e4⟩ := h4
  rw [nkD.nkDs, nkD.nkDs, e1, e2, e3, e4] at e
  simp only [Option.some.injEq, List.cons.injEq] at e
  rw [e1, e2, e3, e4, e.1, e.2]
  exact ⟨rfl, rfl⟩
theorem nk_map {α : Type} {f : α → D} (hk : ∀ a, isK (f a)) (hf : ∀ a b, nkD (f a) = nkD (f b) → a = b) : ∀ l m : List α, nkD.nkDs (l.map f) = nkD.nkDs (m.map f) → l = m
  | [], [], _ => rfl
  | [], b :: m, e => by
    obtain ⟨ks, e2⟩ := areK_cons (hk b) (areK_map hk m)
    rw [List.map_nil, List.map_cons, e2, nkD.nkDs] at e
    simp only [Option.some.injEq] at e
    subst e
    rw [nkD.nkDs] at e2
    obtain ⟨k, ek⟩ := hk b
    obtain ⟨kl, el⟩ := areK_map hk m
    rw [ek, el] at e2
    cases e2
  | a :: l, [], e => by
    obtain ⟨ks, e2⟩ := areK_cons (hk a) (areK_map hk l)
    rw [List.map_nil, List.map_cons, e2, nkD.nkDs] at e
    simp only [Option.some.injEq] at e
    subst e
    rw [nkD.nkDs] at e2
    obtain ⟨k, ek⟩ := hk a
    obtain ⟨kl, el⟩ := areK_map hk l
    rw [ek, el] at e2
    cases e2
  | a :: l, b :: m, e => by
    obtain ⟨e1, e2⟩ := nk_cons (hk a) (hk b) (areK_map hk l) (areK_map hk m) e
    rw [hf a b e1, nk_map hk hf l m e2]
theorem nkT_of2 {l : List D} (h : areK l) (hd : depDs l ≤ 7) : nkT (.tup l) = true := by
  obtain ⟨k, e⟩ := isK_tup h
  have := nk_depth _ _ e
  unfold nkT
  rw [e]
  simp only [depD] at this
  simp only [decide_eq_true_eq]
  omega
theorem nkD_str (x y : Str) (e : nkD (.str x) = nkD (.str y)) : x = y := by rw [nkD, nkD] at e; cases e; rfl
theorem nkD_int (x y : Int) (e : nkD (.int x) = nkD (.int y)) : x = y := by rw [nkD, nkD] at e; cases e; rfl
end
end Ev

set_option maxHeartbeats 4000000
namespace G_k04
open PySem PySem.Spec PyProof.Rows L2 Ev
def c_REGISTERS : D := (.tup [(.str "a"), (.str "b"), (.str "c"), (.str "d")])
def c_MOST_TOKENS : D := (.int 20)
def c_MOST_BRACKETS : D := (.int 5)
def c_LEVELS : D := (.tup [(.tup [(.str "or")]), (.tup [(.str "and")]), (.tup [(.str "="), (.str "<")]), (.tup [(.str "+"), (.str "-")]), (.tup [(.str "*")])])
def c_CLAIM : D := (.int 2)
noncomputable def b_Reader___init__ : SS :=
  seqS (sfldS "Reader" "parts" (varE 0) (varE 1)) (seqS (sfldS "Reader" "at" (varE 0) (cE (.int 0))) (seqS (sfldS "Reader" "depth" (varE 0) (cE (.int 0))) (sfldS "Reader" "failed" (varE 0) (cE (.bl false)))))
noncomputable def m_Reader___init__ : List D → Hh → Res D := defF 2 b_Reader___init__
noncomputable def b_Reader_take : SS :=
  seqS (ifS (tstE (binE geD (fldE "Reader" "at" (varE 0)) (callE lenD (consA (fldE "Reader" "parts" (varE 0)) (nilA))))) (seqS (sfldS "Reader" "failed" (varE 0) (cE (.bl true))) (retS (tupE (consA (cE (.str "end")) (consA (cE (.str "")) (nilA)))))) (nilS)) (seqS (setS 1 (binE ixD (fldE "Reader" "parts" (varE 0)) (fldE "Reader" "at" (varE 0)))) (seqS (afldS "Reader" "at" iaddD (varE 0) (cE (.int 1))) (retS (varE 1))))
noncomputable def m_Reader_take : List D → Hh → Res D := defF 2 b_Reader_take
noncomputable def b_Reader_sees : SS :=
  retS (andE (binE ltD (fldE "Reader" "at" (varE 0)) (callE lenD (consA (fldE "Reader" "parts" (varE 0)) (nilA)))) (binE inD (binE ixD (binE ixD (fldE "Reader" "parts" (varE 0)) (fldE "Reader" "at" (varE 0))) (cE (.int 1))) (varE 1)))
noncomputable def m_Reader_sees : List D → Hh → Res D := defF 2 b_Reader_sees
noncomputable def b_Reader_group (R_Reader_group : List D → Hh → Res D) (R_Reader_factor : List D → Hh → Res D) (R_Reader_level : List D → Hh → Res D) : SS :=
  seqS (afldS "Reader" "depth" iaddD (varE 0) (cE (.int 1))) (seqS (ifS (tstE (binE gtD (fldE "Reader" "depth" (varE 0)) (cE c_MOST_BRACKETS))) (seqS (sfldS "Reader" "failed" (varE 0) (cE (.bl true))) (retS (tupE (consA (cE (.str "num")) (consA (cE (.int 0)) (nilA)))))) (nilS)) (seqS (setS 1 (mthE "Reader" "level" R_Reader_level (varE 0) (consA (cE (.int 0)) (nilA)))) (seqS (ifS (tstE (binE neD (mthE "Reader" "take" m_Reader_take (varE 0) (nilA)) (tupE (consA (cE (.str "sign")) (consA (cE (.str ")")) (nilA)))))) (sfldS "Reader" "failed" (varE 0) (cE (.bl true))) (nilS)) (seqS (afldS "Reader" "depth" subD (varE 0) (cE (.int 1))) (retS (varE 1))))))
noncomputable def b_Reader_factor (R_Reader_group : List D → Hh → Res D) (R_Reader_factor : List D → Hh → Res D) (R_Reader_level : List D → Hh → Res D) : SS :=
  seqS (ifS (tstE (fldE "Reader" "failed" (varE 0))) (retS (tupE (consA (cE (.str "num")) (consA (cE (.int 0)) (nilA))))) (nilS)) (seqS (asgS (mthE "Reader" "take" m_Reader_take (varE 0) (nilA)) (gTp [1, 2])) (seqS (ifS (andT (tstE (binE eqD (varE 1) (cE (.str "sign")))) (tstE (binE eqD (varE 2) (cE (.str "-"))))) (retS (tupE (consA (cE (.str "neg")) (consA (mthE "Reader" "factor" R_Reader_factor (varE 0) (nilA)) (nilA))))) (nilS)) (seqS (ifS (andT (tstE (binE eqD (varE 1) (cE (.str "word")))) (tstE (binE eqD (varE 2) (cE (.str "not"))))) (retS (tupE (consA (cE (.str "not")) (consA (mthE "Reader" "factor" R_Reader_factor (varE 0) (nilA)) (nilA))))) (nilS)) (seqS (ifS (tstE (binE eqD (varE 1) (cE (.str "number")))) (retS (tupE (consA (cE (.str "num")) (consA (callE intD (consA (varE 2) (nilA))) (nilA))))) (nilS)) (seqS (ifS (andT (tstE (binE eqD (varE 1) (cE (.str "word")))) (tstE (binE inD (varE 2) (cE c_REGISTERS)))) (retS (tupE (consA (cE (.str "reg")) (consA (varE 2) (nilA))))) (nilS)) (seqS (ifS (andT (tstE (binE eqD (varE 1) (cE (.str "sign")))) (tstE (binE eqD (varE 2) (cE (.str "("))))) (retS (mthE "Reader" "group" R_Reader_group (varE 0) (nilA))) (nilS)) (seqS (sfldS "Reader" "failed" (varE 0) (cE (.bl true))) (retS (tupE (consA (cE (.str "num")) (consA (cE (.int 0)) (nilA))))))))))))
noncomputable def x1_Reader_level (R_Reader_group : List D → Hh → Res D) (R_Reader_factor : List D → Hh → Res D) (R_Reader_level : List D → Hh → Res D) : SS :=
  seqS (setS 4 (binE ixD (mthE "Reader" "take" m_Reader_take (varE 0) (nilA)) (cE (.int 1)))) (seqS (setS 2 (tupE (consA (cE (.str "op")) (consA (varE 4) (consA (varE 2) (consA (mthE "Reader" "level" R_Reader_level (varE 0) (consA (binE addD (varE 1) (cE (.int 1))) (nilA))) (nilA))))))) (setS 3 (binE neD (varE 1) (cE c_CLAIM))))
noncomputable def wt2_Reader_level (R_Reader_group : List D → Hh → Res D) (R_Reader_factor : List D → Hh → Res D) (R_Reader_level : List D → Hh → Res D) : EM Bool :=
  andT (tstE (varE 3)) (andT (notT (tstE (fldE "Reader" "failed" (varE 0)))) (tstE (mthE "Reader" "sees" m_Reader_sees (varE 0) (consA (binE ixD (cE c_LEVELS) (varE 1)) (nilA)))))
noncomputable def b_Reader_level (R_Reader_group : List D → Hh → Res D) (R_Reader_factor : List D → Hh → Res D) (R_Reader_level : List D → Hh → Res D) : SS :=
  seqS (ifS (tstE (binE eqD (varE 1) (callE lenD (consA (cE c_LEVELS) (nilA))))) (retS (mthE "Reader" "factor" R_Reader_factor (varE 0) (nilA))) (nilS)) (seqS (setS 2 (mthE "Reader" "level" R_Reader_level (varE 0) (consA (binE addD (varE 1) (cE (.int 1))) (nilA)))) (seqS (setS 3 (cE (.bl true))) (seqS (whileS ((wt2_Reader_level R_Reader_group R_Reader_factor R_Reader_level)) ((x1_Reader_level R_Reader_group R_Reader_factor R_Reader_level))) (retS (varE 2)))))
mutual
noncomputable def m_Reader_group : Nat → List D → Hh → Res D
  | 0 => defF 2 stuckS
  | n + 1 => defF 2 (b_Reader_group (m_Reader_group n) (m_Reader_factor n) (m_Reader_level n))
noncomputable def m_Reader_factor : Nat → List D → Hh → Res D
  | 0 => defF 3 stuckS
  | n + 1 => defF 3 (b_Reader_factor (m_Reader_group n) (m_Reader_factor n) (m_Reader_level n))
noncomputable def m_Reader_level : Nat → List D → Hh → Res D
  | 0 => defF 5 stuckS
  | n + 1 => defF 5 (b_Reader_level (m_Reader_group n) (m_Reader_factor n) (m_Reader_level n))
end
noncomputable def b_read_expression : SS :=
  seqS (ifS (tstE (binE gtD (callE lenD (consA (varE 0) (nilA))) (cE c_MOST_TOKENS))) (retS (cE .non)) (nilS)) (seqS (setS 1 (mkE "Reader" m_Reader___init__ (consA (varE 0) (nilA)))) (seqS (setS 2 (mthE "Reader" "level" (m_Reader_level 175) (varE 1) (consA (cE (.int 0)) (nilA)))) (seqS (ifS (orT (tstE (fldE "Reader" "failed" (varE 1))) (tstE (binE ltD (fldE "Reader" "at" (varE 1)) (callE lenD (consA (varE 0) (nilA)))))) (retS (cE .non)) (nilS)) (retS (varE 2)))))
noncomputable def m_read_expression : List D → Hh → Res D := cutF (defF 3 b_read_expression)
noncomputable def b__law_cell : SS :=
  seqS (ifS (tstE (binE ltD (varE 1) (callE lenD (consA (varE 0) (nilA))))) (retS (binE ixD (varE 0) (varE 1))) (nilS)) (retS (cE (.int 0)))
noncomputable def m__law_cell : List D → Hh → Res D := defF 2 b__law_cell
noncomputable def x1__law_digits : SS :=
  ifS (tstE (binE gtD (varE 5) (cE (.int 0)))) (seqS (exprS (methE isLst appendD (varE 3) (consA (binE modD (callE intD (consA (varE 5) (nilA))) (cE (.int 1000))) (nilA)))) (setS 5 (binE fdivD (varE 5) (cE (.int 1000))))) (nilS)
noncomputable def x2__law_digits : SS :=
  seqS (setS 7 (binE modD (callE intD (consA (binE addD (binE addD (binE mulD (varE 7) (cE (.int 16807))) (binE mulD (cE (.int 7)) (varE 6))) (cE (.int 1))) (nilA))) (cE (.int 2147483647)))) (exprS (methE isLst appendD (varE 3) (consA (binE modD (callE intD (consA (binE fdivD (varE 7) (cE (.int 997))) (nilA))) (cE (.int 1000))) (nilA))))
noncomputable def x3__law_digits : SS :=
  seqS (setS 5 (callE m__law_cell (consA (varE 0) (consA (varE 4) (nilA))))) (seqS (ifS (tstE (binE ltD (varE 5) (cE (.int 0)))) (setS 5 (binE subD (cE (.int 1)) (binE mulD (cE (.int 2)) (varE 5)))) (nilS)) (ifS (tstE (binE geD (varE 5) (binE powD (cE (.int 10)) (cE (.int 18))))) (forS (rngI (consA (cE (.int 60)) (nilA))) (gNm 6) (x1__law_digits)) (seqS (setS 7 (binE modD (callE intD (consA (binE addD (binE addD (binE mulD (varE 5) (cE (.int 48271))) (binE mulD (varE 4) (cE (.int 69621)))) (cE (.int 11))) (nilA))) (cE (.int 2147483647)))) (forS (rngI (consA (cE (.int 12)) (nilA))) (gNm 6) (x2__law_digits)))))
noncomputable def b__law_digits : SS :=
  seqS (setS 3 (lstH (nilA))) (seqS (forS (rngI (consA (varE 1) (consA (varE 2) (nilA)))) (gNm 4) (x3__law_digits)) (retS (varE 3)))
noncomputable def m__law_digits : List D → Hh → Res D := cutF (defF 8 b__law_digits)
noncomputable def b__law_draw : SS :=
  seqS (setS 2 (binE ixD (varE 0) (cE (.int 1)))) (seqS (putS (binE addD (varE 2) (cE (.int 1))) (varE 0) (cE (.int 1))) (seqS (ifS (tstE (binE ltD (varE 2) (callE lenD (consA (binE ixD (varE 0) (cE (.int 0))) (nilA))))) (retS (binE modD (callE intD (consA (binE ixD (binE ixD (varE 0) (cE (.int 0))) (varE 2)) (nilA))) (varE 1))) (nilS)) (retS (cE (.int 0)))))
noncomputable def m__law_draw : List D → Hh → Res D := defF 3 b__law_draw
noncomputable def x1__law_same (R__law_same : List D → Hh → Res D) : SS :=
  ifS (notT (tstE (callE R__law_same (consA (binE ixD (varE 0) (varE 2)) (consA (binE ixD (varE 1) (varE 2)) (nilA)))))) (retS (cE (.bl false))) (nilS)
noncomputable def b__law_same (R__law_same : List D → Hh → Res D) : SS :=
  seqS (ifS (orT (tstE (callE isinD (consA (varE 1) (consA (cE (.ty "list")) (nilA))))) (tstE (callE isinD (consA (varE 1) (consA (cE (.ty "tuple")) (nilA)))))) (seqS (ifS (orT (tstE (binE neD (callE isinD (consA (varE 1) (consA (cE (.ty "list")) (nilA)))) (callE isinD (consA (varE 0) (consA (cE (.ty "list")) (nilA)))))) (tstE (binE neD (callE isinD (consA (varE 1) (consA (cE (.ty "tuple")) (nilA)))) (callE isinD (consA (varE 0) (consA (cE (.ty "tuple")) (nilA))))))) (retS (cE (.bl false))) (nilS)) (seqS (ifS (tstE (binE neD (callE lenD (consA (varE 0) (nilA))) (callE lenD (consA (varE 1) (nilA))))) (retS (cE (.bl false))) (nilS)) (seqS (forS (rngI (consA (callE lenD (consA (varE 1) (nilA))) (nilA))) (gNm 2) ((x1__law_same R__law_same))) (retS (cE (.bl true)))))) (nilS)) (seqS (ifS (tstE (binE isD (varE 1) (cE .non))) (retS (binE isD (varE 0) (cE .non))) (nilS)) (seqS (ifS (tstE (callE isinD (consA (varE 1) (consA (cE (.ty "bool")) (nilA))))) (retS (andE (callE isinD (consA (varE 0) (consA (cE (.ty "bool")) (nilA)))) (binE eqD (varE 0) (varE 1)))) (nilS)) (seqS (ifS (tstE (callE isinD (consA (varE 1) (consA (cE (.ty "str")) (nilA))))) (retS (andE (callE isinD (consA (varE 0) (consA (cE (.ty "str")) (nilA)))) (binE eqD (varE 0) (varE 1)))) (nilS)) (retS (andE (callE isinD (consA (varE 0) (consA (cE (.ty "int")) (nilA)))) (andE (notE (callE isinD (consA (varE 0) (consA (cE (.ty "bool")) (nilA))))) (binE eqD (varE 0) (varE 1))))))))
noncomputable def m__law_same : Nat → List D → Hh → Res D
  | 0 => defF 3 stuckS
  | n + 1 => defF 3 (b__law_same (m__law_same n))
noncomputable def b__law_tree (R__law_tree : List D → Hh → Res D) : SS :=
  seqS (setS 2 (callE m__law_draw (consA (varE 0) (consA (cE (.int 9)) (nilA))))) (seqS (ifS (orT (tstE (binE eqD (varE 1) (cE (.int 0)))) (tstE (binE ltD (varE 2) (cE (.int 2))))) (retS (tupE (consA (cE (.str "reg")) (consA (binE ixD (cE (.str "abcd")) (callE m__law_draw (consA (varE 0) (consA (cE (.int 4)) (nilA))))) (nilA))))) (nilS)) (seqS (ifS (tstE (binE eqD (varE 2) (cE (.int 2)))) (retS (tupE (consA (cE (.str "num")) (consA (binE ixD (lstE (consA (cE (.int 0)) (consA (cE (.int 1)) (consA (cE (.int 2)) (consA (cE (.int 9)) (consA (cE (.int 10)) (consA (cE (.int 99)) (nilA)))))))) (callE m__law_draw (consA (varE 0) (consA (cE (.int 6)) (nilA))))) (nilA))))) (nilS)) (seqS (ifS (tstE (binE eqD (varE 2) (cE (.int 3)))) (retS (tupE (consA (cE (.str "neg")) (consA (callE R__law_tree (consA (varE 0) (consA (binE subD (varE 1) (cE (.int 1))) (nilA)))) (nilA))))) (nilS)) (seqS (ifS (tstE (binE eqD (varE 2) (cE (.int 4)))) (retS (tupE (consA (cE (.str "not")) (consA (callE R__law_tree (consA (varE 0) (consA (binE subD (varE 1) (cE (.int 1))) (nilA)))) (nilA))))) (nilS)) (seqS (setS 3 (binE ixD (lstE (consA (cE (.str "+")) (consA (cE (.str "-")) (consA (cE (.str "*")) (consA (cE (.str "=")) (consA (cE (.str "<")) (consA (cE (.str "and")) (consA (cE (.str "or")) (consA (cE (.str "+")) (nilA)))))))))) (callE m__law_draw (consA (varE 0) (consA (cE (.int 8)) (nilA)))))) (seqS (setS 4 (callE R__law_tree (consA (varE 0) (consA (binE subD (varE 1) (cE (.int 1))) (nilA))))) (retS (tupE (consA (cE (.str "op")) (consA (varE 3) (consA (varE 4) (consA (callE R__law_tree (consA (varE 0) (consA (binE subD (varE 1) (cE (.int 1))) (nilA)))) (nilA)))))))))))))
noncomputable def m__law_tree : Nat → List D → Hh → Res D
  | 0 => defF 5 stuckS
  | n + 1 => defF 5 (b__law_tree (m__law_tree n))
noncomputable def b__law_level : SS :=
  seqS (ifS (tstE (binE neD (binE ixD (varE 0) (cE (.int 0))) (cE (.str "op")))) (retS (cE (.int 5))) (nilS)) (seqS (ifS (tstE (binE inD (binE ixD (varE 0) (cE (.int 1))) (lstE (consA (cE (.str "or")) (consA (cE (.str "and")) (nilA)))))) (retS (callE intD (consA (binE eqD (binE ixD (varE 0) (cE (.int 1))) (cE (.str "and"))) (nilA)))) (nilS)) (seqS (ifS (tstE (binE inD (binE ixD (varE 0) (cE (.int 1))) (lstE (consA (cE (.str "=")) (consA (cE (.str "<")) (nilA)))))) (retS (cE (.int 2))) (nilS)) (retS (binE addD (cE (.int 3)) (callE intD (consA (binE eqD (binE ixD (varE 0) (cE (.int 1))) (cE (.str "*"))) (nilA)))))))
noncomputable def m__law_level : List D → Hh → Res D := defF 1 b__law_level
noncomputable def b__law_around (R__law_around : List D → Hh → Res D) (R__law_texts : List D → Hh → Res D) : SS :=
  seqS (ifS (tstE (binE ltD (callE m__law_level (consA (varE 0) (nilA))) (varE 1))) (retS (binE addD (binE addD (lstE (consA (cE (.str "(")) (nilA))) (callE R__law_texts (consA (varE 0) (nilA)))) (lstE (consA (cE (.str ")")) (nilA))))) (nilS)) (retS (callE R__law_texts (consA (varE 0) (nilA))))
noncomputable def b__law_texts (R__law_around : List D → Hh → Res D) (R__law_texts : List D → Hh → Res D) : SS :=
  seqS (ifS (tstE (binE eqD (binE ixD (varE 0) (cE (.int 0))) (cE (.str "num")))) (retS (lstE (consA (callE strD (consA (binE ixD (varE 0) (cE (.int 1))) (nilA))) (nilA)))) (nilS)) (seqS (ifS (tstE (binE eqD (binE ixD (varE 0) (cE (.int 0))) (cE (.str "reg")))) (retS (lstE (consA (binE ixD (varE 0) (cE (.int 1))) (nilA)))) (nilS)) (seqS (ifS (tstE (binE eqD (binE ixD (varE 0) (cE (.int 0))) (cE (.str "neg")))) (retS (binE addD (lstE (consA (cE (.str "-")) (nilA))) (callE R__law_around (consA (binE ixD (varE 0) (cE (.int 1))) (consA (cE (.int 5)) (nilA)))))) (nilS)) (seqS (ifS (tstE (binE eqD (binE ixD (varE 0) (cE (.int 0))) (cE (.str "not")))) (retS (binE addD (lstE (consA (cE (.str "not")) (nilA))) (callE R__law_around (consA (binE ixD (varE 0) (cE (.int 1))) (consA (cE (.int 5)) (nilA)))))) (nilS)) (seqS (setS 1 (callE m__law_level (consA (varE 0) (nilA)))) (seqS (setS 2 (callE R__law_around (consA (binE ixD (varE 0) (cE (.int 2))) (consA (binE addD (varE 1) (callE intD (consA (binE eqD (varE 1) (cE (.int 2))) (nilA)))) (nilA))))) (retS (binE addD (binE addD (varE 2) (lstE (consA (binE ixD (varE 0) (cE (.int 1))) (nilA)))) (callE R__law_around (consA (binE ixD (varE 0) (cE (.int 3))) (consA (binE addD (varE 1) (cE (.int 1))) (nilA)))))))))))
mutual
noncomputable def m__law_around : Nat → List D → Hh → Res D
  | 0 => defF 2 stuckS
  | n + 1 => defF 2 (b__law_around (m__law_around n) (m__law_texts n))
noncomputable def m__law_texts : Nat → List D → Hh → Res D
  | 0 => defF 3 stuckS
  | n + 1 => defF 3 (b__law_texts (m__law_around n) (m__law_texts n))
end
noncomputable def x1__law_parts : SS :=
  seqS (setS 3 (cE (.str "sign"))) (seqS (ifS (tstE (binE inD (binE ixD (varE 2) (cE (.int 0))) (cE (.str "0123456789")))) (setS 3 (cE (.str "number"))) (nilS)) (seqS (ifS (tstE (binE inD (binE ixD (varE 2) (cE (.int 0))) (cE (.str "abcdefghijklmnopqrstuvwxyz")))) (setS 3 (cE (.str "word"))) (nilS)) (exprS (methE isLst appendD (varE 1) (consA (tupE (consA (varE 3) (consA (varE 2) (nilA)))) (nilA))))))
noncomputable def b__law_parts : SS :=
  seqS (setS 1 (lstH (nilA))) (seqS (forS (seqI (varE 0)) (gNm 2) (x1__law_parts)) (retS (varE 1)))
noncomputable def m__law_parts : List D → Hh → Res D := cutF (defF 4 b__law_parts)
noncomputable def x1__law_depth : SS :=
  seqS (setS 1 (binE subD (binE addD (varE 1) (callE intD (consA (binE eqD (varE 3) (cE (.str "("))) (nilA)))) (callE intD (consA (binE eqD (varE 3) (cE (.str ")"))) (nilA))))) (setS 2 (callE max2D (consA (varE 2) (consA (varE 1) (nilA)))))
noncomputable def b__law_depth : SS :=
  seqS (setS 1 (cE (.int 0))) (seqS (setS 2 (cE (.int 0))) (seqS (forS (seqI (varE 0)) (gNm 3) (x1__law_depth)) (retS (varE 2))))
noncomputable def m__law_depth : List D → Hh → Res D := defF 4 b__law_depth
noncomputable def b__law_token : SS :=
  seqS (setS 1 (lstE (consA (cE (.str "a")) (consA (cE (.str "d")) (consA (cE (.str "7")) (consA (cE (.str "not")) (consA (cE (.str "-")) (consA (cE (.str "(")) (consA (cE (.str ")")) (consA (cE (.str "+")) (consA (cE (.str "=")) (consA (cE (.str "<")) (consA (cE (.str "*")) (consA (cE (.str "and")) (consA (cE (.str "or")) (consA (cE (.str "e")) (consA (cE (.str "if")) (consA (cE (.str "(")) (consA (cE (.str ")")) (nilA)))))))))))))))))))) (seqS (setS 2 (binE ixD (varE 1) (callE m__law_draw (consA (varE 0) (consA (cE (.int 17)) (nilA)))))) (seqS (ifS (tstE (binE eqD (callE m__law_draw (consA (varE 0) (consA (cE (.int 12)) (nilA)))) (cE (.int 0)))) (retS (tupE (consA (cE (.str "bad")) (consA (cE (.str ";")) (nilA))))) (nilS)) (retS (binE ixD (callE m__law_parts (consA (lstE (consA (varE 2) (nilA))) (nilA))) (cE (.int 0))))))
noncomputable def m__law_token : List D → Hh → Res D := defF 3 b__law_token
noncomputable def x1__law_drawn : SS :=
  seqS (setS 4 (callE m__law_draw (consA (varE 0) (consA (binE addD (callE lenD (consA (varE 2) (nilA))) (cE (.int 1))) (nilA))))) (seqS (setS 5 (callE m__law_draw (consA (varE 0) (consA (cE (.int 3)) (nilA))))) (seqS (ifS (tstE (binE eqD (varE 5) (cE (.int 0)))) (setS 2 (binE addD (binE addD (slE slD (varE 2) (noPart) (partE (varE 4))) (lstE (consA (callE m__law_token (consA (varE 0) (nilA))) (nilA)))) (slE slD (varE 2) (partE (varE 4)) (noPart)))) (nilS)) (seqS (ifS (tstE (binE eqD (varE 5) (cE (.int 1)))) (setS 2 (binE addD (slE slD (varE 2) (noPart) (partE (varE 4))) (slE slD (varE 2) (partE (binE addD (varE 4) (cE (.int 1)))) (noPart)))) (nilS)) (ifS (tstE (binE eqD (varE 5) (cE (.int 2)))) (setS 2 (binE addD (binE addD (slE slD (varE 2) (noPart) (partE (varE 4))) (lstE (consA (callE m__law_token (consA (varE 0) (nilA))) (nilA)))) (slE slD (varE 2) (partE (binE addD (varE 4) (cE (.int 1)))) (noPart)))) (nilS)))))
noncomputable def b__law_drawn : SS :=
  seqS (ifS (tstE (binE eqD (callE m__law_draw (consA (varE 0) (consA (cE (.int 6)) (nilA)))) (cE (.int 0)))) (seqS (setS 1 (callE m__law_draw (consA (varE 0) (consA (cE (.int 8)) (nilA))))) (retS (binE addD (binE addD (binE mulD (lstE (consA (tupE (consA (cE (.str "sign")) (consA (cE (.str "(")) (nilA)))) (nilA))) (varE 1)) (lstE (consA (tupE (consA (cE (.str "word")) (consA (cE (.str "b")) (nilA)))) (nilA)))) (binE mulD (lstE (consA (tupE (consA (cE (.str "sign")) (consA (cE (.str ")")) (nilA)))) (nilA))) (callE m__law_draw (consA (varE 0) (consA (binE addD (varE 1) (cE (.int 2))) (nilA)))))))) (nilS)) (seqS (setS 2 (callE m__law_parts (consA (callE (m__law_texts 176) (consA (callE (m__law_tree 6) (consA (varE 0) (consA (binE addD (cE (.int 1)) (callE m__law_draw (consA (varE 0) (consA (cE (.int 4)) (nilA))))) (nilA)))) (nilA))) (nilA)))) (seqS (forS (rngI (consA (callE m__law_draw (consA (varE 0) (consA (cE (.int 4)) (nilA)))) (nilA))) (gNm 3) (x1__law_drawn)) (retS (varE 2))))
noncomputable def m__law_drawn : List D → Hh → Res D := defF 6 b__law_drawn
noncomputable def x1__law_is_expression : SS :=
  seqS (setS 4 (binE ixD (varE 3) (cE (.int 1)))) (seqS (ifS (tstE (binE eqD (binE ixD (varE 3) (cE (.int 0))) (cE (.str "bad")))) (retS (cE (.bl false))) (nilS)) (ifS (tstE (varE 2)) (ifS (tstE (binE eqD (varE 4) (cE (.str "(")))) (exprS (methE isLst appendD (varE 1) (consA (cE (.bl false)) (nilA)))) (ifS (orT (tstE (binE eqD (binE ixD (varE 3) (cE (.int 0))) (cE (.str "number")))) (tstE (binE inD (varE 4) (lstE (consA (cE (.str "a")) (consA (cE (.str "b")) (consA (cE (.str "c")) (consA (cE (.str "d")) (nilA))))))))) (setS 2 (cE (.bl false))) (ifS (tstE (binE ninD (varE 4) (lstE (consA (cE (.str "-")) (consA (cE (.str "not")) (nilA)))))) (retS (cE (.bl false))) (nilS)))) (ifS (tstE (binE eqD (varE 4) (cE (.str ")")))) (seqS (ifS (tstE (binE eqD (callE lenD (consA (varE 1) (nilA))) (cE (.int 1)))) (retS (cE (.bl false))) (nilS)) (exprS (methE isLst popD (varE 1) nilA))) (ifS (tstE (binE inD (varE 4) (lstE (consA (cE (.str "=")) (consA (cE (.str "<")) (nilA)))))) (seqS (ifS (tstE (binE ixD (varE 1) (unE negD (cE (.int 1))))) (retS (cE (.bl false))) (nilS)) (seqS (putS (cE (.bl true)) (varE 1) (unE negD (cE (.int 1)))) (setS 2 (cE (.bl true))))) (ifS (tstE (binE inD (varE 4) (lstE (consA (cE (.str "and")) (consA (cE (.str "or")) (nilA)))))) (seqS (putS (cE (.bl false)) (varE 1) (unE negD (cE (.int 1)))) (setS 2 (cE (.bl true)))) (ifS (tstE (binE inD (varE 4) (lstE (consA (cE (.str "+")) (consA (cE (.str "-")) (consA (cE (.str "*")) (nilA))))))) (setS 2 (cE (.bl true))) (retS (cE (.bl false)))))))))
noncomputable def b__law_is_expression : SS :=
  seqS (setS 1 (lstH (consA (cE (.bl false)) (nilA)))) (seqS (setS 2 (cE (.bl true))) (seqS (forS (seqI (varE 0)) (gNm 3) (x1__law_is_expression)) (retS (andE (notE (varE 2)) (binE eqD (callE lenD (consA (varE 1) (nilA))) (cE (.int 1)))))))
noncomputable def m__law_is_expression : List D → Hh → Res D := cutF (defF 5 b__law_is_expression)
noncomputable def ct1__law_bare : EM Bool :=
  tstE (binE ninD (varE 1) (lstE (consA (cE (.str "(")) (consA (cE (.str ")")) (nilA)))))
noncomputable def b__law_bare : SS :=
  retS (lcE (seqI (varE 0)) 1 (ct1__law_bare) (varE 1))
noncomputable def m__law_bare : List D → Hh → Res D := defF 2 b__law_bare
noncomputable def ce1_law : EM D :=
  binE ixD (varE 7) (cE (.int 1))
noncomputable def x2_law : SS :=
  seqS (setS 3 (callE m__law_drawn (consA (varE 1) (nilA)))) (seqS (setS 4 (lcE (seqI (varE 3)) 7 (tYesE) (ce1_law))) (seqS (setS 5 (andE (callE m__law_is_expression (consA (varE 3) (nilA))) (andE (binE leD (callE lenD (consA (varE 3) (nilA))) (cE (.int 20))) (binE leD (callE m__law_depth (consA (varE 4) (nilA))) (cE (.int 5)))))) (seqS (setS 6 (callE m_read_expression (consA (lcE (seqI (varE 3)) 7 (tYesE) (varE 7)) (nilA)))) (seqS (ifS (tstE (binE neD (varE 5) (binE isntD (varE 6) (cE .non)))) (retS (cE (.bl false))) (nilS)) (ifS (andT (tstE (varE 5)) (notT (tstE (callE (m__law_same 30) (consA (callE m__law_bare (consA (callE (m__law_texts 176) (consA (varE 6) (nilA))) (nilA))) (consA (callE m__law_bare (consA (varE 4) (nilA))) (nilA))))))) (retS (cE (.bl false))) (nilS))))))
noncomputable def b_law : SS :=
  seqS (setS 1 (lstH (consA (callE m__law_digits (consA (varE 0) (consA (cE (.int 0)) (consA (cE (.int 63)) (nilA))))) (consA (cE (.int 0)) (nilA))))) (seqS (forS (rngI (consA (cE (.int 2)) (nilA))) (gNm 2) (x2_law)) (retS (cE (.bl true))))
noncomputable def m_law : List D → Hh → Res D := cutF (defF 8 b_law)
end G_k04

set_option maxHeartbeats 4000000
namespace G_k04
open PySem PySem.Spec PyProof.Rows L2 Ev
def topS (i : Nat) : Stmt := PySem.Challenge.pw_everyturn_k04_what_is_no_expression.main.body.getD i (.Pass ⟨0, 0, 0, 0⟩)
structure Txt (P : Program) (K : PySem.W.Frag) (mg : Str → Option Value) (w : World) : Prop where
  d_read_expression : DefAt K mg "read_expression" (topS 7)
  d__law_cell : DefAt K mg "_law_cell" (topS 9)
  d__law_digits : DefAt K mg "_law_digits" (topS 10)
  d__law_draw : DefAt K mg "_law_draw" (topS 11)
  d__law_same : DefAt K mg "_law_same" (topS 12)
  d__law_tree : DefAt K mg "_law_tree" (topS 13)
  d__law_level : DefAt K mg "_law_level" (topS 14)
  d__law_around : DefAt K mg "_law_around" (topS 15)
  d__law_texts : DefAt K mg "_law_texts" (topS 16)
  d__law_parts : DefAt K mg "_law_parts" (topS 17)
  d__law_depth : DefAt K mg "_law_depth" (topS 18)
  d__law_token : DefAt K mg "_law_token" (topS 19)
  d__law_drawn : DefAt K mg "_law_drawn" (topS 20)
  d__law_is_expression : DefAt K mg "_law_is_expression" (topS 21)
  d__law_bare : DefAt K mg "_law_bare" (topS 22)
  d_law : DefAt K mg "law" (topS 23)
  d_Reader___init__ : InitAt K mg "Reader" "Reader.__init__" (inClass (topS 6) 0)
  d_Reader_sees : MethAt K mg "Reader" "sees" "Reader.sees" (inClass (topS 6) 1)
  d_Reader_take : MethAt K mg "Reader" "take" "Reader.take" (inClass (topS 6) 2)
  d_Reader_group : MethAt K mg "Reader" "group" "Reader.group" (inClass (topS 6) 3)
  d_Reader_factor : MethAt K mg "Reader" "factor" "Reader.factor" (inClass (topS 6) 4)
  d_Reader_level : MethAt K mg "Reader" "level" "Reader.level" (inClass (topS 6) 5)
  a_Reader_at : FldAt K mg "Reader" "at"
  a_Reader_depth : FldAt K mg "Reader" "depth"
  a_Reader_failed : FldAt K mg "Reader" "failed"
  a_Reader_parts : FldAt K mg "Reader" "parts"
  b_bool : mg "bool" = none
  b_int : mg "int" = none
  b_isinstance : mg "isinstance" = none
  b_len : mg "len" = none
  b_list : mg "list" = none
  b_max : mg "max" = none
  b_range : mg "range" = none
  b_str : mg "str" = none
  b_tuple : mg "tuple" = none
  g_REGISTERS : GlobAt K mg "REGISTERS" c_REGISTERS
  g_MOST_TOKENS : GlobAt K mg "MOST_TOKENS" c_MOST_TOKENS
  g_MOST_BRACKETS : GlobAt K mg "MOST_BRACKETS" c_MOST_BRACKETS
  g_LEVELS : GlobAt K mg "LEVELS" c_LEVELS
  g_CLAIM : GlobAt K mg "CLAIM" c_CLAIM
section
variable {P : Program} {w : World} {K : PySem.W.Frag} {mg : Str → Option Value} {base : Heap}
abbrev s_Reader___init__ : Stmt := inClass (topS 6) 0
abbrev n_Reader___init__ : List Str := ["self", "parts"]
theorem sc_Reader___init__ : FnScope n_Reader___init__ ["self", "parts"] (defScope s_Reader___init__) := ⟨rfl, rfl, rfl, by decide +kernel, rfl, by decide +kernel, by decide +kernel⟩
theorem ok_Reader___init__ (T : Txt P K mg w) : IFn P w K mg base "Reader" 1 2 m_Reader___init__ :=
  ifn_mk (N := n_Reader___init__) (m := b_Reader___init__) T.d_Reader___init__ sc_Reader___init__ (fun _ _ _ _ _ _ us hl => match us, hl with | [_, _], _ => rfl) fun f cdv A outer s H E hr gx =>
    (mb_cons (ms_fld T.a_Reader_parts (me_var 0) (me_var 1))
    (mb_cons (ms_fld T.a_Reader_at (me_var 0) (me_int))
    (mb_cons (ms_fld T.a_Reader_depth (me_var 0) (me_int))
    (mb_one (ms_fld T.a_Reader_failed (me_var 0) (me_bl))))))
abbrev s_Reader_take : Stmt := inClass (topS 6) 2
abbrev n_Reader_take : List Str := ["self", "token"]
theorem sc_Reader_take : FnScope n_Reader_take ["self"] (defScope s_Reader_take) := ⟨rfl, rfl, rfl, by decide +kernel, rfl, by decide +kernel, by decide +kernel⟩
theorem ok_Reader_take (T : Txt P K mg w) : MFn P w K mg base "Reader" "take" 1 1 m_Reader_take :=
  mfn_mk (N := n_Reader_take) (m := b_Reader_take) T.d_Reader_take sc_Reader_take (fun _ _ _ _ _ _ us hl => match us, hl with | [_], _ => rfl) fun f cdv A outer s H E hr gx =>
    (mb_cons (ms_if ((mt_ge ((me_fld T.a_Reader_at (me_var 0))) ((me_callB call_lenAll cd_len rfl T.b_len (by decide +kernel) (ma_cons ((me_fld T.a_Reader_parts (me_var 0))) ma_nil))))) (mb_cons (ms_fld T.a_Reader_failed (me_var 0) (me_bl))
    (mb_one (ms_ret ((me_tup ((ma_cons (me_str) (ma_cons (me_str) ma_nil)))))))) mb_nil)
    (mb_cons (ms_set gx 1 ((me_sub_ix (gx.toGU) ((me_fld T.a_Reader_parts (me_var 0))) ((me_fld T.a_Reader_at (me_var 0))))))
    (mb_cons (ms_afld T.a_Reader_at iop_addS od_iadd (me_var 0) (me_int))
    (mb_one (ms_ret (me_var 1))))))
abbrev s_Reader_sees : Stmt := inClass (topS 6) 1
abbrev n_Reader_sees : List Str := ["self", "texts"]
theorem sc_Reader_sees : FnScope n_Reader_sees ["self", "texts"] (defScope s_Reader_sees) := ⟨rfl, rfl, rfl, by decide +kernel, rfl, by decide +kernel, by decide +kernel⟩
theorem ok_Reader_sees (T : Txt P K mg w) : MFn P w K mg base "Reader" "sees" 1 2 m_Reader_sees :=
  mfn_mk (N := n_Reader_sees) (m := b_Reader_sees) T.d_Reader_sees sc_Reader_sees (fun _ _ _ _ _ _ us hl => match us, hl with | [_, _], _ => rfl) fun f cdv A outer s H E hr gx =>
    (mb_one (ms_ret ((me_and ((me_lt (gx.toGU) ((me_fld T.a_Reader_at (me_var 0))) ((me_callB call_lenAll cd_len rfl T.b_len (by decide +kernel) (ma_cons ((me_fld T.a_Reader_parts (me_var 0))) ma_nil))))) ((me_one ((me_in (gx.toGU) ((me_sub_ix (gx.toGU) ((me_sub_ix (gx.toGU) ((me_fld T.a_Reader_parts (me_var 0))) ((me_fld T.a_Reader_at (me_var 0))))) (me_int))) (me_var 1)))))))))
abbrev s_Reader_group : Stmt := inClass (topS 6) 3
abbrev n_Reader_group : List Str := ["self", "tree"]
theorem sc_Reader_group : FnScope n_Reader_group ["self"] (defScope s_Reader_group) := ⟨rfl, rfl, rfl, by decide +kernel, rfl, by decide +kernel, by decide +kernel⟩
theorem ok0_Reader_group (T : Txt P K mg w) : MFn P w K mg base "Reader" "group" 2 1 (m_Reader_group 0) :=
  mfn_mk (N := n_Reader_group) (m := stuckS) (k := 1) T.d_Reader_group sc_Reader_group (fun _ _ _ _ _ _ us hl => match us, hl with | [_], _ => rfl) fun f cdv A outer s H E hr gx =>
    mb_stuck
structure IH_Reader_group (P : Program) (w : World) (K : PySem.W.Frag) (mg : Str → Option Value) (base : Heap) (n : Nat) : Prop where
  Reader_group : MFn P w K mg base "Reader" "group" (2 + n) 1 (m_Reader_group n)
  Reader_factor : MFn P w K mg base "Reader" "factor" (2 + n) 1 (m_Reader_factor n)
  Reader_level : MFn P w K mg base "Reader" "level" (2 + n) 2 (m_Reader_level n)
theorem okS_Reader_group (T : Txt P K mg w) (n : Nat) (ih : IH_Reader_group P w K mg base n) : MFn P w K mg base "Reader" "group" (2 + (n + 1)) 1 (m_Reader_group (n + 1)) :=
  mfn_mk (N := n_Reader_group) (m := b_Reader_group (m_Reader_group n) (m_Reader_factor n) (m_Reader_level n)) (k := 2 + n) T.d_Reader_group sc_Reader_group (fun _ _ _ _ _ _ us hl => match us, hl with | [_], _ => rfl) fun f cdv A outer s H E hr gx =>
    (mb_cons (ms_afld T.a_Reader_depth iop_addS od_iadd (me_var 0) (me_int))
    (mb_cons (ms_if ((mt_gt ((me_fld T.a_Reader_depth (me_var 0))) ((me_gl rfl T.g_MOST_BRACKETS)))) (mb_cons (ms_fld T.a_Reader_failed (me_var 0) (me_bl))
    (mb_one (ms_ret ((me_tup ((ma_cons (me_str) (ma_cons (me_int) ma_nil)))))))) mb_nil)
    (mb_cons (ms_set gx 1 ((me_mth gx ih.Reader_level (hr.mono (by omega)) (me_var 0) (ma_cons (me_int) ma_nil))))
    (mb_cons (ms_if ((mt_ne (gx.toGU) ((me_mth0 gx (ok_Reader_take T) (hr.mono (by omega)) (me_var 0) ma_nil)) ((me_tup ((ma_cons (me_str) (ma_cons (me_str) ma_nil))))))) (mb_one (ms_fld T.a_Reader_failed (me_var 0) (me_bl))) mb_nil)
    (mb_cons (ms_afld T.a_Reader_depth iop_sub od_sub (me_var 0) (me_int))
    (mb_one (ms_ret (me_var 1))))))))
abbrev s_Reader_factor : Stmt := inClass (topS 6) 4
abbrev n_Reader_factor : List Str := ["self", "kind", "text"]
theorem sc_Reader_factor : FnScope n_Reader_factor ["self"] (defScope s_Reader_factor) := ⟨rfl, rfl, rfl, by decide +kernel, rfl, by decide +kernel, by decide +kernel⟩
theorem ok0_Reader_factor (T : Txt P K mg w) : MFn P w K mg base "Reader" "factor" 2 1 (m_Reader_factor 0) :=
  mfn_mk (N := n_Reader_factor) (m := stuckS) (k := 1) T.d_Reader_factor sc_Reader_factor (fun _ _ _ _ _ _ us hl => match us, hl with | [_], _ => rfl) fun f cdv A outer s H E hr gx =>
    mb_stuck
theorem okS_Reader_factor (T : Txt P K mg w) (n : Nat) (ih : IH_Reader_group P w K mg base n) : MFn P w K mg base "Reader" "factor" (2 + (n + 1)) 1 (m_Reader_factor (n + 1)) :=
  mfn_mk (N := n_Reader_factor) (m := b_Reader_factor (m_Reader_group n) (m_Reader_factor n) (m_Reader_level n)) (k := 2 + n) T.d_Reader_factor sc_Reader_factor (fun _ _ _ _ _ _ us hl => match us, hl with | [_], _ => rfl) fun f cdv A outer s H E hr gx =>
    (mb_cons (ms_if ((mt_b ((me_fld T.a_Reader_failed (me_var 0))))) (mb_one (ms_ret ((me_tup ((ma_cons (me_str) (ma_cons (me_int) ma_nil))))))) mb_nil)
    (mb_cons (ms_asg ((me_mth0 gx (ok_Reader_take T) (hr.mono (by omega)) (me_var 0) ma_nil)) (mg_tup gx (mgs_cons gx 1 (mgs_cons gx 2 mgs_nil))))
    (mb_cons (ms_if ((mt_w (mw_and ((mt_eq (gx.toGU) (me_var 1) (me_str))) ((mw_and1 ((mt_eq (gx.toGU) (me_var 2) (me_str)))))))) (mb_one (ms_ret ((me_tup ((ma_cons (me_str) (ma_cons ((me_mth0 gx ih.Reader_factor (hr.mono (by omega)) (me_var 0) ma_nil)) ma_nil))))))) mb_nil)
    (mb_cons (ms_if ((mt_w (mw_and ((mt_eq (gx.toGU) (me_var 1) (me_str))) ((mw_and1 ((mt_eq (gx.toGU) (me_var 2) (me_str)))))))) (mb_one (ms_ret ((me_tup ((ma_cons (me_str) (ma_cons ((me_mth0 gx ih.Reader_factor (hr.mono (by omega)) (me_var 0) ma_nil)) ma_nil))))))) mb_nil)
    (mb_cons (ms_if ((mt_eq (gx.toGU) (me_var 1) (me_str))) (mb_one (ms_ret ((me_tup ((ma_cons (me_str) (ma_cons ((me_callTy call_intAll cd_int rfl T.b_int (by decide +kernel) (ma_cons (me_var 2) ma_nil))) ma_nil))))))) mb_nil)
    (mb_cons (ms_if ((mt_w (mw_and ((mt_eq (gx.toGU) (me_var 1) (me_str))) ((mw_and1 ((mt_in (gx.toGU) (me_var 2) ((me_gl rfl T.g_REGISTERS))))))))) (mb_one (ms_ret ((me_tup ((ma_cons (me_str) (ma_cons (me_var 2) ma_nil))))))) mb_nil)
    (mb_cons (ms_if ((mt_w (mw_and ((mt_eq (gx.toGU) (me_var 1) (me_str))) ((mw_and1 ((mt_eq (gx.toGU) (me_var 2) (me_str)))))))) (mb_one (ms_ret ((me_mth0 gx ih.Reader_group (hr.mono (by omega)) (me_var 0) ma_nil)))) mb_nil)
    (mb_cons (ms_fld T.a_Reader_failed (me_var 0) (me_bl))
    (mb_one (ms_ret ((me_tup ((ma_cons (me_str) (ma_cons (me_int) ma_nil)))))))))))))))
abbrev s_Reader_level : Stmt := inClass (topS 6) 5
abbrev n_Reader_level : List Str := ["self", "depth", "tree", "more", "sign"]
theorem sc_Reader_level : FnScope n_Reader_level ["self", "depth"] (defScope s_Reader_level) := ⟨rfl, rfl, rfl, by decide +kernel, rfl, by decide +kernel, by decide +kernel⟩
theorem ok0_Reader_level (T : Txt P K mg w) : MFn P w K mg base "Reader" "level" 2 2 (m_Reader_level 0) :=
  mfn_mk (N := n_Reader_level) (m := stuckS) (k := 1) T.d_Reader_level sc_Reader_level (fun _ _ _ _ _ _ us hl => match us, hl with | [_, _], _ => rfl) fun f cdv A outer s H E hr gx =>
    mb_stuck
theorem okS_Reader_level (T : Txt P K mg w) (n : Nat) (ih : IH_Reader_group P w K mg base n) : MFn P w K mg base "Reader" "level" (2 + (n + 1)) 2 (m_Reader_level (n + 1)) :=
  mfn_mk (N := n_Reader_level) (m := b_Reader_level (m_Reader_group n) (m_Reader_factor n) (m_Reader_level n)) (k := 2 + n) T.d_Reader_level sc_Reader_level (fun _ _ _ _ _ _ us hl => match us, hl with | [_, _], _ => rfl) fun f cdv A outer s H E hr gx =>
    (mb_cons (ms_if ((mt_eq (gx.toGU) (me_var 1) ((me_callB call_lenAll cd_len rfl T.b_len (by decide +kernel) (ma_cons ((me_gl rfl T.g_LEVELS)) ma_nil))))) (mb_one (ms_ret ((me_mth0 gx ih.Reader_factor (hr.mono (by omega)) (me_var 0) ma_nil)))) mb_nil)
    (mb_cons (ms_set gx 2 ((me_mth gx ih.Reader_level (hr.mono (by omega)) (me_var 0) (ma_cons ((me_add (me_var 1) (me_int))) ma_nil))))
    (mb_cons (ms_set gx 3 (me_bl))
    (mb_cons (ms_while gx ((mt_w (mw_and ((mt_b (me_var 3))) ((mw_and ((mt_not ((mt_b ((me_fld T.a_Reader_failed (me_var 0))))))) ((mw_and1 ((mt_b ((me_mth gx (ok_Reader_sees T) (hr.mono (by omega)) (me_var 0) (ma_cons ((me_sub_ix (gx.toGU) ((me_gl rfl T.g_LEVELS)) (me_var 1))) ma_nil)))))))))))) (mb_cons (ms_set gx 4 ((me_sub_ix (gx.toGU) ((me_mth0 gx (ok_Reader_take T) (hr.mono (by omega)) (me_var 0) ma_nil)) (me_int))))
    (mb_cons (ms_set gx 2 ((me_tup ((ma_cons (me_str) (ma_cons (me_var 4) (ma_cons (me_var 2) (ma_cons ((me_mth gx ih.Reader_level (hr.mono (by omega)) (me_var 0) (ma_cons ((me_add (me_var 1) (me_int))) ma_nil))) ma_nil))))))))
    (mb_one (ms_set gx 3 ((me_ne (gx.toGU) (me_var 1) ((me_gl rfl T.g_CLAIM)))))))))
    (mb_one (ms_ret (me_var 2)))))))
theorem okA_Reader_group (T : Txt P K mg w) : ∀ n, IH_Reader_group P w K mg base n
  | 0 => ⟨ok0_Reader_group T, ok0_Reader_factor T, ok0_Reader_level T⟩
  | n + 1 => ⟨okS_Reader_group T n (okA_Reader_group T n), okS_Reader_factor T n (okA_Reader_group T n), okS_Reader_level T n (okA_Reader_group T n)⟩
theorem ok_Reader_group (T : Txt P K mg w) (n : Nat) : MFn P w K mg base "Reader" "group" (2 + n) 1 (m_Reader_group n) := (okA_Reader_group T n).Reader_group
theorem ok_Reader_factor (T : Txt P K mg w) (n : Nat) : MFn P w K mg base "Reader" "factor" (2 + n) 1 (m_Reader_factor n) := (okA_Reader_group T n).Reader_factor
theorem ok_Reader_level (T : Txt P K mg w) (n : Nat) : MFn P w K mg base "Reader" "level" (2 + n) 2 (m_Reader_level n) := (okA_Reader_group T n).Reader_level
abbrev s_read_expression : Stmt := topS 7
abbrev n_read_expression : List Str := ["parts", "reader", "tree"]
theorem sc_read_expression : FnScope n_read_expression ["parts"] (defScope s_read_expression) := ⟨rfl, rfl, rfl, by decide +kernel, rfl, by decide +kernel, by decide +kernel⟩
theorem ok_read_expression (T : Txt P K mg w) : Fn P w K mg base "read_expression" 178 1 m_read_expression :=
  (fn_mk (N := n_read_expression) (m := b_read_expression) T.d_read_expression sc_read_expression (fun _ _ _ _ _ _ us hl => match us, hl with | [_], _ => rfl) fun f cdv A outer s H E hr gx =>
    (mb_cons (ms_if ((mt_gt ((me_callB call_lenAll cd_len rfl T.b_len (by decide +kernel) (ma_cons (me_var 0) ma_nil))) ((me_gl rfl T.g_MOST_TOKENS)))) (mb_one (ms_ret (me_non))) mb_nil)
    (mb_cons (ms_set gx 1 ((me_mk gx (ok_Reader___init__ T) (hr.mono (by decide)) rfl (ma_cons (me_var 0) ma_nil))))
    (mb_cons (ms_set gx 2 ((me_mth gx (ok_Reader_level T 175) (hr.mono (by decide)) (me_var 1) (ma_cons (me_int) ma_nil))))
    (mb_cons (ms_if ((mt_w (mw_or ((mt_b ((me_fld T.a_Reader_failed (me_var 1))))) ((mw_or1 ((mt_lt (gx.toGU) ((me_fld T.a_Reader_at (me_var 1))) ((me_callB call_lenAll cd_len rfl T.b_len (by decide +kernel) (ma_cons (me_var 0) ma_nil)))))))))) (mb_one (ms_ret (me_non))) mb_nil)
    (mb_one (ms_ret (me_var 2)))))))).cut
abbrev s__law_cell : Stmt := topS 9
abbrev n__law_cell : List Str := ["_law_script", "_law_k"]
theorem sc__law_cell : FnScope n__law_cell ["_law_script", "_law_k"] (defScope s__law_cell) := ⟨rfl, rfl, rfl, by decide +kernel, rfl, by decide +kernel, by decide +kernel⟩
theorem ok__law_cell (T : Txt P K mg w) : Fn P w K mg base "_law_cell" 1 2 m__law_cell :=
  fn_mk (N := n__law_cell) (m := b__law_cell) T.d__law_cell sc__law_cell (fun _ _ _ _ _ _ us hl => match us, hl with | [_, _], _ => rfl) fun f cdv A outer s H E hr gx =>
    (mb_cons (ms_if ((mt_lt (gx.toGU) (me_var 1) ((me_callB call_lenAll cd_len rfl T.b_len (by decide +kernel) (ma_cons (me_var 0) ma_nil))))) (mb_one (ms_ret ((me_sub_ix (gx.toGU) (me_var 0) (me_var 1))))) mb_nil)
    (mb_one (ms_ret (me_int))))
abbrev s__law_digits : Stmt := topS 10
abbrev n__law_digits : List Str := ["_law_script", "_law_first", "_law_last", "_law_digits_here", "_law_k", "_law_cell_here", "_law_turn", "_law_seed"]
theorem sc__law_digits : FnScope n__law_digits ["_law_script", "_law_first", "_law_last"] (defScope s__law_digits) := ⟨rfl, rfl, rfl, by decide +kernel, rfl, by decide +kernel, by decide +kernel⟩
theorem ok__law_digits (T : Txt P K mg w) : Fn P w K mg base "_law_digits" 2 3 m__law_digits :=
  (fn_mk (N := n__law_digits) (m := b__law_digits) T.d__law_digits sc__law_digits (fun _ _ _ _ _ _ us hl => match us, hl with | [_, _, _], _ => rfl) fun f cdv A outer s H E hr gx =>
    (mb_cons (ms_set gx 3 ((me_lstH (ma_nil))))
    (mb_cons (ms_for gx (mi_range2 rfl T.b_range (ma_cons (me_var 1) (ma_cons (me_var 2) ma_nil))) (mg_name (gx.toGU) 4) (mb_cons (ms_set gx 5 ((me_fn gx (ok__law_cell T) (hr.mono (by decide)) rfl (ma_cons (me_var 0) (ma_cons (me_var 4) ma_nil)))))
    (mb_cons (ms_if ((mt_lt (gx.toGU) (me_var 5) (me_int))) (mb_one (ms_set gx 5 ((me_sub (me_int) ((me_mul (me_int) (me_var 5))))))) mb_nil)
    (mb_one (ms_if ((mt_ge (me_var 5) ((me_pow (me_int) (me_int))))) (mb_one (ms_for gx (mi_range1 rfl T.b_range (ma_cons (me_int) ma_nil)) (mg_name (gx.toGU) 6) (mb_one (ms_if ((mt_gt (me_var 5) (me_int))) (mb_cons (ms_expr ((me_bm PySem.F.plainAttrs_list PySem.F.slot_list_append PySem.F.type_list_append mt_append md_append ty_lst (me_var 3) (ma_cons ((me_mod ((me_callTy call_intAll cd_int rfl T.b_int (by decide +kernel) (ma_cons (me_var 5) ma_nil))) (me_int))) ma_nil))))
    (mb_one (ms_set gx 5 ((me_fdiv (me_var 5) (me_int)))))) mb_nil)))) (mb_cons (ms_set gx 7 ((me_mod ((me_callTy call_intAll cd_int rfl T.b_int (by decide +kernel) (ma_cons ((me_add ((me_add ((me_mul (me_var 5) (me_int))) ((me_mul (me_var 4) (me_int))))) (me_int))) ma_nil))) (me_int))))
    (mb_one (ms_for gx (mi_range1 rfl T.b_range (ma_cons (me_int) ma_nil)) (mg_name (gx.toGU) 6) (mb_cons (ms_set gx 7 ((me_mod ((me_callTy call_intAll cd_int rfl T.b_int (by decide +kernel) (ma_cons ((me_add ((me_add ((me_mul (me_var 7) (me_int))) ((me_mul (me_int) (me_var 6))))) (me_int))) ma_nil))) (me_int))))
    (mb_one (ms_expr ((me_bm PySem.F.plainAttrs_list PySem.F.slot_list_append PySem.F.type_list_append mt_append md_append ty_lst (me_var 3) (ma_cons ((me_mod ((me_callTy call_intAll cd_int rfl T.b_int (by decide +kernel) (ma_cons ((me_fdiv (me_var 7) (me_int))) ma_nil))) (me_int))) ma_nil))))))))))))))
    (mb_one (ms_ret (me_var 3)))))).cut
abbrev s__law_draw : Stmt := topS 11
abbrev n__law_draw : List Str := ["_law_box", "_law_many", "_law_at"]
theorem sc__law_draw : FnScope n__law_draw ["_law_box", "_law_many"] (defScope s__law_draw) := ⟨rfl, rfl, rfl, by decide +kernel, rfl, by decide +kernel, by decide +kernel⟩
theorem ok__law_draw (T : Txt P K mg w) : Fn P w K mg base "_law_draw" 1 2 m__law_draw :=
  fn_mk (N := n__law_draw) (m := b__law_draw) T.d__law_draw sc__law_draw (fun _ _ _ _ _ _ us hl => match us, hl with | [_, _], _ => rfl) fun f cdv A outer s H E hr gx =>
    (mb_cons (ms_set gx 2 ((me_sub_ix (gx.toGU) (me_var 0) (me_int))))
    (mb_cons (ms_put gx ((me_add (me_var 2) (me_int))) (me_var 0) (me_int))
    (mb_cons (ms_if ((mt_lt (gx.toGU) (me_var 2) ((me_callB call_lenAll cd_len rfl T.b_len (by decide +kernel) (ma_cons ((me_sub_ix (gx.toGU) (me_var 0) (me_int))) ma_nil))))) (mb_one (ms_ret ((me_mod ((me_callTy call_intAll cd_int rfl T.b_int (by decide +kernel) (ma_cons ((me_sub_ix (gx.toGU) ((me_sub_ix (gx.toGU) (me_var 0) (me_int))) (me_var 2))) ma_nil))) (me_var 1))))) mb_nil)
    (mb_one (ms_ret (me_int))))))
abbrev s__law_same : Stmt := topS 12
abbrev n__law_same : List Str := ["_law_actual", "_law_due", "_law_k"]
theorem sc__law_same : FnScope n__law_same ["_law_actual", "_law_due"] (defScope s__law_same) := ⟨rfl, rfl, rfl, by decide +kernel, rfl, by decide +kernel, by decide +kernel⟩
theorem ok0__law_same (T : Txt P K mg w) : Fn P w K mg base "_law_same" 1 2 (m__law_same 0) :=
  fn_mk (N := n__law_same) (m := stuckS) (k := 0) T.d__law_same sc__law_same (fun _ _ _ _ _ _ us hl => match us, hl with | [_, _], _ => rfl) fun f cdv A outer s H E hr gx =>
    mb_stuck
structure IH__law_same (P : Program) (w : World) (K : PySem.W.Frag) (mg : Str → Option Value) (base : Heap) (n : Nat) : Prop where
  _law_same : Fn P w K mg base "_law_same" (1 + n) 2 (m__law_same n)
theorem okS__law_same (T : Txt P K mg w) (n : Nat) (ih : IH__law_same P w K mg base n) : Fn P w K mg base "_law_same" (1 + (n + 1)) 2 (m__law_same (n + 1)) :=
  fn_mk (N := n__law_same) (m := b__law_same (m__law_same n)) (k := 1 + n) T.d__law_same sc__law_same (fun _ _ _ _ _ _ us hl => match us, hl with | [_, _], _ => rfl) fun f cdv A outer s H E hr gx =>
    (mb_cons (ms_if ((mt_w (mw_or ((mt_b ((me_callB call_isi cd_isin rfl T.b_isinstance (by decide +kernel) (ma_cons (me_var 1) (ma_cons ((me_ty rfl T.b_list (by decide +kernel))) ma_nil)))))) ((mw_or1 ((mt_b ((me_callB call_isi cd_isin rfl T.b_isinstance (by decide +kernel) (ma_cons (me_var 1) (ma_cons ((me_ty rfl T.b_tuple (by decide +kernel))) ma_nil))))))))))) (mb_cons (ms_if ((mt_w (mw_or ((mt_ne (gx.toGU) ((me_callB call_isi cd_isin rfl T.b_isinstance (by decide +kernel) (ma_cons (me_var 1) (ma_cons ((me_ty rfl T.b_list (by decide +kernel))) ma_nil)))) ((me_callB call_isi cd_isin rfl T.b_isinstance (by decide +kernel) (ma_cons (me_var 0) (ma_cons ((me_ty rfl T.b_list (by decide +kernel))) ma_nil)))))) ((mw_or1 ((mt_ne (gx.toGU) ((me_callB call_isi cd_isin rfl T.b_isinstance (by decide +kernel) (ma_cons (me_var 1) (ma_cons ((me_ty rfl T.b_tuple (by decide +kernel))) ma_nil)))) ((me_callB call_isi cd_isin rfl T.b_isinstance (by decide +kernel) (ma_cons (me_var 0) (ma_cons ((me_ty rfl T.b_tuple (by decide +kernel))) ma_nil))))))))))) (mb_one (ms_ret (me_bl))) mb_nil)
    (mb_cons (ms_if ((mt_ne (gx.toGU) ((me_callB call_lenAll cd_len rfl T.b_len (by decide +kernel) (ma_cons (me_var 0) ma_nil))) ((me_callB call_lenAll cd_len rfl T.b_len (by decide +kernel) (ma_cons (me_var 1) ma_nil))))) (mb_one (ms_ret (me_bl))) mb_nil)
    (mb_cons (ms_for gx (mi_range1 rfl T.b_range (ma_cons ((me_callB call_lenAll cd_len rfl T.b_len (by decide +kernel) (ma_cons (me_var 1) ma_nil))) ma_nil)) (mg_name (gx.toGU) 2) (mb_one (ms_if ((mt_not ((mt_b ((me_fn gx ih._law_same (hr.mono (by omega)) rfl (ma_cons ((me_sub_ix (gx.toGU) (me_var 0) (me_var 2))) (ma_cons ((me_sub_ix (gx.toGU) (me_var 1) (me_var 2))) ma_nil)))))))) (mb_one (ms_ret (me_bl))) mb_nil)))
    (mb_one (ms_ret (me_bl)))))) mb_nil)
    (mb_cons (ms_if ((mt_is (me_var 1) (me_non))) (mb_one (ms_ret ((me_is (me_var 0) (me_non))))) mb_nil)
    (mb_cons (ms_if ((mt_b ((me_callB call_isi cd_isin rfl T.b_isinstance (by decide +kernel) (ma_cons (me_var 1) (ma_cons ((me_ty rfl T.b_bool (by decide +kernel))) ma_nil)))))) (mb_one (ms_ret ((me_and ((me_callB call_isi cd_isin rfl T.b_isinstance (by decide +kernel) (ma_cons (me_var 0) (ma_cons ((me_ty rfl T.b_bool (by decide +kernel))) ma_nil)))) ((me_one ((me_eq (gx.toGU) (me_var 0) (me_var 1))))))))) mb_nil)
    (mb_cons (ms_if ((mt_b ((me_callB call_isi cd_isin rfl T.b_isinstance (by decide +kernel) (ma_cons (me_var 1) (ma_cons ((me_ty rfl T.b_str (by decide +kernel))) ma_nil)))))) (mb_one (ms_ret ((me_and ((me_callB call_isi cd_isin rfl T.b_isinstance (by decide +kernel) (ma_cons (me_var 0) (ma_cons ((me_ty rfl T.b_str (by decide +kernel))) ma_nil)))) ((me_one ((me_eq (gx.toGU) (me_var 0) (me_var 1))))))))) mb_nil)
    (mb_one (ms_ret ((me_and ((me_callB call_isi cd_isin rfl T.b_isinstance (by decide +kernel) (ma_cons (me_var 0) (ma_cons ((me_ty rfl T.b_int (by decide +kernel))) ma_nil)))) ((me_and ((me_not ((me_callB call_isi cd_isin rfl T.b_isinstance (by decide +kernel) (ma_cons (me_var 0) (ma_cons ((me_ty rfl T.b_bool (by decide +kernel))) ma_nil)))))) ((me_one ((me_eq (gx.toGU) (me_var 0) (me_var 1)))))))))))))))
theorem okA__law_same (T : Txt P K mg w) : ∀ n, IH__law_same P w K mg base n
  | 0 => ⟨ok0__law_same T⟩
  | n + 1 => ⟨okS__law_same T n (okA__law_same T n)⟩
theorem ok__law_same (T : Txt P K mg w) (n : Nat) : Fn P w K mg base "_law_same" (1 + n) 2 (m__law_same n) := (okA__law_same T n)._law_same
abbrev s__law_tree : Stmt := topS 13
abbrev n__law_tree : List Str := ["_law_box", "_law_depth_here", "_law_kind", "_law_sign", "_law_left"]
theorem sc__law_tree : FnScope n__law_tree ["_law_box", "_law_depth_here"] (defScope s__law_tree) := ⟨rfl, rfl, rfl, by decide +kernel, rfl, by decide +kernel, by decide +kernel⟩
theorem ok0__law_tree (T : Txt P K mg w) : Fn P w K mg base "_law_tree" 2 2 (m__law_tree 0) :=
  fn_mk (N := n__law_tree) (m := stuckS) (k := 1) T.d__law_tree sc__law_tree (fun _ _ _ _ _ _ us hl => match us, hl with | [_, _], _ => rfl) fun f cdv A outer s H E hr gx =>
    mb_stuck
structure IH__law_tree (P : Program) (w : World) (K : PySem.W.Frag) (mg : Str → Option Value) (base : Heap) (n : Nat) : Prop where
  _law_tree : Fn P w K mg base "_law_tree" (2 + n) 2 (m__law_tree n)
theorem okS__law_tree (T : Txt P K mg w) (n : Nat) (ih : IH__law_tree P w K mg base n) : Fn P w K mg base "_law_tree" (2 + (n + 1)) 2 (m__law_tree (n + 1)) :=
  fn_mk (N := n__law_tree) (m := b__law_tree (m__law_tree n)) (k := 2 + n) T.d__law_tree sc__law_tree (fun _ _ _ _ _ _ us hl => match us, hl with | [_, _], _ => rfl) fun f cdv A outer s H E hr gx =>
    (mb_cons (ms_set gx 2 ((me_fn gx (ok__law_draw T) (hr.mono (by omega)) rfl (ma_cons (me_var 0) (ma_cons (me_int) ma_nil)))))
    (mb_cons (ms_if ((mt_w (mw_or ((mt_eq (gx.toGU) (me_var 1) (me_int))) ((mw_or1 ((mt_lt (gx.toGU) (me_var 2) (me_int)))))))) (mb_one (ms_ret ((me_tup ((ma_cons (me_str) (ma_cons ((me_sub_ix (gx.toGU) (me_str) ((me_fn gx (ok__law_draw T) (hr.mono (by omega)) rfl (ma_cons (me_var 0) (ma_cons (me_int) ma_nil)))))) ma_nil))))))) mb_nil)
    (mb_cons (ms_if ((mt_eq (gx.toGU) (me_var 2) (me_int))) (mb_one (ms_ret ((me_tup ((ma_cons (me_str) (ma_cons ((me_sub_ix (gx.toGU) ((me_lst ((ma_cons (me_int) (ma_cons (me_int) (ma_cons (me_int) (ma_cons (me_int) (ma_cons (me_int) (ma_cons (me_int) ma_nil))))))))) ((me_fn gx (ok__law_draw T) (hr.mono (by omega)) rfl (ma_cons (me_var 0) (ma_cons (me_int) ma_nil)))))) ma_nil))))))) mb_nil)
    (mb_cons (ms_if ((mt_eq (gx.toGU) (me_var 2) (me_int))) (mb_one (ms_ret ((me_tup ((ma_cons (me_str) (ma_cons ((me_fn gx ih._law_tree (hr.mono (by omega)) rfl (ma_cons (me_var 0) (ma_cons ((me_sub (me_var 1) (me_int))) ma_nil)))) ma_nil))))))) mb_nil)
    (mb_cons (ms_if ((mt_eq (gx.toGU) (me_var 2) (me_int))) (mb_one (ms_ret ((me_tup ((ma_cons (me_str) (ma_cons ((me_fn gx ih._law_tree (hr.mono (by omega)) rfl (ma_cons (me_var 0) (ma_cons ((me_sub (me_var 1) (me_int))) ma_nil)))) ma_nil))))))) mb_nil)
    (mb_cons (ms_set gx 3 ((me_sub_ix (gx.toGU) ((me_lst ((ma_cons (me_str) (ma_cons (me_str) (ma_cons (me_str) (ma_cons (me_str) (ma_cons (me_str) (ma_cons (me_str) (ma_cons (me_str) (ma_cons (me_str) ma_nil))))))))))) ((me_fn gx (ok__law_draw T) (hr.mono (by omega)) rfl (ma_cons (me_var 0) (ma_cons (me_int) ma_nil)))))))
    (mb_cons (ms_set gx 4 ((me_fn gx ih._law_tree (hr.mono (by omega)) rfl (ma_cons (me_var 0) (ma_cons ((me_sub (me_var 1) (me_int))) ma_nil)))))
    (mb_one (ms_ret ((me_tup ((ma_cons (me_str) (ma_cons (me_var 3) (ma_cons (me_var 4) (ma_cons ((me_fn gx ih._law_tree (hr.mono (by omega)) rfl (ma_cons (me_var 0) (ma_cons ((me_sub (me_var 1) (me_int))) ma_nil)))) ma_nil))))))))))))))))
theorem okA__law_tree (T : Txt P K mg w) : ∀ n, IH__law_tree P w K mg base n
  | 0 => ⟨ok0__law_tree T⟩
  | n + 1 => ⟨okS__law_tree T n (okA__law_tree T n)⟩
theorem ok__law_tree (T : Txt P K mg w) (n : Nat) : Fn P w K mg base "_law_tree" (2 + n) 2 (m__law_tree n) := (okA__law_tree T n)._law_tree
abbrev s__law_level : Stmt := topS 14
abbrev n__law_level : List Str := ["_law_tree_here"]
theorem sc__law_level : FnScope n__law_level ["_law_tree_here"] (defScope s__law_level) := ⟨rfl, rfl, rfl, by decide +kernel, rfl, by decide +kernel, by decide +kernel⟩
theorem ok__law_level (T : Txt P K mg w) : Fn P w K mg base "_law_level" 1 1 m__law_level :=
  fn_mk (N := n__law_level) (m := b__law_level) T.d__law_level sc__law_level (fun _ _ _ _ _ _ us hl => match us, hl with | [_], _ => rfl) fun f cdv A outer s H E hr gx =>
    (mb_cons (ms_if ((mt_ne (gx.toGU) ((me_sub_ix (gx.toGU) (me_var 0) (me_int))) (me_str))) (mb_one (ms_ret (me_int))) mb_nil)
    (mb_cons (ms_if ((mt_in (gx.toGU) ((me_sub_ix (gx.toGU) (me_var 0) (me_int))) ((me_lst ((ma_cons (me_str) (ma_cons (me_str) ma_nil))))))) (mb_one (ms_ret ((me_callTy call_intAll cd_int rfl T.b_int (by decide +kernel) (ma_cons ((me_eq (gx.toGU) ((me_sub_ix (gx.toGU) (me_var 0) (me_int))) (me_str))) ma_nil))))) mb_nil)
    (mb_cons (ms_if ((mt_in (gx.toGU) ((me_sub_ix (gx.toGU) (me_var 0) (me_int))) ((me_lst ((ma_cons (me_str) (ma_cons (me_str) ma_nil))))))) (mb_one (ms_ret (me_int))) mb_nil)
    (mb_one (ms_ret ((me_add (me_int) ((me_callTy call_intAll cd_int rfl T.b_int (by decide +kernel) (ma_cons ((me_eq (gx.toGU) ((me_sub_ix (gx.toGU) (me_var 0) (me_int))) (me_str))) ma_nil))))))))))
abbrev s__law_around : Stmt := topS 15
abbrev n__law_around : List Str := ["_law_tree_here", "_law_least"]
theorem sc__law_around : FnScope n__law_around ["_law_tree_here", "_law_least"] (defScope s__law_around) := ⟨rfl, rfl, rfl, by decide +kernel, rfl, by decide +kernel, by decide +kernel⟩
theorem ok0__law_around (T : Txt P K mg w) : Fn P w K mg base "_law_around" 2 2 (m__law_around 0) :=
  fn_mk (N := n__law_around) (m := stuckS) (k := 1) T.d__law_around sc__law_around (fun _ _ _ _ _ _ us hl => match us, hl with | [_, _], _ => rfl) fun f cdv A outer s H E hr gx =>
    mb_stuck
structure IH__law_around (P : Program) (w : World) (K : PySem.W.Frag) (mg : Str → Option Value) (base : Heap) (n : Nat) : Prop where
  _law_around : Fn P w K mg base "_law_around" (2 + n) 2 (m__law_around n)
  _law_texts : Fn P w K mg base "_law_texts" (2 + n) 1 (m__law_texts n)
theorem okS__law_around (T : Txt P K mg w) (n : Nat) (ih : IH__law_around P w K mg base n) : Fn P w K mg base "_law_around" (2 + (n + 1)) 2 (m__law_around (n + 1)) :=
  fn_mk (N := n__law_around) (m := b__law_around (m__law_around n) (m__law_texts n)) (k := 2 + n) T.d__law_around sc__law_around (fun _ _ _ _ _ _ us hl => match us, hl with | [_, _], _ => rfl) fun f cdv A outer s H E hr gx =>
    (mb_cons (ms_if ((mt_lt (gx.toGU) ((me_fn gx (ok__law_level T) (hr.mono (by omega)) rfl (ma_cons (me_var 0) ma_nil))) (me_var 1))) (mb_one (ms_ret ((me_add ((me_add ((me_lst ((ma_cons (me_str) ma_nil)))) ((me_fn gx ih._law_texts (hr.mono (by omega)) rfl (ma_cons (me_var 0) ma_nil))))) ((me_lst ((ma_cons (me_str) ma_nil)))))))) mb_nil)
    (mb_one (ms_ret ((me_fn gx ih._law_texts (hr.mono (by omega)) rfl (ma_cons (me_var 0) ma_nil))))))
abbrev s__law_texts : Stmt := topS 16
abbrev n__law_texts : List Str := ["_law_tree_here", "_law_level_here", "_law_left"]
theorem sc__law_texts : FnScope n__law_texts ["_law_tree_here"] (defScope s__law_texts) := ⟨rfl, rfl, rfl, by decide +kernel, rfl, by decide +kernel, by decide +kernel⟩
theorem ok0__law_texts (T : Txt P K mg w) : Fn P w K mg base "_law_texts" 2 1 (m__law_texts 0) :=
  fn_mk (N := n__law_texts) (m := stuckS) (k := 1) T.d__law_texts sc__law_texts (fun _ _ _ _ _ _ us hl => match us, hl with | [_], _ => rfl) fun f cdv A outer s H E hr gx =>
    mb_stuck
theorem okS__law_texts (T : Txt P K mg w) (n : Nat) (ih : IH__law_around P w K mg base n) : Fn P w K mg base "_law_texts" (2 + (n + 1)) 1 (m__law_texts (n + 1)) :=
  fn_mk (N := n__law_texts) (m := b__law_texts (m__law_around n) (m__law_texts n)) (k := 2 + n) T.d__law_texts sc__law_texts (fun _ _ _ _ _ _ us hl => match us, hl with | [_], _ => rfl) fun f cdv A outer s H E hr gx =>
    (mb_cons (ms_if ((mt_eq (gx.toGU) ((me_sub_ix (gx.toGU) (me_var 0) (me_int))) (me_str))) (mb_one (ms_ret ((me_lst ((ma_cons ((me_callTy call_strAll cd_str rfl T.b_str (by decide +kernel) (ma_cons ((me_sub_ix (gx.toGU) (me_var 0) (me_int))) ma_nil))) ma_nil)))))) mb_nil)
    (mb_cons (ms_if ((mt_eq (gx.toGU) ((me_sub_ix (gx.toGU) (me_var 0) (me_int))) (me_str))) (mb_one (ms_ret ((me_lst ((ma_cons ((me_sub_ix (gx.toGU) (me_var 0) (me_int))) ma_nil)))))) mb_nil)
    (mb_cons (ms_if ((mt_eq (gx.toGU) ((me_sub_ix (gx.toGU) (me_var 0) (me_int))) (me_str))) (mb_one (ms_ret ((me_add ((me_lst ((ma_cons (me_str) ma_nil)))) ((me_fn gx ih._law_around (hr.mono (by omega)) rfl (ma_cons ((me_sub_ix (gx.toGU) (me_var 0) (me_int))) (ma_cons (me_int) ma_nil)))))))) mb_nil)
    (mb_cons (ms_if ((mt_eq (gx.toGU) ((me_sub_ix (gx.toGU) (me_var 0) (me_int))) (me_str))) (mb_one (ms_ret ((me_add ((me_lst ((ma_cons (me_str) ma_nil)))) ((me_fn gx ih._law_around (hr.mono (by omega)) rfl (ma_cons ((me_sub_ix (gx.toGU) (me_var 0) (me_int))) (ma_cons (me_int) ma_nil)))))))) mb_nil)
    (mb_cons (ms_set gx 1 ((me_fn gx (ok__law_level T) (hr.mono (by omega)) rfl (ma_cons (me_var 0) ma_nil))))
    (mb_cons (ms_set gx 2 ((me_fn gx ih._law_around (hr.mono (by omega)) rfl (ma_cons ((me_sub_ix (gx.toGU) (me_var 0) (me_int))) (ma_cons ((me_add (me_var 1) ((me_callTy call_intAll cd_int rfl T.b_int (by decide +kernel) (ma_cons ((me_eq (gx.toGU) (me_var 1) (me_int))) ma_nil))))) ma_nil)))))
    (mb_one (ms_ret ((me_add ((me_add (me_var 2) ((me_lst ((ma_cons ((me_sub_ix (gx.toGU) (me_var 0) (me_int))) ma_nil)))))) ((me_fn gx ih._law_around (hr.mono (by omega)) rfl (ma_cons ((me_sub_ix (gx.toGU) (me_var 0) (me_int))) (ma_cons ((me_add (me_var 1) (me_int))) ma_nil))))))))))))))
theorem okA__law_around (T : Txt P K mg w) : ∀ n, IH__law_around P w K mg base n
  | 0 => ⟨ok0__law_around T, ok0__law_texts T⟩
  | n + 1 => ⟨okS__law_around T n (okA__law_around T n), okS__law_texts T n (okA__law_around T n)⟩
theorem ok__law_around (T : Txt P K mg w) (n : Nat) : Fn P w K mg base "_law_around" (2 + n) 2 (m__law_around n) := (okA__law_around T n)._law_around
theorem ok__law_texts (T : Txt P K mg w) (n : Nat) : Fn P w K mg base "_law_texts" (2 + n) 1 (m__law_texts n) := (okA__law_around T n)._law_texts
abbrev s__law_parts : Stmt := topS 17
abbrev n__law_parts : List Str := ["_law_texts_here", "_law_parts_here", "_law_text", "_law_kind"]
theorem sc__law_parts : FnScope n__law_parts ["_law_texts_here"] (defScope s__law_parts) := ⟨rfl, rfl, rfl, by decide +kernel, rfl, by decide +kernel, by decide +kernel⟩
theorem ok__law_parts (T : Txt P K mg w) : Fn P w K mg base "_law_parts" 1 1 m__law_parts :=
  (fn_mk (N := n__law_parts) (m := b__law_parts) T.d__law_parts sc__law_parts (fun _ _ _ _ _ _ us hl => match us, hl with | [_], _ => rfl) fun f cdv A outer s H E hr gx =>
    (mb_cons (ms_set gx 1 ((me_lstH (ma_nil))))
    (mb_cons (ms_for gx (mi_seq (me_var 0)) (mg_name (gx.toGU) 2) (mb_cons (ms_set gx 3 (me_str))
    (mb_cons (ms_if ((mt_in (gx.toGU) ((me_sub_ix (gx.toGU) (me_var 2) (me_int))) (me_str))) (mb_one (ms_set gx 3 (me_str))) mb_nil)
    (mb_cons (ms_if ((mt_in (gx.toGU) ((me_sub_ix (gx.toGU) (me_var 2) (me_int))) (me_str))) (mb_one (ms_set gx 3 (me_str))) mb_nil)
    (mb_one (ms_expr ((me_bm PySem.F.plainAttrs_list PySem.F.slot_list_append PySem.F.type_list_append mt_append md_append ty_lst (me_var 1) (ma_cons ((me_tup ((ma_cons (me_var 3) (ma_cons (me_var 2) ma_nil))))) ma_nil)))))))))
    (mb_one (ms_ret (me_var 1)))))).cut
abbrev s__law_depth : Stmt := topS 18
abbrev n__law_depth : List Str := ["_law_texts_here", "_law_depth_here", "_law_most", "_law_text"]
theorem sc__law_depth : FnScope n__law_depth ["_law_texts_here"] (defScope s__law_depth) := ⟨rfl, rfl, rfl, by decide +kernel, rfl, by decide +kernel, by decide +kernel⟩
theorem ok__law_depth (T : Txt P K mg w) : Fn P w K mg base "_law_depth" 1 1 m__law_depth :=
  fn_mk (N := n__law_depth) (m := b__law_depth) T.d__law_depth sc__law_depth (fun _ _ _ _ _ _ us hl => match us, hl with | [_], _ => rfl) fun f cdv A outer s H E hr gx =>
    (mb_cons (ms_set gx 1 (me_int))
    (mb_cons (ms_set gx 2 (me_int))
    (mb_cons (ms_for gx (mi_seq (me_var 0)) (mg_name (gx.toGU) 3) (mb_cons (ms_set gx 1 ((me_sub ((me_add (me_var 1) ((me_callTy call_intAll cd_int rfl T.b_int (by decide +kernel) (ma_cons ((me_eq (gx.toGU) (me_var 3) (me_str))) ma_nil))))) ((me_callTy call_intAll cd_int rfl T.b_int (by decide +kernel) (ma_cons ((me_eq (gx.toGU) (me_var 3) (me_str))) ma_nil))))))
    (mb_one (ms_set gx 2 ((me_callB (call_max2 gx.calm) cd_max2 rfl T.b_max (by decide +kernel) (ma_cons (me_var 2) (ma_cons (me_var 1) ma_nil))))))))
    (mb_one (ms_ret (me_var 2))))))
abbrev s__law_token : Stmt := topS 19
abbrev n__law_token : List Str := ["_law_box", "_law_texts_here", "_law_text"]
theorem sc__law_token : FnScope n__law_token ["_law_box"] (defScope s__law_token) := ⟨rfl, rfl, rfl, by decide +kernel, rfl, by decide +kernel, by decide +kernel⟩
theorem ok__law_token (T : Txt P K mg w) : Fn P w K mg base "_law_token" 2 1 m__law_token :=
  fn_mk (N := n__law_token) (m := b__law_token) T.d__law_token sc__law_token (fun _ _ _ _ _ _ us hl => match us, hl with | [_], _ => rfl) fun f cdv A outer s H E hr gx =>
    (mb_cons (ms_set gx 1 ((me_lst ((ma_cons (me_str) (ma_cons (me_str) (ma_cons (me_str) (ma_cons (me_str) (ma_cons (me_str) (ma_cons (me_str) (ma_cons (me_str) (ma_cons (me_str) (ma_cons (me_str) (ma_cons (me_str) (ma_cons (me_str) (ma_cons (me_str) (ma_cons (me_str) (ma_cons (me_str) (ma_cons (me_str) (ma_cons (me_str) (ma_cons (me_str) ma_nil)))))))))))))))))))))
    (mb_cons (ms_set gx 2 ((me_sub_ix (gx.toGU) (me_var 1) ((me_fn gx (ok__law_draw T) (hr.mono (by decide)) rfl (ma_cons (me_var 0) (ma_cons (me_int) ma_nil)))))))
    (mb_cons (ms_if ((mt_eq (gx.toGU) ((me_fn gx (ok__law_draw T) (hr.mono (by decide)) rfl (ma_cons (me_var 0) (ma_cons (me_int) ma_nil)))) (me_int))) (mb_one (ms_ret ((me_tup ((ma_cons (me_str) (ma_cons (me_str) ma_nil))))))) mb_nil)
    (mb_one (ms_ret ((me_sub_ix (gx.toGU) ((me_fn gx (ok__law_parts T) (hr.mono (by decide)) rfl (ma_cons ((me_lst ((ma_cons (me_var 2) ma_nil)))) ma_nil))) (me_int))))))))
abbrev s__law_drawn : Stmt := topS 20
abbrev n__law_drawn : List Str := ["_law_box", "_law_many", "_law_parts_here", "_law_turn", "_law_at", "_law_change"]
theorem sc__law_drawn : FnScope n__law_drawn ["_law_box"] (defScope s__law_drawn) := ⟨rfl, rfl, rfl, by decide +kernel, rfl, by decide +kernel, by decide +kernel⟩
theorem ok__law_drawn (T : Txt P K mg w) : Fn P w K mg base "_law_drawn" 179 1 m__law_drawn :=
  fn_mk (N := n__law_drawn) (m := b__law_drawn) T.d__law_drawn sc__law_drawn (fun _ _ _ _ _ _ us hl => match us, hl with | [_], _ => rfl) fun f cdv A outer s H E hr gx =>
    (mb_cons (ms_if ((mt_eq (gx.toGU) ((me_fn gx (ok__law_draw T) (hr.mono (by decide)) rfl (ma_cons (me_var 0) (ma_cons (me_int) ma_nil)))) (me_int))) (mb_cons (ms_set gx 1 ((me_fn gx (ok__law_draw T) (hr.mono (by decide)) rfl (ma_cons (me_var 0) (ma_cons (me_int) ma_nil)))))
    (mb_one (ms_ret ((me_add ((me_add ((me_mul ((me_lst ((ma_cons ((me_tup ((ma_cons (me_str) (ma_cons (me_str) ma_nil))))) ma_nil)))) (me_var 1))) ((me_lst ((ma_cons ((me_tup ((ma_cons (me_str) (ma_cons (me_str) ma_nil))))) ma_nil)))))) ((me_mul ((me_lst ((ma_cons ((me_tup ((ma_cons (me_str) (ma_cons (me_str) ma_nil))))) ma_nil)))) ((me_fn gx (ok__law_draw T) (hr.mono (by decide)) rfl (ma_cons (me_var 0) (ma_cons ((me_add (me_var 1) (me_int))) ma_nil))))))))))) mb_nil)
    (mb_cons (ms_set gx 2 ((me_fn gx (ok__law_parts T) (hr.mono (by decide)) rfl (ma_cons ((me_fn gx (ok__law_texts T 176) (hr.mono (by decide)) rfl (ma_cons ((me_fn gx (ok__law_tree T 6) (hr.mono (by decide)) rfl (ma_cons (me_var 0) (ma_cons ((me_add (me_int) ((me_fn gx (ok__law_draw T) (hr.mono (by decide)) rfl (ma_cons (me_var 0) (ma_cons (me_int) ma_nil)))))) ma_nil)))) ma_nil))) ma_nil))))
    (mb_cons (ms_for gx (mi_range1 rfl T.b_range (ma_cons ((me_fn gx (ok__law_draw T) (hr.mono (by decide)) rfl (ma_cons (me_var 0) (ma_cons (me_int) ma_nil)))) ma_nil)) (mg_name (gx.toGU) 3) (mb_cons (ms_set gx 4 ((me_fn gx (ok__law_draw T) (hr.mono (by decide)) rfl (ma_cons (me_var 0) (ma_cons ((me_add ((me_callB call_lenAll cd_len rfl T.b_len (by decide +kernel) (ma_cons (me_var 2) ma_nil))) (me_int))) ma_nil)))))
    (mb_cons (ms_set gx 5 ((me_fn gx (ok__law_draw T) (hr.mono (by decide)) rfl (ma_cons (me_var 0) (ma_cons (me_int) ma_nil)))))
    (mb_cons (ms_if ((mt_eq (gx.toGU) (me_var 5) (me_int))) (mb_one (ms_set gx 2 ((me_add ((me_add ((me_sl (me_var 2) (mo_none) ((mo_some (me_var 4))))) ((me_lst ((ma_cons ((me_fn gx (ok__law_token T) (hr.mono (by decide)) rfl (ma_cons (me_var 0) ma_nil))) ma_nil)))))) ((me_sl (me_var 2) ((mo_some (me_var 4))) (mo_none))))))) mb_nil)
    (mb_cons (ms_if ((mt_eq (gx.toGU) (me_var 5) (me_int))) (mb_one (ms_set gx 2 ((me_add ((me_sl (me_var 2) (mo_none) ((mo_some (me_var 4))))) ((me_sl (me_var 2) ((mo_some ((me_add (me_var 4) (me_int))))) (mo_none))))))) mb_nil)
    (mb_one (ms_if ((mt_eq (gx.toGU) (me_var 5) (me_int))) (mb_one (ms_set gx 2 ((me_add ((me_add ((me_sl (me_var 2) (mo_none) ((mo_some (me_var 4))))) ((me_lst ((ma_cons ((me_fn gx (ok__law_token T) (hr.mono (by decide)) rfl (ma_cons (me_var 0) ma_nil))) ma_nil)))))) ((me_sl (me_var 2) ((mo_some ((me_add (me_var 4) (me_int))))) (mo_none))))))) mb_nil)))))))
    (mb_one (ms_ret (me_var 2))))))
abbrev s__law_is_expression : Stmt := topS 21
abbrev n__law_is_expression : List Str := ["_law_parts_here", "_law_claims", "_law_operand", "_law_part", "_law_text"]
theorem sc__law_is_expression : FnScope n__law_is_expression ["_law_parts_here"] (defScope s__law_is_expression) := ⟨rfl, rfl, rfl, by decide +kernel, rfl, by decide +kernel, by decide +kernel⟩
theorem ok__law_is_expression (T : Txt P K mg w) : Fn P w K mg base "_law_is_expression" 1 1 m__law_is_expression :=
  (fn_mk (N := n__law_is_expression) (m := b__law_is_expression) T.d__law_is_expression sc__law_is_expression (fun _ _ _ _ _ _ us hl => match us, hl with | [_], _ => rfl) fun f cdv A outer s H E hr gx =>
    (mb_cons (ms_set gx 1 ((me_lstH ((ma_cons (me_bl) ma_nil)))))
    (mb_cons (ms_set gx 2 (me_bl))
    (mb_cons (ms_for gx (mi_seq (me_var 0)) (mg_name (gx.toGU) 3) (mb_cons (ms_set gx 4 ((me_sub_ix (gx.toGU) (me_var 3) (me_int))))
    (mb_cons (ms_if ((mt_eq (gx.toGU) ((me_sub_ix (gx.toGU) (me_var 3) (me_int))) (me_str))) (mb_one (ms_ret (me_bl))) mb_nil)
    (mb_one (ms_if ((mt_b (me_var 2))) (mb_one (ms_if ((mt_eq (gx.toGU) (me_var 4) (me_str))) (mb_one (ms_expr ((me_bm PySem.F.plainAttrs_list PySem.F.slot_list_append PySem.F.type_list_append mt_append md_append ty_lst (me_var 1) (ma_cons (me_bl) ma_nil))))) (mb_one (ms_if ((mt_w (mw_or ((mt_eq (gx.toGU) ((me_sub_ix (gx.toGU) (me_var 3) (me_int))) (me_str))) ((mw_or1 ((mt_in (gx.toGU) (me_var 4) ((me_lst ((ma_cons (me_str) (ma_cons (me_str) (ma_cons (me_str) (ma_cons (me_str) ma_nil)))))))))))))) (mb_one (ms_set gx 2 (me_bl))) (mb_one (ms_if ((mt_nin (gx.toGU) (me_var 4) ((me_lst ((ma_cons (me_str) (ma_cons (me_str) ma_nil))))))) (mb_one (ms_ret (me_bl))) mb_nil)))))) (mb_one (ms_if ((mt_eq (gx.toGU) (me_var 4) (me_str))) (mb_cons (ms_if ((mt_eq (gx.toGU) ((me_callB call_lenAll cd_len rfl T.b_len (by decide +kernel) (ma_cons (me_var 1) ma_nil))) (me_int))) (mb_one (ms_ret (me_bl))) mb_nil)
    (mb_one (ms_expr ((me_bm0 PySem.F.plainAttrs_list PySem.F.slot_list_pop PySem.F.type_list_pop mt_pop md_pop ty_lst (me_var 1)))))) (mb_one (ms_if ((mt_in (gx.toGU) (me_var 4) ((me_lst ((ma_cons (me_str) (ma_cons (me_str) ma_nil))))))) (mb_cons (ms_if ((mt_b ((me_sub_ix (gx.toGU) (me_var 1) ((me_neg (me_int))))))) (mb_one (ms_ret (me_bl))) mb_nil)
    (mb_cons (ms_put gx (me_bl) (me_var 1) ((me_neg (me_int))))
    (mb_one (ms_set gx 2 (me_bl))))) (mb_one (ms_if ((mt_in (gx.toGU) (me_var 4) ((me_lst ((ma_cons (me_str) (ma_cons (me_str) ma_nil))))))) (mb_cons (ms_put gx (me_bl) (me_var 1) ((me_neg (me_int))))
    (mb_one (ms_set gx 2 (me_bl)))) (mb_one (ms_if ((mt_in (gx.toGU) (me_var 4) ((me_lst ((ma_cons (me_str) (ma_cons (me_str) (ma_cons (me_str) ma_nil)))))))) (mb_one (ms_set gx 2 (me_bl))) (mb_one (ms_ret (me_bl))))))))))))))))
    (mb_one (ms_ret ((me_and ((me_not (me_var 2))) ((me_one ((me_eq (gx.toGU) ((me_callB call_lenAll cd_len rfl T.b_len (by decide +kernel) (ma_cons (me_var 1) ma_nil))) (me_int))))))))))))).cut
abbrev s__law_bare : Stmt := topS 22
abbrev n__law_bare : List Str := ["_law_texts_here", "_law_text"]
theorem sc__law_bare : FnScope n__law_bare ["_law_texts_here"] (defScope s__law_bare) := ⟨rfl, rfl, rfl, by decide +kernel, rfl, by decide +kernel, by decide +kernel⟩
theorem ok__law_bare (T : Txt P K mg w) : Fn P w K mg base "_law_bare" 1 1 m__law_bare :=
  fn_mk (N := n__law_bare) (m := b__law_bare) T.d__law_bare sc__law_bare (fun _ _ _ _ _ _ us hl => match us, hl with | [_], _ => rfl) fun f cdv A outer s H E hr gx =>
    (mb_one (ms_ret ((me_lc gx 1 (mi_seq (me_var 0)) (blkOk_by (N := n__law_bare) (sc := defScope s__law_bare) (by decide +kernel)) (fun _ _ _ _ _ => pg_name (i := 1) gx.nd rfl (Or.inl rfl)) (fun _ _ _ _ _ => mts_one ((mt_nin ((gx.blk _ _ _ _ _).toGU) (me_var 1) ((me_lst ((ma_cons (me_str) (ma_cons (me_str) ma_nil)))))))) (fun _ _ _ _ _ => me_var 1)))))
abbrev s_law : Stmt := topS 23
abbrev n_law : List Str := ["_law_script", "_law_box", "_law_turn", "_law_parts_here", "_law_texts_here", "_law_due", "_law_tree_here", "_law_part"]
theorem sc_law : FnScope n_law ["_law_script"] (defScope s_law) := ⟨rfl, rfl, rfl, by decide +kernel, rfl, by decide +kernel, by decide +kernel⟩
theorem ok_law (T : Txt P K mg w) {f : Addr} {fd : FuncData} (F : Fun K "law" "law" s_law f fd) : FnOk P w K mg base (L2N.CX P w) 180 f fd ["_law_script"] (spM K mg w 1 m_law) :=
  FnOk.imp (fn_ok (N := n_law) (b := b_law) F sc_law fun cdv A outer s H E hr gx =>
    (mb_cons (ms_set gx 1 ((me_lstH ((ma_cons ((me_fn gx (ok__law_digits T) (hr.mono (by decide)) rfl (ma_cons (me_var 0) (ma_cons (me_int) (ma_cons (me_int) ma_nil))))) (ma_cons (me_int) ma_nil))))))
    (mb_cons (ms_for gx (mi_range1 rfl T.b_range (ma_cons (me_int) ma_nil)) (mg_name (gx.toGU) 2) (mb_cons (ms_set gx 3 ((me_fn gx (ok__law_drawn T) (hr.mono (by decide)) rfl (ma_cons (me_var 1) ma_nil))))
    (mb_cons (ms_setLc gx 4 7 (mi_seq (me_var 3)) (blkOk_by (N := n_law) (sc := defScope s_law) (by decide +kernel)) (fun _ _ _ _ _ => pg_name (i := 7) gx.nd rfl (Or.inl rfl)) (fun _ _ _ _ _ => mts_nil) (fun _ _ _ _ _ => (me_sub_ix ((gx.blk _ _ _ _ _).toGU) (me_var 7) (me_int))) (sw_true rfl rfl rfl (by decide +kernel)))
    (mb_cons (ms_set gx 5 ((me_and ((me_fn gx (ok__law_is_expression T) (hr.mono (by decide)) rfl (ma_cons (me_var 3) ma_nil))) ((me_and ((me_le ((me_callB call_lenAll cd_len rfl T.b_len (by decide +kernel) (ma_cons (me_var 3) ma_nil))) (me_int))) ((me_one ((me_le ((me_fn gx (ok__law_depth T) (hr.mono (by decide)) rfl (ma_cons (me_var 4) ma_nil))) (me_int))))))))))
    (mb_cons (ms_set gx 6 ((me_fn gx (ok_read_expression T) (hr.mono (by decide)) rfl (ma_cons ((me_lc gx 7 (mi_seq (me_var 3)) (blkOk_by (N := n_law) (sc := defScope s_law) (by decide +kernel)) (fun _ _ _ _ _ => pg_name (i := 7) gx.nd rfl (Or.inl rfl)) (fun _ _ _ _ _ => mts_nil) (fun _ _ _ _ _ => me_var 7))) ma_nil))))
    (mb_cons (ms_if ((mt_ne (gx.toGU) (me_var 5) ((me_isnt (me_var 6) (me_non))))) (mb_one (ms_ret (me_bl))) mb_nil)
    (mb_one (ms_if ((mt_w (mw_and ((mt_b (me_var 5))) ((mw_and1 ((mt_not ((mt_b ((me_fn gx (ok__law_same T 30) (hr.mono (by decide)) rfl (ma_cons ((me_fn gx (ok__law_bare T) (hr.mono (by decide)) rfl (ma_cons ((me_fn gx (ok__law_texts T 176) (hr.mono (by decide)) rfl (ma_cons (me_var 6) ma_nil))) ma_nil))) (ma_cons ((me_fn gx (ok__law_bare T) (hr.mono (by decide)) rfl (ma_cons (me_var 4) ma_nil))) ma_nil))))))))))))) (mb_one (ms_ret (me_bl))) mb_nil))))))))
    (mb_one (ms_ret (me_bl)))))) fun _ _ _ _ q => spM_cut q
end
end G_k04

namespace G_k04
open PySem PySem.Spec PyProof.Rows L2 Ev
def c0 (ns : List Int) (k : Nat) : Int := (ns[k]?).getD 0
theorem cell_run (ns : List Int) (k : Int) (h : Hh) (h0 : 0 ≤ k) : m__law_cell [.scr ns, .int k] h = .ok (.int (c0 ns k.toNat)) h := by
  unfold c0
  by_cases hk : k < ns.length
  · have e : atI ns k = some ((ns[k.toNat]?).getD 0) := atI_nn h0 (by rw [List.getElem?_eq_getElem (by omega)]; rfl)
    simp [m__law_cell, defF_run, b__law_cell, hk, e]
  · have e : (ns[k.toNat]?).getD 0 = 0 := by rw [List.getElem?_eq_none (by omega)]; rfl
    simp [m__law_cell, defF_run, b__law_cell, hk, e]
/-- the digits of one cell, of all cells -/
theorem dg2_A (a0 a1 a2 a4 v6 a7 : Option D) (l : List Int) (c : Int) (h : Hh) (hl : l.length < 100000) : ∃ (l' : List Int) (c' : Int) (w6 : Option D), l'.length ≤ l.length + 60 ∧
    loopS (fun _ => True) (gNm 6) x1__law_digits (rngL 0 60) [a0, a1, a2, some (.ref h.length), a4, some (.int c), v6, a7] (h ++ [.lst (l.map D.int)]) = .nx [a0, a1, a2, some (.ref h.length), a4, some (.int c'), w6, a7] (h ++ [.lst (l'.map D.int)]) := by
  obtain ⟨ρ', h', e, l', c', hz, ⟨w6, rfl⟩, rfl⟩ := lp_rng (x := x1__law_digits) (g := gNm 6) (lo := 0) (n := 60)
    (ρ := [a0, a1, a2, some (.ref h.length), a4, some (.int c), v6, a7]) (h := h ++ [.lst (l.map D.int)])
    (fun i ρ h' => ∃ (l' : List Int) (c' : Int), l'.length ≤ l.length + i ∧ (∃ w6, ρ = [a0, a1, a2, some (.ref h.length), a4, some (.int c'), w6, a7]) ∧ h' = h ++ [.lst (l'.map D.int)])
    ⟨l, c, Nat.le_refl _, ⟨v6, rfl⟩, rfl⟩ (by
      rintro i ρ h1 hi ⟨l', c', hz, ⟨w6, rfl⟩, rfl⟩
      have hz2 : l'.length < sizeLine := by rw [sizeLine_eq]; omega
      by_cases h1 : 0 < c'
      · simp [x1__law_digits, h1, hz2, modD_int, fdivD_int]
        exact ⟨l' ++ [c' % 1000], by simp; omega, by simp⟩
      · simp [x1__law_digits, h1]
        exact ⟨l', by omega, rfl⟩)
  exact ⟨l', c', w6, hz, e⟩
theorem dg2_B (a0 a1 a2 a4 a5 v6 : Option D) (l : List Int) (c : Int) (h : Hh) (hl : l.length < 100000) : ∃ (l' : List Int) (c' w6 : Option D), l'.length ≤ l.length + 12 ∧
    loopS (fun _ => True) (gNm 6) x2__law_digits (rngL 0 12) [a0, a1, a2, some (.ref h.length), a4, a5, v6, some (.int c)] (h ++ [.lst (l.map D.int)]) = .nx [a0, a1, a2, some (.ref h.length), a4, a5, w6, c'] (h ++ [.lst (l'.map D.int)]) := by
  obtain ⟨ρ', h', e, l', c', hz, ⟨w6, rfl⟩, rfl⟩ := lp_rng (x := x2__law_digits) (g := gNm 6) (lo := 0) (n := 12)
    (ρ := [a0, a1, a2, some (.ref h.length), a4, a5, v6, some (.int c)]) (h := h ++ [.lst (l.map D.int)])
    (fun i ρ h' => ∃ (l' : List Int) (c' : Int), l'.length ≤ l.length + i ∧ (∃ w6, ρ = [a0, a1, a2, some (.ref h.length), a4, a5, w6, some (.int c')]) ∧ h' = h ++ [.lst (l'.map D.int)])
    ⟨l, c, Nat.le_refl _, ⟨v6, rfl⟩, rfl⟩ (by
      rintro i ρ h1 hi ⟨l', c', hz, ⟨w6, rfl⟩, rfl⟩
      have hz2 : l'.length < sizeLine := by rw [sizeLine_eq]; omega
      simp [x2__law_digits, hz2, modD_int, fdivD_int, mulD_int]
      exact ⟨l' ++ [_], by simp; omega, by rw [List.map_append]; rfl⟩)
  exact ⟨l', _, w6, hz, e⟩
theorem digits2_run (ns : List Int) (h : Hh) : ∃ ds : List Int, ds.length < 10000 ∧ m__law_digits [.scr ns, .int 0, .int 63] h = .ok (.lst (ds.map D.int)) h := by
  have hi : i62 (0 : Int) := by unfold i62; omega
  have hj : i62 (63 : Int) := by unfold i62; omega
  have h60 : i62 (60 : Int) := by unfold i62; omega
  have h12 : i62 (12 : Int) := by unfold i62; omega
  obtain ⟨ρ', h', e, ds, hz, ⟨v4, v5, v6, v7, rfl⟩, rfl⟩ := lp_rng (x := x3__law_digits) (g := gNm 4) (lo := 0) (n := 63)
    (ρ := [some (.scr ns), some (.int 0), some (.int 63), some (.ref h.length), none, none, none, none]) (h := h ++ [.lst []])
    (fun i ρ h' => ∃ (l' : List Int), l'.length ≤ 60 * i ∧ (∃ v4 v5 v6 v7, ρ = [some (.scr ns), some (.int 0), some (.int 63), some (.ref h.length), v4, v5, v6, v7]) ∧ h' = h ++ [.lst (l'.map D.int)])
    ⟨[], by simp, ⟨none, none, none, none, rfl⟩, rfl⟩ (by
      rintro i ρ h1 hi ⟨l, hz, ⟨v4, v5, v6, v7, rfl⟩, rfl⟩
      have ec := fun h => cell_run ns i h (by omega)
      generalize c0 ns (i : Int).toNat = c at ec
      have hp : ∀ h, powD (.int 10) (.int 18) h = .ok (.int 1000000000000000000) h := fun h => powD_int _ _ (by decide)
      have fin : ∀ l' : List Int, l'.length ≤ l.length + 60 → l'.length ≤ 60 * (i + 1) := fun l' h => by omega
      by_cases h0 : c < 0
      · by_cases h1 : 1000000000000000000 ≤ 1 - 2 * c
        · obtain ⟨l', c', w6, hz', e1⟩ := dg2_A (some (.scr ns)) (some (.int 0)) (some (.int 63)) (some (.int i)) v6 v7 l (1 - 2 * c) h (by omega)
          simp [x3__law_digits, ec, h0, h1, hp, rngD_1 h60, mulD_int, e1]
          exact ⟨l', fin l' hz', rfl⟩
        · obtain ⟨l', c', w6, hz', e1⟩ := dg2_B (some (.scr ns)) (some (.int 0)) (some (.int 63)) (some (.int i)) (some (.int (1 - 2 * c))) v6 l (((1 - 2 * c) * 48271 + i * 69621 + 11) % 2147483647) h (by omega)
          simp [x3__law_digits, ec, h0, h1, hp, rngD_1 h12, mulD_int, modD_int, e1]
          exact ⟨l', fin l' (by omega), rfl⟩
      · by_cases h1 : 1000000000000000000 ≤ c
        · obtain ⟨l', c', w6, hz', e1⟩ := dg2_A (some (.scr ns)) (some (.int 0)) (some (.int 63)) (some (.int i)) v6 v7 l c h (by omega)
          simp [x3__law_digits, ec, h0, h1, hp, rngD_1 h60, e1]
          exact ⟨l', fin l' hz', rfl⟩
        · obtain ⟨l', c', w6, hz', e1⟩ := dg2_B (some (.scr ns)) (some (.int 0)) (some (.int 63)) (some (.int i)) (some (.int c)) v6 l ((c * 48271 + i * 69621 + 11) % 2147483647) h (by omega)
          simp [x3__law_digits, ec, h0, h1, hp, rngD_1 h12, mulD_int, modD_int, e1]
          exact ⟨l', fin l' (by omega), rfl⟩)
  refine ⟨ds, by omega, ?_⟩
  unfold m__law_digits
  refine cut_lst (g := [.lst (ds.map D.int)]) (n := h.length) ?_ (Nat.le_refl _) (by simp) (belows_map _ _ _ fun _ _ => rfl)
  simp [defF_run, b__law_digits, rngD_2 hi hj, e]
/-- the box: the digits and the place -/
def bx (ds : List Int) (a : Nat) : O := .lst [.lst (ds.map D.int), .int a]
theorem draw_run (ds : List Int) (a : Nat) (n : Nat) (H : Hh) (m : Int) (hm : 0 < m) (hr : H[n]? = some (bx ds a)) : ∃ v, 0 ≤ v ∧ v < m ∧ m__law_draw [.ref n, .int m] H = .ok (.int v) (H.set n (bx ds (a + 1))) := by
  have hn : n < H.length := (List.getElem?_eq_some_iff.mp hr).1
  have hs : ∀ o : O, (H.set n o)[n]? = some o := fun o => by rw [List.getElem?_set_self hn]
  have e0 : ixN 2 1 = some 1 := rfl
  by_cases ha : a < ds.length
  · have e1 : (ds.map D.int)[a]? = some (.int ds[a]) := by rw [List.getElem?_map, List.getElem?_eq_getElem ha]; rfl
    have e2 : atI (ds.map D.int) (a : Int) = some (.int ds[a]) := by rw [atI_natE]; exact e1
    refine ⟨ds[a] % m, Int.emod_nonneg _ (by omega), Int.emod_lt_of_pos _ hm, ?_⟩
    simp [m__law_draw, defF_run, b__law_draw, hr, hs, bx, e0, e2, ha, modD_int, hm]
  · refine ⟨0, by omega, hm, ?_⟩
    simp [m__law_draw, defF_run, b__law_draw, hr, hs, bx, e0, ha]
/-- data that _law_same tells as the same as itself -/
def goodD : Nat → D → Prop
  | _, .non => True
  | _, .bl _ => True
  | _, .int _ => True
  | _, .str _ => True
  | n + 1, .tup l => l.length ≤ 1000000 ∧ ∀ d ∈ l, goodD n d
  | n + 1, .lst l => l.length ≤ 1000000 ∧ ∀ d ∈ l, goodD n d
  | _, _ => False
theorem same_int (n : Nat) (i : Int) (h : Hh) : m__law_same (n + 1) [.int i, .int i] h = .ok (.bl true) h := by simp [m__law_same, defF_run, b__law_same]
theorem same_non (n : Nat) (h : Hh) : m__law_same (n + 1) [.non, .non] h = .ok (.bl true) h := by simp [m__law_same, defF_run, b__law_same]
theorem same_bl (n : Nat) (b : Bool) (h : Hh) : m__law_same (n + 1) [.bl b, .bl b] h = .ok (.bl true) h := by simp [m__law_same, defF_run, b__law_same]
theorem same_str (n : Nat) (b : Str) (h : Hh) : m__law_same (n + 1) [.str b, .str b] h = .ok (.bl true) h := by simp [m__law_same, defF_run, b__law_same]
theorem same_loop (n : Nat) (l : List D) (a b : D) (v : Option D) (h : Hh) (ha : ∀ (i : Nat) d, l[i]? = some d → ixD a (.int i) h = .ok d h ∧ ixD b (.int i) h = .ok d h) (hl : ∀ d ∈ l, m__law_same n [d, d] h = .ok (.bl true) h) :
    ∃ w, loopS (fun _ => True) (gNm 2) (x1__law_same (m__law_same n)) (rngL 0 l.length) [some a, some b, v] h = .nx [some a, some b, w] h := by
  obtain ⟨ρ', h', e, ⟨w, rfl⟩, rfl⟩ := lp_rng (x := x1__law_same (m__law_same n)) (g := gNm 2) (lo := 0) (n := l.length) (ρ := [some a, some b, v]) (h := h)
    (fun _ ρ h' => (∃ w, ρ = [some a, some b, w]) ∧ h' = h) ⟨⟨v, rfl⟩, rfl⟩ (by
      rintro i ρ h1 hi ⟨⟨w, rfl⟩, rfl⟩
      obtain ⟨e1, e2⟩ := ha i l[i] (List.getElem?_eq_getElem hi)
      have e3 := hl l[i] (List.getElem_mem hi)
      simp [x1__law_same, e1, e2, e3])
  exact ⟨w, e⟩
theorem same_run : ∀ (n : Nat) (d : D), goodD n d → ∀ h, m__law_same (n + 1) [d, d] h = .ok (.bl true) h
  | n, .non, _, h => same_non n h
  | n, .bl _, _, h => same_bl n _ h
  | n, .int _, _, h => same_int n _ h
  | n, .str _, _, h => same_str n _ h
  | n + 1, .tup l, g, h => by
    obtain ⟨w, e⟩ := same_loop (n + 1) l (.tup l) (.tup l) none h (fun i d e => by simp [atI_natE, e]) fun d hd => same_run n d (g.2 d hd) h
    have hi : i62 (l.length : Int) := by have := g.1; unfold i62; omega
    rw [m__law_same]
    simp [defF_run, b__law_same, rngD_1 hi, e]
  | n + 1, .lst l, g, h => by
    obtain ⟨w, e⟩ := same_loop (n + 1) l (.lst l) (.lst l) none h (fun i d e => by simp [atI_natE, e]) fun d hd => same_run n d (g.2 d hd) h
    have hi : i62 (l.length : Int) := by have := g.1; unfold i62; omega
    rw [m__law_same]
    simp [defF_run, b__law_same, rngD_1 hi, e]
  | 0, .tup _, g, _ => g.elim
  | 0, .lst _, g, _ => g.elim
  | 0, .dic _, g, _ => g.elim
  | 0, .scr _, g, _ => g.elim
  | 0, .ref _, g, _ => g.elim
  | 0, .ty _, g, _ => g.elim
  | n + 1, .dic _, g, _ => g.elim
  | n + 1, .scr _, g, _ => g.elim
  | n + 1, .ref _, g, _ => g.elim
  | n + 1, .ty _, g, _ => g.elim
  | 0, .ntp _, g, _ => g.elim
  | n + 1, .ntp _, g, _ => g.elim
/-- expressions -/
inductive Tree where
  | num (n : Int) | reg (r : Str) | op (s : Str) (a b : Tree) | nt (x : Tree) | ng (x : Tree)
deriving DecidableEq
def encTree : Tree → D
  | .num n => .tup [.str "num", .int n]
  | .reg r => .tup [.str "reg", .str r]
  | .op s a b => .tup [.str "op", .str s, encTree a, encTree b]
  | .nt x => .tup [.str "not", encTree x]
  | .ng x => .tup [.str "neg", encTree x]
/-- what _law_tree draws at a depth -/
def TOk : Nat → Tree → Prop
  | _, .num n => n ∈ ([0, 1, 2, 9, 10, 99] : List Int)
  | _, .reg r => r ∈ (["a", "b", "c", "d"] : List Str)
  | n + 1, .op s a b => s ∈ (["+", "-", "*", "=", "<", "and", "or"] : List Str) ∧ TOk n a ∧ TOk n b
  | n + 1, .nt x => TOk n x
  | n + 1, .ng x => TOk n x
  | 0, _ => False
theorem abcd_at (v : Int) (h0 : 0 ≤ v) (h1 : v < 4) (h : Hh) : ∃ r : Str, r ∈ (["a", "b", "c", "d"] : List Str) ∧ ixD (.str "abcd") (.int v) h = .ok (.str r) h := by
  obtain rfl | rfl | rfl | rfl : v = 0 ∨ v = 1 ∨ v = 2 ∨ v = 3 := by omega
  · exact ⟨"a", by decide, by rw [ixD_str (by rw [sizeLine_eq]; decide)]; rfl⟩
  · exact ⟨"b", by decide, by rw [ixD_str (by rw [sizeLine_eq]; decide)]; rfl⟩
  · exact ⟨"c", by decide, by rw [ixD_str (by rw [sizeLine_eq]; decide)]; rfl⟩
  · exact ⟨"d", by decide, by rw [ixD_str (by rw [sizeLine_eq]; decide)]; rfl⟩
theorem tree_run (ds : List Int) (n : Nat) : ∀ (d k a : Nat) (H : Hh), H[n]? = some (bx ds a) → ∃ t a', TOk d t ∧ m__law_tree (d + 1 + k) [.ref n, .int d] H = .ok (encTree t) (H.set n (bx ds a')) := by
  intro d
  induction d with
  | zero =>
    intro k a H hr
    have hn : n < H.length := (List.getElem?_eq_some_iff.mp hr).1
    obtain ⟨v, h1, h2, e1⟩ := draw_run ds a n H 9 (by omega) hr
    obtain ⟨w, h3, h4, e2⟩ := draw_run ds (a + 1) n (H.set n (bx ds (a + 1))) 4 (by omega) (by rw [List.getElem?_set_self hn])
    rw [List.set_set] at e2
    obtain ⟨r, hr, e3⟩ := abcd_at w h3 h4 (H.set n (bx ds (a + 1 + 1)))
    refine ⟨.reg r, a + 1 + 1, hr, ?_⟩
    rw [show 0 + 1 + k = k + 1 from by omega, m__law_tree]
    simp [defF_run, b__law_tree, e1, e2, e3, encTree]
  | succ d ih =>
    intro k a H hr
    have hn : n < H.length := (List.getElem?_eq_some_iff.mp hr).1
    have hs : ∀ o, (H.set n o)[n]? = some o := fun o => by rw [List.getElem?_set_self hn]
    obtain ⟨v, h1, h2, e1⟩ := draw_run ds a n H 9 (by omega) hr
    have hd : ¬ ((d : Int) + 1 = 0) := by omega
    have hd1 : (d : Int) + 1 - 1 = d := by omega
    rw [show d + 1 + 1 + k = (d + 1 + k) + 1 from by omega]
    by_cases hv : v < 2
    · obtain ⟨w, h3, h4, e2⟩ := draw_run ds (a + 1) n (H.set n (bx ds (a + 1))) 4 (by omega) (hs _)
      rw [List.set_set] at e2
      obtain ⟨r, hr, e3⟩ := abcd_at w h3 h4 (H.set n (bx ds (a + 1 + 1)))
      refine ⟨.reg r, a + 1 + 1, hr, ?_⟩
      rw [m__law_tree]
      simp [defF_run, b__law_tree, e1, e2, e3, encTree, hv, hd]
    · obtain ⟨t1, a1, g1, f1⟩ := ih k (a + 1) (H.set n (bx ds (a + 1))) (hs _)
      rw [List.set_set] at f1
      by_cases hv2 : v = 2
      · subst hv2
        obtain ⟨w, h3, h4, e2⟩ := draw_run ds (a + 1) n (H.set n (bx ds (a + 1))) 6 (by omega) (hs _)
        rw [List.set_set] at e2
        have : ∃ x : Int, x ∈ ([0, 1, 2, 9, 10, 99] : List Int) ∧ atI [D.int 0, .int 1, .int 2, .int 9, .int 10, .int 99] w = some (.int x) := by
          obtain rfl | rfl | rfl | rfl | rfl | rfl : w = 0 ∨ w = 1 ∨ w = 2 ∨ w = 3 ∨ w = 4 ∨ w = 5 := by omega
          all_goals exact ⟨_, by decide, rfl⟩
        obtain ⟨x, hx, e3⟩ := this
        refine ⟨.num x, a + 1 + 1, hx, ?_⟩
        rw [m__law_tree]
        simp [defF_run, b__law_tree, e1, e2, e3, encTree, hd]
      · by_cases hv3 : v = 3
        · subst hv3
          refine ⟨.ng t1, a1, g1, ?_⟩
          rw [m__law_tree]
          simp [defF_run, b__law_tree, e1, hd1, f1, encTree, hd]
        · by_cases hv4 : v = 4
          · subst hv4
            refine ⟨.nt t1, a1, g1, ?_⟩
            rw [m__law_tree]
            simp [defF_run, b__law_tree, e1, hd1, f1, encTree, hd]
          · obtain ⟨w, h3, h4, e2⟩ := draw_run ds (a + 1) n (H.set n (bx ds (a + 1))) 8 (by omega) (hs _)
            rw [List.set_set] at e2
            obtain ⟨t2, a2, g2, f2⟩ := ih k (a + 1 + 1) (H.set n (bx ds (a + 1 + 1))) (hs _)
            obtain ⟨t3, a3, g3, f3⟩ := ih k a2 (H.set n (bx ds a2)) (hs _)
            rw [List.set_set] at f2 f3
            have : ∃ x : Str, x ∈ (["+", "-", "*", "=", "<", "and", "or"] : List Str) ∧ atI [D.str "+", .str "-", .str "*", .str "=", .str "<", .str "and", .str "or", .str "+"] w = some (.str x) := by
              obtain rfl | rfl | rfl | rfl | rfl | rfl | rfl | rfl : w = 0 ∨ w = 1 ∨ w = 2 ∨ w = 3 ∨ w = 4 ∨ w = 5 ∨ w = 6 ∨ w = 7 := by omega
              all_goals exact ⟨_, by decide, rfl⟩
            obtain ⟨x, hx, e3⟩ := this
            refine ⟨.op x t2 t3, a3, ⟨hx, g2, g3⟩, ?_⟩
            rw [m__law_tree]
            simp [defF_run, b__law_tree, e1, e2, e3, hd1, f2, f3, encTree, hd, hv, hv2, hv3, hv4]
/-- tokens, plainly -/
def digC : List Nat := [48, 49, 50, 51, 52, 53, 54, 55, 56, 57]
def letC : List Nat := [97, 98, 99, 100, 101, 102, 103, 104, 105, 106, 107, 108, 109, 110, 111, 112, 113, 114, 115, 116, 117, 118, 119, 120, 121, 122]
def sigC : List Nat := [43, 45, 42, 61, 60, 40, 41]
theorem lit_dig : ("0123456789" : Str) = T digC := by decide +kernel
theorem lit_let : ("abcdefghijklmnopqrstuvwxyz" : Str) = T letC := by decide +kernel
theorem lit_sig : ("+-*=<()" : Str) = T sigC := by decide +kernel
theorem lit_sp : (" " : Str) = T [32] := by decide +kernel
theorem lit_0 : ("0" : Str) = T [48] := by decide +kernel
/-! reading expressions, purely -/
abbrev Tk := Str × Str
def encTk (t : Tk) : D := .tup [.str t.1, .str t.2]
def tClo : Tk := (("sign" : Str), (")" : Str))
def tOpn : Tk := (("sign" : Str), ("(" : Str))
def tSub : Tk := (("sign" : Str), ("-" : Str))
def tNot : Tk := (("word" : Str), ("not" : Str))
structure RS where
  rest : List Tk
  dep : Int
  bad : Bool
def rTake (s : RS) : Tk × RS := match s.rest with
  | [] => (("end", ""), ⟨[], s.dep, true⟩)
  | t :: r => (t, ⟨r, s.dep, s.bad⟩)
def opsL : Nat → List Str
  | 0 => ["or"]
  | 1 => ["and"]
  | 2 => ["=", "<"]
  | 3 => ["+", "-"]
  | _ => ["*"]
def sees (l : Nat) (r : List Tk) : Bool := match r with
  | [] => false
  | t :: _ => decide (t.2 ∈ opsL l)
def lpR (rd : RS → Tree × RS) (l : Nat) : Nat → Tree → RS → Tree × RS
  | 0, t, s => (t, s)
  | k + 1, t, s => if s.bad = false ∧ sees l s.rest = true then
      (if l = 2 then (.op (rTake s).1.2 t (rd (rTake s).2).1, (rd (rTake s).2).2)
       else lpR rd l k (.op (rTake s).1.2 t (rd (rTake s).2).1) (rd (rTake s).2).2)
    else (t, s)
inductive Md where
  | gr | fc | lv (l : Nat)
def valT (x : Str) : Int := (intText? x).getD 0
def rdF : Nat → Md → RS → Tree × RS
  | 0, _, s => (.num 0, s)
  | n + 1, .gr, s => if 5 < s.dep + 1 then (.num 0, ⟨s.rest, s.dep + 1, true⟩) else
      ((rdF n (.lv 0) ⟨s.rest, s.dep + 1, s.bad⟩).1,
       if (rTake (rdF n (.lv 0) ⟨s.rest, s.dep + 1, s.bad⟩).2).1 = tClo
       then ⟨(rTake (rdF n (.lv 0) ⟨s.rest, s.dep + 1, s.bad⟩).2).2.rest, (rTake (rdF n (.lv 0) ⟨s.rest, s.dep + 1, s.bad⟩).2).2.dep - 1, (rTake (rdF n (.lv 0) ⟨s.rest, s.dep + 1, s.bad⟩).2).2.bad⟩
       else ⟨(rTake (rdF n (.lv 0) ⟨s.rest, s.dep + 1, s.bad⟩).2).2.rest, (rTake (rdF n (.lv 0) ⟨s.rest, s.dep + 1, s.bad⟩).2).2.dep - 1, true⟩)
  | n + 1, .fc, s => if s.bad = true then (.num 0, s) else
      if (rTake s).1 = tSub then (.ng (rdF n .fc (rTake s).2).1, (rdF n .fc (rTake s).2).2)
      else if (rTake s).1 = tNot then (.nt (rdF n .fc (rTake s).2).1, (rdF n .fc (rTake s).2).2)
      else if (rTake s).1.1 = "number" then (.num (valT (rTake s).1.2), (rTake s).2)
      else if (rTake s).1.1 = "word" ∧ (rTake s).1.2 ∈ (["a", "b", "c", "d"] : List Str) then (.reg (rTake s).1.2, (rTake s).2)
      else if (rTake s).1 = tOpn then rdF n .gr (rTake s).2
      else (.num 0, ⟨(rTake s).2.rest, (rTake s).2.dep, true⟩)
  | n + 1, .lv l, s => if l = 5 then rdF n .fc s else
      lpR (rdF n (.lv (l + 1))) l (rdF n (.lv (l + 1)) s).2.rest.length (rdF n (.lv (l + 1)) s).1 (rdF n (.lv (l + 1)) s).2
theorem rTake_len (s : RS) : (rTake s).2.rest.length ≤ s.rest.length := by
  unfold rTake
  split <;> rename_i e <;> simp [e]
theorem rTake_lt {s : RS} {l : Nat} (h : sees l s.rest = true) : (rTake s).2.rest.length + 1 = s.rest.length := by
  unfold rTake
  unfold sees at h
  split <;> rename_i e
  · rw [e] at h; simp at h
  · rw [e]; simp
theorem lpR_len {rd : RS → Tree × RS} (h : ∀ s, (rd s).2.rest.length ≤ s.rest.length) (l : Nat) : ∀ k t s, (lpR rd l k t s).2.rest.length ≤ s.rest.length
  | 0, t, s => Nat.le_refl _
  | k + 1, t, s => by
    unfold lpR
    have h1 := h (rTake s).2
    have h2 := rTake_len s
    split
    · split
      · simp only; omega
      · have := lpR_len h l k (.op (rTake s).1.2 t (rd (rTake s).2).1) (rd (rTake s).2).2
        omega
    · exact Nat.le_refl _
theorem rdF_len : ∀ n m s, (rdF n m s).2.rest.length ≤ s.rest.length
  | 0, _, _ => by unfold rdF; exact Nat.le_refl _
  | n + 1, .gr, s => by
    have h1 := rdF_len n (.lv 0) ⟨s.rest, s.dep + 1, s.bad⟩
    have h2 := rTake_len (rdF n (.lv 0) ⟨s.rest, s.dep + 1, s.bad⟩).2
    unfold rdF
    split
    · exact Nat.le_refl _
    · simp only at h1 ⊢
      split <;> simp only <;> omega
  | n + 1, .fc, s => by
    have h1 := rdF_len n .fc (rTake s).2
    have h2 := rdF_len n .gr (rTake s).2
    have h3 := rTake_len s
    unfold rdF
    repeat' split
    all_goals try simp only
    all_goals omega
  | n + 1, .lv l, s => by
    unfold rdF
    split
    · exact rdF_len n .fc s
    · have h1 := rdF_len n (.lv (l + 1)) s
      have h2 := lpR_len (rdF_len n (.lv (l + 1))) l (rdF n (.lv (l + 1)) s).2.rest.length (rdF n (.lv (l + 1)) s).1 (rdF n (.lv (l + 1)) s).2
      omega
def need : Md → Nat → Nat
  | .gr, L => 8 * L + 8
  | .fc, L => 8 * L + 1
  | .lv l, L => 8 * L + 7 - l
theorem n_gr (L : Nat) : need .gr L = 8 * L + 8 := rfl
theorem n_fc (L : Nat) : need .fc L = 8 * L + 1 := rfl
theorem n_lv (l L : Nat) : need (.lv l) L = 8 * L + 7 - l := rfl
theorem lpR_congr {rd rd' : RS → Tree × RS} (l L : Nat) (hl : ∀ s, (rd s).2.rest.length ≤ s.rest.length) (h : ∀ s : RS, s.rest.length < L → rd s = rd' s) :
    ∀ k k' t s, s.rest.length ≤ L → s.rest.length ≤ k → s.rest.length ≤ k' → lpR rd l k t s = lpR rd' l k' t s
  | 0, 0, t, s, _, _, _ => rfl
  | 0, k' + 1, t, s, _, hk, _ => by
    have : s.rest = [] := List.eq_nil_of_length_eq_zero (by omega)
    unfold lpR
    simp [sees, this]
  | k + 1, 0, t, s, _, _, hk => by
    have : s.rest = [] := List.eq_nil_of_length_eq_zero (by omega)
    unfold lpR
    simp [sees, this]
  | k + 1, k' + 1, t, s, hL, hk, hk' => by
    unfold lpR
    split
    · rename_i hs
      have h1 := rTake_lt hs.2
      have h2 := h (rTake s).2 (by omega)
      have h3 := hl (rTake s).2
      rw [← h2]
      split
      · rfl
      · exact lpR_congr l L hl h k k' _ _ (by omega) (by omega) (by omega)
    · rfl
theorem rTake_lt2 {s : RS} (h : (rTake s).1.1 ≠ "end") : (rTake s).2.rest.length + 1 = s.rest.length := by
  unfold rTake at h ⊢
  split <;> rename_i e <;> rw [e] at h
  · exact absurd rfl h
  · rw [e]; simp
theorem rdF_fuel : ∀ n n' m s, (∀ l, m = .lv l → l ≤ 5) → need m s.rest.length ≤ n → need m s.rest.length ≤ n' → rdF n m s = rdF n' m s
  | 0, _, m, s, hm, h, _ => by
    exfalso
    cases m with
    | lv l => have := hm l rfl; simp only [n_gr, n_fc, n_lv] at h; omega
    | _ => simp only [n_gr, n_fc, n_lv] at h; omega
  | _ + 1, 0, m, s, hm, _, h => by
    exfalso
    cases m with
    | lv l => have := hm l rfl; simp only [n_gr, n_fc, n_lv] at h; omega
    | _ => simp only [n_gr, n_fc, n_lv] at h; omega
  | n + 1, n' + 1, .gr, s, hm, h, h' => by
    simp only [n_gr, n_fc, n_lv] at h h'
    have e := rdF_fuel n n' (.lv 0) ⟨s.rest, s.dep + 1, s.bad⟩ (by intro l hl; cases hl; omega) (by simp only [n_gr, n_fc, n_lv] at *; omega) (by simp only [n_gr, n_fc, n_lv] at *; omega)
    unfold rdF
    rw [e]
  | n + 1, n' + 1, .fc, s, hm, h, h' => by
    simp only [n_gr, n_fc, n_lv] at h h'
    unfold rdF
    by_cases g : (rTake s).1.1 = "end"
    · have a1 : ¬ (rTake s).1 = tSub := fun z => by rw [z] at g; exact absurd g (by decide)
      have a2 : ¬ (rTake s).1 = tNot := fun z => by rw [z] at g; exact absurd g (by decide)
      have a3 : ¬ (rTake s).1 = tOpn := fun z => by rw [z] at g; exact absurd g (by decide)
      rw [if_neg a1, if_neg a2, if_neg a3, if_neg a1, if_neg a2, if_neg a3]
    · have g1 := rTake_lt2 g
      have e1 := rdF_fuel n n' .fc (rTake s).2 (by intro l hl; cases hl) (by simp only [n_gr, n_fc, n_lv] at *; omega) (by simp only [n_gr, n_fc, n_lv] at *; omega)
      have e2 := rdF_fuel n n' .gr (rTake s).2 (by intro l hl; cases hl) (by simp only [n_gr, n_fc, n_lv] at *; omega) (by simp only [n_gr, n_fc, n_lv] at *; omega)
      rw [e1, e2]
  | n + 1, n' + 1, .lv l, s, hm, h, h' => by
    have hl := hm l rfl
    simp only [n_gr, n_fc, n_lv] at h h'
    unfold rdF
    split
    · exact rdF_fuel n n' .fc s (by intro l hl; cases hl) (by simp only [n_gr, n_fc, n_lv] at *; omega) (by simp only [n_gr, n_fc, n_lv] at *; omega)
    · have e := rdF_fuel n n' (.lv (l + 1)) s (by intro l hl; cases hl; omega) (by simp only [n_gr, n_fc, n_lv] at *; omega) (by simp only [n_gr, n_fc, n_lv] at *; omega)
      rw [← e]
      have h1 := rdF_len n (.lv (l + 1)) s
      exact lpR_congr l s.rest.length (rdF_len n _) (fun s' hs => rdF_fuel n n' (.lv (l + 1)) s' (by intro l hl; cases hl; omega) (by simp only [n_gr, n_fc, n_lv] at *; omega) (by simp only [n_gr, n_fc, n_lv] at *; omega)) _ _ _ _ h1 (Nat.le_refl _) (Nat.le_refl _)
/-- without fuel -/
@[irreducible] def rd (m : Md) (s : RS) : Tree × RS := rdF (need m s.rest.length) m s
theorem rd_def (m : Md) (s : RS) : rd m s = rdF (need m s.rest.length) m s := by unfold rd; rfl
theorem rd_fuel {n : Nat} {m : Md} {s : RS} (hm : ∀ l, m = .lv l → l ≤ 5) (h : need m s.rest.length ≤ n) : rdF n m s = rd m s := (rdF_fuel _ _ _ _ hm h (Nat.le_refl _)).trans (rd_def m s).symm
theorem rd_len (m : Md) (s : RS) : (rd m s).2.rest.length ≤ s.rest.length := by rw [rd_def]; exact rdF_len _ _ _
theorem rd_lv {l : Nat} (hl : l < 5) (s : RS) : rd (.lv l) s = lpR (rd (.lv (l + 1))) l (rd (.lv (l + 1)) s).2.rest.length (rd (.lv (l + 1)) s).1 (rd (.lv (l + 1)) s).2 := by
  have h1 : rd (.lv l) s = rdF (8 * s.rest.length + 6 - l + 1) (.lv l) s := (rd_fuel (by intro l hl; cases hl; omega) (by simp only [n_gr, n_fc, n_lv] at *; omega)).symm
  rw [h1]
  unfold rdF
  rw [if_neg (by omega)]
  have e : rdF (8 * s.rest.length + 6 - l) (.lv (l + 1)) s = rd (.lv (l + 1)) s := rd_fuel (by intro l hl; cases hl; omega) (by simp only [n_gr, n_fc, n_lv] at *; omega)
  rw [e]
  exact lpR_congr l s.rest.length (rdF_len _ _) (fun s' hs => rd_fuel (by intro l hl; cases hl; omega) (by simp only [n_gr, n_fc, n_lv] at *; omega)) _ _ _ _ (rd_len _ _) (Nat.le_refl _) (Nat.le_refl _)
theorem rd_lv5 (s : RS) : rd (.lv 5) s = rd .fc s := by
  have h1 : rd (.lv 5) s = rdF (8 * s.rest.length + 1 + 1) (.lv 5) s := (rd_fuel (by intro l hl; cases hl; omega) (by simp only [n_gr, n_fc, n_lv] at *; omega)).symm
  rw [h1]
  unfold rdF
  rw [if_pos rfl]
  exact rd_fuel (by intro l hl; cases hl) (by simp only [n_gr, n_fc, n_lv] at *; omega)
theorem rd_gr (s : RS) : rd .gr s = if 5 < s.dep + 1 then (.num 0, ⟨s.rest, s.dep + 1, true⟩) else
      ((rd (.lv 0) ⟨s.rest, s.dep + 1, s.bad⟩).1,
       if (rTake (rd (.lv 0) ⟨s.rest, s.dep + 1, s.bad⟩).2).1 = tClo
       then ⟨(rTake (rd (.lv 0) ⟨s.rest, s.dep + 1, s.bad⟩).2).2.rest, (rTake (rd (.lv 0) ⟨s.rest, s.dep + 1, s.bad⟩).2).2.dep - 1, (rTake (rd (.lv 0) ⟨s.rest, s.dep + 1, s.bad⟩).2).2.bad⟩
       else ⟨(rTake (rd (.lv 0) ⟨s.rest, s.dep + 1, s.bad⟩).2).2.rest, (rTake (rd (.lv 0) ⟨s.rest, s.dep + 1, s.bad⟩).2).2.dep - 1, true⟩) := by
  have h1 : rd .gr s = rdF (8 * s.rest.length + 7 + 1) .gr s := rd_def _ _
  rw [h1]
  unfold rdF
  have e : rdF (8 * s.rest.length + 7) (.lv 0) ⟨s.rest, s.dep + 1, s.bad⟩ = rd (.lv 0) ⟨s.rest, s.dep + 1, s.bad⟩ := rd_fuel (by intro l hl; cases hl; omega) (by simp only [n_gr, n_fc, n_lv] at *; omega)
  rw [e]
theorem rd_fc {k x : Str} {r : List Tk} {d : Int} : rd .fc ⟨(k, x) :: r, d, false⟩ =
      if (k, x) = tSub then (.ng (rd .fc ⟨r, d, false⟩).1, (rd .fc ⟨r, d, false⟩).2)
      else if (k, x) = tNot then (.nt (rd .fc ⟨r, d, false⟩).1, (rd .fc ⟨r, d, false⟩).2)
      else if k = "number" then (.num (valT x), ⟨r, d, false⟩)
      else if k = "word" ∧ x ∈ (["a", "b", "c", "d"] : List Str) then (.reg x, ⟨r, d, false⟩)
      else if (k, x) = tOpn then rd .gr ⟨r, d, false⟩
      else (.num 0, ⟨r, d, true⟩) := by
  have h1 : rd .fc ⟨(k, x) :: r, d, false⟩ = rdF (8 * (r.length + 1) + 1) .fc ⟨(k, x) :: r, d, false⟩ := rd_def _ _
  rw [h1]
  unfold rdF
  have e1 : rdF (8 * (r.length + 1)) .fc ⟨r, d, false⟩ = rd .fc ⟨r, d, false⟩ := rd_fuel (by intro l hl; cases hl) (by simp only [n_gr, n_fc, n_lv] at *; omega)
  have e2 : rdF (8 * (r.length + 1)) .gr ⟨r, d, false⟩ = rd .gr ⟨r, d, false⟩ := rd_fuel (by intro l hl; cases hl) (by simp only [n_gr, n_fc, n_lv] at *; omega)
  simp only [rTake, e1, e2, Bool.false_eq_true, if_false]
theorem rd_fc_bad {r : List Tk} {d : Int} : rd .fc ⟨r, d, true⟩ = (.num 0, ⟨r, d, true⟩) := by
  have h1 : rd .fc ⟨r, d, true⟩ = rdF (8 * r.length + 1) .fc ⟨r, d, true⟩ := rd_def _ _
  rw [h1]
  unfold rdF
  simp only [if_true]
theorem rd_fc_nil {d : Int} : rd .fc ⟨[], d, false⟩ = (.num 0, ⟨[], d, true⟩) := by
  have h1 : rd .fc ⟨[], d, false⟩ = rdF (8 * 0 + 1) .fc ⟨[], d, false⟩ := rd_def _ _
  rw [h1]
  unfold rdF
  generalize eu : rTake ⟨[], d, false⟩ = u
  have e1 : u.1 = (("end" : Str), ("" : Str)) := by rw [← eu]; rfl
  have e2 : u.2 = ⟨[], d, true⟩ := by rw [← eu]; rfl
  rw [e1, e2, if_neg Bool.false_ne_true, if_neg (by decide), if_neg (by decide), if_neg (by decide), if_neg (by decide), if_neg (by decide)]
/-! the reader as an object -/
def rdO (ts : List Tk) (a d : Int) (b : Bool) : O := .ins "Reader" [("parts", .lst (ts.map encTk)), ("at", .int a), ("depth", .int d), ("failed", .bl b)]
def RHp (h : Hh) (ts : List Tk) (a d : Int) (b : Bool) : Hh := h ++ [rdO ts a d b]
section
variable {h HH : Hh} {ts : List Tk} {a d y : Int} {b c : Bool} {n : Nat} {gf : List D → Hh → Res D} {l : List D}
@[simp] theorem r_parts : k_fldO "Reader" "parts" HH (some (rdO ts a d b)) = .ok (.lst (ts.map encTk)) HH := k_fldO_of rfl
@[simp] theorem r_at : k_fldO "Reader" "at" HH (some (rdO ts a d b)) = .ok (.int a) HH := k_fldO_of rfl
@[simp] theorem r_depth : k_fldO "Reader" "depth" HH (some (rdO ts a d b)) = .ok (.int d) HH := k_fldO_of rfl
@[simp] theorem r_failed : k_fldO "Reader" "failed" HH (some (rdO ts a d b)) = .ok (.bl b) HH := k_fldO_of rfl
@[simp] theorem t_at : k_sfO "Reader" "at" n (.int y) HH (some (rdO ts a d b)) = some (HH.set n (rdO ts y d b)) := k_sfO_of (by simp)
@[simp] theorem t_depth : k_sfO "Reader" "depth" n (.int y) HH (some (rdO ts a d b)) = some (HH.set n (rdO ts a y b)) := k_sfO_of (by simp)
@[simp] theorem t_failed : k_sfO "Reader" "failed" n (.bl c) HH (some (rdO ts a d b)) = some (HH.set n (rdO ts a d c)) := k_sfO_of (by simp)
@[simp] theorem q_take : k_mthO "Reader" "take" gf n (.ok l HH) (some (rdO ts a d b)) = gf (.ref n :: l) HH := k_mthO_of rfl
@[simp] theorem q_sees : k_mthO "Reader" "sees" gf n (.ok l HH) (some (rdO ts a d b)) = gf (.ref n :: l) HH := k_mthO_of rfl
@[simp] theorem q_level : k_mthO "Reader" "level" gf n (.ok l HH) (some (rdO ts a d b)) = gf (.ref n :: l) HH := k_mthO_of rfl
@[simp] theorem q_factor : k_mthO "Reader" "factor" gf n (.ok l HH) (some (rdO ts a d b)) = gf (.ref n :: l) HH := k_mthO_of rfl
@[simp] theorem q_group : k_mthO "Reader" "group" gf n (.ok l HH) (some (rdO ts a d b)) = gf (.ref n :: l) HH := k_mthO_of rfl
@[simp] theorem RHp_at : (RHp h ts a d b)[h.length]? = some (rdO ts a d b) := by unfold RHp; simp
@[simp] theorem RHp_set {o : O} : List.set (RHp h ts a d b) h.length o = h ++ [o] := by unfold RHp; simp
theorem RHp_mk : h ++ [rdO ts a d b] = RHp h ts a d b := rfl
end
def At (ts : List Tk) (a : Int) (r : List Tk) : Prop := ∃ pre, ts = pre ++ r ∧ a = (pre.length : Int)
theorem At.cons {ts : List Tk} {a : Int} {t : Tk} {r : List Tk} (h : At ts a (t :: r)) : At ts (a + 1) r := by
  obtain ⟨pre, e, rfl⟩ := h
  exact ⟨pre ++ [t], by rw [e]; simp, by simp⟩
theorem At.lt {ts : List Tk} {a : Int} {t : Tk} {r : List Tk} (h : At ts a (t :: r)) : a < (ts.length : Int) := by
  obtain ⟨pre, e, rfl⟩ := h
  rw [e]; simp; omega
theorem At.nil {ts : List Tk} {a : Int} (h : At ts a []) : a = (ts.length : Int) := by
  obtain ⟨pre, e, rfl⟩ := h
  rw [e]; simp
theorem At.get {ts : List Tk} {a : Int} {t : Tk} {r : List Tk} (h : At ts a (t :: r)) : atI (ts.map encTk) a = some (encTk t) := by
  obtain ⟨pre, e, rfl⟩ := h
  rw [atI_natE, e]; simp
theorem rtake_run {ts : List Tk} {a : Int} {s : RS} (hA : At ts a s.rest) (h : Hh) : ∃ a', At ts a' (rTake s).2.rest ∧ m_Reader_take [.ref h.length] (RHp h ts a s.dep s.bad) = .ok (encTk (rTake s).1) (RHp h ts a' (rTake s).2.dep (rTake s).2.bad) := by
  obtain ⟨r, d, b⟩ := s
  cases r with
  | nil =>
    refine ⟨a, hA, ?_⟩
    have e := hA.nil
    simp [m_Reader_take, defF_run, b_Reader_take, rTake, encTk, e, RHp_mk]
  | cons t r =>
    have e1 := hA.lt
    have e2 := hA.get
    refine ⟨a + 1, hA.cons, ?_⟩
    have e3 : ¬ ((ts.length : Int) ≤ a) := by omega
    simp [m_Reader_take, defF_run, b_Reader_take, rTake, e2, e3, RHp_mk]
def levD (l : Nat) : D := .tup ((opsL l).map D.str)
theorem levels_at (l : Nat) (hl : l < 5) (h : Hh) : ixD c_LEVELS (.int l) h = .ok (levD l) h := by
  obtain rfl | rfl | rfl | rfl | rfl : l = 0 ∨ l = 1 ∨ l = 2 ∨ l = 3 ∨ l = 4 := by omega
  all_goals rfl
theorem rsees_run {ts : List Tk} {a : Int} {r : List Tk} {d : Int} {b : Bool} (hA : At ts a r) (l : Nat) (h : Hh) : m_Reader_sees [.ref h.length, levD l] (RHp h ts a d b) = .ok (.bl (sees l r)) (RHp h ts a d b) := by
  cases r with
  | nil =>
    have e := hA.nil
    simp [m_Reader_sees, defF_run, b_Reader_sees, sees, e]
  | cons t r =>
    have e1 := hA.lt
    have e2 := hA.get
    simp [m_Reader_sees, defF_run, b_Reader_sees, sees, e1, e2, encTk, levD]
noncomputable def callM (n : Nat) (m : Md) (i : Nat) (H : Hh) : Res D := match m with
  | .gr => m_Reader_group n [.ref i] H
  | .fc => m_Reader_factor n [.ref i] H
  | .lv l => m_Reader_level n [.ref i, .int l] H
theorem encTk1 (t : Tk) (h : Hh) : ixD (encTk t) (.int 1) h = .ok (.str t.2) h := by simp [encTk]
theorem rloop_run {ts : List Tk} {n L l : Nat} (hl : l < 5) (h : Hh) (G F : List D → Hh → Res D)
    (ih : ∀ s a, s.rest.length < L → At ts a s.rest → ∃ a', At ts a' (rdF n (.lv (l + 1)) s).2.rest ∧ m_Reader_level n [.ref h.length, .int ((l : Int) + 1)] (RHp h ts a s.dep s.bad) = .ok (encTree (rdF n (.lv (l + 1)) s).1) (RHp h ts a' (rdF n (.lv (l + 1)) s).2.dep (rdF n (.lv (l + 1)) s).2.bad)) :
    ∀ k t s a v4, s.rest.length ≤ L → s.rest.length ≤ k → At ts a s.rest → ∃ a' w3 w4, At ts a' (lpR (rdF n (.lv (l + 1))) l k t s).2.rest ∧
      whileS (wt2_Reader_level G F (m_Reader_level n)) (x1_Reader_level G F (m_Reader_level n)) [some (.ref h.length), some (.int l), some (encTree t), some (.bl true), v4] (RHp h ts a s.dep s.bad) =
        .nx [some (.ref h.length), some (.int l), some (encTree (lpR (rdF n (.lv (l + 1))) l k t s).1), w3, w4] (RHp h ts a' (lpR (rdF n (.lv (l + 1))) l k t s).2.dep (lpR (rdF n (.lv (l + 1))) l k t s).2.bad) := by
  have stop : ∀ (t : Tree) (s : RS) (a : Int) (v4 : Option D), At ts a s.rest → ¬ (s.bad = false ∧ sees l s.rest = true) → whileS (wt2_Reader_level G F (m_Reader_level n)) (x1_Reader_level G F (m_Reader_level n)) [some (.ref h.length), some (.int l), some (encTree t), some (.bl true), v4] (RHp h ts a s.dep s.bad) =
        .nx [some (.ref h.length), some (.int l), some (encTree t), some (.bl true), v4] (RHp h ts a s.dep s.bad) := by
    intro t s a v4 hA hs
    have e1 := fun d b => rsees_run (d := d) (b := b) hA l h
    have e2 := fun h => levels_at l hl h
    have e3 : wt2_Reader_level G F (m_Reader_level n) [some (.ref h.length), some (.int l), some (encTree t), some (.bl true), v4] (RHp h ts a s.dep s.bad) = .ok false (RHp h ts a s.dep s.bad) := by
      cases hb : s.bad with
      | true => simp [wt2_Reader_level]
      | false =>
        have : sees l s.rest = false := by cases g : sees l s.rest with
          | true => exact absurd ⟨hb, g⟩ hs
          | false => rfl
        simp [wt2_Reader_level, e1, e2, this]
    rw [whileS_eq, e3, toS_ok, if_neg Bool.false_ne_true]
  intro k
  induction k with
  | zero =>
    intro t s a v4 _ hk hA
    refine ⟨a, _, _, hA, stop t s a v4 hA ?_⟩
    have : s.rest = [] := List.eq_nil_of_length_eq_zero (by omega)
    simp [this, sees]
  | succ k ihk =>
    intro t s a v4 hL hk hA
    unfold lpR
    by_cases hs : s.bad = false ∧ sees l s.rest = true
    · have e1 := fun d b => rsees_run (d := d) (b := b) hA l h
      have e2 := fun h => levels_at l hl h
      have e3 : wt2_Reader_level G F (m_Reader_level n) [some (.ref h.length), some (.int l), some (encTree t), some (.bl true), v4] (RHp h ts a s.dep s.bad) = .ok true (RHp h ts a s.dep s.bad) := by
        rw [hs.1]
        simp [wt2_Reader_level, e1, e2, hs.2]
      obtain ⟨a1, hA1, t1⟩ := rtake_run hA h
      have hlt := rTake_lt hs.2
      obtain ⟨a2, hA2, t2⟩ := ih (rTake s).2 a1 (by omega) hA1
      have hlen := rdF_len n (.lv (l + 1)) (rTake s).2
      rw [whileS_eq, e3, toS_ok, if_pos rfl, if_pos hs]
      have e5 : x1_Reader_level G F (m_Reader_level n) [some (.ref h.length), some (.int l), some (encTree t), some (.bl true), v4] (RHp h ts a s.dep s.bad) =
          .nx [some (.ref h.length), some (.int l), some (encTree (.op (rTake s).1.2 t (rdF n (.lv (l + 1)) (rTake s).2).1)), some (.bl (!decide (l = 2))), some (.str (rTake s).1.2)] (RHp h ts a2 (rdF n (.lv (l + 1)) (rTake s).2).2.dep (rdF n (.lv (l + 1)) (rTake s).2).2.bad) := by
        have e6 : ((l : Int) = 2) = (l = 2) := propext (by omega)
        simp [x1_Reader_level, t1, encTk1, t2, encTree, c_CLAIM, e6]
      rw [e5]
      simp only
      by_cases h2 : l = 2
      · rw [if_pos h2, decide_eq_true h2]
        refine ⟨a2, some (.bl (!true)), some (.str (rTake s).1.2), hA2, ?_⟩
        rw [whileS_eq]
        simp [wt2_Reader_level]
      · rw [if_neg h2, decide_eq_false h2]
        exact ihk _ _ a2 _ (by omega) (by omega) hA2
    · rw [if_neg hs]
      exact ⟨a, _, _, hA, stop t s a v4 hA hs⟩
def TkOk (t : Tk) : Prop := okD (.str t.1) = true ∧ okD (.str t.2) = true ∧ (t.1 = "number" → t.2.length ≤ 640 ∧ ∃ n, intText? t.2 = some n)
theorem tk_ne {u : Tk} (h1 : okD (.str u.1) = true) (h2 : okD (.str u.2) = true) (h : Hh) : neD (encTk u) (.tup [.str "sign", .str ")"]) h = .ok (.bl (!decide (u = tClo))) h := by
  obtain ⟨k, x⟩ := u
  have c1 : CmpOk (encTk (k, x)) := by
    refine ⟨?_, by simp [encTk, depD, depDs]⟩
    show (okD (.str k) && (okD (.str x) && true)) = true
    rw [h1, h2]; rfl
  have c2 : CmpOk (.tup [.str "sign", .str ")"]) := ⟨by decide +kernel, by decide +kernel⟩
  rw [neD_cmp c1 c2]
  simp [encTk, tClo, eqvD_str]
theorem rd_run {ts : List Tk} (hn : ∀ t ∈ ts, TkOk t) (h : Hh) : ∀ n (m : Md) (s : RS) (a : Int), (∀ l, m = .lv l → l ≤ 5) → need m s.rest.length ≤ n → At ts a s.rest →
    ∃ a', At ts a' (rdF n m s).2.rest ∧ callM n m h.length (RHp h ts a s.dep s.bad) = .ok (encTree (rdF n m s).1) (RHp h ts a' (rdF n m s).2.dep (rdF n m s).2.bad) := by
  intro n
  induction n with
  | zero =>
    intro m s a hm hq
    exfalso
    cases m with
    | lv l => have := hm l rfl; simp only [n_gr, n_fc, n_lv] at hq; omega
    | _ => simp only [n_gr, n_fc, n_lv] at hq; omega
  | succ n ih =>
    intro m s a hm hq hA
    cases m with
    | gr =>
      unfold rdF callM
      simp only
      by_cases h5 : 5 < s.dep + 1
      · rw [if_pos h5]
        refine ⟨a, hA, ?_⟩
        simp [m_Reader_group, defF_run, b_Reader_group, c_MOST_BRACKETS, h5, RHp_mk, encTree]
      · rw [if_neg h5]
        obtain ⟨a1, hA1, e1⟩ := ih (.lv 0) ⟨s.rest, s.dep + 1, s.bad⟩ a (by intro l hl; cases hl; omega) (by simp only [n_gr, n_fc, n_lv] at *; omega) hA
        simp only [callM] at e1
        replace e1 : m_Reader_level n [.ref h.length, .int 0] _ = _ := e1
        obtain ⟨a2, hA2, e2⟩ := rtake_run hA1 h
        have hmem : (rTake (rdF n (.lv 0) ⟨s.rest, s.dep + 1, s.bad⟩).2).1 = (("end" : Str), ("" : Str)) ∨ (rTake (rdF n (.lv 0) ⟨s.rest, s.dep + 1, s.bad⟩).2).1 ∈ ts := by
          obtain ⟨pre, e, _⟩ := hA1
          unfold rTake
          split <;> rename_i er
          · exact .inl rfl
          · right; rw [e, er]; simp
        generalize rTake (rdF n (.lv 0) ⟨s.rest, s.dep + 1, s.bad⟩).2 = u at *
        generalize rdF n (.lv 0) ⟨s.rest, s.dep + 1, s.bad⟩ = v at *
        have hk : okD (.str u.1.1) = true ∧ okD (.str u.1.2) = true := by
          rcases hmem with g | g
          · rw [g]; exact ⟨by decide +kernel, by decide +kernel⟩
          · exact ⟨(hn _ g).1, (hn _ g).2.1⟩
        have e3 := tk_ne hk.1 hk.2
        by_cases hu : u.1 = tClo
        · rw [if_pos hu]
          refine ⟨a2, hA2, ?_⟩
          have e4 : ∀ h, neD (encTk u.1) (.tup [.str "sign", .str ")"]) h = .ok (.bl false) h := fun h => by rw [e3 h, decide_eq_true hu]; rfl
          simp [m_Reader_group, defF_run, b_Reader_group, c_MOST_BRACKETS, h5, RHp_mk, e1, e2, e4]
        · rw [if_neg hu]
          refine ⟨a2, hA2, ?_⟩
          simp [m_Reader_group, defF_run, b_Reader_group, c_MOST_BRACKETS, h5, RHp_mk, e1, e2, e3, hu]
    | fc =>
      unfold rdF callM
      simp only
      by_cases hb : s.bad = true
      · rw [if_pos hb]
        refine ⟨a, hA, ?_⟩
        simp [m_Reader_factor, defF_run, b_Reader_factor, hb, encTree]
      · rw [if_neg hb]
        obtain ⟨a1, hA1, e1⟩ := rtake_run hA h
        have hb' : s.bad = false := by simpa using hb
        rw [hb'] at e1 ⊢
        by_cases c1 : (rTake s).1 = tSub
        · rw [if_pos c1]
          have g1 := rTake_lt2 (s := s) (by rw [c1]; decide)
          obtain ⟨a2, hA2, e2⟩ := ih .fc (rTake s).2 a1 (by intro l hl; cases hl) (by simp only [n_gr, n_fc, n_lv] at *; omega) hA1
          simp only [callM] at e2
          rw [c1] at e1
          refine ⟨a2, hA2, ?_⟩
          simp [m_Reader_factor, defF_run, b_Reader_factor, e1, tSub, encTk, e2, encTree]
        · rw [if_neg c1]
          by_cases c2 : (rTake s).1 = tNot
          · rw [if_pos c2]
            have g1 := rTake_lt2 (s := s) (by rw [c2]; decide)
            obtain ⟨a2, hA2, e2⟩ := ih .fc (rTake s).2 a1 (by intro l hl; cases hl) (by simp only [n_gr, n_fc, n_lv] at *; omega) hA1
            simp only [callM] at e2
            rw [c2] at e1
            refine ⟨a2, hA2, ?_⟩
            simp [m_Reader_factor, defF_run, b_Reader_factor, e1, tNot, encTk, e2, encTree]
          · rw [if_neg c2]
            have hmem : (rTake s).1.1 = "end" ∨ (rTake s).1 ∈ ts := by
              obtain ⟨pre, e, _⟩ := hA
              unfold rTake
              split <;> rename_i er
              · exact .inl rfl
              · right; rw [e, er]; simp
            have c1' : ¬ ((rTake s).1.1 = "sign" ∧ (rTake s).1.2 = "-") := fun z => c1 (Prod.ext z.1 z.2)
            have c2' : ¬ ((rTake s).1.1 = "word" ∧ (rTake s).1.2 = "not") := fun z => c2 (Prod.ext z.1 z.2)
            have g2 : (rTake s).1 = tOpn → (rTake s).2.rest.length + 1 = s.rest.length := fun z => rTake_lt2 (s := s) (by rw [z]; decide)
            generalize (rTake s).1 = u at *
            generalize (rTake s).2 = s2 at *
            obtain ⟨k, x⟩ := u
            simp only at *
            by_cases c3 : k = "number"
            · rw [if_pos c3]
              subst c3
              obtain ⟨z1, m, z2⟩ := (hn _ (hmem.resolve_left (by decide))).2.2 rfl
              refine ⟨a1, hA1, ?_⟩
              have e4 : ∀ h, Ev.intD [.str x] h = .ok (.int (valT x)) h := by
                intro h
                unfold Ev.intD valT
                simp only
                rw [if_pos z1, z2]
                rfl
              simp [m_Reader_factor, defF_run, b_Reader_factor, e1, encTk, e4, encTree]
            · rw [if_neg c3]
              by_cases c4 : k = "word" ∧ x ∈ (["a", "b", "c", "d"] : List Str)
              · rw [if_pos c4]
                obtain ⟨rfl, c4⟩ := c4
                refine ⟨a1, hA1, ?_⟩
                have e4 : ∀ h, inD (.str x) c_REGISTERS h = .ok (.bl true) h := by
                  intro h
                  have := inD_strsT ["a", "b", "c", "d"] x (h := h)
                  rw [decide_eq_true c4] at this
                  exact this
                have c2'' : ¬ x = "not" := fun z => c2' ⟨rfl, z⟩
                simp [m_Reader_factor, defF_run, b_Reader_factor, e1, encTk, e4, encTree, c2'']
              · rw [if_neg c4]
                have e4 : ∀ h, inD (.str x) c_REGISTERS h = .ok (.bl (decide (x ∈ (["a", "b", "c", "d"] : List Str)))) h := fun h => inD_strsT ["a", "b", "c", "d"] x (h := h)
                by_cases c5 : (k, x) = tOpn
                · rw [if_pos c5]
                  have g3 := g2 c5
                  obtain ⟨a2, hA2, e2⟩ := ih .gr s2 a1 (by intro l hl; cases hl) (by simp only [n_gr, n_fc, n_lv] at *; omega) hA1
                  simp only [callM] at e2
                  obtain ⟨rfl, rfl⟩ := Prod.mk.inj c5
                  refine ⟨a2, hA2, ?_⟩
                  simp [m_Reader_factor, defF_run, b_Reader_factor, e1, encTk, e2, encTree]
                · rw [if_neg c5]
                  refine ⟨a1, hA1, ?_⟩
                  have c5' : ¬ (k = "sign" ∧ x = "(") := fun z => c5 (Prod.ext z.1 z.2)
                  by_cases k1 : k = "sign"
                  · subst k1
                    simp at c1' c5'
                    simp [m_Reader_factor, defF_run, b_Reader_factor, e1, encTk, encTree, c1', c5', RHp_mk]
                  · by_cases k2 : k = "word"
                    · subst k2
                      simp only [true_and] at c4
                      simp only [decide_eq_false c4] at e4
                      simp at c2'
                      simp [m_Reader_factor, defF_run, b_Reader_factor, e1, encTk, encTree, c2', e4, RHp_mk]
                    · simp [m_Reader_factor, defF_run, b_Reader_factor, e1, encTk, encTree, k1, k2, c3, RHp_mk]
    | lv l =>
      have hl := hm l rfl
      unfold rdF callM
      simp only
      have el : ∀ h, lenD [c_LEVELS] h = .ok (.int 5) h := fun h => rfl
      by_cases h5 : l = 5
      · rw [if_pos h5]
        obtain ⟨a1, hA1, e1⟩ := ih .fc s a (by intro l hl; cases hl) (by simp only [n_gr, n_fc, n_lv] at *; omega) hA
        simp only [callM] at e1
        refine ⟨a1, hA1, ?_⟩
        subst h5
        simp [m_Reader_level, defF_run, b_Reader_level, el, e1]
      · rw [if_neg h5]
        have h5' : ¬ ((l : Int) = 5) := by omega
        obtain ⟨a1, hA1, e1⟩ := ih (.lv (l + 1)) s a (by intro l hl; cases hl; omega) (by simp only [n_gr, n_fc, n_lv] at *; omega) hA
        simp only [callM] at e1
        have ec : ((l + 1 : Nat) : Int) = (l : Int) + 1 := rfl
        rw [ec] at e1
        have hlen := rdF_len n (.lv (l + 1)) s
        obtain ⟨a2, w3, w4, hA2, e2⟩ := rloop_run (ts := ts) (n := n) (L := s.rest.length) (l := l) (by omega) h (m_Reader_group n) (m_Reader_factor n) (fun s' a' hs' hA' => by
          obtain ⟨a1, hA1, e1⟩ := ih (.lv (l + 1)) s' a' (by intro l hl; cases hl; omega) (by simp only [n_gr, n_fc, n_lv] at *; omega) hA'
          exact ⟨a1, hA1, e1⟩) (rdF n (.lv (l + 1)) s).2.rest.length (rdF n (.lv (l + 1)) s).1 (rdF n (.lv (l + 1)) s).2 a1 none hlen (Nat.le_refl _) hA1
        refine ⟨a2, hA2, ?_⟩
        simp [m_Reader_level, defF_run, b_Reader_level, el, h5', e1, e2]
def encOT : Option Tree → D
  | none => .non
  | some t => encTree t
def readP (ts : List Tk) : Option Tree := if 20 < ts.length then none else
  if (rd (.lv 0) ⟨ts, 0, false⟩).2.bad = true ∨ (rd (.lv 0) ⟨ts, 0, false⟩).2.rest ≠ [] then none else some (rd (.lv 0) ⟨ts, 0, false⟩).1
theorem k_sfO_insR (c f : Str) (n : Nat) (y : D) (h : Hh) (fs : List (Str × D)) : k_sfO c f n y h (some (.ins c fs)) = if fs.length < 1000 then some (h.set n (.ins c (putFD f y fs))) else none := by
  unfold k_sfO
  simp
theorem rinit_run (ts : List Tk) (h : Hh) : m_Reader___init__ [.ref h.length, .lst (ts.map encTk)] (h ++ [.ins "Reader" []]) = .ok .non (RHp h ts 0 0 false) := by
  unfold RHp rdO
  generalize List.map encTk ts = l
  simp [m_Reader___init__, defF_run, b_Reader___init__, k_sfO_insR, putFD]
theorem readx_run {ts : List Tk} (hn : ∀ t ∈ ts, TkOk t) (h : Hh) : m_read_expression [.lst (ts.map encTk)] h = .ok (encOT (readP ts)) h := by
  unfold m_read_expression
  by_cases h20 : 20 < ts.length
  · have h20' : (20 : Int) < ts.length := by omega
    have e : encOT (readP ts) = .non := by unfold readP; rw [if_pos h20]; rfl
    rw [e]
    refine cut_ok (g := []) ?_ rfl
    simp [defF_run, b_read_expression, c_MOST_TOKENS, h20']
  · have h20' : ¬ (20 : Int) < ts.length := by omega
    have hf : rdF 175 (.lv 0) ⟨ts, 0, false⟩ = rd (.lv 0) ⟨ts, 0, false⟩ := rd_fuel (by intro l hl; cases hl; omega) (by simp only [n_lv]; omega)
    obtain ⟨a, hA, e1⟩ := rd_run hn h 175 (.lv 0) ⟨ts, 0, false⟩ 0 (by intro l hl; cases hl; omega) (by simp only [n_lv]; omega) ⟨[], rfl, rfl⟩
    rw [hf] at hA e1
    replace e1 : m_Reader_level 175 [.ref h.length, .int 0] (RHp h ts 0 0 false) = _ := e1
    have e0 := rinit_run ts h
    unfold readP
    rw [if_neg h20]
    generalize rd (.lv 0) ⟨ts, 0, false⟩ = v at *
    obtain ⟨t, ⟨r, d, b⟩⟩ := v
    simp only at *
    have hb : ∀ n t, below n (encTree t) = true := by
      intro n t
      induction t with
      | num _ => rfl
      | reg _ => rfl
      | op s a b ha hb => simp [encTree, below, belows, ha, hb]
      | nt x hx => simp [encTree, below, belows, hx]
      | ng x hx => simp [encTree, below, belows, hx]
    cases b with
    | true =>
      rw [if_pos (.inl rfl)]
      refine cut_ok (g := [rdO ts a d true]) ?_ rfl
      simp [defF_run, b_read_expression, c_MOST_TOKENS, h20', e0, e1, RHp_mk, encOT]
    | false =>
      cases r with
      | nil =>
        have e2 := hA.nil
        rw [if_neg (by simp)]
        refine cut_ok (g := [rdO ts a d false]) ?_ (hb _ _)
        simp [defF_run, b_read_expression, c_MOST_TOKENS, h20', e0, e1, RHp_mk, encOT, e2]
      | cons u r =>
        have e2 := hA.lt
        rw [if_pos (.inr (by simp))]
        refine cut_ok (g := [rdO ts a d false]) ?_ rfl
        simp [defF_run, b_read_expression, c_MOST_TOKENS, h20', e0, e1, RHp_mk, encOT, e2]
/-! trees laid as tokens -/
def levS (s : Str) : Nat := if s = "or" then 0 else if s = "and" then 1 else if s = "=" ∨ s = "<" then 2 else if s = "*" then 4 else 3
def levT : Tree → Nat
  | .op s _ _ => levS s
  | _ => 5
def kdT (x : Str) : Str := if x ∈ (["a", "b", "c", "d", "not", "and", "or", "e", "if"] : List Str) then "word" else if x ∈ (["0", "1", "2", "9", "10", "99", "7"] : List Str) then "number" else "sign"
def InsF (P : List Str → Prop) (l : Nat) (t : Tree) (ts : List Str) : Prop := (∃ u, P u ∧ ts = ("(" : Str) :: (u ++ [(")" : Str)])) ∨ (l ≤ levT t ∧ P ts)
def numS (n : Int) : Str := toString n
def Laid : Tree → List Str → Prop
  | .num n, ts => ts = [numS n]
  | .reg r, ts => ts = [r]
  | .ng x, ts => ∃ u, InsF (Laid x) 5 x u ∧ ts = ("-" : Str) :: u
  | .nt x, ts => ∃ u, InsF (Laid x) 5 x u ∧ ts = ("not" : Str) :: u
  | .op s a b, ts => ∃ u v, InsF (Laid a) (levS s + if levS s = 2 then 1 else 0) a u ∧ InsF (Laid b) (levS s + 1) b v ∧ ts = u ++ s :: v
def nx (d : Int) (x : Str) : Int := d + (if x = "(" then 1 else 0) - (if x = ")" then 1 else 0)
def dpt (d : Int) (ts : List Str) : Int := ts.foldl nx d
def Fit : Int → List Str → Prop
  | _, [] => True
  | d, x :: l => nx d x ≤ 5 ∧ Fit (nx d x) l
def tkn (ts : List Str) : List Tk := ts.map fun x => (kdT x, x)
theorem tkn_app (a b : List Str) : tkn (a ++ b) = tkn a ++ tkn b := List.map_append
theorem tkn_cons (x : Str) (b : List Str) : tkn (x :: b) = (kdT x, x) :: tkn b := rfl
theorem tkn_len (ts : List Str) : (tkn ts).length = ts.length := List.length_map _
theorem dpt_app (d : Int) (a b : List Str) : dpt d (a ++ b) = dpt (dpt d a) b := List.foldl_append
theorem Fit_app : ∀ (d : Int) (a b : List Str), Fit d (a ++ b) ↔ Fit d a ∧ Fit (dpt d a) b
  | d, [], b => by simp [Fit, dpt]
  | d, x :: a, b => by
    have := Fit_app (nx d x) a b
    show (nx d x ≤ 5 ∧ Fit (nx d x) (a ++ b)) ↔ (nx d x ≤ 5 ∧ Fit (nx d x) a) ∧ Fit (dpt (nx d x) a) b
    rw [this]
    exact ⟨fun h => ⟨⟨h.1, h.2.1⟩, h.2.2⟩, fun h => ⟨h.1.1, h.1.2, h.2⟩⟩
def sevS : List Str := ["+", "-", "*", "=", "<", "and", "or"]
theorem sev_at : ∀ s ∈ sevS, levS s ≤ 4 ∧ s ∈ opsL (levS s) ∧ (∀ j, j ≤ 4 → j ≠ levS s → s ∉ opsL j) ∧ s ≠ "(" ∧ s ≠ ")" := by
  intro s hs
  have hj : ∀ s : Str, (s ∉ opsL 0 ∨ levS s = 0) ∧ (s ∉ opsL 1 ∨ levS s = 1) ∧ (s ∉ opsL 2 ∨ levS s = 2) ∧ (s ∉ opsL 3 ∨ levS s = 3) ∧ (s ∉ opsL 4 ∨ levS s = 4) → ∀ j, j ≤ 4 → j ≠ levS s → s ∉ opsL j := by
    rintro s ⟨h0, h1, h2, h3, h4⟩ j hj hn
    obtain rfl | rfl | rfl | rfl | rfl : j = 0 ∨ j = 1 ∨ j = 2 ∨ j = 3 ∨ j = 4 := by omega
    · exact h0.resolve_right fun z => hn z.symm
    · exact h1.resolve_right fun z => hn z.symm
    · exact h2.resolve_right fun z => hn z.symm
    · exact h3.resolve_right fun z => hn z.symm
    · exact h4.resolve_right fun z => hn z.symm
  have h7 : ∀ s ∈ sevS, levS s ≤ 4 ∧ s ∈ opsL (levS s) ∧ ((s ∉ opsL 0 ∨ levS s = 0) ∧ (s ∉ opsL 1 ∨ levS s = 1) ∧ (s ∉ opsL 2 ∨ levS s = 2) ∧ (s ∉ opsL 3 ∨ levS s = 3) ∧ (s ∉ opsL 4 ∨ levS s = 4)) ∧ s ≠ "(" ∧ s ≠ ")" := by decide +kernel
  obtain ⟨a, b, c, d⟩ := h7 s hs
  exact ⟨a, b, hj s c, d⟩
theorem num_at : ∀ n ∈ ([0, 1, 2, 9, 10, 99] : List Int), kdT (numS n) = "number" ∧ valT (numS n) = n ∧ numS n ≠ "(" ∧ numS n ≠ ")" ∧ okD (.str (numS n)) = true ∧ (numS n).length ≤ 640 ∧ (intText? (numS n)).isSome = true := by decide +kernel
theorem reg_at : ∀ r ∈ (["a", "b", "c", "d"] : List Str), kdT r = "word" ∧ r ≠ "(" ∧ r ≠ ")" ∧ r ≠ "not" ∧ okD (.str r) = true := by decide +kernel
theorem nx_no {d : Int} {x : Str} (h1 : x ≠ "(") (h2 : x ≠ ")") : nx d x = d := by unfold nx; rw [if_neg h1, if_neg h2]; omega
theorem nx_open (d : Int) : nx d "(" = d + 1 := by unfold nx; rw [if_pos rfl, if_neg (by decide)]; omega
theorem nx_close (d : Int) : nx d ")" = d - 1 := by unfold nx; rw [if_neg (by decide), if_pos rfl]; omega
theorem dpt_ins {t : Tree} {P : List Str → Prop} (h : ∀ u d, P u → dpt d u = d) {l : Nat} {ts : List Str} (d : Int) (hi : InsF P l t ts) : dpt d ts = d := by
  rcases hi with ⟨u, hu, rfl⟩ | ⟨_, hu⟩
  · show dpt (nx d "(") (u ++ [(")" : Str)]) = d
    rw [dpt_app, h u _ hu]
    show nx (nx d "(") ")" = d
    rw [nx_open, nx_close]; omega
  · exact h _ d hu
theorem dpt_laid : ∀ (t : Tree) (n : Nat) (ts : List Str) (d : Int), TOk n t → Laid t ts → dpt d ts = d
  | .num m, n, ts, d, ht, h => by
    have hm : m ∈ ([0, 1, 2, 9, 10, 99] : List Int) := by cases n <;> exact ht
    obtain ⟨_, _, a, b, _⟩ := num_at m hm
    unfold Laid at h
    subst h
    exact nx_no a b
  | .reg r, n, ts, d, ht, h => by
    have hr : r ∈ (["a", "b", "c", "d"] : List Str) := by cases n <;> exact ht
    obtain ⟨_, a, b, _⟩ := reg_at r hr
    unfold Laid at h
    subst h
    exact nx_no a b
  | .ng x, n + 1, ts, d, ht, h => by
    unfold Laid at h
    obtain ⟨u, hu, rfl⟩ := h
    show dpt (nx d "-") u = d
    rw [nx_no (by decide) (by decide)]
    exact dpt_ins (fun u d h => dpt_laid x n u d ht h) d hu
  | .nt x, n + 1, ts, d, ht, h => by
    unfold Laid at h
    obtain ⟨u, hu, rfl⟩ := h
    show dpt (nx d "not") u = d
    rw [nx_no (by decide) (by decide)]
    exact dpt_ins (fun u d h => dpt_laid x n u d ht h) d hu
  | .op s a b, n + 1, ts, d, ht, h => by
    unfold Laid at h
    obtain ⟨u, v, hu, hv, rfl⟩ := h
    obtain ⟨hs, ha, hb⟩ := ht
    obtain ⟨_, _, _, c1, c2⟩ := sev_at s hs
    rw [dpt_app, dpt_ins (fun u d h => dpt_laid a n u d ha h) d hu]
    show dpt (nx d s) v = d
    rw [nx_no c1 c2]
    exact dpt_ins (fun u d h => dpt_laid b n u d hb h) d hv
/-! reading them -/
def stops (l : Nat) (r : List Tk) : Prop := ∀ j, l ≤ j → j ≤ 4 → sees j r = false
theorem stops.mono {l l' : Nat} {r : List Tk} (h : stops l r) (hl : l ≤ l') : stops l' r := fun j h1 h2 => h j (by omega) h2
theorem lpR_stop {f : RS → Tree × RS} {l : Nat} {t : Tree} {s : RS} (h : s.bad = true ∨ sees l s.rest = false) : ∀ k, lpR f l k t s = (t, s)
  | 0 => rfl
  | k + 1 => by
    unfold lpR
    rw [if_neg]
    rintro ⟨h1, h2⟩
    rcases h with h | h
    · rw [h] at h1; cases h1
    · rw [h] at h2; cases h2
theorem lpR_one {f : RS → Tree × RS} {l k : Nat} {t b : Tree} {y : Str} {kd : Str} {X : List Tk} {d : Int} {s' : RS} (h : sees l ((kd, y) :: X) = true) (h2 : l ≠ 2) (e : f ⟨X, d, false⟩ = (b, s')) :
    lpR f l (k + 1) t ⟨(kd, y) :: X, d, false⟩ = lpR f l k (.op y t b) s' := by
  conv => lhs; unfold lpR
  rw [if_pos ⟨rfl, h⟩, if_neg h2]
  show lpR f l k (.op y t (f ⟨X, d, false⟩).1) (f ⟨X, d, false⟩).2 = _
  rw [e]
theorem lpR_two {f : RS → Tree × RS} {l k : Nat} {t b : Tree} {y : Str} {kd : Str} {X : List Tk} {d : Int} {s' : RS} (h : sees l ((kd, y) :: X) = true) (h2 : l = 2) (e : f ⟨X, d, false⟩ = (b, s')) :
    lpR f l (k + 1) t ⟨(kd, y) :: X, d, false⟩ = (.op y t b, s') := by
  conv => lhs; unfold lpR
  rw [if_pos ⟨rfl, h⟩, if_pos h2]
  show (Tree.op y t (f ⟨X, d, false⟩).1, (f ⟨X, d, false⟩).2) = _
  rw [e]
theorem lpR_more (l : Nat) (m : Md) {t : Tree} {s : RS} {k k' : Nat} (h1 : s.rest.length ≤ k) (h2 : s.rest.length ≤ k') : lpR (rd m) l k t s = lpR (rd m) l k' t s :=
  lpR_congr l s.rest.length (rd_len m) (fun _ _ => rfl) k k' t s (Nat.le_refl _) h1 h2
theorem rd_up {t : Tree} {s s' : RS} : ∀ (k l : Nat), l + k ≤ 5 → rd (.lv (l + k)) s = (t, s') → stops l s'.rest → rd (.lv l) s = (t, s')
  | 0, _, _, h, _ => h
  | k + 1, l, hl, h, hs => by
    have e := rd_up k (l + 1) (by omega) (by rw [show l + 1 + k = l + (k + 1) from by omega]; exact h) (hs.mono (by omega))
    rw [rd_lv (by omega), e]
    exact lpR_stop (.inr (hs l (Nat.le_refl _) (by omega))) _
theorem rd_to {t : Tree} {s s' : RS} {l l' : Nat} (h1 : l ≤ l') (h2 : l' ≤ 5) (h : rd (.lv l') s = (t, s')) (hs : stops l s'.rest) : rd (.lv l) s = (t, s') :=
  rd_up (l' - l) l (by omega) (by rw [show l + (l' - l) = l' from by omega]; exact h) hs
theorem bad_up {s : RS} : ∀ (k l : Nat), l + k ≤ 5 → (rd (.lv (l + k)) s).2.bad = true → (rd (.lv l) s).2.bad = true
  | 0, _, _, h => h
  | k + 1, l, hl, h => by
    have e := bad_up k (l + 1) (by omega) (by rw [show l + 1 + k = l + (k + 1) from by omega]; exact h)
    rw [rd_lv (by omega), lpR_stop (.inl e)]
    exact e
theorem bad_to {s : RS} {l l' : Nat} (h1 : l ≤ l') (h2 : l' ≤ 5) (h : (rd (.lv l') s).2.bad = true) : (rd (.lv l) s).2.bad = true :=
  bad_up (l' - l) l (by omega) (by rw [show l + (l' - l) = l' from by omega]; exact h)
theorem rd_open {r : List Tk} {d : Int} : rd (.lv 5) ⟨(kdT "(", "(") :: r, d, false⟩ = rd .gr ⟨r, d, false⟩ := by
  rw [rd_lv5, rd_fc, if_neg (by decide), if_neg (by decide), if_neg (by decide), if_neg (by decide), if_pos (by decide)]
theorem rd_gr_ok {s : RS} {t : Tree} {r : List Tk} {d : Int} {b : Bool} (h5 : ¬ 5 < s.dep + 1) (h : rd (.lv 0) ⟨s.rest, s.dep + 1, s.bad⟩ = (t, ⟨tClo :: r, d, b⟩)) : rd .gr s = (t, ⟨r, d - 1, b⟩) := by
  rw [rd_gr, if_neg h5]
  generalize rd _ _ = v at h ⊢
  subst h
  simp [rTake]
theorem stops_close (l : Nat) (r : List Tk) : stops l (tClo :: r) := by
  intro j _ hj
  obtain rfl | rfl | rfl | rfl | rfl : j = 0 ∨ j = 1 ∨ j = 2 ∨ j = 3 ∨ j = 4 := by omega
  · exact decide_eq_false (p := (")" : Str) ∈ opsL 0) (by decide +kernel)
  · exact decide_eq_false (p := (")" : Str) ∈ opsL 1) (by decide +kernel)
  · exact decide_eq_false (p := (")" : Str) ∈ opsL 2) (by decide +kernel)
  · exact decide_eq_false (p := (")" : Str) ∈ opsL 3) (by decide +kernel)
  · exact decide_eq_false (p := (")" : Str) ∈ opsL 4) (by decide +kernel)
/-- what a tree's tokens give -/
def ReadsT (t : Tree) : Prop := ∀ n ts d r, TOk n t → Laid t ts → Fit d ts →
  (∀ l, l ≤ levT t → stops l r → rd (.lv l) ⟨tkn ts ++ r, d, false⟩ = (t, ⟨r, d, false⟩)) ∧
  (levT t ≤ 4 → levT t ≠ 2 → stops (levT t + 1) r → rd (.lv (levT t)) ⟨tkn ts ++ r, d, false⟩ = lpR (rd (.lv (levT t + 1))) (levT t) r.length t ⟨r, d, false⟩)
theorem ins_reads {t : Tree} (h : ReadsT t) {n : Nat} {ts : List Str} {d : Int} {r : List Tk} (ht : TOk n t) {l : Nat} (hi : InsF (Laid t) l t ts) (hf : Fit d ts) (hl : l ≤ 5) (hs : stops l r) :
    rd (.lv l) ⟨tkn ts ++ r, d, false⟩ = (t, ⟨r, d, false⟩) := by
  rcases hi with ⟨u, hu, rfl⟩ | ⟨hl, hu⟩
  · refine rd_to hl (Nat.le_refl _) ?_ hs
    obtain ⟨f1, f2⟩ := hf
    rw [nx_open] at f1 f2
    have f3 := ((Fit_app _ _ _).mp f2).1
    have e := (h n u (d + 1) (tClo :: r) ht hu f3).1 0 (Nat.zero_le _) (stops_close _ _)
    have e2 : tkn (u ++ [(")" : Str)]) ++ r = tkn u ++ tClo :: r := by
      rw [tkn_app, List.append_assoc]
      have : kdT ")" = "sign" := by decide +kernel
      show _ ++ ((kdT ")", (")" : Str)) :: ([] ++ r)) = _
      rw [this]; rfl
    rw [tkn_cons, List.cons_append, rd_open, e2, rd_gr_ok (by simp only; omega) e, show d + 1 - 1 = d from by omega]
  · exact (h n ts d r ht hu hf).1 l hl hs
theorem ins_loop {t : Tree} (h : ReadsT t) {n : Nat} {ts : List Str} {d : Int} {r : List Tk} (ht : TOk n t) {l : Nat} (hi : InsF (Laid t) l t ts) (hf : Fit d ts) (hl : l ≤ 4) (hl2 : l ≠ 2) (hs : stops (l + 1) r) :
    rd (.lv l) ⟨tkn ts ++ r, d, false⟩ = lpR (rd (.lv (l + 1))) l r.length t ⟨r, d, false⟩ := by
  have key : InsF (Laid t) (l + 1) t ts → rd (.lv l) ⟨tkn ts ++ r, d, false⟩ = lpR (rd (.lv (l + 1))) l r.length t ⟨r, d, false⟩ := by
    intro hi
    rw [rd_lv (by omega), ins_reads h ht hi hf (by omega) hs]
  rcases hi with hu | ⟨hl', hu⟩
  · exact key (.inl hu)
  · by_cases g : l + 1 ≤ levT t
    · exact key (.inr ⟨g, hu⟩)
    · have : l = levT t := by omega
      subst this
      exact (h n ts d r ht hu hf).2 hl hl2 hs
theorem reads_leaf {t : Tree} (h5 : levT t = 5) (h : ∀ n ts d r, TOk n t → Laid t ts → Fit d ts → rd (.lv 5) ⟨tkn ts ++ r, d, false⟩ = (t, ⟨r, d, false⟩)) : ReadsT t := by
  intro n ts d r ht hL hf
  refine ⟨fun l hl hs => rd_to (by omega) (Nat.le_refl _) (h n ts d r ht hL hf) hs, fun h4 => ?_⟩
  omega
theorem sees_op {s : Str} (hs : s ∈ sevS) (k : Str) (X : List Tk) : sees (levS s) ((k, s) :: X) = true ∧ stops (levS s + 1) ((k, s) :: X) := by
  obtain ⟨_, a, b, _⟩ := sev_at s hs
  exact ⟨decide_eq_true a, fun j h1 h2 => decide_eq_false (b j h2 (by omega))⟩
theorem reads_all : ∀ t, ReadsT t
  | .num m => by
    refine reads_leaf rfl ?_
    intro n ts d r ht h hf
    have hm : m ∈ ([0, 1, 2, 9, 10, 99] : List Int) := by cases n <;> exact ht
    obtain ⟨a, b, _⟩ := num_at m hm
    unfold Laid at h
    subst h
    rw [tkn_cons, a]
    show rd (.lv 5) ⟨("number", numS m) :: r, d, false⟩ = _
    rw [rd_lv5, rd_fc, if_neg (fun z => absurd (Prod.mk.inj z).1 (by decide)), if_neg (fun z => absurd (Prod.mk.inj z).1 (by decide)), if_pos rfl, b]
  | .reg x => by
    refine reads_leaf rfl ?_
    intro n ts d r ht h hf
    have hr : x ∈ (["a", "b", "c", "d"] : List Str) := by cases n <;> exact ht
    obtain ⟨a, _, _, b, _⟩ := reg_at x hr
    unfold Laid at h
    subst h
    rw [tkn_cons, a]
    show rd (.lv 5) ⟨("word", x) :: r, d, false⟩ = _
    rw [rd_lv5, rd_fc, if_neg (fun z => absurd (Prod.mk.inj z).1 (by decide)), if_neg (show ¬ ((("word" : Str), x) : Tk) = tNot from fun z => absurd (Prod.mk.inj z).2 b), if_neg (by decide), if_pos ⟨rfl, hr⟩]
  | .ng x => by
    refine reads_leaf rfl ?_
    intro n ts d r ht h hf
    cases n with
    | zero => exact ht.elim
    | succ n =>
      unfold Laid at h
      obtain ⟨u, hu, rfl⟩ := h
      have f1 := hf.2
      rw [nx_no (by decide) (by decide)] at f1
      have e := ins_reads (reads_all x) (r := r) ht hu f1 (Nat.le_refl _) (fun j h1 h2 => by omega)
      rw [rd_lv5] at e
      rw [tkn_cons, List.cons_append, rd_lv5, rd_fc, if_pos (by decide), e]
  | .nt x => by
    refine reads_leaf rfl ?_
    intro n ts d r ht h hf
    cases n with
    | zero => exact ht.elim
    | succ n =>
      unfold Laid at h
      obtain ⟨u, hu, rfl⟩ := h
      have f1 := hf.2
      rw [nx_no (by decide) (by decide)] at f1
      have e := ins_reads (reads_all x) (r := r) ht hu f1 (Nat.le_refl _) (fun j h1 h2 => by omega)
      rw [rd_lv5] at e
      rw [tkn_cons, List.cons_append, rd_lv5, rd_fc, if_neg (by decide), if_pos (by decide), e]
  | .op s a b => by
    intro n ts d r ht h hf
    cases n with
    | zero => exact ht.elim
    | succ n =>
      obtain ⟨hs, ha, hb⟩ := ht
      unfold Laid at h
      obtain ⟨u, v, hu, hv, rfl⟩ := h
      obtain ⟨h4, _, _, c1, c2⟩ := sev_at s hs
      have f1 := (Fit_app _ _ _).mp hf
      rw [dpt_ins (fun u d h => dpt_laid a n u d ha h) d hu] at f1
      obtain ⟨f1, _, f2⟩ := f1
      rw [nx_no c1 c2] at f2
      have eS : tkn (u ++ s :: v) ++ r = tkn u ++ ((kdT s, s) :: (tkn v ++ r)) := by rw [tkn_app, tkn_cons, List.append_assoc]; rfl
      rw [eS]
      obtain ⟨s1, s2⟩ := sees_op hs (kdT s) (tkn v ++ r)
      have eT : levT (.op s a b) = levS s := rfl
      rw [eT]
      have second : levS s ≠ 2 → stops (levS s + 1) r → rd (.lv (levS s)) ⟨tkn u ++ (kdT s, s) :: (tkn v ++ r), d, false⟩ = lpR (rd (.lv (levS s + 1))) (levS s) r.length (.op s a b) ⟨r, d, false⟩ := by
        intro n2 hst
        rw [if_neg n2, Nat.add_zero] at hu
        have e1 := ins_loop (reads_all a) (r := (kdT s, s) :: (tkn v ++ r)) ha hu f1 h4 n2 s2
        have e2 := ins_reads (reads_all b) (r := r) hb hv f2 (by omega) hst
        rw [e1]
        show lpR _ _ ((tkn v ++ r).length + 1) _ _ = _
        rw [lpR_one s1 n2 e2]
        exact lpR_more (s := ⟨r, d, false⟩) _ _ (by show r.length ≤ (tkn v ++ r).length; rw [List.length_append]; omega) (Nat.le_refl _)
      refine ⟨fun l hl hst => ?_, fun _ n2 hst => second n2 hst⟩
      refine rd_to hl (by omega) ?_ hst
      have hst1 := hst.mono (show l ≤ levS s + 1 by omega)
      by_cases n2 : levS s = 2
      · rw [if_pos n2] at hu
        have e1 := ins_reads (reads_all a) (r := (kdT s, s) :: (tkn v ++ r)) ha hu f1 (by omega) s2
        have e2 := ins_reads (reads_all b) (r := r) hb hv f2 (by omega) hst1
        rw [rd_lv (by omega), e1]
        show lpR _ _ ((tkn v ++ r).length + 1) _ _ = _
        exact lpR_two s1 n2 e2
      · rw [second n2 hst1]
        exact lpR_stop (.inr (hst _ hl h4)) _
/-! brackets more than 5 deep -/
theorem rTake_bad {s : RS} (h : s.bad = true) : (rTake s).2.bad = true := by
  unfold rTake
  split
  · rfl
  · exact h
theorem rd_gr_bad {s : RS} (h : 5 < s.dep + 1 ∨ (rd (.lv 0) ⟨s.rest, s.dep + 1, s.bad⟩).2.bad = true) : (rd .gr s).2.bad = true := by
  rw [rd_gr]
  by_cases h5 : 5 < s.dep + 1
  · rw [if_pos h5]
  · rw [if_neg h5]
    have h' := h.resolve_left h5
    generalize rd _ _ = v at h' ⊢
    have h2 := rTake_bad h'
    by_cases g : (rTake v.2).1 = tClo
    · simp [g, h2]
    · simp [g]
def FailsT (t : Tree) : Prop := ∀ n ts d r, TOk n t → Laid t ts → ¬ Fit d ts → d ≤ 5 → ∀ l, l ≤ levT t → (rd (.lv l) ⟨tkn ts ++ r, d, false⟩).2.bad = true
theorem tkn_close (u : List Str) (r : List Tk) : tkn (u ++ [(")" : Str)]) ++ r = tkn u ++ tClo :: r := by
  rw [tkn_app, List.append_assoc]
  have : kdT ")" = "sign" := by decide +kernel
  show _ ++ ((kdT ")", (")" : Str)) :: ([] ++ r)) = _
  rw [this]; rfl
theorem ins_fails {t : Tree} (h : FailsT t) {n : Nat} {ts : List Str} {d : Int} {r : List Tk} (ht : TOk n t) {l : Nat} (hi : InsF (Laid t) l t ts) (hf : ¬ Fit d ts) (hd : d ≤ 5) (hl : l ≤ 5) :
    (rd (.lv l) ⟨tkn ts ++ r, d, false⟩).2.bad = true := by
  rcases hi with ⟨u, hu, rfl⟩ | ⟨hl, hu⟩
  · refine bad_to hl (Nat.le_refl _) ?_
    rw [tkn_cons, List.cons_append, rd_open, tkn_close]
    refine rd_gr_bad ?_
    by_cases h5 : 5 < d + 1
    · exact .inl h5
    · right
      refine h n u (d + 1) _ ht hu (fun hF => hf ?_) (by omega) 0 (Nat.zero_le _)
      show nx d "(" ≤ 5 ∧ Fit (nx d "(") (u ++ [(")" : Str)])
      rw [nx_open, Fit_app, dpt_laid t n u _ ht hu]
      refine ⟨by omega, hF, ?_, trivial⟩
      rw [nx_close]; omega
  · exact h n ts d r ht hu hf hd l hl
theorem fails_leaf {t : Tree} (h5 : levT t = 5) (h : ∀ n ts d r, TOk n t → Laid t ts → ¬ Fit d ts → d ≤ 5 → (rd (.lv 5) ⟨tkn ts ++ r, d, false⟩).2.bad = true) : FailsT t := by
  intro n ts d r ht hL hf hd l hl
  exact bad_to (by omega) (Nat.le_refl _) (h n ts d r ht hL hf hd)
theorem fails_all : ∀ t, FailsT t
  | .num m => by
    refine fails_leaf rfl ?_
    intro n ts d r ht h hf hd
    have hm : m ∈ ([0, 1, 2, 9, 10, 99] : List Int) := by cases n <;> exact ht
    obtain ⟨_, _, a, b, _⟩ := num_at m hm
    unfold Laid at h
    subst h
    refine absurd ⟨?_, trivial⟩ hf
    rw [nx_no a b]; exact hd
  | .reg x => by
    refine fails_leaf rfl ?_
    intro n ts d r ht h hf hd
    have hr : x ∈ (["a", "b", "c", "d"] : List Str) := by cases n <;> exact ht
    obtain ⟨_, a, b, _⟩ := reg_at x hr
    unfold Laid at h
    subst h
    refine absurd ⟨?_, trivial⟩ hf
    rw [nx_no a b]; exact hd
  | .ng x => by
    refine fails_leaf rfl ?_
    intro n ts d r ht h hf hd
    cases n with
    | zero => exact ht.elim
    | succ n =>
      unfold Laid at h
      obtain ⟨u, hu, rfl⟩ := h
      have f1 : ¬ Fit d u := fun g => hf (by
        show nx d "-" ≤ 5 ∧ Fit (nx d "-") u
        rw [nx_no (by decide) (by decide)]; exact ⟨hd, g⟩)
      have e := ins_fails (fails_all x) (r := r) ht hu f1 hd (Nat.le_refl _)
      rw [rd_lv5] at e
      rw [tkn_cons, List.cons_append, rd_lv5, rd_fc, if_pos (by decide)]
      exact e
  | .nt x => by
    refine fails_leaf rfl ?_
    intro n ts d r ht h hf hd
    cases n with
    | zero => exact ht.elim
    | succ n =>
      unfold Laid at h
      obtain ⟨u, hu, rfl⟩ := h
      have f1 : ¬ Fit d u := fun g => hf (by
        show nx d "not" ≤ 5 ∧ Fit (nx d "not") u
        rw [nx_no (by decide) (by decide)]; exact ⟨hd, g⟩)
      have e := ins_fails (fails_all x) (r := r) ht hu f1 hd (Nat.le_refl _)
      rw [rd_lv5] at e
      rw [tkn_cons, List.cons_append, rd_lv5, rd_fc, if_neg (by decide), if_pos (by decide)]
      exact e
  | .op s a b => by
    intro n ts d r ht h hf hd
    cases n with
    | zero => exact ht.elim
    | succ n =>
      obtain ⟨hs, ha, hb⟩ := ht
      unfold Laid at h
      obtain ⟨u, v, hu, hv, rfl⟩ := h
      obtain ⟨h4, _, _, c1, c2⟩ := sev_at s hs
      have eS : tkn (u ++ s :: v) ++ r = tkn u ++ ((kdT s, s) :: (tkn v ++ r)) := by rw [tkn_app, tkn_cons, List.append_assoc]; rfl
      rw [eS]
      obtain ⟨s1, s2⟩ := sees_op hs (kdT s) (tkn v ++ r)
      have eT : levT (.op s a b) = levS s := rfl
      rw [eT]
      have key : (rd (.lv (levS s)) ⟨tkn u ++ ((kdT s, s) :: (tkn v ++ r)), d, false⟩).2.bad = true := by
        by_cases f1 : Fit d u
        · have f2 : ¬ Fit d v := fun g => hf (by
            rw [Fit_app, dpt_ins (fun u d h => dpt_laid a n u d ha h) d hu]
            refine ⟨f1, ?_, ?_⟩
            · rw [nx_no c1 c2]; exact hd
            · rw [nx_no c1 c2]; exact g)
          have e2 := ins_fails (fails_all b) (r := r) hb hv f2 hd (by omega)
          obtain ⟨b', s', e3⟩ : ∃ b' s', rd (.lv (levS s + 1)) ⟨tkn v ++ r, d, false⟩ = (b', s') := ⟨_, _, rfl⟩
          rw [e3] at e2
          by_cases n2 : levS s = 2
          · rw [if_pos n2] at hu
            have e1 := ins_reads (reads_all a) (r := (kdT s, s) :: (tkn v ++ r)) ha hu f1 (by omega) s2
            rw [rd_lv (by omega), e1]
            show (lpR _ _ ((tkn v ++ r).length + 1) _ _).2.bad = true
            rw [lpR_two s1 n2 e3]
            exact e2
          · rw [if_neg n2, Nat.add_zero] at hu
            have e1 := ins_loop (reads_all a) (r := (kdT s, s) :: (tkn v ++ r)) ha hu f1 h4 n2 s2
            rw [e1]
            show (lpR _ _ ((tkn v ++ r).length + 1) _ _).2.bad = true
            rw [lpR_one s1 n2 e3, lpR_stop (.inl e2)]
            exact e2
        · by_cases n2 : levS s = 2
          · rw [if_pos n2] at hu
            exact bad_to (Nat.le_succ _) (by omega) (ins_fails (fails_all a) ha hu f1 hd (by omega))
          · rw [if_neg n2, Nat.add_zero] at hu
            exact ins_fails (fails_all a) ha hu f1 hd (by omega)
      intro l hl
      exact bad_to hl (by omega) key
theorem readP_long {ts : List Str} (h : 20 < ts.length) : readP (tkn ts) = none := by unfold readP; rw [if_pos (by rw [tkn_len]; exact h)]
theorem readP_deep {t : Tree} {n : Nat} {ts : List Str} (ht : TOk n t) (h : Laid t ts) (hf : ¬ Fit 0 ts) : readP (tkn ts) = none := by
  unfold readP
  split
  · rfl
  · have e := fails_all t n ts 0 [] ht h hf (by omega) 0 (Nat.zero_le _)
    rw [List.append_nil] at e
    rw [if_pos (.inl e)]
theorem readP_ok {t : Tree} {n : Nat} {ts : List Str} (ht : TOk n t) (h : Laid t ts) (hf : Fit 0 ts) (hl : ¬ 20 < ts.length) : readP (tkn ts) = some t := by
  unfold readP
  have e := (reads_all t n ts 0 [] ht h hf).1 0 (Nat.zero_le _) (fun j _ _ => rfl)
  rw [List.append_nil] at e
  rw [if_neg (by rw [tkn_len]; exact hl), e, if_neg (by simp)]
/-! the law's own: kinds of tokens, depth, level -/
def allX : List Str := sevS ++ (["0", "1", "2", "9", "10", "99", "a", "b", "c", "d", "not", "(", ")", "7", "e", "if"] : List Str)
def kdC (c : Nat) : Str := if c ∈ letC then "word" else if c ∈ digC then "number" else "sign"
def xOk (x : Str) : Bool := match x.cps.toList with
  | [] => false
  | c :: m => decide (kdT x = kdC c ∧ m.length ≤ 10 ∧ okD (.str x) = true ∧ (kdT x = "number" → x.length ≤ 640 ∧ (intText? x).isSome = true))
theorem allX_ok : ∀ x ∈ allX, xOk x = true := by decide +kernel
theorem eq_T (x : Str) : x = T x.cps.toList := by cases x; simp [T]
theorem allX_T {x : Str} (hx : x ∈ allX) : ∃ c m, x = T (c :: m) ∧ m.length ≤ 10 ∧ kdT x = kdC c := by
  have h := allX_ok x hx
  unfold xOk at h
  cases e : x.cps.toList with
  | nil => rw [e] at h; cases h
  | cons c m =>
    rw [e] at h
    have h' := of_decide_eq_true h
    exact ⟨c, m, by rw [← e]; exact eq_T x, h'.2.1, h'.1⟩
theorem allX_tk {x : Str} (hx : x ∈ allX) : TkOk (kdT x, x) := by
  have h := allX_ok x hx
  unfold xOk at h
  cases e : x.cps.toList with
  | nil => rw [e] at h; cases h
  | cons c m =>
    rw [e] at h
    have h' := of_decide_eq_true h
    refine ⟨?_, h'.2.2.1, fun hk => ?_⟩
    · show okD (.str (kdT x)) = true
      rw [h'.1]
      unfold kdC
      split
      · decide +kernel
      · split <;> decide +kernel
    · obtain ⟨a, b⟩ := h'.2.2.2 hk
      exact ⟨a, Option.isSome_iff_exists.mp b⟩
theorem lparts_run {ts : List Str} (hx : ∀ x ∈ ts, x ∈ allX) (hl : ts.length ≤ 1000) (h : Hh) : m__law_parts [.lst (ts.map D.str)] h = .ok (.lst ((tkn ts).map encTk)) h := by
  obtain ⟨ρ', h', e, ⟨w2, w3, rfl⟩, rfl⟩ := lp_map (x := x1__law_parts) (g := gNm 2) (f := D.str) (l := ts) (ρ := [some (.lst (ts.map D.str)), some (.ref h.length), none, none]) (h := h ++ [.lst []])
    (fun pre ρ h' => (∃ w2 w3, ρ = [some (.lst (ts.map D.str)), some (.ref h.length), w2, w3]) ∧ h' = h ++ [.lst ((tkn pre).map encTk)]) ⟨⟨none, none, rfl⟩, rfl⟩ (by
      rintro pre x post ρ h1 el ⟨⟨w2, w3, rfl⟩, rfl⟩
      have hxm : x ∈ ts := by rw [el]; simp
      have hpl : pre.length < ts.length := by rw [el]; simp
      have hps : (tkn pre).length < sizeLine := by rw [tkn_len, sizeLine_eq]; omega
      obtain ⟨c, m, ex, hm, ek⟩ := allX_T (hx x hxm)
      have e5 : ∀ h, ixD (.str x) (.int 0) h = .ok (.str (T [c])) h := fun h => by rw [ex]; exact ixD_T0 (by rw [sizeLine_eq]; simp at hm ⊢; omega) rfl
      rw [tkn_app, tkn_cons, ek]
      generalize tkn pre = L at *
      by_cases c1 : c ∈ letC
      · have hc : kdC c = "word" := if_pos c1
        rw [hc]
        by_cases c2 : c ∈ digC
        · simp [x1__law_parts, lit_dig, lit_let, e5, c1, c2, methE_run, guardR_pos, appendD, mlOf, lstOf, hps, encTk, tkn]
        · simp [x1__law_parts, lit_dig, lit_let, e5, c1, c2, methE_run, guardR_pos, appendD, mlOf, lstOf, hps, encTk, tkn]
      · by_cases c2 : c ∈ digC
        · have hc : kdC c = "number" := by unfold kdC; rw [if_neg c1, if_pos c2]
          rw [hc]
          simp [x1__law_parts, lit_dig, lit_let, e5, c1, c2, methE_run, guardR_pos, appendD, mlOf, lstOf, hps, encTk, tkn]
        · have hc : kdC c = "sign" := by unfold kdC; rw [if_neg c1, if_neg c2]
          rw [hc]
          simp [x1__law_parts, lit_dig, lit_let, e5, c1, c2, methE_run, guardR_pos, appendD, mlOf, lstOf, hps, encTk, tkn])
  unfold m__law_parts
  refine cut_lst (g := [.lst ((tkn ts).map encTk)]) (n := h.length) ?_ (Nat.le_refl _) (by simp) (belows_map _ _ _ fun _ _ => rfl)
  generalize List.map encTk (tkn ts) = L at *
  generalize List.map D.str ts = L2 at *
  simp [defF_run, b__law_parts, e]
def mostS : Int × Int → List Str → Int × Int := fun a ts => ts.foldl (fun a x => (nx a.1 x, if nx a.1 x > a.2 then nx a.1 x else a.2)) a
theorem most_fit : ∀ (ts : List Str) (d m : Int), (mostS (d, m) ts).2 ≤ 5 ↔ m ≤ 5 ∧ Fit d ts
  | [], d, m => by simp [mostS, Fit]
  | x :: ts, d, m => by
    have := most_fit ts (nx d x) (if nx d x > m then nx d x else m)
    show (mostS (nx d x, if nx d x > m then nx d x else m) ts).2 ≤ 5 ↔ m ≤ 5 ∧ nx d x ≤ 5 ∧ Fit (nx d x) ts
    rw [this]
    constructor
    · rintro ⟨a, b⟩
      split at a <;> exact ⟨by omega, by omega, b⟩
    · rintro ⟨a, b, c⟩
      exact ⟨by split <;> omega, c⟩
theorem ldepth_run (ts : List Str) (h : Hh) : m__law_depth [.lst (ts.map D.str)] h = .ok (.int (mostS (0, 0) ts).2) h := by
  obtain ⟨ρ', h', e, ⟨w3, rfl⟩, rfl⟩ := lp_map (x := x1__law_depth) (g := gNm 3) (f := D.str) (l := ts) (ρ := [some (.lst (ts.map D.str)), some (.int 0), some (.int 0), none]) (h := h)
    (fun pre ρ h' => (∃ w3, ρ = [some (.lst (ts.map D.str)), some (.int (mostS (0, 0) pre).1), some (.int (mostS (0, 0) pre).2), w3]) ∧ h = h') ⟨⟨none, rfl⟩, rfl⟩ (by
      rintro pre x post ρ h1 el ⟨⟨w3, rfl⟩, rfl⟩
      have ea : mostS (0, 0) (pre ++ [x]) = (nx (mostS (0, 0) pre).1 x, if nx (mostS (0, 0) pre).1 x > (mostS (0, 0) pre).2 then nx (mostS (0, 0) pre).1 x else (mostS (0, 0) pre).2) := List.foldl_append
      rw [ea]
      generalize mostS (0, 0) pre = p
      have em : ∀ (i j : Int) h, max2D [.int i, .int j] h = .ok (.int (if j > i then j else i)) h := fun _ _ _ => rfl
      simp [x1__law_depth, em, nx])
  simp [m__law_depth, defF_run, b__law_depth, e]
theorem in_or (s : Str) (h : Hh) : inD (.str s) (.lst [.str "or", .str "and"]) h = .ok (.bl (decide (s ∈ (["or", "and"] : List Str)))) h := inD_strs ["or", "and"] s
theorem in_eq (s : Str) (h : Hh) : inD (.str s) (.lst [.str "=", .str "<"]) h = .ok (.bl (decide (s ∈ (["=", "<"] : List Str)))) h := inD_strs ["=", "<"] s
theorem in_nr (s : Str) (h : Hh) : inD (.str s) (.lst [.str "num", .str "reg"]) h = .ok (.bl (decide (s ∈ (["num", "reg"] : List Str)))) h := inD_strs ["num", "reg"] s
theorem llevel_run {n : Nat} {t : Tree} (ht : TOk n t) (h : Hh) : m__law_level [encTree t] h = .ok (.int (levT t)) h := by
  cases t with
  | op s a b =>
    cases n with
    | zero => exact ht.elim
    | succ n =>
      have hs : s ∈ sevS := ht.1
      unfold encTree levT
      generalize encTree a = ta
      generalize encTree b = tb
      simp only [sevS, List.mem_cons, List.not_mem_nil, or_false] at hs
      rcases hs with rfl | rfl | rfl | rfl | rfl | rfl | rfl
      all_goals simp [m__law_level, defF_run, b__law_level, levS, in_or, in_eq]
  | _ => simp [m__law_level, defF_run, b__law_level, encTree, levT]
/-! texts of a tree, and how they are written -/
def cod (x : Str) : List Nat := x.cps.toList
theorem T_cod (x : Str) : T (cod x) = x := (eq_T x).symm
def arT (t : Tree) (ts : List Str) (l : Nat) : List Str := if levT t < l then ("(" : Str) :: (ts ++ [(")" : Str)]) else ts
def textsT : Tree → List Str
  | .num n => [numS n]
  | .reg r => [r]
  | .ng x => ("-" : Str) :: arT x (textsT x) 5
  | .nt x => ("not" : Str) :: arT x (textsT x) 5
  | .op s a b => arT a (textsT a) (levS s + if levS s = 2 then 1 else 0) ++ s :: arT b (textsT b) (levS s + 1)
theorem ins_ar {t : Tree} {ts : List Str} (h : Laid t ts) (l : Nat) : InsF (Laid t) l t (arT t ts l) := by
  unfold arT
  split
  · exact .inl ⟨ts, h, rfl⟩
  · exact .inr ⟨by omega, h⟩
theorem laid_texts : ∀ t, Laid t (textsT t)
  | .num _ => rfl
  | .reg _ => rfl
  | .ng x => ⟨_, ins_ar (laid_texts x) 5, rfl⟩
  | .nt x => ⟨_, ins_ar (laid_texts x) 5, rfl⟩
  | .op s a b => ⟨_, _, ins_ar (laid_texts a) _, ins_ar (laid_texts b) _, rfl⟩
theorem ar_x {t : Tree} {ts : List Str} (h : ∀ x ∈ ts, x ∈ allX) (l : Nat) : ∀ x ∈ arT t ts l, x ∈ allX := by
  unfold arT
  split
  · intro x hx
    rcases List.mem_cons.mp hx with rfl | hx
    · decide +kernel
    · rcases List.mem_append.mp hx with hx | hx
      · exact h x hx
      · rw [List.mem_singleton.mp hx]; decide +kernel
  · exact h
theorem texts_x : ∀ (t : Tree) (n : Nat), TOk n t → ∀ x ∈ textsT t, x ∈ allX
  | .num m, n, ht => by
    have hm : m ∈ ([0, 1, 2, 9, 10, 99] : List Int) := by cases n <;> exact ht
    have : ∀ m ∈ ([0, 1, 2, 9, 10, 99] : List Int), numS m ∈ allX := by decide +kernel
    intro x hx
    rw [List.mem_singleton.mp hx]
    exact this m hm
  | .reg m, n, ht => by
    have hm : m ∈ (["a", "b", "c", "d"] : List Str) := by cases n <;> exact ht
    have : ∀ m ∈ (["a", "b", "c", "d"] : List Str), m ∈ allX := by decide +kernel
    intro x hx
    rw [List.mem_singleton.mp hx]
    exact this m hm
  | .ng x, n + 1, ht => by
    intro y hy
    rcases List.mem_cons.mp hy with rfl | hy
    · decide +kernel
    · exact ar_x (texts_x x n ht) 5 y hy
  | .nt x, n + 1, ht => by
    intro y hy
    rcases List.mem_cons.mp hy with rfl | hy
    · decide +kernel
    · exact ar_x (texts_x x n ht) 5 y hy
  | .op s a b, n + 1, ht => by
    intro y hy
    rcases List.mem_append.mp hy with hy | hy
    · exact ar_x (texts_x a n ht.2.1) _ y hy
    · rcases List.mem_cons.mp hy with rfl | hy
      · exact List.mem_append_left _ ht.1
      · exact ar_x (texts_x b n ht.2.2) _ y hy
theorem ar_len (t : Tree) (ts : List Str) (l : Nat) : (arT t ts l).length ≤ ts.length + 2 := by
  unfold arT
  split <;> simp
theorem texts_len : ∀ (t : Tree) (n : Nat), TOk n t → (textsT t).length + 5 ≤ 6 * 2 ^ n
  | .num m, n, ht => by have h1 : 1 ≤ 2 ^ n := Nat.one_le_two_pow; show 1 + 5 ≤ _; omega
  | .reg m, n, ht => by have h1 : 1 ≤ 2 ^ n := Nat.one_le_two_pow; show 1 + 5 ≤ _; omega
  | .ng x, n + 1, ht => by
    have h1 : 1 ≤ 2 ^ n := Nat.one_le_two_pow
    have h3 : 2 ^ (n + 1) = 2 * 2 ^ n := by rw [Nat.pow_succ]; omega
    have := texts_len x n ht
    have h2 := ar_len x (textsT x) 5
    show (arT x (textsT x) 5).length + 1 + 5 ≤ _
    omega
  | .nt x, n + 1, ht => by
    have h1 : 1 ≤ 2 ^ n := Nat.one_le_two_pow
    have h3 : 2 ^ (n + 1) = 2 * 2 ^ n := by rw [Nat.pow_succ]; omega
    have := texts_len x n ht
    have h2 := ar_len x (textsT x) 5
    show (arT x (textsT x) 5).length + 1 + 5 ≤ _
    omega
  | .op s a b, n + 1, ht => by
    have h1 : 1 ≤ 2 ^ n := Nat.one_le_two_pow
    have h3 : 2 ^ (n + 1) = 2 * 2 ^ n := by rw [Nat.pow_succ]; omega
    have e1 := texts_len a n ht.2.1
    have e2 := texts_len b n ht.2.2
    have g1 := ar_len a (textsT a) (levS s + if levS s = 2 then 1 else 0)
    have g2 := ar_len b (textsT b) (levS s + 1)
    unfold textsT
    rw [List.length_append, List.length_cons]
    omega
/-! which tokens are an expression, by a stack -/
abbrev ASt := List Bool × Bool
def regS : List Str := ["a", "b", "c", "d"]
def aStep (st : ASt) (k : Tk) : Option ASt := if k.1 = "bad" then none else
  match st with
  | (σ, true) => if k.2 = "(" then some (false :: σ, true) else if k.1 = "number" ∨ k.2 ∈ regS then some (σ, false) else if k.2 = "-" ∨ k.2 = "not" then some (σ, true) else none
  | ([], false) => none
  | (c :: σ, false) => if k.2 = ")" then (if σ = [] then none else some (σ, false))
    else if k.2 = "=" ∨ k.2 = "<" then (if c = true then none else some (true :: σ, true))
    else if k.2 = "and" ∨ k.2 = "or" then some (false :: σ, true)
    else if k.2 = "+" ∨ k.2 = "-" ∨ k.2 = "*" then some (c :: σ, true) else none
def bStep (st : ASt) (k : Tk) : Option ASt := if k.2 = "(" ∧ st.2 = true ∧ 5 < st.1.length then none else aStep st k
def brun (f : ASt → Tk → Option ASt) : ASt → List Tk → Option ASt
  | st, [] => some st
  | st, k :: l => match f st k with
    | some st' => brun f st' l
    | none => none
def fin : Option ASt → Bool
  | some ([_], false) => true
  | _ => false
def bacc (st : ASt) (l : List Tk) : Bool := fin (brun bStep st l)
theorem brun_app (f : ASt → Tk → Option ASt) : ∀ (u v : List Tk) (st st' : ASt), brun f st u = some st' → brun f st (u ++ v) = brun f st' v
  | [], v, st, st', h => by cases h; rfl
  | k :: u, v, st, st', h => by
    unfold brun at h
    show brun f st (k :: (u ++ v)) = _
    conv => lhs; unfold brun
    cases e : f st k with
    | none => rw [e] at h; cases h
    | some s => rw [e] at h; exact brun_app f u v s st' h
theorem bacc_app {u v : List Tk} {st st' : ASt} (h : brun bStep st u = some st') : bacc st (u ++ v) = bacc st' v := by unfold bacc; rw [brun_app bStep u v st st' h]
theorem bacc_cons {st st' : ASt} {k : Tk} {l : List Tk} (h : bStep st k = some st') : bacc st (k :: l) = bacc st' l := by
  unfold bacc
  conv => lhs; unfold brun
  rw [h]
theorem bacc_none {st : ASt} {k : Tk} {l : List Tk} (h : bStep st k = none) : bacc st (k :: l) = false := by
  unfold bacc
  unfold brun
  rw [h]; rfl
theorem brun_cons {st st' : ASt} {k : Tk} {l : List Tk} (h : bStep st k = some st') : brun bStep st (k :: l) = brun bStep st' l := by
  conv => lhs; unfold brun
  rw [h]
/-- the tokens that are met -/
def tokS : List Tk := (allX.map fun x => (kdT x, x)) ++ ([("bad", ";")] : List Tk)
def okT (k : Tk) : Bool := decide ((k.2 = "(" → k = tOpn) ∧ (k.2 = ")" → k = tClo) ∧ (k.2 = "-" → k = tSub) ∧ (k.2 = "not" → k = tNot) ∧ (k.2 ∈ regS → k.1 = "word") ∧ (k.1 = "bad" → k.2 = ";") ∧
  (k.1 = "number" → k.2 ∉ regS ∧ k.2 ∉ sevS ∧ k.2 ≠ "(" ∧ k.2 ≠ ")" ∧ k.2 ≠ "not"))
theorem tokS_ok : ∀ k ∈ tokS, okT k = true := by decide +kernel
structure GTk (k : Tk) : Prop where
  opn : k.2 = "(" → k = tOpn
  clo : k.2 = ")" → k = tClo
  sub : k.2 = "-" → k = tSub
  nt : k.2 = "not" → k = tNot
  reg : k.2 ∈ regS → k.1 = "word"
  bad : k.1 = "bad" → k.2 = ";"
  num : k.1 = "number" → k.2 ∉ regS ∧ k.2 ∉ sevS ∧ k.2 ≠ "(" ∧ k.2 ≠ ")" ∧ k.2 ≠ "not"
theorem gtk_of {k : Tk} (h : k ∈ tokS) : GTk k := by
  have := tokS_ok k h
  unfold okT at this
  obtain ⟨a, b, c, d, e, f, g⟩ := of_decide_eq_true this
  exact ⟨a, b, c, d, e, f, g⟩
/-- where a level stops -/
def St (l : Nat) (c : Bool) (r : List Tk) : Prop := match r with
  | [] => True
  | k :: _ => ∀ j, l ≤ j → j ≤ 4 → k.2 ∈ opsL j → j = 2 ∧ c = true
theorem ops_cases (x : Str) : (x ∈ opsL 0 ↔ x = "or") ∧ (x ∈ opsL 1 ↔ x = "and") ∧ (x ∈ opsL 2 ↔ x = "=" ∨ x = "<") ∧ (x ∈ opsL 3 ↔ x = "+" ∨ x = "-") ∧ (x ∈ opsL 4 ↔ x = "*") := by
  simp [opsL]
theorem st_none {c : Bool} {k : Tk} {l : List Tk} {σ : List Bool} (h : St 0 c (k :: l)) (h1 : k.2 ≠ ")") : bStep (c :: σ, false) k = none := by
  have h' : ∀ j, j ≤ 4 → k.2 ∈ opsL j → j = 2 ∧ c = true := fun j hj => h j (Nat.zero_le _) hj
  obtain ⟨o0, o1, o2, o3, o4⟩ := ops_cases k.2
  have n0 : k.2 ≠ "or" := fun z => by have := h' 0 (by omega) (o0.mpr z); omega
  have n1 : k.2 ≠ "and" := fun z => by have := h' 1 (by omega) (o1.mpr z); omega
  have n3 : ¬ (k.2 = "+" ∨ k.2 = "-") := fun z => by have := h' 3 (by omega) (o3.mpr z); omega
  have n4 : k.2 ≠ "*" := fun z => by have := h' 4 (by omega) (o4.mpr z); omega
  unfold bStep
  rw [if_neg (by simp)]
  unfold aStep
  by_cases hb : k.1 = "bad"
  · rw [if_pos hb]
  · rw [if_neg hb]
    simp only
    rw [if_neg h1]
    by_cases he : k.2 = "=" ∨ k.2 = "<"
    · rw [if_pos he, if_pos (h' 2 (by omega) (o2.mpr he)).2]
    · rw [if_neg he, if_neg (by rintro (z | z); exact n1 z; exact n0 z), if_neg (by rintro (z | z | z); exact n3 (.inl z); exact n3 (.inr z); exact n4 z)]
theorem st_step {c : Bool} {k : Tk} {σ : List Bool} {l : Nat} (hg : GTk k) (hl : l ≤ 4) (hk : k.2 ∈ opsL l) : bStep (c :: σ, false) k = if l = 2 then (if c = true then none else some (true :: σ, true)) else if l ≤ 1 then some (false :: σ, true) else some (c :: σ, true) := by
  obtain ⟨o0, o1, o2, o3, o4⟩ := ops_cases k.2
  have hb : k.1 ≠ "bad" := by
    intro z
    have := hg.bad z
    rw [this] at hk
    obtain rfl | rfl | rfl | rfl | rfl : l = 0 ∨ l = 1 ∨ l = 2 ∨ l = 3 ∨ l = 4 := by omega
    all_goals exact absurd hk (by decide +kernel)
  unfold bStep
  rw [if_neg (by simp)]
  unfold aStep
  rw [if_neg hb]
  simp only
  obtain rfl | rfl | rfl | rfl | rfl : l = 0 ∨ l = 1 ∨ l = 2 ∨ l = 3 ∨ l = 4 := by omega
  · rw [o0.mp hk]; simp
  · rw [o1.mp hk]; simp
  · rcases o2.mp hk with e | e <;> rw [e] <;> simp
  · rcases o3.mp hk with e | e <;> rw [e] <;> simp
  · rw [o4.mp hk]; simp
theorem b_sub (σ : List Bool) : bStep (σ, true) tSub = some (σ, true) := by
  unfold bStep aStep
  simp [tSub, regS]
theorem b_not (σ : List Bool) : bStep (σ, true) tNot = some (σ, true) := by
  unfold bStep aStep
  simp [tNot, regS]
theorem b_num {k : Tk} (σ : List Bool) (hg : GTk k) (h : k.1 = "number") : bStep (σ, true) k = some (σ, false) := by
  have := (hg.num h).2.2.1
  unfold bStep aStep
  simp [h, this]
theorem b_reg {k : Tk} (σ : List Bool) (h1 : k.1 = "word") (h : k.2 ∈ regS) : bStep (σ, true) k = some (σ, false) := by
  have : k.2 ≠ "(" := fun z => by rw [z] at h; exact absurd h (by decide +kernel)
  unfold bStep aStep
  simp [h1, h, this]
theorem b_opn (σ : List Bool) : bStep (σ, true) tOpn = if 5 < σ.length then none else some (false :: σ, true) := by
  unfold bStep aStep
  simp [tOpn]
theorem b_clo (c : Bool) (σ : List Bool) (h : σ ≠ []) : bStep (c :: σ, false) tClo = some (σ, false) := by
  unfold bStep aStep
  simp [tClo, h]
theorem b_clo0 (c : Bool) : bStep ([c], false) tClo = none := by
  unfold bStep aStep
  simp [tClo]
theorem b_rej {k : Tk} (σ : List Bool) (hg : GTk k) (h1 : k ≠ tSub) (h2 : k ≠ tNot) (h3 : k.1 ≠ "number") (h4 : ¬ (k.1 = "word" ∧ k.2 ∈ regS)) (h5 : k ≠ tOpn) : bStep (σ, true) k = none := by
  have a1 : k.2 ≠ "(" := fun z => h5 (hg.opn z)
  have a2 : k.2 ≠ "-" := fun z => h1 (hg.sub z)
  have a3 : k.2 ≠ "not" := fun z => h2 (hg.nt z)
  have a4 : k.2 ∉ regS := fun z => h4 ⟨hg.reg z, z⟩
  unfold bStep aStep
  simp [a1, a2, a3, a4, h3]
/-! the reader does what the stack says -/
def bareT (ts : List Str) : List Str := ts.filter fun x => decide (¬ (x = "(" ∨ x = ")"))
def bareK (ts : List Tk) : List Str := bareT (ts.map Prod.snd)
theorem bareT_app (a b : List Str) : bareT (a ++ b) = bareT a ++ bareT b := List.filter_append ..
theorem bareK_app (a b : List Tk) : bareK (a ++ b) = bareK a ++ bareK b := by unfold bareK; rw [List.map_append, bareT_app]
theorem bareT_br (t : Tree) (ts : List Str) (l : Nat) : bareT (arT t ts l) = bareT ts := by
  unfold arT
  split
  · rw [show ("(" : Str) :: (ts ++ [(")" : Str)]) = [("(" : Str)] ++ (ts ++ [(")" : Str)]) from rfl, bareT_app, bareT_app]
    simp [bareT]
  · rfl
theorem bareT_one {x : Str} (h1 : x ≠ "(") (h2 : x ≠ ")") : bareT [x] = [x] := by simp [bareT, h1, h2]
theorem textsT_op (s : Str) (a b : Tree) : textsT (.op s a b) = arT a (textsT a) (levS s + if levS s = 2 then 1 else 0) ++ s :: arT b (textsT b) (levS s + 1) := rfl
theorem bareT_op {s : Str} (hs : s ∈ sevS) (a b : Tree) : bareT (textsT (.op s a b)) = bareT (textsT a) ++ s :: bareT (textsT b) := by
  obtain ⟨_, _, _, c1, c2⟩ := sev_at s hs
  rw [textsT_op, show ∀ X : List Str, s :: X = [s] ++ X from fun _ => rfl, bareT_app, bareT_app, bareT_br, bareT_br, bareT_one c1 c2]
  rfl
/-- trees that are read: of such tokens, no bigger than what was read -/
def TWf : Tree → Prop
  | .num n => ∃ k : Tk, k ∈ tokS ∧ k.1 = "number" ∧ n = valT k.2
  | .reg r => r ∈ regS
  | .op s a b => s ∈ sevS ∧ TWf a ∧ TWf b
  | .nt x => TWf x
  | .ng x => TWf x
def tsz : Tree → Nat
  | .op _ a b => tsz a + tsz b + 1
  | .nt x => tsz x + 1
  | .ng x => tsz x + 1
  | _ => 1
structure Ok1 (σ : List Bool) (ts : List Tk) (d : Int) (t : Tree) (s : RS) (u : List Tk) (c : Bool) : Prop where
  eq : ts = u ++ s.rest
  dep : s.dep = d
  wf : TWf t
  sz : tsz t ≤ u.length
  bare : bareT (textsT t) = bareK u
def FcSim (σ : List Bool) (ts : List Tk) (d : Int) (v : Tree × RS) : Prop :=
  (v.2.bad = false → ∃ u, Ok1 σ ts d v.1 v.2 u false ∧ brun bStep (σ, true) u = some (σ, false)) ∧ (v.2.bad = true → bacc (σ, true) ts = false)
def LvSim (l : Nat) (c : Bool) (σ : List Bool) (ts : List Tk) (d : Int) (v : Tree × RS) : Prop :=
  (v.2.bad = false → ∃ u c', Ok1 σ ts d v.1 v.2 u c' ∧ brun bStep (c :: σ, true) u = some (c' :: σ, false) ∧ (3 ≤ l → c' = c) ∧ St l c' v.2.rest) ∧ (v.2.bad = true → bacc (c :: σ, true) ts = false)
/-- the loop of a level -/
def LpSim (l : Nat) (c : Bool) (σ : List Bool) (r : List Tk) (d : Int) (t : Tree) (v : Tree × RS) : Prop :=
  (v.2.bad = false → ∃ u c', r = u ++ v.2.rest ∧ v.2.dep = d ∧ TWf v.1 ∧ tsz v.1 ≤ tsz t + u.length ∧ bareT (textsT v.1) = bareT (textsT t) ++ bareK u ∧ brun bStep (c :: σ, false) u = some (c' :: σ, false) ∧ (3 ≤ l → c' = c) ∧ St l c' v.2.rest) ∧ (v.2.bad = true → bacc (c :: σ, false) r = false)
theorem ops_sev : ∀ l, l ≤ 4 → ∀ x ∈ opsL l, x ∈ sevS := by
  intro l hl
  obtain rfl | rfl | rfl | rfl | rfl : l = 0 ∨ l = 1 ∨ l = 2 ∨ l = 3 ∨ l = 4 := by omega
  · intro x hx; revert x; decide +kernel
  · intro x hx; revert x; decide +kernel
  · intro x hx; revert x; decide +kernel
  · intro x hx; revert x; decide +kernel
  · intro x hx; revert x; decide +kernel
theorem St.down {l : Nat} {c : Bool} {r : List Tk} (h : St (l + 1) c r) (hs : l = 2 → c = true ∨ sees l r = false) (hs2 : l ≠ 2 → sees l r = false) : St l c r := by
  cases r with
  | nil => trivial
  | cons k r =>
    intro j h1 h2 h3
    by_cases e : j = l
    · subst e
      by_cases h4 : j = 2
      · rcases hs h4 with g | g
        · exact ⟨h4, g⟩
        · exact absurd h3 (of_decide_eq_false g)
      · exact absurd h3 (of_decide_eq_false (hs2 h4))
    · exact h j (by omega) h2 h3
theorem bareK_cons {k : Tk} (h : k.2 ∈ sevS) (u : List Tk) : bareK (k :: u) = k.2 :: bareK u := by
  obtain ⟨_, _, _, c1, c2⟩ := sev_at k.2 h
  show bareK ([k] ++ u) = _
  rw [bareK_app]
  show bareT [k.2] ++ _ = _
  rw [bareT_one c1 c2]; rfl
theorem lp_sim {l : Nat} (hl : l ≤ 4) (hl2 : l ≠ 2) (σ : List Bool) (d : Int) (L : Nat)
    (ih : ∀ (c : Bool) (r : List Tk), (l + 1 ≤ 2 → c = false) → r.length < L → (∀ k ∈ r, k ∈ tokS) → LvSim (l + 1) c σ r d (rd (.lv (l + 1)) ⟨r, d, false⟩)) :
    ∀ k c t (r : List Tk), r.length ≤ k → r.length ≤ L → (∀ k ∈ r, k ∈ tokS) → TWf t → St (l + 1) c r → LpSim l c σ r d t (lpR (rd (.lv (l + 1))) l k t ⟨r, d, false⟩) := by
  have stop : ∀ k c t (r : List Tk), TWf t → St (l + 1) c r → sees l r = false → LpSim l c σ r d t (lpR (rd (.lv (l + 1))) l k t ⟨r, d, false⟩) := by
    intro k c t r ht hS hs
    rw [lpR_stop (.inr hs)]
    refine ⟨fun _ => ⟨[], c, rfl, rfl, ht, Nat.le_refl _, by simp [bareK, bareT], rfl, fun _ => rfl, hS.down (fun _ => .inr hs) (fun _ => hs)⟩, fun h => ?_⟩
    cases h
  intro k
  induction k with
  | zero =>
    intro c t r hk _ _ ht hS
    have : r = [] := List.eq_nil_of_length_eq_zero (by omega)
    exact stop 0 c t r ht hS (by rw [this]; rfl)
  | succ k ihk =>
    intro c t r hk hL hm ht hS
    by_cases hs : sees l r = true
    · cases r with
      | nil => cases hs
      | cons x r =>
        have hx : x.2 ∈ opsL l := of_decide_eq_true hs
        have hsv := ops_sev l hl _ hx
        have hg := gtk_of (hm x List.mem_cons_self)
        have e1 := st_step (c := c) (σ := σ) hg hl hx
        rw [if_neg hl2] at e1
        obtain ⟨c1, hc1, e1, hc3⟩ : ∃ c1, (l + 1 ≤ 2 → c1 = false) ∧ bStep (c :: σ, false) x = some (c1 :: σ, true) ∧ (3 ≤ l → c1 = c) := by
          by_cases h1 : l ≤ 1
          · rw [if_pos h1] at e1
            exact ⟨false, fun _ => rfl, e1, fun z => by omega⟩
          · rw [if_neg h1] at e1
            exact ⟨c, fun z => by omega, e1, fun _ => rfl⟩
        have hm' : ∀ k ∈ r, k ∈ tokS := fun y hy => hm y (List.mem_cons_of_mem _ hy)
        simp only [List.length_cons] at hk hL
        obtain ⟨i1, i2⟩ := ih c1 r hc1 (by omega) hm'
        obtain ⟨b, s', e2⟩ : ∃ b s', rd (.lv (l + 1)) ⟨r, d, false⟩ = (b, s') := ⟨_, _, rfl⟩
        rw [e2] at i1 i2
        obtain ⟨kx, tx⟩ := x
        rw [lpR_one hs hl2 e2]
        cases hb : s'.bad with
        | true =>
          rw [lpR_stop (.inl hb)]
          refine ⟨fun h => (Bool.false_ne_true (h.symm.trans hb)).elim, fun _ => ?_⟩
          rw [bacc_cons e1]
          exact i2 hb
        | false =>
          obtain ⟨u, c2, ok, hr, h3, hS2⟩ := i1 hb
          have es' : s' = ⟨s'.rest, d, false⟩ := by
            obtain ⟨a, b, c⟩ := s'
            have := ok.dep
            simp only at this hb
            rw [this, hb]
          have hlen : r.length = u.length + s'.rest.length := by
            have := congrArg List.length ok.eq
            rw [List.length_append] at this; exact this
          have hm2 : ∀ k ∈ s'.rest, k ∈ tokS := fun y hy => hm' y (by rw [ok.eq]; exact List.mem_append_right _ hy)
          have hT : TWf (.op tx t b) := ⟨hsv, ht, ok.wf⟩
          obtain ⟨j1, j2⟩ := ihk c2 (.op tx t b) s'.rest (by omega) (by omega) hm2 hT hS2
          rw [← es'] at j1 j2
          refine ⟨fun hb2 => ?_, fun hb2 => ?_⟩
          · obtain ⟨w, c3, q1, q2, q3, q4, q5, q6, q7, q8⟩ := j1 hb2
            refine ⟨(kx, tx) :: (u ++ w), c3, ?_, q2, q3, ?_, ?_, ?_, fun z => (q7 z).trans ((h3 (by omega)).trans (hc3 z)), q8⟩
            · rw [List.cons_append, List.append_assoc, ← q1, ← ok.eq]
            · have := ok.sz
              simp only [tsz] at q4
              simp only [List.length_cons, List.length_append]
              simp only at this
              omega
            · rw [q5, bareT_op hsv, bareK_cons hsv, bareK_app, List.append_assoc, ok.bare]
              rfl
            · rw [brun_cons e1, brun_app bStep u w _ _ hr, q6]
          · have := j2 hb2
            rw [bacc_cons e1, ok.eq, bacc_app hr]
            exact this
    · exact stop _ c t r ht hS (by simpa using hs)
theorem fc_leaf {σ : List Bool} {k : Tk} {r : List Tk} {d : Int} {t : Tree} (hb : bStep (σ, true) k = some (σ, false)) (hw : TWf t) (hz : tsz t = 1) (he : bareT (textsT t) = bareK [k]) : FcSim σ (k :: r) d (t, ⟨r, d, false⟩) :=
  ⟨fun _ => ⟨[k], ⟨rfl, rfl, hw, by rw [hz]; exact Nat.le_refl _, he⟩, by rw [brun_cons hb]; rfl⟩, fun h => by cases h⟩
theorem fc_un {σ : List Bool} {k : Tk} {r : List Tk} {d : Int} {v : Tree × RS} {f : Tree → Tree} (hb : bStep (σ, true) k = some (σ, true)) (hw : ∀ t, TWf t → TWf (f t)) (hz : ∀ t, tsz (f t) = tsz t + 1) (he : ∀ t, bareT (textsT (f t)) = k.2 :: bareT (textsT t))
    (hk : k.2 ≠ "(" ∧ k.2 ≠ ")") (h : FcSim σ r d v) : FcSim σ (k :: r) d (f v.1, v.2) := by
  refine ⟨fun q => ?_, fun q => ?_⟩
  · obtain ⟨u, ok, hr⟩ := h.1 q
    refine ⟨k :: u, ⟨?_, ok.dep, hw _ ok.wf, ?_, ?_⟩, by rw [brun_cons hb]; exact hr⟩
    · show k :: r = k :: u ++ v.2.rest
      rw [List.cons_append, ← ok.eq]
    · show tsz (f v.1) ≤ _
      rw [hz, List.length_cons]
      exact Nat.succ_le_succ ok.sz
    · show bareT (textsT (f v.1)) = _
      rw [he, ok.bare]
      show _ = bareT ([k.2] ++ u.map Prod.snd)
      rw [bareT_app, bareT_one hk.1 hk.2]; rfl
  · rw [bacc_cons hb]
    exact h.2 q
theorem num_bare : ∀ k ∈ tokS, k.1 = "number" → numS (valT k.2) = k.2 := by decide +kernel
theorem bareK_one {k : Tk} (h1 : k.2 ≠ "(") (h2 : k.2 ≠ ")") : bareK [k] = [k.2] := bareT_one h1 h2
theorem bareT_cons {x : Str} (h1 : x ≠ "(") (h2 : x ≠ ")") (l : List Str) : bareT (x :: l) = x :: bareT l := by
  show bareT ([x] ++ l) = _
  rw [bareT_app, bareT_one h1 h2]; rfl
theorem fin_true (σ : List Bool) : fin (some (σ, true)) = false := by
  cases σ with
  | nil => rfl
  | cons a σ => cases σ <;> rfl
theorem sim_all : ∀ n, (∀ (σ : List Bool) (r : List Tk) (d : Int), 8 * r.length + 1 ≤ n → (∀ k ∈ r, k ∈ tokS) → (σ.length : Int) = d + 1 → σ ≠ [] → FcSim σ r d (rd .fc ⟨r, d, false⟩)) ∧
    (∀ (l : Nat) (c : Bool) (σ : List Bool) (r : List Tk) (d : Int), l ≤ 5 → 8 * r.length + 7 - l ≤ n → (∀ k ∈ r, k ∈ tokS) → (σ.length : Int) = d → (l ≤ 2 → c = false) → LvSim l c σ r d (rd (.lv l) ⟨r, d, false⟩)) := by
  intro n
  induction n with
  | zero => exact ⟨fun σ r d h => by omega, fun l c σ r d hl h => by omega⟩
  | succ n ih =>
    obtain ⟨ihf, ihl⟩ := ih
    refine ⟨fun σ r d hn hm hd hσ => ?_, fun l c σ r d hl hn hm hd hc => ?_⟩
    · cases r with
      | nil =>
        rw [rd_fc_nil]
        exact ⟨fun h => (by cases h), fun _ => fin_true σ⟩
      | cons k r =>
        simp only [List.length_cons] at hn
        have hkm := hm k List.mem_cons_self
        have hg := gtk_of hkm
        have hm' : ∀ k ∈ r, k ∈ tokS := fun y hy => hm y (List.mem_cons_of_mem _ hy)
        obtain ⟨kk, kx⟩ := k
        rw [rd_fc]
        by_cases c1 : (kk, kx) = tSub
        · rw [if_pos c1, c1]
          exact fc_un (f := .ng) (b_sub σ) (fun t h => h) (fun t => rfl) (fun t => by
            show bareT (("-" : Str) :: arT t (textsT t) 5) = _
            rw [bareT_cons (by decide) (by decide), bareT_br]; rfl) ⟨by decide, by decide⟩ (ihf σ r d (by omega) hm' hd hσ)
        · rw [if_neg c1]
          by_cases c2 : (kk, kx) = tNot
          · rw [if_pos c2, c2]
            exact fc_un (f := .nt) (b_not σ) (fun t h => h) (fun t => rfl) (fun t => by
              show bareT (("not" : Str) :: arT t (textsT t) 5) = _
              rw [bareT_cons (by decide) (by decide), bareT_br]; rfl) ⟨by decide, by decide⟩ (ihf σ r d (by omega) hm' hd hσ)
          · rw [if_neg c2]
            by_cases c3 : kk = "number"
            · rw [if_pos c3]
              have hn1 := hg.num c3
              have hnb := num_bare _ hkm c3
              refine fc_leaf (b_num σ hg c3) ⟨_, hkm, c3, rfl⟩ rfl ?_
              rw [bareK_one hn1.2.2.1 hn1.2.2.2.1]
              show bareT [numS (valT kx)] = _
              simp only at hnb hn1
              rw [hnb, bareT_one hn1.2.2.1 hn1.2.2.2.1]
            · rw [if_neg c3]
              by_cases c4 : kk = "word" ∧ kx ∈ (["a", "b", "c", "d"] : List Str)
              · rw [if_pos c4]
                have h1 : kx ≠ "(" := fun z => by rw [z] at c4; exact absurd c4.2 (by decide +kernel)
                have h2 : kx ≠ ")" := fun z => by rw [z] at c4; exact absurd c4.2 (by decide +kernel)
                refine fc_leaf (b_reg σ c4.1 c4.2) c4.2 rfl ?_
                rw [bareK_one h1 h2]
                exact bareT_one h1 h2
              · rw [if_neg c4]
                by_cases c5 : (kk, kx) = tOpn
                · rw [if_pos c5, c5]
                  have eb := b_opn σ
                  by_cases h5 : 5 < d + 1
                  · rw [if_pos (by omega)] at eb
                    rw [rd_gr, if_pos h5]
                    exact ⟨fun h => (by cases h), fun _ => bacc_none eb⟩
                  · rw [if_neg (by omega)] at eb
                    obtain ⟨i1, i2⟩ := ihl 0 false σ r (d + 1) (by omega) (by omega) hm' hd (fun _ => rfl)
                    obtain ⟨t, s', e2⟩ : ∃ b s', rd (.lv 0) ⟨r, d + 1, false⟩ = (b, s') := ⟨_, _, rfl⟩
                    rw [e2] at i1 i2
                    cases hb : s'.bad with
                    | true =>
                      have hB : (rd .gr ⟨r, d, false⟩).2.bad = true := rd_gr_bad (.inr (by rw [e2]; exact hb))
                      refine ⟨fun h => (Bool.false_ne_true (h.symm.trans hB)).elim, fun _ => ?_⟩
                      rw [bacc_cons eb]
                      exact i2 hb
                    | false =>
                      obtain ⟨u, c2, ok, hr, _, hS2⟩ := i1 hb
                      obtain ⟨rr, dd, bb⟩ := s'
                      have h1 := ok.dep
                      have h2 := ok.eq
                      simp only at h1 h2 hb hS2
                      subst h1 hb
                      cases rr with
                      | nil =>
                        have hB : (rd .gr ⟨r, d, false⟩).2.bad = true := by
                          rw [rd_gr, if_neg h5, e2]
                          rfl
                        refine ⟨fun h => (Bool.false_ne_true (h.symm.trans hB)).elim, fun _ => ?_⟩
                        rw [bacc_cons eb, h2, bacc_app hr]
                        cases σ with
                        | nil => exact absurd rfl hσ
                        | cons a σ => rfl
                      | cons y rr =>
                        by_cases c6 : y = tClo
                        · subst c6
                          rw [rd_gr_ok h5 e2]
                          have ec := b_clo c2 σ hσ
                          refine ⟨fun _ => ⟨tOpn :: (u ++ [tClo]), ⟨?_, by show d + 1 - 1 = d; omega, ok.wf, ?_, ?_⟩, ?_⟩, fun h => by cases h⟩
                          · rw [h2]; simp
                          · have := ok.sz
                            simp only [List.length_cons, List.length_append] at this ⊢
                            omega
                          · show bareT (textsT t) = bareK ([tOpn] ++ (u ++ [tClo]))
                            rw [bareK_app, bareK_app, show bareK [tOpn] = [] from by decide +kernel, show bareK [tClo] = [] from by decide +kernel, List.append_nil, List.nil_append]
                            exact ok.bare
                          · rw [brun_cons eb, brun_app bStep u [tClo] _ _ hr, brun_cons ec]; rfl
                        · have hy := gtk_of (hm' y (by rw [h2]; simp))
                          have hB : (rd .gr ⟨r, d, false⟩).2.bad = true := by
                            rw [rd_gr, if_neg h5, e2]
                            show (if y = tClo then (⟨rr, d + 1 - 1, false⟩ : RS) else ⟨rr, d + 1 - 1, true⟩).bad = true
                            rw [if_neg c6]
                          refine ⟨fun h => (Bool.false_ne_true (h.symm.trans hB)).elim, fun _ => ?_⟩
                          rw [bacc_cons eb, h2, bacc_app hr]
                          exact bacc_none (st_none hS2 fun z => c6 (hy.clo z))
                · rw [if_neg c5]
                  exact ⟨fun h => (by cases h), fun _ => bacc_none (b_rej σ hg c1 c2 c3 c4 c5)⟩
    · by_cases h5 : l = 5
      · subst h5
        rw [rd_lv5]
        obtain ⟨i1, i2⟩ := ihf (c :: σ) r d (by omega) hm (by simp; omega) (List.cons_ne_nil _ _)
        refine ⟨fun q => ?_, i2⟩
        obtain ⟨u, ok, hr⟩ := i1 q
        refine ⟨u, c, ⟨ok.eq, ok.dep, ok.wf, ok.sz, ok.bare⟩, hr, fun _ => rfl, ?_⟩
        unfold St
        split
        · trivial
        · intro j h1 h2; omega
      · obtain ⟨i1, i2⟩ := ihl (l + 1) c σ r d (by omega) (by omega) hm hd (fun z => hc (by omega))
        have hlen := rd_len (.lv (l + 1)) ⟨r, d, false⟩
        rw [rd_lv (by omega)]
        obtain ⟨t, s', e2⟩ : ∃ b s', rd (.lv (l + 1)) ⟨r, d, false⟩ = (b, s') := ⟨_, _, rfl⟩
        rw [e2] at i1 i2 hlen ⊢
        simp only at hlen ⊢
        cases hb : s'.bad with
        | true =>
          rw [lpR_stop (.inl hb)]
          exact ⟨fun h => (Bool.false_ne_true (h.symm.trans hb)).elim, fun _ => i2 hb⟩
        | false =>
          obtain ⟨u, c2, ok, hr, h3, hS2⟩ := i1 hb
          obtain ⟨rr, dd, bb⟩ := s'
          have h1 := ok.dep
          have h2 := ok.eq
          have hsz := ok.sz
          have hwf := ok.wf
          have hba := ok.bare
          simp only at h1 h2 hb hS2 hlen hsz hwf hba
          subst h1 hb
          have hm2 : ∀ k ∈ rr, k ∈ tokS := fun y hy => hm y (by rw [h2]; exact List.mem_append_right _ hy)
          by_cases l2 : l = 2
          · subst l2
            have hcf := hc (by omega)
            have hc2 : c2 = false := (h3 (by omega)).trans hcf
            by_cases hs : sees 2 rr = true
            · cases rr with
              | nil => cases hs
              | cons x rr =>
                have hx : x.2 ∈ opsL 2 := of_decide_eq_true hs
                have hsv := ops_sev 2 (by omega) _ hx
                have hg := gtk_of (hm2 x List.mem_cons_self)
                have e1 := st_step (c := c2) (σ := σ) hg (by omega) hx
                rw [if_pos rfl, hc2, if_neg Bool.false_ne_true] at e1
                rw [hc2] at hr
                simp only [List.length_cons] at hlen
                obtain ⟨j1, j2⟩ := ihl 3 true σ rr dd (by omega) (by omega) (fun y hy => hm2 y (List.mem_cons_of_mem _ hy)) hd (fun z => by omega)
                obtain ⟨b, s2, e3⟩ : ∃ b s', rd (.lv 3) ⟨rr, dd, false⟩ = (b, s') := ⟨_, _, rfl⟩
                rw [e3] at j1 j2
                obtain ⟨kx, tx⟩ := x
                rw [List.length_cons, lpR_two hs rfl e3]
                refine ⟨fun q => ?_, fun q => ?_⟩
                · obtain ⟨w, c3, ok2, hr2, h4, hS3⟩ := j1 q
                  have hc3 := h4 (by omega)
                  refine ⟨u ++ (kx, tx) :: w, c3, ⟨?_, ok2.dep, ⟨hsv, hwf, ok2.wf⟩, ?_, ?_⟩, ?_, fun z => by omega, ?_⟩
                  · have := ok2.eq
                    simp only at this
                    rw [h2, this]; simp
                  · have := ok2.sz
                    simp only [tsz, List.length_append, List.length_cons] at this ⊢
                    omega
                  · have := ok2.bare
                    simp only at this
                    show bareT (textsT (.op tx t b)) = _
                    rw [bareT_op hsv, hba, this, bareK_app, bareK_cons hsv]
                  · rw [brun_app bStep u _ _ _ hr, brun_cons e1, hr2]
                  · exact hS3.down (fun _ => .inl hc3) (fun z => absurd rfl z)
                · rw [h2, bacc_app hr, bacc_cons e1]
                  exact j2 q
            · have hs' : sees 2 rr = false := by simpa using hs
              rw [lpR_stop (.inr hs')]
              exact ⟨fun _ => ⟨u, c2, ok, hr, fun z => by omega, hS2.down (fun _ => .inr hs') (fun _ => hs')⟩, fun h => by cases h⟩
          · obtain ⟨j1, j2⟩ := lp_sim (l := l) (by omega) l2 σ dd r.length (fun c r' h6 h7 h8 => ihl (l + 1) c σ r' dd (by omega) (by omega) h8 hd h6) rr.length c2 t rr (Nat.le_refl _) hlen hm2 hwf hS2
            refine ⟨fun q => ?_, fun q => ?_⟩
            · obtain ⟨w, c3, q1, q2, q3, q4, q5, q6, q7, q8⟩ := j1 q
              refine ⟨u ++ w, c3, ⟨?_, q2, q3, ?_, ?_⟩, ?_, fun z => (q7 z).trans (h3 (by omega)), q8⟩
              · rw [List.append_assoc, ← q1]; exact h2
              · exact Nat.le_trans q4 (by rw [List.length_append]; omega)
              · rw [q5, hba, bareK_app]
              · rw [brun_app bStep u w _ _ hr, q6]
            · rw [h2, bacc_app hr]
              exact j2 q
/-- what read_expression gives -/
theorem readP_acc (ts : List Tk) (hm : ∀ k ∈ ts, k ∈ tokS) : (ts.length ≤ 20 ∧ bacc ([false], true) ts = true ∧ ∃ t, readP ts = some t ∧ TWf t ∧ tsz t ≤ ts.length ∧ bareT (textsT t) = bareK ts) ∨ (¬ (ts.length ≤ 20 ∧ bacc ([false], true) ts = true) ∧ readP ts = none) := by
  unfold readP
  by_cases h20 : 20 < ts.length
  · rw [if_pos h20]
    exact .inr ⟨fun z => by omega, rfl⟩
  · rw [if_neg h20]
    obtain ⟨i1, i2⟩ := (sim_all (8 * ts.length + 7)).2 0 false [] ts 0 (by omega) (by omega) hm rfl (fun _ => rfl)
    obtain ⟨t, s', e⟩ : ∃ b s', rd (.lv 0) ⟨ts, 0, false⟩ = (b, s') := ⟨_, _, rfl⟩
    rw [e] at i1 i2 ⊢
    cases hb : s'.bad with
    | true =>
      right
      have := i2 hb
      rw [if_pos (.inl rfl)]
      exact ⟨fun z => Bool.false_ne_true (this.symm.trans z.2), rfl⟩
    | false =>
      obtain ⟨u, c', ok, hr, _, hS⟩ := i1 hb
      obtain ⟨rr, dd, bb⟩ := s'
      have h2 := ok.eq
      simp only at h2 hS hb
      subst hb
      cases rr with
      | nil =>
        left
        rw [List.append_nil] at h2
        subst h2
        refine ⟨by omega, ?_, t, ?_, ok.wf, ok.sz, ok.bare⟩
        · unfold bacc
          rw [hr]; rfl
        · rw [if_neg (by simp)]
      | cons k rr =>
        right
        rw [if_pos (.inr (by simp))]
        refine ⟨fun z => ?_, rfl⟩
        have z2 := z.2
        rw [h2, bacc_app hr] at z2
        have hk := gtk_of (hm k (by rw [h2]; simp))
        by_cases c1 : k.2 = ")"
        · rw [hk.clo c1, bacc_none (b_clo0 c')] at z2
          cases z2
        · rw [bacc_none (st_none hS c1)] at z2
          cases z2
/-! brackets no more than 5 deep, apart -/
theorem nx_le {d : Int} {x : Str} (h : x ≠ "(") : nx d x ≤ d := by
  unfold nx
  rw [if_neg h]
  split <;> omega
theorem nx_step {st st1 : ASt} {k : Tk} (hg : GTk k) (h : aStep st k = some st1) (hs : st.1 ≠ []) : st1.1 ≠ [] ∧ (st1.1.length : Int) - 1 = nx ((st.1.length : Int) - 1) k.2 ∧ (k.2 = "(" → st.2 = true) := by
  obtain ⟨σ, op⟩ := st
  simp only at hs
  have same : ∀ σ' : List Bool, σ' ≠ [] → σ'.length = σ.length → k.2 ≠ "(" → k.2 ≠ ")" → σ' ≠ [] ∧ (σ'.length : Int) - 1 = nx ((σ.length : Int) - 1) k.2 ∧ (k.2 = "(" → op = true) := by
    intro σ' h1 h2 h3 h4
    exact ⟨h1, by rw [nx_no h3 h4, h2], fun z => absurd z h3⟩
  have hr : k.2 ∈ regS → k.2 ≠ ")" := fun z w => by rw [w] at z; exact absurd z (by decide +kernel)
  unfold aStep at h
  by_cases hb : k.1 = "bad"
  · rw [if_pos hb] at h; cases h
  · rw [if_neg hb] at h
    cases op with
    | true =>
      simp only at h
      by_cases e1 : k.2 = "("
      · rw [if_pos e1] at h
        cases h
        refine ⟨by simp, ?_, fun _ => rfl⟩
        rw [e1, nx_open]; simp
      · rw [if_neg e1] at h
        by_cases e2 : k.1 = "number" ∨ k.2 ∈ regS
        · rw [if_pos e2] at h
          cases h
          exact same σ hs rfl e1 (e2.elim (fun z => (hg.num z).2.2.2.1) hr)
        · rw [if_neg e2] at h
          by_cases e3 : k.2 = "-" ∨ k.2 = "not"
          · rw [if_pos e3] at h
            cases h
            exact same σ hs rfl e1 (by rcases e3 with z | z <;> rw [z] <;> decide)
          · rw [if_neg e3] at h; cases h
    | false =>
      cases σ with
      | nil => exact absurd rfl hs
      | cons c σ =>
        simp only at h
        by_cases e1 : k.2 = ")"
        · rw [if_pos e1] at h
          by_cases e2 : σ = []
          · rw [if_pos e2] at h; cases h
          · rw [if_neg e2] at h
            cases h
            refine ⟨e2, ?_, fun z => absurd (e1.symm.trans z) (by decide)⟩
            rw [e1, nx_close]; simp
        · rw [if_neg e1] at h
          by_cases e2 : k.2 = "=" ∨ k.2 = "<"
          · rw [if_pos e2] at h
            by_cases e3 : c = true
            · rw [if_pos e3] at h; cases h
            · rw [if_neg e3] at h
              cases h
              exact same (true :: σ) (by simp) (by simp) (by rcases e2 with z | z <;> rw [z] <;> decide) e1
          · rw [if_neg e2] at h
            by_cases e3 : k.2 = "and" ∨ k.2 = "or"
            · rw [if_pos e3] at h
              cases h
              exact same (false :: σ) (by simp) (by simp) (by rcases e3 with z | z <;> rw [z] <;> decide) e1
            · rw [if_neg e3] at h
              by_cases e4 : k.2 = "+" ∨ k.2 = "-" ∨ k.2 = "*"
              · rw [if_pos e4] at h
                cases h
                exact same (c :: σ) (by simp) rfl (by rcases e4 with z | z | z <;> rw [z] <;> decide) e1
              · rw [if_neg e4] at h; cases h
theorem bacc_fit : ∀ (ts : List Tk) (st : ASt), (∀ k ∈ ts, k ∈ tokS) → st.1 ≠ [] → (st.1.length : Int) - 1 ≤ 5 →
    (bacc st ts = true ↔ fin (brun aStep st ts) = true ∧ Fit ((st.1.length : Int) - 1) (ts.map Prod.snd))
  | [], st, _, _, _ => by simp [bacc, brun, Fit]
  | k :: ts, st, hm, hs, hd => by
    have hg := gtk_of (hm k List.mem_cons_self)
    have hm' : ∀ k ∈ ts, k ∈ tokS := fun y hy => hm y (List.mem_cons_of_mem _ hy)
    have eF : Fit ((st.1.length : Int) - 1) ((k :: ts).map Prod.snd) ↔ nx ((st.1.length : Int) - 1) k.2 ≤ 5 ∧ Fit (nx ((st.1.length : Int) - 1) k.2) (ts.map Prod.snd) := Iff.rfl
    cases ea : aStep st k with
    | none =>
      have eb : bStep st k = none := by unfold bStep; split; rfl; exact ea
      rw [bacc_none eb]
      unfold brun
      rw [ea]
      simp [fin]
    | some st1 =>
      obtain ⟨n1, n2, n3⟩ := nx_step hg ea hs
      have er : brun aStep st (k :: ts) = brun aStep st1 ts := by
        conv => lhs; unfold brun
        rw [ea]
      rw [er, eF, ← n2]
      by_cases c : k.2 = "(" ∧ st.2 = true ∧ 5 < st.1.length
      · have eb : bStep st k = none := by unfold bStep; rw [if_pos c]
        rw [bacc_none eb]
        have : ¬ (st1.1.length : Int) - 1 ≤ 5 := by
          rw [n2, c.1, nx_open]
          have := c.2.2
          omega
        simp [this]
      · have eb : bStep st k = some st1 := by unfold bStep; rw [if_neg c]; exact ea
        have h5 : (st1.1.length : Int) - 1 ≤ 5 := by
          rw [n2]
          by_cases g : k.2 = "("
          · rw [g, nx_open]
            have : ¬ 5 < st.1.length := fun z => c ⟨g, n3 g, z⟩
            omega
          · have := nx_le (d := (st.1.length : Int) - 1) g
            omega
        rw [bacc_cons eb, bacc_fit ts st1 hm' n1 h5]
        simp [h5]
theorem readP_exp (ts : List Tk) (hm : ∀ k ∈ ts, k ∈ tokS) : (ts.length ≤ 20 ∧ fin (brun aStep ([false], true) ts) = true ∧ Fit 0 (ts.map Prod.snd) ∧ ∃ t, readP ts = some t ∧ TWf t ∧ tsz t ≤ ts.length ∧ bareT (textsT t) = bareK ts) ∨ (¬ (fin (brun aStep ([false], true) ts) = true ∧ ts.length ≤ 20 ∧ Fit 0 (ts.map Prod.snd)) ∧ readP ts = none) := by
  have hb := bacc_fit ts ([false], true) hm (by simp) (by simp)
  have e0 : (((([false], true) : ASt).1.length : Int) - 1) = 0 := rfl
  rw [e0] at hb
  rcases readP_acc ts hm with ⟨h1, h2, h3⟩ | ⟨h1, h2⟩
  · exact .inl ⟨h1, (hb.mp h2).1, (hb.mp h2).2, h3⟩
  · exact .inr ⟨fun z => h1 ⟨z.2.1, hb.mpr ⟨z.1, z.2.2⟩⟩, h2⟩
end G_k04

namespace G_k04
open PySem PySem.Spec PyProof.Rows L2 Ev
/-! the stack, as the law keeps it -/
def cl (σ : List Bool) : List D := σ.reverse.map D.bl
theorem cl_cons (c : Bool) (σ : List Bool) : cl (c :: σ) = cl σ ++ [.bl c] := by unfold cl; simp
theorem cl_len (σ : List Bool) : (cl σ).length = σ.length := by unfold cl; simp
theorem ixN_m1 (n : Nat) : ixN (n + 1) (-1) = some n := by
  unfold ixN
  rw [if_neg (by omega)]
  simp
  omega
theorem in_regs (x : Str) (h : Hh) : inD (.str x) (.lst [.str "a", .str "b", .str "c", .str "d"]) h = .ok (.bl (decide (x ∈ regS))) h := inD_strs regS x
theorem nin_un (x : Str) (h : Hh) : ninD (.str x) (.lst [.str "-", .str "not"]) h = .ok (.bl (!decide (x ∈ (["-", "not"] : List Str)))) h := ninD_strs ["-", "not"] x
theorem in_ao (x : Str) (h : Hh) : inD (.str x) (.lst [.str "and", .str "or"]) h = .ok (.bl (decide (x ∈ (["and", "or"] : List Str)))) h := inD_strs ["and", "or"] x
theorem in_pm (x : Str) (h : Hh) : inD (.str x) (.lst [.str "+", .str "-", .str "*"]) h = .ok (.bl (decide (x ∈ (["+", "-", "*"] : List Str)))) h := inD_strs ["+", "-", "*"] x
theorem ise_step (parts : D) (h : Hh) (σ : List Bool) (op : Bool) (hs : σ ≠ []) (hl : σ.length ≤ 1000) (k : Tk) (v4 : Option D) :
    (∃ σ1 op1, aStep (σ, op) k = some (σ1, op1) ∧ x1__law_is_expression [some parts, some (.ref h.length), some (.bl op), some (encTk k), v4] (h ++ [.lst (cl σ)]) = .nx [some parts, some (.ref h.length), some (.bl op1), some (encTk k), some (.str k.2)] (h ++ [.lst (cl σ1)])) ∨
    (aStep (σ, op) k = none ∧ x1__law_is_expression [some parts, some (.ref h.length), some (.bl op), some (encTk k), v4] (h ++ [.lst (cl σ)]) = .ret (.bl false) (h ++ [.lst (cl σ)])) := by
  have hz : σ.length < sizeLine := by rw [sizeLine_eq]; omega
  have hcl := cl_len σ
  obtain ⟨kd, x⟩ := k
  unfold aStep
  by_cases hb : kd = "bad"
  · right
    refine ⟨if_pos hb, ?_⟩
    simp [x1__law_is_expression, encTk, hb]
  · rw [if_neg hb]
    cases op with
    | true =>
      simp only
      by_cases e1 : x = "("
      · rw [if_pos e1]
        refine .inl ⟨_, _, rfl, ?_⟩
        rw [cl_cons]
        generalize cl σ = C at *
        simp [x1__law_is_expression, encTk, hb, e1, methE_run, guardR_pos, appendD, mlOf, lstOf, hcl, hz]
      · rw [if_neg e1]
        by_cases e2 : kd = "number" ∨ x ∈ regS
        · rw [if_pos e2]
          refine .inl ⟨_, _, rfl, ?_⟩
          generalize cl σ = C at *
          rcases e2 with e2 | e2
          · simp [x1__law_is_expression, encTk, hb, e1, e2]
          · by_cases e3 : kd = "number"
            · simp [x1__law_is_expression, encTk, hb, e1, e3]
            · simp [x1__law_is_expression, encTk, hb, e1, e3, in_regs, e2]
        · rw [if_neg e2]
          have e3 : kd ≠ "number" := fun z => e2 (.inl z)
          have e4 : x ∉ regS := fun z => e2 (.inr z)
          generalize hC : cl σ = C at *
          by_cases e5 : x = "-" ∨ x = "not"
          · rw [if_pos e5]
            refine .inl ⟨_, _, rfl, ?_⟩
            simp [x1__law_is_expression, encTk, hb, e1, e3, in_regs, e4, nin_un, e5]
            exact hC.symm
          · rw [if_neg e5]
            refine .inr ⟨rfl, ?_⟩
            simp [x1__law_is_expression, encTk, hb, e1, e3, in_regs, e4, nin_un, e5]
    | false =>
      cases σ with
      | nil => exact absurd rfl hs
      | cons c σ =>
        simp only
        have hcl2 := cl_len σ
        rw [cl_cons] at hcl ⊢
        by_cases e1 : x = ")"
        · rw [if_pos e1]
          by_cases e2 : σ = []
          · rw [if_pos e2]
            refine .inr ⟨rfl, ?_⟩
            subst e2
            simp [x1__law_is_expression, encTk, hb, e1, cl]
          · rw [if_neg e2]
            refine .inl ⟨_, _, rfl, ?_⟩
            have h1 : ¬ σ.length = 0 := fun z => e2 (List.eq_nil_of_length_eq_zero z)
            have h1' : ¬ ((σ.length : Int) + 1 = 1) := by omega
            generalize cl σ = C at *
            simp [x1__law_is_expression, encTk, hb, e1, methE_run, guardR_pos, hcl2, h1', e2]
        · rw [if_neg e1]
          generalize hC : cl σ = C at *
          by_cases e2 : x = "=" ∨ x = "<"
          · rw [if_pos e2]
            cases c with
            | true =>
              refine .inr ⟨rfl, ?_⟩
              simp [x1__law_is_expression, encTk, hb, e1, in_eq, e2, ixN_m1]
            | false =>
              refine .inl ⟨_, _, rfl, ?_⟩
              rw [cl_cons]
              simp [x1__law_is_expression, encTk, hb, e1, in_eq, e2, ixN_m1]
              exact hC.symm
          · rw [if_neg e2]
            by_cases e3 : x = "and" ∨ x = "or"
            · rw [if_pos e3]
              refine .inl ⟨_, _, rfl, ?_⟩
              rw [cl_cons]
              simp [x1__law_is_expression, encTk, hb, e1, in_eq, e2, in_ao, e3, ixN_m1]
              exact hC.symm
            · rw [if_neg e3]
              by_cases e4 : x = "+" ∨ x = "-" ∨ x = "*"
              · rw [if_pos e4]
                refine .inl ⟨_, _, rfl, ?_⟩
                rw [cl_cons]
                simp [x1__law_is_expression, encTk, hb, e1, in_eq, e2, in_ao, e3, in_pm, e4]
                exact hC.symm
              · rw [if_neg e4]
                refine .inr ⟨rfl, ?_⟩
                simp [x1__law_is_expression, encTk, hb, e1, in_eq, e2, in_ao, e3, in_pm, e4]
theorem ise_loop (parts : D) (h : Hh) : ∀ (r : List Tk) (σ : List Bool) (op : Bool) (v3 v4 : Option D), (∀ k ∈ r, k ∈ tokS) → σ ≠ [] → σ.length + r.length ≤ 1000 →
    (∃ σ1 op1 w3 w4, brun aStep (σ, op) r = some (σ1, op1) ∧ loopS (fun _ => True) (gNm 3) x1__law_is_expression (r.map encTk) [some parts, some (.ref h.length), some (.bl op), v3, v4] (h ++ [.lst (cl σ)]) = .nx [some parts, some (.ref h.length), some (.bl op1), w3, w4] (h ++ [.lst (cl σ1)])) ∨
    (brun aStep (σ, op) r = none ∧ ∃ l, loopS (fun _ => True) (gNm 3) x1__law_is_expression (r.map encTk) [some parts, some (.ref h.length), some (.bl op), v3, v4] (h ++ [.lst (cl σ)]) = .ret (.bl false) (h ++ [.lst l]))
  | [], σ, op, v3, v4, _, _, _ => .inl ⟨σ, op, v3, v4, rfl, lpN_nil _ _ _ _⟩
  | k :: r, σ, op, v3, v4, hm, hs, hl => by
    simp only [List.length_cons] at hl
    rw [List.map_cons, lpN_cons]
    have hm' : ∀ k ∈ r, k ∈ tokS := fun y hy => hm y (List.mem_cons_of_mem _ hy)
    have eset : List.set [some parts, some (D.ref h.length), some (D.bl op), v3, v4] 3 (some (encTk k)) = [some parts, some (.ref h.length), some (.bl op), some (encTk k), v4] := rfl
    rw [eset]
    rcases ise_step parts h σ op hs (by omega) k v4 with ⟨σ1, op1, ea, ex⟩ | ⟨ea, ex⟩
    · obtain ⟨n1, n2, _⟩ := nx_step (gtk_of (hm k List.mem_cons_self)) ea hs
      have hl1 : σ1.length ≤ σ.length + 1 := by
        simp only at n2
        unfold nx at n2
        split at n2 <;> split at n2 <;> omega
      have eb : brun aStep (σ, op) (k :: r) = brun aStep (σ1, op1) r := by
        conv => lhs; unfold brun
        rw [ea]
      rw [ex, eb]
      exact ise_loop parts h r σ1 op1 (some (encTk k)) (some (.str k.2)) hm' n1 (by omega)
    · right
      refine ⟨by unfold brun; rw [ea], cl σ, ?_⟩
      rw [ex]
      rfl
theorem ise_run (ts : List Tk) (hm : ∀ k ∈ ts, k ∈ tokS) (hl : ts.length ≤ 900) (h : Hh) : m__law_is_expression [.lst (ts.map encTk)] h = .ok (.bl (fin (brun aStep ([false], true) ts))) h := by
  unfold m__law_is_expression
  rcases ise_loop (.lst (ts.map encTk)) h ts [false] true none none hm (by simp) (by simp; omega) with ⟨σ1, op1, w3, w4, eb, ex⟩ | ⟨eb, l, ex⟩
  · rw [eb]
    have hc : cl [false] = [.bl false] := rfl
    rw [hc] at ex
    refine cut_ok (g := [.lst (cl σ1)]) ?_ rfl
    have e5 : fin (some (σ1, op1)) = (!op1 && decide ((σ1.length : Int) = 1)) := by
      cases op1 with
      | true => rw [fin_true]; rfl
      | false =>
        cases σ1 with
        | nil => rfl
        | cons a σ1 =>
          cases σ1 with
          | nil => rfl
          | cons b σ1 =>
            have : ¬ ((((a :: b :: σ1).length : Nat) : Int) = 1) := by simp; omega
            rw [decide_eq_false this]
            rfl
    rw [e5]
    have e6 := cl_len σ1
    generalize List.map encTk ts = L at *
    cases op1 with
    | true => simp [defF_run, b__law_is_expression, ex]
    | false => simp [defF_run, b__law_is_expression, ex, e6]
  · rw [eb]
    have hc : cl [false] = [.bl false] := rfl
    rw [hc] at ex
    refine cut_ok (g := [.lst l]) ?_ rfl
    generalize List.map encTk ts = L at *
    simp [defF_run, b__law_is_expression, ex, fin]
theorem bare_run (ts : List Str) (hl : ts.length ≤ 1000) (h : Hh) : m__law_bare [.lst (ts.map D.str)] h = .ok (.lst ((bareT ts).map D.str)) h := by
  have nin : ∀ (x : Str) h, ninD (.str x) (.lst [.str "(", .str ")"]) h = .ok (.bl (!decide (x ∈ (["(", ")"] : List Str)))) h := fun x h => ninD_strs ["(", ")"] x
  have elc : lcE (seqI (varE 0)) 1 ct1__law_bare (varE 1) [some (.lst (ts.map D.str)), none] h = .ok (.lst ((bareT ts).map D.str)) h := by
    refine lcE_run (l := ts.map D.str) (h1 := h) (by simp) (by rw [sizeLine_eq]; simp; omega) ?_
    have e := lc_mapf (ρ := [some (.lst (ts.map D.str)), none]) (h := h) (f := D.str) (l := ts) (i := 1) (tt := ct1__law_bare) (te := varE 1) (fun x => decide (¬ (x = "(" ∨ x = ")"))) D.str (fun x _ => ?_) fun x _ _ => ?_
    · exact e
    · generalize List.map D.str ts = L at *
      by_cases e1 : x = "(" <;> by_cases e2 : x = ")" <;> simp [ct1__law_bare, nin, e1, e2]
    · generalize List.map D.str ts = L at *
      simp
  generalize List.map D.str ts = L at *
  simp [m__law_bare, defF_run, b__law_bare, elc]
theorem num_small : ∀ k ∈ tokS, k.1 = "number" → (valT k.2).natAbs.log2 < 1920 := by decide +kernel
theorem textsW_len : ∀ t : Tree, (textsT t).length + 2 ≤ 4 * tsz t
  | .num m => by show 1 + 2 ≤ 4 * 1; omega
  | .reg m => by show 1 + 2 ≤ 4 * 1; omega
  | .ng x => by
    have := textsW_len x
    have h2 := ar_len x (textsT x) 5
    show (arT x (textsT x) 5).length + 1 + 2 ≤ 4 * (tsz x + 1)
    omega
  | .nt x => by
    have := textsW_len x
    have h2 := ar_len x (textsT x) 5
    show (arT x (textsT x) 5).length + 1 + 2 ≤ 4 * (tsz x + 1)
    omega
  | .op s a b => by
    have e1 := textsW_len a
    have e2 := textsW_len b
    have g1 := ar_len a (textsT a) (levS s + if levS s = 2 then 1 else 0)
    have g2 := ar_len b (textsT b) (levS s + 1)
    rw [textsT_op, List.length_append, List.length_cons]
    show _ ≤ 4 * (tsz a + tsz b + 1)
    omega
theorem llevelW_run {t : Tree} (ht : TWf t) (h : Hh) : m__law_level [encTree t] h = .ok (.int (levT t)) h := by
  cases t with
  | op s a b =>
    have hs : s ∈ sevS := ht.1
    unfold encTree levT
    generalize encTree a = ta
    generalize encTree b = tb
    simp only [sevS, List.mem_cons, List.not_mem_nil, or_false] at hs
    rcases hs with rfl | rfl | rfl | rfl | rfl | rfl | rfl
    all_goals simp [m__law_level, defF_run, b__law_level, levS, in_or, in_eq]
  | _ => simp [m__law_level, defF_run, b__law_level, encTree, levT]
theorem aroundW_run {t : Tree} (ht : TWf t) (hd : tsz t ≤ 40) (k l : Nat) (h : Hh) (e1 : m__law_texts k [encTree t] h = .ok (.lst ((textsT t).map D.str)) h) :
    m__law_around (k + 1) [encTree t, .int l] h = .ok (.lst ((arT t (textsT t) l).map D.str)) h := by
  have e0 := fun h => llevelW_run ht h
  have hl := textsW_len t
  rw [m__law_around]
  unfold arT
  generalize textsT t = u at *
  by_cases c1 : levT t < l
  · have c1' : (levT t : Int) < l := by omega
    have ad1 : ∀ h, addD (.lst [.str "("]) (.lst (u.map D.str)) h = .ok (.lst (.str "(" :: u.map D.str)) h := fun h => addD_lst _ _ (by rw [sizeLine_eq]; simp; omega)
    have ad2 : ∀ h, addD (.lst (.str "(" :: u.map D.str)) (.lst [.str ")"]) h = .ok (.lst (.str "(" :: (u.map D.str ++ [.str ")"]))) h := fun h => addD_lst _ _ (by rw [sizeLine_eq]; simp; omega)
    rw [if_pos c1]
    simp only [List.map_cons, List.map_append, List.map_nil]
    generalize List.map D.str u = U at *
    generalize encTree t = TT at *
    simp [defF_run, b__law_around, e0, c1', e1, ad1, ad2]
  · have c1' : ¬ (levT t : Int) < l := by omega
    rw [if_neg c1]
    generalize List.map D.str u = U at *
    generalize encTree t = TT at *
    simp [defF_run, b__law_around, e0, c1', e1]
theorem textsW_run (h : Hh) : ∀ (t : Tree) (k : Nat), TWf t → tsz t ≤ 40 → m__law_texts (2 * tsz t + k) [encTree t] h = .ok (.lst ((textsT t).map D.str)) h
  | .num m, k, ht, hd => by
    obtain ⟨kk, h1, h2, rfl⟩ := ht
    have e1 : ∀ h, strD [.int (valT kk.2)] h = .ok (.str (numS (valT kk.2))) h := fun h => if_pos (num_small kk h1 h2)
    show m__law_texts (2 * 1 + k) _ _ = _
    rw [show 2 * 1 + k = (1 + k) + 1 from by omega, m__law_texts]
    simp [defF_run, b__law_texts, encTree, e1, textsT]
  | .reg r, k, ht, hd => by
    show m__law_texts (2 * 1 + k) _ _ = _
    rw [show 2 * 1 + k = (1 + k) + 1 from by omega, m__law_texts]
    simp [defF_run, b__law_texts, encTree, textsT]
  | .ng x, k, ht, hd => by
    have hd' : tsz x + 1 ≤ 40 := hd
    have e1 := aroundW_run (show TWf x from ht) (by omega) _ 5 h (textsW_run h x k ht (by omega))
    have g1 := textsW_len x
    have g2 := ar_len x (textsT x) 5
    replace e1 : m__law_around (2 * tsz x + k + 1) [encTree x, .int 5] h = _ := e1
    unfold textsT
    generalize arT x (textsT x) 5 = u at *
    have ad1 : ∀ h, addD (.lst [.str "-"]) (.lst (u.map D.str)) h = .ok (.lst (.str "-" :: u.map D.str)) h := fun h => addD_lst _ _ (by rw [sizeLine_eq]; simp; omega)
    show m__law_texts (2 * (tsz x + 1) + k) _ _ = _
    rw [show 2 * (tsz x + 1) + k = (2 * tsz x + k + 1) + 1 from by omega, m__law_texts]
    simp only [List.map_cons]
    unfold encTree
    generalize List.map D.str u = U at *
    generalize encTree x = TT at *
    simp [defF_run, b__law_texts, e1, ad1]
  | .nt x, k, ht, hd => by
    have hd' : tsz x + 1 ≤ 40 := hd
    have e1 := aroundW_run (show TWf x from ht) (by omega) _ 5 h (textsW_run h x k ht (by omega))
    have g1 := textsW_len x
    have g2 := ar_len x (textsT x) 5
    replace e1 : m__law_around (2 * tsz x + k + 1) [encTree x, .int 5] h = _ := e1
    unfold textsT
    generalize arT x (textsT x) 5 = u at *
    have ad1 : ∀ h, addD (.lst [.str "not"]) (.lst (u.map D.str)) h = .ok (.lst (.str "not" :: u.map D.str)) h := fun h => addD_lst _ _ (by rw [sizeLine_eq]; simp; omega)
    show m__law_texts (2 * (tsz x + 1) + k) _ _ = _
    rw [show 2 * (tsz x + 1) + k = (2 * tsz x + k + 1) + 1 from by omega, m__law_texts]
    simp only [List.map_cons]
    unfold encTree
    generalize List.map D.str u = U at *
    generalize encTree x = TT at *
    simp [defF_run, b__law_texts, e1, ad1]
  | .op s x y, k, ht, hd => by
    have hd' : tsz x + tsz y + 1 ≤ 40 := hd
    have e0 := fun h => llevelW_run ht h
    obtain ⟨hS, hx, hy⟩ := ht
    have e1 := aroundW_run hx (by omega) _ (levS s + if levS s = 2 then 1 else 0) h (textsW_run h x (2 * tsz y + k) hx (by omega))
    have e2 := aroundW_run hy (by omega) _ (levS s + 1) h (textsW_run h y (2 * tsz x + k) hy (by omega))
    rw [show 2 * tsz x + (2 * tsz y + k) + 1 = 2 * (tsz x + tsz y) + k + 1 from by omega] at e1
    rw [show 2 * tsz y + (2 * tsz x + k) + 1 = 2 * (tsz x + tsz y) + k + 1 from by omega] at e2
    have g1 := textsW_len x
    have g2 := ar_len x (textsT x) (levS s + if levS s = 2 then 1 else 0)
    have g3 := textsW_len y
    have g4 := ar_len y (textsT y) (levS s + 1)
    rw [textsT_op]
    generalize arT x (textsT x) (levS s + if levS s = 2 then 1 else 0) = u at *
    generalize arT y (textsT y) (levS s + 1) = v at *
    have ad1 : ∀ h, addD (.lst (u.map D.str)) (.lst [.str s]) h = .ok (.lst (u.map D.str ++ [.str s])) h := fun h => addD_lst _ _ (by rw [sizeLine_eq]; simp; omega)
    have ad2 : ∀ h, addD (.lst (u.map D.str ++ [.str s])) (.lst (v.map D.str)) h = .ok (.lst (u.map D.str ++ .str s :: v.map D.str)) h := fun h => by
      rw [addD_lst _ _ (by rw [sizeLine_eq]; simp; omega), List.append_assoc]; rfl
    show m__law_texts (2 * (tsz x + tsz y + 1) + k) _ _ = _
    rw [show 2 * (tsz x + tsz y + 1) + k = (2 * (tsz x + tsz y) + k + 1) + 1 from by omega, m__law_texts]
    have eL : levT (.op s x y) = levS s := rfl
    rw [eL] at e0
    simp only [List.map_cons, List.map_append]
    unfold encTree at e0 ⊢
    generalize 2 * (tsz x + tsz y) + k + 1 = F at *
    generalize List.map D.str u = U at *
    generalize List.map D.str v = V at *
    generalize encTree x = TX at *
    generalize encTree y = TY at *
    by_cases c2 : levS s = 2
    · rw [c2] at e0 e1 e2
      simp at e0 e1 e2
      simp [defF_run, b__law_texts, e0, e1, e2, ad1, ad2]
    · rw [if_neg c2] at e1
      have c2' : ¬ ((levS s : Int) = 2) := by omega
      simp at e1 e2
      simp [defF_run, b__law_texts, e0, e1, e2, ad1, ad2, c2']
theorem num_tok : ∀ m ∈ ([0, 1, 2, 9, 10, 99] : List Int), ∃ k ∈ tokS, k.1 = "number" ∧ m = valT k.2 := by decide +kernel
theorem wf_tok : ∀ (t : Tree) (n : Nat), TOk n t → TWf t ∧ tsz t + 1 ≤ 2 * 2 ^ n
  | .num m, n, ht => by
    have hm : m ∈ ([0, 1, 2, 9, 10, 99] : List Int) := by cases n <;> exact ht
    have h1 : 1 ≤ 2 ^ n := Nat.one_le_two_pow
    obtain ⟨k, a, b, c⟩ := num_tok m hm
    exact ⟨⟨k, a, b, c⟩, by show 1 + 1 ≤ _; omega⟩
  | .reg m, n, ht => by
    have hm : m ∈ (["a", "b", "c", "d"] : List Str) := by cases n <;> exact ht
    have h1 : 1 ≤ 2 ^ n := Nat.one_le_two_pow
    exact ⟨hm, by show 1 + 1 ≤ _; omega⟩
  | .ng x, n + 1, ht => by
    have h1 : 1 ≤ 2 ^ n := Nat.one_le_two_pow
    have h3 : 2 ^ (n + 1) = 2 * 2 ^ n := by rw [Nat.pow_succ]; omega
    have := wf_tok x n ht
    exact ⟨this.1, by show tsz x + 1 + 1 ≤ _; omega⟩
  | .nt x, n + 1, ht => by
    have h1 : 1 ≤ 2 ^ n := Nat.one_le_two_pow
    have h3 : 2 ^ (n + 1) = 2 * 2 ^ n := by rw [Nat.pow_succ]; omega
    have := wf_tok x n ht
    exact ⟨this.1, by show tsz x + 1 + 1 ≤ _; omega⟩
  | .op s a b, n + 1, ht => by
    have h3 : 2 ^ (n + 1) = 2 * 2 ^ n := by rw [Nat.pow_succ]; omega
    have e1 := wf_tok a n ht.2.1
    have e2 := wf_tok b n ht.2.2
    exact ⟨⟨ht.1, e1.1, e2.1⟩, by show tsz a + tsz b + 1 + 1 ≤ _; omega⟩
theorem tokS_mem {x : Str} (h : x ∈ allX) : (kdT x, x) ∈ tokS := List.mem_append_left _ (List.mem_map.mpr ⟨x, h, rfl⟩)
def tkL : List Str := ["a", "d", "7", "not", "-", "(", ")", "+", "=", "<", "*", "and", "or", "e", "if", "(", ")"]
theorem token_run (ds : List Int) (G : Hh) (a : Nat) : ∃ k a', k ∈ tokS ∧ m__law_token [.ref 0] (bx ds a :: G) = .ok (encTk k) (bx ds a' :: G) := by
  obtain ⟨v, g1, g2, e1⟩ := draw_run ds a 0 (bx ds a :: G) 17 (by omega) rfl
  obtain ⟨w, g3, g4, e2⟩ := draw_run ds (a + 1) 0 (bx ds (a + 1) :: G) 12 (by omega) rfl
  simp at e1 e2
  obtain ⟨p, rfl⟩ : ∃ p : Nat, v = p := ⟨v.toNat, by omega⟩
  have hp : p < tkL.length := by show p < 17; omega
  have ex : ∀ h, ixD (.lst (tkL.map D.str)) (.int p) h = .ok (.str tkL[p]) h := fun h => by
    have : tkL[p]? = some tkL[p] := List.getElem?_eq_getElem hp
    generalize tkL[p] = y at *
    simp [atI_natE, this]
  replace ex : ∀ h, ixD (.lst [.str "a", .str "d", .str "7", .str "not", .str "-", .str "(", .str ")", .str "+", .str "=", .str "<", .str "*", .str "and", .str "or", .str "e", .str "if", .str "(", .str ")"]) (.int p) h = .ok (.str tkL[p]) h := ex
  have hx : tkL[p] ∈ allX := (show ∀ x ∈ tkL, x ∈ allX from by decide +kernel) _ (List.getElem_mem hp)
  generalize tkL[p] = x at *
  have e3 := fun h => lparts_run (ts := [x]) (fun y hy => by rw [List.mem_singleton.mp hy]; exact hx) (by simp) h
  replace e3 : ∀ h, m__law_parts [.lst [.str x]] h = .ok (.lst [encTk (kdT x, x)]) h := e3
  by_cases c : w = 0
  · refine ⟨("bad", ";"), a + 1 + 1, List.mem_append_right _ (List.mem_singleton.mpr rfl), ?_⟩
    simp [m__law_token, defF_run, b__law_token, e1, ex, e2, c, encTk]
  · refine ⟨(kdT x, x), a + 1 + 1, tokS_mem hx, ?_⟩
    generalize encTk (kdT x, x) = E at *
    simp [m__law_token, defF_run, b__law_token, e1, ex, e2, c, e3]
theorem cutD_from' {l : List D} {k : Nat} : Ev.cutD l (some (k : Int)) none = l.drop k := by
  unfold Ev.cutD
  rw [HT.sIx_nat, HT.sIx_none, List.take_of_length_le (by rw [List.length_drop]; omega)]
  by_cases hk : k ≤ l.length
  · rw [Nat.min_eq_left hk]
  · rw [Nat.min_eq_right (by omega), List.drop_eq_nil_of_le (Nat.le_refl _), List.drop_eq_nil_of_le (by omega)]
theorem drawn_loop (ds : List Int) (G : Hh) (n : Nat) (hn : n ≤ 3) (v1 : Option D) (ts : List Tk) (hm : ∀ k ∈ ts, k ∈ tokS) (hl : ts.length ≤ 200) (a : Nat) : ∃ (ts' : List Tk) (a' : Nat) (w3 w4 w5 : Option D), (∀ k ∈ ts', k ∈ tokS) ∧ ts'.length ≤ 203 ∧
    loopS (fun _ => True) (gNm 3) x1__law_drawn (rngL 0 n) [some (.ref 0), v1, some (.lst (ts.map encTk)), none, none, none] (bx ds a :: G) = .nx [some (.ref 0), v1, some (.lst (ts'.map encTk)), w3, w4, w5] (bx ds a' :: G) := by
  obtain ⟨ρ', h', e, ts', a', hm', hl', ⟨w3, w4, w5, rfl⟩, rfl⟩ := lp_rng (x := x1__law_drawn) (g := gNm 3) (lo := 0) (n := n) (ρ := [some (.ref 0), v1, some (.lst (ts.map encTk)), none, none, none]) (h := bx ds a :: G)
    (fun i ρ h' => ∃ (ts' : List Tk) (a' : Nat), (∀ k ∈ ts', k ∈ tokS) ∧ ts'.length ≤ 200 + i ∧ (∃ w3 w4 w5, ρ = [some (.ref 0), v1, some (.lst (ts'.map encTk)), w3, w4, w5]) ∧ h' = bx ds a' :: G)
    ⟨ts, a, hm, hl, ⟨none, none, none, rfl⟩, rfl⟩ (by
      rintro i ρ h1 hi ⟨ts, a, hm, hl, ⟨w3, w4, w5, rfl⟩, rfl⟩
      obtain ⟨v, g1, g2, e1⟩ := draw_run ds a 0 (bx ds a :: G) (ts.length + 1) (by omega) rfl
      obtain ⟨w, g3, g4, e2⟩ := draw_run ds (a + 1) 0 (bx ds (a + 1) :: G) 3 (by omega) rfl
      obtain ⟨kt, a2, hkt, e3⟩ := token_run ds G (a + 1 + 1)
      obtain ⟨p, rfl⟩ : ∃ p : Nat, v = p := ⟨v.toNat, by omega⟩
      have ln : ∀ h, lenD [.lst (ts.map encTk)] h = .ok (.int ts.length) h := fun h => by simp
      have s1 : ∀ h, slD (.lst (ts.map encTk)) none (some (p : Int)) h = .ok (.lst ((ts.take p).map encTk)) h := fun h => by
        show Res.ok (D.lst (Ev.cutD _ _ _)) h = _
        rw [cutD_to', List.map_take]
      have s2 : ∀ h, slD (.lst (ts.map encTk)) (some (p : Int)) none h = .ok (.lst ((ts.drop p).map encTk)) h := fun h => by
        show Res.ok (D.lst (Ev.cutD _ _ _)) h = _
        rw [cutD_from', List.map_drop]
      have s3 : ∀ h, slD (.lst (ts.map encTk)) (some ((p : Int) + 1)) none h = .ok (.lst ((ts.drop (p + 1)).map encTk)) h := fun h => by
        show Res.ok (D.lst (Ev.cutD _ _ _)) h = _
        rw [show (p : Int) + 1 = ((p + 1 : Nat) : Int) from rfl, cutD_from', List.map_drop]
      have l1 : (ts.take p).length ≤ ts.length := by rw [List.length_take]; omega
      have l2 : (ts.drop p).length = ts.length - p := List.length_drop ..
      have l3 : (ts.drop (p + 1)).length = ts.length - (p + 1) := List.length_drop ..
      have l1' : (ts.take p).length = p := by rw [List.length_take]; omega
      have m1 : ∀ k ∈ ts.take p, k ∈ tokS := fun k hk => hm k (List.mem_of_mem_take hk)
      have m2 : ∀ k ∈ ts.drop p, k ∈ tokS := fun k hk => hm k (List.mem_of_mem_drop hk)
      have m3 : ∀ k ∈ ts.drop (p + 1), k ∈ tokS := fun k hk => hm k (List.mem_of_mem_drop hk)
      simp at e1 e2
      generalize hA : ts.take p = A at *
      generalize hB : ts.drop p = B at *
      generalize hC : ts.drop (p + 1) = C at *
      have ad1 : ∀ h, addD (.lst (A.map encTk)) (.lst [encTk kt]) h = .ok (.lst ((A ++ [kt]).map encTk)) h := fun h => by
        rw [addD_lst _ _ (by rw [sizeLine_eq]; simp; omega), List.map_append]; rfl
      have ad2 : ∀ h, addD (.lst ((A ++ [kt]).map encTk)) (.lst (B.map encTk)) h = .ok (.lst ((A ++ [kt] ++ B).map encTk)) h := fun h => by
        rw [addD_lst _ _ (by rw [sizeLine_eq]; simp; omega), ← List.map_append]
      have ad3 : ∀ h, addD (.lst (A.map encTk)) (.lst (C.map encTk)) h = .ok (.lst ((A ++ C).map encTk)) h := fun h => by
        rw [addD_lst _ _ (by rw [sizeLine_eq]; simp; omega), ← List.map_append]
      have ad4 : ∀ h, addD (.lst ((A ++ [kt]).map encTk)) (.lst (C.map encTk)) h = .ok (.lst ((A ++ [kt] ++ C).map encTk)) h := fun h => by
        rw [addD_lst _ _ (by rw [sizeLine_eq]; simp; omega), ← List.map_append]
      obtain ⟨I, hI⟩ : ∃ I : Ev.Env → Hh → Prop, I = fun ρ h' => ∃ (ts' : List Tk) (a' : Nat), (∀ k ∈ ts', k ∈ tokS) ∧ ts'.length ≤ 200 + (i + 1) ∧ (∃ w3 w4 w5, ρ = [some (.ref 0), v1, some (.lst (ts'.map encTk)), w3, w4, w5]) ∧ h' = bx ds a' :: G := ⟨_, rfl⟩
      have hII : ∀ (ts' : List Tk) (a' : Nat) (w3 w4 w5 : Option D), (∀ k ∈ ts', k ∈ tokS) → ts'.length ≤ 200 + (i + 1) → I [some (.ref 0), v1, some (.lst (ts'.map encTk)), w3, w4, w5] (bx ds a' :: G) := by
        intro ts' a' w3 w4 w5 q1 q2
        rw [hI]
        exact ⟨ts', a', q1, q2, ⟨w3, w4, w5, rfl⟩, rfl⟩
      have mk : ∀ k ∈ [kt], k ∈ tokS := fun k hk => by rw [List.mem_singleton.mp hk]; exact hkt
      have app : ∀ {X Y : List Tk}, (∀ k ∈ X, k ∈ tokS) → (∀ k ∈ Y, k ∈ tokS) → ∀ k ∈ X ++ Y, k ∈ tokS := fun hX hY k hk => (List.mem_append.mp hk).elim (hX k) (hY k)
      have f0 := hII ts (a + 1 + 1) (some (.int i)) (some (.int p)) (some (.int w)) hm (by omega)
      have f1 := hII (A ++ [kt] ++ B) a2 (some (.int i)) (some (.int p)) (some (.int 0)) (app (app m1 mk) m2) (by simp; omega)
      have f2 := hII (A ++ C) (a + 1 + 1) (some (.int i)) (some (.int p)) (some (.int 1)) (app m1 m3) (by simp; omega)
      have f3 := hII (A ++ [kt] ++ C) a2 (some (.int i)) (some (.int p)) (some (.int 2)) (app (app m1 mk) m3) (by simp; omega)
      rw [← hI]
      generalize List.map encTk (A ++ [kt] ++ B) = R1 at *
      generalize List.map encTk (A ++ [kt] ++ C) = R3 at *
      generalize List.map encTk (A ++ [kt]) = R0 at *
      generalize List.map encTk (A ++ C) = R2 at *
      generalize List.map encTk A = MA at *
      generalize List.map encTk B = MB at *
      generalize List.map encTk C = MC at *
      generalize List.map encTk ts = MT at *
      obtain rfl | rfl | rfl : w = 0 ∨ w = 1 ∨ w = 2 := by omega
      · simp [x1__law_drawn, ln, e1, e2, e3, s1, s2, ad1, ad2]
        exact f1
      · simp [x1__law_drawn, ln, e1, e2, s1, s3, ad3]
        exact f2
      · simp [x1__law_drawn, ln, e1, e2, e3, s1, s3, ad1, ad4]
        exact f3)
  exact ⟨ts', a', w3, w4, w5, hm', by omega, e⟩
theorem drawn_run (ds : List Int) (G : Hh) (a : Nat) : ∃ (ts : List Tk) (a' : Nat), (∀ k ∈ ts, k ∈ tokS) ∧ ts.length ≤ 203 ∧ m__law_drawn [.ref 0] (bx ds a :: G) = .ok (.lst (ts.map encTk)) (bx ds a' :: G) := by
  obtain ⟨x, g1, g2, e1⟩ := draw_run ds a 0 (bx ds a :: G) 6 (by omega) rfl
  simp at e1
  by_cases c : x = 0
  · obtain ⟨y, g3, g4, e2⟩ := draw_run ds (a + 1) 0 (bx ds (a + 1) :: G) 8 (by omega) rfl
    obtain ⟨z, g5, g6, e3⟩ := draw_run ds (a + 1 + 1) 0 (bx ds (a + 1 + 1) :: G) (y + 2) (by omega) rfl
    simp at e2 e3
    obtain ⟨p, rfl⟩ : ∃ p : Nat, y = p := ⟨y.toNat, by omega⟩
    obtain ⟨q, rfl⟩ : ∃ q : Nat, z = q := ⟨z.toNat, by omega⟩
    have mul : ∀ (d : D) (n : Nat) h, n ≤ 1000 → mulD (.lst [d]) (.int n) h = .ok (.lst (List.replicate n d)) h := by
      intro d n h hn
      have e : mulD (.lst [d]) (.int n) h = if 0 ≤ (n : Int) ∧ (n : Int) ≤ 1000 ∧ [d].length ≤ 1000 then .ok (.lst (List.replicate ((n : Int)).toNat [d]).flatten) h else .stuck := rfl
      rw [e, if_pos ⟨by omega, by omega, by simp⟩, Int.toNat_natCast, List.flatten_replicate_singleton]
    have m1 := fun h => mul (.tup [.str "sign", .str "("]) p h (by omega)
    have m2 := fun h => mul (.tup [.str "sign", .str ")"]) q h (by omega)
    refine ⟨List.replicate p tOpn ++ ([(("word" : Str), ("b" : Str))] : List Tk) ++ List.replicate q tClo, a + 1 + 1 + 1, ?_, by simp; omega, ?_⟩
    · intro k hk
      rcases List.mem_append.mp hk with hk | hk
      · rcases List.mem_append.mp hk with hk | hk
        · rw [(List.mem_replicate.mp hk).2]; decide +kernel
        · rw [List.mem_singleton.mp hk]; decide +kernel
      · rw [(List.mem_replicate.mp hk).2]; decide +kernel
    · have ad1 : ∀ h, addD (.lst (List.replicate p (.tup [.str "sign", .str "("]))) (.lst [.tup [.str "word", .str "b"]]) h = .ok (.lst (List.replicate p (.tup [.str "sign", .str "("]) ++ [.tup [.str "word", .str "b"]])) h := fun h => addD_lst _ _ (by rw [sizeLine_eq]; simp; omega)
      have ad2 : ∀ h, addD (.lst (List.replicate p (.tup [.str "sign", .str "("]) ++ [.tup [.str "word", .str "b"]])) (.lst (List.replicate q (.tup [.str "sign", .str ")"]))) h = .ok (.lst (List.replicate p (.tup [.str "sign", .str "("]) ++ [.tup [.str "word", .str "b"]] ++ List.replicate q (.tup [.str "sign", .str ")"]))) h := fun h => addD_lst _ _ (by rw [sizeLine_eq]; simp; omega)
      have eR : (List.replicate p tOpn ++ ([(("word" : Str), ("b" : Str))] : List Tk) ++ List.replicate q tClo).map encTk = List.replicate p (.tup [.str "sign", .str "("]) ++ [.tup [.str "word", .str "b"]] ++ List.replicate q (.tup [.str "sign", .str ")"]) := by
        rw [List.map_append, List.map_append, List.map_replicate, List.map_replicate]
        rfl
      rw [eR]
      generalize List.replicate p (D.tup [.str "sign", .str "("]) ++ [.tup [.str "word", .str "b"]] ++ List.replicate q (.tup [.str "sign", .str ")"]) = R3 at *
      generalize List.replicate p (D.tup [.str "sign", .str "("]) ++ [.tup [.str "word", .str "b"]] = R2 at *
      generalize List.replicate p (D.tup [.str "sign", .str "("]) = R1 at *
      generalize List.replicate q (D.tup [.str "sign", .str ")"]) = R0 at *
      simp [m__law_drawn, defF_run, b__law_drawn, e1, c, e2, e3, m1, m2, ad1, ad2]
  · obtain ⟨y, g3, g4, e2⟩ := draw_run ds (a + 1) 0 (bx ds (a + 1) :: G) 4 (by omega) rfl
    simp at e2
    obtain ⟨d, hd, hd1⟩ : ∃ d : Nat, 1 + y = (d : Int) ∧ d ≤ 4 := ⟨(1 + y).toNat, by omega, by omega⟩
    obtain ⟨t, a1, ht, e3⟩ := tree_run ds 0 d (5 - d) (a + 1 + 1) (bx ds (a + 1 + 1) :: G) rfl
    rw [show d + 1 + (5 - d) = 6 from by omega] at e3
    simp at e3
    have h96 : 2 ^ d ≤ 2 ^ 4 := Nat.pow_le_pow_right (by omega) hd1
    obtain ⟨hw, hz⟩ := wf_tok t d ht
    have e4 := textsW_run (bx ds a1 :: G) t (176 - 2 * tsz t) hw (by omega)
    rw [show 2 * tsz t + (176 - 2 * tsz t) = 176 from by omega] at e4
    have hlen := textsW_len t
    have hx := texts_x t d ht
    have e5 := fun h => lparts_run hx (by omega) h
    obtain ⟨n, g5, g6, e6⟩ := draw_run ds a1 0 (bx ds a1 :: G) 4 (by omega) rfl
    simp at e6
    obtain ⟨n, rfl⟩ : ∃ p : Nat, n = p := ⟨n.toNat, by omega⟩
    obtain ⟨ts', a', w3, w4, w5, hm, hl, e7⟩ := drawn_loop ds G n (by omega) none (tkn (textsT t)) (fun k hk => by
      obtain ⟨z, hz, rfl⟩ := List.mem_map.mp hk
      exact tokS_mem (hx z hz)) (by rw [tkn_len]; omega) (a1 + 1)
    refine ⟨ts', a', hm, hl, ?_⟩
    have hi : i62 (n : Int) := by unfold i62; omega
    generalize List.map encTk (tkn (textsT t)) = L1 at *
    generalize List.map D.str (textsT t) = L2 at *
    generalize List.map encTk ts' = L3 at *
    generalize encTree t = TT at *
    simp [m__law_drawn, defF_run, b__law_drawn, e1, c, e2, hd, e3, e4, e5, e6, rngD_1 hi, e7]
theorem tokS_tk : ∀ k ∈ tokS, TkOk k := by
  intro k hk
  rcases List.mem_append.mp hk with hk | hk
  · obtain ⟨x, hx, rfl⟩ := List.mem_map.mp hk
    exact allX_tk hx
  · rw [List.mem_singleton.mp hk]
    exact ⟨by decide +kernel, by decide +kernel, fun z => absurd z (by decide)⟩
theorem nonD_tree (t : Tree) : nonD (encTree t) = false := by cases t <;> rfl
theorem law_true (ns : List Int) (hl : ns.length ≤ 63) : ∃ h', m_law [.scr ns] [] = .ok (.bl true) h' := by
  obtain ⟨ds, hds, ed⟩ := digits2_run ns []
  have eb : [O.lst [.lst (ds.map D.int), .int 0]] = [bx ds 0] := rfl
  have h2 : i62 (2 : Int) := by unfold i62; omega
  obtain ⟨ρ', h', e, ⟨w2, w3, w4, w5, w6, w7, rfl⟩, a, rfl⟩ := lp_rng (x := x2_law) (g := gNm 2) (lo := 0) (n := 2) (ρ := [some (.scr ns), some (.ref 0), none, none, none, none, none, none]) (h := [bx ds 0])
    (fun _ ρ h' => (∃ w2 w3 w4 w5 w6 w7, ρ = [some (.scr ns), some (.ref 0), w2, w3, w4, w5, w6, w7]) ∧ ∃ a, h' = [bx ds a]) ⟨⟨none, none, none, none, none, none, rfl⟩, 0, rfl⟩ (by
      rintro i ρ h1 hi ⟨⟨w2, w3, w4, w5, w6, w7, rfl⟩, a, rfl⟩
      obtain ⟨ts, a1, hm, hl, e1⟩ := drawn_run ds [] a
      have e2 : ∀ w4 w5 w6 w7 h, lcE (seqI (varE 3)) 7 tYesE ce1_law [some (.scr ns), some (.ref 0), some (.int i), some (.lst (ts.map encTk)), w4, w5, w6, w7] h = .ok (.lst ((ts.map Prod.snd).map D.str)) h := by
        intro w4 w5 w6 w7 h
        refine lcE_run (l := ts.map encTk) (h1 := h) (by generalize List.map encTk ts = L; simp) (by rw [sizeLine_eq]; simp; omega) ?_
        have e := lc_mapf (ρ := [some (.scr ns), some (.ref 0), some (.int i), some (.lst (ts.map encTk)), w4, w5, w6, w7]) (h := h) (f := encTk) (l := ts) (i := 7) (tt := tYesE) (te := ce1_law) (fun _ => true) (fun k => D.str k.2) (fun x _ => by simp [tYesE]) fun x _ _ => by
          have := encTk1 x h
          generalize List.map encTk ts = L
          generalize encTk x = X at *
          simp [ce1_law, this]
        rw [e, List.filter_eq_self.mpr fun _ _ => rfl, List.map_map]
        rfl
      have e3 : ∀ w4 w5 w6 w7 h, lcE (seqI (varE 3)) 7 tYesE (varE 7) [some (.scr ns), some (.ref 0), some (.int i), some (.lst (ts.map encTk)), w4, w5, w6, w7] h = .ok (.lst (ts.map encTk)) h := by
        intro w4 w5 w6 w7 h
        refine lcE_run (l := ts.map encTk) (h1 := h) (by generalize List.map encTk ts = L; simp) (by rw [sizeLine_eq]; simp; omega) ?_
        have e := lc_mapf (ρ := [some (.scr ns), some (.ref 0), some (.int i), some (.lst (ts.map encTk)), w4, w5, w6, w7]) (h := h) (f := encTk) (l := ts) (i := 7) (tt := tYesE) (te := varE 7) (fun _ => true) encTk (fun x _ => by simp [tYesE]) fun x _ _ => by
          generalize List.map encTk ts = L
          generalize encTk x = X at *
          simp
        rw [e, List.filter_eq_self.mpr fun _ _ => rfl]
      have e4 := fun h => ise_run ts hm (by omega) h
      have e5 := fun h => ldepth_run (ts.map Prod.snd) h
      have e6 := fun h => readx_run (ts := ts) (fun k hk => tokS_tk k (hm k hk)) h
      have ln : ∀ h, lenD [.lst (ts.map encTk)] h = .ok (.int ts.length) h := fun h => by simp
      have mf := most_fit (ts.map Prod.snd) 0 0
      have e9 := fun h => bare_run (ts.map Prod.snd) (by simp; omega) h
      generalize hM : (mostS (0, 0) (ts.map Prod.snd)).2 = M at *
      obtain ⟨I, hI⟩ : ∃ I : Ev.Env → Hh → Prop, I = fun ρ h' => (∃ w2 w3 w4 w5 w6 w7, ρ = [some (.scr ns), some (.ref 0), w2, w3, w4, w5, w6, w7]) ∧ ∃ a, h' = [bx ds a] := ⟨_, rfl⟩
      have hII : ∀ w2 w3 w4 w5 w6 w7, I [some (.scr ns), some (.ref 0), w2, w3, w4, w5, w6, w7] [bx ds a1] := by
        intro w2 w3 w4 w5 w6 w7
        rw [hI]
        exact ⟨⟨_, _, _, _, _, _, rfl⟩, _, rfl⟩
      rw [← hI]
      rcases readP_exp ts hm with ⟨q1, q2, q3, t, q4, q5, q6, q7⟩ | ⟨q1, q2⟩
      · rw [q4] at e6
        simp only [encOT] at e6
        rw [q2] at e4
        have e7 := textsW_run [bx ds a1] t (176 - 2 * tsz t) q5 (by omega)
        rw [show 2 * tsz t + (176 - 2 * tsz t) = 176 from by omega] at e7
        have hlen := textsW_len t
        have e8 := fun h => bare_run (textsT t) (by omega) h
        rw [q7] at e8
        have e10 := fun h => same_run 29 (.lst ((bareK ts).map D.str)) (by
          refine ⟨?_, ?_⟩
          · rw [List.length_map]
            have : (bareK ts).length ≤ (ts.map Prod.snd).length := List.length_filter_le ..
            rw [List.length_map] at this
            omega
          · intro d hd
            obtain ⟨x, _, rfl⟩ := List.mem_map.mp hd
            trivial) h
        have nt := nonD_tree t
        have hM5 : M ≤ 5 := mf.mpr ⟨by omega, q3⟩
        have hl20 : (ts.length : Int) ≤ 20 := by omega
        replace e9 : ∀ h, m__law_bare [.lst ((ts.map Prod.snd).map D.str)] h = .ok (.lst ((bareK ts).map D.str)) h := e9
        have f0 := fun w7 => hII (some (.int i)) (some (.lst (ts.map encTk))) (some (.lst ((ts.map Prod.snd).map D.str))) (some (.bl true)) (some (encTree t)) w7
        generalize List.map D.str (bareK ts) = L5 at *
        generalize List.map D.str (textsT t) = L4 at *
        generalize List.map D.str (List.map Prod.snd ts) = L3 at *
        generalize List.map encTk ts = L1 at *
        generalize encTree t = TT at *
        simp [x2_law, e1, e2, e3, e4, ln, hl20, e5, hM5, e6, nt, e7, e8, e9, e10]
        exact f0 _
      · rw [q2] at e6
        simp only [encOT] at e6
        have f0 := fun w7 => hII (some (.int i)) (some (.lst (ts.map encTk))) (some (.lst ((ts.map Prod.snd).map D.str))) (some (.bl false)) (some .non) w7
        have hdue : (fin (brun aStep ([false], true) ts) && (decide ((ts.length : Int) ≤ 20) && decide (M ≤ 5))) = false := by
          cases g : fin (brun aStep ([false], true) ts) with
          | false => rfl
          | true =>
            by_cases g2 : (ts.length : Int) ≤ 20
            · by_cases g3 : M ≤ 5
              · exact absurd ⟨g, by omega, (mf.mp g3).2⟩ q1
              · simp [g3]
            · simp [g2]
        generalize fin (brun aStep ([false], true) ts) = B at *
        generalize List.map D.str (List.map Prod.snd ts) = L3 at *
        generalize List.map encTk ts = L1 at *
        cases B with
        | false =>
          simp [x2_law, e1, e2, e3, e4, e6, nonD]
          exact f0 _
        | true =>
          by_cases g2 : (ts.length : Int) ≤ 20
          · have g3 : ¬ M ≤ 5 := fun z => by simp [g2, z] at hdue
            simp [x2_law, e1, e2, e3, e4, ln, g2, e5, g3, e6, nonD]
            exact f0 _
          · simp [x2_law, e1, e2, e3, e4, ln, g2, e6, nonD]
            exact f0 _)
  refine ⟨[], ?_⟩
  unfold m_law
  refine cut_ok (g := [bx ds a]) ?_ rfl
  simp [defF_run, b_law, ed, eb, rngD_1 h2, e]
end G_k04

set_option maxHeartbeats 4000000
namespace G_k04
open PySem PySem.Spec PyProof.Rows L2 Ev
theorem all_mk {l : PySem.W.OpenLaw} {w : World} {K : PySem.W.Frag} {h : Heap} {mg : Str → Option Value} {fa : Addr} (X : K.In h) (G : h.Ns mainGlobals mg) (hfa : mg "law" = some (.ref fa))
    {C_Reader : Addr} {f0 : Addr} {od0 an0 : Option Addr} {sl0 : Array (Option Value)} {oc0 kV0 dc0 pm0 cd0 ct0 : Value} {f1 : Addr} {od1 an1 : Option Addr} {sl1 : Array (Option Value)} {oc1 kV1 dc1 pm1 cd1 ct1 : Value} {f2 : Addr} {od2 an2 : Option Addr} {sl2 : Array (Option Value)} {oc2 kV2 dc2 pm2 cd2 ct2 : Value} {f3 : Addr} {od3 an3 : Option Addr} {sl3 : Array (Option Value)} {oc3 kV3 dc3 pm3 cd3 ct3 : Value} {f4 : Addr} {od4 an4 : Option Addr} {sl4 : Array (Option Value)} {oc4 kV4 dc4 pm4 cd4 ct4 : Value} {f5 : Addr} {od5 an5 : Option Addr} {sl5 : Array (Option Value)} {oc5 kV5 dc5 pm5 cd5 ct5 : Value} {f6 : Addr} {od6 an6 : Option Addr} {sl6 : Array (Option Value)} {oc6 kV6 dc6 pm6 cd6 ct6 : Value} {f7 : Addr} {od7 an7 : Option Addr} {sl7 : Array (Option Value)} {oc7 kV7 dc7 pm7 cd7 ct7 : Value} {f8 : Addr} {od8 an8 : Option Addr} {sl8 : Array (Option Value)} {oc8 kV8 dc8 pm8 cd8 ct8 : Value} {f9 : Addr} {od9 an9 : Option Addr} {sl9 : Array (Option Value)} {oc9 kV9 dc9 pm9 cd9 ct9 : Value} {f10 : Addr} {od10 an10 : Option Addr} {sl10 : Array (Option Value)} {oc10 kV10 dc10 pm10 cd10 ct10 : Value} {f11 : Addr} {od11 an11 : Option Addr} {sl11 : Array (Option Value)} {oc11 kV11 dc11 pm11 cd11 ct11 : Value} {f12 : Addr} {od12 an12 : Option Addr} {sl12 : Array (Option Value)} {oc12 kV12 dc12 pm12 cd12 ct12 : Value} {f13 : Addr} {od13 an13 : Option Addr} {sl13 : Array (Option Value)} {oc13 kV13 dc13 pm13 cd13 ct13 : Value} {f14 : Addr} {od14 an14 : Option Addr} {sl14 : Array (Option Value)} {oc14 kV14 dc14 pm14 cd14 ct14 : Value} {f15 : Addr} {od15 an15 : Option Addr} {sl15 : Array (Option Value)} {oc15 kV15 dc15 pm15 cd15 ct15 : Value} {f16 : Addr} {od16 an16 : Option Addr} {sl16 : Array (Option Value)} {oc16 kV16 dc16 pm16 cd16 ct16 : Value} {f17 : Addr} {od17 an17 : Option Addr} {sl17 : Array (Option Value)} {oc17 kV17 dc17 pm17 cd17 ct17 : Value} {f18 : Addr} {od18 an18 : Option Addr} {sl18 : Array (Option Value)} {oc18 kV18 dc18 pm18 cd18 ct18 : Value} {f19 : Addr} {od19 an19 : Option Addr} {sl19 : Array (Option Value)} {oc19 kV19 dc19 pm19 cd19 ct19 : Value} {f20 : Addr} {od20 an20 : Option Addr} {sl20 : Array (Option Value)} {oc20 kV20 dc20 pm20 cd20 ct20 : Value} {f21 : Addr} {od21 an21 : Option Addr} {sl21 : Array (Option Value)} {oc21 kV21 dc21 pm21 cd21 ct21 : Value} {u_REGISTERS : Value} {t_MOST_TOKENS : Tok} {t_MOST_BRACKETS : Tok} {u_LEVELS : Value} {t_CLAIM : Tok}
    (oa_Reader : PySem.W.nsIn K mainGlobals "Reader" = some (some (.ref C_Reader))) (pg_Reader : PySem.W.plainGet K C_Reader Str.empty = true) (hd_Reader : PySem.W.hasDictIn K C_Reader = true) (po_Reader : PySem.W.plainOver K C_Reader = true) (sa_Reader : PySem.W.findIn K (.ref C_Reader) "__setattr__" = some (some (.builtin "object.__setattr__"))) (mk_Reader : PySem.W.makesIn K C_Reader = true) (kc_Reader : PySem.W.keepIn K (.ref C_Reader) = true) (no_Reader_at : PySem.W.findIn K (.ref C_Reader) "at" = some none) (no_Reader_depth : PySem.W.findIn K (.ref C_Reader) "depth" = some none) (no_Reader_failed : PySem.W.findIn K (.ref C_Reader) "failed" = some none) (no_Reader_parts : PySem.W.findIn K (.ref C_Reader) "parts" = some none)
    (a0 : PySem.W.nsIn K mainGlobals "read_expression" = some (some (.ref f0))) (l0 : K.lookup f0 = some ⟨oc0, od0, .func (PySem.W.fnOf "read_expression" "read_expression" (defArgs (topS 7)) (defBody (topS 7)) (defScope (topS 7)) .none kV0 dc0 pm0 an0 cd0 ct0), sl0⟩) (e0 : PySem.W.codeIn K cd0 "read_expression" = true) (k0 : PySem.W.keepIn K (.ref f0) = true)
    (a1 : PySem.W.nsIn K mainGlobals "_law_cell" = some (some (.ref f1))) (l1 : K.lookup f1 = some ⟨oc1, od1, .func (PySem.W.fnOf "_law_cell" "_law_cell" (defArgs (topS 9)) (defBody (topS 9)) (defScope (topS 9)) .none kV1 dc1 pm1 an1 cd1 ct1), sl1⟩) (e1 : PySem.W.codeIn K cd1 "_law_cell" = true) (k1 : PySem.W.keepIn K (.ref f1) = true)
    (a2 : PySem.W.nsIn K mainGlobals "_law_digits" = some (some (.ref f2))) (l2 : K.lookup f2 = some ⟨oc2, od2, .func (PySem.W.fnOf "_law_digits" "_law_digits" (defArgs (topS 10)) (defBody (topS 10)) (defScope (topS 10)) .none kV2 dc2 pm2 an2 cd2 ct2), sl2⟩) (e2 : PySem.W.codeIn K cd2 "_law_digits" = true) (k2 : PySem.W.keepIn K (.ref f2) = true)
    (a3 : PySem.W.nsIn K mainGlobals "_law_draw" = some (some (.ref f3))) (l3 : K.lookup f3 = some ⟨oc3, od3, .func (PySem.W.fnOf "_law_draw" "_law_draw" (defArgs (topS 11)) (defBody (topS 11)) (defScope (topS 11)) .none kV3 dc3 pm3 an3 cd3 ct3), sl3⟩) (e3 : PySem.W.codeIn K cd3 "_law_draw" = true) (k3 : PySem.W.keepIn K (.ref f3) = true)
    (a4 : PySem.W.nsIn K mainGlobals "_law_same" = some (some (.ref f4))) (l4 : K.lookup f4 = some ⟨oc4, od4, .func (PySem.W.fnOf "_law_same" "_law_same" (defArgs (topS 12)) (defBody (topS 12)) (defScope (topS 12)) .none kV4 dc4 pm4 an4 cd4 ct4), sl4⟩) (e4 : PySem.W.codeIn K cd4 "_law_same" = true) (k4 : PySem.W.keepIn K (.ref f4) = true)
    (a5 : PySem.W.nsIn K mainGlobals "_law_tree" = some (some (.ref f5))) (l5 : K.lookup f5 = some ⟨oc5, od5, .func (PySem.W.fnOf "_law_tree" "_law_tree" (defArgs (topS 13)) (defBody (topS 13)) (defScope (topS 13)) .none kV5 dc5 pm5 an5 cd5 ct5), sl5⟩) (e5 : PySem.W.codeIn K cd5 "_law_tree" = true) (k5 : PySem.W.keepIn K (.ref f5) = true)
    (a6 : PySem.W.nsIn K mainGlobals "_law_level" = some (some (.ref f6))) (l6 : K.lookup f6 = some ⟨oc6, od6, .func (PySem.W.fnOf "_law_level" "_law_level" (defArgs (topS 14)) (defBody (topS 14)) (defScope (topS 14)) .none kV6 dc6 pm6 an6 cd6 ct6), sl6⟩) (e6 : PySem.W.codeIn K cd6 "_law_level" = true) (k6 : PySem.W.keepIn K (.ref f6) = true)
    (a7 : PySem.W.nsIn K mainGlobals "_law_around" = some (some (.ref f7))) (l7 : K.lookup f7 = some ⟨oc7, od7, .func (PySem.W.fnOf "_law_around" "_law_around" (defArgs (topS 15)) (defBody (topS 15)) (defScope (topS 15)) .none kV7 dc7 pm7 an7 cd7 ct7), sl7⟩) (e7 : PySem.W.codeIn K cd7 "_law_around" = true) (k7 : PySem.W.keepIn K (.ref f7) = true)
    (a8 : PySem.W.nsIn K mainGlobals "_law_texts" = some (some (.ref f8))) (l8 : K.lookup f8 = some ⟨oc8, od8, .func (PySem.W.fnOf "_law_texts" "_law_texts" (defArgs (topS 16)) (defBody (topS 16)) (defScope (topS 16)) .none kV8 dc8 pm8 an8 cd8 ct8), sl8⟩) (e8 : PySem.W.codeIn K cd8 "_law_texts" = true) (k8 : PySem.W.keepIn K (.ref f8) = true)
    (a9 : PySem.W.nsIn K mainGlobals "_law_parts" = some (some (.ref f9))) (l9 : K.lookup f9 = some ⟨oc9, od9, .func (PySem.W.fnOf "_law_parts" "_law_parts" (defArgs (topS 17)) (defBody (topS 17)) (defScope (topS 17)) .none kV9 dc9 pm9 an9 cd9 ct9), sl9⟩) (e9 : PySem.W.codeIn K cd9 "_law_parts" = true) (k9 : PySem.W.keepIn K (.ref f9) = true)
    (a10 : PySem.W.nsIn K mainGlobals "_law_depth" = some (some (.ref f10))) (l10 : K.lookup f10 = some ⟨oc10, od10, .func (PySem.W.fnOf "_law_depth" "_law_depth" (defArgs (topS 18)) (defBody (topS 18)) (defScope (topS 18)) .none kV10 dc10 pm10 an10 cd10 ct10), sl10⟩) (e10 : PySem.W.codeIn K cd10 "_law_depth" = true) (k10 : PySem.W.keepIn K (.ref f10) = true)
    (a11 : PySem.W.nsIn K mainGlobals "_law_token" = some (some (.ref f11))) (l11 : K.lookup f11 = some ⟨oc11, od11, .func (PySem.W.fnOf "_law_token" "_law_token" (defArgs (topS 19)) (defBody (topS 19)) (defScope (topS 19)) .none kV11 dc11 pm11 an11 cd11 ct11), sl11⟩) (e11 : PySem.W.codeIn K cd11 "_law_token" = true) (k11 : PySem.W.keepIn K (.ref f11) = true)
    (a12 : PySem.W.nsIn K mainGlobals "_law_drawn" = some (some (.ref f12))) (l12 : K.lookup f12 = some ⟨oc12, od12, .func (PySem.W.fnOf "_law_drawn" "_law_drawn" (defArgs (topS 20)) (defBody (topS 20)) (defScope (topS 20)) .none kV12 dc12 pm12 an12 cd12 ct12), sl12⟩) (e12 : PySem.W.codeIn K cd12 "_law_drawn" = true) (k12 : PySem.W.keepIn K (.ref f12) = true)
    (a13 : PySem.W.nsIn K mainGlobals "_law_is_expression" = some (some (.ref f13))) (l13 : K.lookup f13 = some ⟨oc13, od13, .func (PySem.W.fnOf "_law_is_expression" "_law_is_expression" (defArgs (topS 21)) (defBody (topS 21)) (defScope (topS 21)) .none kV13 dc13 pm13 an13 cd13 ct13), sl13⟩) (e13 : PySem.W.codeIn K cd13 "_law_is_expression" = true) (k13 : PySem.W.keepIn K (.ref f13) = true)
    (a14 : PySem.W.nsIn K mainGlobals "_law_bare" = some (some (.ref f14))) (l14 : K.lookup f14 = some ⟨oc14, od14, .func (PySem.W.fnOf "_law_bare" "_law_bare" (defArgs (topS 22)) (defBody (topS 22)) (defScope (topS 22)) .none kV14 dc14 pm14 an14 cd14 ct14), sl14⟩) (e14 : PySem.W.codeIn K cd14 "_law_bare" = true) (k14 : PySem.W.keepIn K (.ref f14) = true)
    (a15 : PySem.W.nsIn K mainGlobals "law" = some (some (.ref f15))) (l15 : K.lookup f15 = some ⟨oc15, od15, .func (PySem.W.fnOf "law" "law" (defArgs (topS 23)) (defBody (topS 23)) (defScope (topS 23)) .none kV15 dc15 pm15 an15 cd15 ct15), sl15⟩) (e15 : PySem.W.codeIn K cd15 "law" = true) (k15 : PySem.W.keepIn K (.ref f15) = true)
    (a16 : PySem.W.findIn K (.ref C_Reader) "__init__" = some (some (.ref f16))) (i16 : PySem.W.isFn K (.ref f16) = true) (l16 : K.lookup f16 = some ⟨oc16, od16, .func (PySem.W.fnOf "__init__" "Reader.__init__" (defArgs (inClass (topS 6) 0)) (defBody (inClass (topS 6) 0)) (defScope (inClass (topS 6) 0)) .none kV16 dc16 pm16 an16 cd16 ct16), sl16⟩) (e16 : PySem.W.codeIn K cd16 "Reader.__init__" = true) (k16 : PySem.W.keepIn K (.ref f16) = true)
    (a17 : PySem.W.findIn K (.ref C_Reader) "sees" = some (some (.ref f17))) (i17 : PySem.W.isFn K (.ref f17) = true) (l17 : K.lookup f17 = some ⟨oc17, od17, .func (PySem.W.fnOf "sees" "Reader.sees" (defArgs (inClass (topS 6) 1)) (defBody (inClass (topS 6) 1)) (defScope (inClass (topS 6) 1)) .none kV17 dc17 pm17 an17 cd17 ct17), sl17⟩) (e17 : PySem.W.codeIn K cd17 "Reader.sees" = true) (k17 : PySem.W.keepIn K (.ref f17) = true)
    (a18 : PySem.W.findIn K (.ref C_Reader) "take" = some (some (.ref f18))) (i18 : PySem.W.isFn K (.ref f18) = true) (l18 : K.lookup f18 = some ⟨oc18, od18, .func (PySem.W.fnOf "take" "Reader.take" (defArgs (inClass (topS 6) 2)) (defBody (inClass (topS 6) 2)) (defScope (inClass (topS 6) 2)) .none kV18 dc18 pm18 an18 cd18 ct18), sl18⟩) (e18 : PySem.W.codeIn K cd18 "Reader.take" = true) (k18 : PySem.W.keepIn K (.ref f18) = true)
    (a19 : PySem.W.findIn K (.ref C_Reader) "group" = some (some (.ref f19))) (i19 : PySem.W.isFn K (.ref f19) = true) (l19 : K.lookup f19 = some ⟨oc19, od19, .func (PySem.W.fnOf "group" "Reader.group" (defArgs (inClass (topS 6) 3)) (defBody (inClass (topS 6) 3)) (defScope (inClass (topS 6) 3)) .none kV19 dc19 pm19 an19 cd19 ct19), sl19⟩) (e19 : PySem.W.codeIn K cd19 "Reader.group" = true) (k19 : PySem.W.keepIn K (.ref f19) = true)
    (a20 : PySem.W.findIn K (.ref C_Reader) "factor" = some (some (.ref f20))) (i20 : PySem.W.isFn K (.ref f20) = true) (l20 : K.lookup f20 = some ⟨oc20, od20, .func (PySem.W.fnOf "factor" "Reader.factor" (defArgs (inClass (topS 6) 4)) (defBody (inClass (topS 6) 4)) (defScope (inClass (topS 6) 4)) .none kV20 dc20 pm20 an20 cd20 ct20), sl20⟩) (e20 : PySem.W.codeIn K cd20 "Reader.factor" = true) (k20 : PySem.W.keepIn K (.ref f20) = true)
    (a21 : PySem.W.findIn K (.ref C_Reader) "level" = some (some (.ref f21))) (i21 : PySem.W.isFn K (.ref f21) = true) (l21 : K.lookup f21 = some ⟨oc21, od21, .func (PySem.W.fnOf "level" "Reader.level" (defArgs (inClass (topS 6) 5)) (defBody (inClass (topS 6) 5)) (defScope (inClass (topS 6) 5)) .none kV21 dc21 pm21 an21 cd21 ct21), sl21⟩) (e21 : PySem.W.codeIn K cd21 "Reader.level" = true) (k21 : PySem.W.keepIn K (.ref f21) = true)
    (z_bool : PySem.W.nsIn K mainGlobals "bool" = some none)
    (z_int : PySem.W.nsIn K mainGlobals "int" = some none)
    (z_isinstance : PySem.W.nsIn K mainGlobals "isinstance" = some none)
    (z_len : PySem.W.nsIn K mainGlobals "len" = some none)
    (z_list : PySem.W.nsIn K mainGlobals "list" = some none)
    (z_max : PySem.W.nsIn K mainGlobals "max" = some none)
    (z_range : PySem.W.nsIn K mainGlobals "range" = some none)
    (z_str : PySem.W.nsIn K mainGlobals "str" = some none)
    (z_tuple : PySem.W.nsIn K mainGlobals "tuple" = some none)
    (g_REGISTERS : PySem.W.nsIn K mainGlobals "REGISTERS" = some (some u_REGISTERS)) (gv_REGISTERS : GV K c_REGISTERS u_REGISTERS)
    (g_MOST_TOKENS : PySem.W.nsIn K mainGlobals "MOST_TOKENS" = some (some (.int 20 t_MOST_TOKENS)))
    (g_MOST_BRACKETS : PySem.W.nsIn K mainGlobals "MOST_BRACKETS" = some (some (.int 5 t_MOST_BRACKETS)))
    (g_LEVELS : PySem.W.nsIn K mainGlobals "LEVELS" = some (some u_LEVELS)) (gv_LEVELS : GV K c_LEVELS u_LEVELS)
    (g_CLAIM : PySem.W.nsIn K mainGlobals "CLAIM" = some (some (.int 2 t_CLAIM)))
    : ∃ fd : FuncData, (∀ (s : Shared) (v : Value), BindsTo s fd ⟨[v], []⟩ [("_law_script", v)]) ∧ ∀ base : Heap, K.In base → base.Ns mainGlobals mg → FnOk l.prog w K mg base (L2N.CX l.prog w) 180 fa fd ["_law_script"] (Ev.spL K m_law) := by
  have ea := hfa.symm.trans (PySem.W.mg_of X G a15)
  cases ea
  have T : Txt l.prog K mg w := ⟨⟨⟨_, _, fun_mk (st := topS 7) l0 e0 k0, PySem.W.mg_of X G a0⟩⟩, ⟨⟨_, _, fun_mk (st := topS 9) l1 e1 k1, PySem.W.mg_of X G a1⟩⟩, ⟨⟨_, _, fun_mk (st := topS 10) l2 e2 k2, PySem.W.mg_of X G a2⟩⟩, ⟨⟨_, _, fun_mk (st := topS 11) l3 e3 k3, PySem.W.mg_of X G a3⟩⟩, ⟨⟨_, _, fun_mk (st := topS 12) l4 e4 k4, PySem.W.mg_of X G a4⟩⟩, ⟨⟨_, _, fun_mk (st := topS 13) l5 e5 k5, PySem.W.mg_of X G a5⟩⟩, ⟨⟨_, _, fun_mk (st := topS 14) l6 e6 k6, PySem.W.mg_of X G a6⟩⟩, ⟨⟨_, _, fun_mk (st := topS 15) l7 e7 k7, PySem.W.mg_of X G a7⟩⟩, ⟨⟨_, _, fun_mk (st := topS 16) l8 e8 k8, PySem.W.mg_of X G a8⟩⟩, ⟨⟨_, _, fun_mk (st := topS 17) l9 e9 k9, PySem.W.mg_of X G a9⟩⟩, ⟨⟨_, _, fun_mk (st := topS 18) l10 e10 k10, PySem.W.mg_of X G a10⟩⟩, ⟨⟨_, _, fun_mk (st := topS 19) l11 e11 k11, PySem.W.mg_of X G a11⟩⟩, ⟨⟨_, _, fun_mk (st := topS 20) l12 e12 k12, PySem.W.mg_of X G a12⟩⟩, ⟨⟨_, _, fun_mk (st := topS 21) l13 e13 k13, PySem.W.mg_of X G a13⟩⟩, ⟨⟨_, _, fun_mk (st := topS 22) l14 e14 k14, PySem.W.mg_of X G a14⟩⟩, ⟨⟨_, _, fun_mk (st := topS 23) l15 e15 k15, PySem.W.mg_of X G a15⟩⟩, ⟨⟨_, _, _, PySem.W.mg_of X G oa_Reader, ⟨mk_Reader, a16, i16, kc_Reader⟩, fun_mk (st := inClass (topS 6) 0) l16 e16 k16⟩⟩, ⟨⟨_, _, _, PySem.W.mg_of X G oa_Reader, ⟨pg_Reader, hd_Reader, po_Reader, sa_Reader⟩, ⟨a17, i17, k17⟩, fun_mk (st := inClass (topS 6) 1) l17 e17 k17⟩⟩, ⟨⟨_, _, _, PySem.W.mg_of X G oa_Reader, ⟨pg_Reader, hd_Reader, po_Reader, sa_Reader⟩, ⟨a18, i18, k18⟩, fun_mk (st := inClass (topS 6) 2) l18 e18 k18⟩⟩, ⟨⟨_, _, _, PySem.W.mg_of X G oa_Reader, ⟨pg_Reader, hd_Reader, po_Reader, sa_Reader⟩, ⟨a19, i19, k19⟩, fun_mk (st := inClass (topS 6) 3) l19 e19 k19⟩⟩, ⟨⟨_, _, _, PySem.W.mg_of X G oa_Reader, ⟨pg_Reader, hd_Reader, po_Reader, sa_Reader⟩, ⟨a20, i20, k20⟩, fun_mk (st := inClass (topS 6) 4) l20 e20 k20⟩⟩, ⟨⟨_, _, _, PySem.W.mg_of X G oa_Reader, ⟨pg_Reader, hd_Reader, po_Reader, sa_Reader⟩, ⟨a21, i21, k21⟩, fun_mk (st := inClass (topS 6) 5) l21 e21 k21⟩⟩, ⟨⟨_, PySem.W.mg_of X G oa_Reader, ⟨pg_Reader, hd_Reader, po_Reader, sa_Reader⟩, no_Reader_at⟩⟩, ⟨⟨_, PySem.W.mg_of X G oa_Reader, ⟨pg_Reader, hd_Reader, po_Reader, sa_Reader⟩, no_Reader_depth⟩⟩, ⟨⟨_, PySem.W.mg_of X G oa_Reader, ⟨pg_Reader, hd_Reader, po_Reader, sa_Reader⟩, no_Reader_failed⟩⟩, ⟨⟨_, PySem.W.mg_of X G oa_Reader, ⟨pg_Reader, hd_Reader, po_Reader, sa_Reader⟩, no_Reader_parts⟩⟩, PySem.W.mg_none_of X G z_bool, PySem.W.mg_none_of X G z_int, PySem.W.mg_none_of X G z_isinstance, PySem.W.mg_none_of X G z_len, PySem.W.mg_none_of X G z_list, PySem.W.mg_none_of X G z_max, PySem.W.mg_none_of X G z_range, PySem.W.mg_none_of X G z_str, PySem.W.mg_none_of X G z_tuple, .gv (PySem.W.mg_of X G g_REGISTERS) gv_REGISTERS, .int (PySem.W.mg_of X G g_MOST_TOKENS), .int (PySem.W.mg_of X G g_MOST_BRACKETS), .gv (PySem.W.mg_of X G g_LEVELS) gv_LEVELS, .int (PySem.W.mg_of X G g_CLAIM)⟩
  have F := fun_mk (st := topS 23) l15 e15 k15
  refine ⟨_, ?b, fun base _ _ => Ev.fnok_spL (ok_law T F)⟩
  exact fun s v => .of_eq rfl
end G_k04
open PySem PySem.Spec PySem.W PyProof.Rows
set_option maxHeartbeats 0 in
theorem PySem.Challenge.cw_everyturn_k04_what_is_no_expression_holds : PySem.Challenge.rw_everyturn_k04_what_is_no_expression.Holds := by
  w_on; o_law; k_head; (case hw => w_witness2)
  k_fill
  refine L2.walk_of (l := PySem.Challenge.rw_everyturn_k04_what_is_no_expression) (n := 63) (k := 180) (x := "_law_script") (CX := fun w => L2N.CX PySem.Challenge.rw_everyturn_k04_what_is_no_expression.prog w) (sp := fun w => Ev.spL _ G_k04.m_law) rfl (by decide) rfl ⟨rfl, by decide, by decide⟩ (fun w h Y => PySem.W.kIn_of Y) ?F (fun _ _ a ns hl hO hS => Ev.spL_of hS (G_k04.law_true ns hl)) (fun _ _ _ _ _ h => Ev.cx_no h)
  case F =>
    intro w mg fa h KX G hmg
    refine' G_k04.all_mk (l := PySem.Challenge.rw_everyturn_k04_what_is_no_expression) KX G hmg ?oa_Reader ?pg_Reader ?hd_Reader ?po_Reader ?sa_Reader ?mk_Reader ?kc_Reader ?no_Reader_at ?no_Reader_depth ?no_Reader_failed ?no_Reader_parts ?a0 ?l0 ?e0 ?k0 ?a1 ?l1 ?e1 ?k1 ?a2 ?l2 ?e2 ?k2 ?a3 ?l3 ?e3 ?k3 ?a4 ?l4 ?e4 ?k4 ?a5 ?l5 ?e5 ?k5 ?a6 ?l6 ?e6 ?k6 ?a7 ?l7 ?e7 ?k7 ?a8 ?l8 ?e8 ?k8 ?a9 ?l9 ?e9 ?k9 ?a10 ?l10 ?e10 ?k10 ?a11 ?l11 ?e11 ?k11 ?a12 ?l12 ?e12 ?k12 ?a13 ?l13 ?e13 ?k13 ?a14 ?l14 ?e14 ?k14 ?a15 ?l15 ?e15 ?k15 ?a16 ?i16 ?l16 ?e16 ?k16 ?a17 ?i17 ?l17 ?e17 ?k17 ?a18 ?i18 ?l18 ?e18 ?k18 ?a19 ?i19 ?l19 ?e19 ?k19 ?a20 ?i20 ?l20 ?e20 ?k20 ?a21 ?i21 ?l21 ?e21 ?k21 ?z_bool ?z_int ?z_isinstance ?z_len ?z_list ?z_max ?z_range ?z_str ?z_tuple ?g_REGISTERS ?gv_REGISTERS ?g_MOST_TOKENS ?g_MOST_BRACKETS ?g_LEVELS ?gv_LEVELS ?g_CLAIM
    (case oa_Reader => k_is)
    (case pg_Reader => k_is)
    (case hd_Reader => k_is)
    (case po_Reader => k_is)
    (case sa_Reader => k_is)
    (case mk_Reader => k_is)
    (case kc_Reader => k_is)
    (case no_Reader_at => k_is)
    (case no_Reader_depth => k_is)
    (case no_Reader_failed => k_is)
    (case no_Reader_parts => k_is)
    (case a0 => k_is)
    (case l0 => k_is)
    (case e0 => k_is)
    (case k0 => k_is)
    (case a1 => k_is)
    (case l1 => k_is)
    (case e1 => k_is)
    (case k1 => k_is)
    (case a2 => k_is)
    (case l2 => k_is)
    (case e2 => k_is)
    (case k2 => k_is)
    (case a3 => k_is)
    (case l3 => k_is)
    (case e3 => k_is)
    (case k3 => k_is)
    (case a4 => k_is)
    (case l4 => k_is)
    (case e4 => k_is)
    (case k4 => k_is)
    (case a5 => k_is)
    (case l5 => k_is)
    (case e5 => k_is)
    (case k5 => k_is)
    (case a6 => k_is)
    (case l6 => k_is)
    (case e6 => k_is)
    (case k6 => k_is)
    (case a7 => k_is)
    (case l7 => k_is)
    (case e7 => k_is)
    (case k7 => k_is)
    (case a8 => k_is)
    (case l8 => k_is)
    (case e8 => k_is)
    (case k8 => k_is)
    (case a9 => k_is)
    (case l9 => k_is)
    (case e9 => k_is)
    (case k9 => k_is)
    (case a10 => k_is)
    (case l10 => k_is)
    (case e10 => k_is)
    (case k10 => k_is)
    (case a11 => k_is)
    (case l11 => k_is)
    (case e11 => k_is)
    (case k11 => k_is)
    (case a12 => k_is)
    (case l12 => k_is)
    (case e12 => k_is)
    (case k12 => k_is)
    (case a13 => k_is)
    (case l13 => k_is)
    (case e13 => k_is)
    (case k13 => k_is)
    (case a14 => k_is)
    (case l14 => k_is)
    (case e14 => k_is)
    (case k14 => k_is)
    (case a15 => k_is)
    (case l15 => k_is)
    (case e15 => k_is)
    (case k15 => k_is)
    (case a16 => k_is)
    (case i16 => k_is)
    (case l16 => k_is)
    (case e16 => k_is)
    (case k16 => k_is)
    (case a17 => k_is)
    (case i17 => k_is)
    (case l17 => k_is)
    (case e17 => k_is)
    (case k17 => k_is)
    (case a18 => k_is)
    (case i18 => k_is)
    (case l18 => k_is)
    (case e18 => k_is)
    (case k18 => k_is)
    (case a19 => k_is)
    (case i19 => k_is)
    (case l19 => k_is)
    (case e19 => k_is)
    (case k19 => k_is)
    (case a20 => k_is)
    (case i20 => k_is)
    (case l20 => k_is)
    (case e20 => k_is)
    (case k20 => k_is)
    (case a21 => k_is)
    (case i21 => k_is)
    (case l21 => k_is)
    (case e21 => k_is)
    (case k21 => k_is)
    (case z_bool => k_is)
    (case z_int => k_is)
    (case z_isinstance => k_is)
    (case z_len => k_is)
    (case z_list => k_is)
    (case z_max => k_is)
    (case z_range => k_is)
    (case z_str => k_is)
    (case z_tuple => k_is)
    (case g_REGISTERS => k_is)
    (case gv_REGISTERS => exact ⟨_, _, _, _, _, rfl, (by k_is), (by rw [sizeLine_eq]; decide), ⟨_, _, rfl, ⟨_, rfl⟩, ⟨_, _, rfl, ⟨_, rfl⟩, ⟨_, _, rfl, ⟨_, rfl⟩, ⟨_, _, rfl, ⟨_, rfl⟩, rfl⟩⟩⟩⟩⟩)
    (case g_MOST_TOKENS => k_is)
    (case g_MOST_BRACKETS => k_is)
    (case g_LEVELS => k_is)
    (case gv_LEVELS => exact ⟨_, _, _, _, _, rfl, (by k_is), (by rw [sizeLine_eq]; decide), ⟨_, _, rfl, ⟨_, _, _, _, _, rfl, (by k_is), (by rw [sizeLine_eq]; decide), ⟨_, _, rfl, ⟨_, rfl⟩, rfl⟩⟩, ⟨_, _, rfl, ⟨_, _, _, _, _, rfl, (by k_is), (by rw [sizeLine_eq]; decide), ⟨_, _, rfl, ⟨_, rfl⟩, rfl⟩⟩, ⟨_, _, rfl, ⟨_, _, _, _, _, rfl, (by k_is), (by rw [sizeLine_eq]; decide), ⟨_, _, rfl, ⟨_, rfl⟩, ⟨_, _, rfl, ⟨_, rfl⟩, rfl⟩⟩⟩, ⟨_, _, rfl, ⟨_, _, _, _, _, rfl, (by k_is), (by rw [sizeLine_eq]; decide), ⟨_, _, rfl, ⟨_, rfl⟩, ⟨_, _, rfl, ⟨_, rfl⟩, rfl⟩⟩⟩, ⟨_, _, rfl, ⟨_, _, _, _, _, rfl, (by k_is), (by rw [sizeLine_eq]; decide), ⟨_, _, rfl, ⟨_, rfl⟩, rfl⟩⟩, rfl⟩⟩⟩⟩⟩⟩)
    (case g_CLAIM => k_is)
