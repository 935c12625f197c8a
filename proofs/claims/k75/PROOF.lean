import PyProof.Rows.All
import HandS.ForMost
import HandS.ForExc
import HandS.Walk
import HandS.Zip
import HandS.IsInst
import HandS.Star
import HandS.Deep
import HandS.ExcInit
import HandS.Conv
import HandS.DictComp
import HandS.TupAny
import KE.GoesEnum
import HandS.Defaults
import HandS.Text
import HandS.Style
import HandS.More
import HandS.Ends
import HandS.WordsExc
import PyProof.ReprRoads
import PyProof.ReprLen
import PySem.Challenge.RW_winninglots_k75_whole_secrets_dealt_and
set_option Elab.async false
set_option linter.all false
set_option maxRecDepth 100000
set_option maxHeartbeats 2000000
/-! VS0: data by value over the hand layer: what a value of the heap is as plain data (HD), what a step keeps (Tr), readings by plain functions (RE, RT, RA). -/
namespace VS
open PySem PySem.Spec PyProof.Rows L2

/-- the built-in types that are asked for -/
inductive Ty where
  | non | bl | int | str | lst | tup | dct
  deriving DecidableEq
def Ty.nm : Ty → String
  | .non => "NoneType" | .bl => "bool" | .int => "int" | .str => "str" | .lst => "list" | .tup => "tuple" | .dct => "dict"
/-- plain data -/
inductive D where
  | non | bl (b : Bool) | int (i : Int) | str (x : Str)
  | lst (xs : List D) | tup (xs : List D)
  | dct (kvs : List (D × D))
  | obj (c : Str) (fs : List (Str × D))
  | strm
  | ty (t : Ty)
  | cls (c : Str)

/-- a key of a dict as data -/
def kD : Key → D
  | .inl i => .int i
  | .inr x => .str x

section
variable (K : PySem.W.Frag) (mg : Str → Option Value) (sa : Addr) (H : Hp)
mutual
def HD : D → V → Prop
  | .non, v => v = .non
  | .bl b, v => v = .bl b
  | .int i, v => v = .int i
  | .str x, v => v = .str x
  | .lst ds, v => ∃ a xs, v = .ref a ∧ H a = some (.lst xs) ∧ HDs ds xs
  | .tup ds, v => ∃ a xs, v = .ref a ∧ H a = some (.tup xs) ∧ HDs ds xs
  | .dct kvs, v => ∃ a, v = .ref a ∧ ((∃ es, H a = some (.dK es) ∧ HDk kvs es) ∨ ∃ es, H a = some (.dT es) ∧ HDt kvs es)
  | .obj c fs, v => ∃ a C dx vs, v = .ref a ∧ mg c = some (.ref C) ∧ H a = some (.ins C dx vs) ∧ HDf fs vs
  | .strm, v => v = .ref sa
  | .ty t, v => v = .ty t.nm
  | .cls c, v => ∃ C, mg c = some (.ref C) ∧ v = .ref C
def HDs : List D → List V → Prop
  | [], xs => xs = []
  | d :: ds, xs => ∃ v vs, xs = v :: vs ∧ HD d v ∧ HDs ds vs
def HDk : List (D × D) → List (Key × V) → Prop
  | [], xs => xs = []
  | (k, d) :: ds, xs => ∃ j v vs, xs = (j, v) :: vs ∧ k = kD j ∧ HD d v ∧ HDk ds vs
def HDt : List (D × D) → List (List Key × V) → Prop
  | [], xs => xs = []
  | (k, d) :: ds, xs => ∃ j v vs, xs = (j, v) :: vs ∧ k = .tup (j.map kD) ∧ HD d v ∧ HDt ds vs
def HDf : List (Str × D) → List (Str × V) → Prop
  | [], xs => xs = []
  | (f, d) :: ds, xs => ∃ v vs, xs = (f, v) :: vs ∧ HD d v ∧ HDf ds vs
end
end

section
variable {K : PySem.W.Frag} {mg : Str → Option Value} {sa : Addr} {H H' : Hp}
mutual
theorem HD.mono (s : Same H H') : ∀ (d : D) (v : V), HD mg sa H d v → HD mg sa H' d v
  | .non, _, h => h
  | .bl _, _, h => h
  | .int _, _, h => h
  | .str _, _, h => h
  | .strm, _, h => h
  | .ty _, _, h => h
  | .cls _, _, h => h
  | .lst ds, _, h => by
    obtain ⟨a, xs, e, h1, h2⟩ := h
    exact ⟨a, xs, e, s _ _ h1, HDs.mono s ds xs h2⟩
  | .tup ds, _, h => by
    obtain ⟨a, xs, e, h1, h2⟩ := h
    exact ⟨a, xs, e, s _ _ h1, HDs.mono s ds xs h2⟩
  | .dct kvs, _, h => by
    obtain ⟨a, e, ⟨es, h1, h2⟩ | ⟨es, h1, h2⟩⟩ := h
    · exact ⟨a, e, .inl ⟨es, s _ _ h1, HDk.mono s kvs es h2⟩⟩
    · exact ⟨a, e, .inr ⟨es, s _ _ h1, HDt.mono s kvs es h2⟩⟩
  | .obj c fs, _, h => by
    obtain ⟨a, C, dx, vs, e, m, h1, h2⟩ := h
    exact ⟨a, C, dx, vs, e, m, s _ _ h1, HDf.mono s fs vs h2⟩
theorem HDs.mono (s : Same H H') : ∀ (ds : List D) (xs : List V), HDs mg sa H ds xs → HDs mg sa H' ds xs
  | [], _, h => h
  | d :: ds, _, h => by
    obtain ⟨v, vs, e, h1, h2⟩ := h
    exact ⟨v, vs, e, HD.mono s d v h1, HDs.mono s ds vs h2⟩
theorem HDk.mono (s : Same H H') : ∀ (ds : List (D × D)) (xs : List (Key × V)), HDk mg sa H ds xs → HDk mg sa H' ds xs
  | [], _, h => h
  | (k, d) :: ds, _, h => by
    obtain ⟨j, v, vs, e, ek, h1, h2⟩ := h
    exact ⟨j, v, vs, e, ek, HD.mono s d v h1, HDk.mono s ds vs h2⟩
theorem HDt.mono (s : Same H H') : ∀ (ds : List (D × D)) (xs : List (List Key × V)), HDt mg sa H ds xs → HDt mg sa H' ds xs
  | [], _, h => h
  | (k, d) :: ds, _, h => by
    obtain ⟨j, v, vs, e, ek, h1, h2⟩ := h
    exact ⟨j, v, vs, e, ek, HD.mono s d v h1, HDt.mono s ds vs h2⟩
theorem HDf.mono (s : Same H H') : ∀ (ds : List (Str × D)) (xs : List (Str × V)), HDf mg sa H ds xs → HDf mg sa H' ds xs
  | [], _, h => h
  | (f, d) :: ds, _, h => by
    obtain ⟨v, vs, e, h1, h2⟩ := h
    exact ⟨v, vs, e, HD.mono s d v h1, HDf.mono s ds vs h2⟩
end
end
end VS
namespace VS
open PySem PySem.Spec PyProof.Rows L2
section
variable {mg : Str → Option Value} {sa : Addr} {H H' : Hp}
theorem HDs.length : ∀ {ds : List D} {xs : List V}, HDs mg sa H ds xs → xs.length = ds.length
  | [], _, h => by cases (show _ = _ from h); rfl
  | d :: ds, _, h => by
    obtain ⟨v, vs, rfl, h1, h2⟩ := h
    rw [List.length_cons, List.length_cons, HDs.length h2]
theorem HDs.get : ∀ {ds : List D} {xs : List V} {i : Nat} {d : D}, HDs mg sa H ds xs → ds[i]? = some d → ∃ v, xs[i]? = some v ∧ HD mg sa H d v
  | [], _, _, _, _, e => by simp at e
  | d :: ds, _, 0, _, h, e => by
    obtain ⟨v, vs, rfl, h1, h2⟩ := h
    cases (show some d = some _ from e)
    exact ⟨v, rfl, h1⟩
  | d :: ds, _, i + 1, _, h, e => by
    obtain ⟨v, vs, rfl, h1, h2⟩ := h
    exact HDs.get (i := i) h2 e
theorem HDs.getV {ds : List D} {xs : List V} {i : Nat} {v : V} (h : HDs mg sa H ds xs) (e : xs[i]? = some v) : ∃ d, ds[i]? = some d ∧ HD mg sa H d v := by
  have hi : i < xs.length := (List.getElem?_eq_some_iff.mp e).1
  have hi' : i < ds.length := by rw [← h.length]; exact hi
  obtain ⟨v', e', h'⟩ := h.get (List.getElem?_eq_getElem hi')
  rw [e] at e'
  cases e'
  exact ⟨_, List.getElem?_eq_getElem hi', h'⟩
theorem HDs.append : ∀ {ds es : List D} {xs ys : List V}, HDs mg sa H ds xs → HDs mg sa H es ys → HDs mg sa H (ds ++ es) (xs ++ ys)
  | [], _, _, _, h, h' => by cases (show _ = _ from h); exact h'
  | d :: ds, es, _, ys, h, h' => by
    obtain ⟨v, vs, rfl, h1, h2⟩ := h
    exact ⟨v, vs ++ ys, rfl, h1, HDs.append h2 h'⟩
theorem HDs.one {d : D} {v : V} (h : HD mg sa H d v) : HDs mg sa H [d] [v] := ⟨v, [], rfl, h, rfl⟩
theorem HDs.drop : ∀ {ds : List D} {xs : List V} (n : Nat), HDs mg sa H ds xs → HDs mg sa H (ds.drop n) (xs.drop n)
  | ds, _, 0, h => h
  | [], _, n + 1, h => by cases (show _ = _ from h); exact rfl
  | d :: ds, _, n + 1, h => by
    obtain ⟨v, vs, rfl, h1, h2⟩ := h
    exact HDs.drop n h2
theorem HDs.take : ∀ {ds : List D} {xs : List V} (n : Nat), HDs mg sa H ds xs → HDs mg sa H (ds.take n) (xs.take n)
  | ds, _, 0, h => rfl
  | [], _, n + 1, h => by cases (show _ = _ from h); exact rfl
  | d :: ds, _, n + 1, h => by
    obtain ⟨v, vs, rfl, h1, h2⟩ := h
    exact ⟨v, vs.take n, rfl, h1, HDs.take n h2⟩
theorem HDs.cons_inv {d : D} {ds : List D} {xs : List V} (h : HDs mg sa H (d :: ds) xs) : ∃ v vs, xs = v :: vs ∧ HD mg sa H d v ∧ HDs mg sa H ds vs := h
theorem HDs.set : ∀ {ds : List D} {xs : List V} {d : D} {v : V} (n : Nat), HDs mg sa H ds xs → HD mg sa H d v → HDs mg sa H (ds.set n d) (xs.set n v)
  | [], _, _, _, _, h, _ => by cases (show _ = _ from h); exact rfl
  | d :: ds, _, _, _, 0, h, h' => by
    obtain ⟨v, vs, rfl, h1, h2⟩ := h
    exact ⟨_, vs, rfl, h', h2⟩
  | d :: ds, _, _, _, n + 1, h, h' => by
    obtain ⟨v, vs, rfl, h1, h2⟩ := h
    exact ⟨v, _, rfl, h1, HDs.set n h2 h'⟩

/-! ### scalars -/
def D.sc : D → Option V
  | .non => some .non
  | .bl b => some (.bl b)
  | .int i => some (.int i)
  | .str x => some (.str x)
  | _ => none
theorem HD.sc {d : D} {v u : V} (e : d.sc = some u) : HD mg sa H d v ↔ v = u := by
  cases d <;> simp only [D.sc] at e <;> first | (cases e; exact Iff.rfl) | cases e
theorem HD.sc_any {d : D} {v u : V} {mg' : Str → Option Value} {sa' : Addr} (e : d.sc = some u) (h : HD mg sa H d v) : HD mg' sa' H' d v := (HD.sc e).mpr ((HD.sc e).mp h)
theorem HDs.ints : ∀ {ns : List Int} {xs : List V}, HDs mg sa H (ns.map D.int) xs ↔ xs = ns.map V.int
  | [], xs => Iff.rfl
  | n :: ns, xs => by
    constructor
    · rintro ⟨v, vs, rfl, h1, h2⟩
      cases (show v = _ from h1)
      rw [HDs.ints.mp h2]
      rfl
    · rintro rfl
      exact ⟨_, _, rfl, rfl, HDs.ints.mpr rfl⟩
theorem HDs.bls : ∀ {ns : List Bool} {xs : List V}, HDs mg sa H (ns.map D.bl) xs ↔ xs = ns.map V.bl
  | [], xs => Iff.rfl
  | n :: ns, xs => by
    constructor
    · rintro ⟨v, vs, rfl, h1, h2⟩
      cases (show v = _ from h1)
      rw [HDs.bls.mp h2]
      rfl
    · rintro rfl
      exact ⟨_, _, rfl, rfl, HDs.bls.mpr rfl⟩
theorem HDs.strs : ∀ {ns : List Str} {xs : List V}, HDs mg sa H (ns.map D.str) xs ↔ xs = ns.map V.str
  | [], xs => Iff.rfl
  | n :: ns, xs => by
    constructor
    · rintro ⟨v, vs, rfl, h1, h2⟩
      cases (show v = _ from h1)
      rw [HDs.strs.mp h2]
      rfl
    · rintro rfl
      exact ⟨_, _, rfl, rfl, HDs.strs.mpr rfl⟩
end

/-! ### what is hidden, the law's stream, a step -/
open Classical in
noncomputable def hide (S : Addr → Prop) (H : Hp) : Hp := fun a => if S a then none else H a
theorem hide_of {S : Addr → Prop} {H : Hp} {a : Addr} {o : HO} (h : ¬ S a) (e : H a = some o) : hide S H a = some o := by
  unfold hide
  rw [if_neg h]
  exact e
theorem of_hide {S : Addr → Prop} {H : Hp} {a : Addr} {o : HO} (e : hide S H a = some o) : ¬ S a ∧ H a = some o := by
  unfold hide at e
  by_cases h : S a
  · rw [if_pos h] at e; cases e
  · rw [if_neg h] at e; exact ⟨h, e⟩
theorem hide_sub {S : Addr → Prop} {H : Hp} : Same (hide S H) H := fun _ _ e => (of_hide e).2
theorem hide_le {S S' : Addr → Prop} {H : Hp} (h : ∀ b, S' b → S b) : Same (hide S H) (hide S' H) := fun b o e => hide_of (fun z => (of_hide e).1 (h b z)) (of_hide e).2
/-- the stream: its cells, its three numbers -/
structure SS where
  cells : List Int
  a : Int
  b : Int
  c : Int
/-- where the stream stands (sa the list, sl its cells), what is hidden -/
structure Gx where
  sa : Addr
  sl : Addr
  S : Addr → Prop
def Gx.plus (g : Gx) (O : Addr → Prop) : Gx := { g with S := fun b => g.S b ∨ O b }
def StAt (g : Gx) (st : Option SS) (H : Hp) : Prop := match st with
  | none => True
  | some s => g.S g.sa ∧ g.S g.sl ∧ g.sa ≠ g.sl ∧ H g.sa = some (.lst [.ref g.sl, .int s.a, .int s.b, .int s.c]) ∧ H g.sl = some (.lst (s.cells.map V.int))
structure Good (g : Gx) (st : Option SS) (H : Hp) : Prop where
  dom : ∀ b, g.S b → ∃ o, H b = some o
  at_ : StAt g st H
abbrev O0 : Addr → Prop := fun _ => False
structure Tr (g : Gx) (O : Addr → Prop) (st st' : Option SS) (H H' : Hp) : Prop where
  keep : ∀ b o, ¬ g.S b → ¬ O b → H b = some o → H' b = some o
  hid : ∀ b, g.S b → (st.isSome = true → b ≠ g.sa ∧ b ≠ g.sl) → H' b = H b
  good : Good g st' H'
  some_ : st'.isSome = st.isSome
section
variable {g : Gx} {O O' : Addr → Prop} {st st' st'' : Option SS} {H H' H'' : Hp}
theorem Tr.refl (h : Good g st H) : Tr g O st st H H := ⟨fun _ _ _ _ e => e, fun _ _ _ => rfl, h, rfl⟩
theorem Tr.trans (a : Tr g O st st' H H') (b : Tr g O' st' st'' H' H'') (h : ∀ x, O' x → O x ∨ H x = none) : Tr g O st st'' H H'' where
  keep := fun x o h1 h2 e => b.keep x o h1 (fun z => (h x z).elim h2 fun q => by rw [q] at e; cases e) (a.keep x o h1 h2 e)
  hid := fun x h1 h2 => (b.hid x h1 (by rw [a.some_]; exact h2)).trans (a.hid x h1 h2)
  good := b.good
  some_ := b.some_.trans a.some_
theorem Tr.trans0 (a : Tr g O st st' H H') (b : Tr g O0 st' st'' H' H'') : Tr g O st st'' H H'' := a.trans b fun _ z => z.elim
theorem Tr.same (a : Tr g O0 st st' H H') : Same (hide g.S H) (hide g.S H') := fun b o e => by
  obtain ⟨h1, h2⟩ := of_hide e
  exact hide_of h1 (a.keep b o h1 (fun z => z) h2)
theorem Tr.weak (a : Tr g O st st' H H') (h : ∀ x, O x → O' x) : Tr g O' st st' H H' := ⟨fun b o h1 h2 e => a.keep b o h1 (fun z => h2 (h b z)) e, a.hid, a.good, a.some_⟩
theorem Good.fresh (h : Good g st H) {p : Addr} (hp : H p = none) : ¬ g.S p := fun z => by
  obtain ⟨o, e⟩ := h.dom p z
  rw [hp] at e; cases e
theorem StAt.keep (h : StAt g st H) (hs : ∀ b o, g.S b → H b = some o → H' b = some o) : StAt g st H' := by
  cases st with
  | none => trivial
  | some s =>
    obtain ⟨h1, h2, h3, h4, h5⟩ := h
    exact ⟨h1, h2, h3, hs _ _ h1 h4, hs _ _ h2 h5⟩
theorem Good.keep (h : Good g st H) (hs : ∀ b o, g.S b → H b = some o → H' b = some o) : Good g st H' :=
  ⟨fun b z => let ⟨o, e⟩ := h.dom b z; ⟨o, hs b o z e⟩, h.at_.keep hs⟩
/-- a new object -/
theorem Tr.new (h : Good g st H) {p : Addr} {o : HO} (hp : H p = none) : Tr g O st st H (upd H p o) where
  keep := fun b u _ _ e => by rw [upd_ne (ne_of_none e hp)]; exact e
  hid := fun b z _ => by
    obtain ⟨u, e⟩ := h.dom b z
    rw [upd_ne (ne_of_none e hp)]
  good := h.keep fun b u _ e => by rw [upd_ne (ne_of_none e hp)]; exact e
  some_ := rfl
/-- more is hidden: a step under the greater hiding is one under the lesser -/
theorem Tr.less (a : Tr (g.plus O') O st st' H H') (hO : ∀ b, O' b → ¬ g.S b) (h : StAt g st H) : Tr g O st st' H H' where
  keep := fun b o h1 h2 e => by
    by_cases hb : O' b
    · rw [a.hid b (.inr hb) fun z => ?_]
      · exact e
      · cases st with
        | none => cases z
        | some s =>
          obtain ⟨k1, k2, _⟩ := h
          exact ⟨fun q => hO b hb (q ▸ k1), fun q => hO b hb (q ▸ k2)⟩
    · exact a.keep b o (fun z => z.elim h1 hb) h2 e
  hid := fun b h1 h2 => a.hid b (.inl h1) h2
  good := by
    refine ⟨fun b hb => a.good.dom b (.inl hb), ?_⟩
    have q := a.good.at_
    have s := a.some_
    cases st' with
    | none => trivial
    | some s' =>
      cases st with
      | none => cases s
      | some s0 =>
        obtain ⟨k1, k2, k3, k4, k5⟩ := q
        obtain ⟨l1, l2, _⟩ := h
        exact ⟨l1, l2, k3, k4, k5⟩
  some_ := a.some_
theorem Good.plus (h : Good g st H) {O : Addr → Prop} (hO : ∀ b, O b → ∃ o, H b = some o) : Good (g.plus O) st H := by
  refine ⟨fun b hb => hb.elim (h.dom b) (hO b), ?_⟩
  have q := h.at_
  cases st with
  | none => trivial
  | some s =>
    obtain ⟨k1, k2, k3, k4, k5⟩ := q
    exact ⟨.inl k1, .inl k2, k3, k4, k5⟩
end

/-! ### answers -/
structure Exn where
  c : Str
  f : Str
  d : D
abbrev M (α : Type) := Option SS → Option (Except Exn α × Option SS)
def ret {α : Type} (a : α) : M α := fun st => some (.ok a, st)
def bnd {α β : Type} (m : M α) (f : α → M β) : M β := fun st => match m st with
  | none => none
  | some (.ok a, st') => f a st'
  | some (.error x, st') => some (.error x, st')
def ofO {α : Type} (o : Option α) : M α := fun st => match o with
  | none => none
  | some a => some (.ok a, st)
def stuck {α : Type} : M α := fun _ => none
section
variable {mg : Str → Option Value} {E : XK} {g : Gx} {O : Addr → Prop} {st : Option SS} {H : Hp}
/-- what is owed for an answer -/
def Ans (mg : Str → Option Value) (E : XK) {α β : Type} (rel : α → β → Hp → Prop) (g : Gx) (st : Option SS) (H : Hp) (m : Option (Except Exn α × Option SS)) (R : α → Option SS → β → Hp → Prop) : Prop := match m with
  | none => False
  | some (.ok a, st') => ∀ v H', Tr g O0 st st' H H' → rel a v H' → R a st' v H'
  | some (.error x, st') => ∀ C xd v H', mg x.c = some (.ref C) → Tr g O0 st st' H H' → H' xd = some (.xd [(x.f, v)]) → HD mg g.sa (hide g.S H') x.d v → E (.ref C) (some xd) H'
theorem Ans.imp {α β : Type} {rel : α → β → Hp → Prop} {m : Option (Except Exn α × Option SS)} {R R' : α → Option SS → β → Hp → Prop} (h : Ans mg E rel g st H m R) (i : ∀ a st' v H', Tr g O0 st st' H H' → rel a v H' → R a st' v H' → R' a st' v H') : Ans mg E rel g st H m R' := by
  match m, h with
  | some (.ok a, st'), h => exact fun v H' t r => i a st' v H' t r (h v H' t r)
  | some (.error x, st'), h => exact h
theorem Ans.shift {α β : Type} {rel : α → β → Hp → Prop} {m : Option (Except Exn α × Option SS)} {R : α → Option SS → β → Hp → Prop} {st1 : Option SS} {H1 : Hp} (t : Tr g O0 st st1 H H1) (h : Ans mg E rel g st H m R) : Ans mg E rel g st1 H1 m R := by
  match m, h with
  | some (.ok a, st'), h => exact fun v H' t' r => h v H' (t.trans0 t') r
  | some (.error x, st'), h => exact fun C xd v H' e t' h1 h2 => h C xd v H' e (t.trans0 t') h1 h2
/-- THE STEP of two answers in a row -/
theorem Ans.bnd {α β γ δ : Type} {rel : α → β → Hp → Prop} {rel2 : γ → δ → Hp → Prop} {m : M α} {f : α → M γ} {R : γ → Option SS → δ → Hp → Prop} (h : Ans mg E rel2 g st H (bnd m f st) R) :
    Ans mg E rel g st H (m st) fun a st1 _ H1 => Ans mg E rel2 g st1 H1 (f a st1) R := by
  unfold VS.bnd at h
  match e : m st, h with
  | some (.ok a, st'), h => exact fun v H' t r => Ans.shift t h
  | some (.error x, st'), h => exact h
  | none, h => exact h.elim
end
end VS
namespace VS
open PySem PySem.Spec PyProof.Rows L2
/-! ### readings by functions -/
abbrev DEnv := List (Option D)
structure EnvOk (mg : Str → Option Value) (g : Gx) (H : Hp) (σ : L2.St) (env : DEnv) : Prop where
  len : env.length = σ.length
  val : ∀ (i : Nat) (d : D), env[i]? = some (some d) → ∃ v, σ[i]? = some (some v) ∧ HD mg g.sa (hide g.S H) d v
theorem EnvOk.tr {mg : Str → Option Value} {g : Gx} {H H' : Hp} {σ : L2.St} {env : DEnv} {st st' : Option SS} (h : EnvOk mg g H σ env) (t : Tr g O0 st st' H H') : EnvOk mg g H' σ env := ⟨h.len, fun i d e =>
  let ⟨v, h1, h2⟩ := h.val i d e
  ⟨v, h1, HD.mono t.same d v h2⟩⟩
def rV (mg : Str → Option Value) (g : Gx) : D → V → Hp → Prop := fun d v H => HD mg g.sa (hide g.S H) d v
def rVs (mg : Str → Option Value) (g : Gx) : List D → List V → Hp → Prop := fun d v H => HDs mg g.sa (hide g.S H) d v
def rB : Bool → Bool → Hp → Prop := fun a b _ => b = a
def RE (mg : Str → Option Value) (E : XK) (t : TE) (F : DEnv → M D) : Prop := ∀ (g : Gx) (st : Option SS) (σ : L2.St) (H : Hp) (env : DEnv) (Q : VK), Good g st H → EnvOk mg g H σ env →
  Ans mg E (rV mg g) g st H (F env st) (fun _ _ v H' => Q v H') → t σ H Q
def RT (mg : Str → Option Value) (E : XK) (t : TT) (F : DEnv → M Bool) : Prop := ∀ (g : Gx) (st : Option SS) (σ : L2.St) (H : Hp) (env : DEnv) (Q : Bool → Hp → Prop), Good g st H → EnvOk mg g H σ env →
  Ans mg E rB g st H (F env st) (fun _ _ v H' => Q v H') → t σ H Q
def RA (mg : Str → Option Value) (E : XK) (t : TA) (F : DEnv → M (List D)) : Prop := ∀ (g : Gx) (st : Option SS) (σ : L2.St) (H : Hp) (env : DEnv) (Q : List V → Hp → Prop), Good g st H → EnvOk mg g H σ env →
  Ans mg E (rVs mg g) g st H (F env st) (fun _ _ v H' => Q v H') → t σ H Q
/-- an expression: its derivation and its function -/
structure Ev (X : Cx) (E : XK) (e : Expr) (F : DEnv → M D) (t : TE) : Prop where
  pe : PE X e t
  re : RE X.mg E t F
structure Et (X : Cx) (E : XK) (e : Expr) (F : DEnv → M Bool) (t : TT) : Prop where
  pt : PT X e t
  rt : RT X.mg E t F
structure Ew (X : Cx) (E : XK) (e : Expr) (F : DEnv → M Bool) (t : TT) : Prop where
  pw : PW X e t
  rt : RT X.mg E t F
structure Ea (X : Cx) (E : XK) (es : List Expr) (F : DEnv → M (List D)) (t : TA) : Prop where
  pa : PA X es t
  ra : RA X.mg E t F
theorem Ans.ret_ {mg : Str → Option Value} {E : XK} {α β : Type} {rel : α → β → Hp → Prop} {g : Gx} {st : Option SS} {H : Hp} {a : α} {R : α → Option SS → β → Hp → Prop} (hg : Good g st H) (h : Ans mg E rel g st H (ret a st) R) {v : β} (r : rel a v H) : R a st v H :=
  h v H (Tr.refl hg) r
/-! ### functions of expressions -/
def fName (i : Nat) : DEnv → M D := fun env => match env[i]? with
  | some (some d) => ret d
  | _ => stuck
def fC (d : D) : DEnv → M D := fun _ => ret d
def fOp (f : D → D → Option D) (A B : DEnv → M D) : DEnv → M D := fun env => bnd (A env) fun a => bnd (B env) fun b => ofO (f a b)
def fUn (f : D → Option D) (A : DEnv → M D) : DEnv → M D := fun env => bnd (A env) fun a => ofO (f a)
def fNil : DEnv → M (List D) := fun _ => ret []
def fCons (A : DEnv → M D) (B : DEnv → M (List D)) : DEnv → M (List D) := fun env => bnd (A env) fun a => bnd (B env) fun b => ret (a :: b)
def fBlt (f : List D → Option D) (A : DEnv → M (List D)) : DEnv → M D := fun env => bnd (A env) fun a => ofO (f a)
def fTst (A : DEnv → M D) : DEnv → M Bool := fun env => bnd (A env) fun a => match a with
  | .bl b => ret b
  | _ => stuck
def fIf (C : DEnv → M Bool) (A B : DEnv → M D) : DEnv → M D := fun env => bnd (C env) fun c => if c = true then A env else B env
def fAndT (A B : DEnv → M Bool) : DEnv → M Bool := fun env => bnd (A env) fun c => if c = true then B env else ret false
def fOrT (A B : DEnv → M Bool) : DEnv → M Bool := fun env => bnd (A env) fun c => if c = true then ret true else B env
def fNotT (A : DEnv → M Bool) : DEnv → M Bool := fun env => bnd (A env) fun c => ret (!c)
def fAndV (A B : DEnv → M D) : DEnv → M D := fun env => bnd (A env) fun a => match a with
  | .bl true => B env
  | .bl false => ret (.bl false)
  | _ => stuck
def fOrV (A B : DEnv → M D) : DEnv → M D := fun env => bnd (A env) fun a => match a with
  | .bl false => B env
  | .bl true => ret (.bl true)
  | _ => stuck
def fNotV (A : DEnv → M D) : DEnv → M D := fun env => bnd (A env) fun a => match a with
  | .bl b => ret (.bl (!b))
  | _ => stuck
def fTup (A : DEnv → M (List D)) : DEnv → M D := fun env => bnd (A env) fun ds => if ds.length ≤ sizeLine then ret (.tup ds) else stuck
def fLst (A : DEnv → M (List D)) : DEnv → M D := fun env => bnd (A env) fun ds => if ds.length ≤ sizeLine then ret (.lst ds) else stuck
def fStar (A : DEnv → M D) (B : DEnv → M (List D)) : DEnv → M (List D) := fun env => bnd (A env) fun a => match a with
  | .lst ds => bnd (B env) fun b => ret (ds ++ b)
  | .tup ds => bnd (B env) fun b => ret (ds ++ b)
  | _ => stuck
/-! ### values' rules -/
def OpOk (mg : Str → Option Value) (r : R2) (f : D → D → Option D) : Prop := ∀ (g : Gx) (st : Option SS) (H : Hp) (x y : V) (dx dy d : D) (Q : VK), Good g st H → HD mg g.sa (hide g.S H) dx x → HD mg g.sa (hide g.S H) dy y → f dx dy = some d →
  (∀ v H', Tr g O0 st st H H' → HD mg g.sa (hide g.S H') d v → Q v H') → r x y H Q
def CallOk (mg : Str → Option Value) (r : List V → Hp → VK → Prop) (f : List D → Option D) : Prop := ∀ (g : Gx) (st : Option SS) (H : Hp) (xs : List V) (ds : List D) (d : D) (Q : VK), Good g st H → HDs mg g.sa (hide g.S H) ds xs → f ds = some d →
  (∀ v H', Tr g O0 st st H H' → HD mg g.sa (hide g.S H') d v → Q v H') → r xs H Q
section
variable {X : Cx} {E : XK} {e a b c : Expr} {es : List Expr} {F A B : DEnv → M D} {G : DEnv → M (List D)} {C C' : DEnv → M Bool} {t ta tb : TE} {tl : TA} {tt tu : TT} {pos : Pos} {mg : Str → Option Value}
theorem Ans.ofO_ {α β : Type} {rel : α → β → Hp → Prop} {g : Gx} {st : Option SS} {H : Hp} {o : Option α} {R : α → Option SS → β → Hp → Prop} (h : Ans mg E rel g st H (ofO o st) R) : ∃ a, o = some a ∧ ∀ v H', Tr g O0 st st H H' → rel a v H' → R a st v H' := by
  cases o with
  | none => exact h.elim
  | some a => exact ⟨a, rfl, h⟩
theorem re_op {r : R2} {f : D → D → Option D} (ho : OpOk mg r f) (ha : RE mg E ta A) (hb : RE mg E tb B) : RE mg E (tOp r ta tb) (fOp f A B) := by
  intro g st σ H env Q hg he h
  refine ha g st σ H env _ hg he ((Ans.bnd h).imp fun dx st1 x H1 t1 hx h1 => ?_)
  refine hb g st1 σ H1 env _ t1.good (he.tr t1) ((Ans.bnd h1).imp fun dy st2 y H2 t2 hy h2 => ?_)
  obtain ⟨d, e, h3⟩ := h2.ofO_
  exact ho g st2 H2 x y dx dy d Q t2.good (HD.mono t2.same _ _ hx) hy e h3
theorem re_un {r : V → Hp → VK → Prop} {f : D → Option D} (ho : ∀ (g : Gx) (st : Option SS) (H : Hp) (x : V) (dx d : D) (Q : VK), Good g st H → HD mg g.sa (hide g.S H) dx x → f dx = some d → (∀ v H', Tr g O0 st st H H' → HD mg g.sa (hide g.S H') d v → Q v H') → r x H Q)
    (ha : RE mg E ta A) : RE mg E (tUn r ta) (fUn f A) := by
  intro g st σ H env Q hg he h
  refine ha g st σ H env _ hg he ((Ans.bnd h).imp fun dx st1 x H1 t1 hx h1 => ?_)
  obtain ⟨d, e, h3⟩ := h1.ofO_
  exact ho g st1 H1 x dx d Q t1.good hx e h3
theorem ra_nil : RA mg E tNil fNil := fun g st σ H env Q hg he h => Ans.ret_ hg h rfl
theorem ra_cons (ha : RE mg E ta A) (hb : RA mg E tl G) : RA mg E (tCons ta tl) (fCons A G) := by
  intro g st σ H env Q hg he h
  refine ha g st σ H env _ hg he ((Ans.bnd h).imp fun dx st1 x H1 t1 hx h1 => ?_)
  refine hb g st1 σ H1 env _ t1.good (he.tr t1) ((Ans.bnd h1).imp fun dy st2 y H2 t2 hy h2 => ?_)
  exact Ans.ret_ t2.good h2 ⟨x, y, rfl, HD.mono t2.same _ _ hx, hy⟩
theorem re_blt {r : List V → Hp → VK → Prop} {f : List D → Option D} (ho : CallOk mg r f) (ha : RA mg E tl G) : RE mg E (tCB r tl) (fBlt f G) := by
  intro g st σ H env Q hg he h
  refine ha g st σ H env _ hg he ((Ans.bnd h).imp fun dx st1 x H1 t1 hx h1 => ?_)
  obtain ⟨d, e, h3⟩ := h1.ofO_
  exact ho g st1 H1 x dx d Q t1.good hx e h3
theorem rt_tst (ha : RE mg E ta A) : RT mg E (tTest ta) (fTst A) := by
  intro g st σ H env Q hg he h
  refine ha g st σ H env _ hg he ((Ans.bnd h).imp fun dx st1 x H1 t1 hx h1 => ?_)
  cases dx with
  | bl b => exact ⟨b, hx, Ans.ret_ t1.good h1 rfl⟩
  | _ => exact h1.elim
theorem re_if (hc : RT mg E tt C) (ha : RE mg E ta A) (hb : RE mg E tb B) : RE mg E (tIf tt ta tb) (fIf C A B) := by
  intro g st σ H env Q hg he h
  refine hc g st σ H env _ hg he ((Ans.bnd h).imp fun c st1 x H1 t1 hx h1 => ?_)
  cases (show x = c from hx)
  cases c with
  | true => exact ha g st1 σ H1 env _ t1.good (he.tr t1) h1
  | false => exact hb g st1 σ H1 env _ t1.good (he.tr t1) h1
theorem rt_and (hc : RT mg E tt C) (hd : RT mg E tu C') : RT mg E (tAnd tt tu) (fAndT C C') := by
  intro g st σ H env Q hg he h
  refine hc g st σ H env _ hg he ((Ans.bnd h).imp fun c st1 x H1 t1 hx h1 => ?_)
  cases (show x = c from hx)
  cases c with
  | true => exact hd g st1 σ H1 env _ t1.good (he.tr t1) h1
  | false => exact Ans.ret_ t1.good h1 rfl
theorem rt_or (hc : RT mg E tt C) (hd : RT mg E tu C') : RT mg E (tOr tt tu) (fOrT C C') := by
  intro g st σ H env Q hg he h
  refine hc g st σ H env _ hg he ((Ans.bnd h).imp fun c st1 x H1 t1 hx h1 => ?_)
  cases (show x = c from hx)
  cases c with
  | true => exact Ans.ret_ t1.good h1 rfl
  | false => exact hd g st1 σ H1 env _ t1.good (he.tr t1) h1
theorem rt_not (hc : RT mg E tt C) : RT mg E (tNot tt) (fNotT C) := by
  intro g st σ H env Q hg he h
  refine hc g st σ H env _ hg he ((Ans.bnd h).imp fun c st1 x H1 t1 hx h1 => ?_)
  cases (show x = c from hx)
  exact Ans.ret_ t1.good h1 rfl
theorem re_and (ha : RE mg E ta A) (hb : RE mg E tb B) : RE mg E (tAndV ta tb) (fAndV A B) := by
  intro g st σ H env Q hg he h
  refine ha g st σ H env _ hg he ((Ans.bnd h).imp fun dx st1 x H1 t1 hx h1 => ?_)
  cases dx with
  | bl b =>
    cases b with
    | true => exact ⟨true, hx, hb g st1 σ H1 env _ t1.good (he.tr t1) h1⟩
    | false => exact ⟨false, hx, Ans.ret_ t1.good h1 rfl⟩
  | _ => exact h1.elim
theorem re_or (ha : RE mg E ta A) (hb : RE mg E tb B) : RE mg E (tOrV ta tb) (fOrV A B) := by
  intro g st σ H env Q hg he h
  refine ha g st σ H env _ hg he ((Ans.bnd h).imp fun dx st1 x H1 t1 hx h1 => ?_)
  cases dx with
  | bl b =>
    cases b with
    | true => exact ⟨true, hx, Ans.ret_ t1.good h1 rfl⟩
    | false => exact ⟨false, hx, hb g st1 σ H1 env _ t1.good (he.tr t1) h1⟩
  | _ => exact h1.elim
theorem re_not (ha : RE mg E ta A) : RE mg E (tNotV ta) (fNotV A) := by
  intro g st σ H env Q hg he h
  refine ha g st σ H env _ hg he ((Ans.bnd h).imp fun dx st1 x H1 t1 hx h1 => ?_)
  cases dx with
  | bl b => exact ⟨b, hx, Ans.ret_ t1.good h1 rfl⟩
  | _ => exact h1.elim
theorem re_tup (ha : RA mg E tl G) : RE mg E (tTup tl) (fTup G) := by
  intro g st σ H env Q hg he h
  refine ha g st σ H env _ hg he ((Ans.bnd h).imp fun ds st1 xs H1 t1 hx h1 => ?_)
  by_cases hl : ds.length ≤ sizeLine
  · rw [if_pos hl] at h1
    refine ⟨by rw [hx.length]; exact hl, fun p hp => ?_⟩
    have t2 : Tr g O0 st1 st1 H1 (upd H1 p (.tup xs)) := Tr.new t1.good hp
    exact h1 _ _ t2 ⟨p, xs, rfl, hide_of (t1.good.fresh hp) upd_same, HDs.mono t2.same _ _ hx⟩
  · rw [if_neg hl] at h1
    exact h1.elim
theorem re_lst (ha : RA mg E tl G) : RE mg E (tLst tl) (fLst G) := by
  intro g st σ H env Q hg he h
  refine ha g st σ H env _ hg he ((Ans.bnd h).imp fun ds st1 xs H1 t1 hx h1 => ?_)
  by_cases hl : ds.length ≤ sizeLine
  · rw [if_pos hl] at h1
    refine ⟨by rw [hx.length]; exact hl, fun p hp => ?_⟩
    have t2 : Tr g O0 st1 st1 H1 (upd H1 p (.lst xs)) := Tr.new t1.good hp
    exact h1 _ _ t2 ⟨p, xs, rfl, hide_of (t1.good.fresh hp) upd_same, HDs.mono t2.same _ _ hx⟩
  · rw [if_neg hl] at h1
    exact h1.elim
theorem ra_star {Kf : PySem.W.Frag} (ha : RE mg E ta A) (hb : RA mg E tl G) : RA mg E (StX.tStar Kf ta tl) (fStar A G) := by
  intro g st σ H env Q hg he h
  refine ha g st σ H env _ hg he ((Ans.bnd h).imp fun dx st1 x H1 t1 hx h1 => ?_)
  cases dx with
  | lst ds =>
    obtain ⟨p, xs, rfl, hp, hds⟩ := hx
    refine ⟨p, xs, rfl, .inr (SqL.of (hide_sub _ _ hp)), ?_⟩
    refine hb g st1 σ H1 env _ t1.good (he.tr t1) ((Ans.bnd h1).imp fun dy st2 y H2 t2 hy h2 => ?_)
    exact Ans.ret_ t2.good h2 (HDs.append (HDs.mono t2.same _ _ hds) hy)
  | tup ds =>
    obtain ⟨p, xs, rfl, hp, hds⟩ := hx
    refine ⟨p, xs, rfl, .inl (SqT.of (hide_sub _ _ hp)), ?_⟩
    refine hb g st1 σ H1 env _ t1.good (he.tr t1) ((Ans.bnd h1).imp fun dy st2 y H2 t2 hy h2 => ?_)
    exact Ans.ret_ t2.good h2 (HDs.append (HDs.mono t2.same _ _ hds) hy)
  | _ => exact h1.elim

/-! ### the rules -/
theorem ev_name (i : Nat) {x : Str} (hN : X.N[i]? = some x := by rfl) (hv : Vis X.env.scope x := by first | exact Or.inl rfl | exact Or.inr (Or.inl rfl) | exact Or.inr (Or.inr rfl)) (hd : (x == ("__debug__" : Str)) = false := by decide)
    (hcd : (x == ("__classdict__" : Str)) = false := by decide) : Ev X E (.Name x pos) (fName i) (tVar i) := by
  refine ⟨pe_var hN hv hd hcd, fun g st σ H env Q hg he h => ?_⟩
  unfold fName at h
  match q : env[i]?, h with
  | some (some d), h =>
    obtain ⟨v, h1, h2⟩ := he.val i d q
    exact ⟨v, h1, Ans.ret_ hg h h2⟩
  | some none, h => exact h.elim
  | none, h => exact h.elim
theorem ev_int {i : Int} {j} : Ev X E (.Constant (.int i) j pos) (fC (.int i)) (tC (.int i)) := ⟨pe_int, fun g st σ H env Q hg he h => Ans.ret_ hg h rfl⟩
theorem ev_bl {b : Bool} {j} : Ev X E (.Constant (.bool b) j pos) (fC (.bl b)) (tC (.bl b)) := ⟨pe_bl, fun g st σ H env Q hg he h => Ans.ret_ hg h rfl⟩
theorem ev_non {j} : Ev X E (.Constant .none j pos) (fC .non) (tC .non) := ⟨pe_non, fun g st σ H env Q hg he h => Ans.ret_ hg h rfl⟩
theorem ev_str {x : String} {j} : Ev X E (.Constant (.str x) j pos) (fC (.str (Str.ofString x))) (tC (.str (Str.ofString x))) := ⟨pe_str, fun g st σ H env Q hg he h => Ans.ret_ hg h rfl⟩
theorem ev_op {op : Operator} {r : R2} {f : D → D → Option D} (hp : OpR X (binaryOp op) r) (ho : OpOk X.mg r f) (ha : Ev X E a A ta) (hb : Ev X E b B tb) : Ev X E (.BinOp a op b pos) (fOp f A B) (tOp r ta tb) := ⟨pe_op hp ha.pe hb.pe, re_op ho ha.re hb.re⟩
theorem ev_cmp {op : CmpOp} {r : R2} {f : D → D → Option D} (hp : OpR X (compareOp op) r) (ho : OpOk X.mg r f) (ha : Ev X E a A ta) (hb : Ev X E b B tb) (hm : behindInMarks op b = false := by rfl) : Ev X E (.Compare a [op] [b] pos) (fOp f A B) (tOp r ta tb) := ⟨pe_cmpR hp ha.pe hb.pe hm, re_op ho ha.re hb.re⟩
theorem et_cmp {op : CmpOp} {r : R2} {f : D → D → Option D} (hp : OpR X (compareOp op) r) (ho : OpOk X.mg r f) (ha : Ev X E a A ta) (hb : Ev X E b B tb) (hm : behindInMarks op b = false := by rfl) : Et X E (.Compare a [op] [b] pos) (fTst (fOp f A B)) (tTest (tOp r ta tb)) := ⟨pt_cmpR hp ha.pe hb.pe hm, rt_tst (re_op ho ha.re hb.re)⟩
theorem ev_if (hc : Et X E c C tt) (ha : Ev X E a A ta) (hb : Ev X E b B tb) : Ev X E (.IfExp c a b pos) (fIf C A B) (tIf tt ta tb) := ⟨pe_ifExp hc.pt ha.pe hb.pe, re_if hc.rt ha.re hb.re⟩
theorem ev_and {rest : List Expr} (ha : Ev X E a A ta) (hb : Ev X E (.BoolOp .And (b :: rest) pos) B tb) : Ev X E (.BoolOp .And (a :: b :: rest) pos) (fAndV A B) (tAndV ta tb) := ⟨pe_and ha.pe hb.pe, re_and ha.re hb.re⟩
theorem ev_or {rest : List Expr} (ha : Ev X E a A ta) (hb : Ev X E (.BoolOp .Or (b :: rest) pos) B tb) : Ev X E (.BoolOp .Or (a :: b :: rest) pos) (fOrV A B) (tOrV ta tb) := ⟨pe_or ha.pe hb.pe, re_or ha.re hb.re⟩
theorem ev_one {op} (ha : Ev X E a A ta) : Ev X E (.BoolOp op [a] pos) A ta := ⟨pe_one ha.pe, ha.re⟩
theorem ev_not (ha : Ev X E a A ta) : Ev X E (.UnaryOp .Not a pos) (fNotV A) (tNotV ta) := ⟨pe_not ha.pe, re_not ha.re⟩
theorem ev_tup {j} (ha : Ea X E es G tl) : Ev X E (.Tuple es j pos) (fTup G) (tTup tl) := ⟨pe_tup ha.pa, re_tup ha.ra⟩
theorem ev_lst (ha : Ea X E es G tl) : Ev X E (.List es pos) (fLst G) (tLst tl) := ⟨pe_lst ha.pa, re_lst ha.ra⟩
theorem ea_nil : Ea X E [] fNil tNil := ⟨pa_nil, ra_nil⟩
theorem ea_cons (ha : Ev X E a A ta) (hb : Ea X E es G tl) (hs : starEach (a :: es) X.env = (false, eval a X.env) :: starEach es X.env := by rfl) : Ea X E (a :: es) (fCons A G) (tCons ta tl) := ⟨pa_cons ha.pe hb.pa hs, ra_cons ha.re hb.ra⟩
theorem ea_star {p : Pos} (ha : Ev X E a A ta) (hb : Ea X E es G tl) (hs : starEach (.Starred a p :: es) X.env = (true, eval a X.env) :: starEach es X.env := by rfl) : Ea X E (.Starred a p :: es) (fStar A G) (StX.tStar X.K ta tl) := ⟨StX.pa_star ha.pe hb.pa hs, ra_star ha.re hb.ra⟩
theorem et_and1 (ha : Et X E a C tt) : Ew X E (.BoolOp .And [a] pos) C tt := ⟨pw_and1 ha.pt, ha.rt⟩
theorem et_or1 (ha : Et X E a C tt) : Ew X E (.BoolOp .Or [a] pos) C tt := ⟨pw_or1 ha.pt, ha.rt⟩
theorem ew_and {rest : List Expr} (ha : Et X E a C tt) (hb : Ew X E (.BoolOp .And (b :: rest) pos) C' tu) : Ew X E (.BoolOp .And (a :: b :: rest) pos) (fAndT C C') (tAnd tt tu) := ⟨pw_and ha.pt hb.pw, rt_and ha.rt hb.rt⟩
theorem ew_or {rest : List Expr} (ha : Et X E a C tt) (hb : Ew X E (.BoolOp .Or (b :: rest) pos) C' tu) : Ew X E (.BoolOp .Or (a :: b :: rest) pos) (fOrT C C') (tOr tt tu) := ⟨pw_or ha.pt hb.pw, rt_or ha.rt hb.rt⟩
theorem Ew.et (h : Ew X E a C tt) : Et X E a C tt := ⟨h.pw.pt, h.rt⟩
theorem et_not (ha : Et X E a C tt) : Et X E (.UnaryOp .Not a pos) (fNotT C) (tNot tt) := ⟨pt_not ha.pt, rt_not ha.rt⟩
theorem et_val (ha : Ev X E a A ta) (he : ∀ whole, isTrue a X.env whole = (do let v ← whole; standAt a.pos; holding [v] (truthy v)) := by intro _; rfl) : Et X E a (fTst A) (tTest ta) := ⟨pt_val ha.pe he, rt_tst ha.re⟩
end
end VS

/-! VS1: what is walked, comprehensions, statements, defs: by plain functions. -/
namespace VS
open PySem PySem.Spec PyProof.Rows L2
variable {mg : Str → Option Value} {E : XK}
/-! ### what is walked -/
/-- the walk J gives just ds, as long as what stood at its start (G0) stands, whatever else is hidden -/
structure WD (mg : Str → Option Value) (sa : Addr) (G0 : Hp) (J : It) (ds : List D) : Prop where
  goes : ∀ i H (S : Addr → Prop), i < ds.length → (∀ b, S b → ∃ o, H b = some o) → Same G0 (hide S H) → J.go i H
  stops : ∀ H (S : Addr → Prop), (∀ b, S b → ∃ o, H b = some o) → Same G0 (hide S H) → J.stop ds.length H
  yields : ∀ i H (S : Addr → Prop) x H' d, ds[i]? = some d → (∀ b, S b → ∃ o, H b = some o) → Same G0 (hide S H) → J.yld i H x H' → (H' = H ∨ ∃ T o, H T = none ∧ H' = upd H T (.tup o)) ∧ HD mg sa (hide S H') d x
def RI (mg : Str → Option Value) (E : XK) (wi : TI) (F : DEnv → M (List D)) : Prop := ∀ (g : Gx) (st : Option SS) (σ : L2.St) (H : Hp) (env : DEnv) (R : It → Hp → Prop), Good g st H → EnvOk mg g H σ env →
  Ans mg E (fun ds J H' => WD mg g.sa (hide g.S H') J ds) g st H (F env st) (fun _ _ J H' => R J H') → wi σ H R
structure Ei (X : Cx) (E : XK) (tg iter : Expr) (F : DEnv → M (List D)) (wi : TI) : Prop where
  pi : PI X tg iter wi
  ri : RI X.mg E wi F
theorem WD.step {sa : Addr} {G0 : Hp} {J : It} {ds : List D} (w : WD mg sa G0 J ds) {g : Gx} {st : Option SS} {H : Hp} (hg : Good g st H) {i : Nat} {x : V} {H' : Hp} {d : D} {O : Addr → Prop} (e : ds[i]? = some d) (s : Same G0 (hide g.S H)) (y : J.yld i H x H') : Tr g O st st H H' ∧ HD mg sa (hide g.S H') d x := by
  obtain ⟨h, q⟩ := w.yields i H g.S x H' d e hg.dom s y
  refine ⟨?_, q⟩
  rcases h with rfl | ⟨T, o, hT, rfl⟩
  · exact Tr.refl hg
  · exact Tr.new hg hT
theorem wd_list {sa : Addr} {G0 : Hp} {K : PySem.W.Frag} {a : Addr} {xs : List V} {ds : List D} (h : G0 a = some (.lst xs)) (hd : HDs mg sa G0 ds xs) : WD mg sa G0 (Itl K a) ds := by
  refine ⟨fun i H S hi hS s => ?_, fun H S hS s => ?_, fun i H S x H' d e hS s y => ?_⟩
  · have q : SqL K H a xs := SqL.of (of_hide (s _ _ h)).2
    have hx : i < xs.length := by rw [hd.length]; exact hi
    exact ⟨xs, xs[i], q, List.getElem?_eq_getElem hx⟩
  · exact ⟨xs, SqL.of (of_hide (s _ _ h)).2, by rw [hd.length]; exact Nat.le_refl _⟩
  · obtain ⟨rfl, y⟩ := y
    obtain ⟨v, e1, e2⟩ := hd.get e
    have ex := y xs (SqL.of (of_hide (s _ _ h)).2)
    rw [e1] at ex
    cases ex
    exact ⟨.inl rfl, HD.mono s _ _ e2⟩
theorem wd_tup {sa : Addr} {G0 : Hp} {K : PySem.W.Frag} {a : Addr} {xs : List V} {ds : List D} (h : G0 a = some (.tup xs)) (hd : HDs mg sa G0 ds xs) : WD mg sa G0 (Itt K a) ds := by
  refine ⟨fun i H S hi hS s => ?_, fun H S hS s => ?_, fun i H S x H' d e hS s y => ?_⟩
  · have q : SqT K H a xs := SqT.of (of_hide (s _ _ h)).2
    have hx : i < xs.length := by rw [hd.length]; exact hi
    exact ⟨xs, xs[i], q, List.getElem?_eq_getElem hx⟩
  · exact ⟨xs, SqT.of (of_hide (s _ _ h)).2, by rw [hd.length]; exact Nat.le_refl _⟩
  · obtain ⟨rfl, y⟩ := y
    obtain ⟨v, e1, e2⟩ := hd.get e
    have ex := y xs (SqT.of (of_hide (s _ _ h)).2)
    rw [e1] at ex
    cases ex
    exact ⟨.inl rfl, HD.mono s _ _ e2⟩
theorem wd_range {sa : Addr} {G0 : Hp} {lo : Int} {n : Nat} : WD mg sa G0 (Itr lo n) ((List.range n).map fun i => D.int (lo + (i : Nat))) := by
  refine ⟨fun i H S hi hS s => ?_, fun H S hS s => ?_, fun i H S x H' d e hS s y => ?_⟩
  · show i < n
    simpa using hi
  · show n ≤ _
    simp
  · obtain ⟨rfl, rfl⟩ := y
    have hi := (List.getElem?_eq_some_iff.mp e).1
    rw [List.getElem?_map, List.getElem?_range (by simpa using hi)] at e
    cases e
    exact ⟨.inl rfl, rfl⟩
theorem wd_rangeC {sa : Addr} {G0 : Hp} {lo c : Int} {n : Nat} : WD mg sa G0 (Itc lo c n) ((List.range n).map fun i => D.int (lo + (i : Nat) * c)) := by
  refine ⟨fun i H S hi hS s => ?_, fun H S hS s => ?_, fun i H S x H' d e hS s y => ?_⟩
  · show i < n
    simpa using hi
  · show n ≤ _
    simp
  · obtain ⟨rfl, rfl⟩ := y
    have hi := (List.getElem?_eq_some_iff.mp e).1
    rw [List.getElem?_map, List.getElem?_range (by simpa using hi)] at e
    cases e
    exact ⟨.inl rfl, rfl⟩
def Str.signs (z : Str) : List D := z.cps.toList.map fun c => D.str ⟨#[c]⟩
theorem wd_str {sa : Addr} {G0 : Hp} {z : Str} : WD mg sa G0 (Its z) (VS.Str.signs z) := by
  have hl : (VS.Str.signs z).length = z.cps.size := by simp [VS.Str.signs]
  refine ⟨fun i H S hi hS s => ?_, fun H S hS s => ?_, fun i H S x H' d e hS s y => ?_⟩
  · exact walk_str.goes i H (by rw [← hl]; exact hi) trivial
  · rw [hl]
    exact walk_str.stops H trivial
  · have hi : i < z.cps.size := by
      have := (List.getElem?_eq_some_iff.mp e).1
      rw [← hl]; exact this
    obtain ⟨rfl, c, h1, h2⟩ := walk_str.yields i H x H' hi trivial y
    refine ⟨.inl rfl, ?_⟩
    unfold VS.Str.signs at e
    rw [List.getElem?_map, Array.getElem?_toList, h1] at e
    cases e
    exact h2
/-- the pairs of a walk that lays a new pair each turn -/
theorem wd_pair {sa : Addr} {G0 : Hp} {J : It} {n : Nat} {G : Hp → Prop} {fx fy : Nat → Option V} {ds : List D} {dx dy : Nat → D} (w : Walk J n G (YPair fx fy)) (hn : ds.length = n) (hds : ∀ i, i < n → ds[i]? = some (.tup [dx i, dy i]))
    (hG : ∀ H S, Same G0 (hide S H) → G H) (hx : ∀ i x, i < n → fx i = some x → HD mg sa G0 (dx i) x) (hy : ∀ i x, i < n → fy i = some x → HD mg sa G0 (dy i) x) : WD mg sa G0 J ds := by
  subst hn
  refine ⟨fun i H S hi hS s => w.goes i H hi (hG H S s), fun H S hS s => w.stops H (hG H S s), fun i H S x H' d e hS s y => ?_⟩
  have hi : i < ds.length := (List.getElem?_eq_some_iff.mp e).1
  obtain ⟨T, u, v, rfl, hT, rfl, h1, h2⟩ := w.yields i H x H' hi (hG H S s) y
  rw [hds i hi] at e
  cases e
  have nS : ¬ S T := fun z => by
    obtain ⟨o, q⟩ := hS T z
    rw [hT] at q; cases q
  have s2 : Same G0 (hide S (upd H T (.tup [u, v]))) := fun b o q => by
    obtain ⟨k1, k2⟩ := of_hide (s b o q)
    exact hide_of k1 (by rw [upd_ne (ne_of_none k2 hT)]; exact k2)
  exact ⟨.inr ⟨T, _, hT, rfl⟩, T, [u, v], rfl, hide_of nS upd_same, u, [v], rfl, HD.mono s2 _ _ (hx i u hi h1), v, [], rfl, HD.mono s2 _ _ (hy i v hi h2), rfl⟩
theorem PI.or {X : Cx} {tg e : Expr} {w1 w2 : TI} (h1 : PI X tg e w1) (h2 : PI X tg e w2) : PI X tg e (fun σ H R => w1 σ H R ∨ w2 σ H R) :=
  ⟨fun pins s σ H R I h => h.elim (h1.run pins s σ H R I) (h2.run pins s σ H R I)⟩
theorem PE.or {X : Cx} {e : Expr} {t1 t2 : TE} (h1 : PE X e t1) (h2 : PE X e t2) : PE X e (fun σ H Q => t1 σ H Q ∨ t2 σ H Q) :=
  ⟨fun pins s σ H R I h => h.elim (h1.run pins s σ H R I) (h2.run pins s σ H R I)⟩
/-- a list or a tuple's items -/
def D.seq : D → Option (List D)
  | .lst ds => some ds
  | .tup ds => some ds
  | _ => none
def fSeq (A : DEnv → M D) : DEnv → M (List D) := fun env => bnd (A env) fun a => ofO a.seq
theorem Ans.impE {α β : Type} {rel : α → β → Hp → Prop} {g : Gx} {st : Option SS} {H : Hp} {m : Option (Except Exn α × Option SS)} {R R' : α → Option SS → β → Hp → Prop} (h : Ans mg E rel g st H m R) (i : ∀ a st' v H', m = some (.ok a, st') → Tr g O0 st st' H H' → rel a v H' → R a st' v H' → R' a st' v H') : Ans mg E rel g st H m R' := by
  match m, h with
  | some (.ok a, st'), h => exact fun v H' t r => i a st' v H' rfl t r (h v H' t r)
  | some (.error x, st'), h => exact h
theorem ei_seq {X : Cx} {e tg : Expr} {A : DEnv → M D} {t : TE} (h : Ev X E e A t) : Ei X E tg e (fSeq A) (fun σ H R => iList X.K t σ H R ∨ iTup X.K t σ H R) := by
  refine ⟨PI.or (pi_list h.pe) (pi_tup h.pe), fun g st σ H env R hg he q => ?_⟩
  by_cases k : ∃ ds st', A env st = some (.ok (.tup ds), st')
  · obtain ⟨ds0, st0, k⟩ := k
    refine .inr (h.re g st σ H env _ hg he ((Ans.bnd q).impE fun d st1 v H1 e1 t1 r1 q1 => ?_))
    rw [k] at e1
    cases e1
    obtain ⟨a, xs, rfl, h1, h2⟩ := r1
    exact ⟨a, rfl, ⟨xs, SqT.of (hide_sub _ _ h1)⟩, Ans.ret_ t1.good q1 (wd_tup h1 h2)⟩
  · refine .inl (h.re g st σ H env _ hg he ((Ans.bnd q).impE fun d st1 v H1 e1 t1 r1 q1 => ?_))
    cases d with
    | lst ds =>
      obtain ⟨a, xs, rfl, h1, h2⟩ := r1
      exact ⟨a, rfl, ⟨xs, SqL.of (hide_sub _ _ h1)⟩, Ans.ret_ t1.good q1 (wd_list h1 h2)⟩
    | tup ds => exact absurd ⟨_, _, e1⟩ k
    | _ => exact q1.elim
def fStrs (A : DEnv → M D) : DEnv → M (List D) := fun env => bnd (A env) fun a => match a with
  | .str z => ret (VS.Str.signs z)
  | _ => stuck
theorem ei_str {X : Cx} {e tg : Expr} {A : DEnv → M D} {t : TE} (h : Ev X E e A t) : Ei X E tg e (fStrs A) (iStr t) := by
  refine ⟨pi_str h.pe, fun g st σ H env R hg he q => ?_⟩
  refine h.re g st σ H env _ hg he ((Ans.bnd q).imp fun d st1 v H1 t1 r1 q1 => ?_)
  cases d with
  | str z => exact ⟨z, r1, Ans.ret_ t1.good q1 wd_str⟩
  | _ => exact q1.elim
def big : Int := 2 ^ 62
def rng1 : List D → Option (List D)
  | [.int j] => if -(2 ^ 62) ≤ j ∧ j < 2 ^ 62 then some ((List.range j.toNat).map fun i => D.int (0 + (i : Nat))) else none
  | _ => none
def rng2 : List D → Option (List D)
  | [.int i, .int j] => if -(2 ^ 62) ≤ i ∧ i < 2 ^ 62 ∧ -(2 ^ 62) ≤ j ∧ j < 2 ^ 62 then some ((List.range (j - i).toNat).map fun k => D.int (i + (k : Nat))) else none
  | _ => none
theorem ite_some {c : Prop} [Decidable c] {α : Type} {x y : α} (h : (if c then some x else none) = some y) : c ∧ x = y := by
  by_cases k : c
  · rw [if_pos k] at h
    exact ⟨k, Option.some.inj h⟩
  · rw [if_neg k] at h
    cases h
def fIt (f : List D → Option (List D)) (A : DEnv → M (List D)) : DEnv → M (List D) := fun env => bnd (A env) fun a => ofO (f a)
theorem HDs.inv1 {sa : Addr} {H : Hp} {d : D} {xs : List V} (h : HDs mg sa H [d] xs) : ∃ v, xs = [v] ∧ HD mg sa H d v := by
  obtain ⟨v, vs, rfl, h1, h2⟩ := h
  cases (show vs = [] from h2)
  exact ⟨v, rfl, h1⟩
theorem HDs.inv2 {sa : Addr} {H : Hp} {d e : D} {xs : List V} (h : HDs mg sa H [d, e] xs) : ∃ v u, xs = [v, u] ∧ HD mg sa H d v ∧ HD mg sa H e u := by
  obtain ⟨v, vs, rfl, h1, h2⟩ := h
  obtain ⟨u, rfl, h3⟩ := h2.inv1
  exact ⟨v, u, rfl, h1, h3⟩
theorem HDs.inv3 {sa : Addr} {H : Hp} {d e f : D} {xs : List V} (h : HDs mg sa H [d, e, f] xs) : ∃ v u w, xs = [v, u, w] ∧ HD mg sa H d v ∧ HD mg sa H e u ∧ HD mg sa H f w := by
  obtain ⟨v, vs, rfl, h1, h2⟩ := h
  obtain ⟨u, w, rfl, h3, h4⟩ := h2.inv2
  exact ⟨v, u, w, rfl, h1, h3, h4⟩
theorem ei_rng1 {X : Cx} {e tg : Expr} {A : DEnv → M (List D)} {t : TA} {p pos : Pos} (hm : X.mg "range" = none) (h : Ea X E [e] A t) (hg : Gl X "range" := by rfl) (hs : starEach [e] X.env = [(false, eval e X.env)] := by rfl) : Ei X E tg (.Call (.Name "range" p) [e] [] pos) (fIt rng1 A) (iRng1 t) := by
  refine ⟨pi_range1 hg hm h.pa hs, fun g st σ H env R hgd he q => ?_⟩
  refine h.ra g st σ H env _ hgd he ((Ans.bnd q).imp fun d st1 v H1 t1 r1 q1 => ?_)
  obtain ⟨ds, e1, q2⟩ := q1.ofO_
  match d, e1, r1 with
  | [.int j], e1, r1 =>
    obtain ⟨c, rfl⟩ := ite_some e1
    obtain ⟨v, rfl, r⟩ := HDs.inv1 r1
    cases (show v = _ from r)
    exact ⟨j, rfl, c.1, c.2, q2 _ _ (Tr.refl t1.good) wd_range⟩
theorem ei_rng2 {X : Cx} {e e2 tg : Expr} {A : DEnv → M (List D)} {t : TA} {p pos : Pos} (hm : X.mg "range" = none) (h : Ea X E [e, e2] A t) (hg : Gl X "range" := by rfl) (hs : starEach [e, e2] X.env = [(false, eval e X.env), (false, eval e2 X.env)] := by rfl) (hs2 : starEach [e2] X.env = [(false, eval e2 X.env)] := by rfl) : Ei X E tg (.Call (.Name "range" p) [e, e2] [] pos) (fIt rng2 A) (iRng2 t) := by
  refine ⟨pi_range2 hg hm h.pa hs hs2, fun g st σ H env R hgd he q => ?_⟩
  refine h.ra g st σ H env _ hgd he ((Ans.bnd q).imp fun d st1 v H1 t1 r1 q1 => ?_)
  obtain ⟨ds, e1, q2⟩ := q1.ofO_
  match d, e1, r1 with
  | [.int i, .int j], e1, r1 =>
    obtain ⟨c, rfl⟩ := ite_some e1
    obtain ⟨v, u, rfl, r, r'⟩ := HDs.inv2 r1
    cases (show v = _ from r)
    cases (show u = _ from r')
    exact ⟨i, j, rfl, c, q2 _ _ (Tr.refl t1.good) wd_range⟩

/-! ### targets -/
def wipeD (env : DEnv) : List Nat → DEnv
  | [] => env
  | v :: vs => (wipeD env vs).set v none
theorem wipeD_length (env : DEnv) : ∀ vs, (wipeD env vs).length = env.length
  | [] => rfl
  | v :: vs => by unfold wipeD; rw [List.length_set, wipeD_length env vs]
theorem wipeD_some {env : DEnv} {i : Nat} {d : D} : ∀ {vs : List Nat}, (wipeD env vs)[i]? = some (some d) → env[i]? = some (some d) ∧ i ∉ vs
  | [], h => ⟨h, by simp⟩
  | v :: vs, h => by
    unfold wipeD at h
    rw [List.getElem?_set] at h
    by_cases e : v = i
    · rw [if_pos e] at h
      by_cases l : v < (wipeD env vs).length
      · rw [if_pos l] at h; cases h
      · rw [if_neg l] at h; cases h
    · rw [if_neg e] at h
      obtain ⟨h1, h2⟩ := wipeD_some h
      exact ⟨h1, fun m => (List.mem_cons.mp m).elim (fun q => e q.symm) h2⟩
theorem EnvOk.wipe {g : Gx} {H : Hp} {σ : L2.St} {env : DEnv} (h : EnvOk mg g H σ env) (vs : List Nat) : EnvOk mg g H (L2.wipe σ vs) (wipeD env vs) := by
  refine ⟨by rw [wipeD_length, wipe_length]; exact h.len, fun i d e => ?_⟩
  obtain ⟨e1, n⟩ := wipeD_some e
  obtain ⟨v, h1, h2⟩ := h.val i d e1
  exact ⟨v, by rw [wipe_out n]; exact h1, h2⟩
/-- where two slots' lists agree but at vs -/
structure UpdV (vs : List Nat) (σ σ' : L2.St) : Prop where
  len : σ'.length = σ.length
  out : ∀ i, i ∉ vs → σ'[i]? = σ[i]?
theorem UpdV.wipe {vs : List Nat} {σ σ' : L2.St} (h : UpdV vs σ σ') : L2.wipe σ' vs = L2.wipe σ vs := by
  have key : ∀ (σ : L2.St) (vs : List Nat) (i : Nat), i < σ.length → i ∈ vs → (L2.wipe σ vs)[i]? = some none := by
    intro σ vs
    induction vs with
    | nil => intro i _ hm; exact absurd hm (by simp)
    | cons v vs ih =>
      intro i hi hm
      unfold L2.wipe
      rw [List.getElem?_set]
      by_cases e : v = i
      · rw [if_pos e, if_pos (by rw [wipe_length]; omega)]
      · rw [if_neg e]
        exact ih i hi ((List.mem_cons.mp hm).elim (fun q => absurd q.symm e) id)
  apply List.ext_getElem?
  intro i
  by_cases hv : i ∈ vs
  · by_cases hi : i < σ.length
    · rw [key σ vs i hi hv, key σ' vs i (by rw [h.len]; exact hi) hv]
    · rw [List.getElem?_eq_none (by rw [wipe_length, h.len]; omega), List.getElem?_eq_none (by rw [wipe_length]; omega)]
  · rw [wipe_out hv, wipe_out hv, h.out i hv]
theorem UpdV.refl {vs : List Nat} {σ : L2.St} : UpdV vs σ σ := ⟨rfl, fun _ _ => rfl⟩
theorem UpdV.trans {vs : List Nat} {σ σ' σ'' : L2.St} (a : UpdV vs σ σ') (b : UpdV vs σ' σ'') : UpdV vs σ σ'' := ⟨b.len.trans a.len, fun i h => (b.out i h).trans (a.out i h)⟩
theorem UpdV.mono {vs ws : List Nat} {σ σ' : L2.St} (a : UpdV vs σ σ') (h : ∀ i ∈ vs, i ∈ ws) : UpdV ws σ σ' := ⟨a.len, fun i n => a.out i fun m => n (h i m)⟩
/-- a target by a function on the data -/
def RG (mg : Str → Option Value) (t : TG) (vs : List Nat) (f : D → DEnv → Option DEnv) : Prop := ∀ (g : Gx) (H : Hp) (σ : L2.St) (x : V) (d : D) (env env' : DEnv) (Q : L2.St → Hp → Prop), EnvOk mg g H σ env → HD mg g.sa (hide g.S H) d x → f d env = some env' →
  (∀ σ', EnvOk mg g H σ' env' → UpdV vs σ σ' → Q σ' H) → t x σ H Q
def RGs (mg : Str → Option Value) (t : TGs) (vs : List Nat) (f : List D → DEnv → Option DEnv) : Prop := ∀ (g : Gx) (H : Hp) (σ : L2.St) (xs : List V) (ds : List D) (env env' : DEnv) (Q : L2.St → Hp → Prop), EnvOk mg g H σ env → HDs mg g.sa (hide g.S H) ds xs → f ds env = some env' →
  (∀ σ', EnvOk mg g H σ' env' → UpdV vs σ σ' → Q σ' H) → t xs σ H Q
structure Eg (X : Cx) (target : Expr) (t : TG) (vs : List Nat) (f : D → DEnv → Option DEnv) : Prop where
  pg : PG X target t
  rg : RG X.mg t vs f
structure Egs (X : Cx) (ts : List Expr) (t : TGs) (vs : List Nat) (f : List D → DEnv → Option DEnv) : Prop where
  pgs : PGs X ts t
  rgs : RGs X.mg t vs f
def gSet (i : Nat) : D → DEnv → Option DEnv := fun d env => if i < env.length then some (env.set i (some d)) else none
def gsNil : List D → DEnv → Option DEnv
  | [], env => some env
  | _, _ => none
def gsCons (f : D → DEnv → Option DEnv) (r : List D → DEnv → Option DEnv) : List D → DEnv → Option DEnv
  | d :: ds, env => (f d env).bind (r ds)
  | [], _ => none
def gTp (n : Nat) (r : List D → DEnv → Option DEnv) : D → DEnv → Option DEnv
  | .tup ds, env => if ds.length = n then r ds env else none
  | _, _ => none
theorem EnvOk.set {g : Gx} {H : Hp} {σ : L2.St} {env : DEnv} (h : EnvOk mg g H σ env) {i : Nat} (hi : i < env.length) {d : D} {v : V} (hv : HD mg g.sa (hide g.S H) d v) : EnvOk mg g H (σ.set i (some v)) (env.set i (some d)) := by
  refine ⟨by rw [List.length_set, List.length_set]; exact h.len, fun j u e => ?_⟩
  rw [List.getElem?_set] at e
  rw [List.getElem?_set]
  by_cases c : i = j
  · rw [if_pos c, if_pos hi] at e
    cases e
    rw [if_pos c, if_pos (by rw [← h.len]; exact hi)]
    exact ⟨v, rfl, hv⟩
  · rw [if_neg c] at e
    rw [if_neg c]
    exact h.val j u e
theorem rg_name (i : Nat) : RG mg (gName i) [i] (gSet i) := by
  intro g H σ x d env env' Q he hd hf h
  obtain ⟨hi, rfl⟩ := ite_some hf
  refine h _ (he.set hi hd) ⟨List.length_set .., fun j n => ?_⟩
  rw [List.getElem?_set_ne (fun e => n (by rw [e]; exact List.mem_cons_self))]
theorem rgs_nil : RGs mg gNil [] gsNil := by
  intro g H σ xs ds env env' Q he hd hf h
  cases ds with
  | nil =>
    cases (show xs = [] from hd)
    cases hf
    exact ⟨rfl, h σ he UpdV.refl⟩
  | cons d ds => cases hf
theorem rgs_cons {t : TG} {u : TGs} {vs ws : List Nat} {f : D → DEnv → Option DEnv} {r : List D → DEnv → Option DEnv} (hf : RG mg t vs f) (hr : RGs mg u ws r) : RGs mg (gCons t u) (vs ++ ws) (gsCons f r) := by
  intro g H σ xs ds env env' Q he hd e h
  cases ds with
  | nil => cases e
  | cons d ds =>
    obtain ⟨v, xs', rfl, h1, h2⟩ := hd
    have e' : (f d env).bind (r ds) = some env' := e
    cases q : f d env with
    | none => rw [q] at e'; cases e'
    | some env1 =>
      rw [q] at e'
      refine ⟨v, xs', rfl, hf g H σ v d env env1 _ he h1 q fun σ1 he1 u1 => ?_⟩
      exact hr g H σ1 xs' ds env1 env' _ he1 h2 e' fun σ2 he2 u2 => h σ2 he2 ((u1.mono fun i m => List.mem_append_left _ m).trans (u2.mono fun i m => List.mem_append_right _ m))
theorem rg_tup {K : PySem.W.Frag} {n : Nat} {t : TGs} {vs : List Nat} {r : List D → DEnv → Option DEnv} (hr : RGs mg t vs r) : RG mg (gTup K n t) vs (gTp n r) := by
  intro g H σ x d env env' Q he hd e h
  cases d with
  | tup ds =>
    obtain ⟨a, xs, rfl, h1, h2⟩ := hd
    have e' : (if ds.length = n then r ds env else none) = some env' := e
    by_cases c : ds.length = n
    · rw [if_pos c] at e'
      exact ⟨a, xs, rfl, SqT.of (hide_sub _ _ h1), by rw [h2.length]; exact c, hr g H σ xs ds env env' Q he h2 e' h⟩
    · rw [if_neg c] at e'; cases e'
  | _ => cases e
theorem eg_name {X : Cx} (i : Nat) {x : Str} {pos : Pos} (hN : X.N.Nodup) (hi : X.N[i]? = some x := by rfl) (hx : Loc X.env.scope x := by first | exact Or.inl rfl | exact Or.inr rfl) (hf : X.fn x = true ∨ X.env.scope.names.lookup x = some .local := by first | exact .inl rfl | exact .inr rfl | assumption) : Eg X (.Name x pos) (gName i) [i] (gSet i) :=
  ⟨pg_name hN hi hx hf, rg_name i⟩
theorem egs_nil {X : Cx} : Egs X [] gNil [] gsNil := ⟨pgs_nil, rgs_nil⟩
theorem egs_cons {X : Cx} {e : Expr} {es : List Expr} {t : TG} {u : TGs} {vs ws : List Nat} {f : D → DEnv → Option DEnv} {r : List D → DEnv → Option DEnv} (h : Eg X e t vs f) (h2 : Egs X es u ws r) (hs : List.map (fun x => x.snd) (assignEach (e :: es) X.env) = assign e X.env :: List.map (fun x => x.snd) (assignEach es X.env) := by rfl) : Egs X (e :: es) (gCons t u) (vs ++ ws) (gsCons f r) := ⟨pgs_cons h.pg h2.pgs hs, rgs_cons h.rg h2.rgs⟩

/-! ### comprehensions -/
def nox {α : Type} (m : M α) : M α := fun st => match m st with
  | some (.ok a, st') => some (.ok a, st')
  | _ => none
theorem Ans.nox_ {E E' : XK} {α β : Type} {rel : α → β → Hp → Prop} {g : Gx} {st : Option SS} {H : Hp} {m : M α} {R : α → Option SS → β → Hp → Prop} (h : Ans mg E rel g st H (nox m st) R) : Ans mg E' rel g st H (m st) R := by
  unfold nox at h
  match e : m st, h with
  | some (.ok a, st'), h => exact h
  | some (.error x, st'), h => exact h.elim
  | none, h => exact h.elim
def lcGo (tg : D → DEnv → Option DEnv) (T : DEnv → M Bool) (F : DEnv → M D) (env : DEnv) : List D → List D → M (List D)
  | [], acc => ret acc
  | d :: ds, acc => match tg d env with
    | none => stuck
    | some env' => bnd (nox (T env')) fun b => if b = true then bnd (nox (F env')) fun y => if acc.length < sizeLine then lcGo tg T F env ds (acc ++ [y]) else stuck else lcGo tg T F env ds acc
def fLcL (Fi : DEnv → M (List D)) (tg : D → DEnv → Option DEnv) (T : DEnv → M Bool) (F : DEnv → M D) (vs : List Nat) : DEnv → M (List D) := fun env => bnd (Fi env) fun ds => lcGo tg T F (wipeD env vs) ds []
def fLc (Fi : DEnv → M (List D)) (tg : D → DEnv → Option DEnv) (T : DEnv → M Bool) (F : DEnv → M D) (vs : List Nat) : DEnv → M D := fun env => bnd (fLcL Fi tg T F vs env) fun ys => ret (.lst ys)
/-- a new list: at p, owned by nobody else -/
def rF (mg : Str → Option Value) (g : Gx) (H0 : Hp) : List D → V → Hp → Prop := fun ds v H => ∃ p xs, v = .ref p ∧ H0 p = none ∧ ¬ g.S p ∧ H p = some (.lst xs) ∧ HDs mg g.sa (hide (g.plus fun b => b = p).S H) ds xs
/-- an expression that makes a new list -/
def RF (mg : Str → Option Value) (E : XK) (t : TE) (F : DEnv → M (List D)) : Prop := ∀ (g : Gx) (st : Option SS) (σ : L2.St) (H : Hp) (env : DEnv) (Q : VK), Good g st H → EnvOk mg g H σ env →
  Ans mg E (rF mg g H) g st H (F env st) (fun _ _ v H' => Q v H') → t σ H Q
structure Ef (X : Cx) (E : XK) (e : Expr) (F : DEnv → M (List D)) (t : TE) : Prop where
  pe : PE X e t
  rf : RF X.mg E t F
def fL (F : DEnv → M (List D)) : DEnv → M D := fun env => bnd (F env) fun ys => ret (.lst ys)
theorem rF.hd {g : Gx} {H0 H : Hp} {ds : List D} {v : V} (h : rF mg g H0 ds v H) : HD mg g.sa (hide g.S H) (.lst ds) v := by
  obtain ⟨p, xs, rfl, _, h1, h2, h3⟩ := h
  exact ⟨p, xs, rfl, hide_of h1 h2, HDs.mono (hide_le fun b z => .inl z) _ _ h3⟩
theorem Ef.ev {X : Cx} {e : Expr} {F : DEnv → M (List D)} {t : TE} (h : Ef X E e F t) : Ev X E e (fL F) t := by
  refine ⟨h.pe, fun g st σ H env Q hg he q => ?_⟩
  exact h.rf g st σ H env _ hg he ((Ans.bnd q).imp fun ds st1 v H1 t1 r1 q1 => Ans.ret_ t1.good q1 r1.hd)
theorem Ans.elt {α β : Type} {rel : α → β → Hp → Prop} {g : Gx} {st : Option SS} {H : Hp} {m : Option (Except Exn α × Option SS)} {R R' : α → Option SS → β → Hp → Prop} (h : Ans mg E rel g st H m R) (i : R = R') : Ans mg E rel g st H m R' := i ▸ h
theorem rf_lc {wi : TI} {tg : TG} {tt : TT} {te : TE} {vs us : List Nat} {Fi : DEnv → M (List D)} {f : D → DEnv → Option DEnv} {T : DEnv → M Bool} {F : DEnv → M D} (hi : RI mg E wi Fi) (hg : RG mg tg us f) (hu : ∀ i ∈ us, i ∈ vs) (ht : RT mg E0 tt T) (he : RE mg E0 te F) :
    RF mg E (tLc wi tg tt te vs) (fLcL Fi f T F vs) := by
  intro g st σ H env Q hgd henv h
  refine hi g st σ H env _ hgd henv ((Ans.bnd h).imp fun ds st1 J H1 t1 wd q => ?_)
  intro D0 hD
  have henv1 : EnvOk mg g H1 σ env := henv.tr t1
  have nD : ¬ g.S D0 := t1.good.fresh hD
  -- hidden: what was, and the new list
  let g' : Gx := g.plus fun b => b = D0
  have G0' : ∀ H2, (∀ b o, ¬ g.S b → b ≠ D0 → H1 b = some o → H2 b = some o) → Same (hide g.S H1) (hide g'.S H2) := fun H2 k b o e => by
    obtain ⟨e1, e2⟩ := of_hide e
    have nb : b ≠ D0 := ne_of_none e2 hD
    exact hide_of (fun z => z.elim e1 nb) (k b o e1 nb e2)
  -- the word of the loop
  refine ⟨fun i m H2 => i + m = ds.length ∧ ∃ acc st2 xs, Good g' st2 H2 ∧ st2.isSome = st1.isSome ∧ (∀ b o, ¬ g.S b → b ≠ D0 → H1 b = some o → H2 b = some o) ∧ (∀ b, g.S b → (st1.isSome = true → b ≠ g.sa ∧ b ≠ g.sl) → H2 b = H1 b) ∧
      H2 D0 = some (.lst xs) ∧ HDs mg g.sa (hide g'.S H2) acc xs ∧ Ans mg E (rF mg g H) g st1 H1 (lcGo f T F (wipeD env vs) (ds.drop i) acc st2) (fun _ _ v H' => Q v H'), ⟨ds.length, by omega, [], st1, [], ?_, rfl, ?_, ?_, upd_same, rfl, q⟩, ?_⟩
  · have g1 : Good g' st1 (upd H1 D0 (.lst [])) := by
      have z : Good g st1 (upd H1 D0 (.lst [])) := (Tr.new (O := O0) t1.good hD).good
      exact z.plus fun b hb => ⟨.lst [], by rw [hb]; exact upd_same⟩
    exact g1
  · intro b o _ nb e
    rw [upd_ne nb]; exact e
  · intro b hb _
    rw [upd_ne (show b ≠ D0 from fun z => nD (z ▸ hb))]
  · rintro i m H2 ⟨him, acc, st2, xs, gd2, sm, k1, k2, hx, hacc, an⟩
    have sG : Same (hide g.S H1) (hide g'.S H2) := G0' H2 k1
    by_cases hlt : i < ds.length
    · refine .inr ⟨wd.goes i H2 g'.S hlt gd2.dom sG, fun H3 => ∃ acc st3 xs, Good g' st3 H3 ∧ st3.isSome = st1.isSome ∧ (∀ b o, ¬ g.S b → b ≠ D0 → H1 b = some o → H3 b = some o) ∧ (∀ b, g.S b → (st1.isSome = true → b ≠ g.sa ∧ b ≠ g.sl) → H3 b = H1 b) ∧
        H3 D0 = some (.lst xs) ∧ HDs mg g.sa (hide g'.S H3) acc xs ∧ Ans mg E (rF mg g H) g st1 H1 (lcGo f T F (wipeD env vs) (ds.drop (i + 1)) acc st3) (fun _ _ v H' => Q v H'), fun H3 n => ⟨m - 1, by omega, by omega, n⟩, fun x H3 y => ?_⟩
      have ed : ds[i]? = some ds[i] := List.getElem?_eq_getElem hlt
      obtain ⟨t3, hx3⟩ := WD.step (O := O0) wd (g := g') gd2 ed sG y
      have edr : ds.drop i = ds[i] :: ds.drop (i + 1) := List.drop_eq_getElem_cons hlt
      rw [edr] at an
      unfold lcGo at an
      -- the target
      have henv3 : EnvOk mg g' H3 σ env := ⟨henv1.len, fun j d e => by
        obtain ⟨v, h1, h2⟩ := henv1.val j d e
        exact ⟨v, h1, HD.mono t3.same _ _ (HD.mono sG _ _ h2)⟩⟩
      cases ef : f ds[i] (wipeD env vs) with
      | none =>
        rw [ef] at an
        exact an.elim
      | some env' =>
        rw [ef] at an
        refine hg g' H3 (L2.wipe σ vs) x ds[i] (wipeD env vs) env' _ (henv3.wipe vs) hx3 ef fun σ' he' u' => ⟨?_, ?_⟩
        · have q1 := (u'.mono hu).wipe
          have q2 : L2.wipe (L2.wipe σ vs) vs = L2.wipe σ vs := UpdV.wipe (vs := vs) ⟨by rw [wipe_length], fun j n => wipe_out n⟩
          rw [q1, q2]
        · -- from the outer state to this one
          have lift : ∀ {H4 : Hp} {st4 : Option SS}, Tr g' O0 st2 st4 H2 H4 → (∀ b o, ¬ g.S b → b ≠ D0 → H1 b = some o → H4 b = some o) ∧ (∀ b, g.S b → (st1.isSome = true → b ≠ g.sa ∧ b ≠ g.sl) → H4 b = H1 b) ∧ H4 D0 = some (.lst xs) ∧ st4.isSome = st1.isSome := by
            intro H4 st4 t4
            refine ⟨fun b o n1 n2 e => t4.keep b o (fun z => z.elim n1 n2) (fun z => z) (k1 b o n1 n2 e), fun b hb c => ?_, ?_, t4.some_.trans sm⟩
            · rw [t4.hid b (.inl hb) (by rw [sm]; exact c)]
              exact k2 b hb c
            · rw [t4.hid D0 (.inr rfl) (fun z => ?_)]
              · exact hx
              · have zz := gd2.at_
                cases st2 with
                | none => cases z
                | some s2 =>
                  have w := t1.good.at_
                  cases st1 with
                  | none => cases sm
                  | some s1 => exact ⟨fun q => nD (q ▸ w.1), fun q => nD (q ▸ w.2.1)⟩
          -- the answers so far are owed at the outer state; carry them in
          have inn : ∀ {γ δ : Type} {rel : γ → δ → Hp → Prop} {mm : M γ} {k : γ → M (List D)} {st5 : Option SS} {H5 : Hp} {rel2 : γ → δ → Hp → Prop}, Tr g' O0 st2 st5 H2 H5 → Ans mg E (rF mg g H) g st1 H1 (bnd (nox mm) k st5) (fun _ _ v H' => Q v H') →
              Ans mg E0 rel2 g' st5 H5 (mm st5) (fun a st6 _ H6 => Ans mg E (rF mg g H) g st1 H1 (k a st6) (fun _ _ v H' => Q v H')) := by
            intro γ δ rel mm k st5 H5 rel2 _ h5
            unfold bnd nox at h5
            match e5 : mm st5, h5 with
            | some (.ok a, st6), h5 => exact fun _ _ _ _ => h5
            | some (.error x, st6), h5 => exact h5.elim
            | none, h5 => exact h5.elim
          refine ht g' st2 σ' H3 env' _ t3.good he' ((inn (rel := rB) (rel2 := rB) t3 an).imp fun b st4 b' H4 t4 rb an4 => ?_)
          cases (show b' = b from rb)
          cases b with
          | false =>
            obtain ⟨l1, l2, l3, l4⟩ := lift (t3.trans0 t4)
            exact ⟨acc, st4, xs, t4.good, l4, l1, l2, l3, HDs.mono (t3.trans0 t4).same _ _ hacc, an4⟩
          | true =>
            refine he g' st4 σ' H4 env' _ t4.good (he'.tr t4) ((inn (rel := rV mg g') (rel2 := rV mg g') (t3.trans0 t4) an4).imp fun y5 st5 v5 H5 t5 r5 an5 => ?_)
            obtain ⟨l1, l2, l3, l4⟩ := lift ((t3.trans0 t4).trans0 t5)
            have hl : xs.length = acc.length := hacc.length
            by_cases c : acc.length < sizeLine
            · rw [if_pos c] at an5
              have hidD : hide g'.S (upd H5 D0 (.lst (xs ++ [v5]))) = hide g'.S H5 := by
                funext b
                unfold hide
                by_cases z : g'.S b
                · rw [if_pos z, if_pos z]
                · rw [if_neg z, if_neg z, upd_ne (fun q => z (.inr q))]
              refine ⟨xs, l3, by rw [hl]; exact c, acc ++ [y5], st5, xs ++ [v5], ?_, l4, fun b o n1 n2 e => ?_, fun b hb cc => ?_, upd_same, ?_, an5⟩
              · refine ⟨fun b hb => ?_, ?_⟩
                · by_cases z : b = D0
                  · exact ⟨.lst (xs ++ [v5]), by rw [z]; exact upd_same⟩
                  · obtain ⟨o, eo⟩ := t5.good.dom b hb
                    exact ⟨o, by rw [upd_ne z]; exact eo⟩
                · have w5 := t5.good.at_
                  cases st5 with
                  | none => trivial
                  | some s5 =>
                    obtain ⟨a1, a2, a3, a4, a5⟩ := w5
                    have w := t1.good.at_
                    cases st1 with
                    | none => cases l4
                    | some s1 => exact ⟨a1, a2, a3, by rw [upd_ne (show g'.sa ≠ D0 from fun q => nD (q ▸ w.1))]; exact a4, by rw [upd_ne (show g'.sl ≠ D0 from fun q => nD (q ▸ w.2.1))]; exact a5⟩
              · rw [upd_ne n2]; exact l1 b o n1 n2 e
              · rw [upd_ne (show b ≠ D0 from fun z => nD (z ▸ hb))]; exact l2 b hb cc
              · rw [hidD]
                exact HDs.append (HDs.mono ((t3.trans0 t4).trans0 t5).same _ _ hacc) (HDs.one r5)
            · rw [if_neg c] at an5
              exact an5.elim
    · have e : i = ds.length := by omega
      subst e
      refine .inl ⟨wd.stops H2 g'.S gd2.dom sG, ?_⟩
      rw [List.drop_length] at an
      unfold lcGo at an
      have trE : Tr g O0 st1 st2 H1 H2 := by
        refine ⟨fun b o n1 _ e => k1 b o n1 (ne_of_none e hD) e, k2, ?_, sm⟩
        refine ⟨fun b hb => gd2.dom b (.inl hb), ?_⟩
        have w2 := gd2.at_
        cases st2 with
        | none => trivial
        | some s2 =>
          have w := t1.good.at_
          cases st1 with
          | none => cases sm
          | some s1 =>
            obtain ⟨a1, a2, a3, a4, a5⟩ := w2
            exact ⟨w.1, w.2.1, a3, a4, a5⟩
      refine an (.ref D0) H2 trE ⟨D0, xs, rfl, ?_, nD, hx, hacc⟩
      cases z : H D0 with
      | none => rfl
      | some o =>
        have k := t1.keep D0 o nD (fun z => z) z
        rw [hD] at k; cases k
structure Ets (X : Cx) (E : XK) (ifs : List Expr) (T : DEnv → M Bool) (t : TT) : Prop where
  pts : PTs X ifs t
  rt : RT X.mg E t T
def fYes : DEnv → M Bool := fun _ => ret true
theorem ets_nil {X : Cx} : Ets X E [] fYes tYes := ⟨pts_nil, fun g st σ H env Q hg he h => Ans.ret_ hg h rfl⟩
theorem ets_one {X : Cx} {c : Expr} {T : DEnv → M Bool} {t : TT} (h : Et X E c T t) : Ets X E [c] T t := ⟨pts_one h.pt, h.rt⟩
theorem ef_lc {X : Cx} {elt tg iter : Expr} {ifs : List Expr} {scope : Scope} {own : List (Str × Nat)} {pos : Pos} {wi : TI} {g : TG} {tt : TT} {te : TE} {us : List Nat} {Fi : DEnv → M (List D)} {f : D → DEnv → Option DEnv} {T : DEnv → M Bool} {F : DEnv → M D}
    (hc : X.calm = true) (hN : X.N.Nodup) (ok : BlkOk X.N X.env.scope scope own) (hi : Ei X E tg iter Fi wi)
    (hg : ∀ (s : Shared) (H : Hp) (C : Addr) (cl : List (Str × Addr)) (fp : List Addr), Eg (X.blk s H scope (compEnvC scope cl C X.env) fp) tg g us f) (ht : ∀ (s : Shared) (H : Hp) (C : Addr) (cl : List (Str × Addr)) (fp : List Addr), Ets (X.blk s H scope (compEnvC scope cl C X.env) fp) E0 ifs T tt)
    (he : ∀ (s : Shared) (H : Hp) (C : Addr) (cl : List (Str × Addr)) (fp : List Addr), Ev (X.blk s H scope (compEnvC scope cl C X.env) fp) E0 elt F te) (hu : ∀ i ∈ us, i ∈ own.map (·.2) := by decide) (hs : ∀ x, foldedSetIterable iter X.env x = pure x := by intro _; rfl) :
    Ef X E (.ListComp elt [⟨tg, iter, ifs, 0⟩] scope pos) (fLcL Fi f T F (own.map (·.2))) (tLc wi g tt te (own.map (·.2))) := by
  refine ⟨pe_lc hc hN hi.pi ok (fun s H C cl fp => (hg s H C cl fp).pg) (fun s H C cl fp => (ht s H C cl fp).pts) (fun s H C cl fp => (he s H C cl fp).pe) hs, ?_⟩
  exact rf_lc hi.ri (hg X.s_0 X.H_0 0 [] []).rg hu (ht X.s_0 X.H_0 0 [] []).rt (he X.s_0 X.H_0 0 [] []).re
end VS

/-! VS2: statements and defs by plain functions; lists that a def fills are its own. -/
namespace VS
open PySem PySem.Spec PyProof.Rows L2
variable {mg : Str → Option Value} {E : XK}
/-- a slot: without a value; a value; a list that only this slot holds -/
inductive Sl where
  | un | val (d : D) | own (ds : List D)
abbrev SEnv := List Sl
def Sl.cl : Sl → Option D
  | .val d => some d
  | _ => none
def Sl.al : Sl → Option D
  | .val d => some d
  | .own ds => some (.lst ds)
  | .un => none
def Sl.fz : Sl → Sl
  | .own ds => .val (.lst ds)
  | s => s
def cl (env : SEnv) : DEnv := env.map Sl.cl
def al (env : SEnv) : DEnv := env.map Sl.al
def fz (env : SEnv) : SEnv := env.map Sl.fz
def Ow (env : SEnv) (f : Nat → Addr) : Addr → Prop := fun b => ∃ (i : Nat) (ds : List D), env[i]? = some (Sl.own ds) ∧ f i = b
structure SOk (mg : Str → Option Value) (g : Gx) (H : Hp) (σ : L2.St) (env : SEnv) (f : Nat → Addr) : Prop where
  len : env.length = σ.length
  inj : ∀ (i j : Nat) (ds ds' : List D), env[i]? = some (Sl.own ds) → env[j]? = some (Sl.own ds') → f i = f j → i = j
  out : ∀ (i : Nat) (ds : List D), env[i]? = some (Sl.own ds) → ¬ g.S (f i)
  val : ∀ (i : Nat) (d : D), env[i]? = some (Sl.val d) → ∃ v, σ[i]? = some (some v) ∧ HD mg g.sa (hide (g.plus (Ow env f)).S H) d v
  own : ∀ (i : Nat) (ds : List D), env[i]? = some (Sl.own ds) → σ[i]? = some (some (.ref (f i))) ∧ ∃ xs, H (f i) = some (.lst xs) ∧ HDs mg g.sa (hide (g.plus (Ow env f)).S H) ds xs
section
variable {g : Gx} {O : Addr → Prop} {st st' : Option SS} {H H' : Hp} {σ : L2.St} {env : SEnv} {f : Nat → Addr}
theorem Ow.dom (h : SOk mg g H σ env f) : ∀ b, Ow env f b → ∃ o, H b = some o := by
  rintro b ⟨i, ds, e, rfl⟩
  obtain ⟨_, xs, q, _⟩ := h.own i ds e
  exact ⟨_, q⟩
theorem Ow.out (h : SOk mg g H σ env f) : ∀ b, Ow env f b → ¬ g.S b := by
  rintro b ⟨i, ds, e, rfl⟩
  exact h.out i ds e
theorem SOk.clean (h : SOk mg g H σ env f) : EnvOk mg (g.plus (Ow env f)) H σ (cl env) := by
  refine ⟨by unfold cl; rw [List.length_map]; exact h.len, fun i d e => ?_⟩
  unfold cl at e
  rw [List.getElem?_map] at e
  match q : env[i]?, e with
  | some (Sl.val d'), e =>
    cases e
    exact h.val i _ q
  | some Sl.un, e => cases e
  | some (Sl.own ds), e => cases e
  | none, e => cases e
theorem SOk.all (h : SOk mg g H σ env f) : EnvOk mg g H σ (al env) := by
  refine ⟨by unfold al; rw [List.length_map]; exact h.len, fun i d e => ?_⟩
  have sub : Same (hide (g.plus (Ow env f)).S H) (hide g.S H) := hide_le fun b z => .inl z
  unfold al at e
  rw [List.getElem?_map] at e
  match q : env[i]?, e with
  | some (Sl.val d'), e =>
    cases e
    obtain ⟨v, h1, h2⟩ := h.val i _ q
    exact ⟨v, h1, HD.mono sub _ _ h2⟩
  | some Sl.un, e => cases e
  | some (Sl.own ds), e =>
    cases e
    obtain ⟨h1, xs, h2, h3⟩ := h.own i ds q
    exact ⟨_, h1, f i, xs, rfl, hide_of (h.out i ds q) h2, HDs.mono sub _ _ h3⟩
  | none, e => cases e
theorem SOk.good (h : SOk mg g H σ env f) (hg : Good g st H) : Good (g.plus (Ow env f)) st H := hg.plus (Ow.dom h)
/-- a step that writes nothing of ours -/
theorem SOk.tr (h : SOk mg g H σ env f) (t : Tr g O0 st st' H H') : SOk mg g H' σ env f := by
  have s : Same (hide (g.plus (Ow env f)).S H) (hide (g.plus (Ow env f)).S H') := fun b o e => by
    obtain ⟨h1, h2⟩ := of_hide e
    exact hide_of h1 (t.keep b o (fun z => h1 (.inl z)) (fun z => z) h2)
  refine ⟨h.len, h.inj, h.out, fun i d e => ?_, fun i ds e => ?_⟩
  · obtain ⟨v, h1, h2⟩ := h.val i d e
    exact ⟨v, h1, HD.mono s _ _ h2⟩
  · obtain ⟨h1, xs, h2, h3⟩ := h.own i ds e
    exact ⟨h1, xs, t.keep _ _ (h.out i ds e) (fun z => z) h2, HDs.mono s _ _ h3⟩
/-- under the greater hiding -/
theorem SOk.trP (h : SOk mg g H σ env f) (hg : Good g st H) (t : Tr (g.plus (Ow env f)) O0 st st' H H') : Tr g O0 st st' H H' ∧ SOk mg g H' σ env f :=
  have t' : Tr g O0 st st' H H' := t.less (Ow.out h) hg.at_
  ⟨t', h.tr t'⟩
theorem Ow.set_val {i : Nat} {d : D} : ∀ b, Ow (env.set i (Sl.val d)) f b → Ow env f b := by
  rintro b ⟨j, ds, e, rfl⟩
  rw [List.getElem?_set] at e
  by_cases c : i = j
  · rw [if_pos c] at e
    by_cases l : i < env.length
    · rw [if_pos l] at e; cases e
    · rw [if_neg l] at e; cases e
  · rw [if_neg c] at e
    exact ⟨j, ds, e, rfl⟩
/-- a value is stored -/
theorem SOk.set_val (h : SOk mg g H σ env f) {i : Nat} (hi : i < env.length) {d : D} {v : V} (hv : HD mg g.sa (hide (g.plus (Ow env f)).S H) d v) : SOk mg g H (σ.set i (some v)) (env.set i (Sl.val d)) f := by
  have sub : Same (hide (g.plus (Ow env f)).S H) (hide (g.plus (Ow (env.set i (Sl.val d)) f)).S H) := hide_le fun b z => z.elim .inl fun z => .inr (Ow.set_val b z)
  have old : ∀ {j : Nat} {ds : List D}, (env.set i (Sl.val d))[j]? = some (Sl.own ds) → env[j]? = some (Sl.own ds) ∧ i ≠ j := by
    intro j ds e
    rw [List.getElem?_set] at e
    by_cases c : i = j
    · rw [if_pos c, if_pos hi] at e; cases e
    · rw [if_neg c] at e
      exact ⟨e, c⟩
  refine ⟨by rw [List.length_set, List.length_set]; exact h.len, fun a b ds ds' e1 e2 => h.inj a b ds ds' (old e1).1 (old e2).1, fun a ds e => h.out a ds (old e).1, fun j u e => ?_, fun j ds e => ?_⟩
  · rw [List.getElem?_set] at e
    rw [List.getElem?_set]
    by_cases c : i = j
    · rw [if_pos c, if_pos hi] at e
      cases e
      rw [if_pos c, if_pos (by rw [← h.len]; exact hi)]
      exact ⟨v, rfl, HD.mono sub _ _ hv⟩
    · rw [if_neg c] at e
      rw [if_neg c]
      obtain ⟨w, h1, h2⟩ := h.val j u e
      exact ⟨w, h1, HD.mono sub _ _ h2⟩
  · obtain ⟨e1, c⟩ := old e
    obtain ⟨h1, xs, h2, h3⟩ := h.own j ds e1
    exact ⟨by rw [List.getElem?_set_ne c]; exact h1, xs, h2, HDs.mono sub _ _ h3⟩
/-- a new list is stored as our own -/
theorem SOk.set_own (h : SOk mg g H σ env f) {i : Nat} (hi : i < env.length) {ds : List D} {p : Addr} {xs : List V} (nS : ¬ g.S p) (nO : ¬ Ow env f p) (hp : H p = some (.lst xs)) (hx : HDs mg g.sa (hide ((g.plus (Ow env f)).plus fun b => b = p).S H) ds xs)
    (hval : ∀ (j : Nat) (d : D), j ≠ i → env[j]? = some (Sl.val d) → ∃ v, σ[j]? = some (some v) ∧ HD mg g.sa (hide ((g.plus (Ow env f)).plus fun b => b = p).S H) d v)
    (hown : ∀ (j : Nat) (es : List D), j ≠ i → env[j]? = some (Sl.own es) → σ[j]? = some (some (.ref (f j))) ∧ ∃ xs, H (f j) = some (.lst xs) ∧ HDs mg g.sa (hide ((g.plus (Ow env f)).plus fun b => b = p).S H) es xs) :
    SOk mg g H (σ.set i (some (.ref p))) (env.set i (Sl.own ds)) (fun j => if j = i then p else f j) := by
  have sub : Same (hide ((g.plus (Ow env f)).plus fun b => b = p).S H) (hide (g.plus (Ow (env.set i (Sl.own ds)) (fun j => if j = i then p else f j))).S H) := hide_le fun b z => by
    rcases z with z | ⟨j, es, e, z⟩
    · exact .inl (.inl z)
    · rw [List.getElem?_set] at e
      by_cases c : i = j
      · subst c
        have z' : (if i = i then p else f i) = b := z
        rw [if_pos rfl] at z'
        exact .inr z'.symm
      · rw [if_neg c] at e
        have z' : (if j = i then p else f j) = b := z
        rw [if_neg (fun q : j = i => c q.symm)] at z'
        exact .inl (.inr ⟨j, es, e, z'⟩)
  have old : ∀ {j : Nat} {s : Sl}, (env.set i (Sl.own ds))[j]? = some s → (j = i ∧ s = .own ds) ∨ (j ≠ i ∧ env[j]? = some s) := by
    intro j s e
    rw [List.getElem?_set] at e
    by_cases c : i = j
    · rw [if_pos c, if_pos hi] at e
      cases e
      exact .inl ⟨c.symm, rfl⟩
    · rw [if_neg c] at e
      exact .inr ⟨fun q => c q.symm, e⟩
  refine ⟨by rw [List.length_set, List.length_set]; exact h.len, fun a b es es' e1 e2 q => ?_, fun a es e => ?_, fun j u e => ?_, fun j es e => ?_⟩
  · rcases old e1 with ⟨c1, _⟩ | ⟨c1, k1⟩
    · rcases old e2 with ⟨c2, _⟩ | ⟨c2, k2⟩
      · exact c1.trans c2.symm
      · simp only [if_pos c1, if_neg c2] at q
        exact absurd ⟨b, _, k2, q.symm⟩ nO
    · rcases old e2 with ⟨c2, _⟩ | ⟨c2, k2⟩
      · simp only [if_neg c1, if_pos c2] at q
        exact absurd ⟨a, _, k1, q⟩ nO
      · simp only [if_neg c1, if_neg c2] at q
        exact h.inj a b _ _ k1 k2 q
  · rcases old e with ⟨c1, _⟩ | ⟨c1, k1⟩
    · simp only [if_pos c1]; exact nS
    · simp only [if_neg c1]; exact h.out a _ k1
  · rcases old e with ⟨c1, c2⟩ | ⟨c1, k1⟩
    · cases c2
    · obtain ⟨v, h1, h2⟩ := hval j u c1 k1
      exact ⟨v, by rw [List.getElem?_set_ne (Ne.symm c1)]; exact h1, HD.mono sub _ _ h2⟩
  · rcases old e with ⟨c1, c2⟩ | ⟨c1, k1⟩
    · cases c2
      subst c1
      simp only [if_pos]
      exact ⟨by rw [List.getElem?_set_self (by rw [← h.len]; exact hi)], xs, hp, HDs.mono sub _ _ hx⟩
    · obtain ⟨h1, ys, h2, h3⟩ := hown j es c1 k1
      simp only [if_neg c1]
      exact ⟨by rw [List.getElem?_set_ne (Ne.symm c1)]; exact h1, ys, h2, HDs.mono sub _ _ h3⟩
/-- ownership is given up -/
theorem SOk.fz (h : SOk mg g H σ env f) : SOk mg g H σ (VS.fz env) f := by
  have no : ∀ {j : Nat} {ds : List D}, (VS.fz env)[j]? = some (Sl.own ds) → False := by
    intro j ds e
    unfold VS.fz at e
    rw [List.getElem?_map] at e
    match q : env[j]?, e with
    | some (Sl.val _), e => cases e
    | some Sl.un, e => cases e
    | some (Sl.own _), e => cases e
    | none, e => cases e
  have sub : Same (hide g.S H) (hide (g.plus (Ow (VS.fz env) f)).S H) := hide_le fun b z => z.elim id fun ⟨j, ds, e, _⟩ => (no e).elim
  refine ⟨by unfold VS.fz; rw [List.length_map]; exact h.len, fun i j ds ds' e => (no e).elim, fun i ds e => (no e).elim, fun i d e => ?_, fun i ds e => (no e).elim⟩
  have q : (al env)[i]? = some (some d) := by
    unfold VS.fz at e
    unfold al
    rw [List.getElem?_map] at e ⊢
    match q : env[i]?, e with
    | some (Sl.val _), e => cases e; rfl
    | some Sl.un, e => cases e
    | some (Sl.own _), e => cases e; rfl
    | none, e => cases e
  obtain ⟨v, h1, h2⟩ := h.all.val i d q
  exact ⟨v, h1, HD.mono sub _ _ h2⟩
theorem Ow.fz_no : ∀ b, Ow (VS.fz env) f b → False := by
  rintro b ⟨j, ds, e, _⟩
  unfold VS.fz at e
  rw [List.getElem?_map] at e
  match q : env[j]?, e with
  | some (Sl.val _), e => cases e
  | some Sl.un, e => cases e
  | some (Sl.own _), e => cases e
  | none, e => cases e
end

/-! ### what a statement does -/
inductive Fl where
  | nx (e : SEnv) | bk (e : SEnv) | ct (e : SEnv) | rt (d : D) | rf (ds : List D)
def EndO (mg : Str → Option Value) (g : Gx) (O : Addr → Prop) (st st' : Option SS) (H : Hp) (env' : SEnv) (R : L2.St → Hp → Prop) : Prop :=
  ∀ σ' H' f', Tr g O st st' H H' → SOk mg g H' σ' env' f' → (∀ b, Ow env' f' b → O b ∨ H b = none) → R σ' H'
def AnsS (mg : Str → Option Value) (E : XK) (g : Gx) (O : Addr → Prop) (st : Option SS) (H : Hp) (m : Option (Except Exn Fl × Option SS)) (Dn : Ends) : Prop := match m with
  | none => False
  | some (.ok (.nx e), st') => EndO mg g O st st' H e Dn.nx
  | some (.ok (.bk e), st') => EndO mg g O st st' H e Dn.bk
  | some (.ok (.ct e), st') => EndO mg g O st st' H e Dn.ct
  | some (.ok (.rt d), st') => ∀ v H', Tr g O st st' H H' → HD mg g.sa (hide g.S H') d v → Dn.rt v H'
  | some (.ok (.rf ds), st') => ∀ p xs H', Tr g O st st' H H' → (O p ∨ H p = none) → ¬ g.S p → H' p = some (.lst xs) → HDs mg g.sa (hide (g.plus fun b => b = p).S H') ds xs → Dn.rt (.ref p) H'
  | some (.error x, st') => ∀ C xd v H', mg x.c = some (.ref C) → Tr g O st st' H H' → H' xd = some (.xd [(x.f, v)]) → HD mg g.sa (hide g.S H') x.d v → E (.ref C) (some xd) H'
section
variable {g : Gx} {O O' : Addr → Prop} {st st' st'' : Option SS} {H H' : Hp} {σ : L2.St} {env : SEnv} {f : Nat → Addr} {Dn : Ends}
theorem EndO.shift {e : SEnv} {R : L2.St → Hp → Prop} (h : EndO mg g O st st'' H e R) (t : Tr g O st st' H H') (hO : ∀ b, O' b → O b ∨ H b = none) (hs : ∀ b, H' b = none → H b = none ∨ O b) : EndO mg g O' st' st'' H' e R :=
  fun σ' H2 f' t2 s2 o2 => h σ' H2 f' (t.trans t2 hO) s2 fun b ob => (o2 b ob).elim (hO b) fun z => (hs b z).elim .inr .inl
/-- what stood before a step stands behind it, or was ours -/
theorem Tr.old (t : Tr g O st st' H H') : ∀ b, H' b = none → H b = none ∨ O b := fun b hb => by
  by_cases c : O b
  · exact .inr c
  · refine .inl ?_
    cases q : H b with
    | none => rfl
    | some o =>
      by_cases s : g.S b
      · obtain ⟨o', e⟩ := t.good.dom b s
        rw [hb] at e; cases e
      · have := t.keep b o s c q
        rw [hb] at this; cases this
theorem AnsS.shift {m : Option (Except Exn Fl × Option SS)} (h : AnsS mg E g O st H m Dn) (t : Tr g O st st' H H') (hO : ∀ b, O' b → O b ∨ H b = none) : AnsS mg E g O' st' H' m Dn := by
  match m, h with
  | some (.ok (.nx e), _), h => exact EndO.shift h t hO t.old
  | some (.ok (.bk e), _), h => exact EndO.shift h t hO t.old
  | some (.ok (.ct e), _), h => exact EndO.shift h t hO t.old
  | some (.ok (.rt d), _), h => exact fun v H2 t2 q => h v H2 (t.trans t2 hO) q
  | some (.ok (.rf ds), _), h => exact fun p xs H2 t2 o n q1 q2 => h p xs H2 (t.trans t2 hO) (o.elim (hO p) fun z => (t.old p z).elim .inr .inl) n q1 q2
  | some (.error x, _), h => exact fun C xd v H2 e t2 q1 q2 => h C xd v H2 e (t.trans t2 hO) q1 q2
/-- an expression, then a statement's rest -/
theorem AnsS.bnd {α β : Type} {rel : α → β → Hp → Prop} {m : M α} {k : α → M Fl} (h : AnsS mg E g O st H (VS.bnd m k st) Dn) : Ans mg E rel g st H (m st) fun a st1 _ H1 => AnsS mg E g O st1 H1 (k a st1) Dn := by
  unfold VS.bnd at h
  match e : m st, h with
  | some (.ok a, st'), h => exact fun v H' t _ => AnsS.shift h (t.weak fun _ z => z.elim) fun b z => .inl z
  | some (.error x, st'), h => exact fun C xd v H' e1 t q1 q2 => h C xd v H' e1 (t.weak fun _ z => z.elim) q1 q2
  | none, h => exact h.elim
theorem AnsS.bnd0 {α β : Type} {rel : α → β → Hp → Prop} {m : M α} {k : α → M Fl} (h : AnsS mg E g O st H (VS.bnd m k st) Dn) : Ans mg E rel g st H (m st) fun a st1 _ H1 => AnsS mg E g O st H (k a st1) Dn := by
  unfold VS.bnd at h
  match e : m st, h with
  | some (.ok a, st'), h => exact fun v H' t _ => h
  | some (.error x, st'), h => exact fun C xd v H' e1 t q1 q2 => h C xd v H' e1 (t.weak fun _ z => z.elim) q1 q2
  | none, h => exact h.elim
/-- an answer owed under the lesser hiding is owed under the greater -/
theorem Ans.plus {α β : Type} {rel : α → β → Hp → Prop} {rel' : α → β → Hp → Prop} {m : Option (Except Exn α × Option SS)} {R : α → Option SS → β → Hp → Prop} (hO : ∀ b, O b → ¬ g.S b) (hg : StAt g st H) (hr : ∀ a v H', rel' a v H' → rel a v H') (h : Ans mg E rel g st H m R) : Ans mg E rel' (g.plus O) st H m R := by
  match m, h with
  | some (.ok a, st'), h => exact fun v H' t r => h v H' (t.less hO hg) (hr _ _ _ r)
  | some (.error x, st'), h => exact fun C xd v H' e t q1 q2 => h C xd v H' e (t.less hO hg) q1 (HD.mono (hide_le fun b z => .inl z) _ _ q2)
end
def RS (mg : Str → Option Value) (E : XK) (t : TS) (F : SEnv → M Fl) : Prop := ∀ (g : Gx) (st : Option SS) (σ : L2.St) (H : Hp) (env : SEnv) (f : Nat → Addr) (Dn : Ends), Good g st H → SOk mg g H σ env f → AnsS mg E g (Ow env f) st H (F env st) Dn → t Dn σ H
structure Es (X : Cx) (E : XK) (s : Stmt) (F : SEnv → M Fl) (t : TS) : Prop where
  ps : PS X s t
  rs : RS X.mg E t F
structure Ess (X : Cx) (E : XK) (s : List Stmt) (F : SEnv → M Fl) (t : TS) : Prop where
  pss : PSs X s t
  rs : RS X.mg E t F
def sNext : SEnv → M Fl := fun env => ret (.nx env)
def sSeq (F G : SEnv → M Fl) : SEnv → M Fl := fun env => bnd (F env) fun r => match r with
  | .nx e => G e
  | r => ret r
def sDrop (F : DEnv → M D) : SEnv → M Fl := fun env => bnd (F (cl env)) fun _ => ret (.nx env)
def sSet (i : Nat) (F : DEnv → M D) : SEnv → M Fl := fun env => bnd (F (cl env)) fun d => if i < env.length then ret (.nx (env.set i (Sl.val d))) else stuck
/-- the value a scalar: our own lists may be read for it -/
def sSetA (i : Nat) (F : DEnv → M D) : SEnv → M Fl := fun env => bnd (F (al env)) fun d => if i < env.length then (match d.sc with
  | some _ => ret (.nx (env.set i (Sl.val d)))
  | none => ret (.nx ((fz env).set i (Sl.val d)))) else stuck
def sSetO (i : Nat) (F : DEnv → M (List D)) : SEnv → M Fl := fun env => bnd (F (cl env)) fun d => if i < env.length then ret (.nx (env.set i (.own d))) else stuck
def sRet (F : DEnv → M D) : SEnv → M Fl := fun env => bnd (F (al env)) fun d => ret (.rt d)
def sIf (C : DEnv → M Bool) (F G : SEnv → M Fl) : SEnv → M Fl := fun env => bnd (C (al env)) fun c => if c = true then F env else G env
section
variable {t u : TS} {te : TE} {tt : TT} {F G : SEnv → M Fl} {A : DEnv → M D} {C : DEnv → M Bool}
theorem rs_next : RS mg E tNext sNext := fun g st σ H env f Dn hg hs h => h σ H f (Tr.refl hg) hs fun b z => .inl z
theorem rs_seq (h1 : RS mg E t F) (h2 : RS mg E u G) : RS mg E (tSeq t u) (sSeq F G) := by
  intro g st σ H env f Dn hg hs h
  refine h1 g st σ H env f _ hg hs ?_
  unfold sSeq bnd at h
  match e : F env st, h with
  | some (.ok (.nx e'), st'), h =>
    intro σ' H' f' t' s' o'
    exact h2 g st' σ' H' e' f' Dn t'.good s' (AnsS.shift h t' o')
  | some (.ok (.bk e'), st'), h => exact h
  | some (.ok (.ct e'), st'), h => exact h
  | some (.ok (.rt d), st'), h => exact h
  | some (.ok (.rf d), st'), h => exact h
  | some (.error x, st'), h => exact h
  | none, h => exact h.elim
theorem rs_drop (h1 : RE mg E te A) : RS mg E (tDrop te) (sDrop A) := by
  intro g st σ H env f Dn hg hs h
  refine h1 (g.plus (Ow env f)) st σ H (cl env) _ (hs.good hg) hs.clean (Ans.plus (rel := fun _ _ _ => True) (Ow.out hs) hg.at_ (fun _ _ _ _ => trivial) ((AnsS.bnd h).imp fun d st1 v H1 t1 _ q => ?_))
  exact q σ H1 f (Tr.refl t1.good) (hs.tr t1) fun b z => .inl z
theorem rs_set (i : Nat) (h1 : RE mg E te A) : RS mg E (tAsg te (gName i)) (sSet i A) := by
  intro g st σ H env f Dn hg hs h
  refine h1 (g.plus (Ow env f)) st σ H (cl env) _ (hs.good hg) hs.clean (Ans.plus (rel := fun d v H1 => HD mg g.sa (hide (g.plus (Ow env f)).S H1) d v) (Ow.out hs) hg.at_ (fun _ _ _ r => r) ((AnsS.bnd h).imp fun d st1 v H1 t1 r q => ?_))
  by_cases c : i < env.length
  · rw [if_pos c] at q
    exact q _ H1 f (Tr.refl t1.good) ((hs.tr t1).set_val c r) fun b z => .inl (Ow.set_val b z)
  · rw [if_neg c] at q
    exact q.elim
theorem rs_setA (i : Nat) (h1 : RE mg E te A) : RS mg E (tAsg te (gName i)) (sSetA i A) := by
  intro g st σ H env f Dn hg hs h
  refine h1 g st σ H (al env) _ hg hs.all ((AnsS.bnd h).imp fun d st1 v H1 t1 r q => ?_)
  by_cases c : i < env.length
  · rw [if_pos c] at q
    cases e : d.sc with
    | some u =>
      rw [e] at q
      exact q _ H1 f (Tr.refl t1.good) ((hs.tr t1).set_val c (HD.sc_any e r)) fun b z => .inl (Ow.set_val b z)
    | none =>
      rw [e] at q
      refine q _ H1 f (Tr.refl t1.good) ((hs.tr t1).fz.set_val (by unfold fz; rw [List.length_map]; exact c) ?_) fun b z => (Ow.fz_no b (Ow.set_val b z)).elim
      exact HD.mono (hide_le fun b z => z.elim id fun z => (Ow.fz_no b z).elim) _ _ r
  · rw [if_neg c] at q
    exact q.elim
theorem rs_setO (i : Nat) {B : DEnv → M (List D)} (h1 : RF mg E te B) : RS mg E (tAsg te (gName i)) (sSetO i B) := by
  intro g st σ H env f Dn hg hs h
  refine h1 (g.plus (Ow env f)) st σ H (cl env) _ (hs.good hg) hs.clean (Ans.plus (rel := rF mg (g.plus (Ow env f)) H) (Ow.out hs) hg.at_ (fun _ _ _ r => r) ((AnsS.bnd0 h).imp fun d st1 v H1 t1 r q => ?_))
  obtain ⟨p, xs, rfl, hp0, nS, hp, hx⟩ := r
  by_cases c : i < env.length
  · rw [if_pos c] at q
    -- what stood does not lean on the new list
    have s : Same (hide (g.plus (Ow env f)).S H) (hide ((g.plus (Ow env f)).plus fun b => b = p).S H1) := fun b o e => by
      obtain ⟨e1, e2⟩ := of_hide e
      exact hide_of (fun z => z.elim e1 (ne_of_none e2 hp0)) (t1.keep b o (fun z => e1 (.inl z)) (fun z => z) e2)
    refine q _ H1 _ (t1.weak fun _ z => z.elim) ((hs.tr t1).set_own c (fun z => nS (.inl z)) (fun z => nS (.inr z)) hp hx (fun j u n e => ?_) fun j es n e => ?_) fun b z => ?_
    · obtain ⟨w, k1, k2⟩ := hs.val j u e
      exact ⟨w, k1, HD.mono s _ _ k2⟩
    · obtain ⟨k1, ys, k2, k3⟩ := hs.own j es e
      exact ⟨k1, ys, t1.keep _ _ (hs.out j es e) (fun z => z) k2, HDs.mono s _ _ k3⟩
    · obtain ⟨j, es, e, z⟩ := z
      rw [List.getElem?_set] at e
      by_cases k : i = j
      · subst k
        have z' : (if i = i then p else f i) = b := z
        rw [if_pos rfl] at z'
        subst z'
        exact .inr hp0
      · rw [if_neg k] at e
        have z' : (if j = i then p else f j) = b := z
        rw [if_neg (fun q : j = i => k q.symm)] at z'
        exact .inl ⟨j, es, e, z'⟩
  · rw [if_neg c] at q
    exact q.elim
theorem rs_ret (h1 : RE mg E te A) : RS mg E (tRet te) (sRet A) := by
  intro g st σ H env f Dn hg hs h
  refine h1 g st σ H (al env) _ hg hs.all ((AnsS.bnd h).imp fun d st1 v H1 t1 r q => ?_)
  exact q v H1 (Tr.refl t1.good) r
theorem rs_retN : RS mg E tRetN (fun _ => ret (.rt .non)) := fun g st σ H env f Dn hg hs h => h .non H (Tr.refl hg) rfl
theorem rs_if (hc : RT mg E tt C) (h1 : RS mg E t F) (h2 : RS mg E u G) : RS mg E (tIfS tt t u) (sIf C F G) := by
  intro g st σ H env f Dn hg hs h
  refine hc g st σ H (al env) _ hg hs.all ((AnsS.bnd h).imp fun c st1 b H1 t1 r q => ?_)
  cases (show b = c from r)
  cases c with
  | true => exact h1 g st1 σ H1 env f Dn t1.good (hs.tr t1) q
  | false => exact h2 g st1 σ H1 env f Dn t1.good (hs.tr t1) q
theorem rs_break : RS mg E tBreak (fun env => ret (.bk env)) := fun g st σ H env f Dn hg hs h => h σ H f (Tr.refl hg) hs fun b z => .inl z
theorem rs_cont : RS mg E tCont (fun env => ret (.ct env)) := fun g st σ H env f Dn hg hs h => h σ H f (Tr.refl hg) hs fun b z => .inl z
/-- an own list is given back -/
def sRetO (i : Nat) : SEnv → M Fl := fun env => match env[i]? with
  | some (.own ds) => ret (.rf ds)
  | _ => stuck
theorem rs_retO (i : Nat) : RS mg E (tRet (tVar i)) (sRetO i) := by
  intro g st σ H env f Dn hg hs h
  unfold sRetO at h
  match e : env[i]?, h with
  | some (.own ds), h =>
    obtain ⟨k1, xs, k2, k3⟩ := hs.own i ds e
    refine ⟨_, k1, ?_⟩
    exact h (f i) xs H (Tr.refl hg) (.inl ⟨i, ds, e, rfl⟩) (hs.out i ds e) k2 (HDs.mono (hide_le fun b z => z.elim .inl fun z => .inr ⟨i, ds, e, z.symm⟩) _ _ k3)
  | some (.val _), h => exact h.elim
  | some .un, h => exact h.elim
  | none, h => exact h.elim
/-- a new list is given back -/
def sRetF (F : DEnv → M (List D)) : SEnv → M Fl := fun env => bnd (F (cl env)) fun ds => ret (.rf ds)
theorem rs_retF {B : DEnv → M (List D)} (h1 : RF mg E te B) : RS mg E (tRet te) (sRetF B) := by
  intro g st σ H env f Dn hg hs h
  refine h1 (g.plus (Ow env f)) st σ H (cl env) _ (hs.good hg) hs.clean (Ans.plus (rel := rF mg (g.plus (Ow env f)) H) (Ow.out hs) hg.at_ (fun _ _ _ r => r) ((AnsS.bnd0 h).imp fun d st1 v H1 t1 r q => ?_))
  obtain ⟨p, xs, rfl, hp0, nS, hp, hx⟩ := r
  exact q p xs H1 (t1.weak fun _ z => z.elim) (.inr hp0) (fun z => nS (.inl z)) hp (HDs.mono (hide_le fun b z => z.elim (fun z => .inl (.inl z)) .inr) _ _ hx)
end
end VS

/-! VS3: our own lists changed, loops, errors, defs and their calls: by plain functions. -/
namespace VS
open PySem PySem.Spec PyProof.Rows L2
variable {mg : Str → Option Value} {E : XK}
/-! ### a list of our own is changed -/
section
variable {g : Gx} {O : Addr → Prop} {st st' : Option SS} {H H' : Hp} {σ : L2.St} {env : SEnv} {f : Nat → Addr}
theorem hide_upd {S : Addr → Prop} {a : Addr} {o : HO} (h : S a) : hide S (upd H a o) = hide S H := by
  funext b
  unfold hide
  by_cases z : S b
  · rw [if_pos z, if_pos z]
  · rw [if_neg z, if_neg z, upd_ne (show b ≠ a from fun q => z (q ▸ h))]
theorem Ow.set_own {i : Nat} {ds ds' : List D} (e : env[i]? = some (Sl.own ds)) : ∀ b, Ow (env.set i (.own ds')) f b ↔ Ow env f b := by
  intro b
  have hi : i < env.length := (List.getElem?_eq_some_iff.mp e).1
  constructor
  · rintro ⟨j, es, q, z⟩
    rw [List.getElem?_set] at q
    by_cases c : i = j
    · subst c
      exact ⟨i, ds, e, z⟩
    · rw [if_neg c] at q
      exact ⟨j, es, q, z⟩
  · rintro ⟨j, es, q, z⟩
    by_cases c : i = j
    · subst c
      exact ⟨i, ds', by rw [List.getElem?_set_self hi], z⟩
    · exact ⟨j, es, by rw [List.getElem?_set_ne c]; exact q, z⟩
theorem SOk.upd_own (h : SOk mg g H σ env f) (hg : Good g st H) {i : Nat} {ds ds' : List D} {xs : List V} (e : env[i]? = some (Sl.own ds)) (hx : HDs mg g.sa (hide (g.plus (Ow env f)).S H) ds' xs) :
    SOk mg g (upd H (f i) (.lst xs)) σ (env.set i (.own ds')) f ∧ Tr g (Ow env f) st st H (upd H (f i) (.lst xs)) := by
  have hi : i < env.length := (List.getElem?_eq_some_iff.mp e).1
  have hO : Ow env f (f i) := ⟨i, ds, e, rfl⟩
  have nS := h.out i ds e
  have eS : hide (g.plus (Ow (env.set i (.own ds')) f)).S (upd H (f i) (.lst xs)) = hide (g.plus (Ow env f)).S H := by
    have : (g.plus (Ow (env.set i (.own ds')) f)).S = (g.plus (Ow env f)).S := by
      funext b
      exact propext ⟨fun z => z.elim .inl fun z => .inr ((Ow.set_own e b).mp z), fun z => z.elim .inl fun z => .inr ((Ow.set_own e b).mpr z)⟩
    rw [this]
    exact hide_upd (.inr hO)
  have old : ∀ {j : Nat} {s : Sl}, (env.set i (.own ds'))[j]? = some s → (j = i ∧ s = .own ds') ∨ (j ≠ i ∧ env[j]? = some s) := by
    intro j s e
    rw [List.getElem?_set] at e
    by_cases c : i = j
    · rw [if_pos c, if_pos hi] at e
      cases e
      exact .inl ⟨c.symm, rfl⟩
    · rw [if_neg c] at e
      exact .inr ⟨fun q => c q.symm, e⟩
  have own_ : ∀ {j : Nat} {es : List D}, (env.set i (.own ds'))[j]? = some (Sl.own es) → ∃ es', env[j]? = some (Sl.own es') := by
    intro j es e'
    rcases old e' with ⟨c, _⟩ | ⟨_, k⟩
    · exact ⟨ds, c ▸ e⟩
    · exact ⟨es, k⟩
  refine ⟨⟨by rw [List.length_set]; exact h.len, fun a b es es' e1 e2 q => ?_, fun a es e1 => ?_, fun j d e1 => ?_, fun j es e1 => ?_⟩, ?_⟩
  · obtain ⟨_, k1⟩ := own_ e1
    obtain ⟨_, k2⟩ := own_ e2
    exact h.inj a b _ _ k1 k2 q
  · obtain ⟨_, k1⟩ := own_ e1
    exact h.out a _ k1
  · rcases old e1 with ⟨_, c⟩ | ⟨_, k⟩
    · cases c
    · rw [eS]
      exact h.val j d k
  · rw [eS]
    rcases old e1 with ⟨c, c2⟩ | ⟨c, k⟩
    · cases c2
      subst c
      exact ⟨(h.own j ds e).1, xs, upd_same, hx⟩
    · obtain ⟨k1, ys, k2, k3⟩ := h.own j es k
      have ne : f j ≠ f i := fun q => c (h.inj j i _ _ k e q)
      exact ⟨k1, ys, by rw [upd_ne ne]; exact k2, k3⟩
  · refine ⟨fun b o n1 n2 e1 => by rw [upd_ne (show b ≠ f i from fun q => n2 (q ▸ hO))]; exact e1, fun b hb _ => by rw [upd_ne (show b ≠ f i from fun q => nS (q ▸ hb))], ?_, rfl⟩
    refine ⟨fun b hb => by
      obtain ⟨o, q⟩ := hg.dom b hb
      exact ⟨o, by rw [upd_ne (show b ≠ f i from fun q => nS (q ▸ hb))]; exact q⟩, ?_⟩
    exact hg.at_.keep fun b o hb q => by rw [upd_ne (show b ≠ f i from fun q => nS (q ▸ hb))]; exact q
end
/-- a method that changes a list: step tells its items behind it and what it gives -/
def MutOk (mg : Str → Option Value) (r : V → List V → Hp → VK → Prop) (step : List D → List D → Option (List D × D)) : Prop := ∀ (g : Gx) (H : Hp) (l : Addr) (xs ys : List V) (ds es ds' : List D) (d : D) (Q : VK), g.S l → H l = some (.lst xs) → HDs mg g.sa (hide g.S H) ds xs → HDs mg g.sa (hide g.S H) es ys → step ds es = some (ds', d) →
  (∀ xs' v, HDs mg g.sa (hide g.S H) ds' xs' → HD mg g.sa (hide g.S H) d v → Q v (upd H l (.lst xs'))) → r (.ref l) ys H Q
/-- .. its arguments read by our lists hidden -/
def sMut (i : Nat) (step : List D → List D → Option (List D × D)) (F : DEnv → M (List D)) : SEnv → M Fl := fun env => match env[i]? with
  | some (.own ds) => bnd (F (cl env)) fun es => match step ds es with
      | some (ds', _) => ret (.nx (env.set i (.own ds')))
      | none => stuck
  | _ => stuck
theorem rs_mut {K : PySem.W.Frag} {ta : TA} {F : DEnv → M (List D)} {r : V → List V → Hp → VK → Prop} {step : List D → List D → Option (List D × D)} (i : Nat) (hm : MutOk mg r step) (ha : RA mg E ta F) : RS mg E (tDrop (tBM K "list" r (tVar i) ta)) (sMut i step F) := by
  intro g st σ H env f Dn hg hs h
  unfold sMut at h
  match e : env[i]?, h with
  | some (.own ds), h =>
    obtain ⟨k1, xs, k2, k3⟩ := hs.own i ds e
    refine ⟨.ref (f i), k1, .inl ⟨rfl, xs, SqL.of k2⟩, ?_⟩
    refine ha (g.plus (Ow env f)) st σ H (cl env) _ (hs.good hg) hs.clean (Ans.plus (rel := fun es ys H1 => HDs mg g.sa (hide (g.plus (Ow env f)).S H1) es ys) (Ow.out hs) hg.at_ (fun _ _ _ r => r) ((AnsS.bnd (k := fun es => match step ds es with
      | some (ds', _) => ret (.nx (env.set i (.own ds')))
      | none => stuck) h).imp fun es st1 ys H1 t1 r q => ?_))
    have hs1 := hs.tr t1
    obtain ⟨_, xs1, j2, j3⟩ := hs1.own i ds e
    cases es' : step ds es with
    | none => rw [es'] at q; exact q.elim
    | some p =>
      obtain ⟨ds', d⟩ := p
      rw [es'] at q
      refine hm (g.plus (Ow env f)) H1 (f i) xs1 ys ds es ds' d _ (.inr ⟨i, ds, e, rfl⟩) j2 j3 r es' fun xs' v hx' _ => ?_
      obtain ⟨s2, t2⟩ := hs1.upd_own (st := st1) t1.good e hx'
      exact q σ _ f t2 s2 fun b z => .inl ((Ow.set_own e b).mp z)
  | some (.val _), h => exact h.elim
  | some .un, h => exact h.elim
  | none, h => exact h.elim
def stAppend : List D → List D → Option (List D × D)
  | ds, [d] => if ds.length < sizeLine then some (ds ++ [d], .non) else none
  | _, _ => none
def stExtend : List D → List D → Option (List D × D)
  | ds, [.lst es] => if ds.length + es.length ≤ sizeLine then some (ds ++ es, .non) else none
  | _, _ => none
theorem mut_append : MutOk mg rAppend stAppend := by
  intro g H l xs ys ds es ds' d Q hl e1 h1 h2 hst k
  match es, hst, h2 with
  | [d1], hst, h2 =>
    obtain ⟨c, q⟩ := ite_some hst
    cases q
    obtain ⟨v, rfl, hv⟩ := h2.inv1
    exact ⟨l, xs, v, rfl, rfl, e1, by rw [h1.length]; exact c, k _ _ (HDs.append h1 (HDs.one hv)) rfl⟩
theorem mut_extend : MutOk mg rExtend stExtend := by
  intro g H l xs ys ds es ds' d Q hl e1 h1 h2 hst k
  match es, hst, h2 with
  | [.lst es], hst, h2 =>
    obtain ⟨c, q⟩ := ite_some hst
    cases q
    obtain ⟨v, rfl, hv⟩ := h2.inv1
    obtain ⟨b, zs, rfl, hb, hz⟩ := hv
    exact ⟨l, b, xs, zs, rfl, rfl, e1, (of_hide hb).2, by rw [h1.length, hz.length]; exact c, k _ _ (HDs.append h1 hz) rfl⟩

/-! ### for -/
def RGS (mg : Str → Option Value) (t : TG) (f : D → SEnv → Option SEnv) : Prop := ∀ (g : Gx) (H : Hp) (σ : L2.St) (x : V) (d : D) (env env' : SEnv) (fo : Nat → Addr) (Q : L2.St → Hp → Prop), SOk mg g H σ env fo → HD mg g.sa (hide (g.plus (Ow env fo)).S H) d x → f d env = some env' →
  (∀ σ', SOk mg g H σ' env' fo → (∀ b, Ow env' fo b → Ow env fo b) → Q σ' H) → t x σ H Q
def RGSs (mg : Str → Option Value) (t : TGs) (f : List D → SEnv → Option SEnv) : Prop := ∀ (g : Gx) (H : Hp) (σ : L2.St) (xs : List V) (ds : List D) (env env' : SEnv) (fo : Nat → Addr) (Q : L2.St → Hp → Prop), SOk mg g H σ env fo → HDs mg g.sa (hide (g.plus (Ow env fo)).S H) ds xs → f ds env = some env' →
  (∀ σ', SOk mg g H σ' env' fo → (∀ b, Ow env' fo b → Ow env fo b) → Q σ' H) → t xs σ H Q
structure Egt (X : Cx) (target : Expr) (t : TG) (f : D → SEnv → Option SEnv) : Prop where
  pg : PG X target t
  rg : RGS X.mg t f
structure Egts (X : Cx) (ts : List Expr) (t : TGs) (f : List D → SEnv → Option SEnv) : Prop where
  pgs : PGs X ts t
  rgs : RGSs X.mg t f
def hSet (i : Nat) : D → SEnv → Option SEnv := fun d env => if i < env.length then some (env.set i (.val d)) else none
def hsNil : List D → SEnv → Option SEnv
  | [], env => some env
  | _, _ => none
def hsCons (f : D → SEnv → Option SEnv) (r : List D → SEnv → Option SEnv) : List D → SEnv → Option SEnv
  | d :: ds, env => (f d env).bind (r ds)
  | [], _ => none
def hTp (n : Nat) (r : List D → SEnv → Option SEnv) : D → SEnv → Option SEnv
  | .tup ds, env => if ds.length = n then r ds env else none
  | _, _ => none
theorem rgS_name (i : Nat) : RGS mg (gName i) (hSet i) := by
  intro g H σ x d env env' fo Q hs hd hf h
  obtain ⟨hi, rfl⟩ := ite_some hf
  exact h _ (hs.set_val hi hd) fun b z => Ow.set_val b z
theorem rgSs_nil : RGSs mg gNil hsNil := by
  intro g H σ xs ds env env' fo Q hs hd hf h
  cases ds with
  | nil =>
    cases (show xs = [] from hd)
    cases hf
    exact ⟨rfl, h σ hs fun b z => z⟩
  | cons d ds => cases hf
theorem rgSs_cons {t : TG} {u : TGs} {f : D → SEnv → Option SEnv} {r : List D → SEnv → Option SEnv} (hf : RGS mg t f) (hr : RGSs mg u r) : RGSs mg (gCons t u) (hsCons f r) := by
  intro g H σ xs ds env env' fo Q hs hd e h
  cases ds with
  | nil => cases e
  | cons d ds =>
    obtain ⟨v, xs', rfl, h1, h2⟩ := hd
    have e' : (f d env).bind (r ds) = some env' := e
    cases q : f d env with
    | none => rw [q] at e'; cases e'
    | some env1 =>
      rw [q] at e'
      refine ⟨v, xs', rfl, hf g H σ v d env env1 fo _ hs h1 q fun σ1 hs1 o1 => ?_⟩
      exact hr g H σ1 xs' ds env1 env' fo _ hs1 (HDs.mono (hide_le fun b z => z.elim .inl fun z => .inr (o1 b z)) _ _ h2) e' fun σ2 hs2 o2 => h σ2 hs2 fun b z => o1 b (o2 b z)
theorem rgS_tup {K : PySem.W.Frag} {n : Nat} {t : TGs} {r : List D → SEnv → Option SEnv} (hr : RGSs mg t r) : RGS mg (gTup K n t) (hTp n r) := by
  intro g H σ x d env env' fo Q hs hd e h
  cases d with
  | tup ds =>
    obtain ⟨a, xs, rfl, h1, h2⟩ := hd
    have e' : (if ds.length = n then r ds env else none) = some env' := e
    by_cases c : ds.length = n
    · rw [if_pos c] at e'
      exact ⟨a, xs, rfl, SqT.of (hide_sub _ _ h1), by rw [h2.length]; exact c, hr g H σ xs ds env env' fo Q hs h2 e' h⟩
    · rw [if_neg c] at e'; cases e'
  | _ => cases e
theorem egt_name {X : Cx} (i : Nat) {x : Str} {pos : Pos} (hN : X.N.Nodup) (hi : X.N[i]? = some x := by rfl) (hx : Loc X.env.scope x := by first | exact Or.inl rfl | exact Or.inr rfl) (hf : X.fn x = true ∨ X.env.scope.names.lookup x = some .local := by first | exact .inl rfl | exact .inr rfl | assumption) : Egt X (.Name x pos) (gName i) (hSet i) :=
  ⟨pg_name hN hi hx hf, rgS_name i⟩
theorem egts_nil {X : Cx} : Egts X [] gNil hsNil := ⟨pgs_nil, rgSs_nil⟩
theorem egts_cons {X : Cx} {e : Expr} {es : List Expr} {t : TG} {u : TGs} {f : D → SEnv → Option SEnv} {r : List D → SEnv → Option SEnv} (h : Egt X e t f) (h2 : Egts X es u r) (hs : List.map (fun x => x.snd) (assignEach (e :: es) X.env) = assign e X.env :: List.map (fun x => x.snd) (assignEach es X.env) := by rfl) : Egts X (e :: es) (gCons t u) (hsCons f r) := ⟨pgs_cons h.pg h2.pgs hs, rgSs_cons h.rg h2.rgs⟩
def forGo (tg : D → SEnv → Option SEnv) (B : SEnv → M Fl) : List D → SEnv → M Fl
  | [], env => ret (.nx env)
  | d :: ds, env => match tg d env with
    | none => stuck
    | some env1 => bnd (B env1) fun r => match r with
      | .nx e => forGo tg B ds e
      | .ct e => forGo tg B ds e
      | .bk e => ret (.nx e)
      | .rt d => ret (.rt d)
      | .rf d => ret (.rf d)
def sFor (Fi : DEnv → M (List D)) (tg : D → SEnv → Option SEnv) (B : SEnv → M Fl) : SEnv → M Fl := fun env => bnd (Fi (cl env)) fun ds => forGo tg B ds env
/-- ownership is given up ahead of a statement -/
def sFz (F : SEnv → M Fl) : SEnv → M Fl := fun env => F (fz env)
theorem rs_fz {t : TS} {F : SEnv → M Fl} (h1 : RS mg E t F) : RS mg E t (sFz F) := by
  intro g st σ H env f Dn hg hs h
  exact h1 g st σ H (fz env) f Dn hg hs.fz (AnsS.shift h (Tr.refl hg) fun b z => (Ow.fz_no b z).elim)
theorem rs_for {wi : TI} {t : TG} {tb : TS} {Fi : DEnv → M (List D)} {tg : D → SEnv → Option SEnv} {B : SEnv → M Fl} (hi : RI mg E wi Fi) (ht : RGS mg t tg) (hb : RS mg E tb B) : RS mg E (tFor wi t tb) (sFor Fi tg B) := by
  intro g st σ H env f Dn hg hs h
  refine hi (g.plus (Ow env f)) st σ H (cl env) _ (hs.good hg) hs.clean (Ans.plus (rel := fun ds J H1 => WD mg g.sa (hide (g.plus (Ow env f)).S H1) J ds) (Ow.out hs) hg.at_ (fun _ _ _ r => r) ((AnsS.bnd h).imp fun ds st1 J H1 t1 wd q => ?_))
  have hs1 := hs.tr t1
  refine ⟨fun i m σ2 H2 => i + m = ds.length ∧ ∃ env2 f2 st2, Tr g (Ow env f) st1 st2 H1 H2 ∧ SOk mg g H2 σ2 env2 f2 ∧ (∀ b, Ow env2 f2 b → Ow env f b ∨ H1 b = none) ∧ AnsS mg E g (Ow env f) st1 H1 (forGo tg B (ds.drop i) env2 st2) Dn,
    ⟨ds.length, by omega, env, f, st1, Tr.refl t1.good, hs1, fun b z => .inl z, q⟩, ?_⟩
  rintro i m σ2 H2 ⟨him, env2, f2, st2, t2, s2, o2, an⟩
  have sG : Same (hide (g.plus (Ow env f)).S H1) (hide (g.plus (Ow env2 f2)).S H2) := fun b o e => by
    obtain ⟨e1, e2⟩ := of_hide e
    refine hide_of (fun z => z.elim (fun z => e1 (.inl z)) fun z => (o2 b z).elim (fun z => e1 (.inr z)) fun z => by rw [z] at e2; cases e2) (t2.keep b o (fun z => e1 (.inl z)) (fun z => e1 (.inr z)) e2)
  have gd2 : Good (g.plus (Ow env2 f2)) st2 H2 := s2.good t2.good
  by_cases hlt : i < ds.length
  · refine .inr ⟨wd.goes i H2 _ hlt gd2.dom sG, fun σ' H' => ∃ env' f' st', Tr g (Ow env f) st1 st' H1 H' ∧ SOk mg g H' σ' env' f' ∧ (∀ b, Ow env' f' b → Ow env f b ∨ H1 b = none) ∧ AnsS mg E g (Ow env f) st1 H1 (forGo tg B (ds.drop (i + 1)) env' st') Dn, fun σ' H' n => ⟨m - 1, by omega, by omega, n⟩, fun x H3 y => ?_⟩
    have ed : ds[i]? = some ds[i] := List.getElem?_eq_getElem hlt
    obtain ⟨t3, hx3⟩ := WD.step (O := O0) wd gd2 ed sG y
    obtain ⟨t3', s3⟩ := s2.trP t2.good t3
    have edr : ds.drop i = ds[i] :: ds.drop (i + 1) := List.drop_eq_getElem_cons hlt
    rw [edr] at an
    unfold forGo at an
    cases ef : tg ds[i] env2 with
    | none => rw [ef] at an; exact an.elim
    | some env3 =>
      rw [ef] at an
      refine ht g H3 σ2 x ds[i] env2 env3 f2 _ s3 hx3 ef fun σ3 s4 o4 => ?_
      have t13 : Tr g (Ow env f) st1 st2 H1 H3 := t2.trans0 t3'
      have o13 : ∀ b, Ow env3 f2 b → Ow env f b ∨ H1 b = none := fun b z => o2 b (o4 b z)
      refine hb g st2 σ3 H3 env3 f2 _ t3'.good s4 ?_
      have an' : AnsS mg E g (Ow env f) st1 H1 (bnd (B env3) (fun r => match r with
        | .nx e => forGo tg B (ds.drop (i + 1)) e
        | .ct e => forGo tg B (ds.drop (i + 1)) e
        | .bk e => ret (.nx e)
        | .rt d => ret (.rt d)
        | .rf d => ret (.rf d)) st2) Dn := an
      unfold bnd at an'
      have stp : ∀ {st' : Option SS} {σ' : L2.St} {H' : Hp} {e : SEnv} {f' : Nat → Addr}, Tr g (Ow env3 f2) st2 st' H3 H' → SOk mg g H' σ' e f' → (∀ b, Ow e f' b → Ow env3 f2 b ∨ H3 b = none) → Tr g (Ow env f) st1 st' H1 H' ∧ ∀ b, Ow e f' b → Ow env f b ∨ H1 b = none :=
        fun t' s' o' => ⟨t13.trans t' o13, fun b z => (o' b z).elim (o13 b) fun z => (t13.old b z).elim .inr .inl⟩
      match e : B env3 st2, an' with
      | some (.ok (.nx e'), st'), an' =>
        intro σ' H' f' t' s' o'
        obtain ⟨k1, k2⟩ := stp t' s' o'
        exact ⟨e', f', st', k1, s', k2, an'⟩
      | some (.ok (.ct e'), st'), an' =>
        intro σ' H' f' t' s' o'
        obtain ⟨k1, k2⟩ := stp t' s' o'
        exact ⟨e', f', st', k1, s', k2, an'⟩
      | some (.ok (.bk e'), st'), an' =>
        intro σ' H' f' t' s' o'
        obtain ⟨k1, k2⟩ := stp t' s' o'
        exact an' σ' H' f' k1 s' k2
      | some (.ok (.rt d), st'), an' => exact fun v H' t' q' => an' v H' (t13.trans t' o13) q'
      | some (.ok (.rf d), st'), an' => exact fun p xs H' t' o' nS hp hx => an' p xs H' (t13.trans t' o13) (o'.elim (o13 p) fun z => (t13.old p z).elim .inr .inl) nS hp hx
      | some (.error x, st'), an' => exact fun C xd v H' e1 t' q1 q2 => an' C xd v H' e1 (t13.trans t' o13) q1 q2
      | none, an' => exact an'.elim
  · have e : i = ds.length := by omega
    subst e
    refine .inl ⟨wd.stops H2 _ gd2.dom sG, ?_⟩
    rw [List.drop_length] at an
    exact an σ2 H2 f2 t2 s2 o2
/-! ### while, by fuel -/
def whGo (C : DEnv → M Bool) (B : SEnv → M Fl) : Nat → SEnv → M Fl
  | 0, _ => stuck
  | n + 1, env => bnd (C (al env)) fun c => if c = true then bnd (B env) fun r => match r with
      | .nx e => whGo C B n e
      | .ct e => whGo C B n e
      | .bk e => ret (.nx e)
      | .rt d => ret (.rt d)
      | .rf d => ret (.rf d) else ret (.nx env)
theorem AnsS.bndT {α β : Type} {rel : α → β → Hp → Prop} {m : M α} {k : α → M Fl} {g : Gx} {O : Addr → Prop} {st st2 : Option SS} {H H2 : Hp} {Dn : Ends} (h : AnsS mg E g O st H (VS.bnd m k st2) Dn) (t : Tr g O st st2 H H2) : Ans mg E rel g st2 H2 (m st2) fun a st3 _ H3 => AnsS mg E g O st H (k a st3) Dn := by
  unfold VS.bnd at h
  match e : m st2, h with
  | some (.ok a, st'), h => exact fun v H' _ _ => h
  | some (.error x, st'), h => exact fun C xd v H' e1 t' q1 q2 => h C xd v H' e1 (t.trans0 t') q1 q2
  | none, h => exact h.elim
theorem rs_while {tt : TT} {tb : TS} {C : DEnv → M Bool} {B : SEnv → M Fl} (n : Nat) (hc : RT mg E tt C) (hb : RS mg E tb B) : RS mg E (tWhile tt tb) (whGo C B n) := by
  intro g st σ H env f Dn hg hs h
  refine ⟨fun m σ2 H2 => ∃ env2 f2 st2, Tr g (Ow env f) st st2 H H2 ∧ SOk mg g H2 σ2 env2 f2 ∧ (∀ b, Ow env2 f2 b → Ow env f b ∨ H b = none) ∧ AnsS mg E g (Ow env f) st H (whGo C B m env2 st2) Dn,
    ⟨n, env, f, st, Tr.refl hg, hs, fun b z => .inl z, h⟩, ?_⟩
  rintro m σ2 H2 ⟨env2, f2, st2, t2, s2, o2, an⟩
  cases m with
  | zero => exact an.elim
  | succ m =>
    unfold whGo at an
    refine hc g st2 σ2 H2 (al env2) _ t2.good s2.all ((AnsS.bndT (rel := rB) an t2).imp fun c st3 b H3 t3 r q => ?_)
    cases (show b = c from r)
    have t23 : Tr g (Ow env f) st st3 H H3 := t2.trans0 t3
    have s3 := s2.tr t3
    cases c with
    | false => exact q σ2 H3 f2 t23 s3 o2
    | true =>
      refine ⟨fun σ' H' => ∃ env' f' st', Tr g (Ow env f) st st' H H' ∧ SOk mg g H' σ' env' f' ∧ (∀ b, Ow env' f' b → Ow env f b ∨ H b = none) ∧ AnsS mg E g (Ow env f) st H (whGo C B m env' st') Dn, fun σ' H' nn => ⟨m, Nat.lt_succ_self m, nn⟩, ?_⟩
      refine hb g st3 σ2 H3 env2 f2 _ t3.good s3 ?_
      have q' : AnsS mg E g (Ow env f) st H (bnd (B env2) (fun r => match r with
        | .nx e => whGo C B m e
        | .ct e => whGo C B m e
        | .bk e => ret (.nx e)
        | .rt d => ret (.rt d)
        | .rf d => ret (.rf d)) st3) Dn := q
      have stp : ∀ {st' : Option SS} {σ' : L2.St} {H' : Hp} {e : SEnv} {f' : Nat → Addr}, Tr g (Ow env2 f2) st3 st' H3 H' → SOk mg g H' σ' e f' → (∀ b, Ow e f' b → Ow env2 f2 b ∨ H3 b = none) → Tr g (Ow env f) st st' H H' ∧ ∀ b, Ow e f' b → Ow env f b ∨ H b = none :=
        fun t' s' o' => ⟨t23.trans t' o2, fun b z => (o' b z).elim (o2 b) fun z => (t23.old b z).elim .inr .inl⟩
      unfold bnd at q'
      match e : B env2 st3, q' with
      | some (.ok (.nx e'), st'), an' =>
        intro σ' H' f' t' s' o'
        obtain ⟨k1, k2⟩ := stp t' s' o'
        exact ⟨e', f', st', k1, s', k2, an'⟩
      | some (.ok (.ct e'), st'), an' =>
        intro σ' H' f' t' s' o'
        obtain ⟨k1, k2⟩ := stp t' s' o'
        exact ⟨e', f', st', k1, s', k2, an'⟩
      | some (.ok (.bk e'), st'), an' =>
        intro σ' H' f' t' s' o'
        obtain ⟨k1, k2⟩ := stp t' s' o'
        exact an' σ' H' f' k1 s' k2
      | some (.ok (.rt d), st'), an' => exact fun v H' t' q' => an' v H' (t23.trans t' o2) q'
      | some (.ok (.rf d), st'), an' => exact fun p xs H' t' o' nS hp hx => an' p xs H' (t23.trans t' o2) (o'.elim (o2 p) fun z => (t23.old p z).elim .inr .inl) nS hp hx
      | some (.error x, st'), an' => exact fun C xd v H' e1 t' q1 q2 => an' C xd v H' e1 (t23.trans t' o2) q1 q2
      | none, an' => exact an'.elim

/-! ### defs and calls -/
/-- the promise of a def that is the function F on data -/
def spD (mg : Str → Option Value) (n : Nat) (F : List D → M D) : Sp := fun vs H Q E => ∃ (g : Gx) (st : Option SS) (ds : List D), ds.length = n ∧ Good g st H ∧ HDs mg g.sa (hide g.S H) ds vs ∧ Ans mg E (rV mg g) g st H (F ds st) (fun _ _ v H' => Q v H')
def startS (n : Nat) (ds : List D) : SEnv := ds.map Sl.val ++ List.replicate (n - ds.length) Sl.un
def fDef (n : Nat) (B : SEnv → M Fl) : List D → M D := fun ds => bnd (B (startS n ds)) fun r => match r with
  | .rt d => ret d
  | .rf ds => ret (.lst ds)
  | .nx _ => ret .non
  | _ => stuck
/-- a def that gives a new list -/
def fDefF (n : Nat) (B : SEnv → M Fl) : List D → M (List D) := fun ds => bnd (B (startS n ds)) fun r => match r with
  | .rf ds => ret ds
  | _ => stuck
def spF (mg : Str → Option Value) (n : Nat) (F : List D → M (List D)) : Sp := fun vs H Q E => ∃ (g : Gx) (st : Option SS) (ds : List D), ds.length = n ∧ Good g st H ∧ HDs mg g.sa (hide g.S H) ds vs ∧ Ans mg E (rF mg g H) g st H (F ds st) (fun _ _ v H' => Q v H')
def ofF (F : List D → M (List D)) : List D → M D := fun ds => bnd (F ds) fun ys => ret (.lst ys)
theorem startS_no {n : Nat} {ds : List D} {i : Nat} {es : List D} : (startS n ds)[i]? = some (Sl.own es) → False := by
  intro e
  unfold startS at e
  rw [List.getElem?_append] at e
  split at e
  · rw [List.getElem?_map] at e
    cases q : ds[i]? with
    | none => rw [q] at e; cases e
    | some d => rw [q] at e; cases e
  · rw [List.getElem?_replicate] at e
    split at e <;> cases e
theorem sok_start {g : Gx} {st : Option SS} {H : Hp} {N : List Str} {ds : List D} {vs : List V} (h : HDs mg g.sa (hide g.S H) ds vs) : SOk mg g H (L2.start N vs) (startS N.length ds) (fun _ => 0) := by
  have hl := h.length
  have no : ∀ b, Ow (startS N.length ds) (fun _ => 0) b → False := fun b ⟨i, es, e, _⟩ => startS_no e
  refine ⟨?_, fun i j a b e => (startS_no e).elim, fun i a e => (startS_no e).elim, fun i d e => ?_, fun i a e => (startS_no e).elim⟩
  · unfold startS L2.start
    rw [List.length_append, List.length_append, List.length_map, List.length_map, List.length_replicate, List.length_replicate, hl]
  · unfold startS at e
    rw [List.getElem?_append] at e
    split at e
    · rename_i c
      rw [List.getElem?_map] at e
      cases q : ds[i]? with
      | none => rw [q] at e; cases e
      | some d' =>
        rw [q] at e
        cases e
        obtain ⟨v, h1, h2⟩ := h.get q
        refine ⟨v, ?_, HD.mono (hide_le fun b z => z.elim id fun z => (no b z).elim) _ _ h2⟩
        unfold L2.start
        rw [List.getElem?_append_left (by rw [List.length_map]; exact (List.getElem?_eq_some_iff.mp h1).1), List.getElem?_map, h1]
        rfl
    · rw [List.getElem?_replicate] at e
      split at e <;> cases e
section
variable {P : Program} {w : World} {K : PySem.W.Frag} {base : Heap}
/-- THE RULE for a def: its body as a term of rules with its function -/
theorem okD {x qual : Str} {st : Stmt} {f : Addr} {fd : FuncData} {N ps : List Str} {k : Nat} {B : SEnv → M Fl} (F : Fun K x qual st f fd) (S : FnScope N ps (defScope st))
    (hbody : ∀ (cdv : Value) (A : Around) (outer : List Env) (s : Shared) (H : Hp) (E : XK), Room k (A.deeper (envOfC qual (defScope st) s.heap.objs.size f cdv)) →
      ∃ t, Ess (cxOf (L2.CX P w) P w K mg base N qual (defScope st) f cdv A outer s H E) E (defBody st) B t) : FnOk P w K mg base (L2.CX P w) (k + 1) f fd ps (spD mg ps.length (fDef N.length B)) := by
  refine F.okX S (fun vs H Q E h => ?_) (fun cdv A outer s H vs Q E hr h => ?_)
  · obtain ⟨g, st', ds, hl, _, hd, _⟩ := h
    rw [hd.length, hl]
  · obtain ⟨t, ht⟩ := hbody cdv A outer s H E hr
    obtain ⟨g, st', ds, hl, hg, hd, an⟩ := h
    refine ⟨t, ht.pss, ht.rs g st' _ H (startS N.length ds) (fun _ => 0) _ hg (sok_start (st := st') hd) ?_⟩
    have no : ∀ b, Ow (startS N.length ds) (fun _ => 0) b → O0 b := fun b ⟨i, es, e, _⟩ => (startS_no e).elim
    unfold fDef bnd at an
    match e : B (startS N.length ds) st', an with
    | some (.ok (.nx e'), st2), an => exact fun σ' H' f' t' s' o' => an .non H' (t'.weak no) rfl
    | some (.ok (.rt d), st2), an => exact fun v H' t' q => an v H' (t'.weak no) q
    | some (.ok (.rf d), st2), an => exact fun p xs H' t' o nS hp hx => an (.ref p) H' (t'.weak no) ⟨p, xs, rfl, hide_of nS hp, HDs.mono (hide_le fun b z => .inl z) _ _ hx⟩
    | some (.ok (.bk e'), st2), an => exact an.elim
    | some (.ok (.ct e'), st2), an => exact an.elim
    | some (.error x, st2), an => exact fun C xd v H' e1 t' q1 q2 => an C xd v H' e1 (t'.weak no) q1 q2
    | none, an => exact an.elim
/-- .. that gives a new list -/
theorem okF {x qual : Str} {st : Stmt} {f : Addr} {fd : FuncData} {N ps : List Str} {k : Nat} {B : SEnv → M Fl} (F : Fun K x qual st f fd) (S : FnScope N ps (defScope st))
    (hbody : ∀ (cdv : Value) (A : Around) (outer : List Env) (s : Shared) (H : Hp) (E : XK), Room k (A.deeper (envOfC qual (defScope st) s.heap.objs.size f cdv)) →
      ∃ t, Ess (cxOf (L2.CX P w) P w K mg base N qual (defScope st) f cdv A outer s H E) E (defBody st) B t) : FnOk P w K mg base (L2.CX P w) (k + 1) f fd ps (spF mg ps.length (fDefF N.length B)) := by
  refine F.okX S (fun vs H Q E h => ?_) (fun cdv A outer s H vs Q E hr h => ?_)
  · obtain ⟨g, st', ds, hl, _, hd, _⟩ := h
    rw [hd.length, hl]
  · obtain ⟨t, ht⟩ := hbody cdv A outer s H E hr
    obtain ⟨g, st', ds, hl, hg, hd, an⟩ := h
    refine ⟨t, ht.pss, ht.rs g st' _ H (startS N.length ds) (fun _ => 0) _ hg (sok_start (st := st') hd) ?_⟩
    have no : ∀ b, Ow (startS N.length ds) (fun _ => 0) b → O0 b := fun b ⟨i, es, e, _⟩ => (startS_no e).elim
    unfold fDefF bnd at an
    match e : B (startS N.length ds) st', an with
    | some (.ok (.rf d), st2), an => exact fun p xs H' t' o nS hp hx => an (.ref p) H' (t'.weak no) ⟨p, xs, rfl, o.elim (fun z => (no p z).elim) id, nS, hp, hx⟩
    | some (.ok (.nx e'), st2), an => exact an.elim
    | some (.ok (.rt d), st2), an => exact an.elim
    | some (.ok (.bk e'), st2), an => exact an.elim
    | some (.ok (.ct e'), st2), an => exact an.elim
    | some (.error x, st2), an => exact fun C xd v H' e1 t' q1 q2 => an C xd v H' e1 (t'.weak no) q1 q2
    | none, an => exact an.elim
/-- its promise as a value's -/
theorem fnok_ofF {CX : CXT} {k n : Nat} {f : Addr} {fd : FuncData} {ps : List Str} {F : List D → M (List D)} (h : FnOk P w K mg base CX k f fd ps (spF mg n F)) : FnOk P w K mg base CX k f fd ps (spD mg n (ofF F)) := by
  refine h.imp fun vs H Q E q => ?_
  obtain ⟨g, st, ds, hl, hg, hd, an⟩ := q
  refine ⟨g, st, ds, hl, hg, hd, ?_⟩
  exact (Ans.bnd an).imp fun ys st1 v H1 t1 r q => Ans.ret_ t1.good q r.hd
end
def fCall (n : Nat) (F : List D → M D) (G : DEnv → M (List D)) : DEnv → M D := fun env => bnd (G env) fun ds => if ds.length = n then F ds else stuck
theorem re_call {n : Nat} {F : List D → M D} {G : DEnv → M (List D)} {ta : TA} (ha : RA mg E ta G) : RE mg E (tCall (spD mg n F) [] E ta) (fCall n F G) := by
  intro g st σ H env Q hg he h
  refine ha g st σ H env _ hg he ((Ans.bnd h).imp fun ds st1 vs H1 t1 hx h1 => ?_)
  by_cases c : ds.length = n
  · rw [if_pos c] at h1
    rw [List.append_nil]
    exact ⟨g, st1, ds, c, t1.good, hx, h1⟩
  · rw [if_neg c] at h1
    exact h1.elim
theorem ev_call {X : Cx} {k n : Nat} {f : Addr} {fd : FuncData} {ps : List Str} {F : List D → M D} {G : DEnv → M (List D)} {ta : TA} {x : Str} {p pos : Pos} {e : Expr} {es : List Expr} (hF : FnOk X.prog X.w X.K X.mg X.base (L2.CX X.prog X.w) k f fd ps (spD X.mg n F)) (hr : Room k X.A) (hm : X.mg x = some (.ref f)) (hk : PySem.W.keepIn X.K (.ref f) = true) (hb : Binds X.K fd ps []) (hx : Passes (L2.CX X.prog X.w) X E)
    (ha : Ea X E (e :: es) G ta) (hg : Gl X x := by rfl) (hdb : (x == ("__debug__" : Str)) = false := by decide) (he : starEach (e :: es) X.env = (false, eval e X.env) :: starEach es X.env := by rfl) (hpl : (backTo pos (starEach es X.env)).any (·.1) = false := by rfl) :
    Ev X E (.Call (.Name x p) (e :: es) [] pos) (fCall n F G) (tCall (spD X.mg n F) [] E ta) := ⟨pe_call hF hr hg hm hk hb .nil hx ha.pa hdb he hpl, re_call ha.ra⟩
/-! ### statements' rules -/
section
variable {X : Cx} {A : DEnv → M D} {C : DEnv → M Bool} {te : TE} {tt : TT} {t u : TS} {F G : SEnv → M Fl} {s : Stmt} {rest b1 b2 : List Stmt} {e : Expr} {pos : Pos}
theorem ess_nil : Ess X E [] sNext tNext := ⟨pss_nil, rs_next⟩
theorem ess_cons (h1 : Es X E s F t) (h2 : Ess X E rest G u) : Ess X E (s :: rest) (sSeq F G) (tSeq t u) := ⟨pss_cons h1.ps h2.pss, rs_seq h1.rs h2.rs⟩
theorem ess_one (h1 : Es X E s F t) : Ess X E [s] F t := ⟨pss_one h1.ps, h1.rs⟩
theorem es_expr (h : Ev X E e A te) (hs : swapsWith e none pos.line X.env = pure false := by rfl) : Es X E (.Expr e pos) (sDrop A) (tDrop te) := ⟨ps_expr h.pe hs, rs_drop h.re⟩
theorem es_ret (h : Ev X E e A te) : Es X E (.Return (some e) pos) (sRet A) (tRet te) := ⟨ps_ret h.pe, rs_ret h.re⟩
theorem es_retN : Es X E (.Return none pos) (fun _ => ret (.rt .non)) tRetN := ⟨ps_retN, rs_retN⟩
theorem es_if {c : Expr} (hc : Et X E c C tt) (h1 : Ess X E b1 F t) (h2 : Ess X E b2 G u) : Es X E (.If c b1 b2 pos) (sIf C F G) (tIfS tt t u) := ⟨ps_if hc.pt h1.pss h2.pss, rs_if hc.rt h1.rs h2.rs⟩
theorem es_never : Es X E s (fun _ => stuck) tNever := ⟨ps_never, fun g st σ H env f Dn hg hs h => h.elim⟩
theorem es_break : Es X E (.Break pos) (fun env => ret (.bk env)) tBreak := ⟨ps_break, rs_break⟩
theorem es_cont : Es X E (.Continue pos) (fun env => ret (.ct env)) tCont := ⟨ps_continue, rs_cont⟩
theorem es_pass : Es X E (.Pass pos) sNext tNext := ⟨ps_pass, rs_next⟩
theorem es_set (i : Nat) {x : Str} {p' : Pos} (hN : X.N.Nodup) (h : Ev X E e A te) (hi : X.N[i]? = some x := by rfl) (hx : Loc X.env.scope x := by first | exact Or.inl rfl | exact Or.inr rfl) (hs : swapsWith e (some (.Name x p')) pos.line X.env = pure false := by rfl) (hf : X.fn x = true ∨ X.env.scope.names.lookup x = some .local := by first | exact .inl rfl | exact .inr rfl | assumption) :
    Es X E (.Assign [.Name x p'] e pos) (sSet i A) (tAsg te (gName i)) := ⟨ps_set hN hi hx h.pe hs hf, rs_set i h.re⟩
theorem es_setA (i : Nat) {x : Str} {p' : Pos} (hN : X.N.Nodup) (h : Ev X E e A te) (hi : X.N[i]? = some x := by rfl) (hx : Loc X.env.scope x := by first | exact Or.inl rfl | exact Or.inr rfl) (hs : swapsWith e (some (.Name x p')) pos.line X.env = pure false := by rfl) (hf : X.fn x = true ∨ X.env.scope.names.lookup x = some .local := by first | exact .inl rfl | exact .inr rfl | assumption) :
    Es X E (.Assign [.Name x p'] e pos) (sSetA i A) (tAsg te (gName i)) := ⟨ps_set hN hi hx h.pe hs hf, rs_setA i h.re⟩
theorem es_setO (i : Nat) {x : Str} {p' : Pos} {B : DEnv → M (List D)} (hN : X.N.Nodup) (h : Ef X E e B te) (hi : X.N[i]? = some x := by rfl) (hx : Loc X.env.scope x := by first | exact Or.inl rfl | exact Or.inr rfl) (hs : swapsWith e (some (.Name x p')) pos.line X.env = pure false := by rfl) (hf : X.fn x = true ∨ X.env.scope.names.lookup x = some .local := by first | exact .inl rfl | exact .inr rfl | assumption) :
    Es X E (.Assign [.Name x p'] e pos) (sSetO i B) (tAsg te (gName i)) := ⟨ps_set hN hi hx h.pe hs hf, rs_setO i h.rf⟩
theorem es_for {tg iter : Expr} {body : List Stmt} {wi : TI} {g : TG} {tb : TS} {Fi : DEnv → M (List D)} {f : D → SEnv → Option SEnv} {B : SEnv → M Fl} (hp : PassesOwn (model X.prog X.w) X.A X.env X.xe) (hi : Ei X E tg iter Fi wi) (hg : Egt X tg g f) (hb : Ess X E body B tb) (hc : X.calm = true := by rfl)
    (hs : ∀ x, foldedSetIterable iter X.env x = pure x := by intro _; rfl) : Es X E (.For tg iter body [] pos) (sFor Fi f B) (tFor wi g tb) := ⟨ps_for hp hc hi.pi hg.pg hb.pss hs, rs_for hi.ri hg.rg hb.rs⟩
theorem es_fz (h : Es X E s F t) : Es X E s (sFz F) t := ⟨h.ps, rs_fz h.rs⟩
theorem es_while {c : Expr} {body : List Stmt} {B : SEnv → M Fl} {tb : TS} (n : Nat) (hp : PassesOwn (model X.prog X.w) X.A X.env X.xe) (hc : Et X E c C tt) (hb : Ess X E body B tb) : Es X E (.While c body [] pos) (whGo C B n) (tWhile tt tb) := ⟨ps_while hp hc.pt hb.pss, rs_while n hc.rt hb.rs⟩
theorem es_asg {tg : Expr} {g : TG} {f : D → SEnv → Option SEnv} (h : Ev X E e A te) (hg : Egt X tg g f) (hs : swapsWithSole [tg] e pos.line X.env = pure false := by rfl) (hw : swappedStores [tg] e X.env = pure none := by rfl)
    (h1 : (assignEach [tg] X.env).map (·.2) = [assign tg X.env] := by rfl) : Es X E (.Assign [tg] e pos) (fun env => bnd (A (cl env)) fun d => match f d env with | some env' => ret (.nx env') | none => stuck) (tAsg te g) := by
  refine ⟨ps_asg h.pe hg.pg hs hw h1, ?_⟩
  clear hs hw h1
  intro g0 st σ H env fo Dn hgd hs h1
  refine h.re (g0.plus (Ow env fo)) st σ H (cl env) _ (hs.good hgd) hs.clean (Ans.plus (rel := fun d v H1 => HD X.mg g0.sa (hide (g0.plus (Ow env fo)).S H1) d v) (Ow.out hs) hgd.at_ (fun _ _ _ r => r) ((AnsS.bnd h1).imp fun d st1 v H1 t1 r q => ?_))
  cases ef : f d env with
  | none => rw [ef] at q; exact q.elim
  | some env' =>
    rw [ef] at q
    exact hg.rg g0 H1 σ v d env env' fo _ (hs.tr t1) r ef fun σ' s' o' => q σ' H1 fo (Tr.refl t1.good) s' fun b z => .inl (o' b z)
/-- a method that changes a list of ours, as a statement -/
theorem es_mut {a : Expr} {es : List Expr} {name id : String} {apos cpos p0 : Pos} {r : V → List V → Hp → VK → Prop} {step : List D → List D → Option (List D × D)} {x : Str} {Fa : DEnv → M (List D)} {ta : TA} (i : Nat) (slot : Slot "list" (Str.ofString name) id) (hty : typeOf (.builtin id) = pure (.type "method_descriptor")) (hm : MtR X id r) (hmo : MutOk X.mg r step)
    (ha : Ea X E (a :: es) Fa ta) (hi : X.N[i]? = some x := by rfl) (hv : Vis X.env.scope x := by first | exact Or.inl rfl | exact Or.inr (Or.inl rfl) | exact Or.inr (Or.inr rfl)) (hd : (x == ("__debug__" : Str)) = false := by decide) (hcd : (x == ("__classdict__" : Str)) = false := by decide)
    (hbase : attributeBase (.Name x p0) (Str.ofString name) X.env (eval (.Name x p0) X.env) = eval (.Name x p0) X.env := by rfl) (hfew : ((backTo cpos (starEach (a :: es) X.env)).all (fun x => !x.1) && (backToKw cpos (keywordEach [] X.env)).all (fun x => x.1.isSome)
      && decide ((a :: es).length + ([] : List Keyword).length + (if ([] : List Keyword).isEmpty then 0 else 1) < 30)) = true := by rfl)
    (hline : (apos.endLine == cpos.line) = true := by rfl) (hs : starEach (a :: es) X.env = (false, eval a X.env) :: starEach es X.env := by rfl) (hpl : (backTo cpos (starEach es X.env)).any (·.1) = false := by rfl) (hsw : swapsWith (.Call (.Attribute (.Name x p0) (Str.ofString name) apos) (a :: es) [] cpos) none pos.line X.env = pure false := by rfl) :
    Es X E (.Expr (.Call (.Attribute (.Name x p0) (Str.ofString name) apos) (a :: es) [] cpos) pos) (sMut i step Fa) (tDrop (tBM X.K "list" r (tVar i) ta)) :=
  ⟨ps_expr (pe_bm PySem.F.plainAttrs_list slot hty hm (pe_var hi hv hd hcd) ha.pa hbase hfew hline hs hpl) hsw, rs_mut i hmo ha.ra⟩
theorem es_retO (i : Nat) {x : Str} {p pos : Pos} (hN : X.N[i]? = some x := by rfl) (hv : Vis X.env.scope x := by first | exact Or.inl rfl | exact Or.inr (Or.inl rfl) | exact Or.inr (Or.inr rfl)) (hd : (x == ("__debug__" : Str)) = false := by decide) (hcd : (x == ("__classdict__" : Str)) = false := by decide) :
    Es X E (.Return (some (.Name x p)) pos) (sRetO i) (tRet (tVar i)) := ⟨ps_ret (pe_var hN hv hd hcd), rs_retO i⟩
theorem es_retF {B : DEnv → M (List D)} (h : Ef X E e B te) : Es X E (.Return (some e) pos) (sRetF B) (tRet te) := ⟨ps_ret h.pe, rs_retF h.rf⟩
end
/-! ### calls that give a new list -/
def fCallF (n : Nat) (F : List D → M (List D)) (G : DEnv → M (List D)) : DEnv → M (List D) := fun env => bnd (G env) fun ds => if ds.length = n then F ds else stuck
theorem Ans.fresh_ {α : Type} {g : Gx} {st st1 : Option SS} {H H1 : Hp} {m : Option (Except Exn (List D) × Option SS)} {R : List D → Option SS → V → Hp → Prop} (t : Tr g O0 st st1 H H1) (h : Ans mg E (rF mg g H) g st1 H1 m R) : Ans mg E (rF mg g H1) g st1 H1 m R := by
  match m, h with
  | some (.ok a, st'), h => exact fun v H' t' r => h v H' t' (by
      obtain ⟨p, xs, e, h0, r⟩ := r
      exact ⟨p, xs, e, (t.old p h0).elim id fun z => z.elim, r⟩)
  | some (.error x, st'), h => exact h
theorem rf_call {n : Nat} {F : List D → M (List D)} {G : DEnv → M (List D)} {ta : TA} (ha : RA mg E ta G) : RF mg E (tCall (spF mg n F) [] E ta) (fCallF n F G) := by
  intro g st σ H env Q hg he h
  refine ha g st σ H env _ hg he ((Ans.bnd h).imp fun ds st1 vs H1 t1 hx h1 => ?_)
  by_cases c : ds.length = n
  · rw [if_pos c] at h1
    rw [List.append_nil]
    exact ⟨g, st1, ds, c, t1.good, hx, Ans.fresh_ (α := Unit) t1 h1⟩
  · rw [if_neg c] at h1
    exact h1.elim
theorem ef_call {X : Cx} {k n : Nat} {f : Addr} {fd : FuncData} {ps : List Str} {F : List D → M (List D)} {G : DEnv → M (List D)} {ta : TA} {x : Str} {p pos : Pos} {e : Expr} {es : List Expr} (hF : FnOk X.prog X.w X.K X.mg X.base (L2.CX X.prog X.w) k f fd ps (spF X.mg n F)) (hr : Room k X.A) (hm : X.mg x = some (.ref f)) (hk : PySem.W.keepIn X.K (.ref f) = true) (hb : Binds X.K fd ps []) (hx : Passes (L2.CX X.prog X.w) X E)
    (ha : Ea X E (e :: es) G ta) (hg : Gl X x := by rfl) (hdb : (x == ("__debug__" : Str)) = false := by decide) (he : starEach (e :: es) X.env = (false, eval e X.env) :: starEach es X.env := by rfl) (hpl : (backTo pos (starEach es X.env)).any (·.1) = false := by rfl) :
    Ef X E (.Call (.Name x p) (e :: es) [] pos) (fCallF n F G) (tCall (spF X.mg n F) [] E ta) := ⟨pe_call hF hr hg hm hk hb .nil hx ha.pa hdb he hpl, rf_call ha.ra⟩
end VS

/-! VS4: operators, built-ins on plain data. -/
namespace VS
open PySem PySem.Spec PyProof.Rows L2
variable {mg : Str → Option Value} {E : XK}
/-! ### two ways of a rule -/
abbrev rOr (r r' : R2) : R2 := fun x y H Q => r x y H Q ∨ r' x y H Q
theorem OpR.or {X : Cx} {f : Value → Value → Sem Value} {r r' : R2} (h : OpR X f r) (h' : OpR X f r') : OpR X f (rOr r r') := fun pins s σ H x y v u Q I rx ry q => q.elim (h pins s σ H x y v u Q I rx ry) (h' pins s σ H x y v u Q I rx ry)
abbrev rcOr (r r' : List V → Hp → VK → Prop) : List V → Hp → VK → Prop := fun xs H Q => r xs H Q ∨ r' xs H Q
theorem CallR.or {X : Cx} {f : Value} {r r' : List V → Hp → VK → Prop} (h : CallR X f r) (h' : CallR X f r') : CallR X f (rcOr r r') := fun pins s σ H xs us Q I r q => q.elim (h pins s σ H xs us Q I r) (h' pins s σ H xs us Q I r)
def orO {α β γ : Type} (f g : α → β → Option γ) : α → β → Option γ := fun a b => match f a b with
  | some c => some c
  | none => g a b
def orC {α γ : Type} (f g : α → Option γ) : α → Option γ := fun a => match f a with
  | some c => some c
  | none => g a
theorem OpOk.or {r r' : R2} {f f' : D → D → Option D} (h : OpOk mg r f) (h' : OpOk mg r' f') : OpOk mg (rOr r r') (orO f f') := by
  intro g st H x y dx dy d Q hg hx hy e k
  unfold orO at e
  cases q : f dx dy with
  | some c =>
    rw [q] at e
    exact .inl (h g st H x y dx dy d Q hg hx hy (q.trans e) k)
  | none =>
    rw [q] at e
    exact .inr (h' g st H x y dx dy d Q hg hx hy e k)
theorem CallOk.or {r r' : List V → Hp → VK → Prop} {f f' : List D → Option D} (h : CallOk mg r f) (h' : CallOk mg r' f') : CallOk mg (rcOr r r') (orC f f') := by
  intro g st H xs ds d Q hg hx e k
  unfold orC at e
  cases q : f ds with
  | some c =>
    rw [q] at e
    exact .inl (h g st H xs ds d Q hg hx (q.trans e) k)
  | none =>
    rw [q] at e
    exact .inr (h' g st H xs ds d Q hg hx e k)
/-! ### whole numbers -/
def oI (f : Int → Int → Option D) : D → D → Option D
  | .int i, .int j => f i j
  | _, _ => none
theorem oI_inv {f : Int → Int → Option D} {dx dy d : D} (e : oI f dx dy = some d) : ∃ i j, dx = .int i ∧ dy = .int j ∧ f i j = some d := by
  cases dx <;> first | cases e | skip
  cases dy <;> first | cases e | skip
  exact ⟨_, _, rfl, rfl, e⟩
theorem ok_rI0 {h : Int → Int → V} {f : Int → Int → D} (k : ∀ i j (H : Hp) (sa : Addr), HD mg sa H (f i j) (h i j)) : OpOk mg (rI0 h) (oI fun i j => some (f i j)) := by
  intro g st H x y dx dy d Q hg hx hy e q
  obtain ⟨i, j, rfl, rfl, e⟩ := oI_inv e
  cases e
  exact ⟨i, j, hx, hy, q _ _ (Tr.refl hg) (k i j _ _)⟩
theorem ok_rI {C : Int → Int → Prop} [∀ i j, Decidable (C i j)] {h : Int → Int → V} {f : Int → Int → D} (k : ∀ i j (H : Hp) (sa : Addr), HD mg sa H (f i j) (h i j)) : OpOk mg (rI C h) (oI fun i j => if C i j then some (f i j) else none) := by
  intro g st H x y dx dy d Q hg hx hy e q
  obtain ⟨i, j, rfl, rfl, e⟩ := oI_inv e
  obtain ⟨c, rfl⟩ := ite_some e
  exact ⟨i, j, hx, hy, c, q _ _ (Tr.refl hg) (k i j _ _)⟩
def aInt : D → D → Option D := oI fun i j => some (.int (i + j))
def oSub : D → D → Option D := oI fun i j => some (.int (i - j))
instance : ∀ i j, Decidable (CMul i j) := fun i j => by unfold CMul; infer_instance
instance : ∀ i j, Decidable (CDivN i j) := fun i j => by unfold CDivN; infer_instance
instance : ∀ i j, Decidable (CPow i j) := fun i j => by unfold CPow; infer_instance
def mInt : D → D → Option D := oI fun i j => if CMul i j then some (.int (i * j)) else none
def oFdiv : D → D → Option D := oI fun i j => if CDivN i j then some (.int (i.fdiv j)) else none
def oMod : D → D → Option D := oI fun i j => if j ≠ 0 then some (.int (i.fmod j)) else none
def oPow : D → D → Option D := oI fun i j => if CPow i j then some (.int (i ^ j.toNat)) else none
/-! ### texts, lists -/
def aStr : D → D → Option D
  | .str x, .str y => if x.length + y.length ≤ sizeLine then some (.str (x ++ y)) else none
  | _, _ => none
def aLst : D → D → Option D
  | .lst x, .lst y => if x.length + y.length ≤ sizeLine then some (.lst (x ++ y)) else none
  | _, _ => none
def mLst : D → D → Option D
  | .lst x, .int k => if -(2 ^ 63) ≤ k ∧ k < 2 ^ 63 ∧ x.length * k.toNat ≤ sizeLine then some (.lst (List.replicate k.toNat x).flatten) else none
  | _, _ => none
theorem ok_aStr : OpOk mg (fun x y H Q => ∃ i j, x = .str i ∧ y = .str j ∧ i.length + j.length ≤ sizeLine ∧ Q (.str (i ++ j)) H) aStr := by
  intro g st H x y dx dy d Q hg hx hy e q
  match dx, dy, e, hx, hy with
  | .str a, .str b, e, hx, hy =>
    obtain ⟨c, rfl⟩ := ite_some e
    exact ⟨a, b, hx, hy, c, q _ _ (Tr.refl hg) rfl⟩
theorem HDs.rep {sa : Addr} {H : Hp} {ds : List D} {xs : List V} (h : HDs mg sa H ds xs) : ∀ n : Nat, HDs mg sa H (List.replicate n ds).flatten (List.replicate n xs).flatten
  | 0 => rfl
  | n + 1 => by
    rw [List.replicate_succ, List.replicate_succ, List.flatten_cons, List.flatten_cons]
    exact HDs.append h (HDs.rep h n)
theorem ok_aLst : OpOk mg rCat aLst := by
  intro g st H x y dx dy d Q hg hx hy e q
  match dx, dy, e, hx, hy with
  | .lst a, .lst b, e, hx, hy =>
    obtain ⟨c, rfl⟩ := ite_some e
    obtain ⟨l, xs, rfl, h1, h2⟩ := hx
    obtain ⟨m, ys, rfl, h3, h4⟩ := hy
    refine ⟨l, m, xs, ys, rfl, rfl, (of_hide h1).2, (of_hide h3).2, by rw [h2.length, h4.length]; exact c, fun p hp => ?_⟩
    have t : Tr g O0 st st H (upd H p (.lst (xs ++ ys))) := Tr.new hg hp
    exact q _ _ t ⟨p, _, rfl, hide_of (hg.fresh hp) upd_same, HDs.mono t.same _ _ (HDs.append h2 h4)⟩
theorem ok_mLst : OpOk mg rRep mLst := by
  intro g st H x y dx dy d Q hg hx hy e q
  match dx, dy, e, hx, hy with
  | .lst a, .int k, e, hx, hy =>
    obtain ⟨c, rfl⟩ := ite_some e
    obtain ⟨l, xs, rfl, h1, h2⟩ := hx
    refine ⟨l, k, xs, rfl, hy, (of_hide h1).2, c.1, c.2.1, by rw [h2.length]; exact c.2.2, fun p hp => ?_⟩
    have t : Tr g O0 st st H (upd H p (.lst (List.replicate k.toNat xs).flatten)) := Tr.new hg hp
    exact q _ _ t ⟨p, _, rfl, hide_of (hg.fresh hp) upd_same, HDs.mono t.same _ _ (HDs.rep h2 _)⟩
def oAdd : D → D → Option D := orO aInt (orO aLst aStr)
def oMul : D → D → Option D := orO mInt mLst
theorem rl_add {X : Cx} : ∃ r, OpR X (binaryOp .Add) r ∧ OpOk X.mg r oAdd := ⟨_, OpR.or op_add (OpR.or op_cat op_add_str), OpOk.or (ok_rI0 fun _ _ _ _ => rfl) (OpOk.or ok_aLst ok_aStr)⟩
section
variable {X : Cx} {a b : Expr} {A B : DEnv → M D} {ta tb : TE} {pos : Pos}
abbrev rAddA : R2 := rOr (rI0 fun i j => .int (i + j)) (rOr rCat fun x y H Q => ∃ i j, x = .str i ∧ y = .str j ∧ i.length + j.length ≤ sizeLine ∧ Q (.str (i ++ j)) H)
theorem ev_add (ha : Ev X E a A ta) (hb : Ev X E b B tb) : Ev X E (.BinOp a .Add b pos) (fOp oAdd A B) (tOp rAddA ta tb) := ev_op (OpR.or op_add (OpR.or op_cat op_add_str)) (OpOk.or (ok_rI0 fun _ _ _ _ => rfl) (OpOk.or ok_aLst ok_aStr)) ha hb
theorem ev_sub (ha : Ev X E a A ta) (hb : Ev X E b B tb) : Ev X E (.BinOp a .Sub b pos) (fOp oSub A B) (tOp (rI0 fun i j => .int (i - j)) ta tb) := ev_op op_sub (ok_rI0 fun _ _ _ _ => rfl) ha hb
theorem ev_mul (ha : Ev X E a A ta) (hb : Ev X E b B tb) : Ev X E (.BinOp a .Mult b pos) (fOp oMul A B) (tOp (rOr (rI CMul fun i j => .int (i * j)) rRep) ta tb) := ev_op (OpR.or op_mul op_rep) (OpOk.or (ok_rI fun _ _ _ _ => rfl) ok_mLst) ha hb
theorem ev_fdiv (ha : Ev X E a A ta) (hb : Ev X E b B tb) : Ev X E (.BinOp a .FloorDiv b pos) (fOp oFdiv A B) (tOp (rI CDivN fun i j => .int (i.fdiv j)) ta tb) := ev_op op_fdivN (ok_rI fun _ _ _ _ => rfl) ha hb
theorem ev_mod (ha : Ev X E a A ta) (hb : Ev X E b B tb) : Ev X E (.BinOp a .Mod b pos) (fOp oMod A B) (tOp (rI (fun _ j => j ≠ 0) fun i j => .int (i.fmod j)) ta tb) := ev_op op_modN (ok_rI fun _ _ _ _ => rfl) ha hb
theorem ev_pow (ha : Ev X E a A ta) (hb : Ev X E b B tb) : Ev X E (.BinOp a .Pow b pos) (fOp oPow A B) (tOp (rI CPow fun i j => .int (i ^ j.toNat)) ta tb) := ev_op op_pow (ok_rI fun _ _ _ _ => rfl) ha hb
end
/-! ### comparisons -/
mutual
def toP : D → Option PyData
  | .non => some .none
  | .bl b => some (.bool b)
  | .int i => some (.int i)
  | .str x => some (.str x)
  | .lst ds => (toPs ds).map .list
  | .tup ds => (toPs ds).map .tuple
  | .dct _ => none
  | .obj _ _ => none
  | .strm => none
  | .ty _ => none
  | .cls _ => none
def toPs : List D → Option (List PyData)
  | [] => some []
  | d :: ds => (toP d).bind fun p => (toPs ds).map (p :: ·)
end
mutual
theorem HD.dp {K : PySem.W.Frag} {sa : Addr} {H : Hp} : ∀ (d : D) (v : V) (p : PyData), toP d = some p → HD mg sa H d v → Dp K H v p
  | .non, _, _, e, h => by cases e; cases (show _ = _ from h); exact .non
  | .bl b, _, _, e, h => by cases e; cases (show _ = _ from h); exact .bl b
  | .int i, _, _, e, h => by cases e; cases (show _ = _ from h); exact .int i
  | .str x, _, _, e, h => by cases e; cases (show _ = _ from h); exact .str x
  | .lst ds, _, _, e, h => by
    obtain ⟨a, xs, rfl, h1, h2⟩ := h
    unfold toP at e
    cases q : toPs ds with
    | none => rw [q] at e; cases e
    | some ps =>
      rw [q] at e
      cases e
      exact .lst (SqL.of h1) (HDs.dp ds xs ps q h2)
  | .tup ds, _, _, e, h => by
    obtain ⟨a, xs, rfl, h1, h2⟩ := h
    unfold toP at e
    cases q : toPs ds with
    | none => rw [q] at e; cases e
    | some ps =>
      rw [q] at e
      cases e
      exact .tup (SqT.of h1) (HDs.dp ds xs ps q h2)
  | .dct _, _, _, e, _ => by cases e
  | .obj _ _, _, _, e, _ => by cases e
  | .strm, _, _, e, _ => by cases e
  | .ty _, _, _, e, _ => by cases e
  | .cls _, _, _, e, _ => by cases e
theorem HDs.dp {K : PySem.W.Frag} {sa : Addr} {H : Hp} : ∀ (ds : List D) (vs : List V) (ps : List PyData), toPs ds = some ps → HDs mg sa H ds vs → DpAll K H vs ps
  | [], _, _, e, h => by
    cases e
    cases (show _ = _ from h)
    exact .nil
  | d :: ds, _, _, e, h => by
    obtain ⟨v, vs, rfl, h1, h2⟩ := h
    unfold toPs at e
    cases q : toP d with
    | none => rw [q] at e; cases e
    | some p =>
      rw [q] at e
      cases q2 : toPs ds with
      | none => rw [q2] at e; cases e
      | some ps =>
        rw [q2] at e
        cases e
        exact .cons (HD.dp d v p q h1) (HDs.dp ds vs ps q2 h2)
end
def eqS (n : Bool) : D → D → Option D := fun a b => match a.sc, b.sc with
  | some x, some y => if scal x y = true then some (.bl (n ^^ decide (x = y))) else none
  | _, _ => none
def eqP (n : Bool) : D → D → Option D := fun a b => match toP a, toP b with
  | some p, some q => if SeqAt.shaped p = true ∧ SeqAt.shaped q = true then some (.bl (n ^^ PyData.eqv p q)) else none
  | _, _ => none
theorem ok_eqS : OpOk mg rEq (eqS false) := by
  intro g st H x y dx dy d Q hg hx hy e q
  unfold eqS at e
  cases ex : dx.sc with
  | none => rw [ex] at e; cases e
  | some u =>
    cases ey : dy.sc with
    | none => rw [ex, ey] at e; cases e
    | some w =>
      rw [ex, ey] at e
      obtain ⟨c, rfl⟩ := ite_some e
      have e1 := (HD.sc ex).mp hx
      have e2 := (HD.sc ey).mp hy
      subst e1 e2
      exact ⟨c, q _ _ (Tr.refl hg) (by rw [Bool.false_xor]; rfl)⟩
theorem ok_neS : OpOk mg rNe (eqS true) := by
  intro g st H x y dx dy d Q hg hx hy e q
  unfold eqS at e
  cases ex : dx.sc with
  | none => rw [ex] at e; cases e
  | some u =>
    cases ey : dy.sc with
    | none => rw [ex, ey] at e; cases e
    | some w =>
      rw [ex, ey] at e
      obtain ⟨c, rfl⟩ := ite_some e
      have e1 := (HD.sc ex).mp hx
      have e2 := (HD.sc ey).mp hy
      subst e1 e2
      exact ⟨c, q _ _ (Tr.refl hg) (by rw [Bool.true_xor]; rfl)⟩
theorem ok_eqP {K : PySem.W.Frag} : OpOk mg (rEqD K) (eqP false) := by
  intro g st H x y dx dy d Q hg hx hy e q
  unfold eqP at e
  cases ex : toP dx with
  | none => rw [ex] at e; cases e
  | some u =>
    cases ey : toP dy with
    | none => rw [ex, ey] at e; cases e
    | some w =>
      rw [ex, ey] at e
      obtain ⟨c, rfl⟩ := ite_some e
      exact ⟨u, w, HD.dp _ _ _ ex (HD.mono hide_sub _ _ hx), HD.dp _ _ _ ey (HD.mono hide_sub _ _ hy), c.1, c.2, q _ _ (Tr.refl hg) (by rw [Bool.false_xor]; rfl)⟩
theorem ok_neP {K : PySem.W.Frag} : OpOk mg (rNeD K) (eqP true) := by
  intro g st H x y dx dy d Q hg hx hy e q
  unfold eqP at e
  cases ex : toP dx with
  | none => rw [ex] at e; cases e
  | some u =>
    cases ey : toP dy with
    | none => rw [ex, ey] at e; cases e
    | some w =>
      rw [ex, ey] at e
      obtain ⟨c, rfl⟩ := ite_some e
      exact ⟨u, w, HD.dp _ _ _ ex (HD.mono hide_sub _ _ hx), HD.dp _ _ _ ey (HD.mono hide_sub _ _ hy), c.1, c.2, q _ _ (Tr.refl hg) (by rw [Bool.true_xor]; rfl)⟩
def oEq (n : Bool) : D → D → Option D := orO (eqS n) (eqP n)
def cI (p : Int → Int → Bool) : D → D → Option D := oI fun i j => some (.bl (p i j))
def cS (p : List Nat → List Nat → Bool) : D → D → Option D
  | .str x, .str y => some (.bl (p x.cps.toList y.cps.toList))
  | _, _ => none
def oLt : D → D → Option D := orO (cI fun i j => decide (i < j)) (cS fun a b => decide (a < b))
def oLe : D → D → Option D := cI fun i j => decide (i ≤ j)
def oGt : D → D → Option D := cI fun i j => decide (j < i)
def oGe : D → D → Option D := cI fun i j => decide (j ≤ i)
theorem ok_ltS : OpOk mg (fun x y H Q => ∃ i j, x = .str i ∧ y = .str j ∧ Q (.bl (decide (i.cps.toList < j.cps.toList))) H) (cS fun a b => decide (a < b)) := by
  intro g st H x y dx dy d Q hg hx hy e q
  match dx, dy, e, hx, hy with
  | .str a, .str b, e, hx, hy =>
    cases e
    exact ⟨a, b, hx, hy, q _ _ (Tr.refl hg) rfl⟩
def oIsN (n : Bool) : D → D → Option D
  | a, .non => (match a with
    | .non => some (.bl (!n))
    | _ => some (.bl n))
  | _, _ => none
theorem HD.is_non {sa : Addr} {H : Hp} {d : D} {v : V} (h : HD mg sa H d v) : decide (v = V.non) = (match d with
    | .non => true
    | _ => false) := by
  cases d with
  | non => cases (show v = _ from h); rfl
  | bl b => cases (show v = _ from h); rfl
  | int b => cases (show v = _ from h); rfl
  | str b => cases (show v = _ from h); rfl
  | lst ds => obtain ⟨a, xs, rfl, _⟩ := h; rfl
  | tup ds => obtain ⟨a, xs, rfl, _⟩ := h; rfl
  | dct ds => obtain ⟨a, rfl, _⟩ := h; rfl
  | obj c fs => obtain ⟨a, C, dx, vs, rfl, _⟩ := h; rfl
  | strm => cases (show v = _ from h); rfl
  | ty t => cases (show v = _ from h); rfl
  | cls c => obtain ⟨C, _, rfl⟩ := h; rfl
theorem ok_isN : OpOk mg (fun x y H Q => y = .non ∧ Q (.bl (decide (x = .non))) H) (oIsN false) := by
  intro g st H x y dx dy d Q hg hx hy e q
  cases dy <;> first | cases e | skip
  refine ⟨hy, q _ _ (Tr.refl hg) ?_⟩
  rw [HD.is_non hx]
  cases dx <;> (cases e; rfl)
theorem ok_notN : OpOk mg (fun x y H Q => y = .non ∧ Q (.bl (!decide (x = .non))) H) (oIsN true) := by
  intro g st H x y dx dy d Q hg hx hy e q
  cases dy <;> first | cases e | skip
  refine ⟨hy, q _ _ (Tr.refl hg) ?_⟩
  rw [HD.is_non hx]
  cases dx <;> (cases e; rfl)
/-- flat data as the hand layer compares it -/
def scs : List D → Option (List V)
  | [] => some []
  | d :: ds => match d.sc, scs ds with
    | some v, some vs => some (v :: vs)
    | _, _ => none
theorem scs_ok {sa : Addr} {H : Hp} : ∀ {ds : List D} {vs xs : List V}, scs ds = some vs → HDs mg sa H ds xs → xs = vs
  | [], _, _, e, h => by cases e; exact h
  | d :: ds, vs, xs, e, h => by
    obtain ⟨v, ws, rfl, h1, h2⟩ := h
    unfold scs at e
    cases e1 : d.sc with
    | none => rw [e1] at e; cases e
    | some u =>
      cases e2 : scs ds with
      | none => rw [e1, e2] at e; cases e
      | some us =>
        rw [e1, e2] at e
        cases e
        rw [(HD.sc e1).mp h1, scs_ok e2 h2]
theorem scs_flat : ∀ {ds : List D} {vs : List V}, scs ds = some vs → vs.all flatV = true
  | [], _, e => by cases e; rfl
  | d :: ds, vs, e => by
    unfold scs at e
    cases e1 : d.sc with
    | none => rw [e1] at e; cases e
    | some u =>
      cases e2 : scs ds with
      | none => rw [e1, e2] at e; cases e
      | some us =>
        rw [e1, e2] at e
        cases e
        rw [List.all_cons, scs_flat e2, Bool.and_true]
        cases d <;> cases e1 <;> rfl
theorem sc_flat {d : D} {v : V} (e : d.sc = some v) : flatV v = true := by cases d <;> cases e <;> rfl
def inQ (n : Bool) : D → D → Option D := fun a b => match a.sc, b.seq.bind scs with
  | some x, some xs => some (.bl (if n then !inV x xs else inV x xs))
  | _, _ => none
theorem ok_in {K : PySem.W.Frag} (n : Bool) : OpOk mg (rIn K n) (inQ n) := by
  intro g st H x y dx dy d Q hg hx hy e q
  unfold inQ at e
  cases ex : dx.sc with
  | none => rw [ex] at e; cases e
  | some u =>
    rw [ex] at e
    have e1 := (HD.sc ex).mp hx
    subst e1
    match dy, hy, e with
    | .lst ds, hy, e =>
      obtain ⟨a, xs, rfl, h1, h2⟩ := hy
      have sq : (D.lst ds).seq.bind scs = scs ds := rfl
      rw [sq] at e
      cases es : scs ds with
      | none => rw [es] at e; cases e
      | some vs =>
        rw [es] at e
        cases e
        have e2 := scs_ok es h2
        subst e2
        exact ⟨a, xs, rfl, .inl (SqL.of (of_hide h1).2), sc_flat ex, scs_flat es, q _ _ (Tr.refl hg) rfl⟩
    | .tup ds, hy, e =>
      obtain ⟨a, xs, rfl, h1, h2⟩ := hy
      have sq : (D.tup ds).seq.bind scs = scs ds := rfl
      rw [sq] at e
      cases es : scs ds with
      | none => rw [es] at e; cases e
      | some vs =>
        rw [es] at e
        cases e
        have e2 := scs_ok es h2
        subst e2
        exact ⟨a, xs, rfl, .inr (SqT.of (of_hide h1).2), sc_flat ex, scs_flat es, q _ _ (Tr.refl hg) rfl⟩
def inSt : D → D → Option D
  | .str x, .str y => some (.bl (!(Builtin.Str.occurrences y x 0 y.length 1).isEmpty))
  | _, _ => none
theorem ok_inSt : OpOk mg (fun x y H Q => ∃ i j, x = .str i ∧ y = .str j ∧ Q (.bl (!(Builtin.Str.occurrences j i 0 j.length 1).isEmpty)) H) inSt := by
  intro g st H x y dx dy d Q hg hx hy e q
  match dx, dy, e, hx, hy with
  | .str a, .str b, e, hx, hy =>
    cases e
    exact ⟨a, b, hx, hy, q _ _ (Tr.refl hg) rfl⟩
def oIn : D → D → Option D := orO (inQ false) inSt
section
variable {X : Cx} {a b c : Expr} {A B C : DEnv → M D} {ta tb tc : TE} {pos : Pos}
abbrev rInS : R2 := fun x y H Q => ∃ i j, x = .str i ∧ y = .str j ∧ Q (.bl (!(Builtin.Str.occurrences j i 0 j.length 1).isEmpty)) H
abbrev rLtA : R2 := rOr (rI0 fun i j => .bl (decide (i < j))) (fun x y H Q => ∃ i j, x = .str i ∧ y = .str j ∧ Q (.bl (decide (i.cps.toList < j.cps.toList))) H)
structure Cp (X : Cx) (op : CmpOp) (f : D → D → Option D) (r : R2) : Prop where
  opr : OpR X (compareOp op) r
  ok : OpOk X.mg r f
theorem cp_eq (hu : X.A.units + 64 < cLine) : Cp X .Eq (oEq false) (rOr rEq (rEqD X.K)) := ⟨OpR.or op_eq (op_eqD hu), OpOk.or ok_eqS ok_eqP⟩
theorem cp_ne (hu : X.A.units + 64 < cLine) : Cp X .NotEq (oEq true) (rOr rNe (rNeD X.K)) := ⟨OpR.or op_ne (op_neD hu), OpOk.or ok_neS ok_neP⟩
theorem cp_lt : Cp X .Lt oLt rLtA := ⟨OpR.or op_lt op_lt_str, OpOk.or (ok_rI0 fun _ _ _ _ => rfl) ok_ltS⟩
theorem cp_le : Cp X .LtE oLe (rI0 fun i j => .bl (decide (i ≤ j))) := ⟨op_le, ok_rI0 fun _ _ _ _ => rfl⟩
theorem cp_gt : Cp X .Gt oGt (rI0 fun i j => .bl (decide (j < i))) := ⟨op_gt, ok_rI0 fun _ _ _ _ => rfl⟩
theorem cp_ge : Cp X .GtE oGe (rI0 fun i j => .bl (decide (j ≤ i))) := ⟨op_ge, ok_rI0 fun _ _ _ _ => rfl⟩
theorem cp_is : Cp X .Is (oIsN false) (fun x y H Q => y = .non ∧ Q (.bl (decide (x = .non))) H) := ⟨op_isN, ok_isN⟩
theorem cp_isnot : Cp X .IsNot (oIsN true) (fun x y H Q => y = .non ∧ Q (.bl (!decide (x = .non))) H) := ⟨op_notN, ok_notN⟩
theorem cp_in : Cp X .In oIn (rOr (rIn X.K false) rInS) := ⟨OpR.or op_in_seq op_in_str, OpOk.or (ok_in false) ok_inSt⟩
theorem cp_notin : Cp X .NotIn (inQ true) (rIn X.K true) := ⟨op_notIn_seq, ok_in true⟩
theorem ev_c {op : CmpOp} {f : D → D → Option D} {r : R2} (cp : Cp X op f r) (ha : Ev X E a A ta) (hb : Ev X E b B tb) (hm : behindInMarks op b = false := by first | exact nomark _ | rfl) : Ev X E (.Compare a [op] [b] pos) (fOp f A B) (tOp r ta tb) := ev_cmp cp.opr cp.ok ha hb hm
theorem et_c {op : CmpOp} {f : D → D → Option D} {r : R2} (cp : Cp X op f r) (ha : Ev X E a A ta) (hb : Ev X E b B tb) (hm : behindInMarks op b = false := by first | exact nomark _ | rfl) : Et X E (.Compare a [op] [b] pos) (fTst (fOp f A B)) (tTest (tOp r ta tb)) := et_cmp cp.opr cp.ok ha hb hm
/-- a < b < c -/
def fChain (f f' : D → D → Option D) (A B C : DEnv → M D) : DEnv → M D := fun env => bnd (A env) fun a => bnd (B env) fun b => bnd (ofO (f a b)) fun z => match z with
  | .bl true => bnd (C env) fun c => ofO (f' b c)
  | .bl false => ret (.bl false)
  | _ => stuck
theorem re_chain {r r' : R2} {f f' : D → D → Option D} (ho : OpOk mg r f) (ho' : OpOk mg r' f') {ta tb tc : TE} {A B C : DEnv → M D} (ha : RE mg E ta A) (hb : RE mg E tb B) (hc : RE mg E tc C) : RE mg E (tChain r r' ta tb tc) (fChain f f' A B C) := by
  intro g st σ H env Q hg he h
  refine ha g st σ H env _ hg he ((Ans.bnd h).imp fun dx st1 x H1 t1 hx h1 => ?_)
  refine hb g st1 σ H1 env _ t1.good (he.tr t1) ((Ans.bnd h1).imp fun dy st2 y H2 t2 hy h2 => ?_)
  have h3 := (Ans.bnd (rel := rV mg g) h2).ofO_
  obtain ⟨d, e, h3⟩ := h3
  refine ho g st2 H2 x y dx dy d _ t2.good (HD.mono t2.same _ _ hx) hy e fun v H3 t3 hv => ?_
  have h4 := h3 v H3 t3 hv
  cases d with
  | bl k =>
    refine ⟨k, hv, ?_⟩
    cases k with
    | true =>
      rw [if_pos rfl]
      refine hc g st2 σ H3 env _ t3.good ((he.tr t1).tr t2 |>.tr t3) ((Ans.bnd h4).imp fun dz st5 z H5 t5 hz h5 => ?_)
      obtain ⟨d', e', h6⟩ := h5.ofO_
      exact ho' g st5 H5 y z dy dz d' Q t5.good (HD.mono t5.same _ _ (HD.mono t3.same _ _ hy)) hz e' h6
    | false =>
      rw [if_neg Bool.false_ne_true]
      exact Ans.ret_ t3.good h4 rfl
  | _ => exact h4.elim
theorem ev_chain {op op' : CmpOp} {f f' : D → D → Option D} {r r' : R2} (cp : Cp X op f r) (cp' : Cp X op' f' r') (ha : Ev X E a A ta) (hb : Ev X E b B tb) (hc : Ev X E c C tc) (hm : lastMarks [op, op'] [b, c] = false := by rfl) : Ev X E (.Compare a [op, op'] [b, c] pos) (fChain f f' A B C) (tChain r r' ta tb tc) :=
  ⟨pe_chain cp.opr cp'.opr ha.pe hb.pe hc.pe hm, re_chain cp.ok cp'.ok ha.re hb.re hc.re⟩
end
end VS

/-! VS5: built-in functions, subscripts and slices on plain data. -/
namespace VS
open PySem PySem.Spec PyProof.Rows L2
variable {mg : Str → Option Value} {E : XK}
/-! ### isinstance -/
def D.tyOf : D → Option Ty
  | .non => some .non
  | .bl _ => some .bl
  | .int _ => some .int
  | .str _ => some .str
  | .lst _ => some .lst
  | .tup _ => some .tup
  | .dct _ => some .dct
  | _ => none
def isTy : Ty → Ty → Bool
  | .bl, .int => true
  | a, b => decide (a = b)
theorem kit_all : ∀ a b : Ty, b ≠ .non → kitB a.nm b.nm = some (isTy a b) := by
  have h : [Ty.non, .bl, .int, .str, .lst, .tup, .dct].all (fun a => [Ty.bl, .int, .str, .lst, .tup, .dct].all fun b => decide (kitB a.nm b.nm = some (isTy a b))) = true := by decide +kernel
  intro a b hb
  have h1 := List.all_eq_true.mp h a (by cases a <;> simp)
  exact of_decide_eq_true (List.all_eq_true.mp h1 b (by cases b <;> simp at hb ⊢))
theorem HD.tyX {K : PySem.W.Frag} {sa : Addr} {H : Hp} {d : D} {v : V} {t : Ty} (e : d.tyOf = some t) (h : HD mg sa H d v) : TyX K H v (.type t.nm) := by
  cases d with
  | non => cases e; cases (show v = _ from h); exact .base .non
  | bl b => cases e; cases (show v = _ from h); exact .base (.bl b)
  | int b => cases e; cases (show v = _ from h); exact .base (.int b)
  | str b => cases e; cases (show v = _ from h); exact .base (.str b)
  | lst ds => cases e; obtain ⟨a, xs, rfl, q, _⟩ := h; exact .base (.lst q)
  | tup ds => cases e; obtain ⟨a, xs, rfl, q, _⟩ := h; exact .base (.tup q)
  | dct ds =>
    cases e
    obtain ⟨a, rfl, ⟨es, q, _⟩ | ⟨es, q, _⟩⟩ := h
    · exact .base (.dK q)
    · exact .base (.dT q)
  | obj c fs => cases e
  | strm => cases e
  | ty t => cases e
  | cls c => cases e
def isiB : List D → Option D
  | [x, .ty t] => if t = .non then none else x.tyOf.map fun a => .bl (isTy a t)
  | _ => none
def tys : List D → Option (List Ty)
  | [] => some []
  | .ty t :: r => if t = .non then none else (tys r).map (t :: ·)
  | _ => none
def isiT : List D → Option D
  | [x, .tup cs] => match x.tyOf, tys cs with
    | some a, some ts => some (.bl (ts.any fun t => isTy a t))
    | _, _ => none
  | _ => none
theorem ok_isiB {K : PySem.W.Frag} : CallOk mg (rIsi K) isiB := by
  intro g st H xs ds d Q hg hx e q
  match ds, e, hx with
  | [x, .ty t], e, hx =>
    obtain ⟨v, u, rfl, h1, h2⟩ := hx.inv2
    cases (show u = V.ty t.nm from h2)
    dsimp only [isiB] at e
    by_cases c : t = .non
    · rw [if_pos c] at e; cases e
    · rw [if_neg c] at e
      cases et : x.tyOf with
      | none => rw [et] at e; cases e
      | some a =>
        rw [et] at e
        cases e
        exact ⟨v, .ty t.nm, .type a.nm, .type t.nm, isTy a t, rfl, .ty _, HD.tyX et (HD.mono hide_sub _ _ h1), kit_ty (kit_all a t c), q _ _ (Tr.refl hg) rfl⟩
theorem tys_ok {sa : Addr} {H : Hp} : ∀ {cs : List D} {ts : List Ty} {vs : List V}, tys cs = some ts → HDs mg sa H cs vs → Paired ClsV vs (ts.map fun t => Value.type t.nm) ∧ ∀ t ∈ ts, t ≠ .non
  | [], _, _, e, h => by cases e; cases (show _ = _ from h); exact ⟨.nil, fun t ht => absurd ht (by simp)⟩
  | .ty t :: r, ts, vs, e, h => by
    obtain ⟨v, ws, rfl, h1, h2⟩ := h
    unfold tys at e
    by_cases c : t = .non
    · rw [if_pos c] at e; cases e
    · rw [if_neg c] at e
      cases er : tys r with
      | none => rw [er] at e; cases e
      | some us =>
        rw [er] at e
        cases e
        cases (show v = V.ty t.nm from h1)
        obtain ⟨k1, k2⟩ := tys_ok er h2
        exact ⟨.cons (.ty _) k1, fun s hs => (List.mem_cons.mp hs).elim (fun q => q ▸ c) (k2 s)⟩
  | .non :: r, _, _, e, _ => by cases e
  | .bl _ :: r, _, _, e, _ => by cases e
  | .int _ :: r, _, _, e, _ => by cases e
  | .str _ :: r, _, _, e, _ => by cases e
  | .lst _ :: r, _, _, e, _ => by cases e
  | .tup _ :: r, _, _, e, _ => by cases e
  | .dct _ :: r, _, _, e, _ => by cases e
  | .obj _ _ :: r, _, _, e, _ => by cases e
  | .strm :: r, _, _, e, _ => by cases e
  | .cls _ :: r, _, _, e, _ => by cases e
theorem kit_tys {K : PySem.W.Frag} {a : Ty} : ∀ {ts : List Ty}, (∀ t ∈ ts, t ≠ .non) → PySem.W.kitAny K (.type a.nm) (ts.map fun t => Value.type t.nm) = some (ts.any fun t => isTy a t)
  | [], _ => kitAny_nil
  | t :: ts, h => by
    have h1 := kit_ty (K := K) (kit_all a t (h t List.mem_cons_self))
    rw [List.map_cons, List.any_cons]
    refine kitAny_cons h1 (fun e => ?_) fun e => ?_
    · rw [e, Bool.false_or]
      exact kit_tys fun s hs => h s (List.mem_cons_of_mem _ hs)
    · rw [e, Bool.true_or]
theorem ok_isiT {K : PySem.W.Frag} : CallOk mg (rIsiT K) isiT := by
  intro g st H xs ds d Q hg hx e q
  match ds, e, hx with
  | [x, .tup cs], e, hx =>
    obtain ⟨v, u, rfl, h1, h2⟩ := hx.inv2
    obtain ⟨tp, vs, rfl, h3, h4⟩ := h2
    dsimp only [isiT] at e
    cases et : x.tyOf with
    | none => rw [et] at e; cases e
    | some a =>
      cases es : tys cs with
      | none => rw [et, es] at e; cases e
      | some ts =>
        rw [et, es] at e
        cases e
        obtain ⟨k1, k2⟩ := tys_ok es h4
        exact ⟨v, tp, vs, .type a.nm, _, _, rfl, (of_hide h3).2, k1, HD.tyX et (HD.mono hide_sub _ _ h1), kit_tys k2, q _ _ (Tr.refl hg) rfl⟩
def bIsi : List D → Option D := orC isiB isiT
/-! ### len, all, any, sum, .. -/
def bLen : List D → Option D
  | [.lst ds] => some (.int ds.length)
  | [.tup ds] => some (.int ds.length)
  | [.str z] => if z.length ≤ sizeLine then some (.int z.length) else none
  | _ => none
abbrev rLenA (K : PySem.W.Frag) : List V → Hp → VK → Prop := rcOr (fun xs H Q => ∃ p ys, xs = [.ref p] ∧ (SqL K H p ys ∨ SqT K H p ys) ∧ Q (.int ys.length) H) (fun xs H Q => ∃ z, xs = [.str z] ∧ z.length ≤ sizeLine ∧ Q (.int z.length) H)
theorem ok_len {K : PySem.W.Frag} : CallOk mg (rLenA K) bLen := by
  intro g st H xs ds d Q hg hx e q
  match ds, e, hx with
  | [.lst es], e, hx =>
    cases e
    obtain ⟨v, rfl, h1⟩ := hx.inv1
    obtain ⟨p, ys, rfl, h2, h3⟩ := h1
    refine .inl ⟨p, ys, rfl, .inl (SqL.of (of_hide h2).2), ?_⟩
    rw [h3.length]
    exact q _ _ (Tr.refl hg) rfl
  | [.tup es], e, hx =>
    cases e
    obtain ⟨v, rfl, h1⟩ := hx.inv1
    obtain ⟨p, ys, rfl, h2, h3⟩ := h1
    refine .inl ⟨p, ys, rfl, .inr (SqT.of (of_hide h2).2), ?_⟩
    rw [h3.length]
    exact q _ _ (Tr.refl hg) rfl
  | [.str z], e, hx =>
    obtain ⟨c, rfl⟩ := ite_some e
    obtain ⟨v, rfl, h1⟩ := hx.inv1
    cases (show v = _ from h1)
    exact .inr ⟨z, rfl, c, q _ _ (Tr.refl hg) rfl⟩
def bls : List D → Option (List Bool)
  | [] => some []
  | .bl b :: r => (bls r).map (b :: ·)
  | _ => none
def intsD : List D → Option (List Int)
  | [] => some []
  | .int b :: r => (intsD r).map (b :: ·)
  | _ => none
def strs' : List D → Option (List Str)
  | [] => some []
  | .str b :: r => (strs' r).map (b :: ·)
  | _ => none
theorem bls_eq : ∀ {ds : List D} {bs : List Bool}, bls ds = some bs → ds = bs.map D.bl
  | [], _, e => by cases e; rfl
  | .bl b :: r, _, e => by
    unfold bls at e
    cases er : bls r with
    | none => rw [er] at e; cases e
    | some us => rw [er] at e; cases e; rw [bls_eq er]; rfl
  | .non :: r, _, e | .int _ :: r, _, e | .str _ :: r, _, e | .lst _ :: r, _, e | .tup _ :: r, _, e | .dct _ :: r, _, e | .obj _ _ :: r, _, e | .strm :: r, _, e | .ty _ :: r, _, e | .cls _ :: r, _, e => by cases e
theorem ints_eq : ∀ {ds : List D} {bs : List Int}, intsD ds = some bs → ds = bs.map D.int
  | [], _, e => by cases e; rfl
  | .int b :: r, _, e => by
    unfold intsD at e
    cases er : intsD r with
    | none => rw [er] at e; cases e
    | some us => rw [er] at e; cases e; rw [ints_eq er]; rfl
  | .non :: r, _, e | .bl _ :: r, _, e | .str _ :: r, _, e | .lst _ :: r, _, e | .tup _ :: r, _, e | .dct _ :: r, _, e | .obj _ _ :: r, _, e | .strm :: r, _, e | .ty _ :: r, _, e | .cls _ :: r, _, e => by cases e
theorem strs_eq : ∀ {ds : List D} {bs : List Str}, strs' ds = some bs → ds = bs.map D.str
  | [], _, e => by cases e; rfl
  | .str b :: r, _, e => by
    unfold strs' at e
    cases er : strs' r with
    | none => rw [er] at e; cases e
    | some us => rw [er] at e; cases e; rw [strs_eq er]; rfl
  | .non :: r, _, e | .bl _ :: r, _, e | .int _ :: r, _, e | .lst _ :: r, _, e | .tup _ :: r, _, e | .dct _ :: r, _, e | .obj _ _ :: r, _, e | .strm :: r, _, e | .ty _ :: r, _, e | .cls _ :: r, _, e => by cases e
theorem bls_map (bs : List Bool) : bls (bs.map D.bl) = some bs := by
  induction bs with
  | nil => rfl
  | cons b r ih => rw [List.map_cons]; unfold bls; rw [ih]; rfl
theorem ints_map (bs : List Int) : intsD (bs.map D.int) = some bs := by
  induction bs with
  | nil => rfl
  | cons b r ih => rw [List.map_cons]; unfold intsD; rw [ih]; rfl
theorem strs_map (bs : List Str) : strs' (bs.map D.str) = some bs := by
  induction bs with
  | nil => rfl
  | cons b r ih => rw [List.map_cons]; unfold strs'; rw [ih]; rfl
/-- a function of a list of bools (intsD, texts) -/
def onBls (f : List Bool → Option D) : List D → Option D
  | [.lst ds] => (bls ds).bind f
  | _ => none
def onInts (f : List Int → Option D) : List D → Option D
  | [.lst ds] => (intsD ds).bind f
  | _ => none
theorem onBls_inv {f : List Bool → Option D} {ds : List D} {d : D} (e : onBls f ds = some d) : ∃ bs, ds = [.lst (bs.map D.bl)] ∧ f bs = some d := by
  match ds, e with
  | [.lst es], e =>
    dsimp only [onBls] at e
    cases q : bls es with
    | none => rw [q] at e; cases e
    | some bs =>
      rw [q] at e
      exact ⟨bs, by rw [bls_eq q], e⟩
theorem onInts_inv {f : List Int → Option D} {ds : List D} {d : D} (e : onInts f ds = some d) : ∃ bs, ds = [.lst (bs.map D.int)] ∧ f bs = some d := by
  match ds, e with
  | [.lst es], e =>
    dsimp only [onInts] at e
    cases q : intsD es with
    | none => rw [q] at e; cases e
    | some bs =>
      rw [q] at e
      exact ⟨bs, by rw [ints_eq q], e⟩
theorem ok_all {K : PySem.W.Frag} : CallOk mg (rAll K) (onBls fun bs => some (.bl (bs.all id))) := by
  intro g st H xs ds d Q hg hx e q
  obtain ⟨bs, rfl, e2⟩ := onBls_inv e
  cases e2
  obtain ⟨v, rfl, p, ys, rfl, h2, h3⟩ := hx.inv1
  rw [HDs.bls.mp h3] at h2
  exact ⟨p, bs, rfl, SqL.of (of_hide h2).2, q _ _ (Tr.refl hg) rfl⟩
theorem ok_any {K : PySem.W.Frag} : CallOk mg (rAny K) (onBls fun bs => some (.bl (bs.any id))) := by
  intro g st H xs ds d Q hg hx e q
  obtain ⟨bs, rfl, e2⟩ := onBls_inv e
  cases e2
  obtain ⟨v, rfl, p, ys, rfl, h2, h3⟩ := hx.inv1
  rw [HDs.bls.mp h3] at h2
  exact ⟨p, bs, rfl, SqL.of (of_hide h2).2, q _ _ (Tr.refl hg) rfl⟩
theorem ok_sum {K : PySem.W.Frag} : CallOk mg (rSum K) (onInts fun bs => some (.int bs.sum)) := by
  intro g st H xs ds d Q hg hx e q
  obtain ⟨bs, rfl, e2⟩ := onInts_inv e
  cases e2
  obtain ⟨v, rfl, p, ys, rfl, h2, h3⟩ := hx.inv1
  rw [HDs.ints.mp h3] at h2
  exact ⟨p, bs, rfl, SqL.of (of_hide h2).2, q _ _ (Tr.refl hg) rfl⟩
def maxI : List Int → Option Int
  | [] => none
  | x :: r => some (r.foldl max x)
def minI : List Int → Option Int
  | [] => none
  | x :: r => some (r.foldl min x)
theorem foldl_max : ∀ (r : List Int) (x : Int), r.foldl max x ∈ x :: r ∧ ∀ y ∈ x :: r, y ≤ r.foldl max x
  | [], x => ⟨by simp, fun y hy => by simp at hy; simp [hy]⟩
  | z :: r, x => by
    obtain ⟨h1, h2⟩ := foldl_max r (max x z)
    rw [List.foldl_cons]
    refine ⟨?_, fun y hy => ?_⟩
    · rcases List.mem_cons.mp h1 with h | h
      · rw [h]
        rcases Int.le_total x z with c | c
        · rw [Int.max_eq_right c]; simp
        · rw [Int.max_eq_left c]; simp
      · exact List.mem_cons_of_mem _ (List.mem_cons_of_mem _ h)
    · have hm := h2 (max x z) List.mem_cons_self
      rcases List.mem_cons.mp hy with rfl | hy
      · omega
      · rcases List.mem_cons.mp hy with rfl | hy
        · omega
        · exact h2 y (List.mem_cons_of_mem _ hy)
theorem foldl_min : ∀ (r : List Int) (x : Int), r.foldl min x ∈ x :: r ∧ ∀ y ∈ x :: r, r.foldl min x ≤ y
  | [], x => ⟨by simp, fun y hy => by simp at hy; simp [hy]⟩
  | z :: r, x => by
    obtain ⟨h1, h2⟩ := foldl_min r (min x z)
    rw [List.foldl_cons]
    refine ⟨?_, fun y hy => ?_⟩
    · rcases List.mem_cons.mp h1 with h | h
      · rw [h]
        rcases Int.le_total x z with c | c
        · rw [Int.min_eq_left c]; simp
        · rw [Int.min_eq_right c]; simp
      · exact List.mem_cons_of_mem _ (List.mem_cons_of_mem _ h)
    · have hm := h2 (min x z) List.mem_cons_self
      rcases List.mem_cons.mp hy with rfl | hy
      · omega
      · rcases List.mem_cons.mp hy with rfl | hy
        · omega
        · exact h2 y (List.mem_cons_of_mem _ hy)
theorem ok_max {K : PySem.W.Frag} : CallOk mg (rMax K) (onInts fun bs => (maxI bs).map .int) := by
  intro g st H xs ds d Q hg hx e q
  obtain ⟨bs, rfl, e2⟩ := onInts_inv e
  cases bs with
  | nil => cases e2
  | cons b r =>
    cases e2
    obtain ⟨v, rfl, p, ys, rfl, h2, h3⟩ := hx.inv1
    rw [HDs.ints.mp h3] at h2
    refine ⟨p, b :: r, rfl, SqL.of (of_hide h2).2, by simp, fun m hm hle => ?_⟩
    obtain ⟨k1, k2⟩ := foldl_max r b
    have e : m = r.foldl max b := Int.le_antisymm (k2 m hm) (hle _ k1)
    rw [e]
    exact q _ _ (Tr.refl hg) rfl
theorem ok_min {K : PySem.W.Frag} : CallOk mg (rMin K) (onInts fun bs => (minI bs).map .int) := by
  intro g st H xs ds d Q hg hx e q
  obtain ⟨bs, rfl, e2⟩ := onInts_inv e
  cases bs with
  | nil => cases e2
  | cons b r =>
    cases e2
    obtain ⟨v, rfl, p, ys, rfl, h2, h3⟩ := hx.inv1
    rw [HDs.ints.mp h3] at h2
    refine ⟨p, b :: r, rfl, SqL.of (of_hide h2).2, by simp, fun m hm hle => ?_⟩
    obtain ⟨k1, k2⟩ := foldl_min r b
    have e : m = r.foldl min b := Int.le_antisymm (hle _ k1) (k2 m hm)
    rw [e]
    exact q _ _ (Tr.refl hg) rfl
def bAbs : List D → Option D
  | [.int i] => some (.int (if i < 0 then -i else i))
  | _ => none
theorem ok_abs : CallOk mg (fun xs H Q => ∃ i, xs = [.int i] ∧ Q (.int (if i < 0 then -i else i)) H) bAbs := by
  intro g st H xs ds d Q hg hx e q
  match ds, e, hx with
  | [.int i], e, hx =>
    cases e
    obtain ⟨v, rfl, h⟩ := hx.inv1
    cases (show v = _ from h)
    exact ⟨i, rfl, q _ _ (Tr.refl hg) rfl⟩
def bInt : List D → Option D
  | [.int i] => some (.int i)
  | [.bl b] => some (.int (if b then 1 else 0))
  | _ => none
theorem ok_int : CallOk mg (fun xs H Q => (∃ i, xs = [.int i] ∧ Q (.int i) H) ∨ ∃ k, xs = [.bl k] ∧ Q (.int (if k then 1 else 0)) H) bInt := by
  intro g st H xs ds d Q hg hx e q
  match ds, e, hx with
  | [.int i], e, hx =>
    cases e
    obtain ⟨v, rfl, h⟩ := hx.inv1
    cases (show v = _ from h)
    exact .inl ⟨i, rfl, q _ _ (Tr.refl hg) rfl⟩
  | [.bl i], e, hx =>
    cases e
    obtain ⟨v, rfl, h⟩ := hx.inv1
    cases (show v = _ from h)
    exact .inr ⟨i, rfl, q _ _ (Tr.refl hg) rfl⟩
/-! ### list(x), tuple(x): new lists -/
/-- a call that makes a new list -/
def NewOk (mg : Str → Option Value) (r : List V → Hp → VK → Prop) (f : List D → Option (List D)) : Prop := ∀ (g : Gx) (st : Option SS) (H : Hp) (xs : List V) (ds es : List D) (Q : VK), Good g st H → HDs mg g.sa (hide g.S H) ds xs → f ds = some es →
  (∀ p ys, H p = none → HDs mg g.sa (hide g.S H) es ys → Q (.ref p) (upd H p (.lst ys))) → r xs H Q
theorem rf_blt {r : List V → Hp → VK → Prop} {f : List D → Option (List D)} {G : DEnv → M (List D)} {tl : TA} (ho : NewOk mg r f) (ha : RA mg E tl G) : RF mg E (tCB r tl) (fIt f G) := by
  intro g st σ H env Q hg he h
  refine ha g st σ H env _ hg he ((Ans.bnd h).imp fun ds st1 xs H1 t1 hx h1 => ?_)
  obtain ⟨es, e, h3⟩ := h1.ofO_
  refine ho g st1 H1 xs ds es Q t1.good hx e fun p ys hp hys => ?_
  have t2 : Tr g O0 st1 st1 H1 (upd H1 p (.lst ys)) := Tr.new t1.good hp
  have nS := t1.good.fresh hp
  refine h3 _ _ t2 ⟨p, ys, rfl, ?_, nS, upd_same, ?_⟩
  · cases z : H p with
    | none => rfl
    | some o =>
      have k := t1.keep p o nS (fun z => z) z
      rw [hp] at k; cases k
  · have e2 : hide (g.plus fun b => b = p).S (upd H1 p (.lst ys)) = hide (g.plus fun b => b = p).S H1 := hide_upd (.inr rfl)
    rw [e2]
    exact HDs.mono (fun b o q => by
      obtain ⟨k1, k2⟩ := of_hide q
      exact hide_of (fun z => z.elim k1 (ne_of_none k2 hp)) k2) _ _ hys
theorem NewOk.or {r r' : List V → Hp → VK → Prop} {f f' : List D → Option (List D)} (h : NewOk mg r f) (h' : NewOk mg r' f') : NewOk mg (rcOr r r') (orC f f') := by
  intro g st H xs ds d Q hg hx e k
  unfold orC at e
  cases q : f ds with
  | some c =>
    rw [q] at e
    exact .inl (h g st H xs ds d Q hg hx (q.trans e) k)
  | none =>
    rw [q] at e
    exact .inr (h' g st H xs ds d Q hg hx e k)
def one (f : D → Option (List D)) : List D → Option (List D)
  | [d] => f d
  | _ => none
theorem one_inv {f : D → Option (List D)} {ds es : List D} (e : one f ds = some es) : ∃ d, ds = [d] ∧ f d = some es := by
  match ds, e with
  | [d], e => exact ⟨d, rfl, e⟩
theorem ok_list {K : PySem.W.Frag} : NewOk mg (fun xs H Q => ∃ p ys, xs = [.ref p] ∧ (SqL K H p ys ∨ SqT K H p ys) ∧ ∀ l, H l = none → Q (.ref l) (upd H l (.lst ys))) (one D.seq) := by
  intro g st H xs ds es Q hg hx e q
  obtain ⟨d, rfl, e2⟩ := one_inv e
  obtain ⟨v, rfl, h⟩ := hx.inv1
  cases d with
  | lst ds =>
    cases e2
    obtain ⟨p, ys, rfl, h2, h3⟩ := h
    exact ⟨p, ys, rfl, .inl (SqL.of (of_hide h2).2), fun l hl => q l ys hl h3⟩
  | tup ds =>
    cases e2
    obtain ⟨p, ys, rfl, h2, h3⟩ := h
    exact ⟨p, ys, rfl, .inr (SqT.of (of_hide h2).2), fun l hl => q l ys hl h3⟩
  | _ => cases e2
def bTuple : List D → Option D
  | [.lst ds] => some (.tup ds)
  | [.tup ds] => some (.tup ds)
  | _ => none
theorem ok_tuple {K : PySem.W.Frag} : CallOk mg (fun xs H Q => ∃ p ys, xs = [.ref p] ∧ ((SqL K H p ys ∧ ∀ l, H l = none → Q (.ref l) (upd H l (.tup ys))) ∨ (SqT K H p ys ∧ Q (.ref p) H))) bTuple := by
  intro g st H xs ds d Q hg hx e q
  match ds, e, hx with
  | [.lst es], e, hx =>
    cases e
    obtain ⟨v, rfl, p, ys, rfl, h2, h3⟩ := hx.inv1
    refine ⟨p, ys, rfl, .inl ⟨SqL.of (of_hide h2).2, fun l hl => ?_⟩⟩
    have t : Tr g O0 st st H (upd H l (.tup ys)) := Tr.new hg hl
    exact q _ _ t ⟨l, ys, rfl, hide_of (hg.fresh hl) upd_same, HDs.mono t.same _ _ h3⟩
  | [.tup es], e, hx =>
    cases e
    obtain ⟨v, rfl, p, ys, rfl, h2, h3⟩ := hx.inv1
    exact ⟨p, ys, rfl, .inr ⟨SqT.of (of_hide h2).2, q _ _ (Tr.refl hg) ⟨p, ys, rfl, h2, h3⟩⟩⟩
/-! ### the rules of calls -/
section
variable {X : Cx} {e : Expr} {es : List Expr} {G : DEnv → M (List D)} {tl : TA} {x : Str} {id T : String} {r : List V → Hp → VK → Prop} {p pos : Pos}
theorem ev_blt {f : List D → Option D} (hc : CallR X (.builtin id) r) (ho : CallOk X.mg r f) (hm : X.mg x = none) (ha : Ea X E (e :: es) G tl) (hv : bootBuiltins x = some (.builtin id) := by decide +kernel) (hg : Gl X x := by rfl) (hn : x ≠ "__name__" := by decide) (hdb : (x == ("__debug__" : Str)) = false := by decide)
    (he : starEach (e :: es) X.env = (false, eval e X.env) :: starEach es X.env := by rfl) (hpl : (backTo pos (starEach es X.env)).any (·.1) = false := by rfl) : Ev X E (.Call (.Name x p) (e :: es) [] pos) (fBlt f G) (tCB r tl) := ⟨pe_callB hc hg hm hv ha.pa hn hdb he hpl, re_blt ho ha.ra⟩
theorem ev_bty {f : List D → Option D} (hc : CallR X (.type T) r) (ho : CallOk X.mg r f) (hm : X.mg x = none) (ha : Ea X E (e :: es) G tl) (hv : bootBuiltins x = some (.type T) := by decide +kernel) (hg : Gl X x := by rfl) (hn : x ≠ "__name__" := by decide) (hdb : (x == ("__debug__" : Str)) = false := by decide)
    (he : starEach (e :: es) X.env = (false, eval e X.env) :: starEach es X.env := by rfl) (hpl : (backTo pos (starEach es X.env)).any (·.1) = false := by rfl) : Ev X E (.Call (.Name x p) (e :: es) [] pos) (fBlt f G) (tCB r tl) := ⟨pe_callTy hc hg hm hv ha.pa hn hdb he hpl, re_blt ho ha.ra⟩
theorem ef_blt {f : List D → Option (List D)} (hc : CallR X (.builtin id) r) (ho : NewOk X.mg r f) (hm : X.mg x = none) (ha : Ea X E (e :: es) G tl) (hv : bootBuiltins x = some (.builtin id) := by decide +kernel) (hg : Gl X x := by rfl) (hn : x ≠ "__name__" := by decide) (hdb : (x == ("__debug__" : Str)) = false := by decide)
    (he : starEach (e :: es) X.env = (false, eval e X.env) :: starEach es X.env := by rfl) (hpl : (backTo pos (starEach es X.env)).any (·.1) = false := by rfl) : Ef X E (.Call (.Name x p) (e :: es) [] pos) (fIt f G) (tCB r tl) := ⟨pe_callB hc hg hm hv ha.pa hn hdb he hpl, rf_blt ho ha.ra⟩
theorem ef_bty {f : List D → Option (List D)} (hc : CallR X (.type T) r) (ho : NewOk X.mg r f) (hm : X.mg x = none) (ha : Ea X E (e :: es) G tl) (hv : bootBuiltins x = some (.type T) := by decide +kernel) (hg : Gl X x := by rfl) (hn : x ≠ "__name__" := by decide) (hdb : (x == ("__debug__" : Str)) = false := by decide)
    (he : starEach (e :: es) X.env = (false, eval e X.env) :: starEach es X.env := by rfl) (hpl : (backTo pos (starEach es X.env)).any (·.1) = false := by rfl) : Ef X E (.Call (.Name x p) (e :: es) [] pos) (fIt f G) (tCB r tl) := ⟨pe_callTy hc hg hm hv ha.pa hn hdb he hpl, rf_blt ho ha.ra⟩
/-- a built-in type's name -/
theorem ev_ty (t : Ty) {x : Str} (hm : X.mg x = none) (hv : bootBuiltins x = some (.type t.nm) := by decide +kernel) (hg : Gl X x := by rfl) (hn : x ≠ "__name__" := by decide) (hd : (x == ("__debug__" : Str)) = false := by decide) : Ev X E (.Name x pos) (fC (.ty t)) (tC (.ty t.nm)) := ⟨pe_bltn hg hm hv rfl hn hd, fun g st σ H env Q hg he h => Ans.ret_ hg h rfl⟩
/-- a module's text -/
theorem ev_gstr {x z : Str} {tk : Tok} (hm : X.mg x = some (.str z tk)) (hg : Gl X x := by rfl) (hd : (x == ("__debug__" : Str)) = false := by decide) : Ev X E (.Name x pos) (fC (.str z)) (tC (.str z)) := ⟨pe_glob hg hm ⟨tk, rfl⟩ hd, fun g st σ H env Q hg he h => Ans.ret_ hg h rfl⟩
end
/-! ### subscripts -/
def oIx : D → D → Option D
  | .lst ds, .int i => atI ds i
  | .tup ds, .int i => atI ds i
  | .str z, .int i => if z.length ≤ sizeLine then (atI z.cps.toList i).map fun c => .str ⟨#[c]⟩ else none
  | _, _ => none
theorem HDs.atI {sa : Addr} {H : Hp} {ds : List D} {xs : List V} {i : Int} {d : D} (h : HDs mg sa H ds xs) (e : L2.atI ds i = some d) : ∃ v, L2.atI xs i = some v ∧ HD mg sa H d v := by
  unfold L2.atI at e ⊢
  rw [h.length]
  cases q : ixN ds.length i with
  | none => rw [q] at e; cases e
  | some j =>
    rw [q] at e
    exact h.get e
theorem ok_ix {K : PySem.W.Frag} : OpOk mg (rIx K) oIx := by
  intro g st H x y dx dy d Q hg hx hy e q
  match dx, dy, e, hx, hy with
  | .lst ds, .int i, e, hx, hy =>
    obtain ⟨p, xs, rfl, h1, h2⟩ := hx
    obtain ⟨v, k1, k2⟩ := h2.atI e
    exact .inl ⟨p, xs, i, v, rfl, hy, SqL.of (of_hide h1).2, k1, q _ _ (Tr.refl hg) k2⟩
  | .tup ds, .int i, e, hx, hy =>
    obtain ⟨p, xs, rfl, h1, h2⟩ := hx
    obtain ⟨v, k1, k2⟩ := h2.atI e
    exact .inr (.inl ⟨p, xs, i, v, rfl, hy, SqT.of (of_hide h1).2, k1, q _ _ (Tr.refl hg) k2⟩)
  | .str z, .int i, e, hx, hy =>
    dsimp only [oIx] at e
    by_cases c : z.length ≤ sizeLine
    · rw [if_pos c] at e
      cases k : L2.atI z.cps.toList i with
      | none => rw [k] at e; cases e
      | some cc =>
        rw [k] at e
        cases e
        exact .inr (.inr ⟨z, i, cc, hx, hy, c, k, q _ _ (Tr.refl hg) rfl⟩)
    · rw [if_neg c] at e; cases e
theorem ev_ix {X : Cx} {a b : Expr} {A B : DEnv → M D} {ta tb : TE} {pos : Pos} (ha : Ev X E a A ta) (hb : Ev X E b B tb) (hs : PlainIx b := by exact fun _ _ => rfl) : Ev X E (.Subscript a b pos) (fOp oIx A B) (tOp (rIx X.K) ta tb) := ⟨pe_ix ix_seq ha.pe hb.pe hs, re_op ok_ix ha.re hb.re⟩
/-! ### slices -/
def cutD (xs : List D) (lo hi : Option Int) : List D := (xs.drop (HT.sIx xs.length 0 lo)).take (HT.sIx xs.length xs.length hi - HT.sIx xs.length 0 lo)
theorem HDs.cut {sa : Addr} {H : Hp} {ds : List D} {xs : List V} (lo hi : Option Int) (h : HDs mg sa H ds xs) : HDs mg sa H (cutD ds lo hi) (cutV xs lo hi) := by
  unfold cutD cutV
  rw [h.length]
  exact (h.drop _).take _
structure Eo (X : Cx) (E : XK) (e : Option Expr) (F : DEnv → M (Option Int)) (t : TO) : Prop where
  po : PO X e t
  ro : ∀ (g : Gx) (st : Option SS) (σ : L2.St) (H : Hp) (env : DEnv) (Q : Option Int → Hp → Prop), Good g st H → EnvOk X.mg g H σ env → Ans X.mg E (fun a b _ => b = a) g st H (F env st) (fun _ _ v H' => Q v H') → t σ H Q
def fPart (A : DEnv → M D) : DEnv → M (Option Int) := fun env => bnd (A env) fun a => match a with
  | .int i => ret (some i)
  | _ => stuck
theorem eo_none {X : Cx} : Eo X E none (fun _ => ret none) tNoPart := ⟨po_none, fun g st σ H env Q hg he h => Ans.ret_ hg h rfl⟩
theorem eo_some {X : Cx} {e : Expr} {A : DEnv → M D} {t : TE} (h : Ev X E e A t) : Eo X E (some e) (fPart A) (tPart t) := by
  refine ⟨po_some h.pe, fun g st σ H env Q hg he q => ?_⟩
  refine h.re g st σ H env _ hg he ((Ans.bnd q).imp fun d st1 v H1 t1 r1 q1 => ?_)
  cases d with
  | int i => exact ⟨i, r1, Ans.ret_ t1.good q1 rfl⟩
  | _ => exact q1.elim
def oSl : D → Option Int → Option Int → Option D
  | .lst ds, lo, hi => some (.lst (cutD ds lo hi))
  | .tup ds, lo, hi => some (.tup (cutD ds lo hi))
  | .str z, lo, hi => if z.length ≤ sizeLine then some (.str (cutS z lo hi)) else none
  | _, _, _ => none
def fSl (A : DEnv → M D) (L U : DEnv → M (Option Int)) : DEnv → M D := fun env => bnd (A env) fun a => bnd (L env) fun l => bnd (U env) fun u => ofO (oSl a l u)
abbrev rSlAll (K : PySem.W.Frag) : V → Option Int → Option Int → Hp → VK → Prop := fun x lo hi H Q => rSlL K x lo hi H Q ∨ (rSlA K x lo hi H Q ∨ rSlS x lo hi H Q)
theorem cutV_whole {xs : List V} {lo hi : Option Int} (h : HT.sIx xs.length 0 lo = 0 ∧ HT.sIx xs.length xs.length hi = xs.length) : cutV xs lo hi = xs := by
  unfold cutV
  rw [h.1, h.2, List.drop_zero, Nat.sub_zero, List.take_length]
theorem cutD_whole {xs : List D} {lo hi : Option Int} (h : HT.sIx xs.length 0 lo = 0 ∧ HT.sIx xs.length xs.length hi = xs.length) : cutD xs lo hi = xs := by
  unfold cutD
  rw [h.1, h.2, List.drop_zero, Nat.sub_zero, List.take_length]
theorem ok_sl {K : PySem.W.Frag} {g : Gx} {st : Option SS} {H : Hp} {x : V} {dx d : D} {lo hi : Option Int} {Q : VK} (hg : Good g st H) (hx : HD mg g.sa (hide g.S H) dx x) (e : oSl dx lo hi = some d) (q : ∀ v H', Tr g O0 st st H H' → HD mg g.sa (hide g.S H') d v → Q v H') : rSlAll K x lo hi H Q := by
  cases dx with
  | lst ds =>
    cases e
    obtain ⟨p, xs, rfl, h1, h2⟩ := hx
    refine .inl ⟨p, xs, rfl, SqL.of (of_hide h1).2, fun l hl => ?_⟩
    have t : Tr g O0 st st H (upd H l (.lst (cutV xs lo hi))) := Tr.new hg hl
    exact q _ _ t ⟨l, _, rfl, hide_of (hg.fresh hl) upd_same, HDs.mono t.same _ _ (h2.cut lo hi)⟩
  | tup ds =>
    cases e
    obtain ⟨p, xs, rfl, h1, h2⟩ := hx
    refine .inr (.inl ⟨p, xs, rfl, SqT.of (of_hide h1).2, fun c => ?_, fun c l hl => ?_⟩)
    · refine q _ _ (Tr.refl hg) ⟨p, xs, rfl, h1, ?_⟩
      rw [cutD_whole (by rw [← h2.length]; exact c)]
      exact h2
    · have t : Tr g O0 st st H (upd H l (.tup (cutV xs lo hi))) := Tr.new hg hl
      exact q _ _ t ⟨l, _, rfl, hide_of (hg.fresh hl) upd_same, HDs.mono t.same _ _ (h2.cut lo hi)⟩
  | str z =>
    obtain ⟨c, rfl⟩ := ite_some e
    exact .inr (.inr ⟨z, hx, c, q _ _ (Tr.refl hg) rfl⟩)
  | _ => cases e
theorem ev_sl {X : Cx} {e : Expr} {lo hi : Option Expr} {A : DEnv → M D} {L U : DEnv → M (Option Int)} {te : TE} {tl th : TO} {p2 pos : Pos} (ha : Ev X E e A te) (hl : Eo X E lo L tl) (hu : Eo X E hi U th) : Ev X E (.Subscript e (.Slice lo hi none p2) pos) (fSl A L U) (tSl (rSlAll X.K) te tl th) := by
  refine ⟨pe_slice (SlR.or sl_list (SlR.or sl_tupA sl_str)) ha.pe hl.po hu.po, ?_⟩
  intro g st σ H env Q hg he h
  refine ha.re g st σ H env _ hg he ((Ans.bnd h).imp fun dx st1 x H1 t1 hx h1 => ?_)
  refine hl.ro g st1 σ H1 env _ t1.good (he.tr t1) ((Ans.bnd h1).imp fun l st2 l' H2 t2 e2 h2 => ?_)
  cases (show l' = l from e2)
  refine hu.ro g st2 σ H2 env _ t2.good ((he.tr t1).tr t2) ((Ans.bnd h2).imp fun u st3 u' H3 t3 e3 h3 => ?_)
  cases (show u' = u from e3)
  obtain ⟨d, e, h4⟩ := h3.ofO_
  exact ok_sl t3.good (HD.mono t3.same _ _ (HD.mono t2.same _ _ hx)) e h4
end VS

/-! VS6: zip and enumerate over lists and tuples in any mix. -/
namespace VS
open PySem PySem.Spec PyProof.Rows L2
/-- a list or a tuple -/
inductive Sq where | l | t
def Sq.has (k : Sq) (K : PySem.W.Frag) (H : Hp) (a : Addr) (xs : List V) : Prop := match k with | .l => SqL K H a xs | .t => SqT K H a xs
def Sq.nx (k : Sq) (h : Heap) (c a : Addr) (i : Nat) : Prop := match k with | .l => h.IsListIter c a i | .t => h.IsTupleIter c a i
def Sq.ct (k : Sq) (h : Heap) (a : Addr) (us : Array Value) : Prop := match k with | .l => h.IsList a us | .t => h.IsTuple a us
def Sq.ob (k : Sq) (a : Addr) : Obj := { cls := .type (match k with | .l => "list_iterator" | .t => "tuple_iterator"), data := .fields #[.ref a, .int 0 0] }
theorem Sq.draws (k : Sq) {prog : Program} {w : World} {A : Around} (hh : A.handled = none) (c a : Addr) (hne : a ≠ c) (us : Array Value) :
    PySem.Draws prog w A c [c, a] us.size (fun i v => us[i]? = some v) (fun i h => k.nx h c a i ∧ k.ct h a us) := by
  cases k
  · exact .list hh c a hne us
  · exact .tuple hh c a hne us
theorem Sq.begins (k : Sq) (a : Addr) (us : Array Value) : Begins (.ref a) (k.ob a) fun h => k.ct h a us := by
  cases k
  · exact begins_list a us
  · exact begins_tuple a us
theorem Sq.nx0 (k : Sq) {h : Heap} {c a : Addr} (e : h.get? c = some (k.ob a)) : k.nx h c a 0 := by
  cases k
  · exact ⟨_, e, rfl, rfl⟩
  · exact ⟨_, e, rfl, rfl⟩
theorem Sq.nx_at {k : Sq} {h h' : Heap} {c a : Addr} {i : Nat} (x : k.nx h c a i) (e : ∀ o, h.get? c = some o → h'.get? c = some o) : k.nx h' c a i := by
  cases k
  · exact Heap.IsListIter.at x e
  · exact Heap.IsTupleIter.at x e
theorem Sq.nx_ob {k : Sq} {h : Heap} {c a : Addr} {i : Nat} (x : k.nx h c a i) : ∃ o, h.get? c = some o ∧ ∀ v, o.data ≠ .cell v := by
  cases k
  · obtain ⟨o, e, _, d⟩ := x
    exact ⟨o, e, fun v q => by rw [d] at q; cases q⟩
  · obtain ⟨o, e, _, d⟩ := x
    exact ⟨o, e, fun v q => by rw [d] at q; cases q⟩
theorem Sq.its {k : Sq} {X : Cx} {pins : List (Addr × Obj)} {σ : L2.St} {H : Hp} {s : Shared} {a : Addr} {xs : List V} (I : Inv X pins σ H s) (h : k.has X.K H a xs) : ∃ us : List Value, Vals xs us ∧ k.ct s.heap a us.toArray ∧ a < s.heap.objs.size := by
  cases k
  · obtain ⟨us, r, p, _⟩ := I.list h
    exact ⟨us, r, p.isList, p.lt⟩
  · obtain ⟨us, r, p, _⟩ := I.tuple h
    obtain ⟨o, e, _⟩ := id p
    exact ⟨us, r, p, Heap.lt_size e⟩
theorem Sq.inj {k : Sq} {X : Cx} {pins : List (Addr × Obj)} {σ : L2.St} {H : Hp} {s : Shared} {a : Addr} {xs ys : List V} (I : Inv X pins σ H s) (h : k.has X.K H a xs) (h' : k.has X.K H a ys) : xs = ys := by
  cases k
  · exact I.list_inj h h'
  · exact I.tuple_inj h h'
/-- where a pair of walks of this layer stands -/
def ItM (K : PySem.W.Frag) (k m : Sq) (a b : Addr) : It :=
  ⟨fun i H => ∃ (xs ys : List V) (x y : V), k.has K H a xs ∧ m.has K H b ys ∧ xs[i]? = some x ∧ ys[i]? = some y,
    fun i H v H' => ∃ T x y, v = .ref T ∧ H T = none ∧ H' = upd H T (.tup [x, y]) ∧ (∀ xs, k.has K H a xs → xs[i]? = some x) ∧ ∀ ys, m.has K H b ys → ys[i]? = some y,
    fun i H => ∃ xs ys : List V, k.has K H a xs ∧ m.has K H b ys ∧ i ≤ xs.length ∧ i ≤ ys.length ∧ (i = xs.length ∨ i = ys.length)⟩
theorem turn_mix {P : Program} {w : World} {K : PySem.W.Frag} {k m : Sq} {elts : List Expr} {kk : Nat} {tpos : Pos} {a b z TI TO c d : Addr} (S : ZipSep2 z TI TO c d [c, a] [d, b]) :
    Turn P w K (.Tuple elts kk tpos) (ItM K k m a b) [z, TI, TO, c, d] z (fun i h => IsZip h z TI TO .none ∧ IsTupOf2 h TI (.ref c) (.ref d) ∧ (∃ x y, IsTupOf2 h TO x y) ∧ k.nx h c a i ∧ m.nx h d b i) where
  mem := List.mem_cons_self ..
  obj := fun i h st e he => by
    obtain ⟨hz, hTI, ⟨x, y, hTO⟩, h1, h2⟩ := st
    have e' : e = z ∨ e = TI ∨ e = TO ∨ e = c ∨ e = d := by simpa using he
    rcases e' with rfl | rfl | rfl | rfl | rfl
    · exact ⟨_, hz, fun v q => nomatch q⟩
    · exact ⟨_, hTI, fun v q => nomatch q⟩
    · exact ⟨_, hTO, fun v q => nomatch q⟩
    · exact Sq.nx_ob h1
    · exact Sq.nx_ob h2
  keep := fun i h h' st kp => by
    obtain ⟨hz, hTI, ⟨x, y, hTO⟩, h1, h2⟩ := st
    exact ⟨kp z (by simp) _ hz, kp TI (by simp) _ hTI, ⟨x, y, kp TO (by simp) _ hTO⟩, Sq.nx_at h1 fun o => kp c (by simp) o, Sq.nx_at h2 fun o => kp d (by simp) o⟩
  item := by
    intro X hP hw hK hc i pins s σ H E I hf st hg
    subst hP hw hK
    obtain ⟨hz, hTI, ⟨x0, y0, hTO⟩, h1, h2⟩ := st
    obtain ⟨xs, ys, x, y, qa, qb, ex, ey⟩ := hg
    obtain ⟨us, rx, ca, la⟩ := Sq.its I qa
    obtain ⟨vs, ry, cb, lb⟩ := Sq.its I qb
    obtain ⟨u, eu, ru⟩ := rx.get ex
    obtain ⟨u2, eu2, ru2⟩ := ry.get ey
    have hh := I.ok.hd hc
    have gc : ∃ o, s.heap.get? c = some o := let ⟨o, e, _⟩ := Sq.nx_ob h1; ⟨o, e⟩
    have gd : ∃ o, s.heap.get? d = some o := let ⟨o, e, _⟩ := Sq.nx_ob h2; ⟨o, e⟩
    have ac : a ≠ c := fun e => by
      cases k
      · obtain ⟨o, p1, p2, _⟩ := ca; obtain ⟨o', q1, q2, _⟩ := h1
        rw [e, q1] at p1; cases p1; rw [p2] at q2; simp at q2
      · obtain ⟨o, p1, p2, _⟩ := ca; obtain ⟨o', q1, q2, _⟩ := h1
        rw [e, q1] at p1; cases p1; rw [p2] at q2; simp at q2
    have bd : b ≠ d := fun e => by
      cases m
      · obtain ⟨o, p1, p2, _⟩ := cb; obtain ⟨o', q1, q2, _⟩ := h2
        rw [e, q1] at p1; cases p1; rw [p2] at q2; simp at q2
      · obtain ⟨o, p1, p2, _⟩ := cb; obtain ⟨o', q1, q2, _⟩ := h2
        rw [e, q1] at p1; cases p1; rw [p2] at q2; simp at q2
    have hzl : z < s.heap.objs.size := Heap.lt_size hz
    have hi : i < us.toArray.size := by
      have := (List.getElem?_eq_some_iff.mp eu).1
      simpa using this
    have hj : i < vs.toArray.size := by
      have := (List.getElem?_eq_some_iff.mp eu2).1
      simpa using this
    refine wpAny_pyNext_zipD2_item S (Sq.draws k (A := X.A.in1) hh c a ac us.toArray) (Sq.draws m (A := X.A.in1) hh d b bd vs.toArray) hz hTI hTO ⟨h1, ca⟩ ⟨h2, cb⟩ hi hj fun x1 x2 h' tk p1 p2 z' TO' t1 t2 hT hsz hk => ?_
    have e1 : x1 = u := by
      have : us.toArray[i]? = some u := by simpa using eu
      rw [this] at p1; exact (Option.some.inj p1).symm
    have e2 : x2 = u2 := by
      have : vs.toArray[i]? = some u2 := by simpa using eu2
      rw [this] at p2; exact (Option.some.inj p2).symm
    subst e1 e2
    refine ⟨_, rfl, wpAny_letOwnedTupleGo_zip (s := { s with heap := h', toks := tk }) z' fun h'' z'' sb => ?_⟩
    have hT2 : h''.get? s.heap.objs.size = some { cls := .type "tuple", data := .seq #[x1, x2] } := (sb.2 _ (Nat.ne_of_gt hzl)).trans hT
    have new : ObjOk X.prog X.w (upd H s.heap.objs.size (.tup [x, y])) h'' s.heap.objs.size (.tup [x, y]) :=
      ⟨by show 2 ≤ sizeLine; decide, [x1, x2], .cons ru (.cons ru2 .nil), ⟨_, hT2, rfl, _, rfl⟩⟩
    have I1 : Inv X pins σ (upd H s.heap.objs.size (.tup [x, y])) { s with heap := h'', toks := tk } :=
      I.turnedNew (ch := [z, TI, TO, c, d]) (fun e o hb q => (sb.2 e (fun q' => hb (by simp [q']))).trans (hk e o (fun q' => hb (by simp [q'])) (fun q' => hb (by simp [q'])) (fun q' => hb (by simp [q'])) (fun q' => hb (by simp [q'])) q)) hf (Nat.le_refl _) new
    refine ⟨.ref s.heap.objs.size, _, I1, rfl, ⟨_, x, y, rfl, I.hok.fresh (Nat.le_refl _), rfl, fun l hl => by rw [Sq.inj I hl qa]; exact ex, fun l hl => by rw [Sq.inj I hl qb]; exact ey⟩, ⟨z'', ?_, ⟨x1, x2, ?_⟩, ?_, ?_⟩, fun e he => ?_⟩
    · exact (sb.2 _ S.TIz).trans (hk _ _ S.TIz S.TITO S.TIi1 S.TIi2 hTI)
    · exact (sb.2 _ S.TOz).trans TO'
    · exact Sq.nx_at t1.1 fun o q => (sb.2 _ (Ne.symm S.zi1)).trans q
    · exact Sq.nx_at t2.1 fun o q => (sb.2 _ (Ne.symm S.zi2)).trans q
    · have hlt : e < s.heap.objs.size := by
        have e' : e = z ∨ e = TI ∨ e = TO ∨ e = c ∨ e = d := by simpa using he
        rcases e' with rfl | rfl | rfl | rfl | rfl
        · exact hzl
        · exact Heap.lt_size hTI
        · exact Heap.lt_size hTO
        · obtain ⟨_, q⟩ := gc; exact Heap.lt_size q
        · obtain ⟨_, q⟩ := gd; exact Heap.lt_size q
      rw [upd_ne (Nat.ne_of_lt hlt)]
      exact (hf e he).1
  done := by
    intro X hP hw hK hc i pins s σ H E I hf st hg
    subst hP hw hK
    obtain ⟨hz, hTI, ⟨x0, y0, hTO⟩, h1, h2⟩ := st
    obtain ⟨xs, ys, qa, qb, l1, l2, hend⟩ := hg
    obtain ⟨us, rx, ca, la⟩ := Sq.its I qa
    obtain ⟨vs, ry, cb, lb⟩ := Sq.its I qb
    have e1 := rx.length
    have e2 := ry.length
    have hh := I.ok.hd hc
    have ac : a ≠ c := fun e => by
      cases k
      · obtain ⟨o, p1, p2, _⟩ := ca; obtain ⟨o', q1, q2, _⟩ := h1
        rw [e, q1] at p1; cases p1; rw [p2] at q2; simp at q2
      · obtain ⟨o, p1, p2, _⟩ := ca; obtain ⟨o', q1, q2, _⟩ := h1
        rw [e, q1] at p1; cases p1; rw [p2] at q2; simp at q2
    have bd : b ≠ d := fun e => by
      cases m
      · obtain ⟨o, p1, p2, _⟩ := cb; obtain ⟨o', q1, q2, _⟩ := h2
        rw [e, q1] at p1; cases p1; rw [p2] at q2; simp at q2
      · obtain ⟨o, p1, p2, _⟩ := cb; obtain ⟨o', q1, q2, _⟩ := h2
        rw [e, q1] at p1; cases p1; rw [p2] at q2; simp at q2
    refine wpAny_pyNext_zipD2_end S (Sq.draws k (A := X.A.in1) hh c a ac us.toArray) (Sq.draws m (A := X.A.in1) hh d b bd vs.toArray) hz hTI hTO (i := i) ⟨h1, ca⟩ ⟨h2, cb⟩ (by simp; omega) (by simp; omega) (by simp; omega) fun h' tk hk => ⟨rfl, ?_⟩
    exact I.turnedL (t' := tk) (ch := [z, TI, TO, c, d]) (fun e o hb q => hk e o (fun q' => hb (by simp [q'])) (fun q' => hb (by simp [q'])) (fun q' => hb (by simp [q'])) (fun q' => hb (by simp [q'])) q) hf
  self := fun A i s Q E st h => wpAny_pyIter_zip st.1 h
def iMix (K : PySem.W.Frag) (k m : Sq) (ta : TA) : TI := fun σ H R => ta σ H fun vs H1 => ∃ a b xs ys, vs = [.ref a, .ref b] ∧ k.has K H1 a xs ∧ m.has K H1 b ys ∧ R (ItM K k m a b) H1
theorem pi_mix {X : Cx} {k m : Sq} {e e2 : Expr} {ta : TA} {p pos tpos : Pos} {elts : List Expr} {kk : Nat} (hg : Gl X "zip") (hm : X.mg "zip" = none) (ha : PA X [e, e2] ta)
    (hs : starEach [e, e2] X.env = (false, eval e X.env) :: starEach [e2] X.env := by rfl) (hpl : (backTo pos (starEach [e2] X.env)).any (·.1) = false := by rfl) :
    PI X (.Tuple elts kk tpos) (.Call (.Name "zip" p) [e, e2] [] pos) (iMix X.K k m ta) := by
  refine ⟨fun pins s σ H R I h => ?_⟩
  refine Call_ (ld_blt I hg hm PyProof.Rows.boot_zip (PyProof.Rows.callWith_type1 (thn (ha.run pos pins s σ H _ I h) fun us s1 ⟨vs, H1, I1, r1, q1⟩ => ?_) hs hpl))
  obtain ⟨a, b, xs, ys, rfl, qa, qb, q⟩ := q1
  obtain ⟨u, u2, rfl, r1, r2⟩ : ∃ u u2, us = [u, u2] ∧ RelV (.ref a) u ∧ RelV (.ref b) u2 := by
    cases r1 with
    | cons r rr =>
      cases rr with
      | cons r' rr =>
        cases rr
        exact ⟨_, _, rfl, r, r'⟩
  cases r1
  cases r2
  obtain ⟨us, rx, ca, la⟩ := Sq.its I1 qa
  obtain ⟨vs, ry, cb, lb⟩ := Sq.its I1 qb
  refine zip_begins2 (Sq.begins k a us.toArray) (Sq.begins m b vs.toArray) ca cb fun h' hz hTI hTO h1 h2 hsz hk => wpAny_pyIter_zip hz ?_
  have I2 : Inv X pins σ H1 { s1 with heap := h' } := I1.kept (t' := s1.toks) hk
  refine ⟨s1.heap.objs.size + 4, [s1.heap.objs.size + 4, s1.heap.objs.size + 2, s1.heap.objs.size + 3, s1.heap.objs.size, s1.heap.objs.size + 1], _, _, H1, rfl, I2,
    turn_mix (zip_sep2 (fp1 := [a]) (fp2 := [b]) (by simpa using la) (by simpa using lb)), ⟨hz, hTI, ⟨_, _, hTO⟩, Sq.nx0 k h1, Sq.nx0 m h2⟩, fun c hc => ?_, q⟩
  have hle : s1.heap.objs.size ≤ c := by
    have e' : c = s1.heap.objs.size + 4 ∨ c = s1.heap.objs.size + 2 ∨ c = s1.heap.objs.size + 3 ∨ c = s1.heap.objs.size ∨ c = s1.heap.objs.size + 1 := by simpa using hc
    rcases e' with e' | e' | e' | e' | e' <;> rw [e'] <;> first | exact Nat.le_refl _ | exact Nat.le_add_right _ _
  exact I1.fpOk hle (I1.hok.fresh hle)
theorem Sq.of_hide {k : Sq} {K : PySem.W.Frag} {mg : Str → Option Value} {sa : Addr} {S : Addr → Prop} {H : Hp} {a : Addr} {xs : List V} (h : hide S H a = some (match k with | .l => HO.lst xs | .t => HO.tup xs)) : k.has K H a xs := by
  cases k
  · exact SqL.of (VS.of_hide h).2
  · exact SqT.of (VS.of_hide h).2
theorem walk_mix {K : PySem.W.Frag} {k m : Sq} {a b : Addr} {xs ys : List V} {n : Nat} (hn : n = min xs.length ys.length) : Walk (ItM K k m a b) n (fun H => k.has K H a xs ∧ m.has K H b ys) (YPair (fun i => xs[i]?) (fun i => ys[i]?)) := by
  subst hn
  refine ⟨fun i H hi q => ?_, fun H q => ⟨xs, ys, q.1, q.2, by omega, by omega, by omega⟩, fun i H v H' hi q y => ?_⟩
  · have h1 : i < xs.length := by omega
    have h2 : i < ys.length := by omega
    exact ⟨xs, ys, xs[i], ys[i], q.1, q.2, List.getElem?_eq_getElem h1, List.getElem?_eq_getElem h2⟩
  · obtain ⟨T, x, z, h1, h2, h3, h4, h5⟩ := y
    exact ⟨T, x, z, h1, h2, h3, h4 xs q.1, h5 ys q.2⟩
def zipD : List D → Option (List D)
  | [a, b] => a.seq.bind fun xs => b.seq.map fun ys => List.zipWith (fun x y => D.tup [x, y]) xs ys
  | _ => none
/-- the kind of a sequence, its address and values -/
theorem HD.sq {mg : Str → Option Value} {sa : Addr} {H : Hp} {d : D} {ds : List D} {v : V} (h : HD mg sa H d v) (e : d.seq = some ds) :
    ∃ (k : Sq) (a : Addr) (xs : List V), v = .ref a ∧ H a = some (match k with | .l => HO.lst xs | .t => HO.tup xs) ∧ HDs mg sa H ds xs ∧ (k = .t ↔ ∃ z, d = .tup z) := by
  cases d with
  | lst l =>
    cases e
    obtain ⟨a, xs, rfl, h1, h2⟩ := h
    exact ⟨.l, a, xs, rfl, h1, h2, ⟨(nomatch ·), fun ⟨z, q⟩ => nomatch q⟩⟩
  | tup l =>
    cases e
    obtain ⟨a, xs, rfl, h1, h2⟩ := h
    exact ⟨.t, a, xs, rfl, h1, h2, ⟨fun _ => ⟨_, rfl⟩, fun _ => rfl⟩⟩
  | _ => cases e
open Classical in
theorem Sq.eq_of {k : Sq} {p : Prop} (h : k = .t ↔ p) : k = if p then .t else .l := by
  by_cases q : p
  · rw [if_pos q, h.mpr q]
  · rw [if_neg q]
    cases k
    · rfl
    · exact absurd (h.mp rfl) q
theorem wd_mix {sa : Addr} {G0 : Hp} {K : PySem.W.Frag} {k m : Sq} {a b : Addr} {xs ys : List V} {ds es : List D} (h1 : G0 a = some (match k with | .l => HO.lst xs | .t => HO.tup xs)) (h2 : G0 b = some (match m with | .l => HO.lst ys | .t => HO.tup ys))
    (hd : HDs mg sa G0 ds xs) (he : HDs mg sa G0 es ys) : WD mg sa G0 (ItM K k m a b) (List.zipWith (fun x y => D.tup [x, y]) ds es) := by
  have l1 := hd.length
  have l2 := he.length
  refine wd_pair (walk_mix (xs := xs) (ys := ys) rfl) (dx := fun i => ds.getD i .non) (dy := fun i => es.getD i .non) (by rw [List.length_zipWith, l1, l2]) (fun i hi => ?_) (fun H S s => ⟨Sq.of_hide (mg := mg) (sa := sa) (s _ _ h1), Sq.of_hide (mg := mg) (sa := sa) (s _ _ h2)⟩) (fun i x hi e => ?_) (fun i x hi e => ?_)
  · have i1 : i < ds.length := by omega
    have i2 : i < es.length := by omega
    simp [List.getElem?_zipWith, i1, i2]
  · obtain ⟨d, e1, e2⟩ := hd.getV e
    rw [List.getD_eq_getElem?_getD, e1]
    exact e2
  · obtain ⟨d, e1, e2⟩ := he.getV e
    rw [List.getD_eq_getElem?_getD, e1]
    exact e2
theorem ei_zip {X : Cx} {e e2 : Expr} {A : DEnv → M (List D)} {t : TA} {p pos tpos : Pos} {elts : List Expr} {kk : Nat} (hm : X.mg "zip" = none) (h : Ea X E [e, e2] A t) (hg : Gl X "zip" := by rfl)
    (hs : starEach [e, e2] X.env = (false, eval e X.env) :: starEach [e2] X.env := by rfl) (hpl : (backTo pos (starEach [e2] X.env)).any (·.1) = false := by rfl) :
    Ei X E (.Tuple elts kk tpos) (.Call (.Name "zip" p) [e, e2] [] pos) (fIt zipD A) (fun σ H R => ∃ k m, iMix X.K k m t σ H R) := by
  classical
  refine ⟨⟨fun pins s σ H R I q => let ⟨k, m, q⟩ := q; (pi_mix hg hm h.pa hs hpl).run pins s σ H R I q⟩, fun g st σ H env R hgd he q => ?_⟩
  refine ⟨if (∃ z r st', A env st = some (.ok (.tup z :: r), st')) then .t else .l, if (∃ x z st', A env st = some (.ok [x, .tup z], st')) then .t else .l, ?_⟩
  refine h.ra g st σ H env _ hgd he ((Ans.bnd q).impE fun d st1 v H1 ee t1 r1 q1 => ?_)
  obtain ⟨ds, e1, q2⟩ := q1.ofO_
  match d, ee, e1, r1 with
  | [x, y], ee, e1, r1 =>
    obtain ⟨u, w, rfl, h1, h2⟩ := r1.inv2
    simp only [zipD] at e1
    obtain ⟨xs, ex, e1⟩ := Option.bind_eq_some_iff.mp e1
    obtain ⟨ys, ey, e1⟩ := Option.map_eq_some_iff.mp e1
    subst e1
    obtain ⟨k, a, us, rfl, k1, k2, k3⟩ := h1.sq ex
    obtain ⟨m, b, ws, rfl, m1, m2, m3⟩ := h2.sq ey
    have ek : k = if (∃ z r st', A env st = some (.ok (.tup z :: r), st')) then .t else .l := Sq.eq_of (k3.trans ⟨fun ⟨z, q⟩ => ⟨z, _, _, by rw [ee, q]⟩, fun ⟨z, r, s', q⟩ => by rw [ee] at q; cases q; exact ⟨_, rfl⟩⟩)
    have em : m = if (∃ x z st', A env st = some (.ok [x, .tup z], st')) then .t else .l := Sq.eq_of (m3.trans ⟨fun ⟨z, q⟩ => ⟨_, z, _, by rw [ee, q]⟩, fun ⟨r, z, s', q⟩ => by rw [ee] at q; cases q; exact ⟨_, rfl⟩⟩)
    rw [← ek, ← em]
    exact ⟨a, b, us, ws, rfl, Sq.of_hide (mg := X.mg) (sa := g.sa) k1, Sq.of_hide (mg := X.mg) (sa := g.sa) m1, q2 _ _ (Tr.refl t1.good) (wd_mix k1 m1 k2 m2)⟩
  | [], _, e1, _ => cases e1
  | [_], _, e1, _ => cases e1
  | _ :: _ :: _ :: _, _, e1, _ => cases e1
/-! ### enumerate -/
def ItN (K : PySem.W.Frag) (k : Sq) (a : Addr) : It :=
  ⟨fun i H => ∃ (xs : List V) (x : V), k.has K H a xs ∧ xs[i]? = some x,
    fun i H v H' => ∃ T x, v = .ref T ∧ H T = none ∧ H' = upd H T (.tup [.int (i : Nat), x]) ∧ ∀ xs, k.has K H a xs → xs[i]? = some x,
    fun i H => ∃ xs : List V, k.has K H a xs ∧ i = xs.length⟩
theorem Sq.ne {k : Sq} {h : Heap} {a c : Addr} {i : Nat} {us : Array Value} (ca : k.ct h a us) (h1 : k.nx h c a i) : a ≠ c := fun e => by
  cases k
  · obtain ⟨o, p1, p2, _⟩ := ca; obtain ⟨o', q1, q2, _⟩ := h1
    rw [e, q1] at p1; cases p1; rw [p2] at q2; simp at q2
  · obtain ⟨o, p1, p2, _⟩ := ca; obtain ⟨o', q1, q2, _⟩ := h1
    rw [e, q1] at p1; cases p1; rw [p2] at q2; simp at q2
theorem turn_enumM {P : Program} {w : World} {K : PySem.W.Frag} {k : Sq} {elts : List Expr} {kk : Nat} {tpos : Pos} {a z c : Addr} (zc : z ≠ c) (za : z ≠ a) :
    Turn P w K (.Tuple elts kk tpos) (ItN K k a) [z, c] z (fun i h => (∃ old, IsEnum h z c ((i : Nat) : Int) old) ∧ k.nx h c a i) where
  mem := List.mem_cons_self ..
  obj := fun i h st e he => by
    obtain ⟨⟨old, hz⟩, h1⟩ := st
    have e' : e = z ∨ e = c := by simpa using he
    rcases e' with rfl | rfl
    · exact ⟨_, hz, fun v q => nomatch q⟩
    · exact Sq.nx_ob h1
  keep := fun i h h' st kp => by
    obtain ⟨⟨old, hz⟩, h1⟩ := st
    exact ⟨⟨old, kp z (by simp) _ hz⟩, Sq.nx_at h1 fun o => kp c (by simp) o⟩
  item := by
    intro X hP hw hK hc i pins s σ H E I hf st hg
    subst hP hw hK
    obtain ⟨⟨old, hz⟩, h1⟩ := st
    obtain ⟨xs, x, qa, ex⟩ := hg
    obtain ⟨us, rx, ca, la⟩ := Sq.its I qa
    obtain ⟨u, eu, ru⟩ := rx.get ex
    have hh := I.ok.hd hc
    have gc : ∃ o, s.heap.get? c = some o := let ⟨o, e, _⟩ := Sq.nx_ob h1; ⟨o, e⟩
    have ac : a ≠ c := Sq.ne ca h1
    have hzl : z < s.heap.objs.size := Heap.lt_size hz
    have hi : i < us.toArray.size := by
      have := (List.getElem?_eq_some_iff.mp eu).1
      simpa using this
    refine wpAny_pyNext_enum_itemD (Sq.draws k (A := X.A.in1) hh c a ac us.toArray) hz ⟨h1, ca⟩ hi zc (by simp [zc, za]) fun x1 h' tk p1 ho t1 hT hsz hk => ?_
    have e1 : x1 = u := by
      have : us.toArray[i]? = some u := by simpa using eu
      rw [this] at p1; exact (Option.some.inj p1).symm
    subst e1
    refine ⟨_, rfl, wpAny_letOwnedTupleGo_enum (s := { s with heap := h', toks := tk + 1 }) ho fun h'' z'' sb => ?_⟩
    have hT2 : h''.get? s.heap.objs.size = some { cls := .type "tuple", data := .seq #[.int i tk, x1] } := (sb.2 _ (Nat.ne_of_gt hzl)).trans hT
    have new : ObjOk X.prog X.w (upd H s.heap.objs.size (.tup [.int (i : Nat), x])) h'' s.heap.objs.size (.tup [.int (i : Nat), x]) :=
      ⟨by show 2 ≤ sizeLine; decide, [.int i tk, x1], .cons ⟨_, rfl⟩ (.cons ru .nil), ⟨_, hT2, rfl, _, rfl⟩⟩
    have I1 : Inv X pins σ (upd H s.heap.objs.size (.tup [.int (i : Nat), x])) { s with heap := h'', toks := tk + 1 } :=
      I.turnedNew (ch := [z, c]) (fun e o hb q => (sb.2 e (fun q' => hb (by simp [q']))).trans (hk e o (fun q' => hb (by simp [q'])) (fun q' => hb (by simp [q'])) q)) hf (Nat.le_refl _) new
    refine ⟨.ref s.heap.objs.size, _, I1, rfl, ⟨_, x, rfl, I.hok.fresh (Nat.le_refl _), rfl, fun l hl => by rw [Sq.inj I hl qa]; exact ex⟩, ⟨⟨x1, ?_⟩, Sq.nx_at t1.1 fun o q => (sb.2 _ (Ne.symm zc)).trans q⟩, fun e he => ?_⟩
    · have e1 : ((i + 1 : Nat) : Int) = (i : Int) + 1 := by omega
      rw [e1]; exact z''
    · have hlt : e < s.heap.objs.size := by
        have e' : e = z ∨ e = c := by simpa using he
        rcases e' with rfl | rfl
        · exact hzl
        · obtain ⟨_, q⟩ := gc; exact Heap.lt_size q
      rw [upd_ne (Nat.ne_of_lt hlt)]
      exact (hf e he).1
  done := by
    intro X hP hw hK hc i pins s σ H E I hf st hg
    subst hP hw hK
    obtain ⟨⟨old, hz⟩, h1⟩ := st
    obtain ⟨xs, qa, ei⟩ := hg
    obtain ⟨us, rx, ca, la⟩ := Sq.its I qa
    have e1 := rx.length
    have hh := I.ok.hd hc
    have ac : a ≠ c := Sq.ne ca h1
    have hs : i = us.toArray.size := by simp; omega
    subst hs
    refine wpAny_pyNext_enum_endD (Sq.draws k (A := X.A.in1) hh c a ac us.toArray) hz ⟨h1, ca⟩ fun h' hk => ⟨rfl, ?_⟩
    exact I.turnedL (t' := s.toks) (ch := [z, c]) (fun e o hb q => hk e o (fun q' => hb (by simp [q'])) q) hf
  self := fun A i s Q E st h => let ⟨⟨_, he⟩, _⟩ := st; wpAny_pyIter_enum he h
theorem meets_enum1 {v : Value} {o : Obj} {Hq : Heap → Prop} (B : Begins v o Hq) :
    Meets (Builtin.«enumerate.__new__» ⟨[.type "enumerate", v], []⟩) (fun _ R s => Hq s.heap ∧
      R (.ok (.ret (.ref (s.heap.push o).objs.size))) { s with heap := (s.heap.push o).push { cls := .type "enumerate", data := .fields #[.none, .bool false, .ref s.heap.objs.size, rawInt 0, .none, .none] } }) :=
  .of_wp fun prog w A R s h => by
    obtain ⟨hp, g, d, tk, os⟩ := s
    obtain ⟨h1, h⟩ := h
    have hsub := sub_enumerate
    have go : ∀ {A' : Around} {E : Value → Shared → Prop} {Q : Value → Shared → Prop}, Q (.ref hp.objs.size) ⟨hp.push o, g, d, tk, os⟩ → wpAny (model prog w) A' (pyIter v) Q E ⟨hp, g, d, tk, os⟩ :=
      fun q => B.iter prog w _ _ ⟨hp, g, d, tk, os⟩ _ h1 q
    wp_walk using go
    refine wpAny_stack_any fun _ => wpAny_pure ?_
    split
    · rename_i cl _ _ _ _ _
      cases (cl == Value.type "enumerate") <;> (wp_walk using go; exact ⟨_, rfl, h⟩)
    · wp_walk using go
      exact ⟨_, rfl, h⟩
theorem enum_begins1 {prog : Program} {w : World} {A : Around} {E : Value → Shared → Prop} {s : Shared} {v : Value} {o : Obj} {Hq : Heap → Prop} {Q : Value → Shared → Prop} (B : Begins v o Hq) (h1 : Hq s.heap)
    (h : ∀ h', IsEnum h' (s.heap.objs.size + 1) s.heap.objs.size 0 .none → h'.get? s.heap.objs.size = some o → h'.objs.size = s.heap.objs.size + 2 →
      (∀ b o, s.heap.get? b = some o → h'.get? b = some o) → Q (.ref (s.heap.objs.size + 1)) { s with heap := h' }) :
    wpAny (model prog w) A (call (.type "enumerate") [v]) Q E s := by
  refine callType_new F.called_enumerate (by decide) (F.typeCall_enumerate_1 _) (F.newCall_enumerate_1 _) (fun obj => F.args_object_init_2 obj _) F.entry_enumerate_new (meets_enum1 B) ⟨h1, ?_⟩
  have hz : (s.heap.push o).objs.size = s.heap.objs.size + 1 := Heap.size_push ..
  show _ ∧ _
  rw [hz]
  have q := Heap.get?_push_size (s.heap.push o) (o := { cls := .type "enumerate", data := .fields #[.none, .bool false, .ref s.heap.objs.size, rawInt 0, .none, .none] }) rfl
  rw [hz] at q
  exact ⟨⟨_, q, rfl⟩, h _ q (Heap.get?_push_of_some _ (Heap.get?_push_size _ B.free)) (by rw [Heap.size_push, hz]) fun b o x => Heap.get?_push_of_some _ (Heap.get?_push_of_some _ x)⟩
def iEnM (K : PySem.W.Frag) (k : Sq) (ta : TA) : TI := fun σ H R => ta σ H fun vs H1 => ∃ a xs, vs = [.ref a] ∧ k.has K H1 a xs ∧ R (ItN K k a) H1
theorem pi_enumM {X : Cx} {k : Sq} {e : Expr} {ta : TA} {p pos tpos : Pos} {elts : List Expr} {kk : Nat} (hg : Gl X "enumerate") (hm : X.mg "enumerate" = none) (ha : PA X [e] ta) (hs : starEach [e] X.env = [(false, eval e X.env)] := by rfl) :
    PI X (.Tuple elts kk tpos) (.Call (.Name "enumerate" p) [e] [] pos) (iEnM X.K k ta) := by
  refine ⟨fun pins s σ H R I h => ?_⟩
  refine Call_ (ld_blt I hg hm boot_enumerate (PyProof.Rows.callWith_type1 (thn (ha.run pos pins s σ H _ I h) fun us s1 ⟨vs, H1, I1, r1, q1⟩ => ?_) hs rfl))
  obtain ⟨a, xs, rfl, qa, q⟩ := q1
  obtain ⟨u, rfl, r⟩ := vals1 r1
  cases r
  obtain ⟨us, rx, ca, la⟩ := Sq.its I1 qa
  refine enum_begins1 (Sq.begins k a us.toArray) ca fun h' hz h1 hsz hk => wpAny_pyIter_enum hz ?_
  have I2 : Inv X pins σ H1 { s1 with heap := h' } := I1.kept (t' := s1.toks) hk
  refine ⟨s1.heap.objs.size + 1, [s1.heap.objs.size + 1, s1.heap.objs.size], _, _, H1, rfl, I2, turn_enumM (a := a) (Nat.succ_ne_self _) (fun e => ?_), ⟨⟨_, hz⟩, Sq.nx0 k h1⟩, fun c hc => ?_, q⟩
  · rw [← e] at la
    exact absurd la (Nat.not_lt.mpr (Nat.le_add_right _ _))
  have hle : s1.heap.objs.size ≤ c := by
    have e' : c = s1.heap.objs.size + 1 ∨ c = s1.heap.objs.size := by simpa using hc
    rcases e' with e' | e' <;> rw [e'] <;> first | exact Nat.le_refl _ | exact Nat.le_add_right _ _
  exact I1.fpOk hle (I1.hok.fresh hle)
theorem walk_enumM {K : PySem.W.Frag} {k : Sq} {a : Addr} {xs : List V} : Walk (ItN K k a) xs.length (fun H => k.has K H a xs) (YPair (fun i => some (.int (i : Nat))) (fun i => xs[i]?)) := by
  refine ⟨fun i H hi q => ⟨xs, xs[i], q, List.getElem?_eq_getElem hi⟩, fun H q => ⟨xs, q, rfl⟩, fun i H v H' hi q y => ?_⟩
  obtain ⟨T, x, h1, h2, h3, h4⟩ := y
  exact ⟨T, .int (i : Nat), x, h1, h2, h3, rfl, h4 xs q⟩
def pairAt (i : Nat) (x : D) : D := .tup [.int (i : Nat), x]
def enumD : List D → Option (List D)
  | [a] => a.seq.map fun xs => List.zipWith pairAt (List.range xs.length) xs
  | _ => none
theorem wd_enumM {sa : Addr} {G0 : Hp} {K : PySem.W.Frag} {k : Sq} {a : Addr} {xs : List V} {ds : List D} (h1 : G0 a = some (match k with | .l => HO.lst xs | .t => HO.tup xs)) (hd : HDs mg sa G0 ds xs) :
    WD mg sa G0 (ItN K k a) (List.zipWith pairAt (List.range ds.length) ds) := by
  have l1 := hd.length
  refine wd_pair (walk_enumM (xs := xs)) (dx := fun i => .int (i : Nat)) (dy := fun i => ds.getD i .non) (by rw [List.length_zipWith, List.length_range, l1]; omega) (fun i hi => ?_) (fun H S s => Sq.of_hide (mg := mg) (sa := sa) (s _ _ h1)) (fun i x hi e => ?_) (fun i x hi e => ?_)
  · have i1 : i < ds.length := by omega
    simp [List.getElem?_zipWith, i1, pairAt]
  · cases e
    exact rfl
  · obtain ⟨d, e1, e2⟩ := hd.getV e
    rw [List.getD_eq_getElem?_getD, e1]
    exact e2
theorem ei_enum {X : Cx} {e : Expr} {A : DEnv → M (List D)} {t : TA} {p pos tpos : Pos} {elts : List Expr} {kk : Nat} (hm : X.mg "enumerate" = none) (h : Ea X E [e] A t) (hg : Gl X "enumerate" := by rfl)
    (hs : starEach [e] X.env = [(false, eval e X.env)] := by rfl) : Ei X E (.Tuple elts kk tpos) (.Call (.Name "enumerate" p) [e] [] pos) (fIt enumD A) (fun σ H R => ∃ k, iEnM X.K k t σ H R) := by
  classical
  refine ⟨⟨fun pins s σ H R I q => let ⟨k, q⟩ := q; (pi_enumM hg hm h.pa hs).run pins s σ H R I q⟩, fun g st σ H env R hgd he q => ?_⟩
  refine ⟨if (∃ z r st', A env st = some (.ok (.tup z :: r), st')) then .t else .l, ?_⟩
  refine h.ra g st σ H env _ hgd he ((Ans.bnd q).impE fun d st1 v H1 ee t1 r1 q1 => ?_)
  obtain ⟨ds, e1, q2⟩ := q1.ofO_
  match d, ee, e1, r1 with
  | [x], ee, e1, r1 =>
    obtain ⟨u, rfl, h1⟩ := r1.inv1
    obtain ⟨xs, ex, e1⟩ := Option.map_eq_some_iff.mp e1
    subst e1
    obtain ⟨k, a, us, rfl, k1, k2, k3⟩ := h1.sq ex
    have ek : k = if (∃ z r st', A env st = some (.ok (.tup z :: r), st')) then .t else .l := Sq.eq_of (k3.trans ⟨fun ⟨z, q⟩ => ⟨z, _, _, by rw [ee, q]⟩, fun ⟨z, r, s', q⟩ => by rw [ee] at q; cases q; exact ⟨_, rfl⟩⟩)
    rw [← ek]
    exact ⟨a, us, rfl, Sq.of_hide (mg := X.mg) (sa := g.sa) k1, q2 _ _ (Tr.refl t1.good) (wd_enumM k1 k2)⟩
  | [], _, e1, _ => cases e1
  | _ :: _ :: _, _, e1, _ => cases e1
end VS

/-! VS7: join, sorted, calls by keywords, several assigned at once, stores into own lists. -/
namespace VS
open PySem PySem.Spec PyProof.Rows L2
variable {mg : Str → Option Value} {E : XK}
/-! ### join -/
def oJoin : D → D → Option D
  | .str a, .lst ds => (strs' ds).bind fun ys => if (ys.map (·.length)).sum + ys.length * a.length ≤ 16777216 then some (.str (Txt.join a ys)) else none
  | _, _ => none
def fJoin (A B : DEnv → M D) : DEnv → M D := fun env => bnd (A env) fun a => match a with | .str _ => bnd (B env) fun b => ofO (oJoin a b) | _ => stuck
theorem re_join {to te : TE} {K : PySem.W.Frag} {A B : DEnv → M D} (ha : RE mg E to A) (hb : RE mg E te B) :
    RE mg E (tM1 (fun x xs H Q => ∃ a p, ∃ ys : List Str, x = .str a ∧ xs = [.ref p] ∧ (SqL K H p (ys.map V.str) ∨ SqT K H p (ys.map V.str)) ∧ (ys.map (·.length)).sum + ys.length * a.length ≤ 16777216 ∧ Q (.str (Txt.join a ys)) H) to te)
      (fJoin A B) := by
  intro g st σ H env Q hg he h
  refine ha g st σ H env _ hg he ((Ans.bnd (f := fun a => match a with | .str _ => bnd (B env) fun b => ofO (oJoin a b) | _ => stuck) h).imp fun da st1 v H1 t1 r q => ?_)
  cases da with
  | str a =>
    obtain rfl : v = .str a := r
    refine ⟨⟨a, rfl⟩, ?_⟩
    refine hb g st1 σ H1 env _ t1.good (he.tr t1) ((Ans.bnd q).imp fun db st2 y H2 t2 r2 q2 => ?_)
    obtain ⟨d, e, q3⟩ := q2.ofO_
    match db, e, r2 with
    | .lst ds, e, r2 =>
      obtain ⟨p, xs, rfl, h1, h2⟩ := r2
      dsimp only [oJoin] at e
      obtain ⟨ys, ey, e⟩ := Option.bind_eq_some_iff.mp e
      obtain ⟨c, rfl⟩ := ite_some e
      rw [strs_eq ey] at h2
      rw [HDs.strs.mp h2] at h1
      exact ⟨a, p, ys, rfl, rfl, .inl (SqL.of (of_hide h1).2), c, q3 _ _ (Tr.refl t2.good) rfl⟩
  | _ => exact q.elim
theorem ev_join {X : Cx} {o e : Expr} {A B : DEnv → M D} {to te : TE} {apos pos : Pos} (ha : Ev X E o A to) (hb : Ev X E e B te) (hs : starEach [e] X.env = [(false, eval e X.env)] := by rfl) (hbase : attributeBase o "join" X.env (eval o X.env) = eval o X.env := by rfl) (hline : (apos.endLine == pos.line) = true := by rfl) :
    Ev X E (.Call (.Attribute o "join" apos) [e] [] pos) (fJoin A B) (tM1 (fun x xs H Q => ∃ a p, ∃ ys : List Str, x = .str a ∧ xs = [.ref p] ∧ (SqL X.K H p (ys.map V.str) ∨ SqT X.K H p (ys.map V.str)) ∧ (ys.map (·.length)).sum + ys.length * a.length ≤ 16777216 ∧ Q (.str (Txt.join a ys)) H) to te) := ⟨pe_join ha.pe hb.pe hs hbase hline, re_join ha.re hb.re⟩
/-! ### sorted, of texts -/
def leS (a b : Str) : Bool := !ltCps b.cps.toList a.cps.toList
def sortS (xs : List Str) : List Str := xs.mergeSort leS
theorem leS_iff {a b : Str} : leS a b = true ↔ a.cps.toList ≤ b.cps.toList := by
  unfold leS
  rw [ltCps_eq]
  simp
theorem leS_antisymm {a b : Str} (h1 : leS a b = true) (h2 : leS b a = true) : a = b := by
  have e := List.le_antisymm (leS_iff.mp h1) (leS_iff.mp h2)
  cases a; cases b
  congr
  exact Array.toList_inj.mp e
theorem leS_trans {a b c : Str} (h1 : leS a b = true) (h2 : leS b c = true) : leS a c = true := leS_iff.mpr (List.le_trans (leS_iff.mp h1) (leS_iff.mp h2))
theorem leS_total (a b : Str) : (leS a b || leS b a) = true := by
  rcases List.le_total (l₁ := a.cps.toList) (l₂ := b.cps.toList) with h | h
  · rw [leS_iff.mpr h]; rfl
  · rw [leS_iff.mpr h]; simp
theorem risingS_pw : ∀ (l : List Str) (p : Str), risingS p l = true → (p :: l).Pairwise (fun a b => leS a b = true)
  | [], p, _ => by simp
  | x :: r, p, h => by
    unfold risingS at h
    simp only [Bool.and_eq_true] at h
    have ih := risingS_pw r x h.2
    have px : leS p x = true := h.1
    refine List.Pairwise.cons (fun y hy => ?_) ih
    rcases List.mem_cons.mp hy with rfl | hy
    · exact px
    · exact leS_trans px ((List.pairwise_cons.mp ih).1 y hy)
theorem sortedS_pw {l : List Str} (h : sortedS l = true) : l.Pairwise (fun a b => leS a b = true) := by
  cases l with
  | nil => simp
  | cons x r => exact risingS_pw r x h
theorem sortS_eq {xs ys : List Str} (h : ys.Perm xs) (hs : sortedS ys = true) : ys = sortS xs := by
  refine List.Perm.eq_of_pairwise (le := fun a b => leS a b = true) (fun a b _ _ h1 h2 => leS_antisymm h1 h2) (sortedS_pw hs) ?_ (h.trans (List.mergeSort_perm xs leS).symm)
  exact List.pairwise_mergeSort (le := leS) (by intro a b c h1 h2; exact leS_trans h1 h2) (by intro a b; exact leS_total a b) xs
theorem ok_sortedS {K : PySem.W.Frag} : NewOk mg (rSortedS K) (one fun d => match d with | .lst ds => (strs' ds).bind fun ys => if ys.length < 64 then some ((sortS ys).map D.str) else none | _ => none) := by
  intro g st H xs ds es Q hg hx e q
  obtain ⟨d, rfl, e2⟩ := one_inv e
  obtain ⟨v, rfl, h⟩ := hx.inv1
  match d, e2, h with
  | .lst ds, e2, h =>
    obtain ⟨ys, ey, e3⟩ := Option.bind_eq_some_iff.mp e2
    obtain ⟨c, rfl⟩ := ite_some e3
    obtain ⟨p, vs, rfl, h2, h3⟩ := h
    rw [strs_eq ey] at h3
    rw [HDs.strs.mp h3] at h2
    refine ⟨p, ys, rfl, SqL.of (of_hide h2).2, c, fun zs l hz hs hl => ?_⟩
    rw [sortS_eq hz hs]
    exact q l _ hl (HDs.strs.mpr rfl)
/-! ### calls by keywords -/
def pick {α : Type} (is : List Nat) (zs : List α) : List α := is.filterMap fun i => zs[i]?
theorem vals_get : ∀ {zs : List V} {ws : List Value} {i : Nat}, Vals zs ws → (zs[i]? = none ∧ ws[i]? = none) ∨ ∃ v u, zs[i]? = some v ∧ ws[i]? = some u ∧ RelV v u
  | _, _, _, .nil => .inl ⟨rfl, rfl⟩
  | _, _, 0, .cons r t => .inr ⟨_, _, rfl, rfl, r⟩
  | _, _, i + 1, .cons r t => vals_get (i := i) t
theorem vals_pick {zs : List V} {ws : List Value} (h : Vals zs ws) : ∀ is : List Nat, Vals (pick is zs) (pick is ws)
  | [] => .nil
  | i :: is => by
    have ih := vals_pick h is
    unfold pick at ih ⊢
    rcases vals_get (i := i) h with ⟨e1, e2⟩ | ⟨v, u, e1, e2, r⟩
    · rw [List.filterMap_cons, List.filterMap_cons, e1, e2]
      exact ih
    · rw [List.filterMap_cons, List.filterMap_cons, e1, e2]
      exact .cons r ih
theorem HDs.pick {sa : Addr} {H : Hp} {ds : List D} {xs : List V} (h : HDs mg sa H ds xs) : ∀ is : List Nat, HDs mg sa H (VS.pick is ds) (VS.pick is xs)
  | [] => rfl
  | i :: is => by
    have ih := HDs.pick h is
    unfold VS.pick at ih ⊢
    rw [List.filterMap_cons, List.filterMap_cons]
    cases e : ds[i]? with
    | none =>
      have e2 : xs[i]? = none := by
        rw [List.getElem?_eq_none_iff] at e ⊢
        rw [h.length]; exact e
      rw [e2]
      exact ih
    | some d =>
      obtain ⟨v, e2, r⟩ := h.get e
      rw [e2]
      exact ⟨v, _, rfl, r, ih⟩
structure Ek (X : Cx) (E : XK) (kws : List Keyword) (F : DEnv → M (List D)) (t : TA) : Prop where
  pk : PK X kws t
  ra : RA X.mg E t F
section
variable {X : Cx} {e : Expr} {A : DEnv → M D} {B : DEnv → M (List D)} {te : TE} {ta : TA} {kws : List Keyword} {nm : Option Str} {kpos : Pos}
theorem ek_nil : Ek X E [] fNil tNil := ⟨pk_nil, ra_nil⟩
theorem ek_cons (ha : Ev X E e A te) (hb : Ek X E kws B ta) : Ek X E (⟨nm, e, kpos⟩ :: kws) (fCons A B) (tCons te ta) := ⟨pk_cons ha.pe hb.pk, ra_cons ha.re hb.ra⟩
/-- f(k = v, ..), by keywords alone -/
theorem pe_callN0 {CX : CXT} {k : Nat} {f : Addr} {fd : FuncData} {ps ks : List Str} {g : List Value → List Value → List Value} {gV : List V → List V → List V} {sp : Sp} {x : Str} {p pos : Pos} (F : FnOk X.prog X.w X.K X.mg X.base CX k f fd ps sp) (hr : Room k X.A) (hg : Gl X x) (hm : X.mg x = some (.ref f)) (hk : PySem.W.keepIn X.K (.ref f) = true) (hb : KBn X.K fd ps 0 ks g gV) (hx : Passes CX X E)
    (hkw : PK X kws ta) (hall : (backToKw pos (keywordEach kws X.env)).all (·.1.isSome) = true := by rfl) (hks : (backToKw pos (keywordEach kws X.env)).filterMap (·.1) = ks := by rfl)
    (hdb : (x == ("__debug__" : Str)) = false := by decide) (hpl : ((backTo pos (starEach [] X.env)).any (·.1) || (backToKw pos (keywordEach kws X.env)).any (·.1.isNone)) = false := by rfl) :
    PE X (.Call (.Name x p) [] kws pos) (tCallN 0 ks.length sp gV E tNil ta) := by
  refine ⟨fun pins s σ H Q I h => ?_⟩
  refine wpAny_Call_Name_kw (ld_glob I hg hm ?_ hdb)
  refine PySem.W.callWith_KW0 (h₀ := X.base) I.ok.mod.kin hk hall ?_ hpl
  refine thn (hkw.run pos pins s σ H _ I h) fun ws s2 ⟨zs, H2, I2, rz, l1, l2, q2⟩ => ⟨I2.kIn, ?_⟩
  rw [hks]
  exact run_fnN (us := []) (vs := []) F hr hb hx I2 .nil rz rfl l2 q2
def fCallK (n m : Nat) (is : List Nat) (F : List D → M D) (G : DEnv → M (List D)) : DEnv → M D := fun env => bnd (G env) fun zs => if zs.length = m ∧ (pick is zs).length = n then F (pick is zs) else stuck
theorem re_callK {n m : Nat} {is : List Nat} {F : List D → M D} {G : DEnv → M (List D)} (ha : RA mg E ta G) : RE mg E (tCallN 0 m (spD mg n F) (fun _ zs => pick is zs) E tNil ta) (fCallK n m is F G) := by
  intro g st σ H env Q hg he h
  refine ha g st σ H env _ hg he ((Ans.bnd h).imp fun zs st1 vs H1 t1 hx h1 => ?_)
  by_cases c : zs.length = m ∧ (pick is zs).length = n
  · rw [if_pos c] at h1
    exact ⟨rfl, by rw [hx.length]; exact c.1, g, st1, pick is zs, c.2, t1.good, hx.pick is, h1⟩
  · rw [if_neg c] at h1
    exact h1.elim
theorem kbn {fd : FuncData} {K : PySem.W.Frag} {ps ks : List Str} (is : List Nat) (h : ∀ ws : List Value, ws.length = ks.length → bindArgs fd ⟨[], ks.zip ws⟩ = pure (ps.zip (pick is ws))) : KBn K fd ps 0 ks (fun _ ws => pick is ws) (fun _ zs => pick is zs) := by
  refine ⟨fun s us ws _ l1 l2 => ?_, fun _ r => vals_pick r is⟩
  cases us with
  | nil => exact .of_eq (h ws l2)
  | cons u us => cases l1
theorem Fun.kbn {K : PySem.W.Frag} {x qual : Str} {st : Stmt} {f : Addr} {fd : FuncData} {ps ks : List Str} (F : Fun K x qual st f fd) (is : List Nat)
    (h : ∀ (kV doc pm : Value) (an : Option Addr) (cdv ct : Value) (ws : List Value), ws.length = ks.length → bindArgs (PySem.W.fnOf x qual (defArgs st) (defBody st) (defScope st) .none kV doc pm an cdv ct) ⟨[], ks.zip ws⟩ = pure (ps.zip (pick is ws))) : KBn K fd ps 0 ks (fun _ ws => pick is ws) (fun _ zs => pick is zs) := by
  obtain ⟨oc, od, kV, doc, pm, an, cdv, ct, osl, rfl, lk, hcd⟩ := F.ex
  exact VS.kbn is (h kV doc pm an cdv ct)
theorem ev_callK {k n : Nat} {f : Addr} {fd : FuncData} {ps ks : List Str} {F : List D → M D} {G : DEnv → M (List D)} {x : Str} {p pos : Pos} {is : List Nat} (hF : FnOk X.prog X.w X.K X.mg X.base (L2.CX X.prog X.w) k f fd ps (spD X.mg n F)) (hr : Room k X.A) (hm : X.mg x = some (.ref f)) (hk : PySem.W.keepIn X.K (.ref f) = true)
    (hb : KBn X.K fd ps 0 ks (fun _ ws => pick is ws) (fun _ zs => pick is zs)) (hx : Passes (L2.CX X.prog X.w) X E) (ha : Ek X E kws G ta) (hg : Gl X x := by rfl) (hall : (backToKw pos (keywordEach kws X.env)).all (·.1.isSome) = true := by rfl) (hks : (backToKw pos (keywordEach kws X.env)).filterMap (·.1) = ks := by rfl)
    (hdb : (x == ("__debug__" : Str)) = false := by decide) (hpl : ((backTo pos (starEach [] X.env)).any (·.1) || (backToKw pos (keywordEach kws X.env)).any (·.1.isNone)) = false := by rfl) :
    Ev X E (.Call (.Name x p) [] kws pos) (fCallK n ks.length is F G) (tCallN 0 ks.length (spD X.mg n F) (fun _ zs => pick is zs) E tNil ta) := ⟨pe_callN0 hF hr hg hm hk hb hx ha.pk hall hks hdb hpl, re_callK ha.ra⟩
end
/-! ### new lists -/
theorem rf_lst {ta : TA} {G : DEnv → M (List D)} (ha : RA mg E ta G) : RF mg E (tLst ta) (fun env => bnd (G env) fun ds => if ds.length ≤ sizeLine then ret ds else stuck) := by
  intro g st σ H env Q hg he h
  refine ha g st σ H env _ hg he ((Ans.bnd h).imp fun ds st1 xs H1 t1 hx h1 => ?_)
  by_cases c : ds.length ≤ sizeLine
  · rw [if_pos c] at h1
    refine ⟨by rw [hx.length]; exact c, fun p hp => ?_⟩
    have t2 : Tr g O0 st1 st1 H1 (upd H1 p (.lst xs)) := Tr.new t1.good hp
    have nS := t1.good.fresh hp
    refine h1 _ _ t2 ⟨p, xs, rfl, ?_, nS, upd_same, ?_⟩
    · cases z : H p with
      | none => rfl
      | some o =>
        have k := t1.keep p o nS (fun z => z) z
        rw [hp] at k; cases k
    · rw [hide_upd (show (g.plus fun b => b = p).S p from .inr rfl)]
      exact HDs.mono (fun b o q => by
        obtain ⟨k1, k2⟩ := of_hide q
        exact hide_of (fun z => z.elim k1 (ne_of_none k2 hp)) k2) _ _ hx
  · rw [if_neg c] at h1
    exact h1.elim
def fNew (G : DEnv → M (List D)) : DEnv → M (List D) := fun env => bnd (G env) fun ds => if ds.length ≤ sizeLine then ret ds else stuck
theorem ef_lst {X : Cx} {es : List Expr} {G : DEnv → M (List D)} {ta : TA} {pos : Pos} (ha : Ea X E es G ta) : Ef X E (.List es pos) (fNew G) (tLst ta) := ⟨pe_lst ha.pa, rf_lst ha.ra⟩
/-! ### what a slot gets: a value, or a new list as its own -/
def rC (mg : Str → Option Value) (g : Gx) (H0 : Hp) : Sl → V → Hp → Prop
  | .val d, v, H => HD mg g.sa (hide g.S H) d v
  | .own ds, v, H => rF mg g H0 ds v H
  | .un, _, _ => False
def RC (mg : Str → Option Value) (E : XK) (t : TE) (F : DEnv → M Sl) : Prop := ∀ (g : Gx) (st : Option SS) (σ : L2.St) (H : Hp) (env : DEnv) (Q : VK), Good g st H → EnvOk mg g H σ env →
  Ans mg E (rC mg g H) g st H (F env st) (fun _ _ v H' => Q v H') → t σ H Q
structure Ec (X : Cx) (E : XK) (e : Expr) (F : DEnv → M Sl) (t : TE) : Prop where
  pe : PE X e t
  rc : RC X.mg E t F
def cV (A : DEnv → M D) : DEnv → M Sl := fun env => bnd (A env) fun d => ret (.val d)
def cO (A : DEnv → M (List D)) : DEnv → M Sl := fun env => bnd (A env) fun d => ret (.own d)
theorem ec_v {X : Cx} {e : Expr} {A : DEnv → M D} {t : TE} (h : Ev X E e A t) : Ec X E e (cV A) t := ⟨h.pe, fun g st σ H env Q hg he q => h.re g st σ H env _ hg he ((Ans.bnd q).imp fun d st1 v H1 t1 r1 q1 => Ans.ret_ t1.good q1 r1)⟩
theorem ec_o {X : Cx} {e : Expr} {A : DEnv → M (List D)} {t : TE} (h : Ef X E e A t) : Ec X E e (cO A) t := ⟨h.pe, fun g st σ H env Q hg he q => h.rf g st σ H env _ hg he ((Ans.bnd q).imp fun d st1 v H1 t1 r1 q1 => Ans.ret_ t1.good q1 r1)⟩
section
variable {g : Gx} {st st1 : Option SS} {H H1 : Hp} {σ : L2.St} {env : SEnv} {f : Nat → Addr} {v : V} {s : Sl} {i : Nat}
theorem SOk.put (h : SOk mg g H σ env f) (hg : Good g st H) (t1 : Tr g O0 st st1 H H1) (hi : i < env.length) (r : rC mg (g.plus (Ow env f)) H s v H1) :
    ∃ f1, SOk mg g H1 (σ.set i (some v)) (env.set i s) f1 ∧ ∀ b, Ow (env.set i s) f1 b → Ow env f b ∨ H b = none := by
  cases s with
  | un => exact r.elim
  | val d => exact ⟨f, (h.tr t1).set_val hi r, fun b z => .inl (Ow.set_val b z)⟩
  | own ds =>
    obtain ⟨p, xs, rfl, hp0, nS, hp, hx⟩ := r
    have s : Same (hide (g.plus (Ow env f)).S H) (hide ((g.plus (Ow env f)).plus fun b => b = p).S H1) := fun b o e => by
      obtain ⟨e1, e2⟩ := of_hide e
      exact hide_of (fun z => z.elim e1 (ne_of_none e2 hp0)) (t1.keep b o (fun z => e1 (.inl z)) (fun z => z) e2)
    refine ⟨_, (h.tr t1).set_own hi (fun z => nS (.inl z)) (fun z => nS (.inr z)) hp hx (fun j u n e => ?_) fun j es n e => ?_, fun b z => ?_⟩
    · obtain ⟨w, k1, k2⟩ := h.val j u e
      exact ⟨w, k1, HD.mono s _ _ k2⟩
    · obtain ⟨k1, ys, k2, k3⟩ := h.own j es e
      exact ⟨k1, ys, t1.keep _ _ (h.out j es e) (fun z => z) k2, HDs.mono s _ _ k3⟩
    · obtain ⟨j, es, e, z⟩ := z
      rw [List.getElem?_set] at e
      by_cases k : i = j
      · subst k
        have z' : (if i = i then p else f i) = b := z
        rw [if_pos rfl] at z'
        subst z'
        exact .inr hp0
      · rw [if_neg k] at e
        have z' : (if j = i then p else f j) = b := z
        rw [if_neg (fun q : j = i => k q.symm)] at z'
        exact .inl ⟨j, es, e, z'⟩
/-- the old slots under what is hidden behind a new own list -/
theorem SOk.old (h : SOk mg g H σ env f) (t1 : Tr g O0 st st1 H H1) {env1 : SEnv} {f1 : Nat → Addr} (o : ∀ b, Ow env1 f1 b → Ow env f b ∨ H b = none) : EnvOk mg (g.plus (Ow env1 f1)) H1 σ (cl env) := by
  have s : Same (hide (g.plus (Ow env f)).S H) (hide (g.plus (Ow env1 f1)).S H1) := fun b u e => by
    obtain ⟨e1, e2⟩ := of_hide e
    refine hide_of (fun z => z.elim (fun z => e1 (.inl z)) fun z => (o b z).elim (fun z => e1 (.inr z)) fun z => by rw [e2] at z; cases z) (t1.keep b u (fun z => e1 (.inl z)) (fun z => z) e2)
  have c := h.clean
  exact ⟨c.len, fun j d e => by
    obtain ⟨w, k1, k2⟩ := c.val j d e
    exact ⟨w, k1, HD.mono s _ _ k2⟩⟩
end
def sSetC (i : Nat) (A : DEnv → M Sl) : SEnv → M Fl := fun env => bnd (A (cl env)) fun a => if i < env.length then ret (.nx (env.set i a)) else stuck
def sPar (i j : Nat) (A B : DEnv → M Sl) : SEnv → M Fl := fun env => if i < env.length ∧ j < env.length then bnd (A (cl env)) fun a => bnd (B (cl env)) fun b => ret (.nx ((env.set i a).set j b)) else stuck
def sPar3 (i j l : Nat) (A B C : DEnv → M Sl) : SEnv → M Fl := fun env => if i < env.length ∧ j < env.length ∧ l < env.length then bnd (A (cl env)) fun a => bnd (B (cl env)) fun b => bnd (C (cl env)) fun c => ret (.nx (((env.set i a).set j b).set l c)) else stuck
theorem Ans.out {α β : Type} {rel rel' : α → β → Hp → Prop} {g : Gx} {O : Addr → Prop} {st : Option SS} {H : Hp} {m : Option (Except Exn α × Option SS)} {R : α → Option SS → β → Hp → Prop} (hO : ∀ b, O b → ¬ g.S b) (hg : StAt g st H)
    (h : Ans mg E (fun _ _ _ => True) g st H m R) : Ans mg E rel' (g.plus O) st H m R := Ans.plus hO hg (fun _ _ _ _ => trivial) h
theorem AnsS.bndX {α β : Type} {g : Gx} {O : Addr → Prop} {st st2 : Option SS} {H H2 : Hp} {Dn : Ends} {m : M α} {k : α → M Fl} {rel : α → β → Hp → Prop} (h : AnsS mg E g O st H (VS.bnd m k st2) Dn) (t : Tr g O st st2 H H2) : Ans mg E rel g st2 H2 (m st2) fun a st3 _ H3 => Tr g O st st3 H H3 → AnsS mg E g O st H (k a st3) Dn := by
  unfold VS.bnd at h
  match e : m st2, h with
  | some (.ok a, st'), h => exact fun v H' _ _ _ => h
  | some (.error x, st'), h => exact fun C xd v H' e1 t' q1 q2 => h C xd v H' e1 (t.trans0 t') q1 q2
  | none, h => exact h.elim
theorem rs_setC (i : Nat) {te : TE} {A : DEnv → M Sl} (h1 : RC mg E te A) : RS mg E (tAsg te (gName i)) (sSetC i A) := by
  intro g st σ H env f Dn hg hs h
  refine h1 (g.plus (Ow env f)) st σ H (cl env) _ (hs.good hg) hs.clean (Ans.plus (rel := rC mg (g.plus (Ow env f)) H) (Ow.out hs) hg.at_ (fun _ _ _ r => r) ((AnsS.bnd0 h).imp fun a st1 v H1 t1 r q => ?_))
  by_cases c : i < env.length
  · rw [if_pos c] at q
    obtain ⟨f1, s1, o1⟩ := hs.put hg t1 c r
    exact q _ H1 f1 (t1.weak fun _ z => z.elim) s1 o1
  · rw [if_neg c] at q
    exact q.elim
theorem rs_par {i j : Nat} {ta tb : TE} {A B : DEnv → M Sl} (ha : RC mg E ta A) (hb : RC mg E tb B) : RS mg E (tPar i j (tCons ta (tCons tb tNil))) (sPar i j A B) := by
  intro g st σ H env f Dn hg hs h
  unfold sPar at h
  by_cases c : i < env.length ∧ j < env.length
  · rw [if_pos c] at h
    refine ha (g.plus (Ow env f)) st σ H (cl env) _ (hs.good hg) hs.clean (Ans.plus (rel := rC mg (g.plus (Ow env f)) H) (Ow.out hs) hg.at_ (fun _ _ _ r => r) ((AnsS.bndX h (Tr.refl hg)).imp fun a st1 v H1 t1 r q => ?_))
    have tO : Tr g (Ow env f) st st1 H H1 := t1.weak fun _ z => z.elim
    obtain ⟨f1, s1, o1⟩ := hs.put hg t1 c.1 r
    refine hb (g.plus (Ow (env.set i a) f1)) st1 σ H1 (cl env) _ (s1.good t1.good) (hs.old t1 o1) (Ans.plus (rel := rC mg (g.plus (Ow (env.set i a) f1)) H1) (Ow.out s1) t1.good.at_ (fun _ _ _ r => r) ((AnsS.bndX (q tO) tO).imp fun b st2 u H2 t2 r2 q2 => ?_))
    have q3 := q2 (tO.trans0 t2)
    obtain ⟨f2, s2, o2⟩ := s1.put t1.good t2 (i := j) (by rw [List.length_set]; exact c.2) r2
    exact ⟨v, u, rfl, q3 _ H2 f2 (tO.trans0 t2) s2 fun b z => (o2 b z).elim (o1 b) fun z => (tO.old b z).elim .inr .inl⟩
  · rw [if_neg c] at h
    exact h.elim
theorem rs_par3 {i j l : Nat} {ta tb tc : TE} {A B C : DEnv → M Sl} (ha : RC mg E ta A) (hb : RC mg E tb B) (hc : RC mg E tc C) : RS mg E (tPar3 i j l (tCons ta (tCons tb (tCons tc tNil)))) (sPar3 i j l A B C) := by
  intro g st σ H env f Dn hg hs h
  unfold sPar3 at h
  by_cases c : i < env.length ∧ j < env.length ∧ l < env.length
  · rw [if_pos c] at h
    refine ha (g.plus (Ow env f)) st σ H (cl env) _ (hs.good hg) hs.clean (Ans.plus (rel := rC mg (g.plus (Ow env f)) H) (Ow.out hs) hg.at_ (fun _ _ _ r => r) ((AnsS.bndX h (Tr.refl hg)).imp fun a st1 v H1 t1 r q => ?_))
    have tO : Tr g (Ow env f) st st1 H H1 := t1.weak fun _ z => z.elim
    obtain ⟨f1, s1, o1⟩ := hs.put hg t1 c.1 r
    refine hb (g.plus (Ow (env.set i a) f1)) st1 σ H1 (cl env) _ (s1.good t1.good) (hs.old t1 o1) (Ans.plus (rel := rC mg (g.plus (Ow (env.set i a) f1)) H1) (Ow.out s1) t1.good.at_ (fun _ _ _ r => r) ((AnsS.bndX (q tO) tO).imp fun b st2 u H2 t2 r2 q2 => ?_))
    have tO2 := tO.trans0 t2
    obtain ⟨f2, s2, o2⟩ := s1.put t1.good t2 (i := j) (by rw [List.length_set]; exact c.2.1) r2
    have o12 : ∀ b', Ow ((env.set i a).set j b) f2 b' → Ow env f b' ∨ H b' = none := fun b z => (o2 b z).elim (o1 b) fun z => (tO.old b z).elim .inr .inl
    have tH : Tr g O0 st st2 H H2 := t1.trans0 t2
    refine hc (g.plus (Ow ((env.set i a).set j b) f2)) st2 σ H2 (cl env) _ (s2.good t2.good) (hs.old tH o12) (Ans.plus (rel := rC mg (g.plus (Ow ((env.set i a).set j b) f2)) H2) (Ow.out s2) t2.good.at_ (fun _ _ _ r => r) ((AnsS.bndX (q2 tO2) tO2).imp fun d st3 w H3 t3 r3 q3 => ?_))
    have q4 := q3 (tO2.trans0 t3)
    obtain ⟨f3, s3, o3⟩ := s2.put t2.good t3 (i := l) (by rw [List.length_set, List.length_set]; exact c.2.2) r3
    exact ⟨v, u, w, rfl, q4 _ H3 f3 (tO2.trans0 t3) s3 fun b z => (o3 b z).elim (o12 b) fun z => (tO2.old b z).elim .inr .inl⟩
  · rw [if_neg c] at h
    exact h.elim
/-! ### a store into an own list: x[e] = v -/
def sStore (i : Nat) (A B : DEnv → M D) : SEnv → M Fl := fun env => match env[i]? with
  | some (.own ds) => bnd (A (cl env)) fun d => bnd (B (cl env)) fun b => match b with
    | .int k => (match ixN ds.length k with
      | some j => ret (.nx (env.set i (.own (ds.set j d))))
      | none => stuck)
    | _ => stuck
  | _ => stuck
theorem rs_store {ta tb : TE} {A B : DEnv → M D} (i : Nat) (ha : RE mg E ta A) (hb : RE mg E tb B) : RS mg E (tAsg ta (gSub (tVar i) tb rSetL)) (sStore i A B) := by
  intro g st σ H env f Dn hg hs h
  unfold sStore at h
  match e : env[i]?, h with
  | some (.own ds), h =>
    refine ha (g.plus (Ow env f)) st σ H (cl env) _ (hs.good hg) hs.clean (Ans.plus (rel := rV mg (g.plus (Ow env f))) (Ow.out hs) hg.at_ (fun _ _ _ r => r) ((AnsS.bndX (k := fun d => bnd (B (cl env)) fun b => match b with
      | .int k => (match ixN ds.length k with
        | some j => ret (.nx (env.set i (.own (ds.set j d))))
        | none => stuck)
      | _ => stuck) h (Tr.refl hg)).imp fun d st1 v H1 t1 r q => ?_))
    have tO : Tr g (Ow env f) st st1 H H1 := t1.weak fun _ z => z.elim
    have hs1 := hs.tr t1
    obtain ⟨k1, xs, k2, k3⟩ := hs1.own i ds e
    refine ⟨.ref (f i), k1, ?_⟩
    refine hb (g.plus (Ow env f)) st1 σ H1 (cl env) _ (hs1.good t1.good) hs1.clean (Ans.plus (rel := rV mg (g.plus (Ow env f))) (Ow.out hs) t1.good.at_ (fun _ _ _ r => r) ((AnsS.bndX (q tO) tO).imp fun b st2 u H2 t2 r2 q2 => ?_))
    have q3 := q2 (tO.trans0 t2)
    match b, r2, q3 with
    | .int k, r2, q3 =>
      have hs2 := hs1.tr t2
      obtain ⟨_, ys, j2, j3⟩ := hs2.own i ds e
      cases ej : ixN ds.length k with
      | none => simp only [ej] at q3; exact q3.elim
      | some j =>
        simp only [ej] at q3
        have hx : HDs mg g.sa (hide (g.plus (Ow env f)).S H2) (ds.set j d) (ys.set j v) := HDs.set j j3 (HD.mono (fun b o e => by
          obtain ⟨e1, e2⟩ := of_hide e
          exact hide_of e1 (t2.keep b o (fun z => e1 (.inl z)) (fun z => z) e2)) _ _ r)
        obtain ⟨s3, t3⟩ := hs2.upd_own (st := st2) t2.good e hx
        refine ⟨f i, ys, k, j, rfl, r2, j2, by rw [j3.length]; exact ej, ?_⟩
        exact q3 σ _ f ((tO.trans0 t2).trans t3 fun b z => .inl z) s3 fun b z => .inl ((Ow.set_own e b).mp z)
    | .non, _, q3 | .bl _, _, q3 | .str _, _, q3 | .lst _, _, q3 | .tup _, _, q3 | .dct _, _, q3 | .obj _ _, _, q3 | .strm, _, q3 | .ty _, _, q3 | .cls _, _, q3 => exact q3.elim
  | some (.val _), h => exact h.elim
  | some .un, h => exact h.elim
  | none, h => exact h.elim
/-! ### x.append(y.pop(e)), x and y own lists -/
def sApPop (i j : Nat) (A : DEnv → M D) : SEnv → M Fl := fun env => match env[i]?, env[j]? with
  | some (.own ds), some (.own es) => if i = j then stuck else bnd (A (al env)) fun b => match b with
    | .int k => (match seqIndex? k es.length with
      | some n => (match es[n]? with
        | some d => if -(2 ^ 63) ≤ k ∧ k < 2 ^ 63 ∧ ds.length < sizeLine then ret (.nx ((env.set j (.own (es.eraseIdx n))).set i (.own (ds ++ [d])))) else stuck
        | none => stuck)
      | none => stuck)
    | _ => stuck
  | _, _ => stuck
theorem HDs.erase {sa : Addr} {H : Hp} : ∀ {ds : List D} {xs : List V} (n : Nat), HDs mg sa H ds xs → HDs mg sa H (ds.eraseIdx n) (xs.eraseIdx n)
  | [], _, n, h => by cases (show _ = _ from h); exact rfl
  | d :: ds, _, 0, h => by
    obtain ⟨v, vs, rfl, h1, h2⟩ := h
    exact h2
  | d :: ds, _, n + 1, h => by
    obtain ⟨v, vs, rfl, h1, h2⟩ := h
    exact ⟨v, _, rfl, h1, HDs.erase n h2⟩
theorem rs_apPop {K : PySem.W.Frag} {ta : TE} {A : DEnv → M D} (i j : Nat) (ha : RE mg E ta A) : RS mg E (tDrop (tBM K "list" rAppend (tVar i) (tCons (tBM K "list" rPopAt (tVar j) (tCons ta tNil)) tNil))) (sApPop i j A) := by
  intro g st σ H env f Dn hg hs h
  unfold sApPop at h
  match e : env[i]?, e2 : env[j]?, h with
  | some (.own ds), some (.own es), h =>
    by_cases ij : i = j
    · simp only [if_pos ij] at h
      exact h.elim
    simp only [if_neg ij] at h
    obtain ⟨k1, xs, k2, k3⟩ := hs.own i ds e
    obtain ⟨l1, ys, l2, l3⟩ := hs.own j es e2
    refine ⟨.ref (f i), k1, .inl ⟨rfl, xs, SqL.of k2⟩, .ref (f j), l1, .inl ⟨rfl, ys, SqL.of l2⟩, ?_⟩
    refine ha g st σ H (al env) _ hg hs.all ((AnsS.bnd (k := fun b => match b with
      | .int k => (match seqIndex? k es.length with
        | some n => (match es[n]? with
          | some d => if -(2 ^ 63) ≤ k ∧ k < 2 ^ 63 ∧ ds.length < sizeLine then ret (.nx ((env.set j (.own (es.eraseIdx n))).set i (.own (ds ++ [d])))) else stuck
          | none => stuck)
        | none => stuck)
      | _ => stuck) h).imp fun b st1 v H1 t1 r q => ?_)
    match b, r, q with
    | .int k, r, q =>
      obtain rfl : v = .int k := r
      have hs1 := hs.tr t1
      obtain ⟨_, xs1, m2, m3⟩ := hs1.own i ds e
      obtain ⟨_, ys1, n2, n3⟩ := hs1.own j es e2
      cases en : seqIndex? k es.length with
      | none => simp only [en] at q; exact q.elim
      | some n =>
        simp only [en] at q
        cases ed : es[n]? with
        | none => simp only [ed] at q; exact q.elim
        | some d =>
          simp only [ed] at q
          by_cases c : -(2 ^ 63) ≤ k ∧ k < 2 ^ 63 ∧ ds.length < sizeLine
          · rw [if_pos c] at q
            obtain ⟨y, ey, hy⟩ := n3.get ed
            obtain ⟨s2, t2⟩ := hs1.upd_own (st := st1) t1.good e2 (n3.erase n)
            have e' : (env.set j (Sl.own (es.eraseIdx n)))[i]? = some (Sl.own ds) := by rw [List.getElem?_set_ne (Ne.symm ij)]; exact e
            obtain ⟨_, xs2, o2, o3⟩ := s2.own i ds e'
            have hid : hide (g.plus (Ow (env.set j (Sl.own (es.eraseIdx n))) f)).S (upd H1 (f j) (.lst (ys1.eraseIdx n))) = hide (g.plus (Ow env f)).S H1 := by
              have : (g.plus (Ow (env.set j (Sl.own (es.eraseIdx n))) f)).S = (g.plus (Ow env f)).S := by
                funext b
                exact propext ⟨fun z => z.elim .inl fun z => .inr ((Ow.set_own e2 b).mp z), fun z => z.elim .inl fun z => .inr ((Ow.set_own e2 b).mpr z)⟩
              rw [this]
              exact hide_upd (.inr ⟨j, es, e2, rfl⟩)
            have hy' : HD mg g.sa (hide (g.plus (Ow (env.set j (Sl.own (es.eraseIdx n))) f)).S (upd H1 (f j) (.lst (ys1.eraseIdx n)))) d y := by rw [hid]; exact hy
            obtain ⟨s3, t3⟩ := s2.upd_own (st := st1) t2.good e' (o3.append (HDs.one hy'))
            refine ⟨f j, ys1, k, n, y, rfl, rfl, n2, c.1, c.2.1, by rw [n3.length]; exact en, ey, ?_⟩
            refine ⟨f i, xs2, y, rfl, rfl, o2, by rw [o3.length]; exact c.2.2, ?_⟩
            refine q σ _ f ((t2.trans t3 fun b z => .inl ((Ow.set_own e2 b).mp z)).weak fun b z => z) s3 fun b z => .inl ?_
            exact (Ow.set_own e2 b).mp ((Ow.set_own e' b).mp z)
          · rw [if_neg c] at q
            exact q.elim
    | .non, _, q | .bl _, _, q | .str _, _, q | .lst _, _, q | .tup _, _, q | .dct _, _, q | .obj _ _, _, q | .strm, _, q | .ty _, _, q | .cls _, _, q => exact q.elim
  | some (.own _), some (.val _), h => exact h.elim
  | some (.own _), some .un, h => exact h.elim
  | some (.own _), none, h => exact h.elim
  | some (.val _), _, h => exact h.elim
  | some .un, _, h => exact h.elim
  | none, _, h => exact h.elim
end VS

/-! VS8: the rules of VS7's statements; repr; the law's own def, run where the caller stands. -/
namespace VS
open PySem PySem.Spec PyProof.Rows L2
variable {mg : Str → Option Value} {E : XK}
section
variable {X : Cx} {A B C : DEnv → M Sl} {F G : DEnv → M D} {te ta tb tc : TE} {e a b c : Expr} {pos : Pos}
theorem es_setC (i : Nat) {x : Str} {p' : Pos} (hN : X.N.Nodup) (h : Ec X E e A te) (hi : X.N[i]? = some x := by rfl) (hx : Loc X.env.scope x := by first | exact Or.inl rfl | exact Or.inr rfl) (hs : swapsWith e (some (.Name x p')) pos.line X.env = pure false := by rfl) (hf : X.fn x = true ∨ X.env.scope.names.lookup x = some .local := by first | exact .inl rfl | exact .inr rfl | assumption) :
    Es X E (.Assign [.Name x p'] e pos) (sSetC i A) (tAsg te (gName i)) := ⟨ps_set hN hi hx h.pe hs hf, rs_setC i h.rc⟩
theorem es_par (i j : Nat) {x y : Str} {px py pt : Pos} {kt k2 pt2} (hN : X.N.Nodup) (ha : Ec X E a A ta) (hb : Ec X E b B tb) (hc : X.calm = true := by rfl) (hi : X.N[i]? = some x := by rfl) (hj : X.N[j]? = some y := by rfl) (hij : i ≠ j := by decide)
    (hx : X.env.scope.names.lookup x = some .local := by rfl) (hy : X.env.scope.names.lookup y = some .local := by rfl) (hw : swappedStores [.Tuple [.Name x px, .Name y py] kt pt] (.Tuple [a, b] k2 pt2) X.env = pure (some [x, y]) := by rfl)
    (hs : swapsWithSole [.Tuple [.Name x px, .Name y py] kt pt] (.Tuple [a, b] k2 pt2) pos.line X.env = pure false := by rfl) (h1 : starEach [a, b] X.env = (false, eval a X.env) :: starEach [b] X.env := by rfl) (h2 : starEach [b] X.env = (false, eval b X.env) :: starEach [] X.env := by rfl) :
    Es X E (.Assign [.Tuple [.Name x px, .Name y py] kt pt] (.Tuple [a, b] k2 pt2) pos) (sPar i j A B) (tPar i j (tCons ta (tCons tb tNil))) :=
  ⟨ps_par hc hN hi hj hij hx hy (pa_cons ha.pe (pa_cons hb.pe pa_nil h2) h1) hw hs, rs_par ha.rc hb.rc⟩
theorem es_par3 (i j l : Nat) {x y z : Str} {px py pz pt : Pos} {kt k2 pt2} (hN : X.N.Nodup) (ha : Ec X E a A ta) (hb : Ec X E b B tb) (hcc : Ec X E c C tc) (hc : X.calm = true := by rfl) (hi : X.N[i]? = some x := by rfl) (hj : X.N[j]? = some y := by rfl) (hl : X.N[l]? = some z := by rfl) (hij : i ≠ j := by decide) (hil : i ≠ l := by decide) (hjl : j ≠ l := by decide)
    (hx : X.env.scope.names.lookup x = some .local := by rfl) (hy : X.env.scope.names.lookup y = some .local := by rfl) (hz : X.env.scope.names.lookup z = some .local := by rfl)
    (hw : swappedStores [.Tuple [.Name x px, .Name y py, .Name z pz] kt pt] (.Tuple [a, b, c] k2 pt2) X.env = pure (some [x, y, z]) := by rfl)
    (hs : swapsWithSole [.Tuple [.Name x px, .Name y py, .Name z pz] kt pt] (.Tuple [a, b, c] k2 pt2) pos.line X.env = pure false := by rfl) (h1 : starEach [a, b, c] X.env = (false, eval a X.env) :: starEach [b, c] X.env := by rfl) (h2 : starEach [b, c] X.env = (false, eval b X.env) :: starEach [c] X.env := by rfl) (h3 : starEach [c] X.env = (false, eval c X.env) :: starEach [] X.env := by rfl) :
    Es X E (.Assign [.Tuple [.Name x px, .Name y py, .Name z pz] kt pt] (.Tuple [a, b, c] k2 pt2) pos) (sPar3 i j l A B C) (tPar3 i j l (tCons ta (tCons tb (tCons tc tNil)))) :=
  ⟨ps_par3 hc hN hi hj hl hij hil hjl hx hy hz (pa_cons ha.pe (pa_cons hb.pe (pa_cons hcc.pe pa_nil h3) h2) h1) hw hs, rs_par3 ha.rc hb.rc hcc.rc⟩
/-- x = [.. for ..] -/
theorem es_setLc (own_ : Bool) (i : Nat) {x : Str} {p' : Pos} {elt tg iter : Expr} {ifs : List Expr} {scope : Scope} {own : List (Str × Nat)} {lpos : Pos} {wi : TI} {g : TG} {tt : TT} {te : TE} {us : List Nat} {Fi : DEnv → M (List D)} {f : D → DEnv → Option DEnv} {T : DEnv → M Bool} {F : DEnv → M D}
    (hN : X.N.Nodup) (ok : BlkOk X.N X.env.scope scope own) (hi : Ei X E tg iter Fi wi)
    (hg : ∀ (s : Shared) (H : Hp) (C : Addr) (cl : List (Str × Addr)) (fp : List Addr), Eg (X.blk s H scope (compEnvC scope cl C X.env) fp) tg g us f) (ht : ∀ (s : Shared) (H : Hp) (C : Addr) (cl : List (Str × Addr)) (fp : List Addr), Ets (X.blk s H scope (compEnvC scope cl C X.env) fp) E0 ifs T tt)
    (he : ∀ (s : Shared) (H : Hp) (C : Addr) (cl : List (Str × Addr)) (fp : List Addr), Ev (X.blk s H scope (compEnvC scope cl C X.env) fp) E0 elt F te) (hc : X.calm = true := by rfl) (hxi : X.N[i]? = some x := by rfl) (hxl : X.env.scope.names.lookup x = some .local := by rfl)
    (hsw : swapsWith (.ListComp elt [⟨tg, iter, ifs, 0⟩] scope lpos) (some (.Name x p')) pos.line X.env = pure true := by exact sw_true rfl rfl rfl rfl) (hu : ∀ i ∈ us, i ∈ own.map (·.2) := by decide) (hs : ∀ x, foldedSetIterable iter X.env x = pure x := by intro _; rfl) :
    Es X E (.Assign [.Name x p'] (.ListComp elt [⟨tg, iter, ifs, 0⟩] scope lpos) pos) (sSetC i (if own_ = true then cO (fLcL Fi f T F (own.map (·.2))) else cV (fL (fLcL Fi f T F (own.map (·.2)))))) (tAsg (tLc wi g tt te (own.map (·.2))) (gName i)) := by
  have r : RF X.mg E (tLc wi g tt te (own.map (·.2))) (fLcL Fi f T F (own.map (·.2))) := rf_lc hi.ri (hg X.s_0 X.H_0 0 [] []).rg hu (ht X.s_0 X.H_0 0 [] []).rt (he X.s_0 X.H_0 0 [] []).re
  have pl := pe_lc (pos := lpos) hc hN hi.pi ok (fun s H C cl fp => (hg s H C cl fp).pg) (fun s H C cl fp => (ht s H C cl fp).pts) (fun s H C cl fp => (he s H C cl fp).pe) hs
  refine ⟨ps_setLc hc hN hxi hxl hsw hi.pi ok (fun s H C cl fp => (hg s H C cl fp).pg) (fun s H C cl fp => (ht s H C cl fp).pts) (fun s H C cl fp => (he s H C cl fp).pe) hs, ?_⟩
  have e0 : Ef X E (.ListComp elt [⟨tg, iter, ifs, 0⟩] scope lpos) (fLcL Fi f T F (own.map (·.2))) (tLc wi g tt te (own.map (·.2))) := ⟨pl, r⟩
  cases own_ with
  | true => exact rs_setC i (ec_o e0).rc
  | false => exact rs_setC i (ec_v e0.ev).rc
/-- x[k] = e, x an own list -/
theorem es_store (i : Nat) {x : Str} {k : Expr} {p0 p1 : Pos} {tk : TE} (ha : Ev X E e F te) (hk : Ev X E k G tk) (hi : X.N[i]? = some x := by rfl) (hv : Vis X.env.scope x := by first | exact Or.inl rfl | exact Or.inr (Or.inl rfl) | exact Or.inr (Or.inr rfl)) (hd : (x == ("__debug__" : Str)) = false := by decide) (hcd : (x == ("__classdict__" : Str)) = false := by decide)
    (has : ∀ v, assign (.Subscript (.Name x p0) k p1) X.env v = (do
      let ov ← holding [v] (eval (.Name x p0) X.env)
      let iv ← holding [v, ov] (eval k X.env)
      standAt p1
      holding [v, ov, iv] (setItem ov iv v)
      release [v, ov, iv] []) := by intro _; rfl) (hs : swapsWithSole [.Subscript (.Name x p0) k p1] e pos.line X.env = pure false := by rfl) (hw : swappedStores [.Subscript (.Name x p0) k p1] e X.env = pure none := by rfl)
    (h1 : (assignEach [.Subscript (.Name x p0) k p1] X.env).map (·.2) = [assign (.Subscript (.Name x p0) k p1) X.env] := by rfl) :
    Es X E (.Assign [.Subscript (.Name x p0) k p1] e pos) (sStore i F G) (tAsg te (gSub (tVar i) tk rSetL)) := ⟨ps_asg ha.pe (pg_sub (pe_var hi hv hd hcd) hk.pe set_list has) hs hw h1, rs_store i ha.re hk.re⟩
/-- x.append(y.pop(k)), x and y own lists -/
theorem es_apPop (i j : Nat) {x y : Str} {k : Expr} {p0 p1 a0 a1 c0 c1 : Pos} {tk : TE} (hk : Ev X E k G tk) (hi : X.N[i]? = some x := by rfl) (hj : X.N[j]? = some y := by rfl) (hv : Vis X.env.scope x := by first | exact Or.inl rfl | exact Or.inr (Or.inl rfl) | exact Or.inr (Or.inr rfl)) (hd : (x == ("__debug__" : Str)) = false := by decide) (hcd : (x == ("__classdict__" : Str)) = false := by decide)
    (hvy : Vis X.env.scope y := by first | exact Or.inl rfl | exact Or.inr (Or.inl rfl) | exact Or.inr (Or.inr rfl)) (hdy : (y == ("__debug__" : Str)) = false := by decide) (hcdy : (y == ("__classdict__" : Str)) = false := by decide)
    (hb1 : attributeBase (.Name y p1) (Str.ofString "pop") X.env (eval (.Name y p1) X.env) = eval (.Name y p1) X.env := by rfl) (hf1 : ((backTo c1 (starEach [k] X.env)).all (fun x => !x.1) && (backToKw c1 (keywordEach [] X.env)).all (fun x => x.1.isSome)
      && decide (([k] : List Expr).length + ([] : List Keyword).length + (if ([] : List Keyword).isEmpty then 0 else 1) < 30)) = true := by rfl) (hl1 : (a1.endLine == c1.line) = true := by rfl) (hs1 : starEach [k] X.env = (false, eval k X.env) :: starEach [] X.env := by rfl)
    (hb0 : attributeBase (.Name x p0) (Str.ofString "append") X.env (eval (.Name x p0) X.env) = eval (.Name x p0) X.env := by rfl) (hf0 : ((backTo c0 (starEach [.Call (.Attribute (.Name y p1) (Str.ofString "pop") a1) [k] [] c1] X.env)).all (fun x => !x.1) && (backToKw c0 (keywordEach [] X.env)).all (fun x => x.1.isSome)
      && decide (([.Call (.Attribute (.Name y p1) (Str.ofString "pop") a1) [k] [] c1] : List Expr).length + ([] : List Keyword).length + (if ([] : List Keyword).isEmpty then 0 else 1) < 30)) = true := by rfl) (hl0 : (a0.endLine == c0.line) = true := by rfl)
    (hs0 : starEach [.Call (.Attribute (.Name y p1) (Str.ofString "pop") a1) [k] [] c1] X.env = (false, eval (.Call (.Attribute (.Name y p1) (Str.ofString "pop") a1) [k] [] c1) X.env) :: starEach [] X.env := by rfl) (hpl : (backTo c0 (starEach [] X.env)).any (·.1) = false := by rfl) (hpl1 : (backTo c1 (starEach [] X.env)).any (·.1) = false := by rfl)
    (hsw : swapsWith (.Call (.Attribute (.Name x p0) (Str.ofString "append") a0) [.Call (.Attribute (.Name y p1) (Str.ofString "pop") a1) [k] [] c1] [] c0) none pos.line X.env = pure false := by rfl) :
    Es X E (.Expr (.Call (.Attribute (.Name x p0) (Str.ofString "append") a0) [.Call (.Attribute (.Name y p1) (Str.ofString "pop") a1) [k] [] c1] [] c0) pos) (sApPop i j G) (tDrop (tBM X.K "list" rAppend (tVar i) (tCons (tBM X.K "list" rPopAt (tVar j) (tCons tk tNil)) tNil))) :=
  ⟨ps_expr (pe_bm PySem.F.plainAttrs_list PySem.F.slot_list_append PySem.F.type_list_append mt_append (pe_var hi hv hd hcd)
    (pa_cons (pe_bm PySem.F.plainAttrs_list PySem.F.slot_list_pop PySem.F.type_list_pop mt_popAt (pe_var hj hvy hdy hcdy) (pa_cons hk.pe pa_nil hs1) hb1 hf1 hl1 hs1 hpl1) pa_nil hs0) hb0 hf0 hl0 hs0 hpl) hsw, rs_apPop i j hk.re⟩
end
/-! ### repr -/
def rRepr (K : PySem.W.Frag) : List V → Hp → VK → Prop := fun xs H Q => ∃ a d, xs = [.ref a] ∧ Dp K H (.ref a) d ∧ d.showable = true ∧ d.hasDict = false ∧ d.depth ≤ 60 ∧ d.shown.length ≤ sizeLine ∧ Q (.str d.shown) H
theorem call_repr {X : Cx} (hg : X.A.guards = some []) (hu : X.A.units + 100 < cLine) : CallR X (.builtin "repr") (rRepr X.K) := by
  intro pins s σ H xs us Q I r h
  obtain ⟨a, d, rfl, hd, h1, h2, h3, h4, q⟩ := h
  obtain ⟨u, rfl, rx⟩ := vals1 r
  cases rx
  obtain ⟨as, rd⟩ := Dp.reads I d (.ref a) (.ref a) hd rfl
  refine repr_of_reads' rd h1 (fun z => by rw [h2] at z; cases z) hg (by omega) (fun _ _ e => e) (fun h' u tk hk => ⟨.str d.shown, H, I.kept (t' := tk) hk, ⟨_, rfl⟩, q⟩) h4
def reprD (d : D) : Option D := (toP d).bind fun p => if p.showable = true ∧ p.hasDict = false ∧ p.depth ≤ 60 ∧ p.shown.length ≤ sizeLine then some (.str p.shown) else none
def bRepr : List D → Option D
  | [.lst es] => reprD (.lst es)
  | [.tup es] => reprD (.tup es)
  | _ => none
theorem ok_repr {K : PySem.W.Frag} : CallOk mg (rRepr K) bRepr := by
  intro g st H xs ds d Q hg hx e q
  match ds, e, hx with
  | [.lst es], e, hx =>
    obtain ⟨v, rfl, h⟩ := hx.inv1
    obtain ⟨p, ep, e2⟩ := Option.bind_eq_some_iff.mp e
    obtain ⟨c, rfl⟩ := ite_some e2
    have hp := HD.dp (K := K) _ _ _ ep (HD.mono hide_sub _ _ h)
    obtain ⟨a, ys, rfl, _⟩ := id h
    exact ⟨a, p, rfl, hp, c.1, c.2.1, c.2.2.1, c.2.2.2, q _ _ (Tr.refl hg) rfl⟩
  | [.tup es], e, hx =>
    obtain ⟨v, rfl, h⟩ := hx.inv1
    obtain ⟨p, ep, e2⟩ := Option.bind_eq_some_iff.mp e
    obtain ⟨c, rfl⟩ := ite_some e2
    have hp := HD.dp (K := K) _ _ _ ep (HD.mono hide_sub _ _ h)
    obtain ⟨a, ys, rfl, _⟩ := id h
    exact ⟨a, p, rfl, hp, c.1, c.2.1, c.2.2.1, c.2.2.2, q _ _ (Tr.refl hg) rfl⟩
end VS

/-! VS9: the law's own def, run where its caller stands (there no repr is under way). -/
namespace VS
open PySem PySem.Spec PyProof.Rows L2
structure LawOk (P : Program) (w : World) (K : PySem.W.Frag) (mg : Str → Option Value) (base : Heap) (CX : CXT) (f : Addr) (fd : FuncData) (ps : List Str) (sp : Sp) : Prop where
  run : ∀ (up : List Env) (s : Shared) (H : Hp) (args : Args) (us : List Value) (vs : List V) (Q : VK) (E : XK), Env0 P w K mg base callerA up s H → BindsTo s fd args (ps.zip us) → Vals vs us → sp vs H Q E →
    codeAny (model P w) callerA (.call (.ref f) args) (CR CX up P w H s Q E) s
theorem law_fn {P : Program} {w : World} {K : PySem.W.Frag} {mg : Str → Option Value} {base : Heap} {CX : CXT} {k : Nat} {x qual : Str} {st : Stmt} {f : Addr} {fd : FuncData} {N ps : List Str} {sp : Sp} (hr : Room (k + 1) callerA) (Fn : Fun K x qual st f fd) (S : FnScope N ps (defScope st))
    (len : ∀ vs H Q E, sp vs H Q E → vs.length = ps.length)
    (hbody : ∀ (cdv : Value) (up : List Env) (s : Shared) (H : Hp) (vs : List V) (Q : VK) (E : XK), Room k (callerA.deeper (envOfC qual (defScope st) s.heap.objs.size f cdv)) → sp vs H Q E →
      ∃ t, PSs (cxOf CX P w K mg base N qual (defScope st) f cdv callerA up s H E) (defBody st) t ∧ t { nx := fun _ H' => Q .non H', rt := Q } (start N vs) H) : LawOk P w K mg base CX f fd ps sp := by
  obtain ⟨oc, od, kV, doc, pm, an, cdv, ct, osl, rfl, lk, hcd⟩ := Fn.ex
  constructor
  intro up s H args us vs Q E e0 hb r hsp
  have hlen := len _ _ _ _ hsp
  have inK : K.In s.heap := e0.mod.kin.keeps fun b o e => (e0.bs b o e).1
  have noLim : s.heap.NoLimit := e0.mod.nolimit.keeps fun b o e => (e0.bs b o e).1
  have kinds : ∀ y ∈ ps.zip us, (defScope st).names.lookup y.1 = some .local ∨ ((defScope st).names.lookup y.1 = some .cell ∧ ((cellsFrom (s.heap.objs.size + 1) (defScope st).names []).lookup y.1).isSome = true) := by
    rintro ⟨n, v⟩ hy
    exact (S.par n (List.of_mem_zip hy).1).imp id fun q => ⟨q, PySem.W.cellsFrom_some _ _ _ (.inl q)⟩
  refine codeAny_call_function hr.depth (inK _ _ lk) rfl S.co S.gen rfl (PySem.W.codeRec_of inK hcd) (hb _ _ _ _ ?_)
  refine wpAny_newFunctionEnv_cells S.kind kinds fun env he s1 inCall => ?_
  subst he
  refine ⟨noLim.keeps inCall.toInCall.keep, codeAny_func ?_⟩
  obtain ⟨t, ht, hq⟩ := hbody cdv up s H vs Q E (hr.deeper _) hsp
  have I : Inv (cxOf CX P w K mg base N qual (defScope st) f cdv callerA up s H E) [] (start N vs) H s1 := inv_start S hr.hd e0 hlen r inCall
  refine wpAny_mono (ht.run [] s1 (start N vs) H _ I hq) (fun fl s' hs => ?_) fun e s' hs => hs
  have ends : ∀ {τ : L2.St} {G : Hp} {v : V} {u : Value}, Inv (cxOf CX P w K mg base N qual (defScope st) f cdv callerA up s H E) [] τ G s' → RelV v u → Q v G → CE up P w H s Q u s' :=
    fun J rv q => ⟨_, _, J.os, J.bare, J.base, J.hok, rv, q⟩
  match fl, hs with
  | .ret u, ⟨v, _, _, J, rv, q⟩ => exact ends J rv q
  | .next, ⟨_, _, J, q⟩ => exact ends (v := V.non) (u := Value.none) J rfl q
  | .brk, ⟨_, _, _, q⟩ => exact q.elim
  | .cont, ⟨_, _, _, q⟩ => exact q.elim
/-- the law's promise at the heap behind the top -/
theorem law_callC {P : Program} {w : World} {K : PySem.W.Frag} {mg mb : Str → Option Value} {CX : CXT} {fa a : Addr} {fd : FuncData} {x : Str} {sp : Sp} {s : Shared} {vs : List Value} {ns : List Int}
    (KX : K.In s.heap) (hns : s.heap.Ns mainGlobals mg) (hb : s.heap.Ns builtinsNs mb) (hbb : ∀ y : Str, y ≠ "__name__" → mb y = bootBuiltins y) (hlim : s.heap.NoLimit) (hgen : s.gens = #[])
    (ha : s.heap.get? a = some { cls := .type "list", data := .seq vs.toArray }) (hi : IntsAre vs ns) (hl : ns.length ≤ sizeLine)
    (F : ∀ base : Heap, K.In base → base.Ns mainGlobals mg → LawOk P w K mg base CX fa fd [x] sp) (hbind : ∀ (s : Shared) (u : Value), BindsTo s fd ⟨[u], []⟩ [(x, u)])
    (hsp : ∀ H : Hp, Only H → SqL K H a (ns.map V.int) → sp [.ref a] H (fun v _ => v = .bl true) fun _ _ _ => False)
    (hCX : ∀ H e s', CX [] H s (fun _ _ _ => False) e s' → False) :
    codeAny (model P w) callerA (.call (.ref fa) ⟨[.ref a], []⟩) (fun r s' => r = .ok (.ret (.bool true)) ∧ OldK s.heap s'.heap ∧ s'.os = s.os ∧ AllBare s'.gens) s := by
  have rv := vals_ints hi
  have lenV := hi.length
  have main : ∀ H : Hp, Only H → SqL K H a (ns.map V.int) → HOk P w H s.heap → (∀ b u, H b = some u → b = a ∧ K.lookup a = none) →
      codeAny (model P w) callerA (.call (.ref fa) ⟨[.ref a], []⟩) (fun r s' => r = .ok (.ret (.bool true)) ∧ OldK s.heap s'.heap ∧ s'.os = s.os ∧ AllBare s'.gens) s := by
    intro H hO hS hok only
    have up : ∀ {b : Addr} {o : Obj}, s.heap.get? b = some o → H b = none → (hidT s.heap H).get? b = some o := fun e n => hidT_get e n
    have dicts : ∀ {b : Addr} {o : Obj} {es : Array DictEntry} {ep : Nat}, s.heap.get? b = some o → o.data = .dict es ep → H b = none := by
      intro b o es ep e d
      match q : H b with
      | none => rfl
      | some u =>
        obtain ⟨rfl, _⟩ := only b u q
        rw [ha] at e
        cases e
        cases (show Data.seq vs.toArray _ = Data.dict es ep from d)
    have names : ∀ {b : Addr} {m : Str → Option Value}, s.heap.Ns b m → (hidT s.heap H).Ns b m := fun {b m} ⟨o, es, ep, e, d, r⟩ => ⟨o, es, ep, up e (dicts e d), d, r⟩
    have inB : K.In (hidT s.heap H) := fun b o e => up (KX b o e) (by
      match q : H b with
      | none => rfl
      | some u =>
        obtain ⟨rfl, z⟩ := only b u q
        rw [z] at e
        cases e)
    have hM : Mod K mg (hidT s.heap H) := ⟨inB, names hns, ⟨mb, names hb, hbb⟩, let ⟨mc, h1, h2⟩ := hlim; ⟨mc, names h1, h2⟩⟩
    have e0 : Env0 P w K mg (hidT s.heap H) callerA [] s H := ⟨rfl, hM, fun b o e => of_hidT e, Nat.le_of_eq (hidT_size _ _), trivial, fun b z => absurd (show b ∈ ([] : List Addr) from z) (by simp), hok, .of_eq hgen⟩
    refine codeAny_mono ((F _ inB (names hns)).run [] s H ⟨[.ref a], []⟩ [.ref a] [.ref a] _ _ e0 (hbind s (.ref a)) (.cons rfl .nil) (hsp H hO hS)) fun r s' h => ?_
    match r, h with
    | .error e, h => exact (hCX H e s' h).elim
    | .ok .next, h => exact h.elim
    | .ok .brk, h => exact h.elim
    | .ok .cont, h => exact h.elim
    | .ok (.ret u), h =>
      obtain ⟨v, H', os, bare, un, hok', r', q⟩ := h
      obtain rfl : v = .bl true := q
      obtain rfl : u = Value.bool true := r'
      refine ⟨rfl, OldK.of_keep fun b o e => ?_, os, bare⟩
      match q : H b with
      | none => exact un.keep b o e q (by intro z; exact absurd (show b ∈ ([] : List Addr) from z) (by simp)) (by simp)
      | some u =>
        rcases hO b with z | ⟨ob, xs, z⟩
        · rw [q] at z; cases z
        · obtain ⟨e1, _⟩ := hok b _ z
          obtain ⟨e2, _⟩ := hok' b _ (un.frzs b ob _ z)
          rw [e] at e1
          cases e1
          exact e2
  match hk : K.lookup a with
  | some o =>
    have e := KX a o hk
    rw [ha] at e
    cases e
    exact main (fun _ => none) (fun _ => .inl rfl) (.inr ⟨_, vs.toArray, _, hk, rfl, rfl, rfl, by rw [List.size_toArray, lenV]; exact hl, by simpa using rv⟩) (fun b u z => nomatch (show (none : Option HO) = some u from z)) fun b u z => nomatch (show (none : Option HO) = some u from z)
  | none =>
    have at_ : ∀ b u, (if b = a then some (HO.frz { cls := .type "list", data := .seq vs.toArray } (.lst (ns.map V.int))) else none) = some u → b = a ∧ u = HO.frz { cls := .type "list", data := .seq vs.toArray } (.lst (ns.map V.int)) := by
      intro b u z
      by_cases c : b = a
      · rw [if_pos c] at z; exact ⟨c, (Option.some.inj z).symm⟩
      · rw [if_neg c] at z; cases z
    refine main (fun b => if b = a then some (.frz { cls := .type "list", data := .seq vs.toArray } (.lst (ns.map V.int))) else none) (fun b => ?_) (.inl (.inr ⟨{ cls := .type "list", data := .seq vs.toArray }, if_pos rfl⟩)) (fun b u z => ?_) fun b u z => ⟨(at_ b u z).1, hk⟩
    · by_cases c : b = a
      · exact .inr ⟨_, _, if_pos c⟩
      · exact .inl (if_neg c)
    · obtain ⟨rfl, rfl⟩ := at_ b u z
      exact ⟨ha, by rw [List.length_map]; exact hl, vs, _, rv, ha⟩
theorem walk_ofC {l : PySem.W.OpenLaw} {n : Nat} {q : Program} {loose : List Str} {XP : (Str → Option Value) → Heap → Prop} {YP : World → Heap → Prop} {d : DefRec} {K : Params → PySem.W.Frag} {CX : World → CXT} {sp : World → Sp} {x : Str}
    (hn : l.most = some n) (hn2 : n ≤ sizeLine) (hdf : d.params.defaults = [])
    (hY : ∀ (w : World) (h : Heap), YP w h → (K w.params).In h)
    (F : ∀ (w : World) (mg : Str → Option Value) (fa : Addr) (h : Heap), (K w.params).In h → h.Ns mainGlobals mg → mg d.name = some (.ref fa) →
      ∃ fd : FuncData, (∀ (s : Shared) (u : Value), BindsTo s fd ⟨[u], []⟩ [(x, u)]) ∧
        ∀ base : Heap, (K w.params).In base → base.Ns mainGlobals mg → LawOk l.prog w (K w.params) mg base (CX w) fa fd [x] (sp w))
    (hsp : ∀ (w : World) (H : Hp) (a : Addr) (ns : List Int), ns.length ≤ n → Only H → SqL (K w.params) H a (ns.map V.int) → sp w [.ref a] H (fun v _ => v = .bl true) fun _ _ _ => False)
    (hCX : ∀ (w : World) (H : Hp) (s : Shared) (e : Value) (s' : Shared), CX w [] H s (fun _ _ _ => False) e s' → False) :
    PySem.W.WalkO q loose XP YP l.row.toRowW d [] (fun f vs => PySem.call f vs) := by
  refine Att.attach_call hn hdf fun w s₀ s₁ mg mb fa o pm cd doc a vs ns G Y ho hd hcd hmg hobj hints hlen hg => ?_
  have inH := hY w _ Y
  obtain ⟨fd, hb, hF⟩ := F w mg fa _ inH G.T.g hmg
  exact law_callC inH G.T.g G.T.b G.T.builtins G.T.nolimit hg hobj hints (Nat.le_trans hlen hn2) hF hb (fun H hO hS => hsp w H a ns hlen hO hS) fun H e s' => hCX w H s₁ e s'
end VS

/-! VS10: a, b = .. where a name is a cell; the law's stream. -/
namespace VS
open PySem PySem.Spec PyProof.Rows L2
variable {mg : Str → Option Value} {E : XK}
/-- through a pair that nobody else holds -/
theorem rs_parT {K : PySem.W.Frag} {i j : Nat} {ta tb : TE} {A B : DEnv → M Sl} (ha : RC mg E ta A) (hb : RC mg E tb B) : RS mg E (tAsg (tTup (tCons ta (tCons tb tNil))) (gTup K 2 (gCons (gName i) (gCons (gName j) gNil)))) (sPar i j A B) := by
  intro g st σ H env f Dn hg hs h
  unfold sPar at h
  by_cases c : i < env.length ∧ j < env.length
  · rw [if_pos c] at h
    refine ha (g.plus (Ow env f)) st σ H (cl env) _ (hs.good hg) hs.clean (Ans.plus (rel := rC mg (g.plus (Ow env f)) H) (Ow.out hs) hg.at_ (fun _ _ _ r => r) ((AnsS.bndX h (Tr.refl hg)).imp fun a st1 v H1 t1 r q => ?_))
    have tO : Tr g (Ow env f) st st1 H H1 := t1.weak fun _ z => z.elim
    obtain ⟨f1, s1, o1⟩ := hs.put hg t1 c.1 r
    refine hb (g.plus (Ow (env.set i a) f1)) st1 σ H1 (cl env) _ (s1.good t1.good) (hs.old t1 o1) (Ans.plus (rel := rC mg (g.plus (Ow (env.set i a) f1)) H1) (Ow.out s1) t1.good.at_ (fun _ _ _ r => r) ((AnsS.bndX (q tO) tO).imp fun b st2 u H2 t2 r2 q2 => ?_))
    have q3 := q2 (tO.trans0 t2)
    obtain ⟨f2, s2, o2⟩ := s1.put t1.good t2 (i := j) (by rw [List.length_set]; exact c.2) r2
    refine ⟨by show 2 ≤ sizeLine; decide, fun p hp => ?_⟩
    have t3 : Tr g O0 st2 st2 H2 (upd H2 p (.tup [v, u])) := Tr.new t2.good hp
    refine ⟨p, [v, u], rfl, SqT.of upd_same, rfl, v, [u], rfl, u, [], rfl, rfl, ?_⟩
    exact q3 _ _ f2 ((tO.trans0 t2).trans0 t3) (s2.tr t3) fun b z => (o2 b z).elim (o1 b) fun z => (tO.old b z).elim .inr .inl
  · rw [if_neg c] at h
    exact h.elim
theorem es_parT {X : Cx} {A B : DEnv → M Sl} {ta tb : TE} {a b : Expr} {pos : Pos} (i j : Nat) {x y : Str} {px py pt : Pos} {kt k2 pt2} (hN : X.N.Nodup) (ha : Ec X E a A ta) (hb : Ec X E b B tb) (hc : X.calm = true := by rfl) (hi : X.N[i]? = some x := by rfl) (hj : X.N[j]? = some y := by rfl)
    (hx : Loc X.env.scope x := by first | exact Or.inl rfl | exact Or.inr rfl) (hy : Loc X.env.scope y := by first | exact Or.inl rfl | exact Or.inr rfl) (fx : X.fn x = true ∨ X.env.scope.names.lookup x = some .local := by first | exact .inl rfl | exact .inr rfl | assumption) (fy : X.fn y = true ∨ X.env.scope.names.lookup y = some .local := by first | exact .inl rfl | exact .inr rfl | assumption)
    (h1 : starEach [a, b] X.env = (false, eval a X.env) :: starEach [b] X.env := by rfl) (h2 : starEach [b] X.env = (false, eval b X.env) :: starEach [] X.env := by rfl)
    (hs : swapsWithSole [.Tuple [.Name x px, .Name y py] kt pt] (.Tuple [a, b] k2 pt2) pos.line X.env = pure false := by rfl) (hw : swappedStores [.Tuple [.Name x px, .Name y py] kt pt] (.Tuple [a, b] k2 pt2) X.env = pure none := by rfl)
    (h3 : (assignEach [.Tuple [.Name x px, .Name y py] kt pt] X.env).map (·.2) = [assign (.Tuple [.Name x px, .Name y py] kt pt) X.env] := by rfl)
    (hpt : PG X (.Tuple [.Name x px, .Name y py] kt pt) (gTup X.K 2 (gCons (gName i) (gCons (gName j) gNil)))) : Es X E (.Assign [.Tuple [.Name x px, .Name y py] kt pt] (.Tuple [a, b] k2 pt2) pos) (sPar i j A B) (tAsg (tTup (tCons ta (tCons tb tNil))) (gTup X.K 2 (gCons (gName i) (gCons (gName j) gNil)))) :=
  ⟨ps_asg (pe_tup (pa_cons ha.pe (pa_cons hb.pe pa_nil h2) h1)) hpt hs hw h3, rs_parT ha.rc hb.rc⟩
/-! ### while, its fuel by the stream -/
def sWhile (n : Option SS → Nat) (C : DEnv → M Bool) (B : SEnv → M Fl) : SEnv → M Fl := fun env st => whGo C B (n st) env st
theorem es_whileS {X : Cx} {C : DEnv → M Bool} {tt : TT} {c : Expr} {body : List Stmt} {B : SEnv → M Fl} {tb : TS} {pos : Pos} (n : Option SS → Nat) (hp : PassesOwn (model X.prog X.w) X.A X.env X.xe) (hc : Et X E c C tt) (hb : Ess X E body B tb) : Es X E (.While c body [] pos) (sWhile n C B) (tWhile tt tb) :=
  ⟨ps_while hp hc.pt hb.pss, fun g st σ H env f Dn hg hs h => rs_while (n st) hc.rt hb.rs g st σ H env f Dn hg hs h⟩
/-! ### the stream -/
def stGet : Nat → SS → Option Int
  | 1, s => some s.a
  | 2, s => some s.b
  | 3, s => some s.c
  | _, _ => none
def stPut : Nat → SS → Int → Option SS
  | 1, s, x => some { s with a := x }
  | 2, s, x => some { s with b := x }
  | 3, s, x => some { s with c := x }
  | _, _, _ => none
/-- the slot i holds the stream -/
def isSt (env : DEnv) (i : Nat) : Bool := match env[i]? with
  | some (some .strm) => true
  | _ => false
def fStGet (i k : Nat) : DEnv → M D := fun env st => if isSt env i = true then (match st with
  | some s => (stGet k s).bind fun x => some (.ok (.int x), st)
  | none => none) else none
theorem isSt_of {env : DEnv} {i : Nat} (h : isSt env i = true) : env[i]? = some (some .strm) := by
  unfold isSt at h
  split at h
  · assumption
  · cases h
theorem Tr.put {g : Gx} {s s' : SS} {H : Hp} (hg : Good g (some s) H) (e : s'.cells = s.cells) : Tr g O0 (some s) (some s') H (upd H g.sa (.lst [.ref g.sl, .int s'.a, .int s'.b, .int s'.c])) := by
  obtain ⟨h1, h2, h3, h4, h5⟩ := hg.at_
  refine ⟨fun b o n1 _ e => by rw [upd_ne (show b ≠ g.sa from fun q => n1 (q ▸ h1))]; exact e, fun b hb k => by rw [upd_ne (k rfl).1], ⟨fun b hb => ?_, ?_⟩, rfl⟩
  · by_cases c : b = g.sa
    · exact ⟨_, by rw [c]; exact upd_same⟩
    · obtain ⟨o, eo⟩ := hg.dom b hb
      exact ⟨o, by rw [upd_ne c]; exact eo⟩
  · exact ⟨h1, h2, h3, upd_same, by rw [upd_ne (Ne.symm h3), e]; exact h5⟩
theorem Tr.cells {g : Gx} {s : SS} {H : Hp} {xs : List Int} (hg : Good g (some s) H) : Tr g O0 (some s) (some { s with cells := xs }) H (upd H g.sl (.lst (xs.map V.int))) := by
  obtain ⟨h1, h2, h3, h4, h5⟩ := hg.at_
  refine ⟨fun b o n1 _ e => by rw [upd_ne (show b ≠ g.sl from fun q => n1 (q ▸ h2))]; exact e, fun b hb k => by rw [upd_ne (k rfl).2], ⟨fun b hb => ?_, ?_⟩, rfl⟩
  · by_cases c : b = g.sl
    · exact ⟨_, by rw [c]; exact upd_same⟩
    · obtain ⟨o, eo⟩ := hg.dom b hb
      exact ⟨o, by rw [upd_ne c]; exact eo⟩
  · exact ⟨h1, h2, h3, by rw [upd_ne h3]; exact h4, upd_same⟩
theorem re_stGet {K : PySem.W.Frag} (i k : Nat) : RE mg E (tOp (rIx K) (tVar i) (tC (.int (k : Nat)))) (fStGet i k) := by
  intro g st σ H env Q hg he h
  unfold fStGet at h
  by_cases c : isSt env i = true
  · simp only [if_pos c] at h
    obtain ⟨v, e1, e2⟩ := he.val i _ (isSt_of c)
    obtain rfl : v = .ref g.sa := e2
    cases st with
    | none => exact h.elim
    | some s =>
      obtain ⟨h1, h2, h3, h4, h5⟩ := hg.at_
      refine ⟨_, e1, .inl ⟨g.sa, [.ref g.sl, .int s.a, .int s.b, .int s.c], (k : Int), ?_⟩⟩
      match k, h with
      | 1, h => exact ⟨_, rfl, rfl, SqL.of h4, rfl, h _ _ (Tr.refl hg) rfl⟩
      | 2, h => exact ⟨_, rfl, rfl, SqL.of h4, rfl, h _ _ (Tr.refl hg) rfl⟩
      | 3, h => exact ⟨_, rfl, rfl, SqL.of h4, rfl, h _ _ (Tr.refl hg) rfl⟩
      | 0, h => exact h.elim
      | k + 4, h => exact h.elim
  · simp only [if_neg c] at h
    exact h.elim
/-- stream[k] -/
theorem ev_stGet {X : Cx} (i k : Nat) {p q pos : Pos} {x : Str} {j} (hN : X.N[i]? = some x := by rfl) (hv : Vis X.env.scope x := by first | exact Or.inl rfl | exact Or.inr (Or.inl rfl) | exact Or.inr (Or.inr rfl)) (hd : (x == ("__debug__" : Str)) = false := by decide)
    (hcd : (x == ("__classdict__" : Str)) = false := by decide) : Ev X E (.Subscript (.Name x p) (.Constant (.int (k : Nat)) j q) pos) (fStGet i k) (tOp (rIx X.K) (tVar i) (tC (.int (k : Nat)))) := ⟨pe_ix ix_seq (pe_var hN hv hd hcd) pe_int (fun _ _ => rfl), re_stGet i k⟩
/-- stream[k] = e -/
def sStPut (i k : Nat) (A : DEnv → M D) : SEnv → M Fl := fun env => if isSt (cl env) i = true then bnd (A (cl env)) fun d st => (match st, d with
  | some s, .int x => (stPut k s x).bind fun s' => some (.ok (.nx env), some s')
  | _, _ => none) else stuck
theorem stPut_cells {k : Nat} {s s' : SS} {x : Int} (h : stPut k s x = some s') : s'.cells = s.cells := by
  match k, h with
  | 1, h => cases h; rfl
  | 2, h => cases h; rfl
  | 3, h => cases h; rfl
theorem rs_stPut {te : TE} {A : DEnv → M D} (i k : Nat) (ha : RE mg E te A) : RS mg E (tAsg te (gSub (tVar i) (tC (.int (k : Nat))) rSetL)) (sStPut i k A) := by
  intro g st σ H env f Dn hg hs h
  unfold sStPut at h
  by_cases c : isSt (cl env) i = true
  · rw [if_pos c] at h
    refine ha (g.plus (Ow env f)) st σ H (cl env) _ (hs.good hg) hs.clean (Ans.plus (rel := rV mg (g.plus (Ow env f))) (Ow.out hs) hg.at_ (fun _ _ _ r => r) ((AnsS.bnd0 h).imp fun d st1 v H1 t1 r q => ?_))
    match st1, d, t1, r, q with
    | some s, .int x, t1, r, q =>
      obtain rfl : v = .int x := r
      have hs1 := hs.tr t1
      obtain ⟨u, e1, e2⟩ := hs1.clean.val i _ (isSt_of c)
      obtain rfl : u = .ref g.sa := e2
      obtain ⟨h1, h2, h3, h4, h5⟩ := t1.good.at_
      cases es : stPut k s x with
      | none => simp only [es] at q; exact q.elim
      | some s' =>
        simp only [es] at q
        have t2 := Tr.put (s' := s') t1.good (stPut_cells es)
        have hk : ∃ jj, ixN 4 (k : Int) = some jj ∧ ([.ref g.sl, .int s.a, .int s.b, .int s.c] : List V).set jj (.int x) = [.ref g.sl, .int s'.a, .int s'.b, .int s'.c] := by
          match k, es with
          | 1, es => cases es; exact ⟨1, rfl, rfl⟩
          | 2, es => cases es; exact ⟨2, rfl, rfl⟩
          | 3, es => cases es; exact ⟨3, rfl, rfl⟩
        obtain ⟨jj, ej, es2⟩ := hk
        refine ⟨_, e1, g.sa, [.ref g.sl, .int s.a, .int s.b, .int s.c], k, jj, rfl, rfl, h4, ej, ?_⟩
        rw [es2]
        exact q σ _ f ((t1.trans0 t2).weak fun _ z => z.elim) (hs1.tr t2) fun b z => .inl z
    | none, _, _, _, q => exact q.elim
    | some _, .non, _, _, q | some _, .bl _, _, _, q | some _, .str _, _, _, q | some _, .lst _, _, _, q | some _, .tup _, _, _, q | some _, .dct _, _, _, q | some _, .obj _ _, _, _, q | some _, .strm, _, _, q | some _, .ty _, _, _, q | some _, .cls _, _, _, q => exact q.elim
  · rw [if_neg c] at h
    exact h.elim
theorem es_stPut {X : Cx} (i k : Nat) {e : Expr} {te : TE} {A : DEnv → M D} {p q p1 pos : Pos} {x : Str} {j} (ha : Ev X E e A te) (hi : X.N[i]? = some x := by rfl) (hv : Vis X.env.scope x := by first | exact Or.inl rfl | exact Or.inr (Or.inl rfl) | exact Or.inr (Or.inr rfl)) (hd : (x == ("__debug__" : Str)) = false := by decide) (hcd : (x == ("__classdict__" : Str)) = false := by decide)
    (has : ∀ v, assign (.Subscript (.Name x p) (.Constant (.int (k : Nat)) j q) p1) X.env v = (do
      let ov ← holding [v] (eval (.Name x p) X.env)
      let iv ← holding [v, ov] (eval (.Constant (.int (k : Nat)) j q) X.env)
      standAt p1
      holding [v, ov, iv] (setItem ov iv v)
      release [v, ov, iv] []) := by intro _; rfl) (hs : swapsWithSole [.Subscript (.Name x p) (.Constant (.int (k : Nat)) j q) p1] e pos.line X.env = pure false := by rfl) (hw : swappedStores [.Subscript (.Name x p) (.Constant (.int (k : Nat)) j q) p1] e X.env = pure none := by rfl)
    (h1 : (assignEach [.Subscript (.Name x p) (.Constant (.int (k : Nat)) j q) p1] X.env).map (·.2) = [assign (.Subscript (.Name x p) (.Constant (.int (k : Nat)) j q) p1) X.env] := by rfl) :
    Es X E (.Assign [.Subscript (.Name x p) (.Constant (.int (k : Nat)) j q) p1] e pos) (sStPut i k A) (tAsg te (gSub (tVar i) (tC (.int (k : Nat))) rSetL)) := ⟨ps_asg ha.pe (pg_sub (pe_var hi hv hd hcd) pe_int set_list has) hs hw h1, rs_stPut i k ha.re⟩
/-- stream[0] != [] -/
def fStMore (i : Nat) : DEnv → M Bool := fun env st => if isSt env i = true then (match st with
  | some s => some (.ok (!s.cells.isEmpty), st)
  | none => none) else none
theorem eqv_ints : ∀ (xs : List Int), PyData.eqv (.list (xs.map PyData.int)) (.list []) = xs.isEmpty
  | [] => rfl
  | x :: r => rfl
theorem lay_ints : ∀ (xs : List Int), PyData.canLayAll0 (xs.map PyData.int) = true ∧ PyData.depthAll (xs.map PyData.int) = 0
  | [] => ⟨by simp [PyData.canLayAll0], by simp [PyData.depthAll]⟩
  | x :: r => by
    obtain ⟨h1, h2⟩ := lay_ints r
    exact ⟨by simp [PyData.canLayAll0, PyData.canLay0, h1], by simp [PyData.depthAll, PyData.depth, h2]⟩
theorem shaped_ints (xs : List Int) : SeqAt.shaped (.list (xs.map PyData.int)) = true := by
  obtain ⟨h1, h2⟩ := lay_ints xs
  simp [SeqAt.shaped, PyData.canLay0, PyData.depth, h1, h2]
theorem dp_ints {K : PySem.W.Frag} {H : Hp} : ∀ (xs : List Int), DpAll K H (xs.map V.int) (xs.map PyData.int)
  | [] => .nil
  | x :: r => .cons (.int x) (dp_ints r)
theorem rt_stMore {K : PySem.W.Frag} (i : Nat) : RT mg E (tTest (tOp (rOr rNe (rNeD K)) (tOp (rIx K) (tVar i) (tC (.int 0))) (tLst tNil))) (fStMore i) := by
  intro g st σ H env Q hg he h
  unfold fStMore at h
  by_cases c : isSt env i = true
  · simp only [if_pos c] at h
    obtain ⟨v, e1, e2⟩ := he.val i _ (isSt_of c)
    obtain rfl : v = .ref g.sa := e2
    cases st with
    | none => exact h.elim
    | some s =>
      obtain ⟨h1, h2, h3, h4, h5⟩ := hg.at_
      refine ⟨_, e1, .inl ⟨g.sa, [.ref g.sl, .int s.a, .int s.b, .int s.c], 0, .ref g.sl, rfl, rfl, SqL.of h4, rfl, ?_⟩⟩
      refine ⟨Nat.zero_le _, fun p hp => ?_⟩
      have t : Tr g O0 (some s) (some s) H (upd H p (.lst [])) := Tr.new hg hp
      have hsl : upd H p (.lst []) g.sl = some (.lst (s.cells.map V.int)) := by rw [upd_ne (show g.sl ≠ p from fun q => by rw [q, hp] at h5; cases h5)]; exact h5
      refine .inr ⟨.list (s.cells.map PyData.int), .list [], .lst (SqL.of hsl) (dp_ints _), .lst (SqL.of upd_same) .nil, shaped_ints _, shaped_ints [], ?_⟩
      refine ⟨_, rfl, ?_⟩
      rw [eqv_ints]
      exact h _ _ t rfl
  · simp only [if_neg c] at h
    exact h.elim
/-- stream[0].pop(0) -/
def fStPop (i : Nat) : DEnv → M D := fun env st => if isSt env i = true then (match st with
  | some s => (match s.cells with
    | x :: r => some (.ok (.int x), some { s with cells := r })
    | [] => none)
  | none => none) else none
theorem re_stPop {K : PySem.W.Frag} (i : Nat) : RE mg E (tBM K "list" rPopAt (tOp (rIx K) (tVar i) (tC (.int 0))) (tCons (tC (.int 0)) tNil)) (fStPop i) := by
  intro g st σ H env Q hg he h
  unfold fStPop at h
  by_cases c : isSt env i = true
  · simp only [if_pos c] at h
    obtain ⟨v, e1, e2⟩ := he.val i _ (isSt_of c)
    obtain rfl : v = .ref g.sa := e2
    cases st with
    | none => exact h.elim
    | some s =>
      obtain ⟨h1, h2, h3, h4, h5⟩ := hg.at_
      refine ⟨_, e1, .inl ⟨g.sa, [.ref g.sl, .int s.a, .int s.b, .int s.c], 0, .ref g.sl, rfl, rfl, SqL.of h4, rfl, ?_⟩⟩
      refine ⟨.inl ⟨rfl, _, SqL.of h5⟩, ?_⟩
      cases ec : s.cells with
      | nil => simp only [ec] at h; exact h.elim
      | cons x r =>
        simp only [ec] at h
        rw [ec] at h5
        refine ⟨g.sl, (x :: r).map V.int, 0, 0, .int x, rfl, rfl, h5, by decide, by decide, ?_, rfl, ?_⟩
        · rw [List.length_map, List.length_cons]
          show (if _ then _ else _) = _
          simp
        · exact h _ _ (Tr.cells hg) rfl
  · simp only [if_neg c] at h
    exact h.elim
section
variable {X : Cx} {x : Str} {p q r pos a1 c1 : Pos} {j j2}
theorem et_stMore (i : Nat) (hu : X.A.units + 64 < cLine) (hi : X.N[i]? = some x := by rfl) (hv : Vis X.env.scope x := by first | exact Or.inl rfl | exact Or.inr (Or.inl rfl) | exact Or.inr (Or.inr rfl)) (hd : (x == ("__debug__" : Str)) = false := by decide) (hcd : (x == ("__classdict__" : Str)) = false := by decide)
    (hm : behindInMarks .NotEq (.List [] r) = false := by first | exact nomark _ | rfl) :
    Et X E (.Compare (.Subscript (.Name x p) (.Constant (.int 0) j q) a1) [.NotEq] [.List [] r] pos) (fStMore i) (tTest (tOp (rOr rNe (rNeD X.K)) (tOp (rIx X.K) (tVar i) (tC (.int 0))) (tLst tNil))) :=
  ⟨pt_cmpR (OpR.or op_ne (op_neD hu)) (pe_ix ix_seq (pe_var hi hv hd hcd) pe_int (fun _ _ => rfl)) (pe_lst pa_nil) hm, rt_stMore i⟩
theorem ev_stPop (i : Nat) (hi : X.N[i]? = some x := by rfl) (hv : Vis X.env.scope x := by first | exact Or.inl rfl | exact Or.inr (Or.inl rfl) | exact Or.inr (Or.inr rfl)) (hd : (x == ("__debug__" : Str)) = false := by decide) (hcd : (x == ("__classdict__" : Str)) = false := by decide)
    (hb : attributeBase (.Subscript (.Name x p) (.Constant (.int 0) j q) r) (Str.ofString "pop") X.env (eval (.Subscript (.Name x p) (.Constant (.int 0) j q) r) X.env) = eval (.Subscript (.Name x p) (.Constant (.int 0) j q) r) X.env := by rfl)
    (hf : ((backTo c1 (starEach [.Constant (.int 0) j2 pos] X.env)).all (fun x => !x.1) && (backToKw c1 (keywordEach [] X.env)).all (fun x => x.1.isSome)
      && decide (([.Constant (.int 0) j2 pos] : List Expr).length + ([] : List Keyword).length + (if ([] : List Keyword).isEmpty then 0 else 1) < 30)) = true := by rfl) (hl : (a1.endLine == c1.line) = true := by rfl) (hs : starEach [.Constant (.int 0) j2 pos] X.env = (false, eval (.Constant (.int 0) j2 pos) X.env) :: starEach [] X.env := by rfl)
    (hpl : (backTo c1 (starEach [] X.env)).any (·.1) = false := by rfl) : Ev X E (.Call (.Attribute (.Subscript (.Name x p) (.Constant (.int 0) j q) r) (Str.ofString "pop") a1) [.Constant (.int 0) j2 pos] [] c1) (fStPop i) (tBM X.K "list" rPopAt (tOp (rIx X.K) (tVar i) (tC (.int 0))) (tCons (tC (.int 0)) tNil)) :=
  ⟨pe_bm PySem.F.plainAttrs_list PySem.F.slot_list_pop PySem.F.type_list_pop mt_popAt (pe_ix ix_seq (pe_var hi hv hd hcd) pe_int (fun _ _ => rfl)) (pa_cons pe_int pa_nil hs) hb hf hl hs hpl, re_stPop i⟩
end
end VS

/-! VS11: -x; dicts of names as keys; a def that is never entered. -/
namespace VS
open PySem PySem.Spec PyProof.Rows L2
variable {mg : Str → Option Value} {E : XK}
def oNeg : D → Option D
  | .int i => some (.int (-i))
  | _ => none
theorem ev_neg {X : Cx} {a : Expr} {A : DEnv → M D} {ta : TE} {pos : Pos} (ha : Ev X E a A ta) : Ev X E (.UnaryOp .USub a pos) (fUn oNeg A) (tUn (rU fun i => .int (-i)) ta) := by
  refine ⟨pe_un un_neg ha.pe, re_un (fun g st H x dx d Q hg hx e q => ?_) ha.re⟩
  match dx, hx, e with
  | .int i, hx, e =>
    cases e
    exact ⟨i, hx, q _ _ (Tr.refl hg) rfl⟩
/-- [(name, 0), ..]: the names -/
def nm0 : List D → Option (List Str)
  | [] => some []
  | .tup [.str x, .int 0] :: r => (nm0 r).map (x :: ·)
  | _ => none
def nub : List Str → List Str → List Str
  | acc, [] => acc
  | acc, x :: r => if x ∈ acc then nub acc r else nub (acc ++ [x]) r
def kv0 (x : Str) : Key × V := (.inr x, .int 0)
theorem put0 (acc : List Str) (x : Str) : putK (acc.map kv0) (.inr x) (.int 0) = (if x ∈ acc then acc else acc ++ [x]).map kv0 := by
  unfold putK
  have ha : ((acc.map kv0).any fun kv => decide (kv.1 = (.inr x : Key))) = decide (x ∈ acc) := by
    rw [List.any_map]
    induction acc with
    | nil => rfl
    | cons y r ih =>
      rw [List.any_cons, ih]
      by_cases c : y = x
      · subst c; simp [kv0]
      · have : ¬ (kv0 y).1 = (.inr x : Key) := fun z => c (Sum.inr.inj z)
        have c' : ¬ x = y := fun z => c z.symm
        simp [this, c']
  by_cases c : x ∈ acc
  · rw [ha, if_pos (by simpa using c), if_pos c, List.map_map]
    refine List.map_congr_left fun y hy => ?_
    show (if (kv0 y).1 = (.inr x : Key) then ((kv0 y).1, V.int 0) else kv0 y) = kv0 y
    by_cases e : (kv0 y).1 = (.inr x : Key)
    · rw [if_pos e]; rfl
    · rw [if_neg e]
  · rw [ha, if_neg (by simpa using c), if_neg c, List.map_append]
    rfl
theorem merge0 : ∀ (r acc : List Str), mergeK (acc.map kv0) (r.map kv0) = (nub acc r).map kv0
  | [], acc => rfl
  | x :: r, acc => by
    show mergeK (putK (acc.map kv0) (.inr x) (.int 0)) (r.map kv0) = _
    rw [put0]
    unfold nub
    by_cases c : x ∈ acc
    · rw [if_pos c, if_pos c]; exact merge0 r acc
    · rw [if_neg c, if_neg c]; exact merge0 r (acc ++ [x])
theorem nm0_paired {K : PySem.W.Frag} {sa : Addr} {H G : Hp} (s : Same H G) : ∀ {ds : List D} {xs : List V} {ns : List Str}, nm0 ds = some ns → HDs mg sa H ds xs → ∃ ps : List Addr, xs = ps.map V.ref ∧ Paired (fun p kv => SqT K G p [kV kv.1, kv.2]) ps (ns.map kv0)
  | [], _, ns, e, h => by
    cases e
    cases (show _ = _ from h)
    exact ⟨[], rfl, .nil⟩
  | .tup [.str x, .int 0] :: r, _, ns, e, h => by
    simp only [nm0] at e
    obtain ⟨ms, e1, rfl⟩ := Option.map_eq_some_iff.mp e
    obtain ⟨v, vs, rfl, h1, h2⟩ := h
    obtain ⟨p, ys, rfl, k1, k2⟩ := h1
    obtain ⟨u, w, rfl, j1, j2⟩ := k2.inv2
    cases (show u = _ from j1)
    cases (show w = _ from j2)
    obtain ⟨ps, rfl, P⟩ := nm0_paired s e1 h2
    exact ⟨p :: ps, rfl, .cons (SqT.of (s _ _ k1)) P⟩
def bDict0 : List D → Option D
  | [.lst ds] => (nm0 ds).map fun ns => .dct ((nub [] ns).map fun x => (.str x, .int 0))
  | _ => none
theorem hdk0 {sa : Addr} {H : Hp} : ∀ ns : List Str, HDk mg sa H (ns.map fun x => (D.str x, D.int 0)) (ns.map kv0)
  | [] => rfl
  | x :: r => ⟨.inr x, .int 0, _, rfl, rfl, rfl, hdk0 r⟩
theorem ok_dict0 {K : PySem.W.Frag} : CallOk mg (fun xs H Q => ∃ (a : Addr) (ps : List Addr) (kvs : List (Key × V)), xs = [.ref a] ∧ SqL K H a (ps.map V.ref) ∧ Paired (fun p kv => SqT K H p [kV kv.1, kv.2]) ps kvs ∧
    ∀ p, H p = none → Q (.ref p) (upd H p (.dK (mergeK [] kvs)))) bDict0 := by
  intro g st H xs ds d Q hg hx e q
  match ds, e, hx with
  | [.lst es], e, hx =>
    obtain ⟨ns, e1, rfl⟩ := Option.map_eq_some_iff.mp e
    obtain ⟨v, rfl, h⟩ := hx.inv1
    obtain ⟨a, ys, rfl, h1, h2⟩ := h
    obtain ⟨ps, rfl, P⟩ := nm0_paired (K := K) hide_sub e1 h2
    refine ⟨a, ps, _, rfl, SqL.of (of_hide h1).2, P, fun p hp => ?_⟩
    have t : Tr g O0 st st H (upd H p (.dK (mergeK [] (ns.map kv0)))) := Tr.new hg hp
    refine q _ _ t ⟨p, rfl, .inl ⟨(nub [] ns).map kv0, hide_of (hg.fresh hp) ?_, hdk0 _⟩⟩
    rw [← merge0 ns []]
    exact upd_same
theorem call_dict0' {X : Cx} (hc : X.calm = true) : CallR X (.type "dict") (fun xs H Q => ∃ (a : Addr) (ps : List Addr) (kvs : List (Key × V)), xs = [.ref a] ∧ SqL X.K H a (ps.map V.ref) ∧ Paired (fun p kv => SqT X.K H p [kV kv.1, kv.2]) ps kvs ∧
    ∀ p, H p = none → Q (.ref p) (upd H p (.dK (mergeK [] kvs)))) := call_dictP hc
/-- the names that are a dict's keys -/
def nmK : List (D × D) → Option (List Str)
  | [] => some []
  | (.str x, _) :: r => (nmK r).map (x :: ·)
  | _ => none
theorem kD_str {j : Key} {x : Str} (e : D.str x = kD j) : j = .inr x := by
  cases j with
  | inl i => cases e
  | inr y => cases e; rfl
theorem nmK_keys {sa : Addr} {H : Hp} : ∀ {kvs : List (D × D)} {es : List (Key × V)} {ns : List Str}, nmK kvs = some ns → HDk mg sa H kvs es → es.map (·.1) = ns.map Sum.inr
  | [], _, ns, e, h => by
    cases e
    cases (show _ = _ from h)
    rfl
  | (.str x, d) :: r, _, ns, e, h => by
    simp only [nmK] at e
    obtain ⟨ms, e1, rfl⟩ := Option.map_eq_some_iff.mp e
    obtain ⟨j, v, vs, rfl, ek, h1, h2⟩ := h
    rw [List.map_cons, List.map_cons, nmK_keys e1 h2, kD_str ek]
theorem HDk.noT {sa : Addr} {H : Hp} {kvs : List (D × D)} {es : List (List Key × V)} {ns : List Str} (e : nmK kvs = some ns) (h : HDt mg sa H kvs es) : kvs = [] ∧ es = [] := by
  cases kvs with
  | nil => exact ⟨rfl, h⟩
  | cons p r =>
    obtain ⟨k, d⟩ := p
    obtain ⟨j, v, vs, rfl, ek, h1, h2⟩ := h
    subst ek
    cases e
def srtK : D → Option (List D)
  | .dct kvs => (nmK kvs).bind fun ns => if ns.length < 64 ∧ ns ≠ [] then some ((sortS ns).map D.str) else none
  | _ => none
theorem ok_sortedD : NewOk mg (fun xs H Q => ∃ (a : Addr) (kvs : List (Key × V)) (ks : List Str), xs = [.ref a] ∧ Rd H a (.dK kvs) ∧ kvs.map (·.1) = ks.map Sum.inr ∧ ks.length < 64 ∧
    ∀ ys p, ys.Perm ks → sortedS ys = true → H p = none → Q (.ref p) (upd H p (.lst (ys.map V.str)))) (one srtK) := by
  intro g st H xs ds es Q hg hx e q
  obtain ⟨d, rfl, e2⟩ := one_inv e
  obtain ⟨v, rfl, h⟩ := hx.inv1
  match d, e2, h with
  | .dct kvs, e2, h =>
    obtain ⟨ns, e3, e4⟩ := Option.bind_eq_some_iff.mp e2
    obtain ⟨c, rfl⟩ := ite_some e4
    obtain ⟨a, rfl, ⟨es, h1, h2⟩ | ⟨es, h1, h2⟩⟩ := h
    · refine ⟨a, es, ns, rfl, .inl (of_hide h1).2, nmK_keys e3 h2, c.1, fun ys p hp hs hH => ?_⟩
      rw [sortS_eq hp hs]
      exact q p _ hH (HDs.strs.mpr rfl)
    · obtain ⟨rfl, rfl⟩ := HDk.noT e3 h2
      cases e3
      exact absurd rfl c.2
/-- a def that is entered no more -/
theorem fnok_stuck {P : Program} {w : World} {K : PySem.W.Frag} {base : Heap} {CX : CXT} {k n : Nat} {f : Addr} {fd : FuncData} {ps : List Str} : FnOk P w K mg base CX k f fd ps (spD mg n fun _ => stuck) :=
  ⟨fun vs H Q E h => by obtain ⟨g, st, ds, _, _, _, an⟩ := h; exact an.elim, fun A outer s H args us vs Q E hr he hb hv h => by obtain ⟨g, st, ds, _, _, _, an⟩ := h; exact an.elim⟩
/-- a function by its depth -/
def lev (F : (List D → M D) → List D → M D) : Nat → List D → M D
  | 0 => fun _ => stuck
  | n + 1 => F (lev F n)
theorem fnok_rec {P : Program} {w : World} {K : PySem.W.Frag} {base : Heap} {CX : CXT} {c n : Nat} {f : Addr} {fd : FuncData} {ps : List Str} {F : (List D → M D) → List D → M D}
    (step : ∀ (k : Nat) (r : List D → M D), c ≤ k → FnOk P w K mg base CX k f fd ps (spD mg n r) → FnOk P w K mg base CX (k + 1) f fd ps (spD mg n (F r))) : ∀ m, FnOk P w K mg base CX (c + m) f fd ps (spD mg n (lev F m))
  | 0 => fnok_stuck
  | m + 1 => step (c + m) _ (Nat.le_add_right _ _) (fnok_rec step m)
end VS

/-! VS12: for over a range told by own lists; short words for the printed proofs. -/
namespace VS
open PySem PySem.Spec PyProof.Rows L2
variable {mg : Str → Option Value} {E : XK}
theorem for_core {g : Gx} {st1 : Option SS} {σ : L2.St} {H1 : Hp} {env : SEnv} {f : Nat → Addr} {Dn : Ends} {J : It} {ds : List D} {t : TG} {tb : TS} {tg : D → SEnv → Option SEnv} {B : SEnv → M Fl} (ht : RGS mg t tg) (hb : RS mg E tb B) (gd1 : Good g st1 H1) (hs1 : SOk mg g H1 σ env f)
    (wd : WD mg g.sa (hide (g.plus (Ow env f)).S H1) J ds) (q : AnsS mg E g (Ow env f) st1 H1 (forGo tg B ds env st1) Dn) :
    ∃ W : Nat → Nat → L2.St → Hp → Prop, (∃ m, W 0 m σ H1) ∧ ∀ i m σ H, W i m σ H →
      (J.stop i H ∧ Dn.nx σ H) ∨ (J.go i H ∧ ∃ N : L2.St → Hp → Prop, (∀ σ' H', N σ' H' → ∃ m', m' < m ∧ W (i + 1) m' σ' H') ∧ ∀ v H', J.yld i H v H' → t v σ H' fun σ2 H2 => tb { Dn with nx := N, ct := N, bk := Dn.nx } σ2 H2) := by
  refine ⟨fun i m σ2 H2 => i + m = ds.length ∧ ∃ env2 f2 st2, Tr g (Ow env f) st1 st2 H1 H2 ∧ SOk mg g H2 σ2 env2 f2 ∧ (∀ b, Ow env2 f2 b → Ow env f b ∨ H1 b = none) ∧ AnsS mg E g (Ow env f) st1 H1 (forGo tg B (ds.drop i) env2 st2) Dn,
    ⟨ds.length, by omega, env, f, st1, Tr.refl gd1, hs1, fun b z => .inl z, q⟩, ?_⟩
  rintro i m σ2 H2 ⟨him, env2, f2, st2, t2, s2, o2, an⟩
  have sG : Same (hide (g.plus (Ow env f)).S H1) (hide (g.plus (Ow env2 f2)).S H2) := fun b o e => by
    obtain ⟨e1, e2⟩ := of_hide e
    refine hide_of (fun z => z.elim (fun z => e1 (.inl z)) fun z => (o2 b z).elim (fun z => e1 (.inr z)) fun z => by rw [z] at e2; cases e2) (t2.keep b o (fun z => e1 (.inl z)) (fun z => e1 (.inr z)) e2)
  have gd2 : Good (g.plus (Ow env2 f2)) st2 H2 := s2.good t2.good
  by_cases hlt : i < ds.length
  · refine .inr ⟨wd.goes i H2 _ hlt gd2.dom sG, fun σ' H' => ∃ env' f' st', Tr g (Ow env f) st1 st' H1 H' ∧ SOk mg g H' σ' env' f' ∧ (∀ b, Ow env' f' b → Ow env f b ∨ H1 b = none) ∧ AnsS mg E g (Ow env f) st1 H1 (forGo tg B (ds.drop (i + 1)) env' st') Dn, fun σ' H' n => ⟨m - 1, by omega, by omega, n⟩, fun x H3 y => ?_⟩
    have ed : ds[i]? = some ds[i] := List.getElem?_eq_getElem hlt
    obtain ⟨t3, hx3⟩ := WD.step (O := O0) wd gd2 ed sG y
    obtain ⟨t3', s3⟩ := s2.trP t2.good t3
    have edr : ds.drop i = ds[i] :: ds.drop (i + 1) := List.drop_eq_getElem_cons hlt
    rw [edr] at an
    unfold forGo at an
    cases ef : tg ds[i] env2 with
    | none => rw [ef] at an; exact an.elim
    | some env3 =>
      rw [ef] at an
      refine ht g H3 σ2 x ds[i] env2 env3 f2 _ s3 hx3 ef fun σ3 s4 o4 => ?_
      have t13 : Tr g (Ow env f) st1 st2 H1 H3 := t2.trans0 t3'
      have o13 : ∀ b, Ow env3 f2 b → Ow env f b ∨ H1 b = none := fun b z => o2 b (o4 b z)
      refine hb g st2 σ3 H3 env3 f2 _ t3'.good s4 ?_
      have an' : AnsS mg E g (Ow env f) st1 H1 (bnd (B env3) (fun r => match r with
        | .nx e => forGo tg B (ds.drop (i + 1)) e
        | .ct e => forGo tg B (ds.drop (i + 1)) e
        | .bk e => ret (.nx e)
        | .rt d => ret (.rt d)
        | .rf d => ret (.rf d)) st2) Dn := an
      unfold bnd at an'
      have stp : ∀ {st' : Option SS} {σ' : L2.St} {H' : Hp} {e : SEnv} {f' : Nat → Addr}, Tr g (Ow env3 f2) st2 st' H3 H' → SOk mg g H' σ' e f' → (∀ b, Ow e f' b → Ow env3 f2 b ∨ H3 b = none) → Tr g (Ow env f) st1 st' H1 H' ∧ ∀ b, Ow e f' b → Ow env f b ∨ H1 b = none :=
        fun t' s' o' => ⟨t13.trans t' o13, fun b z => (o' b z).elim (o13 b) fun z => (t13.old b z).elim .inr .inl⟩
      match e : B env3 st2, an' with
      | some (.ok (.nx e'), st'), an' =>
        intro σ' H' f' t' s' o'
        obtain ⟨k1, k2⟩ := stp t' s' o'
        exact ⟨e', f', st', k1, s', k2, an'⟩
      | some (.ok (.ct e'), st'), an' =>
        intro σ' H' f' t' s' o'
        obtain ⟨k1, k2⟩ := stp t' s' o'
        exact ⟨e', f', st', k1, s', k2, an'⟩
      | some (.ok (.bk e'), st'), an' =>
        intro σ' H' f' t' s' o'
        obtain ⟨k1, k2⟩ := stp t' s' o'
        exact an' σ' H' f' k1 s' k2
      | some (.ok (.rt d), st'), an' => exact fun v H' t' q' => an' v H' (t13.trans t' o13) q'
      | some (.ok (.rf d), st'), an' => exact fun p xs H' t' o' nS hp hx => an' p xs H' (t13.trans t' o13) (o'.elim (o13 p) fun z => (t13.old p z).elim .inr .inl) nS hp hx
      | some (.error x, st'), an' => exact fun C xd v H' e1 t' q1 q2 => an' C xd v H' e1 (t13.trans t' o13) q1 q2
      | none, an' => exact an'.elim
  · have e : i = ds.length := by omega
    subst e
    refine .inl ⟨wd.stops H2 _ gd2.dom sG, ?_⟩
    rw [List.drop_length] at an
    exact an σ2 H2 f2 t2 s2 o2

/-- a walk that leans on nothing -/
def RIA (mg : Str → Option Value) (E : XK) (wi : TI) (F : DEnv → M (List D)) : Prop := ∀ (g : Gx) (st : Option SS) (σ : L2.St) (H : Hp) (env : DEnv) (R : It → Hp → Prop), Good g st H → EnvOk mg g H σ env →
  Ans mg E (fun ds J H' => ∀ G0, WD mg g.sa G0 J ds) g st H (F env st) (fun _ _ J H' => R J H') → wi σ H R
def sForA (Fi : DEnv → M (List D)) (tg : D → SEnv → Option SEnv) (B : SEnv → M Fl) : SEnv → M Fl := fun env => bnd (Fi (al env)) fun ds => forGo tg B ds env
theorem rs_forA {wi : TI} {t : TG} {tb : TS} {Fi : DEnv → M (List D)} {tg : D → SEnv → Option SEnv} {B : SEnv → M Fl} (hi : RIA mg E wi Fi) (ht : RGS mg t tg) (hb : RS mg E tb B) : RS mg E (tFor wi t tb) (sForA Fi tg B) := by
  intro g st σ H env f Dn hg hs h
  refine hi g st σ H (al env) _ hg hs.all ((AnsS.bnd h).imp fun ds st1 J H1 t1 wd q => ?_)
  exact for_core ht hb t1.good (hs.tr t1) (wd _) q
theorem ria_rng1 {A : DEnv → M (List D)} {t : TA} (h : RA mg E t A) : RIA mg E (iRng1 t) (fIt rng1 A) := by
  intro g st σ H env R hgd he q
  refine h g st σ H env _ hgd he ((Ans.bnd q).imp fun d st1 v H1 t1 r1 q1 => ?_)
  obtain ⟨ds, e1, q2⟩ := q1.ofO_
  match d, e1, r1 with
  | [.int j], e1, r1 =>
    obtain ⟨c, rfl⟩ := ite_some e1
    obtain ⟨u, rfl, h1⟩ := r1.inv1
    cases (show u = _ from h1)
    exact ⟨j, rfl, c.1, c.2, q2 _ _ (Tr.refl t1.good) fun G0 => wd_range⟩
theorem es_forR {X : Cx} {tg e : Expr} {body : List Stmt} {g : TG} {tb : TS} {A : DEnv → M (List D)} {t : TA} {f : D → SEnv → Option SEnv} {B : SEnv → M Fl} {p pos pos2 : Pos} (hp : PassesOwn (model X.prog X.w) X.A X.env X.xe) (hm : X.mg "range" = none) (ha : Ea X E [e] A t) (hgt : Egt X tg g f) (hb : Ess X E body B tb) (hc : X.calm = true := by rfl)
    (hg : Gl X "range" := by rfl) (hs : starEach [e] X.env = [(false, eval e X.env)] := by rfl) (hf : ∀ x, foldedSetIterable (.Call (.Name "range" p) [e] [] pos) X.env x = pure x := by intro _; rfl) :
    Es X E (.For tg (.Call (.Name "range" p) [e] [] pos) body [] pos2) (sForA (fIt rng1 A) f B) (tFor (iRng1 t) g tb) := ⟨ps_for hp hc (pi_range1 hg hm ha.pa hs) hgt.pg hb.pss hf, rs_forA (ria_rng1 ha.ra) hgt.rg hb.rs⟩
/-! ### targets of several names -/
theorem eg_tup {X : Cx} {es : List Expr} {k n : Nat} {pos : Pos} {t : TGs} {vs : List Nat} {r : List D → DEnv → Option DEnv} (h : Egs X es t vs r) (hc : X.calm = true := by rfl) (hn : (assignEach es X.env).length = n := by rfl) (hst : (assignEach es X.env).findIdx? (·.1) = none := by rfl) : Eg X (.Tuple es k pos) (gTup X.K n t) vs (gTp n r) := ⟨pg_tup hc h.pgs hn hst, rg_tup h.rgs⟩
theorem egt_tup {X : Cx} {es : List Expr} {k n : Nat} {pos : Pos} {t : TGs} {r : List D → SEnv → Option SEnv} (h : Egts X es t r) (hc : X.calm = true := by rfl) (hn : (assignEach es X.env).length = n := by rfl) (hst : (assignEach es X.env).findIdx? (·.1) = none := by rfl) : Egt X (.Tuple es k pos) (gTup X.K n t) (hTp n r) := ⟨pg_tup hc h.pgs hn hst, rgS_tup h.rgs⟩
theorem room_u64 {k : Nat} {A : Around} (h : Room k A) : A.units + 64 < cLine := by have := h.un; omega
theorem room_u100 {k : Nat} {A : Around} (h : Room k A) : A.units + 100 < cLine := by have := h.un; omega
end VS
namespace VS
open PySem PySem.Spec PyProof.Rows L2
def sAsgT (A : DEnv → M D) (f : D → SEnv → Option SEnv) : SEnv → M Fl := fun env => bnd (A (cl env)) fun d => match f d env with
  | some env' => ret (.nx env')
  | none => stuck
def srtS : List D → Option (List D) := one fun d => match d with | .lst ds => (strs' ds).bind fun ys => if ys.length < 64 then some ((sortS ys).map D.str) else none | _ => none
def stFuel : Option SS → Nat
  | some s => s.cells.length + 1
  | none => 0
end VS
namespace VS
open PySem PySem.Spec PyProof.Rows L2
/-! ### the readings' short names -/
abbrev qSub : R2 := rI0 fun i j => .int (i - j)
abbrev qMul : R2 := rOr (rI CMul fun i j => .int (i * j)) rRep
abbrev qFdiv : R2 := rI CDivN fun i j => .int (i.fdiv j)
abbrev qMod : R2 := rI (fun _ j => j ≠ 0) fun i j => .int (i.fmod j)
abbrev qPow : R2 := rI CPow fun i j => .int (i ^ j.toNat)
abbrev qNeg : V → Hp → VK → Prop := rU fun i => .int (-i)
abbrev qEq (K : PySem.W.Frag) : R2 := rOr rEq (rEqD K)
abbrev qNe (K : PySem.W.Frag) : R2 := rOr rNe (rNeD K)
abbrev qLe : R2 := rI0 fun i j => .bl (decide (i ≤ j))
abbrev qGt : R2 := rI0 fun i j => .bl (decide (j < i))
abbrev qGe : R2 := rI0 fun i j => .bl (decide (j ≤ i))
abbrev qIs : R2 := fun x y H Q => y = .non ∧ Q (.bl (decide (x = .non))) H
abbrev qIsnot : R2 := fun x y H Q => y = .non ∧ Q (.bl (!decide (x = .non))) H
abbrev qIn (K : PySem.W.Frag) : R2 := rOr (rIn K false) rInS
abbrev qJoin (K : PySem.W.Frag) (to te : TE) : TE := tM1 (fun x xs H Q => ∃ a p, ∃ ys : List Str, x = .str a ∧ xs = [.ref p] ∧ (SqL K H p (ys.map V.str) ∨ SqT K H p (ys.map V.str)) ∧ (ys.map (·.length)).sum + ys.length * a.length ≤ 16777216 ∧ Q (.str (Txt.join a ys)) H) to te
abbrev qAbs : List V → Hp → VK → Prop := fun xs H Q => ∃ i, xs = [.int i] ∧ Q (.int (if i < 0 then -i else i)) H
abbrev qInt : List V → Hp → VK → Prop := fun xs H Q => (∃ i, xs = [.int i] ∧ Q (.int i) H) ∨ ∃ k, xs = [.bl k] ∧ Q (.int (if k then 1 else 0)) H
abbrev qTuple (K : PySem.W.Frag) : List V → Hp → VK → Prop := fun xs H Q => ∃ p ys, xs = [.ref p] ∧ ((SqL K H p ys ∧ ∀ l, H l = none → Q (.ref l) (upd H l (.tup ys))) ∨ (SqT K H p ys ∧ Q (.ref p) H))
abbrev qList (K : PySem.W.Frag) : List V → Hp → VK → Prop := fun xs H Q => ∃ p ys, xs = [.ref p] ∧ (SqL K H p ys ∨ SqT K H p ys) ∧ ∀ l, H l = none → Q (.ref l) (upd H l (.lst ys))
abbrev qDict (K : PySem.W.Frag) : List V → Hp → VK → Prop := fun xs H Q => ∃ (a : Addr) (ps : List Addr) (kvs : List (Key × V)), xs = [.ref a] ∧ SqL K H a (ps.map V.ref) ∧ Paired (fun p kv => SqT K H p [kV kv.1, kv.2]) ps kvs ∧
    ∀ p, H p = none → Q (.ref p) (upd H p (.dK (mergeK [] kvs)))
abbrev qSortD : List V → Hp → VK → Prop := fun xs H Q => ∃ (a : Addr) (kvs : List (Key × V)) (ks : List Str), xs = [.ref a] ∧ Rd H a (.dK kvs) ∧ kvs.map (·.1) = ks.map Sum.inr ∧ ks.length < 64 ∧
    ∀ ys p, ys.Perm ks → sortedS ys = true → H p = none → Q (.ref p) (upd H p (.lst (ys.map V.str)))
abbrev iSeq (K : PySem.W.Frag) (t : TE) : TI := fun σ H R => iList K t σ H R ∨ iTup K t σ H R
abbrev iZipE (K : PySem.W.Frag) (t : TA) : TI := fun σ H R => ∃ k m, iMix K k m t σ H R
abbrev iEnE (K : PySem.W.Frag) (t : TA) : TI := fun σ H R => ∃ k, iEnM K k t σ H R
theorem call_lenA {X : Cx} : CallR X (.builtin "len") (rLenA X.K) := VS.CallR.or call_len_seq call_len_str
end VS
namespace VS
open PySem PySem.Spec PyProof.Rows L2
def fCallKF (n m : Nat) (is : List Nat) (F : List D → M (List D)) (G : DEnv → M (List D)) : DEnv → M (List D) := fun env => bnd (G env) fun zs => if zs.length = m ∧ (pick is zs).length = n then F (pick is zs) else stuck
theorem rf_callK {mg : Str → Option Value} {E : XK} {n m : Nat} {is : List Nat} {F : List D → M (List D)} {G : DEnv → M (List D)} {ta : TA} (ha : RA mg E ta G) : RF mg E (tCallN 0 m (spF mg n F) (fun _ zs => pick is zs) E tNil ta) (fCallKF n m is F G) := by
  intro g st σ H env Q hg he h
  refine ha g st σ H env _ hg he ((Ans.bnd h).imp fun zs st1 vs H1 t1 hx h1 => ?_)
  by_cases c : zs.length = m ∧ (pick is zs).length = n
  · rw [if_pos c] at h1
    exact ⟨rfl, by rw [hx.length]; exact c.1, g, st1, pick is zs, c.2, t1.good, hx.pick is, Ans.fresh_ (α := Unit) t1 h1⟩
  · rw [if_neg c] at h1
    exact h1.elim
theorem ef_callK {X : Cx} {E : XK} {kws : List Keyword} {ta : TA} {k n : Nat} {f : Addr} {fd : FuncData} {ps ks : List Str} {F : List D → M (List D)} {G : DEnv → M (List D)} {x : Str} {p pos : Pos} {is : List Nat} (hF : FnOk X.prog X.w X.K X.mg X.base (L2.CX X.prog X.w) k f fd ps (spF X.mg n F)) (hr : Room k X.A) (hm : X.mg x = some (.ref f)) (hk : PySem.W.keepIn X.K (.ref f) = true)
    (hb : KBn X.K fd ps 0 ks (fun _ ws => pick is ws) (fun _ zs => pick is zs)) (hx : Passes (L2.CX X.prog X.w) X E) (ha : Ek X E kws G ta) (hg : Gl X x := by rfl) (hall : (backToKw pos (keywordEach kws X.env)).all (·.1.isSome) = true := by rfl) (hks : (backToKw pos (keywordEach kws X.env)).filterMap (·.1) = ks := by rfl)
    (hdb : (x == ("__debug__" : Str)) = false := by decide) (hpl : ((backTo pos (starEach [] X.env)).any (·.1) || (backToKw pos (keywordEach kws X.env)).any (·.1.isNone)) = false := by rfl) :
    Ef X E (.Call (.Name x p) [] kws pos) (fCallKF n ks.length is F G) (tCallN 0 ks.length (spF X.mg n F) (fun _ zs => pick is zs) E tNil ta) := ⟨pe_callN0 hF hr hg hm hk hb hx ha.pk hall hks hdb hpl, rf_callK ha.ra⟩
def levF (F : (List D → M (List D)) → List D → M (List D)) : Nat → List D → M (List D)
  | 0 => fun _ => stuck
  | n + 1 => F (levF F n)
theorem fnokF_stuck {mg : Str → Option Value} {P : Program} {w : World} {K : PySem.W.Frag} {base : Heap} {CX : CXT} {k n : Nat} {f : Addr} {fd : FuncData} {ps : List Str} : FnOk P w K mg base CX k f fd ps (spF mg n fun _ => stuck) :=
  ⟨fun vs H Q E h => by obtain ⟨g, st, ds, _, _, _, an⟩ := h; exact an.elim, fun A outer s H args us vs Q E hr he hb hv h => by obtain ⟨g, st, ds, _, _, _, an⟩ := h; exact an.elim⟩
theorem fnokF_rec {mg : Str → Option Value} {P : Program} {w : World} {K : PySem.W.Frag} {base : Heap} {CX : CXT} {c n : Nat} {f : Addr} {fd : FuncData} {ps : List Str} {F : (List D → M (List D)) → List D → M (List D)}
    (step : ∀ (k : Nat) (r : List D → M (List D)), c ≤ k → FnOk P w K mg base CX k f fd ps (spF mg n r) → FnOk P w K mg base CX (k + 1) f fd ps (spF mg n (F r))) : ∀ m, FnOk P w K mg base CX (c + m) f fd ps (spF mg n (levF F m))
  | 0 => fnokF_stuck
  | m + 1 => step (c + m) _ (Nat.le_add_right _ _) (fnokF_rec step m)
end VS

/-! VS13: the law's spoiling of what it was told: new lists that nobody else holds. -/
namespace VS
open PySem PySem.Spec PyProof.Rows L2
variable {mg : Str → Option Value} {E : XK}
def late : Str := Str.ofString "late"
/-- a list of whole numbers -/
def spS1 : Sp := fun vs H Q _ => ∃ (p : Addr) (ns : List Int), vs = [.ref p] ∧ H p = some (.lst (ns.map V.int)) ∧ ns.length < sizeLine ∧ ∀ H', (∀ b o, b ≠ p → H b = some o → H' b = some o) → (∃ o, H' p = some o) → Q .non H'
/-- two such lists in a list -/
def spS2 : Sp := fun vs H Q _ => ∃ (p q r : Addr) (ns ms : List Int), vs = [.ref p] ∧ p ≠ q ∧ p ≠ r ∧ q ≠ r ∧ H p = some (.lst [.ref q, .ref r]) ∧ H q = some (.lst (ns.map V.int)) ∧ H r = some (.lst (ms.map V.int)) ∧ ns.length < sizeLine ∧ ms.length < sizeLine ∧
  ∀ H', (∀ b o, b ≠ p → b ≠ q → b ≠ r → H b = some o → H' b = some o) → (∃ o, H' p = some o) → (∃ o, H' q = some o) → (∃ o, H' r = some o) → Q .non H'
abbrev tIsL (K : PySem.W.Frag) (n : String) : TT := tTest (tCB (rIsi K) (tCons (tVar 0) (tCons (tC (.ty n)) tNil)))
abbrev tIsLT (K : PySem.W.Frag) : TT := tTest (tCB (rIsiT K) (tCons (tVar 0) (tCons (tTup (tCons (tC (.ty "list")) (tCons (tC (.ty "tuple")) tNil))) tNil)))
/-- the reading of the spoiling: slots thing, key, part -/
def tSpoil (K : PySem.W.Frag) (sp : Sp) (E : XK) : TS := tSeq (tIfS (tIsL K "dict") tNever tNext) (tSeq (tIfS (tIsLT K) (tFor (iSeq K (tVar 0)) (gName 2) (tDrop (tCall sp [] E (tCons (tVar 2) tNil)))) tNext)
  (tIfS (tIsL K "list") (tDrop (tBM K "list" rAppend (tVar 0) (tCons (tC (.str late)) tNil))) tNext))
theorem read_isL {K : PySem.W.Frag} {n : Ty} (hn : n ≠ .non) {p : Addr} {xs : List V} {σ : L2.St} {H : Hp} {Q : Bool → Hp → Prop} (h0 : σ[0]? = some (some (.ref p))) (hp : H p = some (.lst xs)) (q : Q (isTy .lst n) H) : tIsL K n.nm σ H Q := by
  refine ⟨.ref p, h0, ?_⟩
  exact ⟨.ref p, .ty n.nm, .type "list", .type n.nm, isTy .lst n, rfl, .ty _, .base (.lst hp), kit_ty (kit_all .lst n hn), isTy .lst n, rfl, q⟩
theorem read_isLT {K : PySem.W.Frag} {p : Addr} {xs : List V} {σ : L2.St} {H : Hp} {Q : Bool → Hp → Prop} (h0 : σ[0]? = some (some (.ref p))) (hp : H p = some (.lst xs)) (q : ∀ H', Same H H' → Q true H') : tIsLT K σ H Q := by
  refine ⟨.ref p, h0, ?_⟩
  refine ⟨by show 2 ≤ sizeLine; decide, fun c hc => ?_⟩
  have s : Same H (upd H c (.tup [.ty "list", .ty "tuple"])) := fun b o e => by rw [upd_ne (ne_of_none e hc)]; exact e
  exact ⟨.ref p, c, [.ty "list", .ty "tuple"], .type "list", [.type "list", .type "tuple"], true, rfl, upd_same, .cons (.ty _) (.cons (.ty _) .nil), .base (.lst (s _ _ hp)), kit_tys (a := .lst) (ts := [.lst, .tup]) (by simp), true, rfl, q _ s⟩
theorem read_spoil {K : PySem.W.Frag} {sp : Sp} {p : Addr} {xs : List V} {H : Hp} {Q : VK} (hp : H p = some (.lst xs)) (hl : xs.length < sizeLine) (Iv : Nat → Hp → Prop) (h0 : ∀ H1, Same H H1 → Iv 0 H1) (hk : ∀ i H', Iv i H' → H' p = some (.lst xs))
    (step : ∀ i x H' (R : VK), xs[i]? = some x → Iv i H' → (∀ v H'', Iv (i + 1) H'' → R v H'') → sp [x] H' R E) (fin : ∀ H', Iv xs.length H' → Q .non (upd H' p (.lst (xs ++ [.str late])))) :
    tSpoil K sp E { nx := fun _ H' => Q .non H', rt := Q } [some (.ref p), none, none] H := by
  refine read_isL (n := .dct) (by decide) rfl hp ?_
  refine read_isLT rfl hp fun H1 s1 => ?_
  refine .inl ⟨_, rfl, p, rfl, ⟨xs, SqL.of (s1 _ _ hp)⟩, ?_⟩
  refine ⟨fun i m σ H2 => i + m = xs.length ∧ (∃ x, σ = [some (.ref p), none, x]) ∧ Iv i H2, ⟨xs.length, by omega, ⟨_, rfl⟩, h0 _ s1⟩, ?_⟩
  rintro i m σ H2 ⟨him, ⟨x, rfl⟩, iv⟩
  have hp2 := hk _ _ iv
  by_cases hlt : i < xs.length
  · refine .inr ⟨⟨xs, xs[i], SqL.of hp2, List.getElem?_eq_getElem hlt⟩, fun σ' H' => (∃ x, σ' = [some (.ref p), none, x]) ∧ Iv (i + 1) H', fun σ' H' n => ⟨m - 1, by omega, by omega, n⟩, ?_⟩
    rintro v H3 ⟨rfl, y⟩
    have ey := y xs (SqL.of hp2)
    exact ⟨v, rfl, step i v _ _ ey iv fun _ H'' iv' => ⟨⟨_, rfl⟩, iv'⟩⟩
  · have e : i = xs.length := by omega
    subst e
    refine .inl ⟨⟨xs, SqL.of hp2, Nat.le_refl _⟩, ?_⟩
    refine read_isL (n := .lst) (by decide) rfl hp2 ?_
    refine ⟨.ref p, rfl, .inl ⟨rfl, xs, SqL.of hp2⟩, p, xs, .str late, rfl, rfl, hp2, hl, fin _ iv⟩
/-- whole numbers are left -/
def sp0 : Sp := fun vs H Q _ => ∃ n : Int, vs = [.int n] ∧ ∀ H', Same H H' → Q .non H'
theorem read_sp1 {K : PySem.W.Frag} {vs : List V} {H : Hp} {Q : VK} (h : spS1 vs H Q E) : tSpoil K sp0 E { nx := fun _ H' => Q .non H', rt := Q } (L2.start ["thing", "key", "part"] vs) H := by
  obtain ⟨p, ns, rfl, hp, hl, k⟩ := h
  refine read_spoil hp (by rw [List.length_map]; exact hl) (fun _ H' => Same H H') (fun H1 s => s) (fun _ H' s => s _ _ hp) (fun i x H' R e s q => ?_) fun H' s => k _ (fun b o n e => by rw [upd_ne n]; exact s _ _ e) ⟨_, upd_same⟩
  rw [List.getElem?_map] at e
  obtain ⟨n, _, rfl⟩ := Option.map_eq_some_iff.mp e
  exact ⟨n, rfl, fun H'' s' => q _ _ fun b o e => s' _ _ (s _ _ e)⟩
theorem read_sp2 {K : PySem.W.Frag} {vs : List V} {H : Hp} {Q : VK} (h : spS2 vs H Q E) : tSpoil K spS1 E { nx := fun _ H' => Q .non H', rt := Q } (L2.start ["thing", "key", "part"] vs) H := by
  obtain ⟨p, q, r, ns, ms, rfl, n1, n2, n3, hp, hq, hr, l1, l2, k⟩ := h
  refine read_spoil hp (by show 2 < sizeLine; decide) (fun i H' => (∀ b o, b ≠ q → b ≠ r → H b = some o → H' b = some o) ∧ (i = 0 → H' q = some (.lst (ns.map V.int))) ∧ (i ≤ 1 → H' r = some (.lst (ms.map V.int))) ∧ (∃ o, H' q = some o) ∧ ∃ o, H' r = some o)
    (fun H1 s => ⟨fun b o _ _ e => s _ _ e, fun _ => s _ _ hq, fun _ => s _ _ hr, ⟨_, s _ _ hq⟩, ⟨_, s _ _ hr⟩⟩) (fun _ H' s => s.1 _ _ n1 n2 hp) (fun i x H' R e s qq => ?_) fun H' s => ?_
  · obtain ⟨s1, s2, s3, s4, s5⟩ := s
    match i, e with
    | 0, e =>
      obtain rfl : V.ref q = x := Option.some.inj e
      exact ⟨q, ns, rfl, s2 rfl, l1, fun H'' k1 k2 => qq _ _ ⟨fun b o b1 b2 e => k1 _ _ b1 (s1 _ _ b1 b2 e), fun z => (by cases z), fun _ => k1 _ _ (Ne.symm n3) (s3 (Nat.zero_le _)), k2, let ⟨o, eo⟩ := s5; ⟨o, k1 _ _ (Ne.symm n3) eo⟩⟩⟩
    | 1, e =>
      obtain rfl : V.ref r = x := Option.some.inj e
      exact ⟨r, ms, rfl, s3 (Nat.le_refl _), l2, fun H'' k1 k2 => qq _ _ ⟨fun b o b1 b2 e => k1 _ _ b2 (s1 _ _ b1 b2 e), fun z => (by cases z), fun z => absurd z (by omega), let ⟨o, eo⟩ := s4; ⟨o, k1 _ _ n3 eo⟩, k2⟩⟩
    | i + 2, e => simp at e
  · obtain ⟨s1, s2, s3, ⟨o4, s4⟩, o5, s5⟩ := s
    exact k _ (fun b o b1 b2 b3 e => by rw [upd_ne b1]; exact s1 _ _ b2 b3 e) ⟨_, upd_same⟩ ⟨o4, by rw [upd_ne (Ne.symm n1)]; exact s4⟩ ⟨o5, by rw [upd_ne (Ne.symm n2)]; exact s5⟩
/-! ### what was told: compared, then spoilt -/
def sTold (iw it : Nat) (A : DEnv → M D) (F1 F2 : DEnv → M (List D)) (C : DEnv → M Bool) : SEnv → M Fl := fun env => if iw < env.length ∧ it < env.length then
  bnd (A (cl env)) fun a => bnd (F1 (cl env)) fun d1 => bnd (F2 (cl ((env.set iw (.val a)).set it .un))) fun d2 => match intsD d1, intsD d2 with
    | some ns, some ms => if ns.length < sizeLine ∧ ms.length < sizeLine then bnd (C (al ((env.set iw (.val a)).set it (.val (.lst [.lst d1, .lst d2]))))) fun c => if c = true then ret (.rt (.bl false)) else ret (.nx ((env.set iw (.val a)).set it .un)) else stuck
    | _, _ => stuck
  else stuck
section
variable {g : Gx} {O : Addr → Prop} {st st1 : Option SS} {H H1 : Hp} {σ : L2.St} {env : SEnv} {f : Nat → Addr}
theorem SOk.set_un (h : SOk mg g H σ env f) {i : Nat} (hi : i < env.length) (v : Option V) : SOk mg g H (σ.set i v) (env.set i .un) f := by
  have ow : ∀ b, Ow (env.set i Sl.un) f b → Ow env f b := by
    rintro b ⟨j, ds, e, rfl⟩
    rw [List.getElem?_set] at e
    by_cases c : i = j
    · rw [if_pos c, if_pos hi] at e; cases e
    · rw [if_neg c] at e
      exact ⟨j, ds, e, rfl⟩
  have sub : Same (hide (g.plus (Ow env f)).S H) (hide (g.plus (Ow (env.set i Sl.un) f)).S H) := hide_le fun b z => z.elim .inl fun z => .inr (ow b z)
  have old : ∀ {j : Nat} {s : Sl}, (env.set i Sl.un)[j]? = some s → (s = .un) ∨ (i ≠ j ∧ env[j]? = some s) := by
    intro j s e
    rw [List.getElem?_set] at e
    by_cases c : i = j
    · rw [if_pos c, if_pos hi] at e; exact .inl (Option.some.inj e).symm
    · rw [if_neg c] at e; exact .inr ⟨c, e⟩
  have own_ : ∀ {j : Nat} {ds : List D}, (env.set i Sl.un)[j]? = some (Sl.own ds) → i ≠ j ∧ env[j]? = some (Sl.own ds) := fun e => (old e).elim (fun z => nomatch z) id
  refine ⟨by rw [List.length_set, List.length_set]; exact h.len, fun a b ds ds' e1 e2 => h.inj a b ds ds' (own_ e1).2 (own_ e2).2, fun a ds e => h.out a ds (own_ e).2, fun j d e => ?_, fun j ds e => ?_⟩
  · rcases old e with z | ⟨c, z⟩
    · cases z
    · obtain ⟨w, h1, h2⟩ := h.val j d z
      exact ⟨w, by rw [List.getElem?_set_ne c]; exact h1, HD.mono sub _ _ h2⟩
  · obtain ⟨c, z⟩ := own_ e
    obtain ⟨h1, xs, h2, h3⟩ := h.own j ds z
    exact ⟨by rw [List.getElem?_set_ne c]; exact h1, xs, h2, HDs.mono sub _ _ h3⟩
theorem Tr.writes (hg : Good g st H) {H' : Hp} (hO : ∀ b, O b → ¬ g.S b) (k : ∀ b o, ¬ O b → H b = some o → H' b = some o) : Tr g O st st H H' :=
  ⟨fun b o _ n e => k b o n e, fun b hb _ => by
    obtain ⟨o, e⟩ := hg.dom b hb
    rw [e]; exact k b o (fun z => hO b z hb) e, hg.keep fun b o hb e => k b o (fun z => hO b z hb) e, rfl⟩
end
theorem rs_told {K : PySem.W.Frag} {iw it : Nat} (hij : iw ≠ it) {tr td1 td2 : TE} {tt : TT} {A : DEnv → M D} {F1 F2 : DEnv → M (List D)} {C : DEnv → M Bool} (ha : RE mg E tr A) (h1 : RF mg E td1 F1) (h2 : RF mg E td2 F2) (hc : RT mg E tt C) :
    RS mg E (tSeq (tPar iw it (tCons tr (tCons (tLst (tCons td1 tNil)) tNil))) (tSeq (tDrop (tBM K "list" rAppend (tVar it) (tCons td2 tNil))) (tSeq (tIfS tt (tRet (tC (.bl false))) tNext) (tDrop (tCall spS2 [] E (tCons (tVar it) tNil)))))) (sTold iw it A F1 F2 C) := by
  intro g st σ H env f Dn hg hs h
  unfold sTold at h
  by_cases c : iw < env.length ∧ it < env.length
  · rw [if_pos c] at h
    refine ha (g.plus (Ow env f)) st σ H (cl env) _ (hs.good hg) hs.clean (Ans.plus (rel := rV mg (g.plus (Ow env f))) (Ow.out hs) hg.at_ (fun _ _ _ r => r) ((AnsS.bndX h (Tr.refl hg)).imp fun a st1 va H1 t1 ra q1 => ?_))
    have tO1 : Tr g (Ow env f) st st1 H H1 := t1.weak fun _ z => z.elim
    have hs1 := hs.tr t1
    -- the first list
    refine h1 (g.plus (Ow env f)) st1 σ H1 (cl env) _ (hs1.good t1.good) hs1.clean (Ans.plus (rel := rF mg (g.plus (Ow env f)) H1) (Ow.out hs1) t1.good.at_ (fun _ _ _ r => r) ((AnsS.bndX (q1 tO1) tO1).imp fun d1 st2 v1 H2 t2 r1 q2 => ?_))
    obtain ⟨p1, xs1, rfl, f1, n1, e1, i1⟩ := r1
    have tO2 := tO1.trans0 t2
    refine ⟨by show 1 ≤ sizeLine; decide, fun p hp => ?_⟩
    have t3 : Tr g O0 st2 st2 H2 (upd H2 p (.lst [.ref p1])) := Tr.new t2.good hp
    have nSp : ¬ g.S p := t2.good.fresh hp
    have t13 : Tr g O0 st1 st2 H1 (upd H2 p (.lst [.ref p1])) := t2.trans0 t3
    have pn1 : p ≠ p1 := fun z => by rw [z, e1] at hp; cases hp
    have hp1 : H1 p = none := (t2.old p hp).elim id fun z => z.elim
    refine ⟨va, .ref p, rfl, ?_⟩
    -- the slots behind the pair
    have hs3 := (hs1.tr t13).set_val c.1 (d := a) (v := va) (HD.mono (fun b o e => by
      obtain ⟨k1, k2⟩ := of_hide e
      exact hide_of k1 (t13.keep b o (fun z => k1 (.inl z)) (fun z => z) k2)) _ _ ra)
    have hs3' := hs3.set_un (i := it) (by rw [List.length_set]; exact c.2) (some (.ref p))
    -- the second list, both hidden
    have ow3 : ∀ b, Ow ((env.set iw (Sl.val a)).set it .un) f b → Ow env f b := by
      rintro b ⟨j, ds, e, rfl⟩
      rw [List.getElem?_set] at e
      by_cases k : it = j
      · rw [if_pos k] at e; split at e <;> cases e
      · rw [if_neg k] at e
        exact Ow.set_val (i := iw) (d := a) _ ⟨j, ds, e, rfl⟩
    have dom3 : ∀ b, (b = p ∨ b = p1) → ∃ o, upd H2 p (.lst [.ref p1]) b = some o := by
      rintro b (rfl | rfl)
      · exact ⟨_, upd_same⟩
      · exact ⟨_, by rw [upd_ne (Ne.symm pn1)]; exact e1⟩
    have env3 : EnvOk mg ((g.plus (Ow ((env.set iw (Sl.val a)).set it .un) f)).plus fun b => b = p ∨ b = p1) (upd H2 p (.lst [.ref p1])) ((σ.set iw (some va)).set it (some (.ref p))) (cl ((env.set iw (Sl.val a)).set it .un)) := by
      -- by what stood at H1
      have w1 := (hs1.set_val c.1 (d := a) (v := va) ra).set_un (i := it) (by rw [List.length_set]; exact c.2) (some (.ref p))
      have cw := w1.clean
      refine ⟨cw.len, fun j d e => ?_⟩
      obtain ⟨u, k1, k2⟩ := cw.val j d e
      refine ⟨u, k1, HD.mono (fun b o e => ?_) _ _ k2⟩
      obtain ⟨m1, m2⟩ := of_hide e
      refine hide_of (fun z => z.elim m1 fun z => z.elim (fun z => by rw [z, hp1] at m2; cases m2) fun z => by rw [z, f1] at m2; cases m2) (t13.keep b o (fun z => m1 (.inl z)) (fun z => z) m2)
    have gd3 : Good ((g.plus (Ow ((env.set iw (Sl.val a)).set it .un) f)).plus fun b => b = p ∨ b = p1) st2 (upd H2 p (.lst [.ref p1])) := (hs3'.good t3.good).plus dom3
    have out3 : ∀ b, (fun b => Ow ((env.set iw (Sl.val a)).set it .un) f b ∨ (b = p ∨ b = p1)) b → ¬ g.S b := by
      rintro b (z | rfl | rfl)
      · exact Ow.out hs b (ow3 b z)
      · exact nSp
      · exact fun z => n1 (.inl z)
    have sit : ((σ.set iw (some va)).set it (some (V.ref p)))[it]? = some (some (.ref p)) := by rw [List.getElem?_set_self (by rw [List.length_set, ← hs.len]; exact c.2)]
    refine ⟨.ref p, sit, .inl ⟨rfl, [.ref p1], SqL.of upd_same⟩, ?_⟩
    have tO3 : Tr g (Ow env f) st st2 H (upd H2 p (.lst [.ref p1])) := tO2.trans0 t3
    have outA : ∀ b, Ow ((env.set iw (Sl.val a)).set it .un) f b → ¬ g.S b := fun b z => Ow.out hs b (ow3 b z)
    have outB : ∀ b, (b = p ∨ b = p1) → ¬ (g.plus (Ow ((env.set iw (Sl.val a)).set it .un) f)).S b := by
      rintro b (rfl | rfl) z
      · rcases z with z | z
        · exact nSp z
        · obtain ⟨o, eo⟩ := Ow.dom hs1 _ (ow3 _ z)
          rw [hp1] at eo; cases eo
      · exact n1 (z.elim .inl fun z => .inr (ow3 _ z))
    have gA : Good (g.plus (Ow ((env.set iw (Sl.val a)).set it .un) f)) st2 (upd H2 p (.lst [.ref p1])) := hs3'.good t3.good
    let g2 : Gx := (g.plus (Ow ((env.set iw (Sl.val a)).set it .un) f)).plus fun b => b = p ∨ b = p1
    refine h2 g2 st2 _ _ (cl ((env.set iw (Sl.val a)).set it .un)) _ gd3 env3 (Ans.plus (rel := rF mg g2 (upd H2 p (.lst [.ref p1]))) outB gA.at_ (fun _ _ _ r => r) (Ans.plus (rel := rF mg g2 (upd H2 p (.lst [.ref p1]))) outA t3.good.at_ (fun _ _ _ r => r)
      ((AnsS.bndX (q2 tO2) tO3).imp fun d2 st3 v2 H4 t4 r2 q3 => ?_)))
    have tO4 := tO3.trans0 t4
    have q4 := q3 tO4
    obtain ⟨p2, xs2, rfl, f2, n2, e2, i2⟩ := r2
    cases k1 : intsD d1 with
    | none => simp only [k1] at q4; exact q4.elim
    | some ns =>
    cases k2 : intsD d2 with
    | none => simp only [k1, k2] at q4; exact q4.elim
    | some ms =>
    simp only [k1, k2] at q4
    by_cases cl_ : ns.length < sizeLine ∧ ms.length < sizeLine
    · rw [if_pos cl_] at q4
      rw [ints_eq k1] at i1
      have ex1 := HDs.ints.mp i1
      rw [ints_eq k2] at i2
      have ex2 := HDs.ints.mp i2
      subst ex1 ex2
      have nSp1 : ¬ g.S p1 := fun z => n1 (.inl z)
      have nSp2 : ¬ g.S p2 := fun z => n2 (.inl (.inl z))
      have pn2 : p ≠ p2 := fun z => n2 (.inr (.inl z.symm))
      have p12 : p1 ≠ p2 := fun z => n2 (.inr (.inr z.symm))
      have a4 : H4 p = some (.lst [.ref p1]) := t4.keep _ _ nSp (fun z => z) upd_same
      have b4 : H4 p1 = some (.lst (ns.map V.int)) := t4.keep _ _ nSp1 (fun z => z) (by rw [upd_ne (Ne.symm pn1)]; exact e1)
      have hp2 : H1 p2 = none := (t13.old p2 f2).elim id fun z => z.elim
      refine ⟨p, [.ref p1], .ref p2, rfl, rfl, a4, by show 1 < sizeLine; decide, ?_⟩
      show tSeq (tIfS tt (tRet (tC (.bl false))) tNext) (tDrop (tCall spS2 [] E (tCons (tVar it) tNil))) Dn _ (upd H4 p (.lst [.ref p1, .ref p2]))
      have t5 : Tr g (fun b => b = p) st3 st3 H4 (upd H4 p (.lst [.ref p1, .ref p2])) := Tr.writes t4.good (fun b z => z ▸ nSp) fun b o n e => by rw [upd_ne n]; exact e
      have t15 : Tr g O0 st1 st3 H1 (upd H4 p (.lst [.ref p1, .ref p2])) := (t13.trans0 t4).trans t5 fun b z => .inr (by rw [z]; exact hp1)
      have tO5 : Tr g (Ow env f) st st3 H (upd H4 p (.lst [.ref p1, .ref p2])) := tO1.trans0 t15
      -- the test
      have c5 : upd H4 p (.lst [.ref p1, .ref p2]) p1 = some (.lst (ns.map V.int)) := by rw [upd_ne (Ne.symm pn1)]; exact b4
      have d5 : upd H4 p (.lst [.ref p1, .ref p2]) p2 = some (.lst (ms.map V.int)) := by rw [upd_ne (Ne.symm pn2)]; exact e2
      have owH1 : ∀ {b}, H1 b = none → ¬ Ow (env.set iw (Sl.val a)) f b := fun hb z => by
        obtain ⟨o, eo⟩ := Ow.dom hs1 _ (Ow.set_val (i := iw) (d := a) _ z)
        rw [hb] at eo; cases eo
      have s5 := ((hs1.set_val c.1 (d := a) (v := va) ra).tr t15).set_val (i := it) (by rw [List.length_set]; exact c.2) (d := .lst [.lst d1, .lst d2]) (v := .ref p) (by
        refine ⟨p, [.ref p1, .ref p2], rfl, hide_of (fun z => z.elim nSp (owH1 hp1)) upd_same, .ref p1, [.ref p2], rfl, ?_, .ref p2, [], rfl, ?_, rfl⟩
        · rw [ints_eq k1]
          exact ⟨p1, _, rfl, hide_of (fun z => z.elim nSp1 (owH1 f1)) c5, HDs.ints.mpr rfl⟩
        · rw [ints_eq k2]
          exact ⟨p2, _, rfl, hide_of (fun z => z.elim nSp2 (owH1 hp2)) d5, HDs.ints.mpr rfl⟩)
      refine hc g st3 _ _ _ _ t15.good s5.all ((AnsS.bndX q4 tO5).imp fun cc st4 b H6 t6 rb q6 => ?_)
      have q7 := q6 (tO5.trans0 t6)
      cases (show b = cc from rb)
      cases cc with
      | true => exact q7 _ H6 (tO5.trans0 t6) rfl
      | false =>
        have a6 : H6 p = some (.lst [.ref p1, .ref p2]) := t6.keep _ _ nSp (fun z => z) upd_same
        have b6 : H6 p1 = _ := t6.keep _ _ nSp1 (fun z => z) c5
        have c6 : H6 p2 = _ := t6.keep _ _ nSp2 (fun z => z) d5
        refine ⟨.ref p, sit, p, p1, p2, ns, ms, rfl, pn1, pn2, p12, a6, b6, c6, cl_.1, cl_.2, fun H7 kp _ _ _ => ?_⟩
        have t7 : Tr g (fun b => b = p ∨ b = p1 ∨ b = p2) st4 st4 H6 H7 := Tr.writes t6.good (by rintro b (rfl | rfl | rfl) <;> assumption) fun b o n e => kp b o (fun z => n (.inl z)) (fun z => n (.inr (.inl z))) (fun z => n (.inr (.inr z))) e
        have t17 : Tr g O0 st1 st4 H1 H7 := (t15.trans0 t6).trans t7 fun b z => .inr (by rcases z with rfl | rfl | rfl <;> assumption)
        exact q7 _ H7 f (tO1.trans0 t17) (((hs1.set_val c.1 (d := a) (v := va) ra).tr t17).set_un (i := it) (by rw [List.length_set]; exact c.2) (some (.ref p))) fun b z => .inl (ow3 b z)
    · rw [if_neg cl_] at q4
      exact q4.elim
  · rw [if_neg c] at h
    exact h.elim
end VS
namespace VS
open PySem PySem.Spec PyProof.Rows L2
variable {E : XK}
theorem ess_told {X : Cx} {A : DEnv → M D} {F1 F2 : DEnv → M (List D)} {C : DEnv → M Bool} {G : SEnv → M Fl} {tr td1 td2 : TE} {tt : TT} {u : TS} {a e1 e2 c : Expr} {s4 : Stmt} {rest : List Stmt} (iw it : Nat) {xw xt : Str} {px py pt pl pt2 pos1 p0 apos cpos pos2 pr pr2 pos3 : Pos} {kt k2 j}
    (hN : X.N.Nodup) (ha : Ev X E a A tr) (h1 : Ef X E e1 F1 td1) (h2 : Ef X E e2 F2 td2) (hc : Et X E c C tt) (p4 : PS X s4 (tDrop (tCall spS2 [] E (tCons (tVar it) tNil)))) (hrest : Ess X E rest G u) (hcm : X.calm = true := by rfl) (hi : X.N[iw]? = some xw := by rfl) (hj : X.N[it]? = some xt := by rfl) (hij : iw ≠ it := by decide)
    (hx : X.env.scope.names.lookup xw = some .local := by rfl) (hy : X.env.scope.names.lookup xt = some .local := by rfl) (hw : swappedStores [.Tuple [.Name xw px, .Name xt py] kt pt] (.Tuple [a, .List [e1] pl] k2 pt2) X.env = pure (some [xw, xt]) := by rfl)
    (hs : swapsWithSole [.Tuple [.Name xw px, .Name xt py] kt pt] (.Tuple [a, .List [e1] pl] k2 pt2) pos1.line X.env = pure false := by rfl) (st1 : starEach [a, .List [e1] pl] X.env = (false, eval a X.env) :: starEach [.List [e1] pl] X.env := by rfl) (st2 : starEach [.List [e1] pl] X.env = (false, eval (.List [e1] pl) X.env) :: starEach [] X.env := by rfl) (st3 : starEach [e1] X.env = (false, eval e1 X.env) :: starEach [] X.env := by rfl)
    (hv : Vis X.env.scope xt := by first | exact Or.inl rfl | exact Or.inr (Or.inl rfl) | exact Or.inr (Or.inr rfl)) (hd : (xt == ("__debug__" : Str)) = false := by decide) (hcd : (xt == ("__classdict__" : Str)) = false := by decide)
    (hbase : attributeBase (.Name xt p0) (Str.ofString "append") X.env (eval (.Name xt p0) X.env) = eval (.Name xt p0) X.env := by rfl) (hfew : ((backTo cpos (starEach [e2] X.env)).all (fun x => !x.1) && (backToKw cpos (keywordEach [] X.env)).all (fun x => x.1.isSome)
      && decide (([e2] : List Expr).length + ([] : List Keyword).length + (if ([] : List Keyword).isEmpty then 0 else 1) < 30)) = true := by rfl)
    (hline : (apos.endLine == cpos.line) = true := by rfl) (hse : starEach [e2] X.env = (false, eval e2 X.env) :: starEach [] X.env := by rfl) (hpl : (backTo cpos (starEach [] X.env)).any (·.1) = false := by rfl) (hsw : swapsWith (.Call (.Attribute (.Name xt p0) (Str.ofString "append") apos) [e2] [] cpos) none pos2.line X.env = pure false := by rfl) :
    Ess X E (.Assign [.Tuple [.Name xw px, .Name xt py] kt pt] (.Tuple [a, .List [e1] pl] k2 pt2) pos1 :: .Expr (.Call (.Attribute (.Name xt p0) (Str.ofString "append") apos) [e2] [] cpos) pos2 :: .If c [.Return (some (.Constant (.bool false) j pr)) pr2] [] pos3 :: s4 :: rest) (sSeq (sTold iw it A F1 F2 C) G)
      (tSeq (tPar iw it (tCons tr (tCons (tLst (tCons td1 tNil)) tNil))) (tSeq (tDrop (tBM X.K "list" rAppend (tVar it) (tCons td2 tNil))) (tSeq (tIfS tt (tRet (tC (.bl false))) tNext) (tSeq (tDrop (tCall spS2 [] E (tCons (tVar it) tNil))) u)))) := by
  refine ⟨pss_cons (ps_par hcm hN hi hj hij hx hy (pa_cons ha.pe (pa_cons (pe_lst (pa_cons h1.pe pa_nil st3)) pa_nil st2) st1) hw hs) (pss_cons (ps_expr (pe_bm PySem.F.plainAttrs_list PySem.F.slot_list_append PySem.F.type_list_append mt_append (pe_var hj hv hd hcd) (pa_cons h2.pe pa_nil hse) hbase hfew hline hse hpl) hsw)
    (pss_cons (ps_if hc.pt (pss_one (ps_ret pe_bl)) pss_nil) (pss_cons p4 hrest.pss))), ?_⟩
  have q := rs_seq (rs_told (K := X.K) hij ha.re h1.rf h2.rf hc.rt) hrest.rs
  exact fun g st σ H env f Dn => q g st σ H env f Dn
/-! ### the stream's making, the law's start -/
def spStream (K : PySem.W.Frag) : Sp := fun vs H Q _ => ∃ (a : Addr) (ns : List Int), vs = [.ref a] ∧ SqL K H a (ns.map V.int) ∧
  ∀ sl sa H', H sl = none → H sa = none → sa ≠ sl → Same H H' → H' sl = some (.lst (ns.map V.int)) → H' sa = some (.lst [.ref sl, .int 0, .int 0, .int 19]) → Q (.ref sa) H'
def tStream (K : PySem.W.Frag) : TS := tRet (tLst (tCons (tCB (qList K) (tCons (tVar 0) tNil)) (tCons (tC (.int 0)) (tCons (tC (.int 0)) (tCons (tC (.int 19)) tNil)))))
theorem read_stream {K : PySem.W.Frag} {vs : List V} {H : Hp} {Q : VK} (h : spStream K vs H Q E) : tStream K { nx := fun _ H' => Q .non H', rt := Q } (L2.start ["script"] vs) H := by
  obtain ⟨a, ns, rfl, hS, k⟩ := h
  refine ⟨_, rfl, a, _, rfl, .inl hS, fun sl hl => ⟨by show 4 ≤ sizeLine; decide, fun sa ha => ?_⟩⟩
  have ne : sa ≠ sl := fun z => by rw [z, upd_same] at ha; cases ha
  have hsa : H sa = none := by rw [upd_ne ne] at ha; exact ha
  refine k sl sa _ hl hsa ne (fun b o e => ?_) (by rw [upd_ne (Ne.symm ne)]; exact upd_same) upd_same
  rw [upd_ne (ne_of_none e hsa), upd_ne (ne_of_none e hl)]
  exact e
/-- where the law stands behind its first statement -/
def env0 (n : Nat) : SEnv := .un :: .val .strm :: List.replicate (n - 2) .un
theorem sok0 {mg : Str → Option Value} {sa sl : Addr} {H : Hp} {v : V} {n : Nat} (hn : 2 ≤ n) : SOk mg ⟨sa, sl, fun b => b = sa ∨ b = sl⟩ H (some v :: some (.ref sa) :: List.replicate (n - 2) none) (env0 n) (fun _ => 0) := by
  have no : ∀ {i : Nat} {ds : List D}, (env0 n)[i]? = some (Sl.own ds) → False := by
    intro i ds e
    match i, e with
    | 0, e => cases e
    | 1, e => cases e
    | i + 2, e =>
      have e' : (List.replicate (n - 2) Sl.un)[i]? = some (Sl.own ds) := e
      rw [List.getElem?_replicate] at e'
      split at e' <;> cases e'
  refine ⟨by simp [env0], fun i j ds ds' e => (no e).elim, fun i ds e => (no e).elim, fun i d e => ?_, fun i ds e => (no e).elim⟩
  match i, e with
  | 0, e => cases e
  | 1, e => cases e; exact ⟨_, rfl, rfl⟩
  | i + 2, e =>
    have e' : (List.replicate (n - 2) Sl.un)[i]? = some (Sl.val d) := e
    rw [List.getElem?_replicate] at e'
    split at e' <;> cases e'
def spLaw (K : PySem.W.Frag) (most : Nat) : Sp := fun vs H Q _ => ∃ (a : Addr) (ns : List Int), vs = [.ref a] ∧ SqL K H a (ns.map V.int) ∧ ns.length ≤ most ∧ ∀ H', Q (.bl true) H'
theorem read_law {mg : Str → Option Value} {K : PySem.W.Frag} {most : Nat} {N : List Str} {B : SEnv → M Fl} {t : TS} (hN : 2 ≤ N.length) (hB : RS mg E t B) (pure_ : ∀ ns : List Int, ns.length ≤ most → ∃ st', B (env0 N.length) (some ⟨ns, 0, 0, 19⟩) = some (.ok (.rt (.bl true)), st'))
    {vs : List V} {H : Hp} {Q : VK} (h : spLaw K most vs H Q E) : tSeq (tAsg (tCall (spStream K) [] E (tCons (tVar 0) tNil)) (gName 1)) t { nx := fun _ H' => Q .non H', rt := Q } (L2.start N vs) H := by
  obtain ⟨a, ns, rfl, hS, hl, k⟩ := h
  refine ⟨.ref a, rfl, a, ns, rfl, hS, fun sl sa H' h1 h2 h3 h4 h5 h6 => ?_⟩
  obtain ⟨st', e⟩ := pure_ ns hl
  have es : (L2.start N [V.ref a]).set 1 (some (.ref sa)) = some (.ref a) :: some (.ref sa) :: List.replicate (N.length - 2) none := by
    unfold L2.start
    match N, hN with
    | _ :: _ :: r, _ => simp [List.replicate_succ]
  show t _ ((L2.start N [V.ref a]).set 1 (some (.ref sa))) H'
  rw [es]
  refine hB ⟨sa, sl, fun b => b = sa ∨ b = sl⟩ (some ⟨ns, 0, 0, 19⟩) _ H' (env0 N.length) (fun _ => 0) _ ⟨?_, .inl rfl, .inr rfl, h3, h6, h5⟩ (sok0 hN) ?_
  · rintro b (rfl | rfl)
    · exact ⟨_, h6⟩
    · exact ⟨_, h5⟩
  · rw [e]
    exact fun v H2 _ q => by
      cases (show v = .bl true from q)
      exact k H2
end VS
namespace VS
open PySem PySem.Spec PyProof.Rows L2
variable {E : XK}
def tSpoil0 (K : PySem.W.Frag) : TS := tSeq (tIfS (tIsL K "dict") tNever tNext) (tSeq (tIfS (tIsLT K) tNever tNext) (tIfS (tIsL K "list") tNever tNext))
theorem read_isI {K : PySem.W.Frag} {n : Ty} (hn : n ≠ .non) {i : Int} {σ : L2.St} {H : Hp} {Q : Bool → Hp → Prop} (h0 : σ[0]? = some (some (.int i))) (q : Q (isTy .int n) H) : tIsL K n.nm σ H Q := by
  refine ⟨.int i, h0, ?_⟩
  exact ⟨.int i, .ty n.nm, .type "int", .type n.nm, isTy .int n, rfl, .ty _, .base (.int i), kit_ty (kit_all .int n hn), isTy .int n, rfl, q⟩
theorem read_isIT {K : PySem.W.Frag} {i : Int} {σ : L2.St} {H : Hp} {Q : Bool → Hp → Prop} (h0 : σ[0]? = some (some (.int i))) (q : ∀ H', Same H H' → Q false H') : tIsLT K σ H Q := by
  refine ⟨.int i, h0, ?_⟩
  refine ⟨by show 2 ≤ sizeLine; decide, fun c hc => ?_⟩
  have s : Same H (upd H c (.tup [.ty "list", .ty "tuple"])) := fun b o e => by rw [upd_ne (ne_of_none e hc)]; exact e
  exact ⟨.int i, c, [.ty "list", .ty "tuple"], .type "int", [.type "list", .type "tuple"], false, rfl, upd_same, .cons (.ty _) (.cons (.ty _) .nil), .base (.int i), kit_tys (a := .int) (ts := [.lst, .tup]) (by simp), false, rfl, q _ s⟩
theorem read_sp0 {K : PySem.W.Frag} {vs : List V} {H : Hp} {Q : VK} (h : sp0 vs H Q E) : tSpoil0 K { nx := fun _ H' => Q .non H', rt := Q } (L2.start ["thing", "key", "part"] vs) H := by
  obtain ⟨n, rfl, k⟩ := h
  refine read_isI (n := .dct) (by decide) rfl ?_
  refine read_isIT rfl fun H1 s1 => ?_
  exact read_isI (n := .lst) (by decide) rfl (k _ s1)
end VS

/-! VS14: how the functions are computed: plain lemmas. -/
namespace VS
open PySem PySem.Spec PyProof.Rows L2
theorem bnd_ret {α β : Type} (a : α) (f : α → M β) : bnd (ret a) f = f a := by
  have h : (fun st => bnd (ret a) f st) = fun st => f a st := rfl
  exact h
theorem ofO_some {α : Type} (a : α) : (ofO (some a) : M α) = ret a := by
  have h : (fun st => (ofO (some a) : M α) st) = fun st => ret a st := rfl
  exact h
theorem bnd_assoc {α β γ : Type} (m : M α) (f : α → M β) (k : β → M γ) : bnd (bnd m f) k = bnd m fun a => bnd (f a) k := by
  funext st
  unfold bnd
  cases h : m st with
  | none => rfl
  | some p =>
    obtain ⟨r, s⟩ := p
    cases r <;> rfl
theorem eqD_int (i j : Int) : oEq false (.int i) (.int j) = some (.bl (decide (i = j))) := by
  show some (D.bl (false ^^ decide (V.int i = V.int j))) = _
  rw [Bool.false_xor]
  congr 2
  simp
theorem eqD_str (i j : Str) : oEq false (.str i) (.str j) = some (.bl (decide (i = j))) := by
  show some (D.bl (false ^^ decide (V.str i = V.str j))) = _
  rw [Bool.false_xor]
  congr 2
  simp
theorem neD_int (i j : Int) : oEq true (.int i) (.int j) = some (.bl (!decide (i = j))) := by
  show some (D.bl (true ^^ decide (V.int i = V.int j))) = _
  rw [Bool.true_xor]
  congr 3
  simp
theorem eqD_bl (i j : Bool) : oEq false (.bl i) (.bl j) = some (.bl (decide (i = j))) := by
  cases i <;> cases j <;> rfl
theorem neD_bl (i j : Bool) : oEq true (.bl i) (.bl j) = some (.bl (!decide (i = j))) := by
  cases i <;> cases j <;> rfl
theorem addD_int (i j : Int) : oAdd (.int i) (.int j) = some (.int (i + j)) := rfl
theorem subD_int (i j : Int) : oSub (.int i) (.int j) = some (.int (i - j)) := rfl
theorem geD_int (i j : Int) : oGe (.int i) (.int j) = some (.bl (decide (j ≤ i))) := rfl
theorem gtD_int (i j : Int) : oGt (.int i) (.int j) = some (.bl (decide (j < i))) := rfl
theorem ltD_int (i j : Int) : oLt (.int i) (.int j) = some (.bl (decide (i < j))) := rfl
theorem modD_int {i j : Int} (h : 0 < j) : oMod (.int i) (.int j) = some (.int (i % j)) := by
  show (if j ≠ 0 then some (D.int (i.fmod j)) else none) = _
  rw [if_pos (by omega), Int.fmod_eq_emod_of_nonneg i (by omega)]
theorem ixD0 {d a : D} {r : List D} (h : d.seq = some (a :: r)) : oIx d (.int 0) = some a := by
  cases d <;> simp only [D.seq] at h <;> first | (cases h; done) | skip
  all_goals
    cases h
    show L2.atI (a :: r) 0 = _
    exact atI_nat (xs := a :: r) (j := 0) rfl
theorem ixD1 {d a b : D} {r : List D} (h : d.seq = some (a :: b :: r)) : oIx d (.int 1) = some b := by
  cases d <;> simp only [D.seq] at h <;> first | (cases h; done) | skip
  all_goals
    cases h
    show L2.atI (a :: b :: r) 1 = _
    exact atI_nat (xs := a :: b :: r) (j := 1) rfl
theorem lenD {d : D} {r : List D} (h : d.seq = some r) : bLen [d] = some (.int r.length) := by
  cases d <;> simp only [D.seq] at h <;> first | (cases h; done) | skip
  all_goals
    cases h
    rfl
/-! ### comprehensions, loops -/
theorem nox_ret {α : Type} (a : α) : nox (ret a) = ret a := rfl
theorem lcGo_map {tg : D → DEnv → Option DEnv} {F : DEnv → M D} {env : DEnv} (k : D → D) : ∀ (ds acc : List D), (∀ d ∈ ds, ∃ env', tg d env = some env' ∧ F env' = ret (k d)) → acc.length + ds.length ≤ sizeLine → lcGo tg fYes F env ds acc = ret (acc ++ ds.map k)
  | [], acc, _, _ => by simp [lcGo]
  | d :: ds, acc, h, hl => by
    obtain ⟨env', e1, e2⟩ := h d List.mem_cons_self
    have hl' : acc.length + (ds.length + 1) ≤ sizeLine := hl
    have ih := lcGo_map k ds (acc ++ [k d]) (fun x hx => h x (List.mem_cons_of_mem _ hx)) (by rw [List.length_append]; show acc.length + 1 + ds.length ≤ _; omega)
    unfold lcGo
    rw [e1]
    simp only [fYes, nox_ret, bnd_ret, if_pos, e2]
    rw [if_pos (by omega), ih, List.append_assoc]
    rfl
theorem lcGo_filter {tg : D → DEnv → Option DEnv} {T : DEnv → M Bool} {F : DEnv → M D} {env : DEnv} (c : D → Bool) (k : D → D) : ∀ (ds acc : List D), (∀ d ∈ ds, ∃ env', tg d env = some env' ∧ T env' = ret (c d) ∧ F env' = ret (k d)) → acc.length + ds.length ≤ sizeLine → lcGo tg T F env ds acc = ret (acc ++ (ds.filter c).map k)
  | [], acc, _, _ => by simp [lcGo]
  | d :: ds, acc, h, hl => by
    obtain ⟨env', e1, e0, e2⟩ := h d List.mem_cons_self
    have hl' : acc.length + (ds.length + 1) ≤ sizeLine := hl
    unfold lcGo
    rw [e1]
    simp only [e0, nox_ret, bnd_ret]
    cases hc : c d with
    | true =>
      have ih := lcGo_filter (T := T) c k ds (acc ++ [k d]) (fun x hx => h x (List.mem_cons_of_mem _ hx)) (by rw [List.length_append]; show acc.length + 1 + ds.length ≤ _; omega)
      rw [if_pos rfl, e2, nox_ret, bnd_ret, if_pos (by omega), ih, List.filter_cons, if_pos hc, List.append_assoc]
      rfl
    | false =>
      have ih := lcGo_filter (T := T) c k ds acc (fun x hx => h x (List.mem_cons_of_mem _ hx)) (by omega)
      rw [if_neg Bool.false_ne_true, ih, List.filter_cons, if_neg (by rw [hc]; decide)]
/-! ### with the stream: never stuck, so many draws -/
structure SI (s : SS) : Prop where
  a0 : 0 ≤ s.a
  b0 : 0 ≤ s.b
  c0 : 0 ≤ s.c
  c1 : s.c < 2147483648
def bigB : Int := 1099511627776
/-- m ends, has drawn at most n times, and gives what P says -/
def Ok {α : Type} (n : Nat) (m : M α) (P : α → Prop) : Prop := ∀ s : SS, SI s → s.b + n ≤ bigB → ∃ a s', m (some s) = some (.ok a, some s') ∧ SI s' ∧ s'.b ≤ s.b + n ∧ P a
theorem Ok.ret {α : Type} {a : α} {P : α → Prop} (n : Nat) (h : P a) : Ok n (VS.ret a) P := fun s hs hb => ⟨a, s, rfl, hs, by omega, h⟩
theorem Ok.mono {α : Type} {n k : Nat} {m : M α} {P Q : α → Prop} (h : Ok n m P) (hn : n ≤ k) (i : ∀ a, P a → Q a) : Ok k m Q := fun s hs hb => by
  obtain ⟨a, s', e, h1, h2, h3⟩ := h s hs (by omega)
  exact ⟨a, s', e, h1, by omega, i a h3⟩
theorem Ok.bnd {α β : Type} {n k : Nat} {m : M α} {f : α → M β} {P : α → Prop} {Q : β → Prop} (h : Ok n m P) (i : ∀ a, P a → Ok k (f a) Q) : Ok (n + k) (VS.bnd m f) Q := fun s hs hb => by
  obtain ⟨a, s', e, h1, h2, h3⟩ := h s hs (by omega)
  obtain ⟨b, s'', e', h4, h5, h6⟩ := i a h3 s' h1 (by omega)
  refine ⟨b, s'', ?_, h4, by omega, h6⟩
  show VS.bnd m f (some s) = _
  unfold VS.bnd
  rw [e]
  exact e'
theorem Ok.nox {α : Type} {n : Nat} {m : M α} {P : α → Prop} (h : Ok n m P) : Ok n (VS.nox m) P := fun s hs hb => by
  obtain ⟨a, s', e, r⟩ := h s hs hb
  refine ⟨a, s', ?_, r⟩
  unfold VS.nox
  rw [e]
/-- a comprehension whose elements are drawn -/
theorem Ok.lc {tg : D → DEnv → Option DEnv} {F : DEnv → M D} {env : DEnv} {n : Nat} {P : D → D → Prop} : ∀ (ds acc : List D), (∀ d ∈ ds, ∃ env', tg d env = some env' ∧ Ok n (F env') (P d)) → acc.length + ds.length ≤ sizeLine →
    Ok (n * ds.length) (lcGo tg fYes F env ds acc) (fun ys => ∃ zs : List D, ys = acc ++ zs ∧ zs.length = ds.length ∧ ∀ (i : Nat) (d z : D), ds[i]? = some d → zs[i]? = some z → P d z)
  | [], acc, _, _ => by
    unfold lcGo
    exact Ok.ret _ ⟨[], by simp, rfl, fun i d z e => by simp at e⟩
  | d :: ds, acc, h, hl => by
    obtain ⟨env', e1, e2⟩ := h d List.mem_cons_self
    have hl' : acc.length + (ds.length + 1) ≤ sizeLine := hl
    unfold lcGo
    rw [e1]
    simp only [fYes, nox_ret, bnd_ret, if_pos]
    refine (e2.nox.bnd (k := n * ds.length) fun y hy => ?_).mono (by rw [List.length_cons, Nat.mul_succ]; omega) fun _ q => q
    rw [if_pos (show acc.length < sizeLine by omega)]
    refine (Ok.lc ds (acc ++ [y]) (fun x hx => h x (List.mem_cons_of_mem _ hx)) (by rw [List.length_append]; show acc.length + 1 + ds.length ≤ _; omega)).mono (Nat.le_refl _) fun ys q => ?_
    obtain ⟨zs, rfl, hz, hp⟩ := q
    refine ⟨y :: zs, by rw [List.append_assoc]; rfl, by rw [List.length_cons, hz, List.length_cons], fun i d' z ed ez => ?_⟩
    cases i with
    | zero => cases ed; cases ez; exact hy
    | succ i => exact hp i d' z ed ez
end VS
namespace VS
end VS
namespace VS
open PySem PySem.Spec PyProof.Rows L2
theorem forGo_nx {tg : D → SEnv → Option SEnv} {B : SEnv → M Fl} {d : D} {ds : List D} {env env1 env2 : SEnv} (h1 : tg d env = some env1) (h2 : B env1 = ret (.nx env2)) : forGo tg B (d :: ds) env = forGo tg B ds env2 := by
  show (match tg d env with
    | none => stuck
    | some env1 => bnd (B env1) _) = _
  rw [h1]
  simp only [h2, bnd_ret]
theorem forGo_nil {tg : D → SEnv → Option SEnv} {B : SEnv → M Fl} {env : SEnv} : forGo tg B [] env = ret (.nx env) := rfl
theorem stExtend_ok {a e : List D} (h : a.length + e.length ≤ sizeLine) : stExtend a [.lst e] = some (a ++ e, .non) := if_pos h
theorem stAppend_ok {a : List D} {d : D} (h : a.length < sizeLine) : stAppend a [d] = some (a ++ [d], .non) := if_pos h
theorem if0 {α : Type} {a b : α} : (if 0 ≤ sizeLine then a else b) = a := if_pos (Nat.zero_le _)
theorem if1 {α : Type} {a b : α} : (if 1 ≤ sizeLine then a else b) = a := if_pos (by decide)
theorem if2 {α : Type} {a b : α} : (if 2 ≤ sizeLine then a else b) = a := if_pos (by decide)
theorem if3 {α : Type} {a b : α} : (if 3 ≤ sizeLine then a else b) = a := if_pos (by decide)
theorem if4 {α : Type} {a b : α} : (if 4 ≤ sizeLine then a else b) = a := if_pos (by decide)
theorem sMut_ok {i : Nat} {step : List D → List D → Option (List D × D)} {F : DEnv → M (List D)} {env : SEnv} {ds es ds' : List D} {d : D} (h : env[i]? = some (.own ds)) (hF : F (cl env) = ret es) (hs : step ds es = some (ds', d)) : sMut i step F env = ret (.nx (env.set i (.own ds'))) := by
  unfold sMut
  rw [h]
  simp only [hF, bnd_ret, hs]
end VS
namespace VS
open PySem PySem.Spec PyProof.Rows L2
/-- pairwise related -/
def Two {α β : Type} (R : α → β → Prop) : List α → List β → Prop
  | [], ds => ds = []
  | a :: as, ds => ∃ d r, ds = d :: r ∧ R a d ∧ Two R as r
theorem Two.length {α β : Type} {R : α → β → Prop} : ∀ {as : List α} {ds : List β}, Two R as ds → ds.length = as.length
  | [], _, h => by cases (show _ = _ from h); rfl
  | a :: as, _, h => by
    obtain ⟨d, r, rfl, _, h2⟩ := h
    rw [List.length_cons, List.length_cons, Two.length h2]
theorem lcGo_two {α : Type} {R : α → D → Prop} {tg : D → DEnv → Option DEnv} {F : DEnv → M D} {env : DEnv} (k : α → D) : ∀ (as : List α) (ds acc : List D), Two R as ds → (∀ a d, a ∈ as → R a d → ∃ env', tg d env = some env' ∧ F env' = ret (k a)) → acc.length + as.length ≤ sizeLine → lcGo tg fYes F env ds acc = ret (acc ++ as.map k)
  | [], _, acc, h, _, _ => by
    cases (show _ = _ from h)
    simp [lcGo]
  | a :: as, _, acc, h, hf, hl => by
    obtain ⟨d, r, rfl, h1, h2⟩ := h
    obtain ⟨env', e1, e2⟩ := hf a d List.mem_cons_self h1
    have hl' : acc.length + (as.length + 1) ≤ sizeLine := hl
    have ih := lcGo_two k as r (acc ++ [k a]) h2 (fun x y hx => hf x y (List.mem_cons_of_mem _ hx)) (by rw [List.length_append]; show acc.length + 1 + as.length ≤ _; omega)
    unfold lcGo
    rw [e1]
    simp only [fYes, nox_ret, bnd_ret, if_pos, e2]
    rw [if_pos (by omega), ih, List.append_assoc]
    rfl
theorem Two.imp {α β : Type} {R R' : α → β → Prop} (i : ∀ a d, R a d → R' a d) : ∀ {as : List α} {ds : List β}, Two R as ds → Two R' as ds
  | [], _, h => h
  | a :: as, _, h => by
    obtain ⟨d, r, rfl, h1, h2⟩ := h
    exact ⟨d, r, rfl, i _ _ h1, Two.imp i h2⟩
theorem onInts_map (f : List Int → Option D) (ns : List Int) : onInts f [.lst (ns.map D.int)] = f ns := by
  show (intsD (ns.map D.int)).bind f = _
  rw [ints_map]
  rfl
theorem onBls_map (f : List Bool → Option D) (ns : List Bool) : onBls f [.lst (ns.map D.bl)] = f ns := by
  show (bls (ns.map D.bl)).bind f = _
  rw [bls_map]
  rfl
end VS
namespace VS
open PySem PySem.Spec PyProof.Rows L2 in
def chkL (ds : List D) : M D := if ds.length ≤ PySem.sizeLine then ret (.lst ds) else stuck
def chkT (ds : List D) : M D := if ds.length ≤ PySem.sizeLine then ret (.tup ds) else stuck
def chkN (ds : List D) : M (List D) := if ds.length ≤ PySem.sizeLine then ret ds else stuck
theorem chkL_of {ds : List D} (h : ds.length ≤ PySem.sizeLine) : chkL ds = ret (.lst ds) := if_pos h
theorem chkT_of {ds : List D} (h : ds.length ≤ PySem.sizeLine) : chkT ds = ret (.tup ds) := if_pos h
theorem chkN_of {ds : List D} (h : ds.length ≤ PySem.sizeLine) : chkN ds = ret ds := if_pos h
theorem le4 : 4 ≤ PySem.sizeLine := by decide
theorem chkL0 : chkL [] = ret (.lst []) := chkL_of (Nat.zero_le _)
theorem chkL1 {a : D} : chkL [a] = ret (.lst [a]) := chkL_of (Nat.le_trans (by decide : 1 ≤ 4) le4)
theorem chkL2 {a b : D} : chkL [a, b] = ret (.lst [a, b]) := chkL_of (Nat.le_trans (by decide : 2 ≤ 4) le4)
theorem chkL3 {a b c : D} : chkL [a, b, c] = ret (.lst [a, b, c]) := chkL_of (Nat.le_trans (by decide : 3 ≤ 4) le4)
theorem chkL4 {a b c d : D} : chkL [a, b, c, d] = ret (.lst [a, b, c, d]) := chkL_of le4
theorem chkT1 {a : D} : chkT [a] = ret (.tup [a]) := chkT_of (Nat.le_trans (by decide : 1 ≤ 4) le4)
theorem chkT2 {a b : D} : chkT [a, b] = ret (.tup [a, b]) := chkT_of (Nat.le_trans (by decide : 2 ≤ 4) le4)
theorem chkT3 {a b c : D} : chkT [a, b, c] = ret (.tup [a, b, c]) := chkT_of (Nat.le_trans (by decide : 3 ≤ 4) le4)
theorem chkN0 : chkN [] = ret [] := chkN_of (Nat.zero_le _)
theorem chkN1 {a : D} : chkN [a] = ret [a] := chkN_of (Nat.le_trans (by decide : 1 ≤ 4) le4)
theorem fLst_eq (A : DEnv → M (List D)) (env : DEnv) : fLst A env = bnd (A env) chkL := rfl
theorem fTup_eq (A : DEnv → M (List D)) (env : DEnv) : fTup A env = bnd (A env) chkT := rfl
theorem fNew_eq (A : DEnv → M (List D)) (env : DEnv) : fNew A env = bnd (A env) chkN := rfl
theorem four_le : 4 ≤ PySem.sizeLine := by decide
theorem ifle {α : Type} {n : Nat} {a b : α} (h : n ≤ 4) : (if n ≤ PySem.sizeLine then a else b) = a := if_pos (Nat.le_trans h four_le)
end VS

namespace K75
open PySem PySem.Spec PyProof.Rows L2 VS
def topS (i : Nat) : Stmt := PySem.Challenge.pw_winninglots_k75_whole_secrets_dealt_and.main.body.getD i (.Pass ⟨0, 0, 0, 0⟩)
abbrev s_is_list : Stmt := topS 2
theorem sc_is_list : FnScope ["thing"] ["thing"] (defScope s_is_list) := ⟨rfl, rfl, rfl, by decide +kernel, rfl, by decide +kernel, by decide +kernel⟩
abbrev s_is_whole : Stmt := topS 3
theorem sc_is_whole : FnScope ["thing"] ["thing"] (defScope s_is_whole) := ⟨rfl, rfl, rfl, by decide +kernel, rfl, by decide +kernel, by decide +kernel⟩
abbrev s_is_number : Stmt := topS 4
theorem sc_is_number : FnScope ["thing"] ["thing"] (defScope s_is_number) := ⟨rfl, rfl, rfl, by decide +kernel, rfl, by decide +kernel, by decide +kernel⟩
abbrev s_is_row : Stmt := topS 5
theorem sc_is_row : FnScope ["thing", "many"] ["thing", "many"] (defScope s_is_row) := ⟨rfl, rfl, rfl, by decide +kernel, rfl, by decide +kernel, by decide +kernel⟩
abbrev s_is_name : Stmt := topS 6
theorem sc_is_name : FnScope ["thing", "sign"] ["thing"] (defScope s_is_name) := ⟨rfl, rfl, rfl, by decide +kernel, rfl, by decide +kernel, by decide +kernel⟩
abbrev s_is_index : Stmt := topS 7
theorem sc_is_index : FnScope ["thing", "many"] ["thing", "many"] (defScope s_is_index) := ⟨rfl, rfl, rfl, by decide +kernel, rfl, by decide +kernel, by decide +kernel⟩
abbrev s_is_rising : Stmt := topS 8
theorem sc_is_rising : FnScope ["things", "one", "other"] ["things"] (defScope s_is_rising) := ⟨rfl, rfl, rfl, by decide +kernel, rfl, by decide +kernel, by decide +kernel⟩
abbrev s_wrong_part : Stmt := topS 19
theorem sc_wrong_part : FnScope ["thing", "path", "index", "part", "wrong"] ["thing", "path"] (defScope s_wrong_part) := ⟨rfl, rfl, rfl, by decide +kernel, rfl, by decide +kernel, by decide +kernel⟩
abbrev s_check_formula : Stmt := topS 20
theorem sc_check_formula : FnScope ["formula", "path"] ["formula"] (defScope s_check_formula) := ⟨rfl, rfl, rfl, by decide +kernel, rfl, by decide +kernel, by decide +kernel⟩
abbrev s_check_names : Stmt := topS 21
theorem sc_check_names : FnScope ["lot", "name"] ["lot"] (defScope s_check_names) := ⟨rfl, rfl, rfl, by decide +kernel, rfl, by decide +kernel, by decide +kernel⟩
abbrev s_places_of : Stmt := topS 22
theorem sc_places_of : FnScope ["formula", "found", "part"] ["formula"] (defScope s_places_of) := ⟨rfl, rfl, rfl, by decide +kernel, rfl, by decide +kernel, by decide +kernel⟩
abbrev s_wanted_of : Stmt := topS 23
theorem sc_wanted_of : FnScope ["formula", "here", "part"] ["formula"] (defScope s_wanted_of) := ⟨rfl, rfl, rfl, by decide +kernel, rfl, by decide +kernel, by decide +kernel⟩
abbrev s_check_modulus : Stmt := topS 25
theorem sc_check_modulus : FnScope ["formula", "modulus"] ["formula", "modulus"] (defScope s_check_modulus) := ⟨rfl, rfl, rfl, by decide +kernel, rfl, by decide +kernel, by decide +kernel⟩
abbrev s_check_secret : Stmt := topS 26
theorem sc_check_secret : FnScope ["secret", "modulus"] ["secret", "modulus"] (defScope s_check_secret) := ⟨rfl, rfl, rfl, by decide +kernel, rfl, by decide +kernel, by decide +kernel⟩
abbrev s_are_below : Stmt := topS 27
theorem sc_are_below : FnScope ["thing", "many", "modulus", "number"] ["thing", "many", "modulus"] (defScope s_are_below) := ⟨rfl, rfl, rfl, by decide +kernel, rfl, by decide +kernel, by decide +kernel⟩
abbrev s_dealt_out : Stmt := topS 28
theorem sc_dealt_out : FnScope ["formula", "modulus", "number", "numbers", "gets", "at", "found", "part", "get", "more"] ["formula", "modulus", "number", "numbers"] (defScope s_dealt_out) := ⟨rfl, rfl, rfl, by decide +kernel, rfl, by decide +kernel, by decide +kernel⟩
abbrev s_deal : Stmt := topS 29
theorem sc_deal : FnScope ["formula", "modulus", "secret", "numbers"] ["formula", "modulus", "secret", "numbers"] (defScope s_deal) := ⟨rfl, rfl, rfl, by decide +kernel, rfl, by decide +kernel, by decide +kernel⟩
abbrev s_check_shares : Stmt := topS 30
theorem sc_check_shares : FnScope ["formula", "modulus", "shares"] ["formula", "modulus", "shares"] (defScope s_check_shares) := ⟨rfl, rfl, rfl, by decide +kernel, rfl, by decide +kernel, by decide +kernel⟩
abbrev s_parted : Stmt := topS 31
theorem sc_parted : FnScope ["formula", "shares", "found", "at", "part", "more"] ["formula", "shares"] (defScope s_parted) := ⟨rfl, rfl, rfl, by decide +kernel, rfl, by decide +kernel, by decide +kernel⟩
abbrev s_dealt_from : Stmt := topS 32
theorem sc_dealt_from : FnScope ["formula", "modulus", "shares", "numbers", "part", "some"] ["formula", "modulus", "shares"] (defScope s_dealt_from) := ⟨rfl, rfl, rfl, by decide +kernel, rfl, by decide +kernel, by decide +kernel⟩
abbrev s_secret_of : Stmt := topS 33
theorem sc_secret_of : FnScope ["formula", "modulus", "shares"] ["formula", "modulus", "shares"] (defScope s_secret_of) := ⟨rfl, rfl, rfl, by decide +kernel, rfl, by decide +kernel, by decide +kernel⟩
abbrev s_found_by : Stmt := topS 34
theorem sc_found_by : FnScope ["formula", "modulus", "lot", "shares", "numbers", "known", "part", "some", "number"] ["formula", "modulus", "lot", "shares"] (defScope s_found_by) := ⟨rfl, rfl, rfl, by decide +kernel, rfl, by decide +kernel, by decide +kernel⟩
abbrev s_opened : Stmt := topS 35
theorem sc_opened : FnScope ["formula", "modulus", "lot", "shares"] ["formula", "modulus", "lot", "shares"] (defScope s_opened) := ⟨rfl, rfl, rfl, by decide +kernel, rfl, by decide +kernel, by decide +kernel⟩
abbrev s__law_stream : Stmt := topS 37
theorem sc__law_stream : FnScope ["script"] ["script"] (defScope s__law_stream) := ⟨rfl, rfl, rfl, by decide +kernel, rfl, by decide +kernel, by decide +kernel⟩
abbrev s__law_draw : Stmt := topS 38
theorem sc__law_draw : FnScope ["stream", "many", "cell", "digit", "mixed"] ["stream", "many"] (defScope s__law_draw) := ⟨rfl, rfl, rfl, by decide +kernel, rfl, by decide +kernel, by decide +kernel⟩
abbrev s__law_pick : Stmt := topS 39
theorem sc__law_pick : FnScope ["stream", "things"] ["stream", "things"] (defScope s__law_pick) := ⟨rfl, rfl, rfl, by decide +kernel, rfl, by decide +kernel, by decide +kernel⟩
abbrev s__law_mixed : Stmt := topS 40
theorem sc__law_mixed : FnScope ["stream", "things", "left", "found", "k"] ["stream", "things"] (defScope s__law_mixed) := ⟨rfl, rfl, rfl, by decide +kernel, rfl, by decide +kernel, by decide +kernel⟩
abbrev s__law_same : Stmt := topS 41
theorem sc__law_same : FnScope ["found", "due", "mine", "theirs"] ["found", "due"] (defScope s__law_same) := ⟨rfl, rfl, rfl, by decide +kernel, rfl, by decide +kernel, by decide +kernel⟩
abbrev s__law_names : Stmt := topS 42
theorem sc__law_names : FnScope ["stream", "many", "found", "signs", "k", "name", "at", "one"] ["stream", "many"] (defScope s__law_names) := ⟨rfl, rfl, rfl, by decide +kernel, rfl, by decide +kernel, by decide +kernel⟩
abbrev s__law_loose : Stmt := topS 43
theorem sc__law_loose : FnScope ["stream", "thing", "some", "one"] ["stream", "thing"] (defScope s__law_loose) := ⟨rfl, rfl, rfl, by decide +kernel, rfl, by decide +kernel, by decide +kernel⟩
abbrev s__law_spoilt : Stmt := topS 44
theorem sc__law_spoilt : FnScope ["thing", "key", "part"] ["thing"] (defScope s__law_spoilt) := ⟨rfl, rfl, rfl, by decide +kernel, rfl, by decide +kernel, by decide +kernel⟩
abbrev s__law_places : Stmt := topS 46
theorem sc__law_places : FnScope ["formula", "found", "part"] ["formula"] (defScope s__law_places) := ⟨rfl, rfl, rfl, by decide +kernel, rfl, by decide +kernel, by decide +kernel⟩
abbrev s__law_formula : Stmt := topS 45
theorem sc__law_formula : FnScope ["stream", "names", "deep", "most", "parts", "left", "turn"] ["stream", "names", "deep", "most"] (defScope s__law_formula) := ⟨rfl, rfl, rfl, by decide +kernel, rfl, by decide +kernel, by decide +kernel⟩
abbrev s__law_opens : Stmt := topS 47
theorem sc__law_opens : FnScope ["formula", "lot", "found", "part"] ["formula", "lot"] (defScope s__law_opens) := ⟨rfl, rfl, rfl, by decide +kernel, rfl, by decide +kernel, by decide +kernel⟩
abbrev s__law_wanted : Stmt := topS 48
theorem sc__law_wanted : FnScope ["formula", "part"] ["formula"] (defScope s__law_wanted) := ⟨rfl, rfl, rfl, by decide +kernel, rfl, by decide +kernel, by decide +kernel⟩
abbrev s__law_dealt : Stmt := topS 49
theorem sc__law_dealt : FnScope ["formula", "modulus", "number", "numbers", "gets", "many", "found", "part", "get", "some"] ["formula", "modulus", "number", "numbers"] (defScope s__law_dealt) := ⟨rfl, rfl, rfl, by decide +kernel, rfl, by decide +kernel, by decide +kernel⟩
abbrev s__law_parted : Stmt := topS 50
theorem sc__law_parted : FnScope ["formula", "shares", "found", "at", "part", "more"] ["formula", "shares"] (defScope s__law_parted) := ⟨rfl, rfl, rfl, by decide +kernel, rfl, by decide +kernel, by decide +kernel⟩
abbrev s__law_secret : Stmt := topS 51
theorem sc__law_secret : FnScope ["formula", "modulus", "shares", "numbers", "part", "some", "number"] ["formula", "modulus", "shares"] (defScope s__law_secret) := ⟨rfl, rfl, rfl, by decide +kernel, rfl, by decide +kernel, by decide +kernel⟩
abbrev s__law_lot : Stmt := topS 52
theorem sc__law_lot : FnScope ["stream", "names", "some", "more", "name"] ["stream", "names"] (defScope s__law_lot) := ⟨rfl, rfl, rfl, by decide +kernel, rfl, by decide +kernel, by decide +kernel⟩
abbrev s__law_copied : Stmt := topS 53
theorem sc__law_copied : FnScope ["thing", "some", "one", "key"] ["thing"] (defScope s__law_copied) := ⟨rfl, rfl, rfl, by decide +kernel, rfl, by decide +kernel, by decide +kernel⟩
abbrev s__law_found : Stmt := topS 54
theorem sc__law_found : FnScope ["formula", "modulus", "lot", "shares", "some", "numbers", "part", "number"] ["formula", "modulus", "lot", "shares"] (defScope s__law_found) := ⟨rfl, rfl, rfl, by decide +kernel, rfl, by decide +kernel, by decide +kernel⟩
abbrev s_law : Stmt := topS 55
theorem sc_law : FnScope ["script", "stream", "turn", "names", "formula", "modulus", "kept", "one", "secret", "numbers", "due", "handed", "was", "told", "found", "again", "shares", "at", "number", "passed", "lot", "hidden", "drawn", "some", "share", "name"] ["script"] (defScope s_law) := ⟨rfl, rfl, rfl, by decide +kernel, rfl, by decide +kernel, by decide +kernel⟩
structure Tx (K : PySem.W.Frag) (mg : Str → Option Value) where
  a_is_list : Addr
  fd_is_list : FuncData
  F_is_list : Fun K "is_list" "is_list" s_is_list a_is_list fd_is_list
  m_is_list : mg "is_list" = some (.ref a_is_list)
  a_is_whole : Addr
  fd_is_whole : FuncData
  F_is_whole : Fun K "is_whole" "is_whole" s_is_whole a_is_whole fd_is_whole
  m_is_whole : mg "is_whole" = some (.ref a_is_whole)
  a_is_number : Addr
  fd_is_number : FuncData
  F_is_number : Fun K "is_number" "is_number" s_is_number a_is_number fd_is_number
  m_is_number : mg "is_number" = some (.ref a_is_number)
  a_is_row : Addr
  fd_is_row : FuncData
  F_is_row : Fun K "is_row" "is_row" s_is_row a_is_row fd_is_row
  m_is_row : mg "is_row" = some (.ref a_is_row)
  a_is_name : Addr
  fd_is_name : FuncData
  F_is_name : Fun K "is_name" "is_name" s_is_name a_is_name fd_is_name
  m_is_name : mg "is_name" = some (.ref a_is_name)
  a_is_index : Addr
  fd_is_index : FuncData
  F_is_index : Fun K "is_index" "is_index" s_is_index a_is_index fd_is_index
  m_is_index : mg "is_index" = some (.ref a_is_index)
  a_is_rising : Addr
  fd_is_rising : FuncData
  F_is_rising : Fun K "is_rising" "is_rising" s_is_rising a_is_rising fd_is_rising
  m_is_rising : mg "is_rising" = some (.ref a_is_rising)
  a_wrong_part : Addr
  fd_wrong_part : FuncData
  F_wrong_part : Fun K "wrong_part" "wrong_part" s_wrong_part a_wrong_part fd_wrong_part
  m_wrong_part : mg "wrong_part" = some (.ref a_wrong_part)
  a_check_formula : Addr
  fd_check_formula : FuncData
  F_check_formula : Fun K "check_formula" "check_formula" s_check_formula a_check_formula fd_check_formula
  m_check_formula : mg "check_formula" = some (.ref a_check_formula)
  a_check_names : Addr
  fd_check_names : FuncData
  F_check_names : Fun K "check_names" "check_names" s_check_names a_check_names fd_check_names
  m_check_names : mg "check_names" = some (.ref a_check_names)
  a_places_of : Addr
  fd_places_of : FuncData
  F_places_of : Fun K "places_of" "places_of" s_places_of a_places_of fd_places_of
  m_places_of : mg "places_of" = some (.ref a_places_of)
  a_wanted_of : Addr
  fd_wanted_of : FuncData
  F_wanted_of : Fun K "wanted_of" "wanted_of" s_wanted_of a_wanted_of fd_wanted_of
  m_wanted_of : mg "wanted_of" = some (.ref a_wanted_of)
  a_check_modulus : Addr
  fd_check_modulus : FuncData
  F_check_modulus : Fun K "check_modulus" "check_modulus" s_check_modulus a_check_modulus fd_check_modulus
  m_check_modulus : mg "check_modulus" = some (.ref a_check_modulus)
  a_check_secret : Addr
  fd_check_secret : FuncData
  F_check_secret : Fun K "check_secret" "check_secret" s_check_secret a_check_secret fd_check_secret
  m_check_secret : mg "check_secret" = some (.ref a_check_secret)
  a_are_below : Addr
  fd_are_below : FuncData
  F_are_below : Fun K "are_below" "are_below" s_are_below a_are_below fd_are_below
  m_are_below : mg "are_below" = some (.ref a_are_below)
  a_dealt_out : Addr
  fd_dealt_out : FuncData
  F_dealt_out : Fun K "dealt_out" "dealt_out" s_dealt_out a_dealt_out fd_dealt_out
  m_dealt_out : mg "dealt_out" = some (.ref a_dealt_out)
  a_deal : Addr
  fd_deal : FuncData
  F_deal : Fun K "deal" "deal" s_deal a_deal fd_deal
  m_deal : mg "deal" = some (.ref a_deal)
  a_check_shares : Addr
  fd_check_shares : FuncData
  F_check_shares : Fun K "check_shares" "check_shares" s_check_shares a_check_shares fd_check_shares
  m_check_shares : mg "check_shares" = some (.ref a_check_shares)
  a_parted : Addr
  fd_parted : FuncData
  F_parted : Fun K "parted" "parted" s_parted a_parted fd_parted
  m_parted : mg "parted" = some (.ref a_parted)
  a_dealt_from : Addr
  fd_dealt_from : FuncData
  F_dealt_from : Fun K "dealt_from" "dealt_from" s_dealt_from a_dealt_from fd_dealt_from
  m_dealt_from : mg "dealt_from" = some (.ref a_dealt_from)
  a_secret_of : Addr
  fd_secret_of : FuncData
  F_secret_of : Fun K "secret_of" "secret_of" s_secret_of a_secret_of fd_secret_of
  m_secret_of : mg "secret_of" = some (.ref a_secret_of)
  a_found_by : Addr
  fd_found_by : FuncData
  F_found_by : Fun K "found_by" "found_by" s_found_by a_found_by fd_found_by
  m_found_by : mg "found_by" = some (.ref a_found_by)
  a_opened : Addr
  fd_opened : FuncData
  F_opened : Fun K "opened" "opened" s_opened a_opened fd_opened
  m_opened : mg "opened" = some (.ref a_opened)
  a__law_stream : Addr
  fd__law_stream : FuncData
  F__law_stream : Fun K "_law_stream" "_law_stream" s__law_stream a__law_stream fd__law_stream
  m__law_stream : mg "_law_stream" = some (.ref a__law_stream)
  a__law_draw : Addr
  fd__law_draw : FuncData
  F__law_draw : Fun K "_law_draw" "_law_draw" s__law_draw a__law_draw fd__law_draw
  m__law_draw : mg "_law_draw" = some (.ref a__law_draw)
  a__law_pick : Addr
  fd__law_pick : FuncData
  F__law_pick : Fun K "_law_pick" "_law_pick" s__law_pick a__law_pick fd__law_pick
  m__law_pick : mg "_law_pick" = some (.ref a__law_pick)
  a__law_mixed : Addr
  fd__law_mixed : FuncData
  F__law_mixed : Fun K "_law_mixed" "_law_mixed" s__law_mixed a__law_mixed fd__law_mixed
  m__law_mixed : mg "_law_mixed" = some (.ref a__law_mixed)
  a__law_same : Addr
  fd__law_same : FuncData
  F__law_same : Fun K "_law_same" "_law_same" s__law_same a__law_same fd__law_same
  m__law_same : mg "_law_same" = some (.ref a__law_same)
  a__law_names : Addr
  fd__law_names : FuncData
  F__law_names : Fun K "_law_names" "_law_names" s__law_names a__law_names fd__law_names
  m__law_names : mg "_law_names" = some (.ref a__law_names)
  a__law_loose : Addr
  fd__law_loose : FuncData
  F__law_loose : Fun K "_law_loose" "_law_loose" s__law_loose a__law_loose fd__law_loose
  m__law_loose : mg "_law_loose" = some (.ref a__law_loose)
  a__law_spoilt : Addr
  fd__law_spoilt : FuncData
  F__law_spoilt : Fun K "_law_spoilt" "_law_spoilt" s__law_spoilt a__law_spoilt fd__law_spoilt
  m__law_spoilt : mg "_law_spoilt" = some (.ref a__law_spoilt)
  a__law_places : Addr
  fd__law_places : FuncData
  F__law_places : Fun K "_law_places" "_law_places" s__law_places a__law_places fd__law_places
  m__law_places : mg "_law_places" = some (.ref a__law_places)
  a__law_formula : Addr
  fd__law_formula : FuncData
  F__law_formula : Fun K "_law_formula" "_law_formula" s__law_formula a__law_formula fd__law_formula
  m__law_formula : mg "_law_formula" = some (.ref a__law_formula)
  a__law_opens : Addr
  fd__law_opens : FuncData
  F__law_opens : Fun K "_law_opens" "_law_opens" s__law_opens a__law_opens fd__law_opens
  m__law_opens : mg "_law_opens" = some (.ref a__law_opens)
  a__law_wanted : Addr
  fd__law_wanted : FuncData
  F__law_wanted : Fun K "_law_wanted" "_law_wanted" s__law_wanted a__law_wanted fd__law_wanted
  m__law_wanted : mg "_law_wanted" = some (.ref a__law_wanted)
  a__law_dealt : Addr
  fd__law_dealt : FuncData
  F__law_dealt : Fun K "_law_dealt" "_law_dealt" s__law_dealt a__law_dealt fd__law_dealt
  m__law_dealt : mg "_law_dealt" = some (.ref a__law_dealt)
  a__law_parted : Addr
  fd__law_parted : FuncData
  F__law_parted : Fun K "_law_parted" "_law_parted" s__law_parted a__law_parted fd__law_parted
  m__law_parted : mg "_law_parted" = some (.ref a__law_parted)
  a__law_secret : Addr
  fd__law_secret : FuncData
  F__law_secret : Fun K "_law_secret" "_law_secret" s__law_secret a__law_secret fd__law_secret
  m__law_secret : mg "_law_secret" = some (.ref a__law_secret)
  a__law_lot : Addr
  fd__law_lot : FuncData
  F__law_lot : Fun K "_law_lot" "_law_lot" s__law_lot a__law_lot fd__law_lot
  m__law_lot : mg "_law_lot" = some (.ref a__law_lot)
  a__law_copied : Addr
  fd__law_copied : FuncData
  F__law_copied : Fun K "_law_copied" "_law_copied" s__law_copied a__law_copied fd__law_copied
  m__law_copied : mg "_law_copied" = some (.ref a__law_copied)
  a__law_found : Addr
  fd__law_found : FuncData
  F__law_found : Fun K "_law_found" "_law_found" s__law_found a__law_found fd__law_found
  m__law_found : mg "_law_found" = some (.ref a__law_found)
  n_abs : mg "abs" = none
  n_all : mg "all" = none
  n_any : mg "any" = none
  n_bool : mg "bool" = none
  n_dict : mg "dict" = none
  n_enumerate : mg "enumerate" = none
  n_int : mg "int" = none
  n_isinstance : mg "isinstance" = none
  n_len : mg "len" = none
  n_list : mg "list" = none
  n_max : mg "max" = none
  n_min : mg "min" = none
  n_range : mg "range" = none
  n_repr : mg "repr" = none
  n_sorted : mg "sorted" = none
  n_str : mg "str" = none
  n_sum : mg "sum" = none
  n_tuple : mg "tuple" = none
  n_zip : mg "zip" = none
  t_LETTERS : Tok
  g_LETTERS : mg "LETTERS" = some (.str (Str.ofString "abcdefghijklmnopqrstuvwxyz") t_LETTERS)
section
variable {P : Program} {w : World} {K : PySem.W.Frag} {mg : Str → Option Value} {base : Heap}
theorem b_is_list (T : Tx K mg) : Binds K T.fd_is_list ["thing"] [] := T.F_is_list.binds fun _ _ _ _ _ _ us hl => match us, hl with | [_], _ => rfl
theorem b_is_whole (T : Tx K mg) : Binds K T.fd_is_whole ["thing"] [] := T.F_is_whole.binds fun _ _ _ _ _ _ us hl => match us, hl with | [_], _ => rfl
theorem b_is_number (T : Tx K mg) : Binds K T.fd_is_number ["thing"] [] := T.F_is_number.binds fun _ _ _ _ _ _ us hl => match us, hl with | [_], _ => rfl
theorem b_is_row (T : Tx K mg) : Binds K T.fd_is_row ["thing", "many"] [] := T.F_is_row.binds fun _ _ _ _ _ _ us hl => match us, hl with | [_, _], _ => rfl
theorem b_is_name (T : Tx K mg) : Binds K T.fd_is_name ["thing"] [] := T.F_is_name.binds fun _ _ _ _ _ _ us hl => match us, hl with | [_], _ => rfl
theorem b_is_index (T : Tx K mg) : Binds K T.fd_is_index ["thing", "many"] [] := T.F_is_index.binds fun _ _ _ _ _ _ us hl => match us, hl with | [_, _], _ => rfl
theorem b_is_rising (T : Tx K mg) : Binds K T.fd_is_rising ["things"] [] := T.F_is_rising.binds fun _ _ _ _ _ _ us hl => match us, hl with | [_], _ => rfl
theorem b_wrong_part (T : Tx K mg) : Binds K T.fd_wrong_part ["thing", "path"] [] := T.F_wrong_part.binds fun _ _ _ _ _ _ us hl => match us, hl with | [_, _], _ => rfl
theorem b_check_formula (T : Tx K mg) : Binds K T.fd_check_formula ["formula"] [] := T.F_check_formula.binds fun _ _ _ _ _ _ us hl => match us, hl with | [_], _ => rfl
theorem b_check_names (T : Tx K mg) : Binds K T.fd_check_names ["lot"] [] := T.F_check_names.binds fun _ _ _ _ _ _ us hl => match us, hl with | [_], _ => rfl
theorem b_places_of (T : Tx K mg) : Binds K T.fd_places_of ["formula"] [] := T.F_places_of.binds fun _ _ _ _ _ _ us hl => match us, hl with | [_], _ => rfl
theorem b_wanted_of (T : Tx K mg) : Binds K T.fd_wanted_of ["formula"] [] := T.F_wanted_of.binds fun _ _ _ _ _ _ us hl => match us, hl with | [_], _ => rfl
theorem b_check_modulus (T : Tx K mg) : Binds K T.fd_check_modulus ["formula", "modulus"] [] := T.F_check_modulus.binds fun _ _ _ _ _ _ us hl => match us, hl with | [_, _], _ => rfl
theorem b_check_secret (T : Tx K mg) : Binds K T.fd_check_secret ["secret", "modulus"] [] := T.F_check_secret.binds fun _ _ _ _ _ _ us hl => match us, hl with | [_, _], _ => rfl
theorem b_are_below (T : Tx K mg) : Binds K T.fd_are_below ["thing", "many", "modulus"] [] := T.F_are_below.binds fun _ _ _ _ _ _ us hl => match us, hl with | [_, _, _], _ => rfl
theorem b_dealt_out (T : Tx K mg) : Binds K T.fd_dealt_out ["formula", "modulus", "number", "numbers"] [] := T.F_dealt_out.binds fun _ _ _ _ _ _ us hl => match us, hl with | [_, _, _, _], _ => rfl
theorem b_deal (T : Tx K mg) : Binds K T.fd_deal ["formula", "modulus", "secret", "numbers"] [] := T.F_deal.binds fun _ _ _ _ _ _ us hl => match us, hl with | [_, _, _, _], _ => rfl
theorem b_check_shares (T : Tx K mg) : Binds K T.fd_check_shares ["formula", "modulus", "shares"] [] := T.F_check_shares.binds fun _ _ _ _ _ _ us hl => match us, hl with | [_, _, _], _ => rfl
theorem b_parted (T : Tx K mg) : Binds K T.fd_parted ["formula", "shares"] [] := T.F_parted.binds fun _ _ _ _ _ _ us hl => match us, hl with | [_, _], _ => rfl
theorem b_dealt_from (T : Tx K mg) : Binds K T.fd_dealt_from ["formula", "modulus", "shares"] [] := T.F_dealt_from.binds fun _ _ _ _ _ _ us hl => match us, hl with | [_, _, _], _ => rfl
theorem b_secret_of (T : Tx K mg) : Binds K T.fd_secret_of ["formula", "modulus", "shares"] [] := T.F_secret_of.binds fun _ _ _ _ _ _ us hl => match us, hl with | [_, _, _], _ => rfl
theorem b_found_by (T : Tx K mg) : Binds K T.fd_found_by ["formula", "modulus", "lot", "shares"] [] := T.F_found_by.binds fun _ _ _ _ _ _ us hl => match us, hl with | [_, _, _, _], _ => rfl
theorem b_opened (T : Tx K mg) : Binds K T.fd_opened ["formula", "modulus", "lot", "shares"] [] := T.F_opened.binds fun _ _ _ _ _ _ us hl => match us, hl with | [_, _, _, _], _ => rfl
theorem b__law_stream (T : Tx K mg) : Binds K T.fd__law_stream ["script"] [] := T.F__law_stream.binds fun _ _ _ _ _ _ us hl => match us, hl with | [_], _ => rfl
theorem b__law_draw (T : Tx K mg) : Binds K T.fd__law_draw ["stream", "many"] [] := T.F__law_draw.binds fun _ _ _ _ _ _ us hl => match us, hl with | [_, _], _ => rfl
theorem b__law_pick (T : Tx K mg) : Binds K T.fd__law_pick ["stream", "things"] [] := T.F__law_pick.binds fun _ _ _ _ _ _ us hl => match us, hl with | [_, _], _ => rfl
theorem b__law_mixed (T : Tx K mg) : Binds K T.fd__law_mixed ["stream", "things"] [] := T.F__law_mixed.binds fun _ _ _ _ _ _ us hl => match us, hl with | [_, _], _ => rfl
theorem b__law_same (T : Tx K mg) : Binds K T.fd__law_same ["found", "due"] [] := T.F__law_same.binds fun _ _ _ _ _ _ us hl => match us, hl with | [_, _], _ => rfl
theorem b__law_names (T : Tx K mg) : Binds K T.fd__law_names ["stream", "many"] [] := T.F__law_names.binds fun _ _ _ _ _ _ us hl => match us, hl with | [_, _], _ => rfl
theorem b__law_loose (T : Tx K mg) : Binds K T.fd__law_loose ["stream", "thing"] [] := T.F__law_loose.binds fun _ _ _ _ _ _ us hl => match us, hl with | [_, _], _ => rfl
theorem b__law_spoilt (T : Tx K mg) : Binds K T.fd__law_spoilt ["thing"] [] := T.F__law_spoilt.binds fun _ _ _ _ _ _ us hl => match us, hl with | [_], _ => rfl
theorem b__law_places (T : Tx K mg) : Binds K T.fd__law_places ["formula"] [] := T.F__law_places.binds fun _ _ _ _ _ _ us hl => match us, hl with | [_], _ => rfl
theorem b__law_formula (T : Tx K mg) : Binds K T.fd__law_formula ["stream", "names", "deep", "most"] [] := T.F__law_formula.binds fun _ _ _ _ _ _ us hl => match us, hl with | [_, _, _, _], _ => rfl
theorem b__law_opens (T : Tx K mg) : Binds K T.fd__law_opens ["formula", "lot"] [] := T.F__law_opens.binds fun _ _ _ _ _ _ us hl => match us, hl with | [_, _], _ => rfl
theorem b__law_wanted (T : Tx K mg) : Binds K T.fd__law_wanted ["formula"] [] := T.F__law_wanted.binds fun _ _ _ _ _ _ us hl => match us, hl with | [_], _ => rfl
theorem b__law_dealt (T : Tx K mg) : Binds K T.fd__law_dealt ["formula", "modulus", "number", "numbers"] [] := T.F__law_dealt.binds fun _ _ _ _ _ _ us hl => match us, hl with | [_, _, _, _], _ => rfl
theorem b__law_parted (T : Tx K mg) : Binds K T.fd__law_parted ["formula", "shares"] [] := T.F__law_parted.binds fun _ _ _ _ _ _ us hl => match us, hl with | [_, _], _ => rfl
theorem b__law_secret (T : Tx K mg) : Binds K T.fd__law_secret ["formula", "modulus", "shares"] [] := T.F__law_secret.binds fun _ _ _ _ _ _ us hl => match us, hl with | [_, _, _], _ => rfl
theorem b__law_lot (T : Tx K mg) : Binds K T.fd__law_lot ["stream", "names"] [] := T.F__law_lot.binds fun _ _ _ _ _ _ us hl => match us, hl with | [_, _], _ => rfl
theorem b__law_copied (T : Tx K mg) : Binds K T.fd__law_copied ["thing"] [] := T.F__law_copied.binds fun _ _ _ _ _ _ us hl => match us, hl with | [_], _ => rfl
theorem b__law_found (T : Tx K mg) : Binds K T.fd__law_found ["formula", "modulus", "lot", "shares"] [] := T.F__law_found.binds fun _ _ _ _ _ _ us hl => match us, hl with | [_, _, _, _], _ => rfl
theorem ok__law_stream (T : Tx K mg) : FnOk P w K mg base (L2.CX P w) 1 T.a__law_stream T.fd__law_stream ["script"] (spStream K) := by
  refine T.F__law_stream.okX sc__law_stream (fun vs H Q E h => by obtain ⟨a, ns, rfl, _⟩ := h; rfl) (fun cdv A outer s H vs Q E hr h => ⟨tStream K, ?_, read_stream h⟩)
  exact pss_one (ps_ret (pe_lst (pa_cons (pe_callTy call_list_of rfl T.n_list (by decide +kernel) (pa_cons (pe_var (by rfl) (Or.inl rfl)) pa_nil)) (pa_cons pe_int (pa_cons pe_int (pa_cons pe_int pa_nil))))))
theorem ok_sp0 (T : Tx K mg) : FnOk P w K mg base (L2.CX P w) 1 T.a__law_spoilt T.fd__law_spoilt ["thing"] sp0 := by
  refine T.F__law_spoilt.okX sc__law_spoilt (fun vs H Q E h => by obtain ⟨n, rfl, _⟩ := h; rfl) (fun cdv A outer s H vs Q E hr h => ⟨tSpoil0 K, ?_, read_sp0 h⟩)
  exact pss_cons (ps_if (pt_val (pe_callB call_isi rfl T.n_isinstance (by decide +kernel) (pa_cons (pe_var (by rfl) (Or.inl rfl)) (pa_cons (pe_bltn rfl T.n_dict (by decide +kernel) rfl) pa_nil))) (by intro _; rfl)) (pss_cons ps_never (pss_one ps_never)) pss_nil)
    (pss_cons (ps_if (pt_val (pe_callB call_isiT rfl T.n_isinstance (by decide +kernel) (pa_cons (pe_var (by rfl) (Or.inl rfl)) (pa_cons (pe_tup (pa_cons (pe_bltn rfl T.n_list (by decide +kernel) rfl) (pa_cons (pe_bltn rfl T.n_tuple (by decide +kernel) rfl) pa_nil))) pa_nil))) (by intro _; rfl)) (pss_one ps_never) pss_nil)
    (pss_one (ps_if (pt_val (pe_callB call_isi rfl T.n_isinstance (by decide +kernel) (pa_cons (pe_var (by rfl) (Or.inl rfl)) (pa_cons (pe_bltn rfl T.n_list (by decide +kernel) rfl) pa_nil))) (by intro _; rfl)) (pss_one ps_never) pss_nil)))
theorem pss_sp (T : Tx K mg) {k : Nat} {sp : Sp} (hF : FnOk P w K mg base (L2.CX P w) k T.a__law_spoilt T.fd__law_spoilt ["thing"] sp) {cdv : Value} {A : Around} {outer : List Env} {s : Shared} {H : Hp} {E : XK} (hr : Room k (A.deeper (envOfC "_law_spoilt" (defScope s__law_spoilt) s.heap.objs.size T.a__law_spoilt cdv))) :
    PSs (cxOf (L2.CX P w) P w K mg base ["thing", "key", "part"] "_law_spoilt" (defScope s__law_spoilt) T.a__law_spoilt cdv A outer s H E) (defBody s__law_spoilt) (tSpoil K sp E) :=
  pss_cons (ps_if (pt_val (pe_callB call_isi rfl T.n_isinstance (by decide +kernel) (pa_cons (pe_var (by rfl) (Or.inl rfl)) (pa_cons (pe_bltn rfl T.n_dict (by decide +kernel) rfl) pa_nil))) (by intro _; rfl)) (pss_cons ps_never (pss_one ps_never)) pss_nil)
    (pss_cons (ps_if (pt_val (pe_callB call_isiT rfl T.n_isinstance (by decide +kernel) (pa_cons (pe_var (by rfl) (Or.inl rfl)) (pa_cons (pe_tup (pa_cons (pe_bltn rfl T.n_list (by decide +kernel) rfl) (pa_cons (pe_bltn rfl T.n_tuple (by decide +kernel) rfl) pa_nil))) pa_nil))) (by intro _; rfl))
      (pss_one (ps_for (passes_of rfl) rfl (PI.or (pi_list (pe_var (by rfl) (Or.inl rfl))) (pi_tup (pe_var (by rfl) (Or.inl rfl)))) (pg_name (i := 2) sc__law_spoilt.nd rfl (Or.inl rfl)) (pss_one (ps_expr (pe_call hF hr rfl T.m__law_spoilt T.F__law_spoilt.kp (b__law_spoilt T) .nil (passes_call (takes_of rfl rfl rfl rfl) fun _ _ _ _ h => h) (pa_cons (pe_var (by rfl) (Or.inl rfl)) pa_nil)) rfl)))) pss_nil)
    (pss_one (ps_if (pt_val (pe_callB call_isi rfl T.n_isinstance (by decide +kernel) (pa_cons (pe_var (by rfl) (Or.inl rfl)) (pa_cons (pe_bltn rfl T.n_list (by decide +kernel) rfl) pa_nil))) (by intro _; rfl))
      (pss_one (ps_expr (pe_bm PySem.F.plainAttrs_list PySem.F.slot_list_append PySem.F.type_list_append mt_append (pe_var (by rfl) (Or.inl rfl)) (pa_cons pe_str pa_nil)) rfl)) pss_nil)))
theorem ok_sp1 (T : Tx K mg) : FnOk P w K mg base (L2.CX P w) 2 T.a__law_spoilt T.fd__law_spoilt ["thing"] spS1 := by
  refine T.F__law_spoilt.okX sc__law_spoilt (fun vs H Q E h => by obtain ⟨p, ns, rfl, _⟩ := h; rfl) (fun cdv A outer s H vs Q E hr h => ⟨tSpoil K sp0 E, pss_sp T (ok_sp0 T) hr, read_sp1 h⟩)
theorem ok_sp2 (T : Tx K mg) : FnOk P w K mg base (L2.CX P w) 3 T.a__law_spoilt T.fd__law_spoilt ["thing"] spS2 := by
  refine T.F__law_spoilt.okX sc__law_spoilt (fun vs H Q E h => by obtain ⟨p, q, r, ns, ms, rfl, _⟩ := h; rfl) (fun cdv A outer s H vs Q E hr h => ⟨tSpoil K spS1 E, pss_sp T (ok_sp1 T) hr, read_sp2 h⟩)
def B_is_list : SEnv → M Fl :=
  (sRet (fBlt isiT (fCons (fName 0) (fCons (fTup (fCons (fC (.ty .lst)) (fCons (fC (.ty .tup)) fNil))) fNil))))
def F_is_list : List D → M D := fDef 1 B_is_list
theorem ok_is_list (T : Tx K mg) : FnOk P w K mg base (L2.CX P w) 1 T.a_is_list T.fd_is_list ["thing"] (spD mg 1 F_is_list) :=
  okD T.F_is_list sc_is_list fun cdv A outer s H E hr => ⟨_, (ess_one (es_ret (ev_blt call_isiT ok_isiT T.n_isinstance (ea_cons (ev_name 0) (ea_cons (ev_tup (ea_cons (ev_ty .lst T.n_list) (ea_cons (ev_ty .tup T.n_tuple) ea_nil))) ea_nil)))))⟩
def B_is_whole : SEnv → M Fl :=
  (sRet (fAndV (fBlt isiB (fCons (fName 0) (fCons (fC (.ty .int)) fNil))) (fNotV (fBlt isiB (fCons (fName 0) (fCons (fC (.ty .bl)) fNil))))))
def F_is_whole : List D → M D := fDef 1 B_is_whole
theorem ok_is_whole (T : Tx K mg) : FnOk P w K mg base (L2.CX P w) 1 T.a_is_whole T.fd_is_whole ["thing"] (spD mg 1 F_is_whole) :=
  okD T.F_is_whole sc_is_whole fun cdv A outer s H E hr => ⟨_, (ess_one (es_ret (ev_and (ev_blt call_isi ok_isiB T.n_isinstance (ea_cons (ev_name 0) (ea_cons (ev_ty .int T.n_int) ea_nil))) (ev_one (ev_not (ev_blt call_isi ok_isiB T.n_isinstance (ea_cons (ev_name 0) (ea_cons (ev_ty .bl T.n_bool) ea_nil))))))))⟩
def B_is_number : SEnv → M Fl :=
  (sRet (fAndV (fCall 1 F_is_whole (fCons (fName 0) fNil)) (fOp oGe (fName 0) (fC (.int 0)))))
def F_is_number : List D → M D := fDef 1 B_is_number
theorem ok_is_number (T : Tx K mg) : FnOk P w K mg base (L2.CX P w) 2 T.a_is_number T.fd_is_number ["thing"] (spD mg 1 F_is_number) :=
  okD T.F_is_number sc_is_number fun cdv A outer s H E hr => ⟨_, (ess_one (es_ret (ev_and (ev_call (ok_is_whole T) (hr.mono (by decide)) T.m_is_whole T.F_is_whole.kp (b_is_whole T) (passes_call (takes_of rfl rfl rfl rfl) fun _ _ _ _ h => h) (ea_cons (ev_name 0) ea_nil)) (ev_one (ev_c cp_ge (ev_name 0) ev_int)))))⟩
def B_is_row : SEnv → M Fl :=
  (sRet (fAndV (fCall 1 F_is_list (fCons (fName 0) fNil)) (fOp (oEq false) (fBlt bLen (fCons (fName 0) fNil)) (fName 1))))
def F_is_row : List D → M D := fDef 2 B_is_row
theorem ok_is_row (T : Tx K mg) : FnOk P w K mg base (L2.CX P w) 2 T.a_is_row T.fd_is_row ["thing", "many"] (spD mg 2 F_is_row) :=
  okD T.F_is_row sc_is_row fun cdv A outer s H E hr => ⟨_, (ess_one (es_ret (ev_and (ev_call (ok_is_list T) (hr.mono (by decide)) T.m_is_list T.F_is_list.kp (b_is_list T) (passes_call (takes_of rfl rfl rfl rfl) fun _ _ _ _ h => h) (ea_cons (ev_name 0) ea_nil)) (ev_one (ev_c (cp_eq (room_u64 hr)) (ev_blt call_lenA ok_len T.n_len (ea_cons (ev_name 0) ea_nil)) (ev_name 1))))))⟩
def B_is_name : SEnv → M Fl :=
  (sRet (fAndV (fBlt isiB (fCons (fName 0) (fCons (fC (.ty .str)) fNil))) (fAndV (fChain oLt oLt (fC (.int 0)) (fBlt bLen (fCons (fName 0) fNil)) (fC (.int 9))) (fBlt (onBls fun bs => some (.bl (bs.all id))) (fCons (fL (fLcL (fStrs (fName 0)) (gSet 1) fYes (fOp oIn (fName 1) (fC (.str (Str.ofString "abcdefghijklmnopqrstuvwxyz")))) [1])) fNil)))))
def F_is_name : List D → M D := fDef 2 B_is_name
theorem ok_is_name (T : Tx K mg) : FnOk P w K mg base (L2.CX P w) 1 T.a_is_name T.fd_is_name ["thing"] (spD mg 1 F_is_name) :=
  okD T.F_is_name sc_is_name fun cdv A outer s H E hr => ⟨_, (ess_one (es_ret (ev_and (ev_blt call_isi ok_isiB T.n_isinstance (ea_cons (ev_name 0) (ea_cons (ev_ty .str T.n_str) ea_nil))) (ev_and (ev_chain cp_lt cp_lt ev_int (ev_blt call_lenA ok_len T.n_len (ea_cons (ev_name 0) ea_nil)) ev_int) (ev_one (ev_blt (cr_all rfl) ok_all T.n_all (ea_cons (Ef.ev (ef_lc (own := [("sign", 1)]) (te := (tOp (qIn K) (tVar 1) (tC (.str (Str.ofString "abcdefghijklmnopqrstuvwxyz"))))) (tt := tYes) (g := (gName 1))  rfl sc_is_name.nd (blkOk_by (N := ["thing", "sign"]) (sc := defScope s_is_name) (own := [("sign", 1)]) (by decide +kernel)) (ei_str (ev_name 0)) (fun _ _ _ _ _ => (eg_name 1 sc_is_name.nd)) (fun _ _ _ _ _ => ets_nil) (fun _ _ _ _ _ => (ev_c cp_in (ev_name 1) (ev_gstr T.g_LETTERS))))) ea_nil)))))))⟩
def B_is_index : SEnv → M Fl :=
  (sRet (fAndV (fCall 1 F_is_number (fCons (fName 0) fNil)) (fOp oLt (fName 0) (fName 1))))
def F_is_index : List D → M D := fDef 2 B_is_index
theorem ok_is_index (T : Tx K mg) : FnOk P w K mg base (L2.CX P w) 3 T.a_is_index T.fd_is_index ["thing", "many"] (spD mg 2 F_is_index) :=
  okD T.F_is_index sc_is_index fun cdv A outer s H E hr => ⟨_, (ess_one (es_ret (ev_and (ev_call (ok_is_number T) (hr.mono (by decide)) T.m_is_number T.F_is_number.kp (b_is_number T) (passes_call (takes_of rfl rfl rfl rfl) fun _ _ _ _ h => h) (ea_cons (ev_name 0) ea_nil)) (ev_one (ev_c cp_lt (ev_name 0) (ev_name 1))))))⟩
def B_is_rising : SEnv → M Fl :=
  (sRet (fBlt (onBls fun bs => some (.bl (bs.all id))) (fCons (fL (fLcL (fIt zipD (fCons (fName 0) (fCons (fSl (fName 0) (fPart (fC (.int 1))) (fun _ => ret none)) fNil))) (gTp 2 (gsCons (gSet 1) (gsCons (gSet 2) gsNil))) fYes (fOp oLt (fName 1) (fName 2)) [1, 2])) fNil)))
def F_is_rising : List D → M D := fDef 3 B_is_rising
theorem ok_is_rising (T : Tx K mg) : FnOk P w K mg base (L2.CX P w) 1 T.a_is_rising T.fd_is_rising ["things"] (spD mg 1 F_is_rising) :=
  okD T.F_is_rising sc_is_rising fun cdv A outer s H E hr => ⟨_, (ess_one (es_ret (ev_blt (cr_all rfl) ok_all T.n_all (ea_cons (Ef.ev (ef_lc (own := [("one", 1), ("other", 2)]) (te := (tOp rLtA (tVar 1) (tVar 2))) (tt := tYes) (g := (gTup K 2 (gCons (gName 1) (gCons (gName 2) gNil))))  rfl sc_is_rising.nd (blkOk_by (N := ["things", "one", "other"]) (sc := defScope s_is_rising) (own := [("one", 1), ("other", 2)]) (by decide +kernel)) (ei_zip T.n_zip (ea_cons (ev_name 0) (ea_cons (ev_sl (ev_name 0) (eo_some ev_int) eo_none) ea_nil))) (fun _ _ _ _ _ => (eg_tup (egs_cons (eg_name 1 sc_is_rising.nd) (egs_cons (eg_name 2 sc_is_rising.nd) egs_nil)))) (fun _ _ _ _ _ => ets_nil) (fun _ _ _ _ _ => (ev_c cp_lt (ev_name 1) (ev_name 2))))) ea_nil))))⟩
def B_wrong_part (r : List D → M D) : SEnv → M Fl :=
  (sSeq (sIf (fOrT (fNotT (fTst (fCall 2 F_is_row (fCons (fName 0) (fCons (fC (.int 2)) fNil))))) (fOrT (fNotT (fTst (fBlt isiB (fCons (fOp oIx (fName 0) (fC (.int 0))) (fCons (fC (.ty .str)) fNil))))) (fTst (fOp (inQ true) (fOp oIx (fName 0) (fC (.int 0))) (fTup (fCons (fC (.str (Str.ofString "name"))) (fCons (fC (.str (Str.ofString "any"))) (fCons (fC (.str (Str.ofString "all"))) fNil)))))))) (sRet (fName 1)) sNext)
    (sSeq (sIf (fTst (fOp (oEq false) (fOp oIx (fName 0) (fC (.int 0))) (fC (.str (Str.ofString "name"))))) (sRet (fIf (fTst (fCall 1 F_is_name (fCons (fOp oIx (fName 0) (fC (.int 1))) fNil))) (fC .non) (fName 1))) sNext)
    (sSeq (sIf (fOrT (fNotT (fTst (fCall 1 F_is_list (fCons (fOp oIx (fName 0) (fC (.int 1))) fNil)))) (fTst (fOp (oEq false) (fBlt bLen (fCons (fOp oIx (fName 0) (fC (.int 1))) fNil)) (fC (.int 0))))) (sRet (fName 1)) sNext)
    (sSeq (sFor (fIt enumD (fCons (fOp oIx (fName 0) (fC (.int 1))) fNil)) (hTp 2 (hsCons (hSet 2) (hsCons (hSet 3) hsNil))) (sSeq (sSetC 4 (cV (fCall 2 r (fCons (fName 3) (fCons (fLst (fStar (fName 1) (fCons (fName 2) fNil))) fNil)))))
    (sIf (fTst (fOp (oIsN true) (fName 4) (fC .non))) (sRet (fName 4)) sNext)))
    (sRet (fC .non))))))
def F_wrong_part : List D → M D := lev (fun r => fDef 5 (B_wrong_part r)) 20
theorem ok_wrong_part (T : Tx K mg) : FnOk P w K mg base (L2.CX P w) 23 T.a_wrong_part T.fd_wrong_part ["thing", "path"] (spD mg 2 F_wrong_part) := by
  refine fnok_rec (c := 3) (F := fun r => fDef 5 (B_wrong_part r)) (fun k r hk hF => ?_) 20
  exact okD T.F_wrong_part sc_wrong_part fun cdv A outer s H E hr => ⟨_, (ess_cons (es_if (Ew.et (ew_or (et_not (et_val (ev_call (ok_is_row T) (hr.mono (Nat.le_trans (by decide) hk)) T.m_is_row T.F_is_row.kp (b_is_row T) (passes_call (takes_of rfl rfl rfl rfl) fun _ _ _ _ h => h) (ea_cons (ev_name 0) (ea_cons ev_int ea_nil))))) (ew_or (et_not (et_val (ev_blt call_isi ok_isiB T.n_isinstance (ea_cons (ev_ix (ev_name 0) ev_int) (ea_cons (ev_ty .str T.n_str) ea_nil))))) (et_or1 (et_c cp_notin (ev_ix (ev_name 0) ev_int) (ev_tup (ea_cons ev_str (ea_cons ev_str (ea_cons ev_str ea_nil))))))))) (ess_one (es_ret (ev_name 1))) ess_nil)
    (ess_cons (es_if (et_c (cp_eq (room_u64 hr)) (ev_ix (ev_name 0) ev_int) ev_str) (ess_one (es_ret (ev_if (et_val (ev_call (ok_is_name T) (hr.mono (Nat.le_trans (by decide) hk)) T.m_is_name T.F_is_name.kp (b_is_name T) (passes_call (takes_of rfl rfl rfl rfl) fun _ _ _ _ h => h) (ea_cons (ev_ix (ev_name 0) ev_int) ea_nil))) ev_non (ev_name 1)))) ess_nil)
    (ess_cons (es_if (Ew.et (ew_or (et_not (et_val (ev_call (ok_is_list T) (hr.mono (Nat.le_trans (by decide) hk)) T.m_is_list T.F_is_list.kp (b_is_list T) (passes_call (takes_of rfl rfl rfl rfl) fun _ _ _ _ h => h) (ea_cons (ev_ix (ev_name 0) ev_int) ea_nil)))) (et_or1 (et_c (cp_eq (room_u64 hr)) (ev_blt call_lenA ok_len T.n_len (ea_cons (ev_ix (ev_name 0) ev_int) ea_nil)) ev_int)))) (ess_one (es_ret (ev_name 1))) ess_nil)
    (ess_cons (es_for (passes_of rfl) (ei_enum T.n_enumerate (ea_cons (ev_ix (ev_name 0) ev_int) ea_nil)) (egt_tup (egts_cons (egt_name 2 sc_wrong_part.nd) (egts_cons (egt_name 3 sc_wrong_part.nd) egts_nil))) (ess_cons (es_setC 4 sc_wrong_part.nd (ec_v (ev_call hF hr T.m_wrong_part T.F_wrong_part.kp (b_wrong_part T) (passes_call (takes_of rfl rfl rfl rfl) fun _ _ _ _ h => h) (ea_cons (ev_name 3) (ea_cons (ev_lst (ea_star (ev_name 1) (ea_cons (ev_name 2) ea_nil))) ea_nil)))))
    (ess_one (es_if (et_c cp_isnot (ev_name 4) ev_non) (ess_one (es_ret (ev_name 4))) ess_nil))))
    (ess_one (es_ret ev_non))))))⟩
def B_check_formula : SEnv → M Fl :=
  (sSeq (sSetC 1 (cV (fCall 2 F_wrong_part (fCons (fName 0) (fCons (fLst fNil) fNil)))))
    (sIf (fTst (fOp (oIsN true) (fName 1) (fC .non))) (fun _ => stuck) sNext))
def F_check_formula : List D → M D := fDef 2 B_check_formula
theorem ok_check_formula (T : Tx K mg) : FnOk P w K mg base (L2.CX P w) 24 T.a_check_formula T.fd_check_formula ["formula"] (spD mg 1 F_check_formula) :=
  okD T.F_check_formula sc_check_formula fun cdv A outer s H E hr => ⟨_, (ess_cons (es_setC 1 sc_check_formula.nd (ec_v (ev_call (ok_wrong_part T) (hr.mono (by decide)) T.m_wrong_part T.F_wrong_part.kp (b_wrong_part T) (passes_call (takes_of rfl rfl rfl rfl) fun _ _ _ _ h => h) (ea_cons (ev_name 0) (ea_cons (ev_lst ea_nil) ea_nil)))))
    (ess_one (es_if (et_c cp_isnot (ev_name 1) ev_non) (ess_one es_never) ess_nil)))⟩
def B_check_names : SEnv → M Fl :=
  (sIf (fOrT (fNotT (fTst (fCall 1 F_is_list (fCons (fName 0) fNil)))) (fOrT (fNotT (fTst (fBlt (onBls fun bs => some (.bl (bs.all id))) (fCons (fL (fLcL (fSeq (fName 0)) (gSet 1) fYes (fCall 1 F_is_name (fCons (fName 1) fNil)) [1])) fNil)))) (fNotT (fTst (fCall 1 F_is_rising (fCons (fName 0) fNil)))))) (fun _ => stuck) sNext)
def F_check_names : List D → M D := fDef 2 B_check_names
theorem ok_check_names (T : Tx K mg) : FnOk P w K mg base (L2.CX P w) 2 T.a_check_names T.fd_check_names ["lot"] (spD mg 1 F_check_names) :=
  okD T.F_check_names sc_check_names fun cdv A outer s H E hr => ⟨_, (ess_one (es_if (Ew.et (ew_or (et_not (et_val (ev_call (ok_is_list T) (hr.mono (by decide)) T.m_is_list T.F_is_list.kp (b_is_list T) (passes_call (takes_of rfl rfl rfl rfl) fun _ _ _ _ h => h) (ea_cons (ev_name 0) ea_nil)))) (ew_or (et_not (et_val (ev_blt (cr_all rfl) ok_all T.n_all (ea_cons (Ef.ev (ef_lc (own := [("name", 1)]) (te := (tCall (spD mg 1 F_is_name) [] E0 (tCons (tVar 1) tNil))) (tt := tYes) (g := (gName 1))  rfl sc_check_names.nd (blkOk_by (N := ["lot", "name"]) (sc := defScope s_check_names) (own := [("name", 1)]) (by decide +kernel)) (ei_seq (ev_name 0)) (fun _ _ _ _ _ => (eg_name 1 sc_check_names.nd)) (fun _ _ _ _ _ => ets_nil) (fun _ _ _ _ _ => (ev_call (ok_is_name T) (hr.mono (by decide)) T.m_is_name T.F_is_name.kp (b_is_name T) passL (ea_cons (ev_name 1) ea_nil))))) ea_nil)))) (et_or1 (et_not (et_val (ev_call (ok_is_rising T) (hr.mono (by decide)) T.m_is_rising T.F_is_rising.kp (b_is_rising T) (passes_call (takes_of rfl rfl rfl rfl) fun _ _ _ _ h => h) (ea_cons (ev_name 0) ea_nil)))))))) (ess_one es_never) ess_nil))⟩
def B_places_of (r : List D → M D) : SEnv → M Fl :=
  (sSeq (sIf (fTst (fOp (oEq false) (fOp oIx (fName 0) (fC (.int 0))) (fC (.str (Str.ofString "name"))))) (sRet (fLst (fCons (fOp oIx (fName 0) (fC (.int 1))) fNil))) sNext)
    (sSeq (sSetC 1 (cO (fNew fNil)))
    (sSeq (sFor (fSeq (fOp oIx (fName 0) (fC (.int 1)))) (hSet 2) (sMut 1 stExtend (fCons (fCall 1 r (fCons (fName 2) fNil)) fNil)))
    (sRet (fName 1)))))
def F_places_of : List D → M D := lev (fun r => fDef 3 (B_places_of r)) 20
theorem ok_places_of (T : Tx K mg) : FnOk P w K mg base (L2.CX P w) 21 T.a_places_of T.fd_places_of ["formula"] (spD mg 1 F_places_of) := by
  refine fnok_rec (c := 1) (F := fun r => fDef 3 (B_places_of r)) (fun k r hk hF => ?_) 20
  exact okD T.F_places_of sc_places_of fun cdv A outer s H E hr => ⟨_, (ess_cons (es_if (et_c (cp_eq (room_u64 hr)) (ev_ix (ev_name 0) ev_int) ev_str) (ess_one (es_ret (ev_lst (ea_cons (ev_ix (ev_name 0) ev_int) ea_nil)))) ess_nil)
    (ess_cons (es_setC 1 sc_places_of.nd (ec_o (ef_lst ea_nil)))
    (ess_cons (es_for (passes_of rfl) (ei_seq (ev_ix (ev_name 0) ev_int)) (egt_name 2 sc_places_of.nd) (ess_one (es_mut 1 PySem.F.slot_list_extend PySem.F.type_list_extend mt_extend mut_extend (ea_cons (ev_call hF hr T.m_places_of T.F_places_of.kp (b_places_of T) (passes_call (takes_of rfl rfl rfl rfl) fun _ _ _ _ h => h) (ea_cons (ev_name 2) ea_nil)) ea_nil))))
    (ess_one (es_ret (ev_name 1))))))⟩
def B_wanted_of (r : List D → M D) : SEnv → M Fl :=
  (sSeq (sIf (fTst (fOp (oEq false) (fOp oIx (fName 0) (fC (.int 0))) (fC (.str (Str.ofString "name"))))) (sRet (fC (.int 0))) sNext)
    (sSeq (sSetC 1 (cV (fIf (fTst (fOp (oEq false) (fOp oIx (fName 0) (fC (.int 0))) (fC (.str (Str.ofString "all"))))) (fOp oSub (fBlt bLen (fCons (fOp oIx (fName 0) (fC (.int 1))) fNil)) (fC (.int 1))) (fC (.int 0)))))
    (sRet (fOp oAdd (fName 1) (fBlt (onInts fun bs => some (.int bs.sum)) (fCons (fL (fLcL (fSeq (fOp oIx (fName 0) (fC (.int 1)))) (gSet 2) fYes (fCall 1 r (fCons (fName 2) fNil)) [2])) fNil))))))
def F_wanted_of : List D → M D := lev (fun r => fDef 3 (B_wanted_of r)) 20
theorem ok_wanted_of (T : Tx K mg) : FnOk P w K mg base (L2.CX P w) 21 T.a_wanted_of T.fd_wanted_of ["formula"] (spD mg 1 F_wanted_of) := by
  refine fnok_rec (c := 1) (F := fun r => fDef 3 (B_wanted_of r)) (fun k r hk hF => ?_) 20
  exact okD T.F_wanted_of sc_wanted_of fun cdv A outer s H E hr => ⟨_, (ess_cons (es_if (et_c (cp_eq (room_u64 hr)) (ev_ix (ev_name 0) ev_int) ev_str) (ess_one (es_ret ev_int)) ess_nil)
    (ess_cons (es_setC 1 sc_wanted_of.nd (ec_v (ev_if (et_c (cp_eq (room_u64 hr)) (ev_ix (ev_name 0) ev_int) ev_str) (ev_sub (ev_blt call_lenA ok_len T.n_len (ea_cons (ev_ix (ev_name 0) ev_int) ea_nil)) ev_int) ev_int)))
    (ess_one (es_ret (ev_add (ev_name 1) (ev_blt (cr_sum rfl) ok_sum T.n_sum (ea_cons (Ef.ev (ef_lc (own := [("part", 2)]) (te := (tCall (spD mg 1 r) [] E0 (tCons (tVar 2) tNil))) (tt := tYes) (g := (gName 2))  rfl sc_wanted_of.nd (blkOk_by (N := ["formula", "here", "part"]) (sc := defScope s_wanted_of) (own := [("part", 2)]) (by decide +kernel)) (ei_seq (ev_ix (ev_name 0) ev_int)) (fun _ _ _ _ _ => (eg_name 2 sc_wanted_of.nd)) (fun _ _ _ _ _ => ets_nil) (fun _ _ _ _ _ => (ev_call hF hr T.m_wanted_of T.F_wanted_of.kp (b_wanted_of T) passL (ea_cons (ev_name 2) ea_nil))))) ea_nil)))))))⟩
def B_check_modulus : SEnv → M Fl :=
  (sSeq (sDrop (fCall 1 F_check_formula (fCons (fName 0) fNil)))
    (sIf (fOrT (fNotT (fTst (fCall 1 F_is_whole (fCons (fName 1) fNil)))) (fTst (fOp oLt (fName 1) (fC (.int 2))))) (fun _ => stuck) sNext))
def F_check_modulus : List D → M D := fDef 2 B_check_modulus
theorem ok_check_modulus (T : Tx K mg) : FnOk P w K mg base (L2.CX P w) 25 T.a_check_modulus T.fd_check_modulus ["formula", "modulus"] (spD mg 2 F_check_modulus) :=
  okD T.F_check_modulus sc_check_modulus fun cdv A outer s H E hr => ⟨_, (ess_cons (es_expr (ev_call (ok_check_formula T) (hr.mono (by decide)) T.m_check_formula T.F_check_formula.kp (b_check_formula T) (passes_call (takes_of rfl rfl rfl rfl) fun _ _ _ _ h => h) (ea_cons (ev_name 0) ea_nil)))
    (ess_one (es_if (Ew.et (ew_or (et_not (et_val (ev_call (ok_is_whole T) (hr.mono (by decide)) T.m_is_whole T.F_is_whole.kp (b_is_whole T) (passes_call (takes_of rfl rfl rfl rfl) fun _ _ _ _ h => h) (ea_cons (ev_name 1) ea_nil)))) (et_or1 (et_c cp_lt (ev_name 1) ev_int)))) (ess_one es_never) ess_nil)))⟩
def B_check_secret : SEnv → M Fl :=
  (sIf (fNotT (fTst (fCall 2 F_is_index (fCons (fName 0) (fCons (fName 1) fNil))))) (fun _ => stuck) sNext)
def F_check_secret : List D → M D := fDef 2 B_check_secret
theorem ok_check_secret (T : Tx K mg) : FnOk P w K mg base (L2.CX P w) 4 T.a_check_secret T.fd_check_secret ["secret", "modulus"] (spD mg 2 F_check_secret) :=
  okD T.F_check_secret sc_check_secret fun cdv A outer s H E hr => ⟨_, (ess_one (es_if (et_not (et_val (ev_call (ok_is_index T) (hr.mono (by decide)) T.m_is_index T.F_is_index.kp (b_is_index T) (passes_call (takes_of rfl rfl rfl rfl) fun _ _ _ _ h => h) (ea_cons (ev_name 0) (ea_cons (ev_name 1) ea_nil))))) (ess_one es_never) ess_nil))⟩
def B_are_below : SEnv → M Fl :=
  (sRet (fAndV (fCall 2 F_is_row (fCons (fName 0) (fCons (fName 1) fNil))) (fBlt (onBls fun bs => some (.bl (bs.all id))) (fCons (fL (fLcL (fSeq (fName 0)) (gSet 3) fYes (fCall 2 F_is_index (fCons (fName 3) (fCons (fName 2) fNil))) [3])) fNil))))
def F_are_below : List D → M D := fDef 4 B_are_below
theorem ok_are_below (T : Tx K mg) : FnOk P w K mg base (L2.CX P w) 4 T.a_are_below T.fd_are_below ["thing", "many", "modulus"] (spD mg 3 F_are_below) :=
  okD T.F_are_below sc_are_below fun cdv A outer s H E hr => ⟨_, (ess_one (es_ret (ev_and (ev_call (ok_is_row T) (hr.mono (by decide)) T.m_is_row T.F_is_row.kp (b_is_row T) (passes_call (takes_of rfl rfl rfl rfl) fun _ _ _ _ h => h) (ea_cons (ev_name 0) (ea_cons (ev_name 1) ea_nil))) (ev_one (ev_blt (cr_all rfl) ok_all T.n_all (ea_cons (Ef.ev (ef_lc (own := [("number", 3)]) (te := (tCall (spD mg 2 F_is_index) [] E0 (tCons (tVar 3) (tCons (tVar 2) tNil)))) (tt := tYes) (g := (gName 3))  rfl sc_are_below.nd (blkOk_by (N := ["thing", "many", "modulus", "number"]) (sc := defScope s_are_below) (own := [("number", 3)]) (by decide +kernel)) (ei_seq (ev_name 0)) (fun _ _ _ _ _ => (eg_name 3 sc_are_below.nd)) (fun _ _ _ _ _ => ets_nil) (fun _ _ _ _ _ => (ev_call (ok_is_index T) (hr.mono (by decide)) T.m_is_index T.F_is_index.kp (b_is_index T) passL (ea_cons (ev_name 3) (ea_cons (ev_name 2) ea_nil)))))) ea_nil))))))⟩
def B_dealt_out (r : List D → M (List D)) : SEnv → M Fl :=
  (sSeq (sIf (fTst (fOp (oEq false) (fOp oIx (fName 0) (fC (.int 0))) (fC (.str (Str.ofString "name"))))) (sRetF (fNew (fCons (fName 2) fNil))) sNext)
    (sSeq (sPar 4 5 (cV (fOp oMul (fLst (fCons (fName 2) fNil)) (fBlt bLen (fCons (fOp oIx (fName 0) (fC (.int 1))) fNil)))) (cV (fC (.int 0))))
    (sSeq (sIf (fTst (fOp (oEq false) (fOp oIx (fName 0) (fC (.int 0))) (fC (.str (Str.ofString "all"))))) (sSeq (sSetC 5 (cV (fOp oSub (fBlt bLen (fCons (fOp oIx (fName 0) (fC (.int 1))) fNil)) (fC (.int 1)))))
    (sSetC 4 (cV (fLst (fStar (fSl (fName 3) (fun _ => ret none) (fPart (fName 5))) (fCons (fOp oMod (fOp oSub (fName 2) (fBlt (onInts fun bs => some (.int bs.sum)) (fCons (fSl (fName 3) (fun _ => ret none) (fPart (fName 5))) fNil))) (fName 1)) fNil)))))) sNext)
    (sSeq (sSetC 6 (cO (fNew fNil)))
    (sSeq (sFor (fIt zipD (fCons (fOp oIx (fName 0) (fC (.int 1))) (fCons (fName 4) fNil))) (hTp 2 (hsCons (hSet 7) (hsCons (hSet 8) hsNil))) (sSeq (sSetC 9 (cV (fCall 1 F_wanted_of (fCons (fName 7) fNil))))
    (sSeq (sMut 6 stExtend (fCons (fCall 4 (ofF r) (fCons (fName 7) (fCons (fName 1) (fCons (fName 8) (fCons (fSl (fName 3) (fPart (fName 5)) (fPart (fOp oAdd (fName 5) (fName 9)))) fNil))))) fNil))
    (sSetC 5 (cV (fOp oAdd (fName 5) (fName 9)))))))
    (sRetO 6))))))
def FF_dealt_out : List D → M (List D) := levF (fun r => fDefF 10 (B_dealt_out r)) 20
def F_dealt_out : List D → M D := ofF FF_dealt_out
theorem okF_dealt_out (T : Tx K mg) : FnOk P w K mg base (L2.CX P w) 42 T.a_dealt_out T.fd_dealt_out ["formula", "modulus", "number", "numbers"] (spF mg 4 FF_dealt_out) := by
  refine fnokF_rec (c := 22) (F := fun r => fDefF 10 (B_dealt_out r)) (fun k r hk hF => ?_) 20
  exact okF T.F_dealt_out sc_dealt_out fun cdv A outer s H E hr => ⟨_, (ess_cons (es_if (et_c (cp_eq (room_u64 hr)) (ev_ix (ev_name 0) ev_int) ev_str) (ess_one (es_retF (ef_lst (ea_cons (ev_name 2) ea_nil)))) ess_nil)
    (ess_cons (es_par 4 5 sc_dealt_out.nd (ec_v (ev_mul (ev_lst (ea_cons (ev_name 2) ea_nil)) (ev_blt call_lenA ok_len T.n_len (ea_cons (ev_ix (ev_name 0) ev_int) ea_nil)))) (ec_v ev_int))
    (ess_cons (es_if (et_c (cp_eq (room_u64 hr)) (ev_ix (ev_name 0) ev_int) ev_str) (ess_cons (es_setC 5 sc_dealt_out.nd (ec_v (ev_sub (ev_blt call_lenA ok_len T.n_len (ea_cons (ev_ix (ev_name 0) ev_int) ea_nil)) ev_int)))
    (ess_one (es_setC 4 sc_dealt_out.nd (ec_v (ev_lst (ea_star (ev_sl (ev_name 3) eo_none (eo_some (ev_name 5))) (ea_cons (ev_mod (ev_sub (ev_name 2) (ev_blt (cr_sum rfl) ok_sum T.n_sum (ea_cons (ev_sl (ev_name 3) eo_none (eo_some (ev_name 5))) ea_nil))) (ev_name 1)) ea_nil))))))) ess_nil)
    (ess_cons (es_setC 6 sc_dealt_out.nd (ec_o (ef_lst ea_nil)))
    (ess_cons (es_for (passes_of rfl) (ei_zip T.n_zip (ea_cons (ev_ix (ev_name 0) ev_int) (ea_cons (ev_name 4) ea_nil))) (egt_tup (egts_cons (egt_name 7 sc_dealt_out.nd) (egts_cons (egt_name 8 sc_dealt_out.nd) egts_nil))) (ess_cons (es_setC 9 sc_dealt_out.nd (ec_v (ev_call (ok_wanted_of T) (hr.mono (Nat.le_trans (by decide) hk)) T.m_wanted_of T.F_wanted_of.kp (b_wanted_of T) (passes_call (takes_of rfl rfl rfl rfl) fun _ _ _ _ h => h) (ea_cons (ev_name 7) ea_nil))))
    (ess_cons (es_mut 6 PySem.F.slot_list_extend PySem.F.type_list_extend mt_extend mut_extend (ea_cons (ev_call (fnok_ofF hF) hr T.m_dealt_out T.F_dealt_out.kp (b_dealt_out T) (passes_call (takes_of rfl rfl rfl rfl) fun _ _ _ _ h => h) (ea_cons (ev_name 7) (ea_cons (ev_name 1) (ea_cons (ev_name 8) (ea_cons (ev_sl (ev_name 3) (eo_some (ev_name 5)) (eo_some (ev_add (ev_name 5) (ev_name 9)))) ea_nil))))) ea_nil))
    (ess_one (es_setC 5 sc_dealt_out.nd (ec_v (ev_add (ev_name 5) (ev_name 9))))))))
    (ess_one (es_retO 6)))))))⟩
theorem ok_dealt_out (T : Tx K mg) : FnOk P w K mg base (L2.CX P w) 42 T.a_dealt_out T.fd_dealt_out ["formula", "modulus", "number", "numbers"] (spD mg 4 F_dealt_out) := fnok_ofF (okF_dealt_out T)
def B_deal : SEnv → M Fl :=
  (sSeq (sDrop (fCall 2 F_check_modulus (fCons (fName 0) (fCons (fName 1) fNil))))
    (sSeq (sDrop (fCall 2 F_check_secret (fCons (fName 2) (fCons (fName 1) fNil))))
    (sSeq (sIf (fNotT (fTst (fCall 3 F_are_below (fCons (fName 3) (fCons (fCall 1 F_wanted_of (fCons (fName 0) fNil)) (fCons (fName 1) fNil)))))) (fun _ => stuck) sNext)
    (sRetF (fCallF 4 FF_dealt_out (fCons (fName 0) (fCons (fName 1) (fCons (fName 2) (fCons (fL (fIt (one D.seq) (fCons (fName 3) fNil))) fNil)))))))))
def FF_deal : List D → M (List D) := fDefF 4 B_deal
def F_deal : List D → M D := ofF FF_deal
theorem okF_deal (T : Tx K mg) : FnOk P w K mg base (L2.CX P w) 43 T.a_deal T.fd_deal ["formula", "modulus", "secret", "numbers"] (spF mg 4 FF_deal) :=
  okF T.F_deal sc_deal fun cdv A outer s H E hr => ⟨_, (ess_cons (es_expr (ev_call (ok_check_modulus T) (hr.mono (by decide)) T.m_check_modulus T.F_check_modulus.kp (b_check_modulus T) (passes_call (takes_of rfl rfl rfl rfl) fun _ _ _ _ h => h) (ea_cons (ev_name 0) (ea_cons (ev_name 1) ea_nil))))
    (ess_cons (es_expr (ev_call (ok_check_secret T) (hr.mono (by decide)) T.m_check_secret T.F_check_secret.kp (b_check_secret T) (passes_call (takes_of rfl rfl rfl rfl) fun _ _ _ _ h => h) (ea_cons (ev_name 2) (ea_cons (ev_name 1) ea_nil))))
    (ess_cons (es_if (et_not (et_val (ev_call (ok_are_below T) (hr.mono (by decide)) T.m_are_below T.F_are_below.kp (b_are_below T) (passes_call (takes_of rfl rfl rfl rfl) fun _ _ _ _ h => h) (ea_cons (ev_name 3) (ea_cons (ev_call (ok_wanted_of T) (hr.mono (by decide)) T.m_wanted_of T.F_wanted_of.kp (b_wanted_of T) (passes_call (takes_of rfl rfl rfl rfl) fun _ _ _ _ h => h) (ea_cons (ev_name 0) ea_nil)) (ea_cons (ev_name 1) ea_nil)))))) (ess_one es_never) ess_nil)
    (ess_one (es_retF (ef_call (okF_dealt_out T) (hr.mono (by decide)) T.m_dealt_out T.F_dealt_out.kp (b_dealt_out T) (passes_call (takes_of rfl rfl rfl rfl) fun _ _ _ _ h => h) (ea_cons (ev_name 0) (ea_cons (ev_name 1) (ea_cons (ev_name 2) (ea_cons (Ef.ev (ef_bty call_list_of ok_list T.n_list (ea_cons (ev_name 3) ea_nil))) ea_nil))))))))))⟩
theorem ok_deal (T : Tx K mg) : FnOk P w K mg base (L2.CX P w) 43 T.a_deal T.fd_deal ["formula", "modulus", "secret", "numbers"] (spD mg 4 F_deal) := fnok_ofF (okF_deal T)
def B_check_shares : SEnv → M Fl :=
  (sIf (fNotT (fTst (fCall 3 F_are_below (fCons (fName 2) (fCons (fBlt bLen (fCons (fCall 1 F_places_of (fCons (fName 0) fNil)) fNil)) (fCons (fName 1) fNil)))))) (fun _ => stuck) sNext)
def F_check_shares : List D → M D := fDef 3 B_check_shares
theorem ok_check_shares (T : Tx K mg) : FnOk P w K mg base (L2.CX P w) 22 T.a_check_shares T.fd_check_shares ["formula", "modulus", "shares"] (spD mg 3 F_check_shares) :=
  okD T.F_check_shares sc_check_shares fun cdv A outer s H E hr => ⟨_, (ess_one (es_if (et_not (et_val (ev_call (ok_are_below T) (hr.mono (by decide)) T.m_are_below T.F_are_below.kp (b_are_below T) (passes_call (takes_of rfl rfl rfl rfl) fun _ _ _ _ h => h) (ea_cons (ev_name 2) (ea_cons (ev_blt call_lenA ok_len T.n_len (ea_cons (ev_call (ok_places_of T) (hr.mono (by decide)) T.m_places_of T.F_places_of.kp (b_places_of T) (passes_call (takes_of rfl rfl rfl rfl) fun _ _ _ _ h => h) (ea_cons (ev_name 0) ea_nil)) ea_nil)) (ea_cons (ev_name 1) ea_nil)))))) (ess_one es_never) ess_nil))⟩
def B_parted : SEnv → M Fl :=
  (sSeq (sPar 2 3 (cO (fNew fNil)) (cV (fC (.int 0))))
    (sSeq (sFor (fSeq (fOp oIx (fName 0) (fC (.int 1)))) (hSet 4) (sSeq (sSetC 5 (cV (fBlt bLen (fCons (fCall 1 F_places_of (fCons (fName 4) fNil)) fNil))))
    (sSeq (sMut 2 stAppend (fCons (fTup (fCons (fName 4) (fCons (fSl (fName 1) (fPart (fName 3)) (fPart (fOp oAdd (fName 3) (fName 5)))) fNil))) fNil))
    (sSetC 3 (cV (fOp oAdd (fName 3) (fName 5)))))))
    (sRet (fName 2))))
def F_parted : List D → M D := fDef 6 B_parted
theorem ok_parted (T : Tx K mg) : FnOk P w K mg base (L2.CX P w) 22 T.a_parted T.fd_parted ["formula", "shares"] (spD mg 2 F_parted) :=
  okD T.F_parted sc_parted fun cdv A outer s H E hr => ⟨_, (ess_cons (es_par 2 3 sc_parted.nd (ec_o (ef_lst ea_nil)) (ec_v ev_int))
    (ess_cons (es_for (passes_of rfl) (ei_seq (ev_ix (ev_name 0) ev_int)) (egt_name 4 sc_parted.nd) (ess_cons (es_setC 5 sc_parted.nd (ec_v (ev_blt call_lenA ok_len T.n_len (ea_cons (ev_call (ok_places_of T) (hr.mono (by decide)) T.m_places_of T.F_places_of.kp (b_places_of T) (passes_call (takes_of rfl rfl rfl rfl) fun _ _ _ _ h => h) (ea_cons (ev_name 4) ea_nil)) ea_nil))))
    (ess_cons (es_mut 2 PySem.F.slot_list_append PySem.F.type_list_append mt_append mut_append (ea_cons (ev_tup (ea_cons (ev_name 4) (ea_cons (ev_sl (ev_name 1) (eo_some (ev_name 3)) (eo_some (ev_add (ev_name 3) (ev_name 5)))) ea_nil))) ea_nil))
    (ess_one (es_setC 3 sc_parted.nd (ec_v (ev_add (ev_name 3) (ev_name 5))))))))
    (ess_one (es_ret (ev_name 2)))))⟩
def B_dealt_from (r : List D → M D) : SEnv → M Fl :=
  (sSeq (sIf (fTst (fOp (oEq false) (fOp oIx (fName 0) (fC (.int 0))) (fC (.str (Str.ofString "name"))))) (sRet (fOp oIx (fName 2) (fC (.int 0)))) sNext)
    (sSeq (sSetC 3 (cV (fL (fLcL (fSeq (fCall 2 F_parted (fCons (fName 0) (fCons (fName 2) fNil)))) (gTp 2 (gsCons (gSet 4) (gsCons (gSet 5) gsNil))) fYes (fCall 3 r (fCons (fName 4) (fCons (fName 1) (fCons (fName 5) fNil)))) [4, 5]))))
    (sSeq (sIf (fTst (fOp oIn (fC .non) (fName 3))) (sRet (fC .non)) sNext)
    (sSeq (sIf (fTst (fOp (oEq false) (fOp oIx (fName 0) (fC (.int 0))) (fC (.str (Str.ofString "all"))))) (sRet (fOp oMod (fBlt (onInts fun bs => some (.int bs.sum)) (fCons (fName 3) fNil)) (fName 1))) sNext)
    (sRet (fIf (fTst (fOp (oEq false) (fBlt (onInts fun bs => (minI bs).map .int) (fCons (fName 3) fNil)) (fBlt (onInts fun bs => (maxI bs).map .int) (fCons (fName 3) fNil)))) (fOp oIx (fName 3) (fC (.int 0))) (fC .non)))))))
def F_dealt_from : List D → M D := lev (fun r => fDef 6 (B_dealt_from r)) 20
theorem ok_dealt_from (T : Tx K mg) : FnOk P w K mg base (L2.CX P w) 43 T.a_dealt_from T.fd_dealt_from ["formula", "modulus", "shares"] (spD mg 3 F_dealt_from) := by
  refine fnok_rec (c := 23) (F := fun r => fDef 6 (B_dealt_from r)) (fun k r hk hF => ?_) 20
  exact okD T.F_dealt_from sc_dealt_from fun cdv A outer s H E hr => ⟨_, (ess_cons (es_if (et_c (cp_eq (room_u64 hr)) (ev_ix (ev_name 0) ev_int) ev_str) (ess_one (es_ret (ev_ix (ev_name 2) ev_int))) ess_nil)
    (ess_cons (es_setLc (own := [("part", 4), ("some", 5)]) (te := (tCall (spD mg 3 r) [] E0 (tCons (tVar 4) (tCons (tVar 1) (tCons (tVar 5) tNil))))) (tt := tYes) (g := (gTup K 2 (gCons (gName 4) (gCons (gName 5) gNil))))  false 3 sc_dealt_from.nd (blkOk_by (N := ["formula", "modulus", "shares", "numbers", "part", "some"]) (sc := defScope s_dealt_from) (own := [("part", 4), ("some", 5)]) (by decide +kernel)) (ei_seq (ev_call (ok_parted T) (hr.mono (Nat.le_trans (by decide) hk)) T.m_parted T.F_parted.kp (b_parted T) (passes_call (takes_of rfl rfl rfl rfl) fun _ _ _ _ h => h) (ea_cons (ev_name 0) (ea_cons (ev_name 2) ea_nil)))) (fun _ _ _ _ _ => (eg_tup (egs_cons (eg_name 4 sc_dealt_from.nd) (egs_cons (eg_name 5 sc_dealt_from.nd) egs_nil)))) (fun _ _ _ _ _ => ets_nil) (fun _ _ _ _ _ => (ev_call hF hr T.m_dealt_from T.F_dealt_from.kp (b_dealt_from T) passL (ea_cons (ev_name 4) (ea_cons (ev_name 1) (ea_cons (ev_name 5) ea_nil))))))
    (ess_cons (es_if (et_c cp_in ev_non (ev_name 3)) (ess_one (es_ret ev_non)) ess_nil)
    (ess_cons (es_if (et_c (cp_eq (room_u64 hr)) (ev_ix (ev_name 0) ev_int) ev_str) (ess_one (es_ret (ev_mod (ev_blt (cr_sum rfl) ok_sum T.n_sum (ea_cons (ev_name 3) ea_nil)) (ev_name 1)))) ess_nil)
    (ess_one (es_ret (ev_if (et_c (cp_eq (room_u64 hr)) (ev_blt (cr_min rfl) ok_min T.n_min (ea_cons (ev_name 3) ea_nil)) (ev_blt (cr_max rfl) ok_max T.n_max (ea_cons (ev_name 3) ea_nil))) (ev_ix (ev_name 3) ev_int) ev_non)))))))⟩
def B_secret_of : SEnv → M Fl :=
  (sSeq (sDrop (fCall 2 F_check_modulus (fCons (fName 0) (fCons (fName 1) fNil))))
    (sSeq (sDrop (fCall 3 F_check_shares (fCons (fName 0) (fCons (fName 1) (fCons (fName 2) fNil)))))
    (sRet (fCall 3 F_dealt_from (fCons (fName 0) (fCons (fName 1) (fCons (fL (fIt (one D.seq) (fCons (fName 2) fNil))) fNil)))))))
def F_secret_of : List D → M D := fDef 3 B_secret_of
theorem ok_secret_of (T : Tx K mg) : FnOk P w K mg base (L2.CX P w) 44 T.a_secret_of T.fd_secret_of ["formula", "modulus", "shares"] (spD mg 3 F_secret_of) :=
  okD T.F_secret_of sc_secret_of fun cdv A outer s H E hr => ⟨_, (ess_cons (es_expr (ev_call (ok_check_modulus T) (hr.mono (by decide)) T.m_check_modulus T.F_check_modulus.kp (b_check_modulus T) (passes_call (takes_of rfl rfl rfl rfl) fun _ _ _ _ h => h) (ea_cons (ev_name 0) (ea_cons (ev_name 1) ea_nil))))
    (ess_cons (es_expr (ev_call (ok_check_shares T) (hr.mono (by decide)) T.m_check_shares T.F_check_shares.kp (b_check_shares T) (passes_call (takes_of rfl rfl rfl rfl) fun _ _ _ _ h => h) (ea_cons (ev_name 0) (ea_cons (ev_name 1) (ea_cons (ev_name 2) ea_nil)))))
    (ess_one (es_ret (ev_call (ok_dealt_from T) (hr.mono (by decide)) T.m_dealt_from T.F_dealt_from.kp (b_dealt_from T) (passes_call (takes_of rfl rfl rfl rfl) fun _ _ _ _ h => h) (ea_cons (ev_name 0) (ea_cons (ev_name 1) (ea_cons (Ef.ev (ef_bty call_list_of ok_list T.n_list (ea_cons (ev_name 2) ea_nil))) ea_nil))))))))⟩
def B_found_by (r : List D → M D) : SEnv → M Fl :=
  (sSeq (sIf (fTst (fOp (oEq false) (fOp oIx (fName 0) (fC (.int 0))) (fC (.str (Str.ofString "name"))))) (sRet (fIf (fTst (fOp oIn (fOp oIx (fName 0) (fC (.int 1))) (fName 2))) (fOp oIx (fName 3) (fC (.int 0))) (fC .non))) sNext)
    (sSeq (sSetC 4 (cV (fL (fLcL (fSeq (fCall 2 F_parted (fCons (fName 0) (fCons (fName 3) fNil)))) (gTp 2 (gsCons (gSet 6) (gsCons (gSet 7) gsNil))) fYes (fCall 4 r (fCons (fName 6) (fCons (fName 1) (fCons (fName 2) (fCons (fName 7) fNil))))) [6, 7]))))
    (sSeq (sIf (fTst (fOp (oEq false) (fOp oIx (fName 0) (fC (.int 0))) (fC (.str (Str.ofString "all"))))) (sRet (fIf (fTst (fOp oIn (fC .non) (fName 4))) (fC .non) (fOp oMod (fBlt (onInts fun bs => some (.int bs.sum)) (fCons (fName 4) fNil)) (fName 1)))) sNext)
    (sSeq (sSetC 5 (cV (fL (fLcL (fSeq (fName 4)) (gSet 8) (fTst (fOp (oIsN true) (fName 8) (fC .non))) (fName 8) [8]))))
    (sRet (fIf (fTst (fOp (oEq true) (fName 5) (fLst fNil))) (fOp oIx (fName 5) (fC (.int 0))) (fC .non)))))))
def F_found_by : List D → M D := lev (fun r => fDef 9 (B_found_by r)) 20
theorem ok_found_by (T : Tx K mg) : FnOk P w K mg base (L2.CX P w) 43 T.a_found_by T.fd_found_by ["formula", "modulus", "lot", "shares"] (spD mg 4 F_found_by) := by
  refine fnok_rec (c := 23) (F := fun r => fDef 9 (B_found_by r)) (fun k r hk hF => ?_) 20
  exact okD T.F_found_by sc_found_by fun cdv A outer s H E hr => ⟨_, (ess_cons (es_if (et_c (cp_eq (room_u64 hr)) (ev_ix (ev_name 0) ev_int) ev_str) (ess_one (es_ret (ev_if (et_c cp_in (ev_ix (ev_name 0) ev_int) (ev_name 2)) (ev_ix (ev_name 3) ev_int) ev_non))) ess_nil)
    (ess_cons (es_setLc (own := [("part", 6), ("some", 7)]) (te := (tCall (spD mg 4 r) [] E0 (tCons (tVar 6) (tCons (tVar 1) (tCons (tVar 2) (tCons (tVar 7) tNil)))))) (tt := tYes) (g := (gTup K 2 (gCons (gName 6) (gCons (gName 7) gNil))))  false 4 sc_found_by.nd (blkOk_by (N := ["formula", "modulus", "lot", "shares", "numbers", "known", "part", "some", "number"]) (sc := defScope s_found_by) (own := [("part", 6), ("some", 7)]) (by decide +kernel)) (ei_seq (ev_call (ok_parted T) (hr.mono (Nat.le_trans (by decide) hk)) T.m_parted T.F_parted.kp (b_parted T) (passes_call (takes_of rfl rfl rfl rfl) fun _ _ _ _ h => h) (ea_cons (ev_name 0) (ea_cons (ev_name 3) ea_nil)))) (fun _ _ _ _ _ => (eg_tup (egs_cons (eg_name 6 sc_found_by.nd) (egs_cons (eg_name 7 sc_found_by.nd) egs_nil)))) (fun _ _ _ _ _ => ets_nil) (fun _ _ _ _ _ => (ev_call hF hr T.m_found_by T.F_found_by.kp (b_found_by T) passL (ea_cons (ev_name 6) (ea_cons (ev_name 1) (ea_cons (ev_name 2) (ea_cons (ev_name 7) ea_nil)))))))
    (ess_cons (es_if (et_c (cp_eq (room_u64 hr)) (ev_ix (ev_name 0) ev_int) ev_str) (ess_one (es_ret (ev_if (et_c cp_in ev_non (ev_name 4)) ev_non (ev_mod (ev_blt (cr_sum rfl) ok_sum T.n_sum (ea_cons (ev_name 4) ea_nil)) (ev_name 1))))) ess_nil)
    (ess_cons (es_setLc (own := [("number", 8)]) (te := (tVar 8)) (tt := (tTest (tOp qIsnot (tVar 8) (tC .non)))) (g := (gName 8))  false 5 sc_found_by.nd (blkOk_by (N := ["formula", "modulus", "lot", "shares", "numbers", "known", "part", "some", "number"]) (sc := defScope s_found_by) (own := [("number", 8)]) (by decide +kernel)) (ei_seq (ev_name 4)) (fun _ _ _ _ _ => (eg_name 8 sc_found_by.nd)) (fun _ _ _ _ _ => (ets_one (et_c cp_isnot (ev_name 8) ev_non))) (fun _ _ _ _ _ => (ev_name 8)))
    (ess_one (es_ret (ev_if (et_c (cp_ne (room_u64 hr)) (ev_name 5) (ev_lst ea_nil)) (ev_ix (ev_name 5) ev_int) ev_non)))))))⟩
def B_opened : SEnv → M Fl :=
  (sSeq (sDrop (fCall 2 F_check_modulus (fCons (fName 0) (fCons (fName 1) fNil))))
    (sSeq (sDrop (fCall 1 F_check_names (fCons (fName 2) fNil)))
    (sSeq (sDrop (fCall 3 F_check_shares (fCons (fName 0) (fCons (fName 1) (fCons (fName 3) fNil)))))
    (sRet (fCall 4 F_found_by (fCons (fName 0) (fCons (fName 1) (fCons (fName 2) (fCons (fL (fIt (one D.seq) (fCons (fName 3) fNil))) fNil)))))))))
def F_opened : List D → M D := fDef 4 B_opened
theorem ok_opened (T : Tx K mg) : FnOk P w K mg base (L2.CX P w) 44 T.a_opened T.fd_opened ["formula", "modulus", "lot", "shares"] (spD mg 4 F_opened) :=
  okD T.F_opened sc_opened fun cdv A outer s H E hr => ⟨_, (ess_cons (es_expr (ev_call (ok_check_modulus T) (hr.mono (by decide)) T.m_check_modulus T.F_check_modulus.kp (b_check_modulus T) (passes_call (takes_of rfl rfl rfl rfl) fun _ _ _ _ h => h) (ea_cons (ev_name 0) (ea_cons (ev_name 1) ea_nil))))
    (ess_cons (es_expr (ev_call (ok_check_names T) (hr.mono (by decide)) T.m_check_names T.F_check_names.kp (b_check_names T) (passes_call (takes_of rfl rfl rfl rfl) fun _ _ _ _ h => h) (ea_cons (ev_name 2) ea_nil)))
    (ess_cons (es_expr (ev_call (ok_check_shares T) (hr.mono (by decide)) T.m_check_shares T.F_check_shares.kp (b_check_shares T) (passes_call (takes_of rfl rfl rfl rfl) fun _ _ _ _ h => h) (ea_cons (ev_name 0) (ea_cons (ev_name 1) (ea_cons (ev_name 3) ea_nil)))))
    (ess_one (es_ret (ev_call (ok_found_by T) (hr.mono (by decide)) T.m_found_by T.F_found_by.kp (b_found_by T) (passes_call (takes_of rfl rfl rfl rfl) fun _ _ _ _ h => h) (ea_cons (ev_name 0) (ea_cons (ev_name 1) (ea_cons (ev_name 2) (ea_cons (Ef.ev (ef_bty call_list_of ok_list T.n_list (ea_cons (ev_name 3) ea_nil))) ea_nil))))))))))⟩
def B__law_draw : SEnv → M Fl :=
  (sSeq (sStPut 0 2 (fOp oAdd (fStGet 0 2) (fC (.int 1))))
    (sSeq (sWhile stFuel (fAndT (fTst (fOp (oEq false) (fStGet 0 1) (fC (.int 0)))) (fStMore 0)) (sSeq (sSetC 2 (cV (fBlt bAbs (fCons (fStPop 0) fNil))))
    (sSeq (sStPut 0 3 (fOp oMod (fBlt bInt (fCons (fOp oAdd (fOp oAdd (fOp oMul (fStGet 0 3) (fC (.int 6151))) (fName 2)) (fC (.int 7))) fNil)) (fC (.int 2147483629))))
    (sStPut 0 1 (fIf (fTst (fOp oGe (fName 2) (fOp oPow (fC (.int 10)) (fC (.int 18))))) (fName 2) (fC (.int 0)))))))
    (sSeq (sIf (fTst (fOp oGt (fStGet 0 1) (fC (.int 0)))) (sSeq (sSetC 3 (cV (fOp oMod (fBlt bInt (fCons (fStGet 0 1) fNil)) (fName 1))))
    (sSeq (sStPut 0 1 (fOp oFdiv (fStGet 0 1) (fName 1)))
    (sRet (fName 3)))) sNext)
    (sSeq (sSetC 4 (cV (fOp oMod (fBlt bInt (fCons (fOp oPow (fOp oAdd (fOp oAdd (fStGet 0 3) (fOp oMul (fC (.int 8191)) (fStGet 0 2))) (fC (.int 50021))) (fC (.int 5))) fNil)) (fC (.int 2147483587)))))
    (sRet (fOp oMod (fOp oMod (fBlt bInt (fCons (fOp oPow (fOp oAdd (fOp oAdd (fOp oMul (fName 4) (fC (.int 40009))) (fOp oMul (fC (.int 20011)) (fStGet 0 2))) (fC (.int 31))) (fC (.int 3))) fNil)) (fC (.int 1000000009))) (fName 1)))))))
def F__law_draw : List D → M D := fDef 5 B__law_draw
theorem ok__law_draw (T : Tx K mg) : FnOk P w K mg base (L2.CX P w) 1 T.a__law_draw T.fd__law_draw ["stream", "many"] (spD mg 2 F__law_draw) :=
  okD T.F__law_draw sc__law_draw fun cdv A outer s H E hr => ⟨_, (ess_cons (es_stPut 0 2 (ev_add (ev_stGet 0 2) ev_int))
    (ess_cons (es_whileS stFuel (passes_of rfl) (Ew.et (ew_and (et_c (cp_eq (room_u64 hr)) (ev_stGet 0 1) ev_int) (et_and1 (et_stMore 0 (room_u64 hr))))) (ess_cons (es_setC 2 sc__law_draw.nd (ec_v (ev_blt call_abs ok_abs T.n_abs (ea_cons (ev_stPop 0) ea_nil))))
    (ess_cons (es_stPut 0 3 (ev_mod (ev_bty call_int1 ok_int T.n_int (ea_cons (ev_add (ev_add (ev_mul (ev_stGet 0 3) ev_int) (ev_name 2)) ev_int) ea_nil)) ev_int))
    (ess_one (es_stPut 0 1 (ev_if (et_c cp_ge (ev_name 2) (ev_pow ev_int ev_int)) (ev_name 2) ev_int))))))
    (ess_cons (es_if (et_c cp_gt (ev_stGet 0 1) ev_int) (ess_cons (es_setC 3 sc__law_draw.nd (ec_v (ev_mod (ev_bty call_int1 ok_int T.n_int (ea_cons (ev_stGet 0 1) ea_nil)) (ev_name 1))))
    (ess_cons (es_stPut 0 1 (ev_fdiv (ev_stGet 0 1) (ev_name 1)))
    (ess_one (es_ret (ev_name 3))))) ess_nil)
    (ess_cons (es_setC 4 sc__law_draw.nd (ec_v (ev_mod (ev_bty call_int1 ok_int T.n_int (ea_cons (ev_pow (ev_add (ev_add (ev_stGet 0 3) (ev_mul ev_int (ev_stGet 0 2))) ev_int) ev_int) ea_nil)) ev_int)))
    (ess_one (es_ret (ev_mod (ev_mod (ev_bty call_int1 ok_int T.n_int (ea_cons (ev_pow (ev_add (ev_add (ev_mul (ev_name 4) ev_int) (ev_mul ev_int (ev_stGet 0 2))) ev_int) ev_int) ea_nil)) ev_int) (ev_name 1))))))))⟩
def B__law_pick : SEnv → M Fl :=
  (sRet (fOp oIx (fName 1) (fCall 2 F__law_draw (fCons (fName 0) (fCons (fBlt bLen (fCons (fName 1) fNil)) fNil)))))
def F__law_pick : List D → M D := fDef 2 B__law_pick
theorem ok__law_pick (T : Tx K mg) : FnOk P w K mg base (L2.CX P w) 2 T.a__law_pick T.fd__law_pick ["stream", "things"] (spD mg 2 F__law_pick) :=
  okD T.F__law_pick sc__law_pick fun cdv A outer s H E hr => ⟨_, (ess_one (es_ret (ev_ix (ev_name 1) (ev_call (ok__law_draw T) (hr.mono (by decide)) T.m__law_draw T.F__law_draw.kp (b__law_draw T) (passes_call (takes_of rfl rfl rfl rfl) fun _ _ _ _ h => h) (ea_cons (ev_name 0) (ea_cons (ev_blt call_lenA ok_len T.n_len (ea_cons (ev_name 1) ea_nil)) ea_nil))))))⟩
def B__law_mixed : SEnv → M Fl :=
  (sSeq (sPar 2 3 (cO (fIt (one D.seq) (fCons (fName 1) fNil))) (cO (fNew fNil)))
    (sSeq (sForA (fIt rng1 (fCons (fBlt bLen (fCons (fName 2) fNil)) fNil)) (hSet 4) (sApPop 3 2 (fCall 2 F__law_draw (fCons (fName 0) (fCons (fBlt bLen (fCons (fName 2) fNil)) fNil)))))
    (sRet (fName 3))))
def F__law_mixed : List D → M D := fDef 5 B__law_mixed
theorem ok__law_mixed (T : Tx K mg) : FnOk P w K mg base (L2.CX P w) 2 T.a__law_mixed T.fd__law_mixed ["stream", "things"] (spD mg 2 F__law_mixed) :=
  okD T.F__law_mixed sc__law_mixed fun cdv A outer s H E hr => ⟨_, (ess_cons (es_par 2 3 sc__law_mixed.nd (ec_o (ef_bty call_list_of ok_list T.n_list (ea_cons (ev_name 1) ea_nil))) (ec_o (ef_lst ea_nil)))
    (ess_cons (es_forR (passes_of rfl) T.n_range (ea_cons (ev_blt call_lenA ok_len T.n_len (ea_cons (ev_name 2) ea_nil)) ea_nil) (egt_name 4 sc__law_mixed.nd) (ess_one (es_apPop 3 2 (ev_call (ok__law_draw T) (hr.mono (by decide)) T.m__law_draw T.F__law_draw.kp (b__law_draw T) (passes_call (takes_of rfl rfl rfl rfl) fun _ _ _ _ h => h) (ea_cons (ev_name 0) (ea_cons (ev_blt call_lenA ok_len T.n_len (ea_cons (ev_name 2) ea_nil)) ea_nil))))))
    (ess_one (es_ret (ev_name 3)))))⟩
def B__law_same (r : List D → M D) : SEnv → M Fl :=
  (sSeq (sIf (fTst (fBlt isiT (fCons (fName 1) (fCons (fTup (fCons (fC (.ty .lst)) (fCons (fC (.ty .tup)) fNil))) fNil)))) (sSeq (sIf (fOrT (fTst (fOp (oEq true) (fBlt isiB (fCons (fName 0) (fCons (fC (.ty .lst)) fNil))) (fBlt isiB (fCons (fName 1) (fCons (fC (.ty .lst)) fNil))))) (fTst (fOp (oEq true) (fBlt isiB (fCons (fName 0) (fCons (fC (.ty .tup)) fNil))) (fBlt isiB (fCons (fName 1) (fCons (fC (.ty .tup)) fNil)))))) (sRet (fC (.bl false))) sNext)
    (sRet (fAndV (fOp (oEq false) (fBlt bLen (fCons (fName 0) fNil)) (fBlt bLen (fCons (fName 1) fNil))) (fBlt (onBls fun bs => some (.bl (bs.all id))) (fCons (fL (fLcL (fIt zipD (fCons (fName 0) (fCons (fName 1) fNil))) (gTp 2 (gsCons (gSet 2) (gsCons (gSet 3) gsNil))) fYes (fCall 2 r (fCons (fName 2) (fCons (fName 3) fNil))) [2, 3])) fNil))))) sNext)
    (sSeq (sIf (fTst (fBlt isiB (fCons (fName 1) (fCons (fC (.ty .dct)) fNil)))) (fun _ => stuck) sNext)
    (sSeq (sIf (fOrT (fTst (fBlt isiB (fCons (fName 1) (fCons (fC (.ty .bl)) fNil)))) (fTst (fBlt isiB (fCons (fName 0) (fCons (fC (.ty .bl)) fNil))))) (sRet (fAndV (fBlt isiB (fCons (fName 1) (fCons (fC (.ty .bl)) fNil))) (fAndV (fBlt isiB (fCons (fName 0) (fCons (fC (.ty .bl)) fNil))) (fOp (oEq false) (fName 0) (fName 1))))) sNext)
    (sSeq (sIf (fOrT (fTst (fOp (oIsN false) (fName 1) (fC .non))) (fTst (fOp (oIsN false) (fName 0) (fC .non)))) (sRet (fAndV (fOp (oIsN false) (fName 1) (fC .non)) (fOp (oIsN false) (fName 0) (fC .non)))) sNext)
    (sSeq (sIf (fOrT (fTst (fOp (oEq true) (fBlt isiB (fCons (fName 1) (fCons (fC (.ty .int)) fNil))) (fBlt isiB (fCons (fName 0) (fCons (fC (.ty .int)) fNil))))) (fTst (fOp (oEq true) (fBlt isiB (fCons (fName 1) (fCons (fC (.ty .str)) fNil))) (fBlt isiB (fCons (fName 0) (fCons (fC (.ty .str)) fNil)))))) (sRet (fC (.bl false))) sNext)
    (sRet (fAndV (fNotV (fBlt isiT (fCons (fName 0) (fCons (fTup (fCons (fC (.ty .lst)) (fCons (fC (.ty .tup)) (fCons (fC (.ty .dct)) fNil)))) fNil)))) (fOp (oEq false) (fName 0) (fName 1)))))))))
def F__law_same : List D → M D := lev (fun r => fDef 4 (B__law_same r)) 20
theorem ok__law_same (T : Tx K mg) : FnOk P w K mg base (L2.CX P w) 21 T.a__law_same T.fd__law_same ["found", "due"] (spD mg 2 F__law_same) := by
  refine fnok_rec (c := 1) (F := fun r => fDef 4 (B__law_same r)) (fun k r hk hF => ?_) 20
  exact okD T.F__law_same sc__law_same fun cdv A outer s H E hr => ⟨_, (ess_cons (es_if (et_val (ev_blt call_isiT ok_isiT T.n_isinstance (ea_cons (ev_name 1) (ea_cons (ev_tup (ea_cons (ev_ty .lst T.n_list) (ea_cons (ev_ty .tup T.n_tuple) ea_nil))) ea_nil)))) (ess_cons (es_if (Ew.et (ew_or (et_c (cp_ne (room_u64 hr)) (ev_blt call_isi ok_isiB T.n_isinstance (ea_cons (ev_name 0) (ea_cons (ev_ty .lst T.n_list) ea_nil))) (ev_blt call_isi ok_isiB T.n_isinstance (ea_cons (ev_name 1) (ea_cons (ev_ty .lst T.n_list) ea_nil)))) (et_or1 (et_c (cp_ne (room_u64 hr)) (ev_blt call_isi ok_isiB T.n_isinstance (ea_cons (ev_name 0) (ea_cons (ev_ty .tup T.n_tuple) ea_nil))) (ev_blt call_isi ok_isiB T.n_isinstance (ea_cons (ev_name 1) (ea_cons (ev_ty .tup T.n_tuple) ea_nil))))))) (ess_one (es_ret ev_bl)) ess_nil)
    (ess_one (es_ret (ev_and (ev_c (cp_eq (room_u64 hr)) (ev_blt call_lenA ok_len T.n_len (ea_cons (ev_name 0) ea_nil)) (ev_blt call_lenA ok_len T.n_len (ea_cons (ev_name 1) ea_nil))) (ev_one (ev_blt (cr_all rfl) ok_all T.n_all (ea_cons (Ef.ev (ef_lc (own := [("mine", 2), ("theirs", 3)]) (te := (tCall (spD mg 2 r) [] E0 (tCons (tVar 2) (tCons (tVar 3) tNil)))) (tt := tYes) (g := (gTup K 2 (gCons (gName 2) (gCons (gName 3) gNil))))  rfl sc__law_same.nd (blkOk_by (N := ["found", "due", "mine", "theirs"]) (sc := defScope s__law_same) (own := [("mine", 2), ("theirs", 3)]) (by decide +kernel)) (ei_zip T.n_zip (ea_cons (ev_name 0) (ea_cons (ev_name 1) ea_nil))) (fun _ _ _ _ _ => (eg_tup (egs_cons (eg_name 2 sc__law_same.nd) (egs_cons (eg_name 3 sc__law_same.nd) egs_nil)))) (fun _ _ _ _ _ => ets_nil) (fun _ _ _ _ _ => (ev_call hF hr T.m__law_same T.F__law_same.kp (b__law_same T) passL (ea_cons (ev_name 2) (ea_cons (ev_name 3) ea_nil)))))) ea_nil))))))) ess_nil)
    (ess_cons (es_if (et_val (ev_blt call_isi ok_isiB T.n_isinstance (ea_cons (ev_name 1) (ea_cons (ev_ty .dct T.n_dict) ea_nil)))) (ess_one es_never) ess_nil)
    (ess_cons (es_if (Ew.et (ew_or (et_val (ev_blt call_isi ok_isiB T.n_isinstance (ea_cons (ev_name 1) (ea_cons (ev_ty .bl T.n_bool) ea_nil)))) (et_or1 (et_val (ev_blt call_isi ok_isiB T.n_isinstance (ea_cons (ev_name 0) (ea_cons (ev_ty .bl T.n_bool) ea_nil))))))) (ess_one (es_ret (ev_and (ev_blt call_isi ok_isiB T.n_isinstance (ea_cons (ev_name 1) (ea_cons (ev_ty .bl T.n_bool) ea_nil))) (ev_and (ev_blt call_isi ok_isiB T.n_isinstance (ea_cons (ev_name 0) (ea_cons (ev_ty .bl T.n_bool) ea_nil))) (ev_one (ev_c (cp_eq (room_u64 hr)) (ev_name 0) (ev_name 1))))))) ess_nil)
    (ess_cons (es_if (Ew.et (ew_or (et_c cp_is (ev_name 1) ev_non) (et_or1 (et_c cp_is (ev_name 0) ev_non)))) (ess_one (es_ret (ev_and (ev_c cp_is (ev_name 1) ev_non) (ev_one (ev_c cp_is (ev_name 0) ev_non))))) ess_nil)
    (ess_cons (es_if (Ew.et (ew_or (et_c (cp_ne (room_u64 hr)) (ev_blt call_isi ok_isiB T.n_isinstance (ea_cons (ev_name 1) (ea_cons (ev_ty .int T.n_int) ea_nil))) (ev_blt call_isi ok_isiB T.n_isinstance (ea_cons (ev_name 0) (ea_cons (ev_ty .int T.n_int) ea_nil)))) (et_or1 (et_c (cp_ne (room_u64 hr)) (ev_blt call_isi ok_isiB T.n_isinstance (ea_cons (ev_name 1) (ea_cons (ev_ty .str T.n_str) ea_nil))) (ev_blt call_isi ok_isiB T.n_isinstance (ea_cons (ev_name 0) (ea_cons (ev_ty .str T.n_str) ea_nil))))))) (ess_one (es_ret ev_bl)) ess_nil)
    (ess_one (es_ret (ev_and (ev_not (ev_blt call_isiT ok_isiT T.n_isinstance (ea_cons (ev_name 0) (ea_cons (ev_tup (ea_cons (ev_ty .lst T.n_list) (ea_cons (ev_ty .tup T.n_tuple) (ea_cons (ev_ty .dct T.n_dict) ea_nil)))) ea_nil)))) (ev_one (ev_c (cp_eq (room_u64 hr)) (ev_name 0) (ev_name 1)))))))))))⟩
def B__law_names : SEnv → M Fl :=
  (sSeq (sPar 2 3 (cO (fNew fNil)) (cV (fC (.str (Str.ofString "abcdefghijklmnopqrstuvwxyz")))))
    (sSeq (sFor (fIt rng1 (fCons (fName 1) fNil)) (hSet 4) (sSeq (sSetC 5 (cV (fJoin (fC (.str (Str.ofString ""))) (fL (fLcL (fIt rng1 (fCons (fOp oAdd (fC (.int 1)) (fCall 2 F__law_draw (fCons (fName 0) (fCons (fCall 2 F__law_pick (fCons (fName 0) (fCons (fLst (fCons (fC (.int 1)) (fCons (fC (.int 1)) (fCons (fC (.int 3)) fNil)))) fNil))) fNil)))) fNil)) (gSet 7) fYes (fCall 2 F__law_pick (fCons (fName 0) (fCons (fName 3) fNil))) [7])))))
    (sSeq (sForA (fIt rng1 (fCons (fOp oAdd (fBlt bLen (fCons (fName 2) fNil)) (fC (.int 1))) fNil)) (hSet 6) (sIf (fTst (fOp oIn (fName 5) (fName 2))) (sSetC 5 (cV (fOp oAdd (fOp oAdd (fSl (fName 5) (fun _ => ret none) (fPart (fC (.int 3)))) (fOp oIx (fName 3) (fOp oFdiv (fName 6) (fC (.int 26))))) (fOp oIx (fName 3) (fOp oMod (fName 6) (fC (.int 26))))))) sNext))
    (sMut 2 stAppend (fCons (fName 5) fNil)))))
    (sRet (fName 2))))
def F__law_names : List D → M D := fDef 8 B__law_names
theorem ok__law_names (T : Tx K mg) : FnOk P w K mg base (L2.CX P w) 3 T.a__law_names T.fd__law_names ["stream", "many"] (spD mg 2 F__law_names) :=
  okD T.F__law_names sc__law_names fun cdv A outer s H E hr => ⟨_, (ess_cons (es_parT 2 3 sc__law_names.nd (ec_o (ef_lst ea_nil)) (ec_v ev_str) (hpt := pg_tup rfl (pgs_cons (pg_name sc__law_names.nd rfl (by first | exact Or.inl rfl | exact Or.inr rfl) (by first | exact .inl rfl | exact .inr rfl)) (pgs_cons (pg_name sc__law_names.nd rfl (by first | exact Or.inl rfl | exact Or.inr rfl) (by first | exact .inl rfl | exact .inr rfl)) pgs_nil))))
    (ess_cons (es_for (passes_of rfl) (ei_rng1 T.n_range (ea_cons (ev_name 1) ea_nil)) (egt_name 4 sc__law_names.nd) (ess_cons (es_setC 5 sc__law_names.nd (ec_v (ev_join ev_str (Ef.ev (ef_lc (own := [("one", 7)]) (te := (tCall (spD mg 2 F__law_pick) [] E0 (tCons (tVar 0) (tCons (tVar 3) tNil)))) (tt := tYes) (g := (gName 7))  rfl sc__law_names.nd (blkOk_by (N := ["stream", "many", "found", "signs", "k", "name", "at", "one"]) (sc := defScope s__law_names) (own := [("one", 7)]) (by decide +kernel)) (ei_rng1 T.n_range (ea_cons (ev_add ev_int (ev_call (ok__law_draw T) (hr.mono (by decide)) T.m__law_draw T.F__law_draw.kp (b__law_draw T) (passes_call (takes_of rfl rfl rfl rfl) fun _ _ _ _ h => h) (ea_cons (ev_name 0) (ea_cons (ev_call (ok__law_pick T) (hr.mono (by decide)) T.m__law_pick T.F__law_pick.kp (b__law_pick T) (passes_call (takes_of rfl rfl rfl rfl) fun _ _ _ _ h => h) (ea_cons (ev_name 0) (ea_cons (ev_lst (ea_cons ev_int (ea_cons ev_int (ea_cons ev_int ea_nil)))) ea_nil))) ea_nil)))) ea_nil)) (fun _ _ _ _ _ => (eg_name 7 sc__law_names.nd)) (fun _ _ _ _ _ => ets_nil) (fun _ _ _ _ _ => (ev_call (ok__law_pick T) (hr.mono (by decide)) T.m__law_pick T.F__law_pick.kp (b__law_pick T) passL (ea_cons (ev_name 0) (ea_cons (ev_name 3) ea_nil)))))))))
    (ess_cons (es_forR (passes_of rfl) T.n_range (ea_cons (ev_add (ev_blt call_lenA ok_len T.n_len (ea_cons (ev_name 2) ea_nil)) ev_int) ea_nil) (egt_name 6 sc__law_names.nd) (ess_one (es_if (et_c cp_in (ev_name 5) (ev_name 2)) (ess_one (es_setC 5 sc__law_names.nd (ec_v (ev_add (ev_add (ev_sl (ev_name 5) eo_none (eo_some ev_int)) (ev_ix (ev_name 3) (ev_fdiv (ev_name 6) ev_int))) (ev_ix (ev_name 3) (ev_mod (ev_name 6) ev_int)))))) ess_nil)))
    (ess_one (es_mut 2 PySem.F.slot_list_append PySem.F.type_list_append mt_append mut_append (ea_cons (ev_name 5) ea_nil))))))
    (ess_one (es_ret (ev_name 2)))))⟩
def B__law_loose (r : List D → M D) : SEnv → M Fl :=
  (sSeq (sIf (fTst (fBlt isiT (fCons (fName 1) (fCons (fTup (fCons (fC (.ty .lst)) (fCons (fC (.ty .tup)) fNil))) fNil)))) (sSeq (sSetC 2 (cV (fL (fLcL (fSeq (fName 1)) (gSet 3) fYes (fCall 2 r (fCons (fName 0) (fCons (fName 3) fNil))) [3]))))
    (sRet (fIf (fTst (fOp (oEq false) (fCall 2 F__law_draw (fCons (fName 0) (fCons (fC (.int 2)) fNil))) (fC (.int 0)))) (fName 2) (fBlt bTuple (fCons (fName 2) fNil))))) sNext)
    (sRet (fName 1)))
def F__law_loose : List D → M D := lev (fun r => fDef 4 (B__law_loose r)) 20
theorem ok__law_loose (T : Tx K mg) : FnOk P w K mg base (L2.CX P w) 22 T.a__law_loose T.fd__law_loose ["stream", "thing"] (spD mg 2 F__law_loose) := by
  refine fnok_rec (c := 2) (F := fun r => fDef 4 (B__law_loose r)) (fun k r hk hF => ?_) 20
  exact okD T.F__law_loose sc__law_loose fun cdv A outer s H E hr => ⟨_, (ess_cons (es_if (et_val (ev_blt call_isiT ok_isiT T.n_isinstance (ea_cons (ev_name 1) (ea_cons (ev_tup (ea_cons (ev_ty .lst T.n_list) (ea_cons (ev_ty .tup T.n_tuple) ea_nil))) ea_nil)))) (ess_cons (es_setLc (own := [("one", 3)]) (te := (tCall (spD mg 2 r) [] E0 (tCons (tVar 0) (tCons (tVar 3) tNil)))) (tt := tYes) (g := (gName 3))  false 2 sc__law_loose.nd (blkOk_by (N := ["stream", "thing", "some", "one"]) (sc := defScope s__law_loose) (own := [("one", 3)]) (by decide +kernel)) (ei_seq (ev_name 1)) (fun _ _ _ _ _ => (eg_name 3 sc__law_loose.nd)) (fun _ _ _ _ _ => ets_nil) (fun _ _ _ _ _ => (ev_call hF hr T.m__law_loose T.F__law_loose.kp (b__law_loose T) passL (ea_cons (ev_name 0) (ea_cons (ev_name 3) ea_nil)))))
    (ess_one (es_ret (ev_if (et_c (cp_eq (room_u64 hr)) (ev_call (ok__law_draw T) (hr.mono (Nat.le_trans (by decide) hk)) T.m__law_draw T.F__law_draw.kp (b__law_draw T) (passes_call (takes_of rfl rfl rfl rfl) fun _ _ _ _ h => h) (ea_cons (ev_name 0) (ea_cons ev_int ea_nil))) ev_int) (ev_name 2) (ev_bty call_tuple_of ok_tuple T.n_tuple (ea_cons (ev_name 2) ea_nil)))))) ess_nil)
    (ess_one (es_ret (ev_name 1))))⟩
def B__law_places (r : List D → M D) : SEnv → M Fl :=
  (sSeq (sIf (fTst (fOp (oEq false) (fOp oIx (fName 0) (fC (.int 0))) (fC (.str (Str.ofString "name"))))) (sRet (fLst (fCons (fOp oIx (fName 0) (fC (.int 1))) fNil))) sNext)
    (sSeq (sSetC 1 (cO (fNew fNil)))
    (sSeq (sFor (fSeq (fOp oIx (fName 0) (fC (.int 1)))) (hSet 2) (sMut 1 stExtend (fCons (fCall 1 r (fCons (fName 2) fNil)) fNil)))
    (sRet (fName 1)))))
def F__law_places : List D → M D := lev (fun r => fDef 3 (B__law_places r)) 20
theorem ok__law_places (T : Tx K mg) : FnOk P w K mg base (L2.CX P w) 21 T.a__law_places T.fd__law_places ["formula"] (spD mg 1 F__law_places) := by
  refine fnok_rec (c := 1) (F := fun r => fDef 3 (B__law_places r)) (fun k r hk hF => ?_) 20
  exact okD T.F__law_places sc__law_places fun cdv A outer s H E hr => ⟨_, (ess_cons (es_if (et_c (cp_eq (room_u64 hr)) (ev_ix (ev_name 0) ev_int) ev_str) (ess_one (es_ret (ev_lst (ea_cons (ev_ix (ev_name 0) ev_int) ea_nil)))) ess_nil)
    (ess_cons (es_setC 1 sc__law_places.nd (ec_o (ef_lst ea_nil)))
    (ess_cons (es_for (passes_of rfl) (ei_seq (ev_ix (ev_name 0) ev_int)) (egt_name 2 sc__law_places.nd) (ess_one (es_mut 1 PySem.F.slot_list_extend PySem.F.type_list_extend mt_extend mut_extend (ea_cons (ev_call hF hr T.m__law_places T.F__law_places.kp (b__law_places T) (passes_call (takes_of rfl rfl rfl rfl) fun _ _ _ _ h => h) (ea_cons (ev_name 2) ea_nil)) ea_nil))))
    (ess_one (es_ret (ev_name 1))))))⟩
def B__law_formula (r : List D → M D) : SEnv → M Fl :=
  (sSeq (sIf (fOrT (fTst (fOp (oEq false) (fName 2) (fC (.int 0)))) (fOrT (fTst (fOp oLt (fName 3) (fC (.int 2)))) (fTst (fOp (oEq false) (fCall 2 F__law_draw (fCons (fName 0) (fCons (fC (.int 4)) fNil))) (fC (.int 0)))))) (sRet (fTup (fCons (fC (.str (Str.ofString "name"))) (fCons (fCall 2 F__law_pick (fCons (fName 0) (fCons (fName 1) fNil))) fNil)))) sNext)
    (sSeq (sPar 4 5 (cO (fNew fNil)) (cV (fName 3)))
    (sSeq (sFor (fIt rng1 (fCons (fOp oAdd (fC (.int 1)) (fCall 2 F__law_draw (fCons (fName 0) (fCons (fC (.int 3)) fNil)))) fNil)) (hSet 6) (sIf (fTst (fOp oGt (fName 5) (fC (.int 0)))) (sSeq (sMut 4 stAppend (fCons (fCall 4 r (fCons (fName 0) (fCons (fName 1) (fCons (fOp oSub (fName 2) (fC (.int 1))) (fCons (fName 5) fNil))))) fNil))
    (sSetA 5 (fOp oSub (fName 5) (fBlt bLen (fCons (fCall 1 F__law_places (fCons (fOp oIx (fName 4) (fUn oNeg (fC (.int 1)))) fNil)) fNil))))) sNext))
    (sRet (fTup (fCons (fCall 2 F__law_pick (fCons (fName 0) (fCons (fLst (fCons (fC (.str (Str.ofString "any"))) (fCons (fC (.str (Str.ofString "all"))) (fCons (fC (.str (Str.ofString "all"))) fNil)))) fNil))) (fCons (fName 4) fNil)))))))
def F__law_formula : List D → M D := lev (fun r => fDef 7 (B__law_formula r)) 20
theorem ok__law_formula (T : Tx K mg) : FnOk P w K mg base (L2.CX P w) 42 T.a__law_formula T.fd__law_formula ["stream", "names", "deep", "most"] (spD mg 4 F__law_formula) := by
  refine fnok_rec (c := 22) (F := fun r => fDef 7 (B__law_formula r)) (fun k r hk hF => ?_) 20
  exact okD T.F__law_formula sc__law_formula fun cdv A outer s H E hr => ⟨_, (ess_cons (es_if (Ew.et (ew_or (et_c (cp_eq (room_u64 hr)) (ev_name 2) ev_int) (ew_or (et_c cp_lt (ev_name 3) ev_int) (et_or1 (et_c (cp_eq (room_u64 hr)) (ev_call (ok__law_draw T) (hr.mono (Nat.le_trans (by decide) hk)) T.m__law_draw T.F__law_draw.kp (b__law_draw T) (passes_call (takes_of rfl rfl rfl rfl) fun _ _ _ _ h => h) (ea_cons (ev_name 0) (ea_cons ev_int ea_nil))) ev_int))))) (ess_one (es_ret (ev_tup (ea_cons ev_str (ea_cons (ev_call (ok__law_pick T) (hr.mono (Nat.le_trans (by decide) hk)) T.m__law_pick T.F__law_pick.kp (b__law_pick T) (passes_call (takes_of rfl rfl rfl rfl) fun _ _ _ _ h => h) (ea_cons (ev_name 0) (ea_cons (ev_name 1) ea_nil))) ea_nil))))) ess_nil)
    (ess_cons (es_par 4 5 sc__law_formula.nd (ec_o (ef_lst ea_nil)) (ec_v (ev_name 3)))
    (ess_cons (es_for (passes_of rfl) (ei_rng1 T.n_range (ea_cons (ev_add ev_int (ev_call (ok__law_draw T) (hr.mono (Nat.le_trans (by decide) hk)) T.m__law_draw T.F__law_draw.kp (b__law_draw T) (passes_call (takes_of rfl rfl rfl rfl) fun _ _ _ _ h => h) (ea_cons (ev_name 0) (ea_cons ev_int ea_nil)))) ea_nil)) (egt_name 6 sc__law_formula.nd) (ess_one (es_if (et_c cp_gt (ev_name 5) ev_int) (ess_cons (es_mut 4 PySem.F.slot_list_append PySem.F.type_list_append mt_append mut_append (ea_cons (ev_call hF hr T.m__law_formula T.F__law_formula.kp (b__law_formula T) (passes_call (takes_of rfl rfl rfl rfl) fun _ _ _ _ h => h) (ea_cons (ev_name 0) (ea_cons (ev_name 1) (ea_cons (ev_sub (ev_name 2) ev_int) (ea_cons (ev_name 5) ea_nil))))) ea_nil))
    (ess_one (es_setA 5 sc__law_formula.nd (ev_sub (ev_name 5) (ev_blt call_lenA ok_len T.n_len (ea_cons (ev_call (ok__law_places T) (hr.mono (Nat.le_trans (by decide) hk)) T.m__law_places T.F__law_places.kp (b__law_places T) (passes_call (takes_of rfl rfl rfl rfl) fun _ _ _ _ h => h) (ea_cons (ev_ix (ev_name 4) (ev_neg ev_int)) ea_nil)) ea_nil)))))) ess_nil)))
    (ess_one (es_ret (ev_tup (ea_cons (ev_call (ok__law_pick T) (hr.mono (Nat.le_trans (by decide) hk)) T.m__law_pick T.F__law_pick.kp (b__law_pick T) (passes_call (takes_of rfl rfl rfl rfl) fun _ _ _ _ h => h) (ea_cons (ev_name 0) (ea_cons (ev_lst (ea_cons ev_str (ea_cons ev_str (ea_cons ev_str ea_nil)))) ea_nil))) (ea_cons (ev_name 4) ea_nil))))))))⟩
def B__law_opens (r : List D → M D) : SEnv → M Fl :=
  (sSeq (sIf (fTst (fOp (oEq false) (fOp oIx (fName 0) (fC (.int 0))) (fC (.str (Str.ofString "name"))))) (sRet (fOp oIn (fOp oIx (fName 0) (fC (.int 1))) (fName 1))) sNext)
    (sSeq (sSetC 2 (cV (fL (fLcL (fSeq (fOp oIx (fName 0) (fC (.int 1)))) (gSet 3) fYes (fCall 2 r (fCons (fName 3) (fCons (fName 1) fNil))) [3]))))
    (sRet (fIf (fTst (fOp (oEq false) (fOp oIx (fName 0) (fC (.int 0))) (fC (.str (Str.ofString "any"))))) (fBlt (onBls fun bs => some (.bl (bs.any id))) (fCons (fName 2) fNil)) (fBlt (onBls fun bs => some (.bl (bs.all id))) (fCons (fName 2) fNil))))))
def F__law_opens : List D → M D := lev (fun r => fDef 4 (B__law_opens r)) 20
theorem ok__law_opens (T : Tx K mg) : FnOk P w K mg base (L2.CX P w) 21 T.a__law_opens T.fd__law_opens ["formula", "lot"] (spD mg 2 F__law_opens) := by
  refine fnok_rec (c := 1) (F := fun r => fDef 4 (B__law_opens r)) (fun k r hk hF => ?_) 20
  exact okD T.F__law_opens sc__law_opens fun cdv A outer s H E hr => ⟨_, (ess_cons (es_if (et_c (cp_eq (room_u64 hr)) (ev_ix (ev_name 0) ev_int) ev_str) (ess_one (es_ret (ev_c cp_in (ev_ix (ev_name 0) ev_int) (ev_name 1)))) ess_nil)
    (ess_cons (es_setLc (own := [("part", 3)]) (te := (tCall (spD mg 2 r) [] E0 (tCons (tVar 3) (tCons (tVar 1) tNil)))) (tt := tYes) (g := (gName 3))  false 2 sc__law_opens.nd (blkOk_by (N := ["formula", "lot", "found", "part"]) (sc := defScope s__law_opens) (own := [("part", 3)]) (by decide +kernel)) (ei_seq (ev_ix (ev_name 0) ev_int)) (fun _ _ _ _ _ => (eg_name 3 sc__law_opens.nd)) (fun _ _ _ _ _ => ets_nil) (fun _ _ _ _ _ => (ev_call hF hr T.m__law_opens T.F__law_opens.kp (b__law_opens T) passL (ea_cons (ev_name 3) (ea_cons (ev_name 1) ea_nil)))))
    (ess_one (es_ret (ev_if (et_c (cp_eq (room_u64 hr)) (ev_ix (ev_name 0) ev_int) ev_str) (ev_blt (cr_any rfl) ok_any T.n_any (ea_cons (ev_name 2) ea_nil)) (ev_blt (cr_all rfl) ok_all T.n_all (ea_cons (ev_name 2) ea_nil)))))))⟩
def B__law_wanted (r : List D → M D) : SEnv → M Fl :=
  (sSeq (sIf (fTst (fOp (oEq false) (fOp oIx (fName 0) (fC (.int 0))) (fC (.str (Str.ofString "name"))))) (sRet (fC (.int 0))) sNext)
    (sRet (fOp oAdd (fIf (fTst (fOp (oEq false) (fOp oIx (fName 0) (fC (.int 0))) (fC (.str (Str.ofString "all"))))) (fOp oSub (fBlt bLen (fCons (fOp oIx (fName 0) (fC (.int 1))) fNil)) (fC (.int 1))) (fC (.int 0))) (fBlt (onInts fun bs => some (.int bs.sum)) (fCons (fL (fLcL (fSeq (fOp oIx (fName 0) (fC (.int 1)))) (gSet 1) fYes (fCall 1 r (fCons (fName 1) fNil)) [1])) fNil)))))
def F__law_wanted : List D → M D := lev (fun r => fDef 2 (B__law_wanted r)) 20
theorem ok__law_wanted (T : Tx K mg) : FnOk P w K mg base (L2.CX P w) 21 T.a__law_wanted T.fd__law_wanted ["formula"] (spD mg 1 F__law_wanted) := by
  refine fnok_rec (c := 1) (F := fun r => fDef 2 (B__law_wanted r)) (fun k r hk hF => ?_) 20
  exact okD T.F__law_wanted sc__law_wanted fun cdv A outer s H E hr => ⟨_, (ess_cons (es_if (et_c (cp_eq (room_u64 hr)) (ev_ix (ev_name 0) ev_int) ev_str) (ess_one (es_ret ev_int)) ess_nil)
    (ess_one (es_ret (ev_add (ev_if (et_c (cp_eq (room_u64 hr)) (ev_ix (ev_name 0) ev_int) ev_str) (ev_sub (ev_blt call_lenA ok_len T.n_len (ea_cons (ev_ix (ev_name 0) ev_int) ea_nil)) ev_int) ev_int) (ev_blt (cr_sum rfl) ok_sum T.n_sum (ea_cons (Ef.ev (ef_lc (own := [("part", 1)]) (te := (tCall (spD mg 1 r) [] E0 (tCons (tVar 1) tNil))) (tt := tYes) (g := (gName 1))  rfl sc__law_wanted.nd (blkOk_by (N := ["formula", "part"]) (sc := defScope s__law_wanted) (own := [("part", 1)]) (by decide +kernel)) (ei_seq (ev_ix (ev_name 0) ev_int)) (fun _ _ _ _ _ => (eg_name 1 sc__law_wanted.nd)) (fun _ _ _ _ _ => ets_nil) (fun _ _ _ _ _ => (ev_call hF hr T.m__law_wanted T.F__law_wanted.kp (b__law_wanted T) passL (ea_cons (ev_name 1) ea_nil))))) ea_nil))))))⟩
def B__law_dealt (r : List D → M D) : SEnv → M Fl :=
  (sSeq (sIf (fTst (fOp (oEq false) (fOp oIx (fName 0) (fC (.int 0))) (fC (.str (Str.ofString "name"))))) (sRet (fTup (fCons (fLst (fCons (fName 2) fNil)) (fCons (fName 3) fNil)))) sNext)
    (sSeq (sSetC 4 (cV (fOp oMul (fLst (fCons (fName 2) fNil)) (fBlt bLen (fCons (fOp oIx (fName 0) (fC (.int 1))) fNil)))))
    (sSeq (sIf (fTst (fOp (oEq false) (fOp oIx (fName 0) (fC (.int 0))) (fC (.str (Str.ofString "all"))))) (sSeq (sSetC 5 (cV (fOp oSub (fBlt bLen (fCons (fOp oIx (fName 0) (fC (.int 1))) fNil)) (fC (.int 1)))))
    (sSeq (sPar 4 3 (cV (fSl (fName 3) (fun _ => ret none) (fPart (fName 5)))) (cV (fSl (fName 3) (fPart (fName 5)) (fun _ => ret none))))
    (sSetC 4 (cV (fOp oAdd (fName 4) (fLst (fCons (fOp oMod (fBlt bInt (fCons (fOp oSub (fName 2) (fBlt (onInts fun bs => some (.int bs.sum)) (fCons (fName 4) fNil))) fNil)) (fName 1)) fNil))))))) sNext)
    (sSeq (sSetC 6 (cV (fLst fNil)))
    (sSeq (sFor (fIt zipD (fCons (fOp oIx (fName 0) (fC (.int 1))) (fCons (fName 4) fNil))) (hTp 2 (hsCons (hSet 7) (hsCons (hSet 8) hsNil))) (sSeq (sAsgT (fCall 4 r (fCons (fName 7) (fCons (fName 1) (fCons (fName 8) (fCons (fName 3) fNil))))) (hTp 2 (hsCons (hSet 9) (hsCons (hSet 3) hsNil))))
    (sSetC 6 (cV (fOp oAdd (fName 6) (fName 9))))))
    (sRet (fTup (fCons (fName 6) (fCons (fName 3) fNil)))))))))
def F__law_dealt : List D → M D := lev (fun r => fDef 10 (B__law_dealt r)) 20
theorem ok__law_dealt (T : Tx K mg) : FnOk P w K mg base (L2.CX P w) 21 T.a__law_dealt T.fd__law_dealt ["formula", "modulus", "number", "numbers"] (spD mg 4 F__law_dealt) := by
  refine fnok_rec (c := 1) (F := fun r => fDef 10 (B__law_dealt r)) (fun k r hk hF => ?_) 20
  exact okD T.F__law_dealt sc__law_dealt fun cdv A outer s H E hr => ⟨_, (ess_cons (es_if (et_c (cp_eq (room_u64 hr)) (ev_ix (ev_name 0) ev_int) ev_str) (ess_one (es_ret (ev_tup (ea_cons (ev_lst (ea_cons (ev_name 2) ea_nil)) (ea_cons (ev_name 3) ea_nil))))) ess_nil)
    (ess_cons (es_setC 4 sc__law_dealt.nd (ec_v (ev_mul (ev_lst (ea_cons (ev_name 2) ea_nil)) (ev_blt call_lenA ok_len T.n_len (ea_cons (ev_ix (ev_name 0) ev_int) ea_nil)))))
    (ess_cons (es_if (et_c (cp_eq (room_u64 hr)) (ev_ix (ev_name 0) ev_int) ev_str) (ess_cons (es_setC 5 sc__law_dealt.nd (ec_v (ev_sub (ev_blt call_lenA ok_len T.n_len (ea_cons (ev_ix (ev_name 0) ev_int) ea_nil)) ev_int)))
    (ess_cons (es_par 4 3 sc__law_dealt.nd (ec_v (ev_sl (ev_name 3) eo_none (eo_some (ev_name 5)))) (ec_v (ev_sl (ev_name 3) (eo_some (ev_name 5)) eo_none)))
    (ess_one (es_setC 4 sc__law_dealt.nd (ec_v (ev_add (ev_name 4) (ev_lst (ea_cons (ev_mod (ev_bty call_int1 ok_int T.n_int (ea_cons (ev_sub (ev_name 2) (ev_blt (cr_sum rfl) ok_sum T.n_sum (ea_cons (ev_name 4) ea_nil))) ea_nil)) (ev_name 1)) ea_nil)))))))) ess_nil)
    (ess_cons (es_setC 6 sc__law_dealt.nd (ec_v (ev_lst ea_nil)))
    (ess_cons (es_for (passes_of rfl) (ei_zip T.n_zip (ea_cons (ev_ix (ev_name 0) ev_int) (ea_cons (ev_name 4) ea_nil))) (egt_tup (egts_cons (egt_name 7 sc__law_dealt.nd) (egts_cons (egt_name 8 sc__law_dealt.nd) egts_nil))) (ess_cons (es_asg (ev_call hF hr T.m__law_dealt T.F__law_dealt.kp (b__law_dealt T) (passes_call (takes_of rfl rfl rfl rfl) fun _ _ _ _ h => h) (ea_cons (ev_name 7) (ea_cons (ev_name 1) (ea_cons (ev_name 8) (ea_cons (ev_name 3) ea_nil))))) (egt_tup (egts_cons (egt_name 9 sc__law_dealt.nd) (egts_cons (egt_name 3 sc__law_dealt.nd) egts_nil))))
    (ess_one (es_setC 6 sc__law_dealt.nd (ec_v (ev_add (ev_name 6) (ev_name 9)))))))
    (ess_one (es_ret (ev_tup (ea_cons (ev_name 6) (ea_cons (ev_name 3) ea_nil))))))))))⟩
def B__law_parted : SEnv → M Fl :=
  (sSeq (sPar 2 3 (cO (fNew fNil)) (cV (fC (.int 0))))
    (sSeq (sFor (fSeq (fOp oIx (fName 0) (fC (.int 1)))) (hSet 4) (sSeq (sSetC 5 (cV (fBlt bLen (fCons (fCall 1 F__law_places (fCons (fName 4) fNil)) fNil))))
    (sSeq (sMut 2 stAppend (fCons (fTup (fCons (fName 4) (fCons (fL (fIt (one D.seq) (fCons (fSl (fName 1) (fPart (fName 3)) (fPart (fOp oAdd (fName 3) (fName 5)))) fNil))) fNil))) fNil))
    (sSetC 3 (cV (fOp oAdd (fName 3) (fName 5)))))))
    (sRet (fName 2))))
def F__law_parted : List D → M D := fDef 6 B__law_parted
theorem ok__law_parted (T : Tx K mg) : FnOk P w K mg base (L2.CX P w) 22 T.a__law_parted T.fd__law_parted ["formula", "shares"] (spD mg 2 F__law_parted) :=
  okD T.F__law_parted sc__law_parted fun cdv A outer s H E hr => ⟨_, (ess_cons (es_par 2 3 sc__law_parted.nd (ec_o (ef_lst ea_nil)) (ec_v ev_int))
    (ess_cons (es_for (passes_of rfl) (ei_seq (ev_ix (ev_name 0) ev_int)) (egt_name 4 sc__law_parted.nd) (ess_cons (es_setC 5 sc__law_parted.nd (ec_v (ev_blt call_lenA ok_len T.n_len (ea_cons (ev_call (ok__law_places T) (hr.mono (by decide)) T.m__law_places T.F__law_places.kp (b__law_places T) (passes_call (takes_of rfl rfl rfl rfl) fun _ _ _ _ h => h) (ea_cons (ev_name 4) ea_nil)) ea_nil))))
    (ess_cons (es_mut 2 PySem.F.slot_list_append PySem.F.type_list_append mt_append mut_append (ea_cons (ev_tup (ea_cons (ev_name 4) (ea_cons (Ef.ev (ef_bty call_list_of ok_list T.n_list (ea_cons (ev_sl (ev_name 1) (eo_some (ev_name 3)) (eo_some (ev_add (ev_name 3) (ev_name 5)))) ea_nil))) ea_nil))) ea_nil))
    (ess_one (es_setC 3 sc__law_parted.nd (ec_v (ev_add (ev_name 3) (ev_name 5))))))))
    (ess_one (es_ret (ev_name 2)))))⟩
def B__law_secret (r : List D → M D) : SEnv → M Fl :=
  (sSeq (sIf (fTst (fOp (oEq false) (fOp oIx (fName 0) (fC (.int 0))) (fC (.str (Str.ofString "name"))))) (sRet (fOp oIx (fName 2) (fC (.int 0)))) sNext)
    (sSeq (sSetC 3 (cV (fL (fLcL (fSeq (fCall 2 F__law_parted (fCons (fName 0) (fCons (fName 2) fNil)))) (gTp 2 (gsCons (gSet 4) (gsCons (gSet 5) gsNil))) fYes (fCall 3 r (fCons (fName 4) (fCons (fName 1) (fCons (fName 5) fNil)))) [4, 5]))))
    (sSeq (sIf (fTst (fBlt (onBls fun bs => some (.bl (bs.any id))) (fCons (fL (fLcL (fSeq (fName 3)) (gSet 6) fYes (fOp (oIsN false) (fName 6) (fC .non)) [6])) fNil))) (sRet (fC .non)) sNext)
    (sSeq (sIf (fTst (fOp (oEq false) (fOp oIx (fName 0) (fC (.int 0))) (fC (.str (Str.ofString "all"))))) (sRet (fOp oMod (fBlt bInt (fCons (fBlt (onInts fun bs => some (.int bs.sum)) (fCons (fName 3) fNil)) fNil)) (fName 1))) sNext)
    (sRet (fIf (fTst (fBlt (onBls fun bs => some (.bl (bs.all id))) (fCons (fL (fLcL (fSeq (fName 3)) (gSet 6) fYes (fOp (oEq false) (fName 6) (fOp oIx (fName 3) (fC (.int 0)))) [6])) fNil))) (fOp oIx (fName 3) (fC (.int 0))) (fC .non)))))))
def F__law_secret : List D → M D := lev (fun r => fDef 7 (B__law_secret r)) 20
theorem ok__law_secret (T : Tx K mg) : FnOk P w K mg base (L2.CX P w) 43 T.a__law_secret T.fd__law_secret ["formula", "modulus", "shares"] (spD mg 3 F__law_secret) := by
  refine fnok_rec (c := 23) (F := fun r => fDef 7 (B__law_secret r)) (fun k r hk hF => ?_) 20
  exact okD T.F__law_secret sc__law_secret fun cdv A outer s H E hr => ⟨_, (ess_cons (es_if (et_c (cp_eq (room_u64 hr)) (ev_ix (ev_name 0) ev_int) ev_str) (ess_one (es_ret (ev_ix (ev_name 2) ev_int))) ess_nil)
    (ess_cons (es_setC 3 sc__law_secret.nd (ec_v (Ef.ev (ef_lc (own := [("part", 4), ("some", 5)]) (te := (tCall (spD mg 3 r) [] E0 (tCons (tVar 4) (tCons (tVar 1) (tCons (tVar 5) tNil))))) (tt := tYes) (g := (gTup K 2 (gCons (gName 4) (gCons (gName 5) gNil))))  rfl sc__law_secret.nd (blkOk_by (N := ["formula", "modulus", "shares", "numbers", "part", "some", "number"]) (sc := defScope s__law_secret) (own := [("part", 4), ("some", 5)]) (by decide +kernel)) (ei_seq (ev_call (ok__law_parted T) (hr.mono (Nat.le_trans (by decide) hk)) T.m__law_parted T.F__law_parted.kp (b__law_parted T) (passes_call (takes_of rfl rfl rfl rfl) fun _ _ _ _ h => h) (ea_cons (ev_name 0) (ea_cons (ev_name 2) ea_nil)))) (fun _ _ _ _ _ => (eg_tup (egs_cons (eg_name 4 sc__law_secret.nd) (egs_cons (eg_name 5 sc__law_secret.nd) egs_nil)))) (fun _ _ _ _ _ => ets_nil) (fun _ _ _ _ _ => (ev_call hF hr T.m__law_secret T.F__law_secret.kp (b__law_secret T) passL (ea_cons (ev_name 4) (ea_cons (ev_name 1) (ea_cons (ev_name 5) ea_nil)))))))))
    (ess_cons (es_if (et_val (ev_blt (cr_any rfl) ok_any T.n_any (ea_cons (Ef.ev (ef_lc (own := [("number", 6)]) (te := (tOp qIs (tVar 6) (tC .non))) (tt := tYes) (g := (gName 6))  rfl sc__law_secret.nd (blkOk_by (N := ["formula", "modulus", "shares", "numbers", "part", "some", "number"]) (sc := defScope s__law_secret) (own := [("number", 6)]) (by decide +kernel)) (ei_seq (ev_name 3)) (fun _ _ _ _ _ => (eg_name 6 sc__law_secret.nd)) (fun _ _ _ _ _ => ets_nil) (fun _ _ _ _ _ => (ev_c cp_is (ev_name 6) ev_non)))) ea_nil))) (ess_one (es_ret ev_non)) ess_nil)
    (ess_cons (es_if (et_c (cp_eq (room_u64 hr)) (ev_ix (ev_name 0) ev_int) ev_str) (ess_one (es_ret (ev_mod (ev_bty call_int1 ok_int T.n_int (ea_cons (ev_blt (cr_sum rfl) ok_sum T.n_sum (ea_cons (ev_name 3) ea_nil)) ea_nil)) (ev_name 1)))) ess_nil)
    (ess_one (es_ret (ev_if (et_val (ev_blt (cr_all rfl) ok_all T.n_all (ea_cons (Ef.ev (ef_lc (own := [("number", 6)]) (te := (tOp (qEq K) (tVar 6) (tOp (rIx K) (tVar 3) (tC (.int 0))))) (tt := tYes) (g := (gName 6))  rfl sc__law_secret.nd (blkOk_by (N := ["formula", "modulus", "shares", "numbers", "part", "some", "number"]) (sc := defScope s__law_secret) (own := [("number", 6)]) (by decide +kernel)) (ei_seq (ev_name 3)) (fun _ _ _ _ _ => (eg_name 6 sc__law_secret.nd)) (fun _ _ _ _ _ => ets_nil) (fun _ _ _ _ _ => (ev_c (cp_eq (room_u64 hr)) (ev_name 6) (ev_ix (ev_name 3) ev_int))))) ea_nil))) (ev_ix (ev_name 3) ev_int) ev_non)))))))⟩
def B__law_lot : SEnv → M Fl :=
  (sSeq (sSetC 2 (cV (fCall 2 F__law_mixed (fCons (fName 0) (fCons (fL (fIt (one srtK) (fCons (fBlt bDict0 (fCons (fL (fLcL (fSeq (fName 1)) (gSet 4) fYes (fTup (fCons (fName 4) (fCons (fC (.int 0)) fNil))) [4])) fNil)) fNil))) fNil)))))
    (sSeq (sSetC 3 (cV (fOp oMul (fLst (fCons (fC (.str (Str.ofString "zzzzzz"))) fNil)) (fBlt bInt (fCons (fOp (oEq false) (fCall 2 F__law_draw (fCons (fName 0) (fCons (fC (.int 4)) fNil))) (fC (.int 0))) fNil)))))
    (sRet (fL (fIt srtS (fCons (fOp oAdd (fSl (fName 2) (fun _ => ret none) (fPart (fCall 2 F__law_draw (fCons (fName 0) (fCons (fOp oAdd (fBlt bLen (fCons (fName 2) fNil)) (fC (.int 1))) fNil))))) (fName 3)) fNil))))))
def F__law_lot : List D → M D := fDef 5 B__law_lot
theorem ok__law_lot (T : Tx K mg) : FnOk P w K mg base (L2.CX P w) 3 T.a__law_lot T.fd__law_lot ["stream", "names"] (spD mg 2 F__law_lot) :=
  okD T.F__law_lot sc__law_lot fun cdv A outer s H E hr => ⟨_, (ess_cons (es_setC 2 sc__law_lot.nd (ec_v (ev_call (ok__law_mixed T) (hr.mono (by decide)) T.m__law_mixed T.F__law_mixed.kp (b__law_mixed T) (passes_call (takes_of rfl rfl rfl rfl) fun _ _ _ _ h => h) (ea_cons (ev_name 0) (ea_cons (Ef.ev (ef_blt (call_sortedD rfl) ok_sortedD T.n_sorted (ea_cons (ev_bty (call_dict0' rfl) ok_dict0 T.n_dict (ea_cons (Ef.ev (ef_lc (own := [("name", 4)]) (te := (tTup (tCons (tVar 4) (tCons (tC (.int 0)) tNil)))) (tt := tYes) (g := (gName 4))  rfl sc__law_lot.nd (blkOk_by (N := ["stream", "names", "some", "more", "name"]) (sc := defScope s__law_lot) (own := [("name", 4)]) (by decide +kernel)) (ei_seq (ev_name 1)) (fun _ _ _ _ _ => (eg_name 4 sc__law_lot.nd)) (fun _ _ _ _ _ => ets_nil) (fun _ _ _ _ _ => (ev_tup (ea_cons (ev_name 4) (ea_cons ev_int ea_nil)))))) ea_nil)) ea_nil))) ea_nil)))))
    (ess_cons (es_setC 3 sc__law_lot.nd (ec_v (ev_mul (ev_lst (ea_cons ev_str ea_nil)) (ev_bty call_int1 ok_int T.n_int (ea_cons (ev_c (cp_eq (room_u64 hr)) (ev_call (ok__law_draw T) (hr.mono (by decide)) T.m__law_draw T.F__law_draw.kp (b__law_draw T) (passes_call (takes_of rfl rfl rfl rfl) fun _ _ _ _ h => h) (ea_cons (ev_name 0) (ea_cons ev_int ea_nil))) ev_int) ea_nil)))))
    (ess_one (es_ret (Ef.ev (ef_blt cr_sortedS ok_sortedS T.n_sorted (ea_cons (ev_add (ev_sl (ev_name 2) eo_none (eo_some (ev_call (ok__law_draw T) (hr.mono (by decide)) T.m__law_draw T.F__law_draw.kp (b__law_draw T) (passes_call (takes_of rfl rfl rfl rfl) fun _ _ _ _ h => h) (ea_cons (ev_name 0) (ea_cons (ev_add (ev_blt call_lenA ok_len T.n_len (ea_cons (ev_name 2) ea_nil)) ev_int) ea_nil))))) (ev_name 3)) ea_nil)))))))⟩
def B__law_copied (r : List D → M D) : SEnv → M Fl :=
  (sSeq (sIf (fTst (fBlt isiT (fCons (fName 0) (fCons (fTup (fCons (fC (.ty .lst)) (fCons (fC (.ty .tup)) fNil))) fNil)))) (sSeq (sSetC 1 (cV (fL (fLcL (fSeq (fName 0)) (gSet 2) fYes (fCall 1 r (fCons (fName 2) fNil)) [2]))))
    (sRet (fIf (fTst (fBlt isiB (fCons (fName 0) (fCons (fC (.ty .lst)) fNil)))) (fName 1) (fBlt bTuple (fCons (fName 1) fNil))))) sNext)
    (sSeq (sIf (fTst (fBlt isiB (fCons (fName 0) (fCons (fC (.ty .dct)) fNil)))) (fun _ => stuck) sNext)
    (sRet (fName 0))))
def F__law_copied : List D → M D := lev (fun r => fDef 4 (B__law_copied r)) 20
theorem ok__law_copied (T : Tx K mg) : FnOk P w K mg base (L2.CX P w) 21 T.a__law_copied T.fd__law_copied ["thing"] (spD mg 1 F__law_copied) := by
  refine fnok_rec (c := 1) (F := fun r => fDef 4 (B__law_copied r)) (fun k r hk hF => ?_) 20
  exact okD T.F__law_copied sc__law_copied fun cdv A outer s H E hr => ⟨_, (ess_cons (es_if (et_val (ev_blt call_isiT ok_isiT T.n_isinstance (ea_cons (ev_name 0) (ea_cons (ev_tup (ea_cons (ev_ty .lst T.n_list) (ea_cons (ev_ty .tup T.n_tuple) ea_nil))) ea_nil)))) (ess_cons (es_setLc (own := [("one", 2)]) (te := (tCall (spD mg 1 r) [] E0 (tCons (tVar 2) tNil))) (tt := tYes) (g := (gName 2))  false 1 sc__law_copied.nd (blkOk_by (N := ["thing", "some", "one", "key"]) (sc := defScope s__law_copied) (own := [("one", 2)]) (by decide +kernel)) (ei_seq (ev_name 0)) (fun _ _ _ _ _ => (eg_name 2 sc__law_copied.nd)) (fun _ _ _ _ _ => ets_nil) (fun _ _ _ _ _ => (ev_call hF hr T.m__law_copied T.F__law_copied.kp (b__law_copied T) passL (ea_cons (ev_name 2) ea_nil))))
    (ess_one (es_ret (ev_if (et_val (ev_blt call_isi ok_isiB T.n_isinstance (ea_cons (ev_name 0) (ea_cons (ev_ty .lst T.n_list) ea_nil)))) (ev_name 1) (ev_bty call_tuple_of ok_tuple T.n_tuple (ea_cons (ev_name 1) ea_nil)))))) ess_nil)
    (ess_cons (es_if (et_val (ev_blt call_isi ok_isiB T.n_isinstance (ea_cons (ev_name 0) (ea_cons (ev_ty .dct T.n_dict) ea_nil)))) (ess_one es_never) ess_nil)
    (ess_one (es_ret (ev_name 0)))))⟩
def B__law_found (r : List D → M D) : SEnv → M Fl :=
  (sSeq (sIf (fTst (fOp (oEq false) (fOp oIx (fName 0) (fC (.int 0))) (fC (.str (Str.ofString "name"))))) (sRet (fIf (fTst (fOp oIn (fOp oIx (fName 0) (fC (.int 1))) (fName 2))) (fOp oIx (fName 3) (fC (.int 0))) (fC .non))) sNext)
    (sSeq (sSetC 5 (cV (fL (fLcL (fSeq (fCall 2 F__law_parted (fCons (fName 0) (fCons (fName 3) fNil)))) (gTp 2 (gsCons (gSet 6) (gsCons (gSet 4) gsNil))) fYes (fCall 4 r (fCons (fName 6) (fCons (fName 1) (fCons (fName 2) (fCons (fName 4) fNil))))) [6, 4]))))
    (sSeq (sSetC 4 (cV (fL (fLcL (fSeq (fName 5)) (gSet 7) (fTst (fOp (oIsN true) (fName 7) (fC .non))) (fName 7) [7]))))
    (sSeq (sIf (fTst (fOp (oEq false) (fOp oIx (fName 0) (fC (.int 0))) (fC (.str (Str.ofString "any"))))) (sRet (fIf (fTst (fOp (oEq true) (fName 4) (fLst fNil))) (fOp oIx (fName 4) (fC (.int 0))) (fC .non))) sNext)
    (sRet (fIf (fTst (fOp (oEq false) (fBlt bLen (fCons (fName 4) fNil)) (fBlt bLen (fCons (fName 5) fNil)))) (fOp oMod (fBlt bInt (fCons (fBlt (onInts fun bs => some (.int bs.sum)) (fCons (fName 4) fNil)) fNil)) (fName 1)) (fC .non)))))))
def F__law_found : List D → M D := lev (fun r => fDef 8 (B__law_found r)) 20
theorem ok__law_found (T : Tx K mg) : FnOk P w K mg base (L2.CX P w) 43 T.a__law_found T.fd__law_found ["formula", "modulus", "lot", "shares"] (spD mg 4 F__law_found) := by
  refine fnok_rec (c := 23) (F := fun r => fDef 8 (B__law_found r)) (fun k r hk hF => ?_) 20
  exact okD T.F__law_found sc__law_found fun cdv A outer s H E hr => ⟨_, (ess_cons (es_if (et_c (cp_eq (room_u64 hr)) (ev_ix (ev_name 0) ev_int) ev_str) (ess_one (es_ret (ev_if (et_c cp_in (ev_ix (ev_name 0) ev_int) (ev_name 2)) (ev_ix (ev_name 3) ev_int) ev_non))) ess_nil)
    (ess_cons (es_setLc (own := [("part", 6), ("some", 4)]) (te := (tCall (spD mg 4 r) [] E0 (tCons (tVar 6) (tCons (tVar 1) (tCons (tVar 2) (tCons (tVar 4) tNil)))))) (tt := tYes) (g := (gTup K 2 (gCons (gName 6) (gCons (gName 4) gNil))))  false 5 sc__law_found.nd (blkOk_by (N := ["formula", "modulus", "lot", "shares", "some", "numbers", "part", "number"]) (sc := defScope s__law_found) (own := [("part", 6), ("some", 4)]) (by decide +kernel)) (ei_seq (ev_call (ok__law_parted T) (hr.mono (Nat.le_trans (by decide) hk)) T.m__law_parted T.F__law_parted.kp (b__law_parted T) (passes_call (takes_of rfl rfl rfl rfl) fun _ _ _ _ h => h) (ea_cons (ev_name 0) (ea_cons (ev_name 3) ea_nil)))) (fun _ _ _ _ _ => (eg_tup (egs_cons (eg_name 6 sc__law_found.nd) (egs_cons (eg_name 4 sc__law_found.nd) egs_nil)))) (fun _ _ _ _ _ => ets_nil) (fun _ _ _ _ _ => (ev_call hF hr T.m__law_found T.F__law_found.kp (b__law_found T) passL (ea_cons (ev_name 6) (ea_cons (ev_name 1) (ea_cons (ev_name 2) (ea_cons (ev_name 4) ea_nil)))))))
    (ess_cons (es_setLc (own := [("number", 7)]) (te := (tVar 7)) (tt := (tTest (tOp qIsnot (tVar 7) (tC .non)))) (g := (gName 7))  false 4 sc__law_found.nd (blkOk_by (N := ["formula", "modulus", "lot", "shares", "some", "numbers", "part", "number"]) (sc := defScope s__law_found) (own := [("number", 7)]) (by decide +kernel)) (ei_seq (ev_name 5)) (fun _ _ _ _ _ => (eg_name 7 sc__law_found.nd)) (fun _ _ _ _ _ => (ets_one (et_c cp_isnot (ev_name 7) ev_non))) (fun _ _ _ _ _ => (ev_name 7)))
    (ess_cons (es_if (et_c (cp_eq (room_u64 hr)) (ev_ix (ev_name 0) ev_int) ev_str) (ess_one (es_ret (ev_if (et_c (cp_ne (room_u64 hr)) (ev_name 4) (ev_lst ea_nil)) (ev_ix (ev_name 4) ev_int) ev_non))) ess_nil)
    (ess_one (es_ret (ev_if (et_c (cp_eq (room_u64 hr)) (ev_blt call_lenA ok_len T.n_len (ea_cons (ev_name 4) ea_nil)) (ev_blt call_lenA ok_len T.n_len (ea_cons (ev_name 5) ea_nil))) (ev_mod (ev_bty call_int1 ok_int T.n_int (ea_cons (ev_blt (cr_sum rfl) ok_sum T.n_sum (ea_cons (ev_name 4) ea_nil)) ea_nil)) (ev_name 1)) ev_non)))))))⟩
def B_law : SEnv → M Fl :=
  (sSeq (sFor (fIt rng1 (fCons (fC (.int 10)) fNil)) (hSet 2) (sSeq (sSetC 3 (cV (fCall 2 F__law_names (fCons (fName 1) (fCons (fOp oAdd (fC (.int 1)) (fCall 2 F__law_draw (fCons (fName 1) (fCons (fC (.int 6)) fNil)))) fNil)))))
    (sSeq (sSetC 4 (cV (fCall 4 F__law_formula (fCons (fName 1) (fCons (fName 3) (fCons (fCall 2 F__law_pick (fCons (fName 1) (fCons (fLst (fCons (fC (.int 1)) (fCons (fC (.int 3)) (fCons (fC (.int 6)) fNil)))) fNil))) (fCons (fC (.int 12)) fNil)))))))
    (sSeq (sPar 5 6 (cV (fCall 2 F__law_pick (fCons (fName 1) (fCons (fLst (fCons (fC (.int 2)) (fCons (fC (.int 3)) (fCons (fC (.int 10)) (fCons (fOp oAdd (fC (.int 2)) (fCall 2 F__law_draw (fCons (fName 1) (fCons (fC (.int 999)) fNil)))) fNil))))) fNil)))) (cV (fBlt bRepr (fCons (fName 4) fNil))))
    (sSeq (sPar 8 9 (cV (fCall 2 F__law_draw (fCons (fName 1) (fCons (fName 5) fNil)))) (cV (fL (fLcL (fIt rng1 (fCons (fCall 1 F__law_wanted (fCons (fName 4) fNil)) fNil)) (gSet 7) fYes (fCall 2 F__law_draw (fCons (fName 1) (fCons (fName 5) fNil))) [7]))))
    (sSeq (sPar 10 11 (cV (fOp oIx (fCall 4 F__law_dealt (fCons (fName 4) (fCons (fName 5) (fCons (fName 8) (fCons (fName 9) fNil))))) (fC (.int 0)))) (cV (fLst (fCons (fCall 2 F__law_loose (fCons (fName 1) (fCons (fName 4) fNil))) (fCons (fL (fIt (one D.seq) (fCons (fName 9) fNil))) fNil)))))
    (sSeq (sTold 12 13 (fBlt bRepr (fCons (fName 11) fNil)) (fCallF 4 FF_deal (fCons (fOp oIx (fName 11) (fC (.int 0))) (fCons (fName 5) (fCons (fName 8) (fCons (fOp oIx (fName 11) (fC (.int 1))) fNil))))) (fCallKF 4 4 [3, 2, 1, 0] FF_deal (fCons (fBlt bTuple (fCons (fName 9) fNil)) (fCons (fName 8) (fCons (fName 5) (fCons (fCall 1 F__law_copied (fCons (fName 4) fNil)) fNil))))) (fOrT (fNotT (fTst (fCall 2 F__law_same (fCons (fName 13) (fCons (fLst (fCons (fName 10) (fCons (fName 10) fNil))) fNil))))) (fTst (fOp (oEq true) (fBlt bRepr (fCons (fName 11) fNil)) (fName 12)))))
    (sSeq (sIf (fNotT (fTst (fCall 2 F__law_same (fCons (fCall 4 F_deal (fCons (fCall 1 F__law_copied (fCons (fName 4) fNil)) (fCons (fName 5) (fCons (fName 8) (fCons (fL (fIt (one D.seq) (fCons (fName 9) fNil))) fNil))))) (fCons (fName 10) fNil))))) (sRet (fC (.bl false))) sNext)
    (sSeq (sSetC 14 (cO (fNew (fCons (fCall 3 F_secret_of (fCons (fCall 1 F__law_copied (fCons (fName 4) fNil)) (fCons (fName 5) (fCons (fL (fIt (one D.seq) (fCons (fName 10) fNil))) fNil)))) (fCons (fCall 3 F__law_secret (fCons (fName 4) (fCons (fName 5) (fCons (fName 10) fNil)))) fNil)))))
    (sSeq (sIf (fNotT (fTst (fCall 2 F__law_same (fCons (fName 14) (fCons (fLst (fCons (fName 8) (fCons (fName 8) fNil))) fNil))))) (sRet (fC (.bl false))) sNext)
    (sSeq (sFor (fIt rng1 (fCons (fC (.int 6)) fNil)) (hSet 15) (sSeq (sSetC 16 (cO (fIt (one D.seq) (fCons (fName 10) fNil))))
    (sSeq (sSetA 17 (fCall 2 F__law_draw (fCons (fName 1) (fCons (fBlt bLen (fCons (fName 16) fNil)) fNil))))
    (sSeq (sStore 16 (fCall 2 F__law_draw (fCons (fName 1) (fCons (fName 5) fNil))) (fName 17))
    (sSeq (sFz (sPar 18 19 (cV (fCall 3 F__law_secret (fCons (fName 4) (fCons (fName 5) (fCons (fName 16) fNil))))) (cV (fCall 2 F__law_loose (fCons (fName 1) (fCons (fBlt bTuple (fCons (fName 16) fNil)) fNil))))))
    (sSeq (sSetC 14 (cO (fNew (fCons (fCall 3 F_secret_of (fCons (fCall 1 F__law_copied (fCons (fName 4) fNil)) (fCons (fName 5) (fCons (fName 19) fNil)))) fNil))))
    (sSeq (sMut 14 stAppend (fCons (fCallK 3 3 [2, 1, 0] F_secret_of (fCons (fL (fIt (one D.seq) (fCons (fName 16) fNil))) (fCons (fName 5) (fCons (fCall 1 F__law_copied (fCons (fName 4) fNil)) fNil)))) fNil))
    (sSeq (sIf (fNotT (fTst (fCall 2 F__law_same (fCons (fName 14) (fCons (fLst (fCons (fName 18) (fCons (fName 18) fNil))) fNil))))) (sRet (fC (.bl false))) sNext)
    (sSeq (sSetC 20 (cV (fCall 2 F__law_lot (fCons (fName 1) (fCons (fName 3) fNil)))))
    (sSeq (sSetC 14 (cO (fNew (fCons (fCall 4 F_opened (fCons (fCall 1 F__law_copied (fCons (fName 4) fNil)) (fCons (fName 5) (fCons (fL (fIt (one D.seq) (fCons (fName 20) fNil))) (fCons (fL (fIt (one D.seq) (fCons (fName 10) fNil))) fNil))))) fNil))))
    (sSeq (sMut 14 stAppend (fCons (fCallK 4 4 [3, 2, 1, 0] F_opened (fCons (fBlt bTuple (fCons (fName 10) fNil)) (fCons (fBlt bTuple (fCons (fName 20) fNil)) (fCons (fName 5) (fCons (fCall 2 F__law_loose (fCons (fName 1) (fCons (fName 4) fNil))) fNil))))) fNil))
    (sSeq (sSetC 18 (cV (fIf (fTst (fCall 2 F__law_opens (fCons (fName 4) (fCons (fName 20) fNil)))) (fName 8) (fC .non))))
    (sSeq (sIf (fNotT (fTst (fCall 2 F__law_same (fCons (fName 14) (fCons (fLst (fCons (fName 18) (fCons (fName 18) fNil))) fNil))))) (sRet (fC (.bl false))) sNext)
    (sSeq (sSetC 21 (cV (fL (fLcL (fIt zipD (fCons (fName 10) (fCons (fCall 1 F__law_places (fCons (fName 4) fNil)) fNil))) (gTp 2 (gsCons (gSet 24) (gsCons (gSet 25) gsNil))) fYes (fIf (fTst (fOp oIn (fName 25) (fName 20))) (fName 24) (fC (.int 0))) [24, 25]))))
    (sSeq (sIf (fNotT (fTst (fCall 2 F__law_same (fCons (fCall 4 F_opened (fCons (fCall 1 F__law_copied (fCons (fName 4) fNil)) (fCons (fName 5) (fCons (fL (fIt (one D.seq) (fCons (fName 20) fNil))) (fCons (fName 21) fNil))))) (fCons (fName 18) fNil))))) (sRet (fC (.bl false))) sNext)
    (sSeq (sSetC 22 (cV (fL (fLcL (fSeq (fName 10)) (gSet 24) fYes (fCall 2 F__law_draw (fCons (fName 1) (fCons (fName 5) fNil))) [24]))))
    (sFor (fSeq (fTup (fCons (fName 16) (fCons (fName 22) fNil)))) (hSet 23) (sSeq (sSetC 18 (cV (fCall 4 F__law_found (fCons (fName 4) (fCons (fName 5) (fCons (fName 20) (fCons (fName 23) fNil)))))))
    (sSeq (sSetC 14 (cO (fNew (fCons (fCall 4 F_opened (fCons (fCall 1 F__law_copied (fCons (fName 4) fNil)) (fCons (fName 5) (fCons (fL (fIt (one D.seq) (fCons (fName 20) fNil))) (fCons (fL (fIt (one D.seq) (fCons (fName 23) fNil))) fNil))))) fNil))))
    (sSeq (sMut 14 stAppend (fCons (fCallK 4 4 [3, 2, 1, 0] F_opened (fCons (fBlt bTuple (fCons (fName 23) fNil)) (fCons (fBlt bTuple (fCons (fName 20) fNil)) (fCons (fName 5) (fCons (fCall 1 F__law_copied (fCons (fName 4) fNil)) fNil))))) fNil))
    (sIf (fNotT (fTst (fCall 2 F__law_same (fCons (fName 14) (fCons (fLst (fCons (fName 18) (fCons (fName 18) fNil))) fNil))))) (sRet (fC (.bl false))) sNext)))))))))))))))))))))
    (sIf (fTst (fOp (oEq true) (fBlt bRepr (fCons (fName 4) fNil)) (fName 6))) (sRet (fC (.bl false))) sNext))))))))))))
    (sSeq (sSetC 7 (cV (fTup (fCons (fC (.str (Str.ofString "all"))) (fCons (fLst (fCons (fTup (fCons (fC (.str (Str.ofString "name"))) (fCons (fC (.str (Str.ofString "a"))) fNil))) (fCons (fTup (fCons (fC (.str (Str.ofString "any"))) (fCons (fLst (fCons (fTup (fCons (fC (.str (Str.ofString "name"))) (fCons (fC (.str (Str.ofString "b"))) fNil))) (fCons (fTup (fCons (fC (.str (Str.ofString "name"))) (fCons (fC (.str (Str.ofString "c"))) fNil))) fNil))) fNil))) fNil))) fNil)))))
    (sSeq (sSetC 14 (cO (fNew (fCons (fCall 4 F_deal (fCons (fName 7) (fCons (fC (.int 10)) (fCons (fC (.int 3)) (fCons (fLst (fCons (fC (.int 8)) fNil)) fNil))))) (fCons (fCall 4 F_opened (fCons (fName 7) (fCons (fC (.int 10)) (fCons (fLst (fCons (fC (.str (Str.ofString "a"))) (fCons (fC (.str (Str.ofString "b"))) fNil))) (fCons (fLst (fCons (fC (.int 8)) (fCons (fC (.int 5)) (fCons (fC (.int 5)) fNil)))) fNil))))) (fCons (fCall 4 F_opened (fCons (fName 7) (fCons (fC (.int 10)) (fCons (fLst (fCons (fC (.str (Str.ofString "b"))) (fCons (fC (.str (Str.ofString "c"))) fNil))) (fCons (fLst (fCons (fC (.int 8)) (fCons (fC (.int 5)) (fCons (fC (.int 5)) fNil)))) fNil))))) fNil))))))
    (sSeq (sMut 14 stExtend (fCons (fLst (fCons (fCall 3 F_secret_of (fCons (fName 7) (fCons (fC (.int 10)) (fCons (fLst (fCons (fC (.int 8)) (fCons (fC (.int 5)) (fCons (fC (.int 5)) fNil)))) fNil)))) (fCons (fCall 3 F_secret_of (fCons (fName 7) (fCons (fC (.int 10)) (fCons (fLst (fCons (fC (.int 8)) (fCons (fC (.int 5)) (fCons (fC (.int 6)) fNil)))) fNil)))) (fCons (fCall 4 F_opened (fCons (fName 7) (fCons (fC (.int 10)) (fCons (fLst (fCons (fC (.str (Str.ofString "a"))) (fCons (fC (.str (Str.ofString "b"))) (fCons (fC (.str (Str.ofString "c"))) fNil)))) (fCons (fLst (fCons (fC (.int 8)) (fCons (fC (.int 4)) (fCons (fC (.int 6)) fNil)))) fNil))))) fNil)))) fNil))
    (sRet (fCall 2 F__law_same (fCons (fName 14) (fCons (fLst (fCons (fLst (fCons (fC (.int 8)) (fCons (fC (.int 5)) (fCons (fC (.int 5)) fNil)))) (fCons (fC (.int 3)) (fCons (fC .non) (fCons (fC (.int 3)) (fCons (fC .non) (fCons (fC (.int 2)) fNil))))))) fNil))))))))
theorem ess_law (T : Tx K mg) {fa : Addr} {cdv : Value} {up : List Env} {s : Shared} {H : Hp} {E : XK} (hr : Room 45 (callerA.deeper (envOfC "law" (defScope s_law) s.heap.objs.size fa cdv))) :
    ∃ t, Ess (cxOf (L2.CX P w) P w K mg base ["script", "stream", "turn", "names", "formula", "modulus", "kept", "one", "secret", "numbers", "due", "handed", "was", "told", "found", "again", "shares", "at", "number", "passed", "lot", "hidden", "drawn", "some", "share", "name"] "law" (defScope s_law) fa cdv callerA up s H E) E (defBody s_law).tail B_law t :=
  ⟨_, (ess_cons (es_for (passes_of rfl) (ei_rng1 T.n_range (ea_cons ev_int ea_nil)) (egt_name 2 sc_law.nd) (ess_cons (es_setC 3 sc_law.nd (ec_v (ev_call (ok__law_names T) (hr.mono (by decide)) T.m__law_names T.F__law_names.kp (b__law_names T) (passes_call (takes_of rfl rfl rfl rfl) fun _ _ _ _ h => h) (ea_cons (ev_name 1) (ea_cons (ev_add ev_int (ev_call (ok__law_draw T) (hr.mono (by decide)) T.m__law_draw T.F__law_draw.kp (b__law_draw T) (passes_call (takes_of rfl rfl rfl rfl) fun _ _ _ _ h => h) (ea_cons (ev_name 1) (ea_cons ev_int ea_nil)))) ea_nil)))))
    (ess_cons (es_setC 4 sc_law.nd (ec_v (ev_call (ok__law_formula T) (hr.mono (by decide)) T.m__law_formula T.F__law_formula.kp (b__law_formula T) (passes_call (takes_of rfl rfl rfl rfl) fun _ _ _ _ h => h) (ea_cons (ev_name 1) (ea_cons (ev_name 3) (ea_cons (ev_call (ok__law_pick T) (hr.mono (by decide)) T.m__law_pick T.F__law_pick.kp (b__law_pick T) (passes_call (takes_of rfl rfl rfl rfl) fun _ _ _ _ h => h) (ea_cons (ev_name 1) (ea_cons (ev_lst (ea_cons ev_int (ea_cons ev_int (ea_cons ev_int ea_nil)))) ea_nil))) (ea_cons ev_int ea_nil)))))))
    (ess_cons (es_parT 5 6 sc_law.nd (ec_v (ev_call (ok__law_pick T) (hr.mono (by decide)) T.m__law_pick T.F__law_pick.kp (b__law_pick T) (passes_call (takes_of rfl rfl rfl rfl) fun _ _ _ _ h => h) (ea_cons (ev_name 1) (ea_cons (ev_lst (ea_cons ev_int (ea_cons ev_int (ea_cons ev_int (ea_cons (ev_add ev_int (ev_call (ok__law_draw T) (hr.mono (by decide)) T.m__law_draw T.F__law_draw.kp (b__law_draw T) (passes_call (takes_of rfl rfl rfl rfl) fun _ _ _ _ h => h) (ea_cons (ev_name 1) (ea_cons ev_int ea_nil)))) ea_nil))))) ea_nil)))) (ec_v (ev_blt (call_repr rfl (room_u100 hr)) ok_repr T.n_repr (ea_cons (ev_name 4) ea_nil))) (hpt := pg_tup rfl (pgs_cons (pg_name sc_law.nd rfl (by first | exact Or.inl rfl | exact Or.inr rfl) (by first | exact .inl rfl | exact .inr rfl)) (pgs_cons (pg_name sc_law.nd rfl (by first | exact Or.inl rfl | exact Or.inr rfl) (by first | exact .inl rfl | exact .inr rfl)) pgs_nil))))
    (ess_cons (es_par 8 9 sc_law.nd (ec_v (ev_call (ok__law_draw T) (hr.mono (by decide)) T.m__law_draw T.F__law_draw.kp (b__law_draw T) (passes_call (takes_of rfl rfl rfl rfl) fun _ _ _ _ h => h) (ea_cons (ev_name 1) (ea_cons (ev_name 5) ea_nil)))) (ec_v (Ef.ev (ef_lc (own := [("one", 7)]) (te := (tCall (spD mg 2 F__law_draw) [] E0 (tCons (tVar 1) (tCons (tVar 5) tNil)))) (tt := tYes) (g := (gName 7))  rfl sc_law.nd (blkOk_by (N := ["script", "stream", "turn", "names", "formula", "modulus", "kept", "one", "secret", "numbers", "due", "handed", "was", "told", "found", "again", "shares", "at", "number", "passed", "lot", "hidden", "drawn", "some", "share", "name"]) (sc := defScope s_law) (own := [("one", 7)]) (by decide +kernel)) (ei_rng1 T.n_range (ea_cons (ev_call (ok__law_wanted T) (hr.mono (by decide)) T.m__law_wanted T.F__law_wanted.kp (b__law_wanted T) (passes_call (takes_of rfl rfl rfl rfl) fun _ _ _ _ h => h) (ea_cons (ev_name 4) ea_nil)) ea_nil)) (fun _ _ _ _ _ => (eg_name 7 sc_law.nd)) (fun _ _ _ _ _ => ets_nil) (fun _ _ _ _ _ => (ev_call (ok__law_draw T) (hr.mono (by decide)) T.m__law_draw T.F__law_draw.kp (b__law_draw T) passL (ea_cons (ev_name 1) (ea_cons (ev_name 5) ea_nil))))))))
    (ess_cons (es_par 10 11 sc_law.nd (ec_v (ev_ix (ev_call (ok__law_dealt T) (hr.mono (by decide)) T.m__law_dealt T.F__law_dealt.kp (b__law_dealt T) (passes_call (takes_of rfl rfl rfl rfl) fun _ _ _ _ h => h) (ea_cons (ev_name 4) (ea_cons (ev_name 5) (ea_cons (ev_name 8) (ea_cons (ev_name 9) ea_nil))))) ev_int)) (ec_v (ev_lst (ea_cons (ev_call (ok__law_loose T) (hr.mono (by decide)) T.m__law_loose T.F__law_loose.kp (b__law_loose T) (passes_call (takes_of rfl rfl rfl rfl) fun _ _ _ _ h => h) (ea_cons (ev_name 1) (ea_cons (ev_name 4) ea_nil))) (ea_cons (Ef.ev (ef_bty call_list_of ok_list T.n_list (ea_cons (ev_name 9) ea_nil))) ea_nil)))))
    (ess_told 12 13 sc_law.nd (ev_blt (call_repr rfl (room_u100 hr)) ok_repr T.n_repr (ea_cons (ev_name 11) ea_nil)) (ef_call (okF_deal T) (hr.mono (by decide)) T.m_deal T.F_deal.kp (b_deal T) (passes_call (takes_of rfl rfl rfl rfl) fun _ _ _ _ h => h) (ea_cons (ev_ix (ev_name 11) ev_int) (ea_cons (ev_name 5) (ea_cons (ev_name 8) (ea_cons (ev_ix (ev_name 11) ev_int) ea_nil))))) (ef_callK (ks := ["numbers", "secret", "modulus", "formula"]) (okF_deal T) (hr.mono (by decide)) T.m_deal T.F_deal.kp (VS.Fun.kbn (ks := ["numbers", "secret", "modulus", "formula"]) (ps := ["formula", "modulus", "secret", "numbers"]) T.F_deal [3, 2, 1, 0] fun _ _ _ _ _ _ ws hl => match ws, hl with | [_, _, _, _], _ => rfl) (passes_call (takes_of rfl rfl rfl rfl) fun _ _ _ _ h => h) (ek_cons (ev_bty call_tuple_of ok_tuple T.n_tuple (ea_cons (ev_name 9) ea_nil)) (ek_cons (ev_name 8) (ek_cons (ev_name 5) (ek_cons (ev_call (ok__law_copied T) (hr.mono (by decide)) T.m__law_copied T.F__law_copied.kp (b__law_copied T) (passes_call (takes_of rfl rfl rfl rfl) fun _ _ _ _ h => h) (ea_cons (ev_name 4) ea_nil)) ek_nil))))) (Ew.et (ew_or (et_not (et_val (ev_call (ok__law_same T) (hr.mono (by decide)) T.m__law_same T.F__law_same.kp (b__law_same T) (passes_call (takes_of rfl rfl rfl rfl) fun _ _ _ _ h => h) (ea_cons (ev_name 13) (ea_cons (ev_lst (ea_cons (ev_name 10) (ea_cons (ev_name 10) ea_nil))) ea_nil))))) (et_or1 (et_c (cp_ne (room_u64 hr)) (ev_blt (call_repr rfl (room_u100 hr)) ok_repr T.n_repr (ea_cons (ev_name 11) ea_nil)) (ev_name 12))))) (ps_expr (pe_call (ok_sp2 T) (hr.mono (by decide)) rfl T.m__law_spoilt T.F__law_spoilt.kp (b__law_spoilt T) .nil (passes_call (takes_of rfl rfl rfl rfl) fun _ _ _ _ h => h) (pa_cons (pe_var (by rfl) (Or.inl rfl)) pa_nil)) rfl)
    (ess_cons (es_if (et_not (et_val (ev_call (ok__law_same T) (hr.mono (by decide)) T.m__law_same T.F__law_same.kp (b__law_same T) (passes_call (takes_of rfl rfl rfl rfl) fun _ _ _ _ h => h) (ea_cons (ev_call (ok_deal T) (hr.mono (by decide)) T.m_deal T.F_deal.kp (b_deal T) (passes_call (takes_of rfl rfl rfl rfl) fun _ _ _ _ h => h) (ea_cons (ev_call (ok__law_copied T) (hr.mono (by decide)) T.m__law_copied T.F__law_copied.kp (b__law_copied T) (passes_call (takes_of rfl rfl rfl rfl) fun _ _ _ _ h => h) (ea_cons (ev_name 4) ea_nil)) (ea_cons (ev_name 5) (ea_cons (ev_name 8) (ea_cons (Ef.ev (ef_bty call_list_of ok_list T.n_list (ea_cons (ev_name 9) ea_nil))) ea_nil))))) (ea_cons (ev_name 10) ea_nil))))) (ess_one (es_ret ev_bl)) ess_nil)
    (ess_cons (es_setC 14 sc_law.nd (ec_o (ef_lst (ea_cons (ev_call (ok_secret_of T) (hr.mono (by decide)) T.m_secret_of T.F_secret_of.kp (b_secret_of T) (passes_call (takes_of rfl rfl rfl rfl) fun _ _ _ _ h => h) (ea_cons (ev_call (ok__law_copied T) (hr.mono (by decide)) T.m__law_copied T.F__law_copied.kp (b__law_copied T) (passes_call (takes_of rfl rfl rfl rfl) fun _ _ _ _ h => h) (ea_cons (ev_name 4) ea_nil)) (ea_cons (ev_name 5) (ea_cons (Ef.ev (ef_bty call_list_of ok_list T.n_list (ea_cons (ev_name 10) ea_nil))) ea_nil)))) (ea_cons (ev_call (ok__law_secret T) (hr.mono (by decide)) T.m__law_secret T.F__law_secret.kp (b__law_secret T) (passes_call (takes_of rfl rfl rfl rfl) fun _ _ _ _ h => h) (ea_cons (ev_name 4) (ea_cons (ev_name 5) (ea_cons (ev_name 10) ea_nil)))) ea_nil)))))
    (ess_cons (es_if (et_not (et_val (ev_call (ok__law_same T) (hr.mono (by decide)) T.m__law_same T.F__law_same.kp (b__law_same T) (passes_call (takes_of rfl rfl rfl rfl) fun _ _ _ _ h => h) (ea_cons (ev_name 14) (ea_cons (ev_lst (ea_cons (ev_name 8) (ea_cons (ev_name 8) ea_nil))) ea_nil))))) (ess_one (es_ret ev_bl)) ess_nil)
    (ess_cons (es_for (passes_of rfl) (ei_rng1 T.n_range (ea_cons ev_int ea_nil)) (egt_name 15 sc_law.nd) (ess_cons (es_setC 16 sc_law.nd (ec_o (ef_bty call_list_of ok_list T.n_list (ea_cons (ev_name 10) ea_nil))))
    (ess_cons (es_setA 17 sc_law.nd (ev_call (ok__law_draw T) (hr.mono (by decide)) T.m__law_draw T.F__law_draw.kp (b__law_draw T) (passes_call (takes_of rfl rfl rfl rfl) fun _ _ _ _ h => h) (ea_cons (ev_name 1) (ea_cons (ev_blt call_lenA ok_len T.n_len (ea_cons (ev_name 16) ea_nil)) ea_nil))))
    (ess_cons (es_store 16 (ev_call (ok__law_draw T) (hr.mono (by decide)) T.m__law_draw T.F__law_draw.kp (b__law_draw T) (passes_call (takes_of rfl rfl rfl rfl) fun _ _ _ _ h => h) (ea_cons (ev_name 1) (ea_cons (ev_name 5) ea_nil))) (ev_name 17))
    (ess_cons (es_fz (es_par 18 19 sc_law.nd (ec_v (ev_call (ok__law_secret T) (hr.mono (by decide)) T.m__law_secret T.F__law_secret.kp (b__law_secret T) (passes_call (takes_of rfl rfl rfl rfl) fun _ _ _ _ h => h) (ea_cons (ev_name 4) (ea_cons (ev_name 5) (ea_cons (ev_name 16) ea_nil))))) (ec_v (ev_call (ok__law_loose T) (hr.mono (by decide)) T.m__law_loose T.F__law_loose.kp (b__law_loose T) (passes_call (takes_of rfl rfl rfl rfl) fun _ _ _ _ h => h) (ea_cons (ev_name 1) (ea_cons (ev_bty call_tuple_of ok_tuple T.n_tuple (ea_cons (ev_name 16) ea_nil)) ea_nil))))))
    (ess_cons (es_setC 14 sc_law.nd (ec_o (ef_lst (ea_cons (ev_call (ok_secret_of T) (hr.mono (by decide)) T.m_secret_of T.F_secret_of.kp (b_secret_of T) (passes_call (takes_of rfl rfl rfl rfl) fun _ _ _ _ h => h) (ea_cons (ev_call (ok__law_copied T) (hr.mono (by decide)) T.m__law_copied T.F__law_copied.kp (b__law_copied T) (passes_call (takes_of rfl rfl rfl rfl) fun _ _ _ _ h => h) (ea_cons (ev_name 4) ea_nil)) (ea_cons (ev_name 5) (ea_cons (ev_name 19) ea_nil)))) ea_nil))))
    (ess_cons (es_mut 14 PySem.F.slot_list_append PySem.F.type_list_append mt_append mut_append (ea_cons (ev_callK (ks := ["shares", "modulus", "formula"]) (ok_secret_of T) (hr.mono (by decide)) T.m_secret_of T.F_secret_of.kp (VS.Fun.kbn (ks := ["shares", "modulus", "formula"]) (ps := ["formula", "modulus", "shares"]) T.F_secret_of [2, 1, 0] fun _ _ _ _ _ _ ws hl => match ws, hl with | [_, _, _], _ => rfl) (passes_call (takes_of rfl rfl rfl rfl) fun _ _ _ _ h => h) (ek_cons (Ef.ev (ef_bty call_list_of ok_list T.n_list (ea_cons (ev_name 16) ea_nil))) (ek_cons (ev_name 5) (ek_cons (ev_call (ok__law_copied T) (hr.mono (by decide)) T.m__law_copied T.F__law_copied.kp (b__law_copied T) (passes_call (takes_of rfl rfl rfl rfl) fun _ _ _ _ h => h) (ea_cons (ev_name 4) ea_nil)) ek_nil)))) ea_nil))
    (ess_cons (es_if (et_not (et_val (ev_call (ok__law_same T) (hr.mono (by decide)) T.m__law_same T.F__law_same.kp (b__law_same T) (passes_call (takes_of rfl rfl rfl rfl) fun _ _ _ _ h => h) (ea_cons (ev_name 14) (ea_cons (ev_lst (ea_cons (ev_name 18) (ea_cons (ev_name 18) ea_nil))) ea_nil))))) (ess_one (es_ret ev_bl)) ess_nil)
    (ess_cons (es_setC 20 sc_law.nd (ec_v (ev_call (ok__law_lot T) (hr.mono (by decide)) T.m__law_lot T.F__law_lot.kp (b__law_lot T) (passes_call (takes_of rfl rfl rfl rfl) fun _ _ _ _ h => h) (ea_cons (ev_name 1) (ea_cons (ev_name 3) ea_nil)))))
    (ess_cons (es_setC 14 sc_law.nd (ec_o (ef_lst (ea_cons (ev_call (ok_opened T) (hr.mono (by decide)) T.m_opened T.F_opened.kp (b_opened T) (passes_call (takes_of rfl rfl rfl rfl) fun _ _ _ _ h => h) (ea_cons (ev_call (ok__law_copied T) (hr.mono (by decide)) T.m__law_copied T.F__law_copied.kp (b__law_copied T) (passes_call (takes_of rfl rfl rfl rfl) fun _ _ _ _ h => h) (ea_cons (ev_name 4) ea_nil)) (ea_cons (ev_name 5) (ea_cons (Ef.ev (ef_bty call_list_of ok_list T.n_list (ea_cons (ev_name 20) ea_nil))) (ea_cons (Ef.ev (ef_bty call_list_of ok_list T.n_list (ea_cons (ev_name 10) ea_nil))) ea_nil))))) ea_nil))))
    (ess_cons (es_mut 14 PySem.F.slot_list_append PySem.F.type_list_append mt_append mut_append (ea_cons (ev_callK (ks := ["shares", "lot", "modulus", "formula"]) (ok_opened T) (hr.mono (by decide)) T.m_opened T.F_opened.kp (VS.Fun.kbn (ks := ["shares", "lot", "modulus", "formula"]) (ps := ["formula", "modulus", "lot", "shares"]) T.F_opened [3, 2, 1, 0] fun _ _ _ _ _ _ ws hl => match ws, hl with | [_, _, _, _], _ => rfl) (passes_call (takes_of rfl rfl rfl rfl) fun _ _ _ _ h => h) (ek_cons (ev_bty call_tuple_of ok_tuple T.n_tuple (ea_cons (ev_name 10) ea_nil)) (ek_cons (ev_bty call_tuple_of ok_tuple T.n_tuple (ea_cons (ev_name 20) ea_nil)) (ek_cons (ev_name 5) (ek_cons (ev_call (ok__law_loose T) (hr.mono (by decide)) T.m__law_loose T.F__law_loose.kp (b__law_loose T) (passes_call (takes_of rfl rfl rfl rfl) fun _ _ _ _ h => h) (ea_cons (ev_name 1) (ea_cons (ev_name 4) ea_nil))) ek_nil))))) ea_nil))
    (ess_cons (es_setC 18 sc_law.nd (ec_v (ev_if (et_val (ev_call (ok__law_opens T) (hr.mono (by decide)) T.m__law_opens T.F__law_opens.kp (b__law_opens T) (passes_call (takes_of rfl rfl rfl rfl) fun _ _ _ _ h => h) (ea_cons (ev_name 4) (ea_cons (ev_name 20) ea_nil)))) (ev_name 8) ev_non)))
    (ess_cons (es_if (et_not (et_val (ev_call (ok__law_same T) (hr.mono (by decide)) T.m__law_same T.F__law_same.kp (b__law_same T) (passes_call (takes_of rfl rfl rfl rfl) fun _ _ _ _ h => h) (ea_cons (ev_name 14) (ea_cons (ev_lst (ea_cons (ev_name 18) (ea_cons (ev_name 18) ea_nil))) ea_nil))))) (ess_one (es_ret ev_bl)) ess_nil)
    (ess_cons (es_setLc (own := [("share", 24), ("name", 25)]) (te := (tIf (tTest (tOp (qIn K) (tVar 25) (tVar 20))) (tVar 24) (tC (.int 0)))) (tt := tYes) (g := (gTup K 2 (gCons (gName 24) (gCons (gName 25) gNil))))  false 21 sc_law.nd (blkOk_by (N := ["script", "stream", "turn", "names", "formula", "modulus", "kept", "one", "secret", "numbers", "due", "handed", "was", "told", "found", "again", "shares", "at", "number", "passed", "lot", "hidden", "drawn", "some", "share", "name"]) (sc := defScope s_law) (own := [("share", 24), ("name", 25)]) (by decide +kernel)) (ei_zip T.n_zip (ea_cons (ev_name 10) (ea_cons (ev_call (ok__law_places T) (hr.mono (by decide)) T.m__law_places T.F__law_places.kp (b__law_places T) (passes_call (takes_of rfl rfl rfl rfl) fun _ _ _ _ h => h) (ea_cons (ev_name 4) ea_nil)) ea_nil))) (fun _ _ _ _ _ => (eg_tup (egs_cons (eg_name 24 sc_law.nd) (egs_cons (eg_name 25 sc_law.nd) egs_nil)))) (fun _ _ _ _ _ => ets_nil) (fun _ _ _ _ _ => (ev_if (et_c cp_in (ev_name 25) (ev_name 20)) (ev_name 24) ev_int)))
    (ess_cons (es_if (et_not (et_val (ev_call (ok__law_same T) (hr.mono (by decide)) T.m__law_same T.F__law_same.kp (b__law_same T) (passes_call (takes_of rfl rfl rfl rfl) fun _ _ _ _ h => h) (ea_cons (ev_call (ok_opened T) (hr.mono (by decide)) T.m_opened T.F_opened.kp (b_opened T) (passes_call (takes_of rfl rfl rfl rfl) fun _ _ _ _ h => h) (ea_cons (ev_call (ok__law_copied T) (hr.mono (by decide)) T.m__law_copied T.F__law_copied.kp (b__law_copied T) (passes_call (takes_of rfl rfl rfl rfl) fun _ _ _ _ h => h) (ea_cons (ev_name 4) ea_nil)) (ea_cons (ev_name 5) (ea_cons (Ef.ev (ef_bty call_list_of ok_list T.n_list (ea_cons (ev_name 20) ea_nil))) (ea_cons (ev_name 21) ea_nil))))) (ea_cons (ev_name 18) ea_nil))))) (ess_one (es_ret ev_bl)) ess_nil)
    (ess_cons (es_setLc (own := [("share", 24)]) (te := (tCall (spD mg 2 F__law_draw) [] E0 (tCons (tVar 1) (tCons (tVar 5) tNil)))) (tt := tYes) (g := (gName 24))  false 22 sc_law.nd (blkOk_by (N := ["script", "stream", "turn", "names", "formula", "modulus", "kept", "one", "secret", "numbers", "due", "handed", "was", "told", "found", "again", "shares", "at", "number", "passed", "lot", "hidden", "drawn", "some", "share", "name"]) (sc := defScope s_law) (own := [("share", 24)]) (by decide +kernel)) (ei_seq (ev_name 10)) (fun _ _ _ _ _ => (eg_name 24 sc_law.nd)) (fun _ _ _ _ _ => ets_nil) (fun _ _ _ _ _ => (ev_call (ok__law_draw T) (hr.mono (by decide)) T.m__law_draw T.F__law_draw.kp (b__law_draw T) passL (ea_cons (ev_name 1) (ea_cons (ev_name 5) ea_nil)))))
    (ess_one (es_for (passes_of rfl) (ei_seq (ev_tup (ea_cons (ev_name 16) (ea_cons (ev_name 22) ea_nil)))) (egt_name 23 sc_law.nd) (ess_cons (es_setC 18 sc_law.nd (ec_v (ev_call (ok__law_found T) (hr.mono (by decide)) T.m__law_found T.F__law_found.kp (b__law_found T) (passes_call (takes_of rfl rfl rfl rfl) fun _ _ _ _ h => h) (ea_cons (ev_name 4) (ea_cons (ev_name 5) (ea_cons (ev_name 20) (ea_cons (ev_name 23) ea_nil)))))))
    (ess_cons (es_setC 14 sc_law.nd (ec_o (ef_lst (ea_cons (ev_call (ok_opened T) (hr.mono (by decide)) T.m_opened T.F_opened.kp (b_opened T) (passes_call (takes_of rfl rfl rfl rfl) fun _ _ _ _ h => h) (ea_cons (ev_call (ok__law_copied T) (hr.mono (by decide)) T.m__law_copied T.F__law_copied.kp (b__law_copied T) (passes_call (takes_of rfl rfl rfl rfl) fun _ _ _ _ h => h) (ea_cons (ev_name 4) ea_nil)) (ea_cons (ev_name 5) (ea_cons (Ef.ev (ef_bty call_list_of ok_list T.n_list (ea_cons (ev_name 20) ea_nil))) (ea_cons (Ef.ev (ef_bty call_list_of ok_list T.n_list (ea_cons (ev_name 23) ea_nil))) ea_nil))))) ea_nil))))
    (ess_cons (es_mut 14 PySem.F.slot_list_append PySem.F.type_list_append mt_append mut_append (ea_cons (ev_callK (ks := ["shares", "lot", "modulus", "formula"]) (ok_opened T) (hr.mono (by decide)) T.m_opened T.F_opened.kp (VS.Fun.kbn (ks := ["shares", "lot", "modulus", "formula"]) (ps := ["formula", "modulus", "lot", "shares"]) T.F_opened [3, 2, 1, 0] fun _ _ _ _ _ _ ws hl => match ws, hl with | [_, _, _, _], _ => rfl) (passes_call (takes_of rfl rfl rfl rfl) fun _ _ _ _ h => h) (ek_cons (ev_bty call_tuple_of ok_tuple T.n_tuple (ea_cons (ev_name 23) ea_nil)) (ek_cons (ev_bty call_tuple_of ok_tuple T.n_tuple (ea_cons (ev_name 20) ea_nil)) (ek_cons (ev_name 5) (ek_cons (ev_call (ok__law_copied T) (hr.mono (by decide)) T.m__law_copied T.F__law_copied.kp (b__law_copied T) (passes_call (takes_of rfl rfl rfl rfl) fun _ _ _ _ h => h) (ea_cons (ev_name 4) ea_nil)) ek_nil))))) ea_nil))
    (ess_one (es_if (et_not (et_val (ev_call (ok__law_same T) (hr.mono (by decide)) T.m__law_same T.F__law_same.kp (b__law_same T) (passes_call (takes_of rfl rfl rfl rfl) fun _ _ _ _ h => h) (ea_cons (ev_name 14) (ea_cons (ev_lst (ea_cons (ev_name 18) (ea_cons (ev_name 18) ea_nil))) ea_nil))))) (ess_one (es_ret ev_bl)) ess_nil)))))))))))))))))))))))
    (ess_one (es_if (et_c (cp_ne (room_u64 hr)) (ev_blt (call_repr rfl (room_u100 hr)) ok_repr T.n_repr (ea_cons (ev_name 4) ea_nil)) (ev_name 6)) (ess_one (es_ret ev_bl)) ess_nil)))))))))))))
    (ess_cons (es_setC 7 sc_law.nd (ec_v (ev_tup (ea_cons ev_str (ea_cons (ev_lst (ea_cons (ev_tup (ea_cons ev_str (ea_cons ev_str ea_nil))) (ea_cons (ev_tup (ea_cons ev_str (ea_cons (ev_lst (ea_cons (ev_tup (ea_cons ev_str (ea_cons ev_str ea_nil))) (ea_cons (ev_tup (ea_cons ev_str (ea_cons ev_str ea_nil))) ea_nil))) ea_nil))) ea_nil))) ea_nil)))))
    (ess_cons (es_setC 14 sc_law.nd (ec_o (ef_lst (ea_cons (ev_call (ok_deal T) (hr.mono (by decide)) T.m_deal T.F_deal.kp (b_deal T) (passes_call (takes_of rfl rfl rfl rfl) fun _ _ _ _ h => h) (ea_cons (ev_name 7) (ea_cons ev_int (ea_cons ev_int (ea_cons (ev_lst (ea_cons ev_int ea_nil)) ea_nil))))) (ea_cons (ev_call (ok_opened T) (hr.mono (by decide)) T.m_opened T.F_opened.kp (b_opened T) (passes_call (takes_of rfl rfl rfl rfl) fun _ _ _ _ h => h) (ea_cons (ev_name 7) (ea_cons ev_int (ea_cons (ev_lst (ea_cons ev_str (ea_cons ev_str ea_nil))) (ea_cons (ev_lst (ea_cons ev_int (ea_cons ev_int (ea_cons ev_int ea_nil)))) ea_nil))))) (ea_cons (ev_call (ok_opened T) (hr.mono (by decide)) T.m_opened T.F_opened.kp (b_opened T) (passes_call (takes_of rfl rfl rfl rfl) fun _ _ _ _ h => h) (ea_cons (ev_name 7) (ea_cons ev_int (ea_cons (ev_lst (ea_cons ev_str (ea_cons ev_str ea_nil))) (ea_cons (ev_lst (ea_cons ev_int (ea_cons ev_int (ea_cons ev_int ea_nil)))) ea_nil))))) ea_nil))))))
    (ess_cons (es_mut 14 PySem.F.slot_list_extend PySem.F.type_list_extend mt_extend mut_extend (ea_cons (ev_lst (ea_cons (ev_call (ok_secret_of T) (hr.mono (by decide)) T.m_secret_of T.F_secret_of.kp (b_secret_of T) (passes_call (takes_of rfl rfl rfl rfl) fun _ _ _ _ h => h) (ea_cons (ev_name 7) (ea_cons ev_int (ea_cons (ev_lst (ea_cons ev_int (ea_cons ev_int (ea_cons ev_int ea_nil)))) ea_nil)))) (ea_cons (ev_call (ok_secret_of T) (hr.mono (by decide)) T.m_secret_of T.F_secret_of.kp (b_secret_of T) (passes_call (takes_of rfl rfl rfl rfl) fun _ _ _ _ h => h) (ea_cons (ev_name 7) (ea_cons ev_int (ea_cons (ev_lst (ea_cons ev_int (ea_cons ev_int (ea_cons ev_int ea_nil)))) ea_nil)))) (ea_cons (ev_call (ok_opened T) (hr.mono (by decide)) T.m_opened T.F_opened.kp (b_opened T) (passes_call (takes_of rfl rfl rfl rfl) fun _ _ _ _ h => h) (ea_cons (ev_name 7) (ea_cons ev_int (ea_cons (ev_lst (ea_cons ev_str (ea_cons ev_str (ea_cons ev_str ea_nil)))) (ea_cons (ev_lst (ea_cons ev_int (ea_cons ev_int (ea_cons ev_int ea_nil)))) ea_nil))))) ea_nil)))) ea_nil))
    (ess_one (es_ret (ev_call (ok__law_same T) (hr.mono (by decide)) T.m__law_same T.F__law_same.kp (b__law_same T) (passes_call (takes_of rfl rfl rfl rfl) fun _ _ _ _ h => h) (ea_cons (ev_name 14) (ea_cons (ev_lst (ea_cons (ev_lst (ea_cons ev_int (ea_cons ev_int (ea_cons ev_int ea_nil)))) (ea_cons ev_int (ea_cons ev_non (ea_cons ev_int (ea_cons ev_non (ea_cons ev_int ea_nil))))))) ea_nil)))))))))⟩
end

end K75

namespace K75
open PySem PySem.Spec PyProof.Rows L2 VS
theorem p_is_list {d : D} {r : List D} (h : d.seq = some r) : F_is_list [d] = ret (.bl true) := by
  cases d <;> first | cases h; done | rfl
theorem p_is_whole (i : Int) : F_is_whole [.int i] = ret (.bl true) := rfl
theorem p_is_number (i : Int) : F_is_number [.int i] = ret (.bl (decide (0 ≤ i))) := rfl
theorem p_is_index (i n : Int) : F_is_index [.int i, .int n] = ret (.bl (decide (0 ≤ i) && decide (i < n))) := by
  unfold F_is_index B_is_index
  simp only [fDef, fDefF, ofF, sSeq, sIf, sNext, sRet, sRetF, sSetC, sSetA, cV, cO, fTst, fBlt, fCall, fCallF, fCons, fNil, fName, fC, fOp, fUn, fAndV, fOrV, fNotV, fAndT, fOrT, fNotT, fIf, fTup, fLst, fNew, fL, fLcL, fSeq, fStar, fIt, fStrs, bnd_ret, ofO_some, al, cl, Sl.al, Sl.cl, startS, wipeD, List.map_cons, List.map_nil, List.length_cons, List.length_nil, List.cons_append, List.nil_append, List.getElem?_cons_zero, List.getElem?_cons_succ, List.replicate, List.set_cons_zero, List.set_cons_succ, eqD_int, eqD_str, neD_int, eqD_bl, neD_bl, geD_int, gtD_int, ltD_int, addD_int, subD_int, Nat.reduceSub, Nat.reduceAdd, Nat.reduceLT, decide_true, decide_false, if_true, if_false, Bool.false_eq_true, Option.some.injEq, reduceIte]
  rw [p_is_number]
  simp only [fDef, fDefF, ofF, sSeq, sIf, sNext, sRet, sRetF, sSetC, sSetA, cV, cO, fTst, fBlt, fCall, fCallF, fCons, fNil, fName, fC, fOp, fUn, fAndV, fOrV, fNotV, fAndT, fOrT, fNotT, fIf, fTup, fLst, fNew, fL, fLcL, fSeq, fStar, fIt, fStrs, bnd_ret, ofO_some, al, cl, Sl.al, Sl.cl, startS, wipeD, List.map_cons, List.map_nil, List.length_cons, List.length_nil, List.cons_append, List.nil_append, List.getElem?_cons_zero, List.getElem?_cons_succ, List.replicate, List.set_cons_zero, List.set_cons_succ, eqD_int, eqD_str, neD_int, eqD_bl, neD_bl, geD_int, gtD_int, ltD_int, addD_int, subD_int, Nat.reduceSub, Nat.reduceAdd, Nat.reduceLT, decide_true, decide_false, if_true, if_false, Bool.false_eq_true, Option.some.injEq, reduceIte]
  cases decide (0 ≤ i) <;> rfl
theorem p_is_row {d : D} {r : List D} (h : d.seq = some r) (n : Int) : F_is_row [d, .int n] = ret (.bl (decide ((r.length : Int) = n))) := by
  unfold F_is_row B_is_row
  simp only [fDef, fDefF, ofF, sSeq, sIf, sNext, sRet, sRetF, sSetC, sSetA, cV, cO, fTst, fBlt, fCall, fCallF, fCons, fNil, fName, fC, fOp, fUn, fAndV, fOrV, fNotV, fAndT, fOrT, fNotT, fIf, fTup, fLst, fNew, fL, fLcL, fSeq, fStar, fIt, fStrs, bnd_ret, ofO_some, al, cl, Sl.al, Sl.cl, startS, wipeD, List.map_cons, List.map_nil, List.length_cons, List.length_nil, List.cons_append, List.nil_append, List.getElem?_cons_zero, List.getElem?_cons_succ, List.replicate, List.set_cons_zero, List.set_cons_succ, eqD_int, eqD_str, neD_int, eqD_bl, neD_bl, geD_int, gtD_int, ltD_int, addD_int, subD_int, Nat.reduceSub, Nat.reduceAdd, Nat.reduceLT, decide_true, decide_false, if_true, if_false, Bool.false_eq_true, Option.some.injEq, reduceIte]
  rw [p_is_list h]
  simp only [fDef, fDefF, ofF, sSeq, sIf, sNext, sRet, sRetF, sSetC, sSetA, cV, cO, fTst, fBlt, fCall, fCallF, fCons, fNil, fName, fC, fOp, fUn, fAndV, fOrV, fNotV, fAndT, fOrT, fNotT, fIf, fTup, fLst, fNew, fL, fLcL, fSeq, fStar, fIt, fStrs, bnd_ret, ofO_some, al, cl, Sl.al, Sl.cl, startS, wipeD, List.map_cons, List.map_nil, List.length_cons, List.length_nil, List.cons_append, List.nil_append, List.getElem?_cons_zero, List.getElem?_cons_succ, List.replicate, List.set_cons_zero, List.set_cons_succ, eqD_int, eqD_str, neD_int, eqD_bl, neD_bl, geD_int, gtD_int, ltD_int, addD_int, subD_int, Nat.reduceSub, Nat.reduceAdd, Nat.reduceLT, decide_true, decide_false, if_true, if_false, Bool.false_eq_true, Option.some.injEq, reduceIte]
  rw [lenD h]
  simp only [fDef, fDefF, ofF, sSeq, sIf, sNext, sRet, sRetF, sSetC, sSetA, cV, cO, fTst, fBlt, fCall, fCallF, fCons, fNil, fName, fC, fOp, fUn, fAndV, fOrV, fNotV, fAndT, fOrT, fNotT, fIf, fTup, fLst, fNew, fL, fLcL, fSeq, fStar, fIt, fStrs, bnd_ret, ofO_some, al, cl, Sl.al, Sl.cl, startS, wipeD, List.map_cons, List.map_nil, List.length_cons, List.length_nil, List.cons_append, List.nil_append, List.getElem?_cons_zero, List.getElem?_cons_succ, List.replicate, List.set_cons_zero, List.set_cons_succ, eqD_int, eqD_str, neD_int, eqD_bl, neD_bl, geD_int, gtD_int, ltD_int, addD_int, subD_int, Nat.reduceSub, Nat.reduceAdd, Nat.reduceLT, decide_true, decide_false, if_true, if_false, Bool.false_eq_true, Option.some.injEq, reduceIte]
/-- a formula -/
inductive Fm where
  | name (s : Str)
  | gate (all : Bool) (ps : List Fm)
def kw : Bool → Str
  | true => Str.ofString "all"
  | false => Str.ofString "any"
mutual
def IsF : Fm → D → Prop
  | .name s, d => d.seq = some [.str (Str.ofString "name"), .str s]
  | .gate b ps, d => ∃ l ds, d.seq = some [.str (kw b), l] ∧ l.seq = some ds ∧ IsFs ps ds
def IsFs : List Fm → List D → Prop
  | [], ds => ds = []
  | p :: ps, ds => ∃ d r, ds = d :: r ∧ IsF p d ∧ IsFs ps r
end
theorem IsFs.two : ∀ {ps : List Fm} {ds : List D}, IsFs ps ds → Two IsF ps ds
  | [], _, h => h
  | p :: ps, _, h => by
    obtain ⟨d, r, rfl, h1, h2⟩ := h
    exact ⟨d, r, rfl, h1, IsFs.two h2⟩
mutual
def dep : Fm → Nat
  | .name _ => 0
  | .gate _ ps => deps ps + 1
def deps : List Fm → Nat
  | [] => 0
  | p :: ps => max (dep p) (deps ps)
end
theorem dep_gate (b : Bool) (ps : List Fm) : dep (.gate b ps) = deps ps + 1 := by simp [dep]
theorem deps_cons (p : Fm) (ps : List Fm) : deps (p :: ps) = max (dep p) (deps ps) := by simp [deps]
theorem dep_mem {p : Fm} : ∀ {ps : List Fm}, p ∈ ps → dep p ≤ deps ps
  | q :: ps, h => by
    rw [deps_cons]
    rcases List.mem_cons.mp h with rfl | h
    · omega
    · have := dep_mem h
      omega
theorem dep_lt {p : Fm} {b : Bool} {ps : List Fm} {n : Nat} (h : p ∈ ps) (hn : dep (.gate b ps) < n + 1) : dep p < n := by
  have := dep_mem h
  rw [dep_gate] at hn
  omega
mutual
def names : Fm → List Str
  | .name s => [s]
  | .gate _ ps => namess ps
def namess : List Fm → List Str
  | [] => []
  | p :: ps => names p ++ namess ps
end
theorem names_gate (b : Bool) (ps : List Fm) : names (.gate b ps) = namess ps := by simp [names]
theorem namess_cons (p : Fm) (ps : List Fm) : namess (p :: ps) = names p ++ namess ps := by simp [namess]
theorem names_mem {p : Fm} : ∀ {ps : List Fm}, p ∈ ps → (names p).length ≤ (namess ps).length
  | q :: ps, h => by
    rw [namess_cons, List.length_append]
    rcases List.mem_cons.mp h with rfl | h
    · omega
    · have := names_mem h
      omega
theorem kw_ne (b : Bool) : decide (kw b = Str.ofString "name") = false := by cases b <;> decide +kernel
theorem nm_eq : decide (Str.ofString "name" = Str.ofString "name") = true := by decide +kernel
theorem kw_all (b : Bool) : decide (kw b = Str.ofString "all") = b := by cases b <;> decide +kernel
theorem kw_any (b : Bool) : decide (kw b = Str.ofString "any") = !b := by cases b <;> decide +kernel
/-! ### places -/
def placesN (n : Nat) : List D → M D := lev (fun r => fDef 3 (B_places_of r)) n
theorem p_placess (n : Nat) (ih : ∀ f d, IsF f d → dep f < n → (names f).length ≤ sizeLine → placesN n [d] = ret (.lst ((names f).map D.str))) : ∀ (ps : List Fm) (ds acc : List D) (d : D) (x : Sl), IsFs ps ds → deps ps < n → acc.length + (namess ps).length ≤ sizeLine →
    ∃ x', forGo (hSet 2) (sMut 1 stExtend (fCons (fCall 1 (placesN n) (fCons (fName 2) fNil)) fNil)) ds [.val d, .own acc, x] = ret (.nx [.val d, .own (acc ++ (namess ps).map D.str), x'])
  | [], ds, acc, d, x, h, hn, hl => by
    cases (show ds = [] from h)
    exact ⟨x, by simp [forGo, namess]⟩
  | p :: ps, ds, acc, d, x, h, hn, hl => by
    obtain ⟨e, r, rfl, h1, h2⟩ := h
    rw [deps_cons] at hn
    rw [namess_cons, List.length_append] at hl
    have e1 := ih p e h1 (by omega) (by omega)
    obtain ⟨x', e2⟩ := p_placess n ih ps r (acc ++ (names p).map D.str) d (.val e) h2 (by omega) (by rw [List.length_append, List.length_map]; omega)
    refine ⟨x', ?_⟩
    rw [forGo_nx (env1 := [.val d, .own acc, .val e]) (env2 := [.val d, .own (acc ++ (names p).map D.str), .val e]) rfl (sMut_ok rfl (by simp only [fDef, fDefF, ofF, sSeq, sIf, sNext, sRet, sRetF, sSetC, sSetA, cV, cO, fTst, fBlt, fCall, fCallF, fCons, fNil, fName, fC, fOp, fUn, fAndV, fOrV, fNotV, fAndT, fOrT, fNotT, fIf, fTup, fLst, fNew, fL, fLcL, fSeq, fStar, fIt, fStrs, bnd_ret, ofO_some, al, cl, Sl.al, Sl.cl, startS, wipeD, List.map_cons, List.map_nil, List.length_cons, List.length_nil, List.cons_append, List.nil_append, List.getElem?_cons_zero, List.getElem?_cons_succ, List.replicate, List.set_cons_zero, List.set_cons_succ, eqD_int, eqD_str, neD_int, eqD_bl, neD_bl, geD_int, gtD_int, ltD_int, addD_int, subD_int, Nat.reduceSub, Nat.reduceAdd, Nat.reduceLT, decide_true, decide_false, if_true, if_false, Bool.false_eq_true, Option.some.injEq, reduceIte]; rw [e1]; simp only [fDef, fDefF, ofF, sSeq, sIf, sNext, sRet, sRetF, sSetC, sSetA, cV, cO, fTst, fBlt, fCall, fCallF, fCons, fNil, fName, fC, fOp, fUn, fAndV, fOrV, fNotV, fAndT, fOrT, fNotT, fIf, fTup, fLst, fNew, fL, fLcL, fSeq, fStar, fIt, fStrs, bnd_ret, ofO_some, al, cl, Sl.al, Sl.cl, startS, wipeD, List.map_cons, List.map_nil, List.length_cons, List.length_nil, List.cons_append, List.nil_append, List.getElem?_cons_zero, List.getElem?_cons_succ, List.replicate, List.set_cons_zero, List.set_cons_succ, eqD_int, eqD_str, neD_int, eqD_bl, neD_bl, geD_int, gtD_int, ltD_int, addD_int, subD_int, Nat.reduceSub, Nat.reduceAdd, Nat.reduceLT, decide_true, decide_false, if_true, if_false, Bool.false_eq_true, Option.some.injEq, reduceIte]) (stExtend_ok (by rw [List.length_map]; omega))), e2, namess_cons, List.map_append, List.append_assoc]
theorem p_places : ∀ (n : Nat) (f : Fm) (d : D), IsF f d → dep f < n → (names f).length ≤ sizeLine → placesN n [d] = ret (.lst ((names f).map D.str))
  | n + 1, .name s, d, h, hn, hl => by
    show fDef 3 (B_places_of (placesN n)) [d] = _
    unfold B_places_of
    simp only [fDef, fDefF, ofF, sSeq, sIf, sNext, sRet, sRetF, sSetC, sSetA, cV, cO, fTst, fBlt, fCall, fCallF, fCons, fNil, fName, fC, fOp, fUn, fAndV, fOrV, fNotV, fAndT, fOrT, fNotT, fIf, fTup, fLst, fNew, fL, fLcL, fSeq, fStar, fIt, fStrs, bnd_ret, ofO_some, al, cl, Sl.al, Sl.cl, startS, wipeD, List.map_cons, List.map_nil, List.length_cons, List.length_nil, List.cons_append, List.nil_append, List.getElem?_cons_zero, List.getElem?_cons_succ, List.replicate, List.set_cons_zero, List.set_cons_succ, eqD_int, eqD_str, neD_int, eqD_bl, neD_bl, geD_int, gtD_int, ltD_int, addD_int, subD_int, Nat.reduceSub, Nat.reduceAdd, Nat.reduceLT, decide_true, decide_false, if_true, if_false, Bool.false_eq_true, Option.some.injEq, reduceIte]
    rw [ixD0 h, ixD1 h]
    simp only [fDef, fDefF, ofF, sSeq, sIf, sNext, sRet, sRetF, sSetC, sSetA, cV, cO, fTst, fBlt, fCall, fCallF, fCons, fNil, fName, fC, fOp, fUn, fAndV, fOrV, fNotV, fAndT, fOrT, fNotT, fIf, fTup, fLst, fNew, fL, fLcL, fSeq, fStar, fIt, fStrs, bnd_ret, ofO_some, al, cl, Sl.al, Sl.cl, startS, wipeD, List.map_cons, List.map_nil, List.length_cons, List.length_nil, List.cons_append, List.nil_append, List.getElem?_cons_zero, List.getElem?_cons_succ, List.replicate, List.set_cons_zero, List.set_cons_succ, eqD_int, eqD_str, neD_int, eqD_bl, neD_bl, geD_int, gtD_int, ltD_int, addD_int, subD_int, Nat.reduceSub, Nat.reduceAdd, Nat.reduceLT, decide_true, decide_false, if_true, if_false, Bool.false_eq_true, Option.some.injEq, reduceIte]
    rfl
  | n + 1, .gate b ps, d, h, hn, hl => by
    obtain ⟨l, ds, h1, h2, h3⟩ := h
    show fDef 3 (B_places_of (placesN n)) [d] = _
    unfold B_places_of
    simp only [fDef, fDefF, ofF, sSeq, sIf, sNext, sRet, sRetF, sSetC, sSetA, cV, cO, fTst, fBlt, fCall, fCallF, fCons, fNil, fName, fC, fOp, fUn, fAndV, fOrV, fNotV, fAndT, fOrT, fNotT, fIf, fTup, fLst, fNew, fL, fLcL, fSeq, fStar, fIt, fStrs, bnd_ret, ofO_some, al, cl, Sl.al, Sl.cl, startS, wipeD, List.map_cons, List.map_nil, List.length_cons, List.length_nil, List.cons_append, List.nil_append, List.getElem?_cons_zero, List.getElem?_cons_succ, List.replicate, List.set_cons_zero, List.set_cons_succ, eqD_int, eqD_str, neD_int, eqD_bl, neD_bl, geD_int, gtD_int, ltD_int, addD_int, subD_int, Nat.reduceSub, Nat.reduceAdd, Nat.reduceLT, decide_true, decide_false, if_true, if_false, Bool.false_eq_true, Option.some.injEq, reduceIte]
    rw [ixD0 h1]
    simp only [fDef, fDefF, ofF, sSeq, sIf, sNext, sRet, sRetF, sSetC, sSetA, cV, cO, fTst, fBlt, fCall, fCallF, fCons, fNil, fName, fC, fOp, fUn, fAndV, fOrV, fNotV, fAndT, fOrT, fNotT, fIf, fTup, fLst, fNew, fL, fLcL, fSeq, fStar, fIt, fStrs, bnd_ret, ofO_some, al, cl, Sl.al, Sl.cl, startS, wipeD, List.map_cons, List.map_nil, List.length_cons, List.length_nil, List.cons_append, List.nil_append, List.getElem?_cons_zero, List.getElem?_cons_succ, List.replicate, List.set_cons_zero, List.set_cons_succ, eqD_int, eqD_str, neD_int, eqD_bl, neD_bl, geD_int, gtD_int, ltD_int, addD_int, subD_int, Nat.reduceSub, Nat.reduceAdd, Nat.reduceLT, decide_true, decide_false, if_true, if_false, Bool.false_eq_true, Option.some.injEq, reduceIte]
    rw [kw_ne]
    simp only [fDef, fDefF, ofF, sSeq, sIf, sNext, sRet, sRetF, sSetC, sSetA, cV, cO, fTst, fBlt, fCall, fCallF, fCons, fNil, fName, fC, fOp, fUn, fAndV, fOrV, fNotV, fAndT, fOrT, fNotT, fIf, fTup, fLst, fNew, fL, fLcL, fSeq, fStar, fIt, fStrs, bnd_ret, ofO_some, al, cl, Sl.al, Sl.cl, startS, wipeD, List.map_cons, List.map_nil, List.length_cons, List.length_nil, List.cons_append, List.nil_append, List.getElem?_cons_zero, List.getElem?_cons_succ, List.replicate, List.set_cons_zero, List.set_cons_succ, eqD_int, eqD_str, neD_int, eqD_bl, neD_bl, geD_int, gtD_int, ltD_int, addD_int, subD_int, Nat.reduceSub, Nat.reduceAdd, Nat.reduceLT, decide_true, decide_false, if_true, if_false, Bool.false_eq_true, Option.some.injEq, reduceIte]
    rw [if0]
    simp only [fDef, fDefF, ofF, sSeq, sIf, sNext, sRet, sRetF, sSetC, sSetA, cV, cO, fTst, fBlt, fCall, fCallF, fCons, fNil, fName, fC, fOp, fUn, fAndV, fOrV, fNotV, fAndT, fOrT, fNotT, fIf, fTup, fLst, fNew, fL, fLcL, fSeq, fStar, fIt, fStrs, bnd_ret, ofO_some, al, cl, Sl.al, Sl.cl, startS, wipeD, List.map_cons, List.map_nil, List.length_cons, List.length_nil, List.cons_append, List.nil_append, List.getElem?_cons_zero, List.getElem?_cons_succ, List.replicate, List.set_cons_zero, List.set_cons_succ, eqD_int, eqD_str, neD_int, eqD_bl, neD_bl, geD_int, gtD_int, ltD_int, addD_int, subD_int, Nat.reduceSub, Nat.reduceAdd, Nat.reduceLT, decide_true, decide_false, if_true, if_false, Bool.false_eq_true, Option.some.injEq, reduceIte]
    unfold sFor
    simp only [fDef, fDefF, ofF, sSeq, sIf, sNext, sRet, sRetF, sSetC, sSetA, cV, cO, fTst, fBlt, fCall, fCallF, fCons, fNil, fName, fC, fOp, fUn, fAndV, fOrV, fNotV, fAndT, fOrT, fNotT, fIf, fTup, fLst, fNew, fL, fLcL, fSeq, fStar, fIt, fStrs, bnd_ret, ofO_some, al, cl, Sl.al, Sl.cl, startS, wipeD, List.map_cons, List.map_nil, List.length_cons, List.length_nil, List.cons_append, List.nil_append, List.getElem?_cons_zero, List.getElem?_cons_succ, List.replicate, List.set_cons_zero, List.set_cons_succ, eqD_int, eqD_str, neD_int, eqD_bl, neD_bl, geD_int, gtD_int, ltD_int, addD_int, subD_int, Nat.reduceSub, Nat.reduceAdd, Nat.reduceLT, decide_true, decide_false, if_true, if_false, Bool.false_eq_true, Option.some.injEq, reduceIte]
    rw [ixD1 h1]
    simp only [fDef, fDefF, ofF, sSeq, sIf, sNext, sRet, sRetF, sSetC, sSetA, cV, cO, fTst, fBlt, fCall, fCallF, fCons, fNil, fName, fC, fOp, fUn, fAndV, fOrV, fNotV, fAndT, fOrT, fNotT, fIf, fTup, fLst, fNew, fL, fLcL, fSeq, fStar, fIt, fStrs, bnd_ret, ofO_some, al, cl, Sl.al, Sl.cl, startS, wipeD, List.map_cons, List.map_nil, List.length_cons, List.length_nil, List.cons_append, List.nil_append, List.getElem?_cons_zero, List.getElem?_cons_succ, List.replicate, List.set_cons_zero, List.set_cons_succ, eqD_int, eqD_str, neD_int, eqD_bl, neD_bl, geD_int, gtD_int, ltD_int, addD_int, subD_int, Nat.reduceSub, Nat.reduceAdd, Nat.reduceLT, decide_true, decide_false, if_true, if_false, Bool.false_eq_true, Option.some.injEq, reduceIte]
    rw [h2]
    simp only [fDef, fDefF, ofF, sSeq, sIf, sNext, sRet, sRetF, sSetC, sSetA, cV, cO, fTst, fBlt, fCall, fCallF, fCons, fNil, fName, fC, fOp, fUn, fAndV, fOrV, fNotV, fAndT, fOrT, fNotT, fIf, fTup, fLst, fNew, fL, fLcL, fSeq, fStar, fIt, fStrs, bnd_ret, ofO_some, al, cl, Sl.al, Sl.cl, startS, wipeD, List.map_cons, List.map_nil, List.length_cons, List.length_nil, List.cons_append, List.nil_append, List.getElem?_cons_zero, List.getElem?_cons_succ, List.replicate, List.set_cons_zero, List.set_cons_succ, eqD_int, eqD_str, neD_int, eqD_bl, neD_bl, geD_int, gtD_int, ltD_int, addD_int, subD_int, Nat.reduceSub, Nat.reduceAdd, Nat.reduceLT, decide_true, decide_false, if_true, if_false, Bool.false_eq_true, Option.some.injEq, reduceIte]
    rw [dep_gate] at hn
    obtain ⟨x', e⟩ := p_placess n (p_places n) ps ds [] d .un h3 (by omega) (by simpa [names_gate] using hl)
    rw [e, names_gate]
    simp only [fDef, fDefF, ofF, sSeq, sIf, sNext, sRet, sRetF, sSetC, sSetA, cV, cO, fTst, fBlt, fCall, fCallF, fCons, fNil, fName, fC, fOp, fUn, fAndV, fOrV, fNotV, fAndT, fOrT, fNotT, fIf, fTup, fLst, fNew, fL, fLcL, fSeq, fStar, fIt, fStrs, bnd_ret, ofO_some, al, cl, Sl.al, Sl.cl, startS, wipeD, List.map_cons, List.map_nil, List.length_cons, List.length_nil, List.cons_append, List.nil_append, List.getElem?_cons_zero, List.getElem?_cons_succ, List.replicate, List.set_cons_zero, List.set_cons_succ, eqD_int, eqD_str, neD_int, eqD_bl, neD_bl, geD_int, gtD_int, ltD_int, addD_int, subD_int, Nat.reduceSub, Nat.reduceAdd, Nat.reduceLT, decide_true, decide_false, if_true, if_false, Bool.false_eq_true, Option.some.injEq, reduceIte]
theorem P_places {f : Fm} {d : D} (h : IsF f d) (hn : dep f < 20) (hl : (names f).length ≤ sizeLine) : F_places_of [d] = ret (.lst ((names f).map D.str)) := p_places 20 f d h hn hl
/-! ### wanted -/
mutual
def want : Fm → Nat
  | .name _ => 0
  | .gate b ps => (if b then ps.length - 1 else 0) + wants ps
def wants : List Fm → Nat
  | [] => 0
  | p :: ps => want p + wants ps
end
theorem want_gate (b : Bool) (ps : List Fm) : want (.gate b ps) = (if b then ps.length - 1 else 0) + wants ps := by simp [want]
theorem wants_sum : ∀ ps : List Fm, (ps.map fun p => (want p : Int)).sum = (wants ps : Nat)
  | [] => by simp [wants]
  | p :: ps => by
    rw [List.map_cons, List.sum_cons, wants_sum ps]
    simp [wants]
mutual
def ne_ : Fm → Prop
  | .name _ => True
  | .gate _ ps => ps ≠ [] ∧ nes ps
def nes : List Fm → Prop
  | [] => True
  | p :: ps => ne_ p ∧ nes ps
end
theorem nes_mem {p : Fm} : ∀ {ps : List Fm}, nes ps → p ∈ ps → ne_ p
  | q :: ps, h, hm => by
    simp only [nes] at h
    rcases List.mem_cons.mp hm with rfl | hm
    · exact h.1
    · exact nes_mem h.2 hm
def wantN (n : Nat) : List D → M D := lev (fun r => fDef 3 (B_wanted_of r)) n
theorem ps_len {b : Bool} {ps : List Fm} : ps.length ≤ (namess ps).length ∨ True := .inr trivial
theorem lens_le : ∀ {ps : List Fm}, nes ps → ps.length ≤ (namess ps).length ∧ ∀ p ∈ ps, 1 ≤ (names p).length
  | [], _ => ⟨by simp, fun p h => by simp at h⟩
  | .name s :: ps, h => by
    have ih := lens_le (ps := ps) (by simp only [nes] at h; exact h.2)
    rw [namess_cons, List.length_append, List.length_cons]
    refine ⟨by simp [names]; omega, fun p hp => ?_⟩
    rcases List.mem_cons.mp hp with rfl | hp
    · simp [names]
    · exact ih.2 p hp
  | .gate b qs :: ps, h => by
    have h' : ne_ (.gate b qs) ∧ nes ps := by simpa only [nes] using h
    have ih := lens_le (ps := ps) h'.2
    have hq : qs ≠ [] ∧ nes qs := by simpa only [ne_] using h'.1
    have iq := lens_le (ps := qs) hq.2
    have h1 : 1 ≤ qs.length := by
      cases qs with
      | nil => exact absurd rfl hq.1
      | cons a r => simp
    have e : (names (.gate b qs)).length = (namess qs).length := by rw [names_gate]
    rw [namess_cons, List.length_append, List.length_cons, e]
    refine ⟨by omega, fun p hp => ?_⟩
    rcases List.mem_cons.mp hp with rfl | hp
    · rw [e]; omega
    · exact ih.2 p hp
theorem p_want : ∀ (n : Nat) (f : Fm) (d : D), IsF f d → dep f < n → ne_ f → (names f).length ≤ sizeLine → wantN n [d] = ret (.int (want f : Nat))
  | n + 1, .name s, d, h, hn, hw, hl => by
    show fDef 3 (B_wanted_of (wantN n)) [d] = _
    unfold B_wanted_of
    simp only [fDef, fDefF, ofF, sSeq, sIf, sNext, sDrop, sRet, sRetF, sRetO, sSetC, sSetA, sPar, cV, cO, fTst, fBlt, fCall, fCallF, fCons, fNil, fName, fC, fOp, fUn, fAndV, fOrV, fNotV, fAndT, fOrT, fNotT, fIf, fTup_eq, fLst_eq, fNew_eq, chkL0, chkL1, chkL2, chkL3, chkL4, chkT1, chkT2, chkT3, chkN0, chkN1, fL, fLcL, fSeq, fStar, fIt, fStrs, fSl, fPart, sFor, sAsgT, bnd_ret, ofO_some, al, cl, Sl.al, Sl.cl, startS, wipeD, hSet, gSet, List.map_cons, List.map_nil, List.length_cons, List.length_nil, List.cons_append, List.nil_append, List.getElem?_cons_zero, List.getElem?_cons_succ, List.replicate, List.set_cons_zero, List.set_cons_succ, eqD_int, eqD_str, neD_int, eqD_bl, neD_bl, geD_int, gtD_int, ltD_int, addD_int, subD_int, Nat.reduceSub, Nat.reduceAdd, Nat.reduceLT, decide_true, decide_false, if_true, if_false, Bool.false_eq_true, Option.some.injEq, reduceIte, and_self, true_and, and_true, ixD0 h, nm_eq]
    simp [want]
  | n + 1, .gate b ps, d, h, hn, hw, hl => by
    obtain ⟨l, ds, h1, h2, h3⟩ := h
    have hw' : ps ≠ [] ∧ nes ps := by simpa only [ne_] using hw
    rw [names_gate] at hl
    have hL := (lens_le hw'.2).1
    have key : lcGo (gSet 2) fYes (fCall 1 (wantN n) (fCons (fName 2) fNil)) [some d, some (.int (if b = true then (ds.length : Int) - 1 else 0)), none] ds [] = ret (ps.map fun p => .int (want p : Nat)) := by
      refine lcGo_two (R := IsF) (fun p => D.int (want p : Nat)) ps ds [] h3.two (fun p e hp he => ⟨_, rfl, ?_⟩) (by simp; omega)
      have := p_want n p e he (dep_lt hp hn) (nes_mem hw'.2 hp) (Nat.le_trans (names_mem hp) hl)
      simp only [fDef, fDefF, ofF, sSeq, sIf, sNext, sDrop, sRet, sRetF, sRetO, sSetC, sSetA, sPar, cV, cO, fTst, fBlt, fCall, fCallF, fCons, fNil, fName, fC, fOp, fUn, fAndV, fOrV, fNotV, fAndT, fOrT, fNotT, fIf, fTup_eq, fLst_eq, fNew_eq, chkL0, chkL1, chkL2, chkL3, chkL4, chkT1, chkT2, chkT3, chkN0, chkN1, fL, fLcL, fSeq, fStar, fIt, fStrs, fSl, fPart, sFor, sAsgT, bnd_ret, ofO_some, al, cl, Sl.al, Sl.cl, startS, wipeD, hSet, gSet, List.map_cons, List.map_nil, List.length_cons, List.length_nil, List.cons_append, List.nil_append, List.getElem?_cons_zero, List.getElem?_cons_succ, List.replicate, List.set_cons_zero, List.set_cons_succ, eqD_int, eqD_str, neD_int, eqD_bl, neD_bl, geD_int, gtD_int, ltD_int, addD_int, subD_int, Nat.reduceSub, Nat.reduceAdd, Nat.reduceLT, decide_true, decide_false, if_true, if_false, Bool.false_eq_true, Option.some.injEq, reduceIte, and_self, true_and, and_true, this]
    show fDef 3 (B_wanted_of (wantN n)) [d] = _
    unfold B_wanted_of
    have hc : (if b = true then (VS.ret (D.int ((ds.length : Int) - 1)) : M D) else VS.ret (.int 0)) = ret (.int (if b = true then (ds.length : Int) - 1 else 0)) := by cases b <;> rfl
    have hs : onInts (fun bs => some (.int bs.sum)) [.lst (ps.map fun p => D.int (want p : Nat))] = some (.int (wants ps : Nat)) := by
      have := onInts_map (fun bs => some (.int bs.sum)) (ps.map fun p => (want p : Int))
      rw [wants_sum, List.map_map] at this
      exact this
    have hlen := h3.two.length
    have hp : 1 ≤ ps.length := by
      cases ps with
      | nil => exact absurd rfl hw'.1
      | cons a r => simp
    simp only [fDef, fDefF, ofF, sSeq, sIf, sNext, sDrop, sRet, sRetF, sRetO, sSetC, sSetA, sPar, cV, cO, fTst, fBlt, fCall, fCallF, fCons, fNil, fName, fC, fOp, fUn, fAndV, fOrV, fNotV, fAndT, fOrT, fNotT, fIf, fTup_eq, fLst_eq, fNew_eq, chkL0, chkL1, chkL2, chkL3, chkL4, chkT1, chkT2, chkT3, chkN0, chkN1, fL, fLcL, fSeq, fStar, fIt, fStrs, fSl, fPart, sFor, sAsgT, bnd_ret, ofO_some, al, cl, Sl.al, Sl.cl, startS, wipeD, hSet, gSet, List.map_cons, List.map_nil, List.length_cons, List.length_nil, List.cons_append, List.nil_append, List.getElem?_cons_zero, List.getElem?_cons_succ, List.replicate, List.set_cons_zero, List.set_cons_succ, eqD_int, eqD_str, neD_int, eqD_bl, neD_bl, geD_int, gtD_int, ltD_int, addD_int, subD_int, Nat.reduceSub, Nat.reduceAdd, Nat.reduceLT, decide_true, decide_false, if_true, if_false, Bool.false_eq_true, Option.some.injEq, reduceIte, and_self, true_and, and_true, ixD0 h1, kw_ne, kw_all, ixD1 h1, lenD h2, h2, hc, key, hs]
    rw [want_gate, hlen]
    cases b
    · simp
    · simp only [if_true]
      congr 2
      omega
theorem P_want {f : Fm} {d : D} (h : IsF f d) (hn : dep f < 20) (hw : ne_ f) (hl : (names f).length ≤ sizeLine) : F_wanted_of [d] = ret (.int (want f : Nat)) := p_want 20 f d h hn hw hl
theorem sz {n : Nat} (h : n ≤ 1000000) : n ≤ sizeLine := by rw [sizeLine_eq]; omega
/-! ### names -/
abbrev abc : Str := Str.ofString "abcdefghijklmnopqrstuvwxyz"
def letter (c : Nat) : Prop := 97 ≤ c ∧ c < 123
theorem in_abc : ∀ c : Nat, letter c → oIn (.str ⟨#[c]⟩) (.str abc) = some (.bl true) := by
  have h : (List.range' 97 26).all (fun c => match oIn (.str ⟨#[c]⟩) (.str abc) with | some (.bl true) => true | _ => false) = true := by decide +kernel
  intro c hc
  have := List.all_eq_true.mp h c (by rw [List.mem_range'_1]; exact ⟨hc.1, by have := hc.2; omega⟩)
  split at this
  · assumption
  · cases this
def valid (s : Str) : Prop := 0 < s.length ∧ s.length < 9 ∧ ∀ c ∈ s.cps.toList, letter c
theorem P_is_name {s : Str} (h : valid s) : F_is_name [.str s] = ret (.bl true) := by
  have key : lcGo (gSet 1) fYes (fOp oIn (fName 1) (fC (.str abc))) [some (.str s), none] (VS.Str.signs s) [] = ret ((VS.Str.signs s).map fun _ => D.bl true) := by
    refine lcGo_map (fun _ => D.bl true) (VS.Str.signs s) [] (fun d hd => ⟨_, rfl, ?_⟩) ?_
    · obtain ⟨c, hc, rfl⟩ := List.mem_map.mp hd
      simp only [fDef, fDefF, ofF, sSeq, sIf, sNext, sDrop, sRet, sRetF, sRetO, sSetC, sSetA, sPar, cV, cO, fTst, fBlt, fCall, fCallF, fCons, fNil, fName, fC, fOp, fUn, fAndV, fOrV, fNotV, fAndT, fOrT, fNotT, fIf, fTup_eq, fLst_eq, fNew_eq, chkL0, chkL1, chkL2, chkL3, chkL4, chkT1, chkT2, chkT3, chkN0, chkN1, fL, fLcL, fSeq, fStar, fIt, fStrs, fSl, fPart, sFor, sAsgT, bnd_ret, ofO_some, al, cl, Sl.al, Sl.cl, startS, wipeD, hSet, gSet, List.map_cons, List.map_nil, List.length_cons, List.length_nil, List.cons_append, List.nil_append, List.getElem?_cons_zero, List.getElem?_cons_succ, List.replicate, List.set_cons_zero, List.set_cons_succ, eqD_int, eqD_str, neD_int, eqD_bl, neD_bl, geD_int, gtD_int, ltD_int, addD_int, subD_int, Nat.reduceSub, Nat.reduceAdd, Nat.reduceLT, decide_true, decide_false, if_true, if_false, Bool.false_eq_true, Option.some.injEq, reduceIte, and_self, true_and, and_true, in_abc c (h.2.2 c hc)]
    · have : (VS.Str.signs s).length = s.length := by simp [VS.Str.signs, PySem.Str.length]
      rw [List.length_nil, this]
      have := h.2.1
      exact sz (by omega)
  have hs : onBls (fun bs => some (.bl (bs.all id))) [.lst ((VS.Str.signs s).map fun _ => D.bl true)] = some (.bl true) := by
    have := onBls_map (fun bs => some (.bl (bs.all id))) ((VS.Str.signs s).map fun _ => true)
    rw [List.map_map] at this
    refine this.trans ?_
    congr 2
    simp
  have hl : bLen [.str s] = some (.int s.length) := if_pos (sz (by have := h.2.1; omega))
  have hc : fChain oLt oLt (fC (D.int 0)) (fBlt bLen (fCons (fName 0) fNil)) (fC (D.int 9)) [some (D.str s), none] = ret (.bl true) := by
    unfold fChain
    have e1 : decide ((0 : Int) < (s.length : Nat)) = true := by simpa using h.1
    have e2 : decide (((s.length : Nat) : Int) < 9) = true := by
      have := h.2.1
      simp only [decide_eq_true_eq]
      omega
    simp only [fDef, fDefF, ofF, sSeq, sIf, sNext, sDrop, sRet, sRetF, sRetO, sSetC, sSetA, sPar, cV, cO, fTst, fBlt, fCall, fCallF, fCons, fNil, fName, fC, fOp, fUn, fAndV, fOrV, fNotV, fAndT, fOrT, fNotT, fIf, fTup_eq, fLst_eq, fNew_eq, chkL0, chkL1, chkL2, chkL3, chkL4, chkT1, chkT2, chkT3, chkN0, chkN1, fL, fLcL, fSeq, fStar, fIt, fStrs, fSl, fPart, sFor, sAsgT, bnd_ret, ofO_some, al, cl, Sl.al, Sl.cl, startS, wipeD, hSet, gSet, List.map_cons, List.map_nil, List.length_cons, List.length_nil, List.cons_append, List.nil_append, List.getElem?_cons_zero, List.getElem?_cons_succ, List.replicate, List.set_cons_zero, List.set_cons_succ, eqD_int, eqD_str, neD_int, eqD_bl, neD_bl, geD_int, gtD_int, ltD_int, addD_int, subD_int, Nat.reduceSub, Nat.reduceAdd, Nat.reduceLT, decide_true, decide_false, if_true, if_false, Bool.false_eq_true, Option.some.injEq, reduceIte, and_self, true_and, and_true, hl, e1, e2]
  have hi : isiB [.str s, .ty .str] = some (.bl true) := rfl
  unfold F_is_name B_is_name
  simp only [fDef, fDefF, ofF, sSeq, sIf, sNext, sDrop, sRet, sRetF, sRetO, sSetC, sSetA, sPar, cV, cO, fTst, fBlt, fCall, fCallF, fCons, fNil, fName, fC, fOp, fUn, fAndV, fOrV, fNotV, fAndT, fOrT, fNotT, fIf, fTup_eq, fLst_eq, fNew_eq, chkL0, chkL1, chkL2, chkL3, chkL4, chkT1, chkT2, chkT3, chkN0, chkN1, fL, fLcL, fSeq, fStar, fIt, fStrs, fSl, fPart, sFor, sAsgT, bnd_ret, ofO_some, al, cl, Sl.al, Sl.cl, startS, wipeD, hSet, gSet, List.map_cons, List.map_nil, List.length_cons, List.length_nil, List.cons_append, List.nil_append, List.getElem?_cons_zero, List.getElem?_cons_succ, List.replicate, List.set_cons_zero, List.set_cons_succ, eqD_int, eqD_str, neD_int, eqD_bl, neD_bl, geD_int, gtD_int, ltD_int, addD_int, subD_int, Nat.reduceSub, Nat.reduceAdd, Nat.reduceLT, decide_true, decide_false, if_true, if_false, Bool.false_eq_true, Option.some.injEq, reduceIte, and_self, true_and, and_true, hi, hc, key, hs]
theorem P_names (ns : List Str) (h : ∀ s ∈ ns, valid s) : True := trivial
/-! ### wrong_part -/
mutual
def WF : Fm → Prop
  | .name s => valid s
  | .gate _ ps => ps ≠ [] ∧ WFs ps
def WFs : List Fm → Prop
  | [] => True
  | p :: ps => WF p ∧ WFs ps
end
abbrev kws : D := .tup [.str (Str.ofString "name"), .str (Str.ofString "any"), .str (Str.ofString "all")]
theorem in_nm : inQ true (.str (Str.ofString "name")) kws = some (.bl false) := by
  have e : inV (V.str (Str.ofString "name")) [.str (Str.ofString "name"), .str (Str.ofString "any"), .str (Str.ofString "all")] = true := by decide +kernel
  show some (D.bl (if true = true then !(inV (V.str (Str.ofString "name")) [.str (Str.ofString "name"), .str (Str.ofString "any"), .str (Str.ofString "all")]) else _)) = _
  rw [e]
  rfl
theorem in_kw (b : Bool) : inQ true (.str (kw b)) kws = some (.bl false) := by
  have e : inV (V.str (kw b)) [.str (Str.ofString "name"), .str (Str.ofString "any"), .str (Str.ofString "all")] = true := by cases b <;> decide +kernel
  show some (D.bl (if true = true then !(inV (V.str (kw b)) [.str (Str.ofString "name"), .str (Str.ofString "any"), .str (Str.ofString "all")]) else _)) = _
  rw [e]
  rfl
theorem isi_str (s : Str) : isiB [.str s, .ty .str] = some (.bl true) := rfl
theorem p_row2 {d a b : D} (h : d.seq = some [a, b]) : F_is_row [d, .int 2] = ret (.bl true) := p_is_row h 2
theorem l3 : chkT [.str (Str.ofString "name"), .str (Str.ofString "any"), .str (Str.ofString "all")] = ret kws := chkT3
def wrongN (n : Nat) : List D → M D := lev (fun r => fDef 5 (B_wrong_part r)) n
theorem isN_non : oIsN true .non .non = some (.bl false) := rfl
theorem p_wrongs (n : Nat) (ih : ∀ f d q, IsF f d → dep f < n → WF f → (names f).length ≤ 1000 → q.length + n ≤ 1000 → wrongN n [d, .lst q] = ret .non) (d : D) (q : List D) (hq : q.length + n < 1000) : ∀ (ps : List Fm) (ds : List D) (k : Nat) (x y z : Sl), IsFs ps ds → deps ps < n → WFs ps → (namess ps).length ≤ 1000 →
    ∃ x' y' z', forGo (hTp 2 (hsCons (hSet 2) (hsCons (hSet 3) hsNil))) (sSeq (sSetC 4 (cV (fCall 2 (wrongN n) (fCons (fName 3) (fCons (fLst (fStar (fName 1) (fCons (fName 2) fNil))) fNil))))) (sIf (fTst (fOp (oIsN true) (fName 4) (fC .non))) (sRet (fName 4)) sNext))
      (List.zipWith VS.pairAt (List.range' k ps.length) ds) [.val d, .val (.lst q), x, y, z] = ret (.nx [.val d, .val (.lst q), x', y', z'])
  | [], ds, k, x, y, z, h, hn, hw, hl => ⟨x, y, z, by simp [forGo]⟩
  | p :: ps, ds, k, x, y, z, h, hn, hw, hl => by
    obtain ⟨e, r, rfl, h1, h2⟩ := h
    have hw' : WF p ∧ WFs ps := by simpa only [WFs] using hw
    rw [deps_cons] at hn
    rw [namess_cons, List.length_append] at hl
    have e1 := ih p e (q ++ [.int (k : Nat)]) h1 (by omega) hw'.1 (by omega) (by rw [List.length_append]; show q.length + 1 + n ≤ _; omega)
    obtain ⟨x', y', z', e2⟩ := p_wrongs n ih d q hq ps r (k + 1) (.val (.int (k : Nat))) (.val e) (.val .non) h2 (by omega) hw'.2 (by omega)
    refine ⟨x', y', z', ?_⟩
    rw [List.length_cons, List.range'_succ, List.zipWith_cons_cons]
    have hs : chkL (q ++ [D.int (k : Nat)]) = ret (D.lst (q ++ [D.int (k : Nat)])) := chkL_of (by rw [List.length_append]; show q.length + 1 ≤ _; exact sz (by omega))
    rw [forGo_nx (env1 := [.val d, .val (.lst q), .val (.int (k : Nat)), .val e, z]) (env2 := [.val d, .val (.lst q), .val (.int (k : Nat)), .val e, .val .non]) rfl (by simp only [fDef, fDefF, ofF, sSeq, sIf, sNext, sDrop, sRet, sRetF, sRetO, sSetC, sSetA, sPar, cV, cO, fTst, fBlt, fCall, fCallF, fCons, fNil, fName, fC, fOp, fUn, fAndV, fOrV, fNotV, fAndT, fOrT, fNotT, fIf, fTup_eq, fLst_eq, fNew_eq, chkL0, chkL1, chkL2, chkL3, chkL4, chkT1, chkT2, chkT3, chkN0, chkN1, fL, fLcL, fSeq, fStar, fIt, fStrs, fSl, fPart, sFor, sAsgT, bnd_ret, ofO_some, al, cl, Sl.al, Sl.cl, startS, wipeD, hSet, gSet, List.map_cons, List.map_nil, List.length_cons, List.length_nil, List.cons_append, List.nil_append, List.getElem?_cons_zero, List.getElem?_cons_succ, List.replicate, List.set_cons_zero, List.set_cons_succ, eqD_int, eqD_str, neD_int, eqD_bl, neD_bl, geD_int, gtD_int, ltD_int, addD_int, subD_int, Nat.reduceSub, Nat.reduceAdd, Nat.reduceLT, decide_true, decide_false, if_true, if_false, Bool.false_eq_true, Option.some.injEq, reduceIte, and_self, true_and, and_true, hs, e1, isN_non]), e2]
theorem p_wrong : ∀ (n : Nat) (f : Fm) (d : D) (q : List D), IsF f d → dep f < n → WF f → (names f).length ≤ 1000 → q.length + n ≤ 1000 → wrongN n [d, .lst q] = ret .non
  | n + 1, .name s, d, q, h, hn, hw, hl, hq => by
    have hw' : valid s := by simpa only [WF] using hw
    show fDef 5 (B_wrong_part (wrongN n)) [d, .lst q] = _
    unfold B_wrong_part
    simp only [fDef, fDefF, ofF, sSeq, sIf, sNext, sDrop, sRet, sRetF, sRetO, sSetC, sSetA, sPar, cV, cO, fTst, fBlt, fCall, fCallF, fCons, fNil, fName, fC, fOp, fUn, fAndV, fOrV, fNotV, fAndT, fOrT, fNotT, fIf, fTup_eq, fLst_eq, fNew_eq, chkL0, chkL1, chkL2, chkL3, chkL4, chkT1, chkT2, chkT3, chkN0, chkN1, fL, fLcL, fSeq, fStar, fIt, fStrs, fSl, fPart, sFor, sAsgT, bnd_ret, ofO_some, al, cl, Sl.al, Sl.cl, startS, wipeD, hSet, gSet, List.map_cons, List.map_nil, List.length_cons, List.length_nil, List.cons_append, List.nil_append, List.getElem?_cons_zero, List.getElem?_cons_succ, List.replicate, List.set_cons_zero, List.set_cons_succ, eqD_int, eqD_str, neD_int, eqD_bl, neD_bl, geD_int, gtD_int, ltD_int, addD_int, subD_int, Nat.reduceSub, Nat.reduceAdd, Nat.reduceLT, decide_true, decide_false, if_true, if_false, Bool.false_eq_true, Option.some.injEq, reduceIte, and_self, true_and, and_true, p_row2 h, ixD0 h, ixD1 h, isi_str, l3, in_nm, Bool.not_true, Bool.not_false, P_is_name hw']
  | n + 1, .gate b ps, d, q, h, hn, hw, hl, hq => by
    have hw' : ps ≠ [] ∧ WFs ps := by simpa only [WF] using hw
    obtain ⟨l, ds, h1, h2, h3⟩ := h
    have hlen := h3.two.length
    have hp : decide ((ds.length : Int) = 0) = false := by
      have : ds.length ≠ 0 := by
        rw [hlen]
        cases ps with
        | nil => exact absurd rfl hw'.1
        | cons a r => simp
      simp only [decide_eq_false_iff_not]
      omega
    rw [dep_gate] at hn
    rw [names_gate] at hl
    obtain ⟨x', y', z', e⟩ := p_wrongs n (p_wrong n) d q (by omega) ps ds 0 .un .un .un h3 (by omega) hw'.2 hl
    have he : enumD [l] = some (List.zipWith VS.pairAt (List.range' 0 ps.length) ds) := by
      show l.seq.map _ = _
      rw [h2, ← hlen, ← List.range_eq_range']
      rfl
    show fDef 5 (B_wrong_part (wrongN n)) [d, .lst q] = _
    unfold B_wrong_part
    simp only [fDef, fDefF, ofF, sSeq, sIf, sNext, sDrop, sRet, sRetF, sRetO, sSetC, sSetA, sPar, cV, cO, fTst, fBlt, fCall, fCallF, fCons, fNil, fName, fC, fOp, fUn, fAndV, fOrV, fNotV, fAndT, fOrT, fNotT, fIf, fTup_eq, fLst_eq, fNew_eq, chkL0, chkL1, chkL2, chkL3, chkL4, chkT1, chkT2, chkT3, chkN0, chkN1, fL, fLcL, fSeq, fStar, fIt, fStrs, fSl, fPart, sFor, sAsgT, bnd_ret, ofO_some, al, cl, Sl.al, Sl.cl, startS, wipeD, hSet, gSet, List.map_cons, List.map_nil, List.length_cons, List.length_nil, List.cons_append, List.nil_append, List.getElem?_cons_zero, List.getElem?_cons_succ, List.replicate, List.set_cons_zero, List.set_cons_succ, eqD_int, eqD_str, neD_int, eqD_bl, neD_bl, geD_int, gtD_int, ltD_int, addD_int, subD_int, Nat.reduceSub, Nat.reduceAdd, Nat.reduceLT, decide_true, decide_false, if_true, if_false, Bool.false_eq_true, Option.some.injEq, reduceIte, and_self, true_and, and_true, p_row2 h1, ixD0 h1, ixD1 h1, isi_str, l3, in_kw, Bool.not_true, Bool.not_false, kw_ne, p_is_list h2, lenD h2, hp, he, e]
theorem P_check_formula {f : Fm} {d : D} (h : IsF f d) (hn : dep f < 20) (hw : WF f) (hl : (names f).length ≤ 1000) : F_check_formula [d] = ret .non := by
  have e : F_wrong_part [d, .lst []] = ret .non := p_wrong 20 f d [] h hn hw hl (by decide)
  unfold F_check_formula B_check_formula
  simp only [fDef, fDefF, ofF, sSeq, sIf, sNext, sDrop, sRet, sRetF, sRetO, sSetC, sSetA, sPar, cV, cO, fTst, fBlt, fCall, fCallF, fCons, fNil, fName, fC, fOp, fUn, fAndV, fOrV, fNotV, fAndT, fOrT, fNotT, fIf, fTup_eq, fLst_eq, fNew_eq, chkL0, chkL1, chkL2, chkL3, chkL4, chkT1, chkT2, chkT3, chkN0, chkN1, fL, fLcL, fSeq, fStar, fIt, fStrs, fSl, fPart, sFor, sAsgT, bnd_ret, ofO_some, al, cl, Sl.al, Sl.cl, startS, wipeD, hSet, gSet, List.map_cons, List.map_nil, List.length_cons, List.length_nil, List.cons_append, List.nil_append, List.getElem?_cons_zero, List.getElem?_cons_succ, List.replicate, List.set_cons_zero, List.set_cons_succ, eqD_int, eqD_str, neD_int, eqD_bl, neD_bl, geD_int, gtD_int, ltD_int, addD_int, subD_int, Nat.reduceSub, Nat.reduceAdd, Nat.reduceLT, decide_true, decide_false, if_true, if_false, Bool.false_eq_true, Option.some.injEq, reduceIte, and_self, true_and, and_true, e, isN_non]
theorem P_check_modulus {f : Fm} {d : D} {m : Int} (h : IsF f d) (hn : dep f < 20) (hw : WF f) (hl : (names f).length ≤ 1000) (hm : 2 ≤ m) : F_check_modulus [d, .int m] = ret .non := by
  have e : decide (m < 2) = false := by simpa using hm
  unfold F_check_modulus B_check_modulus
  simp only [fDef, fDefF, ofF, sSeq, sIf, sNext, sDrop, sRet, sRetF, sRetO, sSetC, sSetA, sPar, cV, cO, fTst, fBlt, fCall, fCallF, fCons, fNil, fName, fC, fOp, fUn, fAndV, fOrV, fNotV, fAndT, fOrT, fNotT, fIf, fTup_eq, fLst_eq, fNew_eq, chkL0, chkL1, chkL2, chkL3, chkL4, chkT1, chkT2, chkT3, chkN0, chkN1, fL, fLcL, fSeq, fStar, fIt, fStrs, fSl, fPart, sFor, sAsgT, bnd_ret, ofO_some, al, cl, Sl.al, Sl.cl, startS, wipeD, hSet, gSet, List.map_cons, List.map_nil, List.length_cons, List.length_nil, List.cons_append, List.nil_append, List.getElem?_cons_zero, List.getElem?_cons_succ, List.replicate, List.set_cons_zero, List.set_cons_succ, eqD_int, eqD_str, neD_int, eqD_bl, neD_bl, geD_int, gtD_int, ltD_int, addD_int, subD_int, Nat.reduceSub, Nat.reduceAdd, Nat.reduceLT, decide_true, decide_false, if_true, if_false, Bool.false_eq_true, Option.some.injEq, reduceIte, and_self, true_and, and_true, P_check_formula h hn hw hl, p_is_whole, e, Bool.not_true]
theorem P_check_secret {x m : Int} (h0 : 0 ≤ x) (h1 : x < m) : F_check_secret [.int x, .int m] = ret .non := by
  have e : (decide (0 ≤ x) && decide (x < m)) = true := by simp [h0, h1]
  unfold F_check_secret B_check_secret
  simp only [fDef, fDefF, ofF, sSeq, sIf, sNext, sDrop, sRet, sRetF, sRetO, sSetC, sSetA, sPar, cV, cO, fTst, fBlt, fCall, fCallF, fCons, fNil, fName, fC, fOp, fUn, fAndV, fOrV, fNotV, fAndT, fOrT, fNotT, fIf, fTup_eq, fLst_eq, fNew_eq, chkL0, chkL1, chkL2, chkL3, chkL4, chkT1, chkT2, chkT3, chkN0, chkN1, fL, fLcL, fSeq, fStar, fIt, fStrs, fSl, fPart, sFor, sAsgT, bnd_ret, ofO_some, al, cl, Sl.al, Sl.cl, startS, wipeD, hSet, gSet, List.map_cons, List.map_nil, List.length_cons, List.length_nil, List.cons_append, List.nil_append, List.getElem?_cons_zero, List.getElem?_cons_succ, List.replicate, List.set_cons_zero, List.set_cons_succ, eqD_int, eqD_str, neD_int, eqD_bl, neD_bl, geD_int, gtD_int, ltD_int, addD_int, subD_int, Nat.reduceSub, Nat.reduceAdd, Nat.reduceLT, decide_true, decide_false, if_true, if_false, Bool.false_eq_true, Option.some.injEq, reduceIte, and_self, true_and, and_true, p_is_index, e, Bool.not_true]
def InR (m : Int) (ns : List Int) : Prop := ∀ x ∈ ns, 0 ≤ x ∧ x < m
theorem P_are_below {d : D} {ns : List Int} {m : Int} {k : Nat} (h : d.seq = some (ns.map D.int)) (hk : ns.length = k) (hr : InR m ns) (hl : ns.length ≤ 1000) : F_are_below [d, .int (k : Nat), .int m] = ret (.bl true) := by
  have e1 : F_is_row [d, .int (k : Nat)] = ret (.bl true) := by
    rw [p_is_row h]
    have : decide (((ns.map D.int).length : Int) = (k : Nat)) = true := by rw [List.length_map, hk]; simp
    rw [this]
  have key : lcGo (gSet 3) fYes (fCall 2 F_is_index (fCons (fName 3) (fCons (fName 2) fNil))) [some d, some (.int (k : Nat)), some (.int m), none] (ns.map D.int) [] = ret ((ns.map D.int).map fun _ => D.bl true) := by
    refine lcGo_map (fun _ => D.bl true) _ [] (fun e he => ⟨_, rfl, ?_⟩) (by rw [List.length_map]; exact sz (by simp; omega))
    obtain ⟨x, hx, rfl⟩ := List.mem_map.mp he
    have e : (decide (0 ≤ x) && decide (x < m)) = true := by simp [(hr x hx).1, (hr x hx).2]
    simp only [fDef, fDefF, ofF, sSeq, sIf, sNext, sDrop, sRet, sRetF, sRetO, sSetC, sSetA, sPar, cV, cO, fTst, fBlt, fCall, fCallF, fCons, fNil, fName, fC, fOp, fUn, fAndV, fOrV, fNotV, fAndT, fOrT, fNotT, fIf, fTup_eq, fLst_eq, fNew_eq, chkL0, chkL1, chkL2, chkL3, chkL4, chkT1, chkT2, chkT3, chkN0, chkN1, fL, fLcL, fSeq, fStar, fIt, fStrs, fSl, fPart, sFor, sAsgT, bnd_ret, ofO_some, al, cl, Sl.al, Sl.cl, startS, wipeD, hSet, gSet, List.map_cons, List.map_nil, List.length_cons, List.length_nil, List.cons_append, List.nil_append, List.getElem?_cons_zero, List.getElem?_cons_succ, List.replicate, List.set_cons_zero, List.set_cons_succ, eqD_int, eqD_str, neD_int, eqD_bl, neD_bl, geD_int, gtD_int, ltD_int, addD_int, subD_int, Nat.reduceSub, Nat.reduceAdd, Nat.reduceLT, decide_true, decide_false, if_true, if_false, Bool.false_eq_true, Option.some.injEq, reduceIte, and_self, true_and, and_true, p_is_index, e]
  have hs : onBls (fun bs => some (.bl (bs.all id))) [.lst ((ns.map D.int).map fun _ => D.bl true)] = some (.bl true) := by
    have := onBls_map (fun bs => some (.bl (bs.all id))) (ns.map fun _ => true)
    rw [List.map_map] at this ⊢
    refine this.trans ?_
    congr 2
    simp
  unfold F_are_below B_are_below
  simp only [fDef, fDefF, ofF, sSeq, sIf, sNext, sDrop, sRet, sRetF, sRetO, sSetC, sSetA, sPar, cV, cO, fTst, fBlt, fCall, fCallF, fCons, fNil, fName, fC, fOp, fUn, fAndV, fOrV, fNotV, fAndT, fOrT, fNotT, fIf, fTup_eq, fLst_eq, fNew_eq, chkL0, chkL1, chkL2, chkL3, chkL4, chkT1, chkT2, chkT3, chkN0, chkN1, fL, fLcL, fSeq, fStar, fIt, fStrs, fSl, fPart, sFor, sAsgT, bnd_ret, ofO_some, al, cl, Sl.al, Sl.cl, startS, wipeD, hSet, gSet, List.map_cons, List.map_nil, List.length_cons, List.length_nil, List.cons_append, List.nil_append, List.getElem?_cons_zero, List.getElem?_cons_succ, List.replicate, List.set_cons_zero, List.set_cons_succ, eqD_int, eqD_str, neD_int, eqD_bl, neD_bl, geD_int, gtD_int, ltD_int, addD_int, subD_int, Nat.reduceSub, Nat.reduceAdd, Nat.reduceLT, decide_true, decide_false, if_true, if_false, Bool.false_eq_true, Option.some.injEq, reduceIte, and_self, true_and, and_true, e1, h, key, hs]
theorem P_check_shares {f : Fm} {d e : D} {ns : List Int} {m : Int} (h : IsF f d) (hn : dep f < 20) (hl : (names f).length ≤ 1000) (he : e.seq = some (ns.map D.int)) (hk : ns.length = (names f).length) (hr : InR m ns) : F_check_shares [d, .int m, e] = ret .non := by
  have e1 : bLen [.lst ((names f).map D.str)] = some (.int ((names f).length : Nat)) := by
    show some (D.int (((names f).map D.str).length : Nat)) = _
    rw [List.length_map]
  unfold F_check_shares B_check_shares
  simp only [fDef, fDefF, ofF, sSeq, sIf, sNext, sDrop, sRet, sRetF, sRetO, sSetC, sSetA, sPar, cV, cO, fTst, fBlt, fCall, fCallF, fCons, fNil, fName, fC, fOp, fUn, fAndV, fOrV, fNotV, fAndT, fOrT, fNotT, fIf, fTup_eq, fLst_eq, fNew_eq, chkL0, chkL1, chkL2, chkL3, chkL4, chkT1, chkT2, chkT3, chkN0, chkN1, fL, fLcL, fSeq, fStar, fIt, fStrs, fSl, fPart, sFor, sAsgT, bnd_ret, ofO_some, al, cl, Sl.al, Sl.cl, startS, wipeD, hSet, gSet, List.map_cons, List.map_nil, List.length_cons, List.length_nil, List.cons_append, List.nil_append, List.getElem?_cons_zero, List.getElem?_cons_succ, List.replicate, List.set_cons_zero, List.set_cons_succ, eqD_int, eqD_str, neD_int, eqD_bl, neD_bl, geD_int, gtD_int, ltD_int, addD_int, subD_int, Nat.reduceSub, Nat.reduceAdd, Nat.reduceLT, decide_true, decide_false, if_true, if_false, Bool.false_eq_true, Option.some.injEq, reduceIte, and_self, true_and, and_true, P_places h hn (sz (by omega)), e1, P_are_below he hk hr (by omega), Bool.not_true]
end K75
namespace K75
open PySem PySem.Spec PyProof.Rows L2 VS
/-! ### dealing: the plain function -/
mutual
def deal' (m : Int) : Fm → Int → List Int → List Int
  | .name _, x, _ => [x]
  | .gate b ps, x, ns => if b then deals' m ps (ns.take (ps.length - 1) ++ [(x - (ns.take (ps.length - 1)).sum) % m]) (ns.drop (ps.length - 1)) else deals' m ps (List.replicate ps.length x) ns
def deals' (m : Int) : List Fm → List Int → List Int → List Int
  | [], _, _ => []
  | p :: ps, gs, ns => match gs with
    | [] => []
    | g :: gs => deal' m p g ns ++ deals' m ps gs (ns.drop (want p))
end
theorem deal_name (m : Int) (s : Str) (x : Int) (ns : List Int) : deal' m (.name s) x ns = [x] := by simp [deal']
theorem deal_all (m : Int) (ps : List Fm) (x : Int) (ns : List Int) : deal' m (.gate true ps) x ns = deals' m ps (ns.take (ps.length - 1) ++ [(x - (ns.take (ps.length - 1)).sum) % m]) (ns.drop (ps.length - 1)) := by simp [deal']
theorem deal_any (m : Int) (ps : List Fm) (x : Int) (ns : List Int) : deal' m (.gate false ps) x ns = deals' m ps (List.replicate ps.length x) ns := by simp [deal']
theorem deals_cons (m : Int) (p : Fm) (ps : List Fm) (g : Int) (gs ns : List Int) : deals' m (p :: ps) (g :: gs) ns = deal' m p g ns ++ deals' m ps gs (ns.drop (want p)) := by simp [deals']
theorem wants_cons (p : Fm) (ps : List Fm) : wants (p :: ps) = want p + wants ps := by simp [wants]
mutual
theorem deal_take (m : Int) : ∀ (f : Fm) (x : Int) (ns : List Int) (k : Nat), want f ≤ k → deal' m f x (ns.take k) = deal' m f x ns
  | .name s, x, ns, k, h => by rw [deal_name, deal_name]
  | .gate true ps, x, ns, k, h => by
    rw [want_gate, if_pos rfl] at h
    rw [deal_all, deal_all, List.take_take, Nat.min_eq_left (by omega), List.drop_take]
    exact deals_take m ps _ _ _ (by omega)
  | .gate false ps, x, ns, k, h => by
    rw [want_gate, if_neg Bool.false_ne_true] at h
    rw [deal_any, deal_any]
    exact deals_take m ps _ _ _ (by omega)
theorem deals_take (m : Int) : ∀ (ps : List Fm) (gs ns : List Int) (k : Nat), wants ps ≤ k → deals' m ps gs (ns.take k) = deals' m ps gs ns
  | [], gs, ns, k, h => by simp [deals']
  | p :: ps, [], ns, k, h => by simp [deals']
  | p :: ps, g :: gs, ns, k, h => by
    rw [wants_cons] at h
    rw [deals_cons, deals_cons, deal_take m p g ns k (by omega), List.drop_take]
    rw [deals_take m ps gs _ _ (by omega)]
end
/-! ### slices -/
theorem cut_to (xs : List D) (k : Nat) : VS.cutD xs none (some (k : Nat)) = xs.take k := by
  unfold VS.cutD
  rw [HT.sIx_nat, HT.sIx_none, List.drop_zero, Nat.sub_zero]
  rw [List.take_eq_take_iff]
  omega
theorem cut_from (xs : List D) (k : Nat) : VS.cutD xs (some (k : Nat)) none = xs.drop k := by
  unfold VS.cutD
  rw [HT.sIx_nat, HT.sIx_none]
  by_cases h : k ≤ xs.length
  · rw [Nat.min_eq_left h]
    exact List.take_of_length_le (by rw [List.length_drop]; omega)
  · rw [Nat.min_eq_right (by omega), List.drop_eq_nil_of_le (by omega), List.drop_eq_nil_of_le (by omega)]
    simp
theorem cut_mid (xs : List D) (a b : Nat) (h : a + b ≤ xs.length) : VS.cutD xs (some (a : Nat)) (some ((a : Nat) + (b : Nat) : Int)) = (xs.drop a).take b := by
  unfold VS.cutD
  have e : ((a : Nat) : Int) + (b : Nat) = ((a + b : Nat) : Int) := by omega
  rw [e, HT.sIx_nat, HT.sIx_nat, Nat.min_eq_left h, Nat.min_eq_left (show a ≤ xs.length by omega)]
  congr 1
  omega
theorem sl_to (ns : List Int) (k : Nat) : oSl (.lst (ns.map D.int)) none (some (k : Nat)) = some (.lst ((ns.take k).map D.int)) := by
  show some (D.lst (VS.cutD _ _ _)) = _
  rw [cut_to, List.map_take]
theorem sl_from (ns : List Int) (k : Nat) : oSl (.lst (ns.map D.int)) (some (k : Nat)) none = some (.lst ((ns.drop k).map D.int)) := by
  show some (D.lst (VS.cutD _ _ _)) = _
  rw [cut_from, List.map_drop]
theorem sl_mid (ns : List Int) (a b : Nat) (h : a + b ≤ ns.length) : oSl (.lst (ns.map D.int)) (some (a : Nat)) (some ((a : Nat) + (b : Nat) : Int)) = some (.lst (((ns.drop a).take b).map D.int)) := by
  show some (D.lst (VS.cutD _ _ _)) = _
  rw [cut_mid _ _ _ (by rw [List.length_map]; exact h), List.map_take, List.map_drop]
theorem rep1 (x : D) : ∀ k : Nat, (List.replicate k [x]).flatten = List.replicate k x
  | 0 => rfl
  | k + 1 => by rw [List.replicate_succ, List.flatten_cons, rep1 x k]; rfl
theorem mLst_ok {x : List D} {k : Int} (h : -(2 ^ 63) ≤ k ∧ k < 2 ^ 63 ∧ x.length * k.toNat ≤ sizeLine) : mLst (.lst x) (.int k) = some (.lst (List.replicate k.toNat x).flatten) := if_pos h
theorem len1k (k : Nat) (h : k ≤ 1000) (x : Int) : [D.int x].length * ((k : Nat) : Int).toNat ≤ sizeLine := by
  rw [Int.toNat_natCast]
  exact sz (by simp; omega)
theorem lo63 (k : Nat) : -(2 ^ 63) ≤ ((k : Nat) : Int) := Int.le_trans (by decide) (Int.natCast_nonneg k)
theorem hi63 (k : Nat) (h : k ≤ 1000) : ((k : Nat) : Int) < 2 ^ 63 := Int.lt_of_le_of_lt (show ((k : Nat) : Int) ≤ 1000 by omega) (by decide)
theorem mInt_no (k : Nat) (x : Int) : mInt (.lst [.int x]) (.int (k : Nat)) = none := rfl
theorem oMul_of {a b c : D} (h1 : mInt a b = none) (h2 : mLst a b = some c) : oMul a b = some c := by
  unfold oMul orO
  rw [h1]
  exact h2
theorem mul_rep (x : Int) (k : Nat) (h : k ≤ 1000) : oMul (.lst [.int x]) (.int (k : Nat)) = some (.lst ((List.replicate k x).map D.int)) := by
  have e := oMul_of (mInt_no k x) (mLst_ok (x := [D.int x]) ⟨lo63 k, hi63 k h, len1k k h x⟩)
  rw [rep1, Int.toNat_natCast] at e
  rw [e, List.map_replicate]
theorem sumD (ns : List Int) : onInts (fun bs => some (.int bs.sum)) [.lst (ns.map D.int)] = some (.int ns.sum) := onInts_map _ _
theorem zipD_eq {l e : D} {ds gs : List D} (h1 : l.seq = some ds) (h2 : e.seq = some gs) : zipD [l, e] = some (List.zipWith (fun x y => D.tup [x, y]) ds gs) := by
  show (l.seq.bind fun xs => e.seq.map fun ys => _) = _
  rw [h1, h2]
  rfl
/-! ### dealt_out, deal -/
def dealN (n : Nat) : List D → M (List D) := levF (fun r => fDefF 10 (B_dealt_out r)) n
theorem deals_len (m : Int) : True := trivial
theorem p_deals (n : Nat) (hn20 : n ≤ 20) (m : Int) (ih : ∀ f d x ns, IsF f d → dep f < n → ne_ f → (names f).length ≤ 1000 → want f ≤ ns.length → ns.length ≤ 1000 → 0 < m → dealN n [d, .int m, .int x, .lst (ns.map D.int)] = ret ((deal' m f x ns).map D.int))
    (hm : 0 < m) (d x gD : D) (ns : List Int) (hns : ns.length ≤ 1000) : ∀ (ps : List Fm) (ds : List D) (gs acc : List Int) (at_ : Nat) (y z w : Sl), IsFs ps ds → deps ps < n → nes ps → (namess ps).length ≤ 1000 → gs.length = ps.length → at_ + wants ps ≤ ns.length → acc.length + (deals' m ps gs (ns.drop at_)).length ≤ 1000 →
    ∃ y' z' w', forGo (hTp 2 (hsCons (hSet 7) (hsCons (hSet 8) hsNil))) (sSeq (sSetC 9 (cV (fCall 1 F_wanted_of (fCons (fName 7) fNil))))
      (sSeq (sMut 6 stExtend (fCons (fCall 4 (ofF (dealN n)) (fCons (fName 7) (fCons (fName 1) (fCons (fName 8) (fCons (fSl (fName 3) (fPart (fName 5)) (fPart (fOp oAdd (fName 5) (fName 9)))) fNil))))) fNil)) (sSetC 5 (cV (fOp oAdd (fName 5) (fName 9))))))
      (List.zipWith (fun x y => D.tup [x, y]) ds (gs.map D.int)) [.val d, .val (.int m), .val x, .val (.lst (ns.map D.int)), .val gD, .val (.int (at_ : Nat)), .own (acc.map D.int), y, z, w] =
      ret (.nx [.val d, .val (.int m), .val x, .val (.lst (ns.map D.int)), .val gD, .val (.int ((at_ + wants ps : Nat) : Int)), .own ((acc ++ deals' m ps gs (ns.drop at_)).map D.int), y', z', w'])
  | [], ds, gs, acc, at_, y, z, w, h, hn, hw, hl, hg, hat, hacc => by
    cases (show ds = [] from h)
    exact ⟨y, z, w, by simp [forGo, deals', wants]⟩
  | p :: ps, ds, [], acc, at_, y, z, w, h, hn, hw, hl, hg, hat, hacc => by simp at hg
  | p :: ps, ds, g :: gs, acc, at_, y, z, w, h, hn, hw, hl, hg, hat, hacc => by
    obtain ⟨e, r, rfl, h1, h2⟩ := h
    have hw' : ne_ p ∧ nes ps := by simpa only [nes] using hw
    rw [deps_cons] at hn
    rw [namess_cons, List.length_append] at hl
    rw [wants_cons] at hat
    rw [deals_cons, List.length_append] at hacc
    rw [List.drop_drop] at hacc
    have e1 := P_want h1 (by omega) hw'.1 (sz (by omega))
    have e2 := ih p e g ((ns.drop at_).take (want p)) h1 (by omega) hw'.1 (by omega) (by rw [List.length_take, List.length_drop]; omega) (by rw [List.length_take, List.length_drop]; omega) hm
    rw [deal_take m p g _ _ (Nat.le_refl _)] at e2
    obtain ⟨y', z', w', e3⟩ := p_deals n hn20 m ih hm d x gD ns hns ps r gs (acc ++ deal' m p g (ns.drop at_)) (at_ + want p) (.val e) (.val (.int g)) (.val (.int (want p : Nat))) h2 (by omega) hw'.2 (by omega) (by simpa using hg) (by omega) (by rw [List.length_append]; omega)
    refine ⟨y', z', w', ?_⟩
    have sl := sl_mid ns at_ (want p) (by omega)
    have c1 : ((at_ : Nat) : Int) + (want p : Nat) = ((at_ + want p : Nat) : Int) := by omega
    rw [List.map_cons, List.zipWith_cons_cons, forGo_nx (env1 := [.val d, .val (.int m), .val x, .val (.lst (ns.map D.int)), .val gD, .val (.int (at_ : Nat)), .own (acc.map D.int), .val e, .val (.int g), w])
      (env2 := [.val d, .val (.int m), .val x, .val (.lst (ns.map D.int)), .val gD, .val (.int ((at_ + want p : Nat) : Int)), .own ((acc ++ deal' m p g (ns.drop at_)).map D.int), .val e, .val (.int g), .val (.int (want p : Nat))]) rfl ?_, e3]
    · rw [deals_cons, List.drop_drop, wants_cons, List.append_assoc, Nat.add_assoc]
    · have st := stExtend_ok (a := acc.map D.int) (e := (deal' m p g (ns.drop at_)).map D.int) (by rw [List.length_map, List.length_map]; exact sz (by omega))
      have mu := sMut_ok (i := 6) (step := stExtend) (F := (fCons (fCall 4 (ofF (dealN n)) (fCons (fName 7) (fCons (fName 1) (fCons (fName 8) (fCons (fSl (fName 3) (fPart (fName 5)) (fPart (fOp oAdd (fName 5) (fName 9)))) fNil))))) fNil))
        (env := [.val d, .val (.int m), .val x, .val (.lst (ns.map D.int)), .val gD, .val (.int (at_ : Nat)), .own (acc.map D.int), .val e, .val (.int g), .val (.int (want p : Nat))]) rfl (by simp only [fDef, fDefF, ofF, sSeq, sIf, sNext, sDrop, sRet, sRetF, sRetO, sSetC, sSetA, sPar, cV, cO, fTst, fBlt, fCall, fCallF, fCons, fNil, fName, fC, fOp, fUn, fAndV, fOrV, fNotV, fAndT, fOrT, fNotT, fIf, fTup_eq, fLst_eq, fNew_eq, chkL0, chkL1, chkL2, chkL3, chkL4, chkT1, chkT2, chkT3, chkN0, chkN1, fL, fLcL, fSeq, fStar, fIt, fStrs, fSl, fPart, sFor, sAsgT, bnd_ret, ofO_some, al, cl, Sl.al, Sl.cl, startS, wipeD, hSet, gSet, List.map_cons, List.map_nil, List.length_cons, List.length_nil, List.cons_append, List.nil_append, List.getElem?_cons_zero, List.getElem?_cons_succ, List.replicate, List.set_cons_zero, List.set_cons_succ, eqD_int, eqD_str, neD_int, eqD_bl, neD_bl, geD_int, gtD_int, ltD_int, addD_int, subD_int, Nat.reduceSub, Nat.reduceAdd, Nat.reduceLT, decide_true, decide_false, if_true, if_false, Bool.false_eq_true, Option.some.injEq, reduceIte, and_self, true_and, and_true, sl, e2]) st
      simp only [fDef, fDefF, ofF, sSeq, sIf, sNext, sDrop, sRet, sRetF, sRetO, sSetC, sSetA, sPar, cV, cO, fTst, fBlt, fCall, fCallF, fCons, fNil, fName, fC, fOp, fUn, fAndV, fOrV, fNotV, fAndT, fOrT, fNotT, fIf, fTup_eq, fLst_eq, fNew_eq, chkL0, chkL1, chkL2, chkL3, chkL4, chkT1, chkT2, chkT3, chkN0, chkN1, fL, fLcL, fSeq, fStar, fIt, fStrs, fSl, fPart, sFor, sAsgT, bnd_ret, ofO_some, al, cl, Sl.al, Sl.cl, startS, wipeD, hSet, gSet, List.map_cons, List.map_nil, List.length_cons, List.length_nil, List.cons_append, List.nil_append, List.getElem?_cons_zero, List.getElem?_cons_succ, List.replicate, List.set_cons_zero, List.set_cons_succ, eqD_int, eqD_str, neD_int, eqD_bl, neD_bl, geD_int, gtD_int, ltD_int, addD_int, subD_int, Nat.reduceSub, Nat.reduceAdd, Nat.reduceLT, decide_true, decide_false, if_true, if_false, Bool.false_eq_true, Option.some.injEq, reduceIte, and_self, true_and, and_true, e1, mu]
      rw [c1, List.map_append]
end K75
namespace K75
open PySem PySem.Spec PyProof.Rows L2 VS
mutual
theorem deal_length (m : Int) : ∀ (f : Fm) (x : Int) (ns : List Int), ne_ f → want f ≤ ns.length → (deal' m f x ns).length = (names f).length
  | .name s, x, ns, hw, h => by rw [deal_name]; simp [names]
  | .gate true ps, x, ns, hw, h => by
    have hw' : ps ≠ [] ∧ nes ps := by simpa only [ne_] using hw
    have hp : 1 ≤ ps.length := by
      cases ps with
      | nil => exact absurd rfl hw'.1
      | cons a r => simp
    rw [want_gate, if_pos rfl] at h
    rw [deal_all, names_gate]
    exact deals_length m ps _ _ hw'.2 (by rw [List.length_append, List.length_take]; simp; omega) (by rw [List.length_drop]; omega)
  | .gate false ps, x, ns, hw, h => by
    have hw' : ps ≠ [] ∧ nes ps := by simpa only [ne_] using hw
    rw [want_gate, if_neg Bool.false_ne_true] at h
    rw [deal_any, names_gate]
    exact deals_length m ps _ _ hw'.2 (by simp) (by omega)
theorem deals_length (m : Int) : ∀ (ps : List Fm) (gs ns : List Int), nes ps → gs.length = ps.length → wants ps ≤ ns.length → (deals' m ps gs ns).length = (namess ps).length
  | [], gs, ns, _, _, _ => by simp [deals', namess]
  | p :: ps, [], ns, _, hg, _ => by simp at hg
  | p :: ps, g :: gs, ns, hw, hg, h => by
    have hw' : ne_ p ∧ nes ps := by simpa only [nes] using hw
    rw [wants_cons] at h
    rw [deals_cons, namess_cons, List.length_append, List.length_append, deal_length m p g ns hw'.1 (by omega), deals_length m ps gs _ hw'.2 (by simpa using hg) (by rw [List.length_drop]; omega)]
end
def DealIH (n : Nat) : Prop := ∀ (m : Int) (f : Fm) (d : D) (x : Int) (ns : List Int), IsF f d → dep f < n → ne_ f → (names f).length ≤ 1000 → want f ≤ ns.length → ns.length ≤ 1000 → 0 < m → dealN n [d, .int m, .int x, .lst (ns.map D.int)] = ret ((deal' m f x ns).map D.int)
theorem p_deal_name (n : Nat) (m : Int) (s : Str) (d : D) (x : Int) (ns : List Int) (h : IsF (.name s) d) : dealN (n + 1) [d, .int m, .int x, .lst (ns.map D.int)] = ret ((deal' m (.name s) x ns).map D.int) := by
  show fDefF 10 (B_dealt_out (dealN n)) _ = _
  unfold B_dealt_out
  simp only [fDef, fDefF, ofF, sSeq, sIf, sNext, sDrop, sRet, sRetF, sRetO, sSetC, sSetA, sPar, cV, cO, fTst, fBlt, fCall, fCallF, fCons, fNil, fName, fC, fOp, fUn, fAndV, fOrV, fNotV, fAndT, fOrT, fNotT, fIf, fTup_eq, fLst_eq, fNew_eq, chkL0, chkL1, chkL2, chkL3, chkL4, chkT1, chkT2, chkT3, chkN0, chkN1, fL, fLcL, fSeq, fStar, fIt, fStrs, fSl, fPart, sFor, sAsgT, bnd_ret, ofO_some, al, cl, Sl.al, Sl.cl, startS, wipeD, hSet, gSet, List.map_cons, List.map_nil, List.length_cons, List.length_nil, List.cons_append, List.nil_append, List.getElem?_cons_zero, List.getElem?_cons_succ, List.replicate, List.set_cons_zero, List.set_cons_succ, eqD_int, eqD_str, neD_int, eqD_bl, neD_bl, geD_int, gtD_int, ltD_int, addD_int, subD_int, Nat.reduceSub, Nat.reduceAdd, Nat.reduceLT, decide_true, decide_false, if_true, if_false, Bool.false_eq_true, Option.some.injEq, reduceIte, and_self, true_and, and_true, ixD0 h]
  rw [deal_name]
  rfl
theorem p_deal_any (n : Nat) (hn20 : n ≤ 20) (ih : DealIH n) (m : Int) (ps : List Fm) (d : D) (x : Int) (ns : List Int) (h : IsF (.gate false ps) d) (hn : dep (.gate false ps) < n + 1) (hw : ne_ (.gate false ps)) (hl : (names (.gate false ps)).length ≤ 1000) (hwt : want (.gate false ps) ≤ ns.length) (hns : ns.length ≤ 1000) (hm : 0 < m) :
    dealN (n + 1) [d, .int m, .int x, .lst (ns.map D.int)] = ret ((deal' m (.gate false ps) x ns).map D.int) := by
  obtain ⟨l, ds, h1, h2, h3⟩ := h
  have hw' : ps ≠ [] ∧ nes ps := by simpa only [ne_] using hw
  have hlen := h3.two.length
  rw [dep_gate] at hn
  rw [names_gate] at hl
  have hL := (lens_le hw'.2).1
  have mr := mul_rep x ps.length (by omega)
  rw [want_gate, if_neg Bool.false_ne_true] at hwt
  have sq : ∀ gs : List Int, D.seq (.lst (gs.map D.int)) = some (gs.map D.int) := fun _ => rfl
  have zz := zipD_eq h2 (sq (List.replicate ps.length x))
  obtain ⟨y, z, w, e⟩ := p_deals n hn20 m (ih m) hm d (.int x) (.lst ((List.replicate ps.length x).map D.int)) ns hns ps ds (List.replicate ps.length x) [] 0 .un .un .un h3 (by omega) hw'.2 hl (by simp) (by omega) (by rw [deals_length m ps _ _ hw'.2 (by simp) (by simpa using hwt)]; simpa using hl)
  rw [deal_any]
  show fDefF 10 (B_dealt_out (dealN n)) _ = _
  unfold B_dealt_out
  revert mr
  generalize oMul = om
  intro mr
  simp only [fDef, fDefF, ofF, sSeq, sIf, sNext, sDrop, sRet, sRetF, sRetO, sSetC, sSetA, sPar, cV, cO, fTst, fBlt, fCall, fCallF, fCons, fNil, fName, fC, fOp, fUn, fAndV, fOrV, fNotV, fAndT, fOrT, fNotT, fIf, fTup_eq, fLst_eq, fNew_eq, chkL0, chkL1, chkL2, chkL3, chkL4, chkT1, chkT2, chkT3, chkN0, chkN1, fL, fLcL, fSeq, fStar, fIt, fStrs, fSl, fPart, sFor, sAsgT, bnd_ret, ofO_some, al, cl, Sl.al, Sl.cl, startS, wipeD, hSet, gSet, List.map_cons, List.map_nil, List.length_cons, List.length_nil, List.cons_append, List.nil_append, List.getElem?_cons_zero, List.getElem?_cons_succ, List.replicate, List.set_cons_zero, List.set_cons_succ, eqD_int, eqD_str, neD_int, eqD_bl, neD_bl, geD_int, gtD_int, ltD_int, addD_int, subD_int, Nat.reduceSub, Nat.reduceAdd, Nat.reduceLT, decide_true, decide_false, if_true, if_false, Bool.false_eq_true, Option.some.injEq, reduceIte, and_self, true_and, and_true, ixD0 h1, ixD1 h1, kw_ne, kw_all, lenD h2, hlen, mr, zz]
  have e' := e
  rw [List.drop_zero, List.nil_append] at e'
  have e0 : ((0 : Nat) : Int) = (0 : Int) := rfl
  rw [e0] at e'
  simp only [List.map_nil] at e'
  rw [e']
  simp only [fDef, fDefF, ofF, sSeq, sIf, sNext, sDrop, sRet, sRetF, sRetO, sSetC, sSetA, sPar, cV, cO, fTst, fBlt, fCall, fCallF, fCons, fNil, fName, fC, fOp, fUn, fAndV, fOrV, fNotV, fAndT, fOrT, fNotT, fIf, fTup_eq, fLst_eq, fNew_eq, chkL0, chkL1, chkL2, chkL3, chkL4, chkT1, chkT2, chkT3, chkN0, chkN1, fL, fLcL, fSeq, fStar, fIt, fStrs, fSl, fPart, sFor, sAsgT, bnd_ret, ofO_some, al, cl, Sl.al, Sl.cl, startS, wipeD, hSet, gSet, List.map_cons, List.map_nil, List.length_cons, List.length_nil, List.cons_append, List.nil_append, List.getElem?_cons_zero, List.getElem?_cons_succ, List.replicate, List.set_cons_zero, List.set_cons_succ, eqD_int, eqD_str, neD_int, eqD_bl, neD_bl, geD_int, gtD_int, ltD_int, addD_int, subD_int, Nat.reduceSub, Nat.reduceAdd, Nat.reduceLT, decide_true, decide_false, if_true, if_false, Bool.false_eq_true, Option.some.injEq, reduceIte, and_self, true_and, and_true]
theorem p_deal_all (n : Nat) (hn20 : n ≤ 20) (ih : DealIH n) (m : Int) (ps : List Fm) (d : D) (x : Int) (ns : List Int) (h : IsF (.gate true ps) d) (hn : dep (.gate true ps) < n + 1) (hw : ne_ (.gate true ps)) (hl : (names (.gate true ps)).length ≤ 1000) (hwt : want (.gate true ps) ≤ ns.length) (hns : ns.length ≤ 1000) (hm : 0 < m) :
    dealN (n + 1) [d, .int m, .int x, .lst (ns.map D.int)] = ret ((deal' m (.gate true ps) x ns).map D.int) := by
  obtain ⟨l, ds, h1, h2, h3⟩ := h
  have hw' : ps ≠ [] ∧ nes ps := by simpa only [ne_] using hw
  have hlen := h3.two.length
  rw [dep_gate] at hn
  rw [names_gate] at hl
  have hL := (lens_le hw'.2).1
  have hp : 1 ≤ ps.length := by
    cases ps with
    | nil => exact absurd rfl hw'.1
    | cons a r => simp
  have mr := mul_rep x ps.length (by omega)
  have sq : ∀ gs : List Int, D.seq (.lst (gs.map D.int)) = some (gs.map D.int) := fun _ => rfl
  rw [want_gate, if_pos rfl] at hwt
  rw [deal_all]
  have gl : (ns.take (ps.length - 1) ++ [(x - (ns.take (ps.length - 1)).sum) % m]).length = ps.length := by
    rw [List.length_append, List.length_take]
    show _ + 1 = _
    omega
  have c1 : (ps.length : Int) - 1 = ((ps.length - 1 : Nat) : Int) := by omega
  have sl := sl_to ns (ps.length - 1)
  have sm := sumD (ns.take (ps.length - 1))
  have md := modD_int (i := x - (ns.take (ps.length - 1)).sum) hm
  have gi : chkL (((ns.take (ps.length - 1)).map D.int) ++ [D.int ((x - (ns.take (ps.length - 1)).sum) % m)]) = ret (D.lst ((ns.take (ps.length - 1) ++ [(x - (ns.take (ps.length - 1)).sum) % m]).map D.int)) := by
    rw [chkL_of, List.map_append]
    · rfl
    · rw [List.length_append, List.length_map, List.length_take]
      exact sz (by simp; omega)
  generalize hgs : ns.take (ps.length - 1) ++ [(x - (ns.take (ps.length - 1)).sum) % m] = gs at *
  have zz := zipD_eq h2 (sq gs)
  obtain ⟨y, z, w, e⟩ := p_deals n hn20 m (ih m) hm d (.int x) (.lst (gs.map D.int)) ns hns ps ds gs [] (ps.length - 1) .un .un .un h3 (by omega) hw'.2 hl gl (by omega)
    (by rw [deals_length m ps _ _ hw'.2 gl (by rw [List.length_drop]; omega)]; simpa using hl)
  rw [List.nil_append] at e
  show fDefF 10 (B_dealt_out (dealN n)) _ = _
  unfold B_dealt_out
  revert mr
  generalize oMul = om
  intro mr
  simp only [fDef, fDefF, ofF, sSeq, sIf, sNext, sDrop, sRet, sRetF, sRetO, sSetC, sSetA, sPar, cV, cO, fTst, fBlt, fCall, fCallF, fCons, fNil, fName, fC, fOp, fUn, fAndV, fOrV, fNotV, fAndT, fOrT, fNotT, fIf, fTup_eq, fLst_eq, fNew_eq, chkL0, chkL1, chkL2, chkL3, chkL4, chkT1, chkT2, chkT3, chkN0, chkN1, fL, fLcL, fSeq, fStar, fIt, fStrs, fSl, fPart, sFor, sAsgT, bnd_ret, ofO_some, al, cl, Sl.al, Sl.cl, startS, wipeD, hSet, gSet, List.map_cons, List.map_nil, List.length_cons, List.length_nil, List.cons_append, List.nil_append, List.getElem?_cons_zero, List.getElem?_cons_succ, List.replicate, List.set_cons_zero, List.set_cons_succ, eqD_int, eqD_str, neD_int, eqD_bl, neD_bl, geD_int, gtD_int, ltD_int, addD_int, subD_int, Nat.reduceSub, Nat.reduceAdd, Nat.reduceLT, decide_true, decide_false, if_true, if_false, Bool.false_eq_true, Option.some.injEq, reduceIte, and_self, true_and, and_true, ixD0 h1, ixD1 h1, kw_ne, kw_all, lenD h2, hlen, mr, c1, sl, sm, md, gi, zz]
  simp only [List.map_nil] at e
  rw [e]
  simp only [fDef, fDefF, ofF, sSeq, sIf, sNext, sDrop, sRet, sRetF, sRetO, sSetC, sSetA, sPar, cV, cO, fTst, fBlt, fCall, fCallF, fCons, fNil, fName, fC, fOp, fUn, fAndV, fOrV, fNotV, fAndT, fOrT, fNotT, fIf, fTup_eq, fLst_eq, fNew_eq, chkL0, chkL1, chkL2, chkL3, chkL4, chkT1, chkT2, chkT3, chkN0, chkN1, fL, fLcL, fSeq, fStar, fIt, fStrs, fSl, fPart, sFor, sAsgT, bnd_ret, ofO_some, al, cl, Sl.al, Sl.cl, startS, wipeD, hSet, gSet, List.map_cons, List.map_nil, List.length_cons, List.length_nil, List.cons_append, List.nil_append, List.getElem?_cons_zero, List.getElem?_cons_succ, List.replicate, List.set_cons_zero, List.set_cons_succ, eqD_int, eqD_str, neD_int, eqD_bl, neD_bl, geD_int, gtD_int, ltD_int, addD_int, subD_int, Nat.reduceSub, Nat.reduceAdd, Nat.reduceLT, decide_true, decide_false, if_true, if_false, Bool.false_eq_true, Option.some.injEq, reduceIte, and_self, true_and, and_true]
theorem p_deal : ∀ n : Nat, n ≤ 20 → DealIH n := by
  intro n
  induction n with
  | zero => exact fun _ m f d x ns _ h => absurd h (by omega)
  | succ n ih =>
    intro hn m f d x ns h hd hw hl hwt hns hm
    match f, h with
    | .name s, h => exact p_deal_name n m s d x ns h
    | .gate false ps, h => exact p_deal_any n (by omega) (ih (by omega)) m ps d x ns h hd hw hl hwt hns hm
    | .gate true ps, h => exact p_deal_all n (by omega) (ih (by omega)) m ps d x ns h hd hw hl hwt hns hm
mutual
theorem wf_ne : ∀ f : Fm, WF f → ne_ f
  | .name s, _ => by simp [ne_]
  | .gate b ps, h => by
    have h' : ps ≠ [] ∧ WFs ps := by simpa only [WF] using h
    simp only [ne_]
    exact ⟨h'.1, wfs_ne ps h'.2⟩
theorem wfs_ne : ∀ ps : List Fm, WFs ps → nes ps
  | [], _ => by simp [nes]
  | p :: ps, h => by
    have h' : WF p ∧ WFs ps := by simpa only [WFs] using h
    simp only [nes]
    exact ⟨wf_ne p h'.1, wfs_ne ps h'.2⟩
end
/-- deal(formula, modulus, secret, numbers) -/
theorem P_deal {f : Fm} {d e : D} {m x : Int} {ns : List Int} (h : IsF f d) (hn : dep f < 20) (hw : WF f) (hl : (names f).length ≤ 1000) (hm : 2 ≤ m) (h0 : 0 ≤ x) (h1 : x < m) (he : e.seq = some (ns.map D.int)) (hwt : ns.length = want f) (hwl : want f ≤ 1000) (hr : InR m ns) :
    FF_deal [d, .int m, .int x, e] = ret ((deal' m f x ns).map D.int) := by
  have e0 := p_deal 20 (Nat.le_refl _) m f d x ns h hn (wf_ne f hw) hl (by omega) (by omega) (by omega)
  have e1 : F_are_below [e, .int ((want f : Nat) : Int), .int m] = ret (.bl true) := P_are_below he hwt hr (by omega)
  have e2 : one D.seq [e] = some (ns.map D.int) := he
  have e3 : FF_dealt_out [d, .int m, .int x, .lst (ns.map D.int)] = ret ((deal' m f x ns).map D.int) := e0
  unfold FF_deal B_deal
  simp only [fDef, fDefF, ofF, sSeq, sIf, sNext, sDrop, sRet, sRetF, sRetO, sSetC, sSetA, sPar, cV, cO, fTst, fBlt, fCall, fCallF, fCons, fNil, fName, fC, fOp, fUn, fAndV, fOrV, fNotV, fAndT, fOrT, fNotT, fIf, fTup_eq, fLst_eq, fNew_eq, chkL0, chkL1, chkL2, chkL3, chkL4, chkT1, chkT2, chkT3, chkN0, chkN1, fL, fLcL, fSeq, fStar, fIt, fStrs, fSl, fPart, sFor, sAsgT, bnd_ret, ofO_some, al, cl, Sl.al, Sl.cl, startS, wipeD, hSet, gSet, List.map_cons, List.map_nil, List.length_cons, List.length_nil, List.cons_append, List.nil_append, List.getElem?_cons_zero, List.getElem?_cons_succ, List.replicate, List.set_cons_zero, List.set_cons_succ, eqD_int, eqD_str, neD_int, eqD_bl, neD_bl, geD_int, gtD_int, ltD_int, addD_int, subD_int, Nat.reduceSub, Nat.reduceAdd, Nat.reduceLT, decide_true, decide_false, if_true, if_false, Bool.false_eq_true, Option.some.injEq, reduceIte, and_self, true_and, and_true, P_check_modulus h hn hw hl hm, P_check_secret h0 h1, P_want h hn (wf_ne f hw) (sz (by omega)), e1, e2, e3, Bool.not_true]
end K75
namespace K75
open PySem PySem.Spec PyProof.Rows L2 VS
theorem bInt_int (i : Int) : bInt [.int i] = some (.int i) := rfl
theorem addD_lst {x y : List D} (h : x.length + y.length ≤ sizeLine) : oAdd (.lst x) (.lst y) = some (.lst (x ++ y)) := by
  have e : aLst (.lst x) (.lst y) = some (.lst (x ++ y)) := if_pos h
  have e0 : aInt (.lst x) (.lst y) = none := rfl
  unfold oAdd orO
  rw [e0]
  simp only [e]
theorem addD_ints {a b : List Int} (h : a.length + b.length ≤ 1000) : oAdd (.lst (a.map D.int)) (.lst (b.map D.int)) = some (.lst ((a ++ b).map D.int)) := by
  rw [addD_lst (by rw [List.length_map, List.length_map]; exact sz (by omega)), List.map_append]
/-! ### the law's dealing -/
def lawDealN (n : Nat) : List D → M D := lev (fun r => fDef 10 (B__law_dealt r)) n
def LDealIH (n : Nat) : Prop := ∀ (m : Int) (f : Fm) (d : D) (x : Int) (ns : List Int), IsF f d → dep f < n → ne_ f → (names f).length ≤ 1000 → want f ≤ ns.length → ns.length ≤ 1000 → 0 < m → lawDealN n [d, .int m, .int x, .lst (ns.map D.int)] = ret (.tup [.lst ((deal' m f x ns).map D.int), .lst ((ns.drop (want f)).map D.int)])
theorem p_ldeals (n : Nat) (m : Int) (ih : LDealIH n) (hm : 0 < m) (d x gD y0 : D) (u : Sl) : ∀ (ps : List Fm) (ds : List D) (gs acc ns : List Int) (y z w : Sl), IsFs ps ds → deps ps < n → nes ps → (namess ps).length ≤ 1000 → gs.length = ps.length → wants ps ≤ ns.length → ns.length ≤ 1000 → acc.length + (deals' m ps gs ns).length ≤ 1000 →
    ∃ y' z' w', forGo (hTp 2 (hsCons (hSet 7) (hsCons (hSet 8) hsNil))) (sSeq (sAsgT (fCall 4 (lawDealN n) (fCons (fName 7) (fCons (fName 1) (fCons (fName 8) (fCons (fName 3) fNil))))) (hTp 2 (hsCons (hSet 9) (hsCons (hSet 3) hsNil)))) (sSetC 6 (cV (fOp oAdd (fName 6) (fName 9)))))
      (List.zipWith (fun x y => D.tup [x, y]) ds (gs.map D.int)) [.val d, .val (.int m), .val x, .val (.lst (ns.map D.int)), .val gD, u, .val (.lst (acc.map D.int)), y, z, w] =
      ret (.nx [.val d, .val (.int m), .val x, .val (.lst ((ns.drop (wants ps)).map D.int)), .val gD, u, .val (.lst ((acc ++ deals' m ps gs ns).map D.int)), y', z', w'])
  | [], ds, gs, acc, ns, y, z, w, h, hn, hw, hl, hg, hat, hns, hacc => by
    cases (show ds = [] from h)
    exact ⟨y, z, w, by simp [forGo, deals', wants]⟩
  | p :: ps, ds, [], acc, ns, y, z, w, h, hn, hw, hl, hg, hat, hns, hacc => by simp at hg
  | p :: ps, ds, g :: gs, acc, ns, y, z, w, h, hn, hw, hl, hg, hat, hns, hacc => by
    obtain ⟨e, r, rfl, h1, h2⟩ := h
    have hw' : ne_ p ∧ nes ps := by simpa only [nes] using hw
    rw [deps_cons] at hn
    rw [namess_cons, List.length_append] at hl
    rw [wants_cons] at hat
    rw [deals_cons, List.length_append] at hacc
    have e1 := ih m p e g ns h1 (by omega) hw'.1 (by omega) (by omega) hns hm
    obtain ⟨y', z', w', e3⟩ := p_ldeals n m ih hm d x gD y0 u ps r gs (acc ++ deal' m p g ns) (ns.drop (want p)) (.val e) (.val (.int g)) (.val (.lst ((deal' m p g ns).map D.int))) h2 (by omega) hw'.2 (by omega) (by simpa using hg) (by rw [List.length_drop]; omega) (by rw [List.length_drop]; omega) (by rw [List.length_append]; omega)
    refine ⟨y', z', w', ?_⟩
    have ad := addD_ints (a := acc) (b := deal' m p g ns) (by omega)
    rw [List.map_cons, List.zipWith_cons_cons, forGo_nx (env1 := [.val d, .val (.int m), .val x, .val (.lst (ns.map D.int)), .val gD, u, .val (.lst (acc.map D.int)), .val e, .val (.int g), w])
      (env2 := [.val d, .val (.int m), .val x, .val (.lst ((ns.drop (want p)).map D.int)), .val gD, u, .val (.lst ((acc ++ deal' m p g ns).map D.int)), .val e, .val (.int g), .val (.lst ((deal' m p g ns).map D.int))]) rfl ?_, e3]
    · rw [deals_cons, List.drop_drop, wants_cons, List.append_assoc]
    · have t : hTp 2 (hsCons (hSet 9) (hsCons (hSet 3) hsNil)) (.tup [.lst ((deal' m p g ns).map D.int), .lst ((ns.drop (want p)).map D.int)]) [.val d, .val (.int m), .val x, .val (.lst (ns.map D.int)), .val gD, u, .val (.lst (acc.map D.int)), .val e, .val (.int g), w] = some [.val d, .val (.int m), .val x, .val (.lst ((ns.drop (want p)).map D.int)), .val gD, u, .val (.lst (acc.map D.int)), .val e, .val (.int g), .val (.lst ((deal' m p g ns).map D.int))] := rfl
      simp only [fDef, fDefF, ofF, sSeq, sIf, sNext, sDrop, sRet, sRetF, sRetO, sSetC, sSetA, sPar, cV, cO, fTst, fBlt, fCall, fCallF, fCons, fNil, fName, fC, fOp, fUn, fAndV, fOrV, fNotV, fAndT, fOrT, fNotT, fIf, fTup_eq, fLst_eq, fNew_eq, chkL0, chkL1, chkL2, chkL3, chkL4, chkT1, chkT2, chkT3, chkN0, chkN1, fL, fLcL, fSeq, fStar, fIt, fStrs, fSl, fPart, sFor, sAsgT, bnd_ret, ofO_some, al, cl, Sl.al, Sl.cl, startS, wipeD, hSet, gSet, List.map_cons, List.map_nil, List.length_cons, List.length_nil, List.cons_append, List.nil_append, List.getElem?_cons_zero, List.getElem?_cons_succ, List.replicate, List.set_cons_zero, List.set_cons_succ, eqD_int, eqD_str, neD_int, eqD_bl, neD_bl, geD_int, gtD_int, ltD_int, addD_int, subD_int, Nat.reduceSub, Nat.reduceAdd, Nat.reduceLT, decide_true, decide_false, if_true, if_false, Bool.false_eq_true, Option.some.injEq, reduceIte, and_self, true_and, and_true, e1, t, ad]
theorem p_ldeal_any (n : Nat) (ih : LDealIH n) (m : Int) (ps : List Fm) (d : D) (x : Int) (ns : List Int) (h : IsF (.gate false ps) d) (hn : dep (.gate false ps) < n + 1) (hw : ne_ (.gate false ps)) (hl : (names (.gate false ps)).length ≤ 1000) (hwt : want (.gate false ps) ≤ ns.length) (hns : ns.length ≤ 1000) (hm : 0 < m) :
    lawDealN (n + 1) [d, .int m, .int x, .lst (ns.map D.int)] = ret (.tup [.lst ((deal' m (.gate false ps) x ns).map D.int), .lst ((ns.drop (want (.gate false ps))).map D.int)]) := by
  obtain ⟨l, ds, h1, h2, h3⟩ := h
  have hw' : ps ≠ [] ∧ nes ps := by simpa only [ne_] using hw
  have hlen := h3.two.length
  rw [dep_gate] at hn
  rw [names_gate] at hl
  have hL := (lens_le hw'.2).1
  have mr := mul_rep x ps.length (by omega)
  rw [want_gate, if_neg Bool.false_ne_true] at hwt
  have sq : ∀ gs : List Int, D.seq (.lst (gs.map D.int)) = some (gs.map D.int) := fun _ => rfl
  have zz := zipD_eq h2 (sq (List.replicate ps.length x))
  obtain ⟨y, z, w, e⟩ := p_ldeals n m ih hm d (.int x) (.lst ((List.replicate ps.length x).map D.int)) .non .un ps ds (List.replicate ps.length x) [] ns .un .un .un h3 (by omega) hw'.2 hl (by simp) (by omega) hns (by rw [deals_length m ps _ _ hw'.2 (by simp) (by omega)]; simpa using hl)
  rw [deal_any, want_gate, if_neg Bool.false_ne_true, Nat.zero_add]
  show fDef 10 (B__law_dealt (lawDealN n)) _ = _
  unfold B__law_dealt
  simp only [fDef, fDefF, ofF, sSeq, sIf, sNext, sDrop, sRet, sRetF, sRetO, sSetC, sSetA, sPar, cV, cO, fTst, fBlt, fCall, fCallF, fCons, fNil, fName, fC, fOp, fUn, fAndV, fOrV, fNotV, fAndT, fOrT, fNotT, fIf, fTup_eq, fLst_eq, fNew_eq, chkL0, chkL1, chkL2, chkL3, chkL4, chkT1, chkT2, chkT3, chkN0, chkN1, fL, fLcL, fSeq, fStar, fIt, fStrs, fSl, fPart, sFor, sAsgT, bnd_ret, ofO_some, al, cl, Sl.al, Sl.cl, startS, wipeD, hSet, gSet, List.map_cons, List.map_nil, List.length_cons, List.length_nil, List.cons_append, List.nil_append, List.getElem?_cons_zero, List.getElem?_cons_succ, List.replicate, List.set_cons_zero, List.set_cons_succ, eqD_int, eqD_str, neD_int, eqD_bl, neD_bl, geD_int, gtD_int, ltD_int, addD_int, subD_int, Nat.reduceSub, Nat.reduceAdd, Nat.reduceLT, decide_true, decide_false, if_true, if_false, Bool.false_eq_true, Option.some.injEq, reduceIte, and_self, true_and, and_true, ixD0 h1, ixD1 h1, kw_ne, kw_all, lenD h2, hlen, mr, zz]
  rw [List.nil_append] at e
  simp only [List.map_nil] at e
  rw [e]
  simp only [fDef, fDefF, ofF, sSeq, sIf, sNext, sDrop, sRet, sRetF, sRetO, sSetC, sSetA, sPar, cV, cO, fTst, fBlt, fCall, fCallF, fCons, fNil, fName, fC, fOp, fUn, fAndV, fOrV, fNotV, fAndT, fOrT, fNotT, fIf, fTup_eq, fLst_eq, fNew_eq, chkL0, chkL1, chkL2, chkL3, chkL4, chkT1, chkT2, chkT3, chkN0, chkN1, fL, fLcL, fSeq, fStar, fIt, fStrs, fSl, fPart, sFor, sAsgT, bnd_ret, ofO_some, al, cl, Sl.al, Sl.cl, startS, wipeD, hSet, gSet, List.map_cons, List.map_nil, List.length_cons, List.length_nil, List.cons_append, List.nil_append, List.getElem?_cons_zero, List.getElem?_cons_succ, List.replicate, List.set_cons_zero, List.set_cons_succ, eqD_int, eqD_str, neD_int, eqD_bl, neD_bl, geD_int, gtD_int, ltD_int, addD_int, subD_int, Nat.reduceSub, Nat.reduceAdd, Nat.reduceLT, decide_true, decide_false, if_true, if_false, Bool.false_eq_true, Option.some.injEq, reduceIte, and_self, true_and, and_true]
theorem p_ldeal_all (n : Nat) (ih : LDealIH n) (m : Int) (ps : List Fm) (d : D) (x : Int) (ns : List Int) (h : IsF (.gate true ps) d) (hn : dep (.gate true ps) < n + 1) (hw : ne_ (.gate true ps)) (hl : (names (.gate true ps)).length ≤ 1000) (hwt : want (.gate true ps) ≤ ns.length) (hns : ns.length ≤ 1000) (hm : 0 < m) :
    lawDealN (n + 1) [d, .int m, .int x, .lst (ns.map D.int)] = ret (.tup [.lst ((deal' m (.gate true ps) x ns).map D.int), .lst ((ns.drop (want (.gate true ps))).map D.int)]) := by
  obtain ⟨l, ds, h1, h2, h3⟩ := h
  have hw' : ps ≠ [] ∧ nes ps := by simpa only [ne_] using hw
  have hlen := h3.two.length
  rw [dep_gate] at hn
  rw [names_gate] at hl
  have hL := (lens_le hw'.2).1
  have hp : 1 ≤ ps.length := by
    cases ps with
    | nil => exact absurd rfl hw'.1
    | cons a r => simp
  have mr := mul_rep x ps.length (by omega)
  have sq : ∀ gs : List Int, D.seq (.lst (gs.map D.int)) = some (gs.map D.int) := fun _ => rfl
  rw [want_gate, if_pos rfl] at hwt
  rw [deal_all, want_gate, if_pos rfl]
  have gl : (ns.take (ps.length - 1) ++ [(x - (ns.take (ps.length - 1)).sum) % m]).length = ps.length := by
    rw [List.length_append, List.length_take]
    show _ + 1 = _
    omega
  have c1 : (ps.length : Int) - 1 = ((ps.length - 1 : Nat) : Int) := by omega
  have sl := sl_to ns (ps.length - 1)
  have sf := sl_from ns (ps.length - 1)
  have sm := sumD (ns.take (ps.length - 1))
  have md := modD_int (i := x - (ns.take (ps.length - 1)).sum) hm
  have ad := addD_ints (a := ns.take (ps.length - 1)) (b := [(x - (ns.take (ps.length - 1)).sum) % m]) (by rw [List.length_take]; show _ + 1 ≤ _; omega)
  simp only [List.map_cons, List.map_nil] at ad
  generalize hgs : ns.take (ps.length - 1) ++ [(x - (ns.take (ps.length - 1)).sum) % m] = gs at *
  have zz := zipD_eq h2 (sq gs)
  obtain ⟨y, z, w, e⟩ := p_ldeals n m ih hm d (.int x) (.lst (gs.map D.int)) .non (.val (.int ((ps.length - 1 : Nat) : Int))) ps ds gs [] (ns.drop (ps.length - 1)) .un .un .un h3 (by omega) hw'.2 hl gl (by rw [List.length_drop]; omega) (by rw [List.length_drop]; omega)
    (by rw [deals_length m ps _ _ hw'.2 gl (by rw [List.length_drop]; omega)]; simpa using hl)
  rw [List.nil_append] at e
  show fDef 10 (B__law_dealt (lawDealN n)) _ = _
  unfold B__law_dealt
  simp only [fDef, fDefF, ofF, sSeq, sIf, sNext, sDrop, sRet, sRetF, sRetO, sSetC, sSetA, sPar, cV, cO, fTst, fBlt, fCall, fCallF, fCons, fNil, fName, fC, fOp, fUn, fAndV, fOrV, fNotV, fAndT, fOrT, fNotT, fIf, fTup_eq, fLst_eq, fNew_eq, chkL0, chkL1, chkL2, chkL3, chkL4, chkT1, chkT2, chkT3, chkN0, chkN1, fL, fLcL, fSeq, fStar, fIt, fStrs, fSl, fPart, sFor, sAsgT, bnd_ret, ofO_some, al, cl, Sl.al, Sl.cl, startS, wipeD, hSet, gSet, List.map_cons, List.map_nil, List.length_cons, List.length_nil, List.cons_append, List.nil_append, List.getElem?_cons_zero, List.getElem?_cons_succ, List.replicate, List.set_cons_zero, List.set_cons_succ, eqD_int, eqD_str, neD_int, eqD_bl, neD_bl, geD_int, gtD_int, ltD_int, addD_int, subD_int, Nat.reduceSub, Nat.reduceAdd, Nat.reduceLT, decide_true, decide_false, if_true, if_false, Bool.false_eq_true, Option.some.injEq, reduceIte, and_self, true_and, and_true, ixD0 h1, ixD1 h1, kw_ne, kw_all, lenD h2, hlen, mr, c1, sl, sf, sm, bInt_int, md, ad, zz]
  simp only [List.map_nil] at e
  rw [e]
  simp only [fDef, fDefF, ofF, sSeq, sIf, sNext, sDrop, sRet, sRetF, sRetO, sSetC, sSetA, sPar, cV, cO, fTst, fBlt, fCall, fCallF, fCons, fNil, fName, fC, fOp, fUn, fAndV, fOrV, fNotV, fAndT, fOrT, fNotT, fIf, fTup_eq, fLst_eq, fNew_eq, chkL0, chkL1, chkL2, chkL3, chkL4, chkT1, chkT2, chkT3, chkN0, chkN1, fL, fLcL, fSeq, fStar, fIt, fStrs, fSl, fPart, sFor, sAsgT, bnd_ret, ofO_some, al, cl, Sl.al, Sl.cl, startS, wipeD, hSet, gSet, List.map_cons, List.map_nil, List.length_cons, List.length_nil, List.cons_append, List.nil_append, List.getElem?_cons_zero, List.getElem?_cons_succ, List.replicate, List.set_cons_zero, List.set_cons_succ, eqD_int, eqD_str, neD_int, eqD_bl, neD_bl, geD_int, gtD_int, ltD_int, addD_int, subD_int, Nat.reduceSub, Nat.reduceAdd, Nat.reduceLT, decide_true, decide_false, if_true, if_false, Bool.false_eq_true, Option.some.injEq, reduceIte, and_self, true_and, and_true]
  rw [List.drop_drop]
theorem p_ldeal : ∀ n : Nat, LDealIH n := by
  intro n
  induction n with
  | zero => exact fun m f d x ns _ h => absurd h (by omega)
  | succ n ih =>
    intro m f d x ns h hd hw hl hwt hns hm
    match f, h with
    | .name s, h =>
      show fDef 10 (B__law_dealt (lawDealN n)) _ = _
      unfold B__law_dealt
      simp only [fDef, fDefF, ofF, sSeq, sIf, sNext, sDrop, sRet, sRetF, sRetO, sSetC, sSetA, sPar, cV, cO, fTst, fBlt, fCall, fCallF, fCons, fNil, fName, fC, fOp, fUn, fAndV, fOrV, fNotV, fAndT, fOrT, fNotT, fIf, fTup_eq, fLst_eq, fNew_eq, chkL0, chkL1, chkL2, chkL3, chkL4, chkT1, chkT2, chkT3, chkN0, chkN1, fL, fLcL, fSeq, fStar, fIt, fStrs, fSl, fPart, sFor, sAsgT, bnd_ret, ofO_some, al, cl, Sl.al, Sl.cl, startS, wipeD, hSet, gSet, List.map_cons, List.map_nil, List.length_cons, List.length_nil, List.cons_append, List.nil_append, List.getElem?_cons_zero, List.getElem?_cons_succ, List.replicate, List.set_cons_zero, List.set_cons_succ, eqD_int, eqD_str, neD_int, eqD_bl, neD_bl, geD_int, gtD_int, ltD_int, addD_int, subD_int, Nat.reduceSub, Nat.reduceAdd, Nat.reduceLT, decide_true, decide_false, if_true, if_false, Bool.false_eq_true, Option.some.injEq, reduceIte, and_self, true_and, and_true, ixD0 h]
      rw [deal_name]
      simp [want]
    | .gate false ps, h => exact p_ldeal_any n ih m ps d x ns h hd hw hl hwt hns hm
    | .gate true ps, h => exact p_ldeal_all n ih m ps d x ns h hd hw hl hwt hns hm
theorem L_dealt {f : Fm} {d : D} {m x : Int} {ns : List Int} (h : IsF f d) (hn : dep f < 20) (hw : ne_ f) (hl : (names f).length ≤ 1000) (hwt : want f ≤ ns.length) (hns : ns.length ≤ 1000) (hm : 0 < m) : F__law_dealt [d, .int m, .int x, .lst (ns.map D.int)] = ret (.tup [.lst ((deal' m f x ns).map D.int), .lst ((ns.drop (want f)).map D.int)]) := p_ldeal 20 m f d x ns h hn hw hl hwt hns hm
end K75
namespace K75
open PySem PySem.Spec PyProof.Rows L2 VS
theorem lp_eq : F__law_places = F_places_of := rfl
theorem L_places {f : Fm} {d : D} (h : IsF f d) (hn : dep f < 20) (hl : (names f).length ≤ sizeLine) : F__law_places [d] = ret (.lst ((names f).map D.str)) := by
  rw [lp_eq]
  exact P_places h hn hl
def lwantN (n : Nat) : List D → M D := lev (fun r => fDef 2 (B__law_wanted r)) n
theorem p_lwant : ∀ (n : Nat) (f : Fm) (d : D), IsF f d → dep f < n → ne_ f → (names f).length ≤ sizeLine → lwantN n [d] = ret (.int (want f : Nat))
  | n + 1, .name s, d, h, hn, hw, hl => by
    show fDef 2 (B__law_wanted (lwantN n)) [d] = _
    unfold B__law_wanted
    simp only [fDef, fDefF, ofF, sSeq, sIf, sNext, sDrop, sRet, sRetF, sRetO, sSetC, sSetA, sPar, cV, cO, fTst, fBlt, fCall, fCallF, fCons, fNil, fName, fC, fOp, fUn, fAndV, fOrV, fNotV, fAndT, fOrT, fNotT, fIf, fTup_eq, fLst_eq, fNew_eq, chkL0, chkL1, chkL2, chkL3, chkL4, chkT1, chkT2, chkT3, chkN0, chkN1, fL, fLcL, fSeq, fStar, fIt, fStrs, fSl, fPart, sFor, sAsgT, bnd_ret, ofO_some, al, cl, Sl.al, Sl.cl, startS, wipeD, hSet, gSet, List.map_cons, List.map_nil, List.length_cons, List.length_nil, List.cons_append, List.nil_append, List.getElem?_cons_zero, List.getElem?_cons_succ, List.replicate, List.set_cons_zero, List.set_cons_succ, eqD_int, eqD_str, neD_int, eqD_bl, neD_bl, geD_int, gtD_int, ltD_int, addD_int, subD_int, Nat.reduceSub, Nat.reduceAdd, Nat.reduceLT, decide_true, decide_false, if_true, if_false, Bool.false_eq_true, Option.some.injEq, reduceIte, and_self, true_and, and_true, ixD0 h, nm_eq]
    simp [want]
  | n + 1, .gate b ps, d, h, hn, hw, hl => by
    obtain ⟨l, ds, h1, h2, h3⟩ := h
    have hw' : ps ≠ [] ∧ nes ps := by simpa only [ne_] using hw
    rw [names_gate] at hl
    have hL := (lens_le hw'.2).1
    have key : lcGo (gSet 1) fYes (fCall 1 (lwantN n) (fCons (fName 1) fNil)) [some d, none] ds [] = ret (ps.map fun p => .int (want p : Nat)) := by
      refine lcGo_two (R := IsF) (fun p => D.int (want p : Nat)) ps ds [] h3.two (fun p e hp he => ⟨_, rfl, ?_⟩) (by simp; omega)
      have := p_lwant n p e he (dep_lt hp hn) (nes_mem hw'.2 hp) (Nat.le_trans (names_mem hp) hl)
      simp only [fDef, fDefF, ofF, sSeq, sIf, sNext, sDrop, sRet, sRetF, sRetO, sSetC, sSetA, sPar, cV, cO, fTst, fBlt, fCall, fCallF, fCons, fNil, fName, fC, fOp, fUn, fAndV, fOrV, fNotV, fAndT, fOrT, fNotT, fIf, fTup_eq, fLst_eq, fNew_eq, chkL0, chkL1, chkL2, chkL3, chkL4, chkT1, chkT2, chkT3, chkN0, chkN1, fL, fLcL, fSeq, fStar, fIt, fStrs, fSl, fPart, sFor, sAsgT, bnd_ret, ofO_some, al, cl, Sl.al, Sl.cl, startS, wipeD, hSet, gSet, List.map_cons, List.map_nil, List.length_cons, List.length_nil, List.cons_append, List.nil_append, List.getElem?_cons_zero, List.getElem?_cons_succ, List.replicate, List.set_cons_zero, List.set_cons_succ, eqD_int, eqD_str, neD_int, eqD_bl, neD_bl, geD_int, gtD_int, ltD_int, addD_int, subD_int, Nat.reduceSub, Nat.reduceAdd, Nat.reduceLT, decide_true, decide_false, if_true, if_false, Bool.false_eq_true, Option.some.injEq, reduceIte, and_self, true_and, and_true, this]
    show fDef 2 (B__law_wanted (lwantN n)) [d] = _
    unfold B__law_wanted
    have hc : (if b = true then (VS.ret (D.int ((ds.length : Int) - 1)) : M D) else VS.ret (.int 0)) = ret (.int (if b = true then (ds.length : Int) - 1 else 0)) := by cases b <;> rfl
    have hs : onInts (fun bs => some (.int bs.sum)) [.lst (ps.map fun p => D.int (want p : Nat))] = some (.int (wants ps : Nat)) := by
      have := onInts_map (fun bs => some (.int bs.sum)) (ps.map fun p => (want p : Int))
      rw [wants_sum, List.map_map] at this
      exact this
    have hlen := h3.two.length
    have hp : 1 ≤ ps.length := by
      cases ps with
      | nil => exact absurd rfl hw'.1
      | cons a r => simp
    simp only [fDef, fDefF, ofF, sSeq, sIf, sNext, sDrop, sRet, sRetF, sRetO, sSetC, sSetA, sPar, cV, cO, fTst, fBlt, fCall, fCallF, fCons, fNil, fName, fC, fOp, fUn, fAndV, fOrV, fNotV, fAndT, fOrT, fNotT, fIf, fTup_eq, fLst_eq, fNew_eq, chkL0, chkL1, chkL2, chkL3, chkL4, chkT1, chkT2, chkT3, chkN0, chkN1, fL, fLcL, fSeq, fStar, fIt, fStrs, fSl, fPart, sFor, sAsgT, bnd_ret, ofO_some, al, cl, Sl.al, Sl.cl, startS, wipeD, hSet, gSet, List.map_cons, List.map_nil, List.length_cons, List.length_nil, List.cons_append, List.nil_append, List.getElem?_cons_zero, List.getElem?_cons_succ, List.replicate, List.set_cons_zero, List.set_cons_succ, eqD_int, eqD_str, neD_int, eqD_bl, neD_bl, geD_int, gtD_int, ltD_int, addD_int, subD_int, Nat.reduceSub, Nat.reduceAdd, Nat.reduceLT, decide_true, decide_false, if_true, if_false, Bool.false_eq_true, Option.some.injEq, reduceIte, and_self, true_and, and_true, ixD0 h1, kw_ne, kw_all, ixD1 h1, lenD h2, h2, hc, key, hs]
    rw [want_gate, hlen]
    cases b
    · simp
    · simp only [if_true]
      congr 2
      omega
theorem L_want {f : Fm} {d : D} (h : IsF f d) (hn : dep f < 20) (hw : ne_ f) (hl : (names f).length ≤ sizeLine) : F__law_wanted [d] = ret (.int (want f : Nat)) := p_lwant 20 f d h hn hw hl
/-! ### the shares in parts -/
def chunk : List Fm → List Int → List (List Int)
  | [], _ => []
  | p :: ps, xs => xs.take (names p).length :: chunk ps (xs.drop (names p).length)
def prt (e : D) (c : List Int) : D := .tup [e, .lst (c.map D.int)]
theorem lenS (ns : List Str) : bLen [.lst (ns.map D.str)] = some (.int (ns.length : Nat)) := by
  show some (D.int ((ns.map D.str).length : Nat)) = _
  rw [List.length_map]
theorem p_parts (d : D) (xs : List Int) (hx : xs.length ≤ 1000) (law : Bool) : ∀ (ps : List Fm) (ds acc : List D) (at_ : Nat) (y z : Sl), IsFs ps ds → deps ps < 20 → (namess ps).length ≤ 1000 → at_ + (namess ps).length ≤ xs.length → acc.length + ps.length ≤ 2000 →
    ∃ y' z', forGo (hSet 4) (sSeq (sSetC 5 (cV (fBlt bLen (fCons (fCall 1 F_places_of (fCons (fName 4) fNil)) fNil)))) (sSeq (sMut 2 stAppend (fCons (fTup (fCons (fName 4) (fCons (if law = true then fL (fIt (one D.seq) (fCons (fSl (fName 1) (fPart (fName 3)) (fPart (fOp oAdd (fName 3) (fName 5)))) fNil)) else fSl (fName 1) (fPart (fName 3)) (fPart (fOp oAdd (fName 3) (fName 5)))) fNil))) fNil)) (sSetC 3 (cV (fOp oAdd (fName 3) (fName 5))))))
      ds [.val d, .val (.lst (xs.map D.int)), .own acc, .val (.int (at_ : Nat)), y, z] = ret (.nx [.val d, .val (.lst (xs.map D.int)), .own (acc ++ List.zipWith prt ds (chunk ps (xs.drop at_))), .val (.int ((at_ + (namess ps).length : Nat) : Int)), y', z'])
  | [], ds, acc, at_, y, z, h, hn, hl, hat, ha => by
    cases (show ds = [] from h)
    exact ⟨y, z, by simp [forGo, chunk, namess]⟩
  | p :: ps, ds, acc, at_, y, z, h, hn, hl, hat, ha => by
    obtain ⟨e, r, rfl, h1, h2⟩ := h
    rw [deps_cons] at hn
    rw [namess_cons, List.length_append] at hl hat
    rw [List.length_cons] at ha
    obtain ⟨y', z', e3⟩ := p_parts d xs hx law ps r (acc ++ [prt e ((xs.drop at_).take (names p).length)]) (at_ + (names p).length) (.val e) (.val (.int ((names p).length : Nat))) h2 (by omega) (by omega) (by omega) (by rw [List.length_append]; show acc.length + 1 + ps.length ≤ _; omega)
    refine ⟨y', z', ?_⟩
    have pl := P_places h1 (by omega) (sz (by omega))
    have sl := sl_mid xs at_ (names p).length (by omega)
    have c1 : ((at_ : Nat) : Int) + ((names p).length : Nat) = ((at_ + (names p).length : Nat) : Int) := by omega
    have one_ : one D.seq [.lst (((xs.drop at_).take (names p).length).map D.int)] = some (((xs.drop at_).take (names p).length).map D.int) := rfl
    have st := stAppend_ok (a := acc) (d := prt e ((xs.drop at_).take (names p).length)) (by have := sz (n := acc.length + 1) (by omega); omega)
    rw [forGo_nx (env1 := [.val d, .val (.lst (xs.map D.int)), .own acc, .val (.int (at_ : Nat)), .val e, z]) (env2 := [.val d, .val (.lst (xs.map D.int)), .own (acc ++ [prt e ((xs.drop at_).take (names p).length)]), .val (.int ((at_ + (names p).length : Nat) : Int)), .val e, .val (.int ((names p).length : Nat))]) rfl ?_, e3]
    · simp only [chunk, List.zipWith_cons_cons, List.drop_drop, namess_cons, List.length_append, List.append_assoc, Nat.add_assoc, List.cons_append, List.nil_append]
    · have mu := sMut_ok (i := 2) (step := stAppend) (F := fCons (fTup (fCons (fName 4) (fCons (if law = true then fL (fIt (one D.seq) (fCons (fSl (fName 1) (fPart (fName 3)) (fPart (fOp oAdd (fName 3) (fName 5)))) fNil)) else fSl (fName 1) (fPart (fName 3)) (fPart (fOp oAdd (fName 3) (fName 5)))) fNil))) fNil)
        (env := [.val d, .val (.lst (xs.map D.int)), .own acc, .val (.int (at_ : Nat)), .val e, .val (.int ((names p).length : Nat))]) rfl (by cases law <;> (simp only [fDef, fDefF, ofF, sSeq, sIf, sNext, sDrop, sRet, sRetF, sRetO, sSetC, sSetA, sPar, cV, cO, fTst, fBlt, fCall, fCallF, fCons, fNil, fName, fC, fOp, fUn, fAndV, fOrV, fNotV, fAndT, fOrT, fNotT, fIf, fTup_eq, fLst_eq, fNew_eq, chkL0, chkL1, chkL2, chkL3, chkL4, chkT1, chkT2, chkT3, chkN0, chkN1, fL, fLcL, fSeq, fStar, fIt, fStrs, fSl, fPart, sFor, sAsgT, bnd_ret, ofO_some, al, cl, Sl.al, Sl.cl, startS, wipeD, hSet, gSet, List.map_cons, List.map_nil, List.length_cons, List.length_nil, List.cons_append, List.nil_append, List.getElem?_cons_zero, List.getElem?_cons_succ, List.replicate, List.set_cons_zero, List.set_cons_succ, eqD_int, eqD_str, neD_int, eqD_bl, neD_bl, geD_int, gtD_int, ltD_int, addD_int, subD_int, Nat.reduceSub, Nat.reduceAdd, Nat.reduceLT, decide_true, decide_false, if_true, if_false, Bool.false_eq_true, Option.some.injEq, reduceIte, and_self, true_and, and_true, sl, one_]; rfl)) st
      simp only [fDef, fDefF, ofF, sSeq, sIf, sNext, sDrop, sRet, sRetF, sRetO, sSetC, sSetA, sPar, cV, cO, fTst, fBlt, fCall, fCallF, fCons, fNil, fName, fC, fOp, fUn, fAndV, fOrV, fNotV, fAndT, fOrT, fNotT, fIf, fTup_eq, fLst_eq, fNew_eq, chkL0, chkL1, chkL2, chkL3, chkL4, chkT1, chkT2, chkT3, chkN0, chkN1, fL, fLcL, fSeq, fStar, fIt, fStrs, fSl, fPart, sFor, sAsgT, bnd_ret, ofO_some, al, cl, Sl.al, Sl.cl, startS, wipeD, hSet, gSet, List.map_cons, List.map_nil, List.length_cons, List.length_nil, List.cons_append, List.nil_append, List.getElem?_cons_zero, List.getElem?_cons_succ, List.replicate, List.set_cons_zero, List.set_cons_succ, eqD_int, eqD_str, neD_int, eqD_bl, neD_bl, geD_int, gtD_int, ltD_int, addD_int, subD_int, Nat.reduceSub, Nat.reduceAdd, Nat.reduceLT, decide_true, decide_false, if_true, if_false, Bool.false_eq_true, Option.some.injEq, reduceIte, and_self, true_and, and_true, pl, lenS, mu, c1]
theorem P_parted {b : Bool} {ps : List Fm} {d : D} {xs : List Int} (h : IsF (.gate b ps) d) (hn : dep (.gate b ps) < 20) (hw : ne_ (.gate b ps)) (hl : (names (.gate b ps)).length ≤ 1000) (hx : xs.length = (names (.gate b ps)).length) :
    ∃ ds, IsFs ps ds ∧ F_parted [d, .lst (xs.map D.int)] = ret (.lst (List.zipWith prt ds (chunk ps xs))) ∧ F__law_parted [d, .lst (xs.map D.int)] = ret (.lst (List.zipWith prt ds (chunk ps xs))) := by
  obtain ⟨l, ds, h1, h2, h3⟩ := h
  have hw' : ps ≠ [] ∧ nes ps := by simpa only [ne_] using hw
  rw [dep_gate] at hn
  rw [names_gate] at hl hx
  have hL := (lens_le hw'.2).1
  refine ⟨ds, h3, ?_, ?_⟩
  · obtain ⟨y, z, e⟩ := p_parts d xs (by omega) false ps ds [] 0 .un .un h3 (by omega) hl (by omega) (by simp; omega)
    unfold F_parted B_parted
    simp only [fDef, fDefF, ofF, sSeq, sIf, sNext, sDrop, sRet, sRetF, sRetO, sSetC, sSetA, sPar, cV, cO, fTst, fBlt, fCall, fCallF, fCons, fNil, fName, fC, fOp, fUn, fAndV, fOrV, fNotV, fAndT, fOrT, fNotT, fIf, fTup_eq, fLst_eq, fNew_eq, chkL0, chkL1, chkL2, chkL3, chkL4, chkT1, chkT2, chkT3, chkN0, chkN1, fL, fLcL, fSeq, fStar, fIt, fStrs, fSl, fPart, sFor, sAsgT, bnd_ret, ofO_some, al, cl, Sl.al, Sl.cl, startS, wipeD, hSet, gSet, List.map_cons, List.map_nil, List.length_cons, List.length_nil, List.cons_append, List.nil_append, List.getElem?_cons_zero, List.getElem?_cons_succ, List.replicate, List.set_cons_zero, List.set_cons_succ, eqD_int, eqD_str, neD_int, eqD_bl, neD_bl, geD_int, gtD_int, ltD_int, addD_int, subD_int, Nat.reduceSub, Nat.reduceAdd, Nat.reduceLT, decide_true, decide_false, if_true, if_false, Bool.false_eq_true, Option.some.injEq, reduceIte, and_self, true_and, and_true, ixD1 h1, h2]
    simp only [Bool.false_eq_true, if_false, List.drop_zero, List.nil_append] at e
    rw [show ((0 : Nat) : Int) = 0 from rfl] at e
    rw [e]
    simp only [fDef, fDefF, ofF, sSeq, sIf, sNext, sDrop, sRet, sRetF, sRetO, sSetC, sSetA, sPar, cV, cO, fTst, fBlt, fCall, fCallF, fCons, fNil, fName, fC, fOp, fUn, fAndV, fOrV, fNotV, fAndT, fOrT, fNotT, fIf, fTup_eq, fLst_eq, fNew_eq, chkL0, chkL1, chkL2, chkL3, chkL4, chkT1, chkT2, chkT3, chkN0, chkN1, fL, fLcL, fSeq, fStar, fIt, fStrs, fSl, fPart, sFor, sAsgT, bnd_ret, ofO_some, al, cl, Sl.al, Sl.cl, startS, wipeD, hSet, gSet, List.map_cons, List.map_nil, List.length_cons, List.length_nil, List.cons_append, List.nil_append, List.getElem?_cons_zero, List.getElem?_cons_succ, List.replicate, List.set_cons_zero, List.set_cons_succ, eqD_int, eqD_str, neD_int, eqD_bl, neD_bl, geD_int, gtD_int, ltD_int, addD_int, subD_int, Nat.reduceSub, Nat.reduceAdd, Nat.reduceLT, decide_true, decide_false, if_true, if_false, Bool.false_eq_true, Option.some.injEq, reduceIte, and_self, true_and, and_true]
  · obtain ⟨y, z, e⟩ := p_parts d xs (by omega) true ps ds [] 0 .un .un h3 (by omega) hl (by omega) (by simp; omega)
    unfold F__law_parted B__law_parted
    rw [lp_eq]
    simp only [fDef, fDefF, ofF, sSeq, sIf, sNext, sDrop, sRet, sRetF, sRetO, sSetC, sSetA, sPar, cV, cO, fTst, fBlt, fCall, fCallF, fCons, fNil, fName, fC, fOp, fUn, fAndV, fOrV, fNotV, fAndT, fOrT, fNotT, fIf, fTup_eq, fLst_eq, fNew_eq, chkL0, chkL1, chkL2, chkL3, chkL4, chkT1, chkT2, chkT3, chkN0, chkN1, fL, fLcL, fSeq, fStar, fIt, fStrs, fSl, fPart, sFor, sAsgT, bnd_ret, ofO_some, al, cl, Sl.al, Sl.cl, startS, wipeD, hSet, gSet, List.map_cons, List.map_nil, List.length_cons, List.length_nil, List.cons_append, List.nil_append, List.getElem?_cons_zero, List.getElem?_cons_succ, List.replicate, List.set_cons_zero, List.set_cons_succ, eqD_int, eqD_str, neD_int, eqD_bl, neD_bl, geD_int, gtD_int, ltD_int, addD_int, subD_int, Nat.reduceSub, Nat.reduceAdd, Nat.reduceLT, decide_true, decide_false, if_true, if_false, Bool.false_eq_true, Option.some.injEq, reduceIte, and_self, true_and, and_true, ixD1 h1, h2]
    simp only [if_true, List.drop_zero, List.nil_append] at e
    rw [show ((0 : Nat) : Int) = 0 from rfl] at e
    rw [e]
    simp only [fDef, fDefF, ofF, sSeq, sIf, sNext, sDrop, sRet, sRetF, sRetO, sSetC, sSetA, sPar, cV, cO, fTst, fBlt, fCall, fCallF, fCons, fNil, fName, fC, fOp, fUn, fAndV, fOrV, fNotV, fAndT, fOrT, fNotT, fIf, fTup_eq, fLst_eq, fNew_eq, chkL0, chkL1, chkL2, chkL3, chkL4, chkT1, chkT2, chkT3, chkN0, chkN1, fL, fLcL, fSeq, fStar, fIt, fStrs, fSl, fPart, sFor, sAsgT, bnd_ret, ofO_some, al, cl, Sl.al, Sl.cl, startS, wipeD, hSet, gSet, List.map_cons, List.map_nil, List.length_cons, List.length_nil, List.cons_append, List.nil_append, List.getElem?_cons_zero, List.getElem?_cons_succ, List.replicate, List.set_cons_zero, List.set_cons_succ, eqD_int, eqD_str, neD_int, eqD_bl, neD_bl, geD_int, gtD_int, ltD_int, addD_int, subD_int, Nat.reduceSub, Nat.reduceAdd, Nat.reduceLT, decide_true, decide_false, if_true, if_false, Bool.false_eq_true, Option.some.injEq, reduceIte, and_self, true_and, and_true]
end K75
namespace K75
open PySem PySem.Spec PyProof.Rows L2 VS
def dO : Option Int → D
  | none => .non
  | some i => .int i
def vO : Option Int → V
  | none => .non
  | some i => .int i
theorem scs_dO : ∀ rs : List (Option Int), scs (rs.map dO) = some (rs.map vO)
  | [] => rfl
  | none :: rs => by
    rw [List.map_cons, List.map_cons]
    unfold scs
    rw [scs_dO rs]
    rfl
  | some i :: rs => by
    rw [List.map_cons, List.map_cons]
    unfold scs
    rw [scs_dO rs]
    rfl
theorem inV_non : ∀ rs : List (Option Int), inV .non (rs.map vO) = rs.any (·.isNone)
  | [] => rfl
  | none :: rs => by
    rw [List.map_cons]
    unfold inV
    rw [List.any_cons, List.any_cons]
    rfl
  | some i :: rs => by
    have ih := inV_non rs
    unfold inV at ih ⊢
    rw [List.map_cons, List.any_cons, List.any_cons, ih]
    rfl
theorem in_non (rs : List (Option Int)) : oIn .non (.lst (rs.map dO)) = some (.bl (rs.any (·.isNone))) := by
  have e : inQ false .non (.lst (rs.map dO)) = some (.bl (rs.any (·.isNone))) := by
    have h : inQ false .non (.lst (rs.map dO)) = (match (D.lst (rs.map dO)).seq.bind scs with | some xs => some (.bl (inV .non xs)) | none => none) := by
      show (match D.non.sc, (D.lst (rs.map dO)).seq.bind scs with | some x, some xs => some (D.bl (if false then !inV x xs else inV x xs)) | _, _ => none) = _
      cases (D.lst (rs.map dO)).seq.bind scs <;> rfl
    rw [h, show (D.lst (rs.map dO)).seq.bind scs = scs (rs.map dO) from rfl, scs_dO]
    simp only [inV_non]
  unfold oIn orO
  rw [e]
def ints_ : List (Option Int) → List Int
  | [] => []
  | none :: r => ints_ r
  | some i :: r => i :: ints_ r
theorem ints_of : ∀ {rs : List (Option Int)}, rs.any (·.isNone) = false → rs.map dO = (ints_ rs).map D.int ∧ rs = (ints_ rs).map some
  | [], _ => ⟨rfl, rfl⟩
  | none :: r, h => by simp at h
  | some i :: r, h => by
    have ih := ints_of (rs := r) (by simpa using h)
    exact ⟨by rw [List.map_cons, ih.1]; rfl, by
      conv => lhs; rw [ih.2]
      rfl⟩
/-! ### the secret of the shares -/
def comb (m : Int) (b : Bool) (rs : List (Option Int)) : Option Int :=
  if rs.any (·.isNone) then none else if b then some ((ints_ rs).sum % m) else match ints_ rs with
    | [] => none
    | x :: r => if (x :: r).all (fun y => decide (y = x)) then some x else none
mutual
def sec (m : Int) : Fm → List Int → Option Int
  | .name _, xs => xs.head?
  | .gate b ps, xs => comb m b (secs m ps xs)
def secs (m : Int) : List Fm → List Int → List (Option Int)
  | [], _ => []
  | p :: ps, xs => sec m p (xs.take (names p).length) :: secs m ps (xs.drop (names p).length)
end
theorem sec_gate (m : Int) (b : Bool) (ps : List Fm) (xs : List Int) : sec m (.gate b ps) xs = comb m b (secs m ps xs) := by simp [sec]
theorem secs_cons (m : Int) (p : Fm) (ps : List Fm) (xs : List Int) : secs m (p :: ps) xs = sec m p (xs.take (names p).length) :: secs m ps (xs.drop (names p).length) := by simp [secs]
theorem secs_length (m : Int) : ∀ (ps : List Fm) (xs : List Int), (secs m ps xs).length = ps.length
  | [], xs => by simp [secs]
  | p :: ps, xs => by rw [secs_cons, List.length_cons, List.length_cons, secs_length m ps]
theorem mm_eq : ∀ (r : List Int) (x : Int), decide (r.foldl min x = r.foldl max x) = (x :: r).all (fun y => decide (y = x)) := by
  intro r x
  have h1 := foldl_min r x
  have h2 := foldl_max r x
  rw [Bool.eq_iff_iff]
  simp only [decide_eq_true_eq, List.all_eq_true]
  constructor
  · intro h y hy
    have a1 := h1.2 y hy
    have a2 := h2.2 y hy
    have b1 := h1.2 x List.mem_cons_self
    have b2 := h2.2 x List.mem_cons_self
    omega
  · intro h
    have a1 := h _ h1.1
    have a2 := h _ h2.1
    omega
def RP : Fm × List Int → D → Prop := fun a t => ∃ e, IsF a.1 e ∧ t = prt e a.2 ∧ a.2.length = (names a.1).length
theorem two_parts : ∀ (ps : List Fm) (ds : List D) (xs : List Int), IsFs ps ds → xs.length = (namess ps).length → Two RP (ps.zip (chunk ps xs)) (List.zipWith prt ds (chunk ps xs))
  | [], ds, xs, h, hx => by
    cases (show ds = [] from h)
    exact rfl
  | p :: ps, ds, xs, h, hx => by
    obtain ⟨e, r, rfl, h1, h2⟩ := h
    rw [namess_cons, List.length_append] at hx
    exact ⟨prt e (xs.take (names p).length), _, rfl, ⟨e, h1, rfl, by show (xs.take (names p).length).length = (names p).length; rw [List.length_take]; omega⟩, two_parts ps r _ h2 (by rw [List.length_drop]; omega)⟩
theorem parts_map {α : Type} (k : Fm → List Int → α) (ks : List Fm → List Int → List α) (h0 : ∀ xs, ks [] xs = []) (h1 : ∀ p ps xs, ks (p :: ps) xs = k p (xs.take (names p).length) :: ks ps (xs.drop (names p).length)) : ∀ (ps : List Fm) (xs : List Int), ((ps.zip (chunk ps xs)).map fun a => k a.1 a.2) = ks ps xs
  | [], xs => (h0 xs).symm
  | p :: ps, xs => by
    rw [h1]
    show k p (xs.take (names p).length) :: ((ps.zip (chunk ps (xs.drop (names p).length))).map fun a => k a.1 a.2) = _
    rw [parts_map k ks h0 h1 ps]
theorem zip_len (ps : List Fm) (xs : List Int) : (ps.zip (chunk ps xs)).length ≤ ps.length := by
  rw [List.length_zip]
  omega
theorem inner_len {b : Bool} {ps : List Fm} {a : Fm × List Int} {xs : List Int} (h : a ∈ ps.zip (chunk ps xs)) : a.1 ∈ ps := (List.of_mem_zip (a := a.1) (b := a.2) h).1
theorem ix_head {xs : List Int} (h : 0 < xs.length) : oIx (.lst (xs.map D.int)) (.int 0) = some (dO xs.head?) := by
  cases xs with
  | nil => simp at h
  | cons x r => exact ixD0 (d := .lst (D.int x :: r.map D.int)) rfl
def secN (n : Nat) : List D → M D := lev (fun r => fDef 6 (B_dealt_from r)) n
theorem min_int (x : Int) (r : List Int) : onInts (fun bs => (minI bs).map .int) [.lst (.int x :: r.map D.int)] = some (.int (r.foldl min x)) := onInts_map _ (x :: r)
theorem max_int (x : Int) (r : List Int) : onInts (fun bs => (maxI bs).map .int) [.lst (.int x :: r.map D.int)] = some (.int (r.foldl max x)) := onInts_map _ (x :: r)
theorem p_sec : ∀ (n : Nat), n ≤ 20 → ∀ (m : Int) (f : Fm) (d : D) (xs : List Int), 0 < m → IsF f d → dep f < n → ne_ f → (names f).length ≤ 1000 → xs.length = (names f).length → secN n [d, .int m, .lst (xs.map D.int)] = ret (dO (sec m f xs)) := by
  intro n
  induction n with
  | zero => exact fun _ m f d xs _ _ h => absurd h (by omega)
  | succ n ih =>
    intro hn20 m f d xs hm h hn hw hl hx
    match f, h with
    | .name s, h =>
      have e := ix_head (xs := xs) (by rw [hx]; simp [names])
      show fDef 6 (B_dealt_from (secN n)) _ = _
      unfold B_dealt_from
      simp only [fDef, fDefF, ofF, sSeq, sIf, sNext, sDrop, sRet, sRetF, sRetO, sSetC, sSetA, sPar, cV, cO, fTst, fBlt, fCall, fCallF, fCons, fNil, fName, fC, fOp, fUn, fAndV, fOrV, fNotV, fAndT, fOrT, fNotT, fIf, fTup_eq, fLst_eq, fNew_eq, chkL0, chkL1, chkL2, chkL3, chkL4, chkT1, chkT2, chkT3, chkN0, chkN1, fL, fLcL, fSeq, fStar, fIt, fStrs, fSl, fPart, sFor, sAsgT, bnd_ret, ofO_some, al, cl, Sl.al, Sl.cl, startS, wipeD, hSet, gSet, List.map_cons, List.map_nil, List.length_cons, List.length_nil, List.cons_append, List.nil_append, List.getElem?_cons_zero, List.getElem?_cons_succ, List.replicate, List.set_cons_zero, List.set_cons_succ, eqD_int, eqD_str, neD_int, eqD_bl, neD_bl, geD_int, gtD_int, ltD_int, addD_int, subD_int, Nat.reduceSub, Nat.reduceAdd, Nat.reduceLT, decide_true, decide_false, if_true, if_false, Bool.false_eq_true, Option.some.injEq, reduceIte, and_self, true_and, and_true, ixD0 h, e]
      simp [sec]
    | .gate b ps, h =>
      obtain ⟨ds, h3, pt, _⟩ := P_parted h (by omega) hw hl hx
      obtain ⟨l, ds', h1, h2, _⟩ := h
      have hw' : ps ≠ [] ∧ nes ps := by simpa only [ne_] using hw
      rw [names_gate] at hl hx
      have hL := (lens_le hw'.2).1
      have key : ∀ env : DEnv, env = [some d, some (.int m), some (.lst (xs.map D.int)), none, none, none] → lcGo (gTp 2 (gsCons (gSet 4) (gsCons (gSet 5) gsNil))) fYes (fCall 3 (secN n) (fCons (fName 4) (fCons (fName 1) (fCons (fName 5) fNil)))) env (List.zipWith prt ds (chunk ps xs)) [] = ret ((secs m ps xs).map dO) := by
        rintro env rfl
        refine (lcGo_two (R := RP) (fun a => dO (sec m a.1 a.2)) (ps.zip (chunk ps xs)) _ [] (two_parts ps ds xs h3 hx) (fun a t ha hr => ?_) (by have := zip_len ps xs; exact sz (by simp only [List.length_nil]; omega))).trans ?_
        · obtain ⟨e, he, rfl, hc⟩ := hr
          have hp := inner_len (b := b) ha
          have e1 := ih (by omega) m a.1 e a.2 hm he (dep_lt hp hn) (nes_mem hw'.2 hp) (Nat.le_trans (names_mem hp) hl) hc
          refine ⟨_, rfl, ?_⟩
          simp only [fDef, fDefF, ofF, sSeq, sIf, sNext, sDrop, sRet, sRetF, sRetO, sSetC, sSetA, sPar, cV, cO, fTst, fBlt, fCall, fCallF, fCons, fNil, fName, fC, fOp, fUn, fAndV, fOrV, fNotV, fAndT, fOrT, fNotT, fIf, fTup_eq, fLst_eq, fNew_eq, chkL0, chkL1, chkL2, chkL3, chkL4, chkT1, chkT2, chkT3, chkN0, chkN1, fL, fLcL, fSeq, fStar, fIt, fStrs, fSl, fPart, sFor, sAsgT, bnd_ret, ofO_some, al, cl, Sl.al, Sl.cl, startS, wipeD, hSet, gSet, List.map_cons, List.map_nil, List.length_cons, List.length_nil, List.cons_append, List.nil_append, List.getElem?_cons_zero, List.getElem?_cons_succ, List.replicate, List.set_cons_zero, List.set_cons_succ, eqD_int, eqD_str, neD_int, eqD_bl, neD_bl, geD_int, gtD_int, ltD_int, addD_int, subD_int, Nat.reduceSub, Nat.reduceAdd, Nat.reduceLT, decide_true, decide_false, if_true, if_false, Bool.false_eq_true, Option.some.injEq, reduceIte, and_self, true_and, and_true, e1]
        · rw [List.nil_append, ← parts_map (fun p c => sec m p c) (secs m) (fun xs => by simp [secs]) (fun p ps xs => secs_cons m p ps xs) ps xs, List.map_map]
          rfl
      have hrs := secs_length m ps xs
      rw [sec_gate]
      generalize secs m ps xs = rs at *
      have mo := in_non rs
      have sq : (D.lst (List.zipWith prt ds (chunk ps xs))).seq = some (List.zipWith prt ds (chunk ps xs)) := rfl
      have k1 := key _ rfl
      show fDef 6 (B_dealt_from (secN n)) _ = _
      unfold B_dealt_from
      simp only [fDef, fDefF, ofF, sSeq, sIf, sNext, sDrop, sRet, sRetF, sRetO, sSetC, sSetA, sPar, cV, cO, fTst, fBlt, fCall, fCallF, fCons, fNil, fName, fC, fOp, fUn, fAndV, fOrV, fNotV, fAndT, fOrT, fNotT, fIf, fTup_eq, fLst_eq, fNew_eq, chkL0, chkL1, chkL2, chkL3, chkL4, chkT1, chkT2, chkT3, chkN0, chkN1, fL, fLcL, fSeq, fStar, fIt, fStrs, fSl, fPart, sFor, sAsgT, bnd_ret, ofO_some, al, cl, Sl.al, Sl.cl, startS, wipeD, hSet, gSet, List.map_cons, List.map_nil, List.length_cons, List.length_nil, List.cons_append, List.nil_append, List.getElem?_cons_zero, List.getElem?_cons_succ, List.replicate, List.set_cons_zero, List.set_cons_succ, eqD_int, eqD_str, neD_int, eqD_bl, neD_bl, geD_int, gtD_int, ltD_int, addD_int, subD_int, Nat.reduceSub, Nat.reduceAdd, Nat.reduceLT, decide_true, decide_false, if_true, if_false, Bool.false_eq_true, Option.some.injEq, reduceIte, and_self, true_and, and_true, ixD0 h1, kw_ne, kw_all, pt, sq, k1, mo]
      cases hb : rs.any (·.isNone) with
      | true =>
        simp only [fDef, fDefF, ofF, sSeq, sIf, sNext, sDrop, sRet, sRetF, sRetO, sSetC, sSetA, sPar, cV, cO, fTst, fBlt, fCall, fCallF, fCons, fNil, fName, fC, fOp, fUn, fAndV, fOrV, fNotV, fAndT, fOrT, fNotT, fIf, fTup_eq, fLst_eq, fNew_eq, chkL0, chkL1, chkL2, chkL3, chkL4, chkT1, chkT2, chkT3, chkN0, chkN1, fL, fLcL, fSeq, fStar, fIt, fStrs, fSl, fPart, sFor, sAsgT, bnd_ret, ofO_some, al, cl, Sl.al, Sl.cl, startS, wipeD, hSet, gSet, List.map_cons, List.map_nil, List.length_cons, List.length_nil, List.cons_append, List.nil_append, List.getElem?_cons_zero, List.getElem?_cons_succ, List.replicate, List.set_cons_zero, List.set_cons_succ, eqD_int, eqD_str, neD_int, eqD_bl, neD_bl, geD_int, gtD_int, ltD_int, addD_int, subD_int, Nat.reduceSub, Nat.reduceAdd, Nat.reduceLT, decide_true, decide_false, if_true, if_false, Bool.false_eq_true, Option.some.injEq, reduceIte, and_self, true_and, and_true]
        unfold comb
        rw [hb, if_pos rfl]
        rfl
      | false =>
        obtain ⟨q1, q2⟩ := ints_of hb
        cases b with
        | true =>
          have sm := sumD (ints_ rs)
          have md := modD_int (i := (ints_ rs).sum) hm
          rw [q1]
          simp only [fDef, fDefF, ofF, sSeq, sIf, sNext, sDrop, sRet, sRetF, sRetO, sSetC, sSetA, sPar, cV, cO, fTst, fBlt, fCall, fCallF, fCons, fNil, fName, fC, fOp, fUn, fAndV, fOrV, fNotV, fAndT, fOrT, fNotT, fIf, fTup_eq, fLst_eq, fNew_eq, chkL0, chkL1, chkL2, chkL3, chkL4, chkT1, chkT2, chkT3, chkN0, chkN1, fL, fLcL, fSeq, fStar, fIt, fStrs, fSl, fPart, sFor, sAsgT, bnd_ret, ofO_some, al, cl, Sl.al, Sl.cl, startS, wipeD, hSet, gSet, List.map_cons, List.map_nil, List.length_cons, List.length_nil, List.cons_append, List.nil_append, List.getElem?_cons_zero, List.getElem?_cons_succ, List.replicate, List.set_cons_zero, List.set_cons_succ, eqD_int, eqD_str, neD_int, eqD_bl, neD_bl, geD_int, gtD_int, ltD_int, addD_int, subD_int, Nat.reduceSub, Nat.reduceAdd, Nat.reduceLT, decide_true, decide_false, if_true, if_false, Bool.false_eq_true, Option.some.injEq, reduceIte, and_self, true_and, and_true, ixD0 h1, kw_all, sm, md]
          unfold comb
          rw [hb]
          rfl
        | false =>
          cases hi : ints_ rs with
          | nil =>
            rw [q2, hi] at hrs
            have : ps = [] := List.length_eq_zero_iff.mp hrs.symm
            exact absurd this hw'.1
          | cons x r =>
            have mn := min_int x r
            have mx := max_int x r
            have ih0 : oIx (.lst (.int x :: r.map D.int)) (.int 0) = some (.int x) := ix_head (xs := x :: r) (by simp)
            have he := mm_eq r x
            rw [q1, hi]
            simp only [fDef, fDefF, ofF, sSeq, sIf, sNext, sDrop, sRet, sRetF, sRetO, sSetC, sSetA, sPar, cV, cO, fTst, fBlt, fCall, fCallF, fCons, fNil, fName, fC, fOp, fUn, fAndV, fOrV, fNotV, fAndT, fOrT, fNotT, fIf, fTup_eq, fLst_eq, fNew_eq, chkL0, chkL1, chkL2, chkL3, chkL4, chkT1, chkT2, chkT3, chkN0, chkN1, fL, fLcL, fSeq, fStar, fIt, fStrs, fSl, fPart, sFor, sAsgT, bnd_ret, ofO_some, al, cl, Sl.al, Sl.cl, startS, wipeD, hSet, gSet, List.map_cons, List.map_nil, List.length_cons, List.length_nil, List.cons_append, List.nil_append, List.getElem?_cons_zero, List.getElem?_cons_succ, List.replicate, List.set_cons_zero, List.set_cons_succ, eqD_int, eqD_str, neD_int, eqD_bl, neD_bl, geD_int, gtD_int, ltD_int, addD_int, subD_int, Nat.reduceSub, Nat.reduceAdd, Nat.reduceLT, decide_true, decide_false, if_true, if_false, Bool.false_eq_true, Option.some.injEq, reduceIte, and_self, true_and, and_true, ixD0 h1, kw_all, mn, mx, he, ih0]
            have hc : comb m false rs = if (x :: r).all (fun y => decide (y = x)) = true then some x else none := by
              unfold comb
              rw [hb, hi]
              rfl
            rw [hc]
            cases (x :: r).all (fun y => decide (y = x)) <;> rfl
theorem P_secret {f : Fm} {d e : D} {m : Int} {xs : List Int} (h : IsF f d) (hn : dep f < 20) (hw : WF f) (hl : (names f).length ≤ 1000) (hm : 2 ≤ m) (he : e.seq = some (xs.map D.int)) (hx : xs.length = (names f).length) (hr : InR m xs) : F_secret_of [d, .int m, e] = ret (dO (sec m f xs)) := by
  have e0 : F_dealt_from [d, .int m, .lst (xs.map D.int)] = ret (dO (sec m f xs)) := p_sec 20 (Nat.le_refl _) m f d xs (by omega) h hn (wf_ne f hw) hl hx
  have e2 : one D.seq [e] = some (xs.map D.int) := he
  unfold F_secret_of B_secret_of
  simp only [fDef, fDefF, ofF, sSeq, sIf, sNext, sDrop, sRet, sRetF, sRetO, sSetC, sSetA, sPar, cV, cO, fTst, fBlt, fCall, fCallF, fCons, fNil, fName, fC, fOp, fUn, fAndV, fOrV, fNotV, fAndT, fOrT, fNotT, fIf, fTup_eq, fLst_eq, fNew_eq, chkL0, chkL1, chkL2, chkL3, chkL4, chkT1, chkT2, chkT3, chkN0, chkN1, fL, fLcL, fSeq, fStar, fIt, fStrs, fSl, fPart, sFor, sAsgT, bnd_ret, ofO_some, al, cl, Sl.al, Sl.cl, startS, wipeD, hSet, gSet, List.map_cons, List.map_nil, List.length_cons, List.length_nil, List.cons_append, List.nil_append, List.getElem?_cons_zero, List.getElem?_cons_succ, List.replicate, List.set_cons_zero, List.set_cons_succ, eqD_int, eqD_str, neD_int, eqD_bl, neD_bl, geD_int, gtD_int, ltD_int, addD_int, subD_int, Nat.reduceSub, Nat.reduceAdd, Nat.reduceLT, decide_true, decide_false, if_true, if_false, Bool.false_eq_true, Option.some.injEq, reduceIte, and_self, true_and, and_true, P_check_modulus h hn hw hl hm, P_check_shares h hn hl he hx hr, e2, e0]
end K75
namespace K75
open PySem PySem.Spec PyProof.Rows L2 VS
theorem two_map {α : Type} (k : α → D) : ∀ as : List α, Two (fun o t => t = k o) as (as.map k)
  | [] => rfl
  | a :: as => ⟨k a, _, rfl, rfl, two_map k as⟩
def lsecN (n : Nat) : List D → M D := lev (fun r => fDef 7 (B__law_secret r)) n
theorem isN_dO (o : Option Int) : oIsN false (dO o) .non = some (.bl o.isNone) := by cases o <;> rfl
theorem notN_dO (o : Option Int) : oIsN true (dO o) .non = some (.bl (!o.isNone)) := by cases o <;> rfl
theorem anyD (bs : List Bool) : onBls (fun bs => some (.bl (bs.any id))) [.lst (bs.map D.bl)] = some (.bl (bs.any id)) := onBls_map _ bs
theorem allD (bs : List Bool) : onBls (fun bs => some (.bl (bs.all id))) [.lst (bs.map D.bl)] = some (.bl (bs.all id)) := onBls_map _ bs
theorem p_lsec : ∀ (n : Nat), n ≤ 20 → ∀ (m : Int) (f : Fm) (d : D) (xs : List Int), 0 < m → IsF f d → dep f < n → ne_ f → (names f).length ≤ 1000 → xs.length = (names f).length → lsecN n [d, .int m, .lst (xs.map D.int)] = ret (dO (sec m f xs)) := by
  intro n
  induction n with
  | zero => exact fun _ m f d xs _ _ h => absurd h (by omega)
  | succ n ih =>
    intro hn20 m f d xs hm h hn hw hl hx
    match f, h with
    | .name s, h =>
      have e := ix_head (xs := xs) (by rw [hx]; simp [names])
      show fDef 7 (B__law_secret (lsecN n)) _ = _
      unfold B__law_secret
      simp only [fDef, fDefF, ofF, sSeq, sIf, sNext, sDrop, sRet, sRetF, sRetO, sSetC, sSetA, sPar, cV, cO, fTst, fBlt, fCall, fCallF, fCons, fNil, fName, fC, fOp, fUn, fAndV, fOrV, fNotV, fAndT, fOrT, fNotT, fIf, fTup_eq, fLst_eq, fNew_eq, chkL0, chkL1, chkL2, chkL3, chkL4, chkT1, chkT2, chkT3, chkN0, chkN1, fL, fLcL, fSeq, fStar, fIt, fStrs, fSl, fPart, sFor, sAsgT, bnd_ret, ofO_some, al, cl, Sl.al, Sl.cl, startS, wipeD, hSet, gSet, List.map_cons, List.map_nil, List.length_cons, List.length_nil, List.cons_append, List.nil_append, List.getElem?_cons_zero, List.getElem?_cons_succ, List.replicate, List.set_cons_zero, List.set_cons_succ, eqD_int, eqD_str, neD_int, eqD_bl, neD_bl, geD_int, gtD_int, ltD_int, addD_int, subD_int, Nat.reduceSub, Nat.reduceAdd, Nat.reduceLT, decide_true, decide_false, if_true, if_false, Bool.false_eq_true, Option.some.injEq, reduceIte, and_self, true_and, and_true, ixD0 h, e]
      simp [sec]
    | .gate b ps, h =>
      obtain ⟨ds, h3, _, pt⟩ := P_parted h (by omega) hw hl hx
      obtain ⟨l, ds', h1, h2, _⟩ := h
      have hw' : ps ≠ [] ∧ nes ps := by simpa only [ne_] using hw
      rw [names_gate] at hl hx
      have hL := (lens_le hw'.2).1
      have key : ∀ env : DEnv, env = [some d, some (.int m), some (.lst (xs.map D.int)), none, none, none, none] → lcGo (gTp 2 (gsCons (gSet 4) (gsCons (gSet 5) gsNil))) fYes (fCall 3 (lsecN n) (fCons (fName 4) (fCons (fName 1) (fCons (fName 5) fNil)))) env (List.zipWith prt ds (chunk ps xs)) [] = ret ((secs m ps xs).map dO) := by
        rintro env rfl
        refine (lcGo_two (R := RP) (fun a => dO (sec m a.1 a.2)) (ps.zip (chunk ps xs)) _ [] (two_parts ps ds xs h3 hx) (fun a t ha hr => ?_) (by have := zip_len ps xs; exact sz (by simp only [List.length_nil]; omega))).trans ?_
        · obtain ⟨e, he, rfl, hc⟩ := hr
          have hp := inner_len (b := b) ha
          have e1 := ih (by omega) m a.1 e a.2 hm he (dep_lt hp hn) (nes_mem hw'.2 hp) (Nat.le_trans (names_mem hp) hl) hc
          refine ⟨_, rfl, ?_⟩
          simp only [fDef, fDefF, ofF, sSeq, sIf, sNext, sDrop, sRet, sRetF, sRetO, sSetC, sSetA, sPar, cV, cO, fTst, fBlt, fCall, fCallF, fCons, fNil, fName, fC, fOp, fUn, fAndV, fOrV, fNotV, fAndT, fOrT, fNotT, fIf, fTup_eq, fLst_eq, fNew_eq, chkL0, chkL1, chkL2, chkL3, chkL4, chkT1, chkT2, chkT3, chkN0, chkN1, fL, fLcL, fSeq, fStar, fIt, fStrs, fSl, fPart, sFor, sAsgT, bnd_ret, ofO_some, al, cl, Sl.al, Sl.cl, startS, wipeD, hSet, gSet, List.map_cons, List.map_nil, List.length_cons, List.length_nil, List.cons_append, List.nil_append, List.getElem?_cons_zero, List.getElem?_cons_succ, List.replicate, List.set_cons_zero, List.set_cons_succ, eqD_int, eqD_str, neD_int, eqD_bl, neD_bl, geD_int, gtD_int, ltD_int, addD_int, subD_int, Nat.reduceSub, Nat.reduceAdd, Nat.reduceLT, decide_true, decide_false, if_true, if_false, Bool.false_eq_true, Option.some.injEq, reduceIte, and_self, true_and, and_true, e1]
        · rw [List.nil_append, ← parts_map (fun p c => sec m p c) (secs m) (fun xs => by simp [secs]) (fun p ps xs => secs_cons m p ps xs) ps xs, List.map_map]
          rfl
      have hrs := secs_length m ps xs
      rw [sec_gate]
      generalize secs m ps xs = rs at *
      have sq : (D.lst (List.zipWith prt ds (chunk ps xs))).seq = some (List.zipWith prt ds (chunk ps xs)) := rfl
      have sq2 : (D.lst (rs.map dO)).seq = some (rs.map dO) := rfl
      have k1 := key _ rfl
      have rl : rs.length ≤ 1000000 := by omega
      have k2 : lcGo (gSet 6) fYes (fOp (oIsN false) (fName 6) (fC .non)) [some d, some (.int m), some (.lst (xs.map D.int)), some (.lst (rs.map dO)), none, none, none] (rs.map dO) [] = ret ((rs.map (·.isNone)).map D.bl) := by
        refine (lcGo_two (R := fun o t => t = dO o) (fun o => D.bl o.isNone) rs _ [] (two_map dO rs) (fun o t _ hr => ?_) (sz (by simpa using rl))).trans ?_
        · subst hr
          refine ⟨_, rfl, ?_⟩
          simp only [fDef, fDefF, ofF, sSeq, sIf, sNext, sDrop, sRet, sRetF, sRetO, sSetC, sSetA, sPar, cV, cO, fTst, fBlt, fCall, fCallF, fCons, fNil, fName, fC, fOp, fUn, fAndV, fOrV, fNotV, fAndT, fOrT, fNotT, fIf, fTup_eq, fLst_eq, fNew_eq, chkL0, chkL1, chkL2, chkL3, chkL4, chkT1, chkT2, chkT3, chkN0, chkN1, fL, fLcL, fSeq, fStar, fIt, fStrs, fSl, fPart, sFor, sAsgT, bnd_ret, ofO_some, al, cl, Sl.al, Sl.cl, startS, wipeD, hSet, gSet, List.map_cons, List.map_nil, List.length_cons, List.length_nil, List.cons_append, List.nil_append, List.getElem?_cons_zero, List.getElem?_cons_succ, List.replicate, List.set_cons_zero, List.set_cons_succ, eqD_int, eqD_str, neD_int, eqD_bl, neD_bl, geD_int, gtD_int, ltD_int, addD_int, subD_int, Nat.reduceSub, Nat.reduceAdd, Nat.reduceLT, decide_true, decide_false, if_true, if_false, Bool.false_eq_true, Option.some.injEq, reduceIte, and_self, true_and, and_true, isN_dO]
        · rw [List.nil_append, List.map_map]
          rfl
      have an := anyD (rs.map (·.isNone))
      rw [List.any_map] at an
      have ae : (rs.any (id ∘ fun x => x.isNone)) = rs.any (·.isNone) := rfl
      rw [ae] at an
      show fDef 7 (B__law_secret (lsecN n)) _ = _
      unfold B__law_secret
      simp only [fDef, fDefF, ofF, sSeq, sIf, sNext, sDrop, sRet, sRetF, sRetO, sSetC, sSetA, sPar, cV, cO, fTst, fBlt, fCall, fCallF, fCons, fNil, fName, fC, fOp, fUn, fAndV, fOrV, fNotV, fAndT, fOrT, fNotT, fIf, fTup_eq, fLst_eq, fNew_eq, chkL0, chkL1, chkL2, chkL3, chkL4, chkT1, chkT2, chkT3, chkN0, chkN1, fL, fLcL, fSeq, fStar, fIt, fStrs, fSl, fPart, sFor, sAsgT, bnd_ret, ofO_some, al, cl, Sl.al, Sl.cl, startS, wipeD, hSet, gSet, List.map_cons, List.map_nil, List.length_cons, List.length_nil, List.cons_append, List.nil_append, List.getElem?_cons_zero, List.getElem?_cons_succ, List.replicate, List.set_cons_zero, List.set_cons_succ, eqD_int, eqD_str, neD_int, eqD_bl, neD_bl, geD_int, gtD_int, ltD_int, addD_int, subD_int, Nat.reduceSub, Nat.reduceAdd, Nat.reduceLT, decide_true, decide_false, if_true, if_false, Bool.false_eq_true, Option.some.injEq, reduceIte, and_self, true_and, and_true, ixD0 h1, kw_ne, kw_all, pt, sq, k1, sq2, k2, an]
      cases hb : rs.any (·.isNone) with
      | true =>
        simp only [fDef, fDefF, ofF, sSeq, sIf, sNext, sDrop, sRet, sRetF, sRetO, sSetC, sSetA, sPar, cV, cO, fTst, fBlt, fCall, fCallF, fCons, fNil, fName, fC, fOp, fUn, fAndV, fOrV, fNotV, fAndT, fOrT, fNotT, fIf, fTup_eq, fLst_eq, fNew_eq, chkL0, chkL1, chkL2, chkL3, chkL4, chkT1, chkT2, chkT3, chkN0, chkN1, fL, fLcL, fSeq, fStar, fIt, fStrs, fSl, fPart, sFor, sAsgT, bnd_ret, ofO_some, al, cl, Sl.al, Sl.cl, startS, wipeD, hSet, gSet, List.map_cons, List.map_nil, List.length_cons, List.length_nil, List.cons_append, List.nil_append, List.getElem?_cons_zero, List.getElem?_cons_succ, List.replicate, List.set_cons_zero, List.set_cons_succ, eqD_int, eqD_str, neD_int, eqD_bl, neD_bl, geD_int, gtD_int, ltD_int, addD_int, subD_int, Nat.reduceSub, Nat.reduceAdd, Nat.reduceLT, decide_true, decide_false, if_true, if_false, Bool.false_eq_true, Option.some.injEq, reduceIte, and_self, true_and, and_true]
        unfold comb
        rw [hb, if_pos rfl]
        rfl
      | false =>
        obtain ⟨q1, q2⟩ := ints_of hb
        cases b with
        | true =>
          have sm := sumD (ints_ rs)
          have md := modD_int (i := (ints_ rs).sum) hm
          rw [q1]
          simp only [fDef, fDefF, ofF, sSeq, sIf, sNext, sDrop, sRet, sRetF, sRetO, sSetC, sSetA, sPar, cV, cO, fTst, fBlt, fCall, fCallF, fCons, fNil, fName, fC, fOp, fUn, fAndV, fOrV, fNotV, fAndT, fOrT, fNotT, fIf, fTup_eq, fLst_eq, fNew_eq, chkL0, chkL1, chkL2, chkL3, chkL4, chkT1, chkT2, chkT3, chkN0, chkN1, fL, fLcL, fSeq, fStar, fIt, fStrs, fSl, fPart, sFor, sAsgT, bnd_ret, ofO_some, al, cl, Sl.al, Sl.cl, startS, wipeD, hSet, gSet, List.map_cons, List.map_nil, List.length_cons, List.length_nil, List.cons_append, List.nil_append, List.getElem?_cons_zero, List.getElem?_cons_succ, List.replicate, List.set_cons_zero, List.set_cons_succ, eqD_int, eqD_str, neD_int, eqD_bl, neD_bl, geD_int, gtD_int, ltD_int, addD_int, subD_int, Nat.reduceSub, Nat.reduceAdd, Nat.reduceLT, decide_true, decide_false, if_true, if_false, Bool.false_eq_true, Option.some.injEq, reduceIte, and_self, true_and, and_true, ixD0 h1, kw_all, sm, bInt_int, md]
          unfold comb
          rw [hb]
          rfl
        | false =>
          cases hi : ints_ rs with
          | nil =>
            rw [q2, hi] at hrs
            have : ps = [] := List.length_eq_zero_iff.mp hrs.symm
            exact absurd this hw'.1
          | cons x r =>
            have ih0 : oIx (.lst (.int x :: r.map D.int)) (.int 0) = some (.int x) := ix_head (xs := x :: r) (by simp)
            have sq3 : (D.lst (.int x :: r.map D.int)).seq = some (.int x :: r.map D.int) := rfl
            have rl2 : (x :: r).length ≤ 1000000 := by
              have : rs.length = (ints_ rs).length := by
                conv => lhs; rw [q2]
                rw [List.length_map]
              rw [hi] at this
              omega
            have k3 : lcGo (gSet 6) fYes (fOp (oEq false) (fName 6) (fOp oIx (fName 3) (fC (.int 0)))) [some d, some (.int m), some (.lst (xs.map D.int)), some (.lst (.int x :: r.map D.int)), none, none, none] (.int x :: r.map D.int) [] = ret (((x :: r).map fun y => decide (y = x)).map D.bl) := by
              refine (lcGo_two (R := fun o t => t = D.int o) (fun o => D.bl (decide (o = x))) (x :: r) _ [] (two_map D.int (x :: r)) (fun o t _ hr => ?_) (sz (by simpa using rl2))).trans ?_
              · subst hr
                refine ⟨_, rfl, ?_⟩
                simp only [fDef, fDefF, ofF, sSeq, sIf, sNext, sDrop, sRet, sRetF, sRetO, sSetC, sSetA, sPar, cV, cO, fTst, fBlt, fCall, fCallF, fCons, fNil, fName, fC, fOp, fUn, fAndV, fOrV, fNotV, fAndT, fOrT, fNotT, fIf, fTup_eq, fLst_eq, fNew_eq, chkL0, chkL1, chkL2, chkL3, chkL4, chkT1, chkT2, chkT3, chkN0, chkN1, fL, fLcL, fSeq, fStar, fIt, fStrs, fSl, fPart, sFor, sAsgT, bnd_ret, ofO_some, al, cl, Sl.al, Sl.cl, startS, wipeD, hSet, gSet, List.map_cons, List.map_nil, List.length_cons, List.length_nil, List.cons_append, List.nil_append, List.getElem?_cons_zero, List.getElem?_cons_succ, List.replicate, List.set_cons_zero, List.set_cons_succ, eqD_int, eqD_str, neD_int, eqD_bl, neD_bl, geD_int, gtD_int, ltD_int, addD_int, subD_int, Nat.reduceSub, Nat.reduceAdd, Nat.reduceLT, decide_true, decide_false, if_true, if_false, Bool.false_eq_true, Option.some.injEq, reduceIte, and_self, true_and, and_true, ih0]
              · rw [List.nil_append, List.map_map]
                rfl
            have al_ := allD ((x :: r).map fun y => decide (y = x))
            rw [List.all_map] at al_
            have ae2 : ((x :: r).all (id ∘ fun y => decide (y = x))) = (x :: r).all (fun y => decide (y = x)) := rfl
            rw [ae2] at al_
            generalize ((x :: r).map fun y => decide (y = x)) = bs at k3 al_
            generalize hq : (x :: r).all (fun y => decide (y = x)) = q at al_
            rw [q1, hi]
            simp only [fDef, fDefF, ofF, sSeq, sIf, sNext, sDrop, sRet, sRetF, sRetO, sSetC, sSetA, sPar, cV, cO, fTst, fBlt, fCall, fCallF, fCons, fNil, fName, fC, fOp, fUn, fAndV, fOrV, fNotV, fAndT, fOrT, fNotT, fIf, fTup_eq, fLst_eq, fNew_eq, chkL0, chkL1, chkL2, chkL3, chkL4, chkT1, chkT2, chkT3, chkN0, chkN1, fL, fLcL, fSeq, fStar, fIt, fStrs, fSl, fPart, sFor, sAsgT, bnd_ret, ofO_some, al, cl, Sl.al, Sl.cl, startS, wipeD, hSet, gSet, List.map_cons, List.map_nil, List.length_cons, List.length_nil, List.cons_append, List.nil_append, List.getElem?_cons_zero, List.getElem?_cons_succ, List.replicate, List.set_cons_zero, List.set_cons_succ, eqD_int, eqD_str, neD_int, eqD_bl, neD_bl, geD_int, gtD_int, ltD_int, addD_int, subD_int, Nat.reduceSub, Nat.reduceAdd, Nat.reduceLT, decide_true, decide_false, if_true, if_false, Bool.false_eq_true, Option.some.injEq, reduceIte, and_self, true_and, and_true, ixD0 h1, kw_all, sq3, k3, al_, ih0]
            have hc : comb m false rs = if (x :: r).all (fun y => decide (y = x)) = true then some x else none := by
              unfold comb
              rw [hb, hi]
              rfl
            rw [hc, hq]
            cases q <;> rfl
theorem L_secret {f : Fm} {d : D} {m : Int} {xs : List Int} (h : IsF f d) (hn : dep f < 20) (hw : ne_ f) (hl : (names f).length ≤ 1000) (hm : 0 < m) (hx : xs.length = (names f).length) : F__law_secret [d, .int m, .lst (xs.map D.int)] = ret (dO (sec m f xs)) := p_lsec 20 (Nat.le_refl _) m f d xs hm h hn hw hl hx
end K75
namespace K75
open PySem PySem.Spec PyProof.Rows L2 VS
/-- lists and tuples of texts, whole numbers, None, not deeper than n -/
def pl : Nat → D → Prop
  | 0, _ => False
  | n + 1, .lst ds => ds.length ≤ 1000 ∧ ∀ d ∈ ds, pl n d
  | n + 1, .tup ds => ds.length ≤ 1000 ∧ ∀ d ∈ ds, pl n d
  | _ + 1, .int _ => True
  | _ + 1, .str _ => True
  | _ + 1, .non => True
  | _ + 1, _ => False
theorem two_self : ∀ ds : List D, Two (fun a t => t = a) ds ds
  | [] => rfl
  | a :: as => ⟨a, as, rfl, rfl, two_self as⟩
abbrev tLT : D := .tup [.ty .lst, .ty .tup]
theorem isT_l (ds : List D) : isiT [.lst ds, tLT] = some (.bl true) := rfl
theorem isT_t (ds : List D) : isiT [.tup ds, tLT] = some (.bl true) := rfl
theorem isT_i (i : Int) : isiT [.int i, tLT] = some (.bl false) := rfl
theorem isT_s (i : Str) : isiT [.str i, tLT] = some (.bl false) := rfl
theorem isT_n : isiT [.non, tLT] = some (.bl false) := rfl
theorem isL_l (ds : List D) : isiB [.lst ds, .ty .lst] = some (.bl true) := rfl
theorem isL_t (ds : List D) : isiB [.tup ds, .ty .lst] = some (.bl false) := rfl
theorem isD_i (i : Int) : isiB [.int i, .ty .dct] = some (.bl false) := rfl
theorem isD_s (i : Str) : isiB [.str i, .ty .dct] = some (.bl false) := rfl
theorem isD_n : isiB [.non, .ty .dct] = some (.bl false) := rfl
def copyN (n : Nat) : List D → M D := lev (fun r => fDef 4 (B__law_copied r)) n
theorem p_copied : ∀ (n : Nat) (d : D), pl n d → copyN n [d] = ret d := by
  intro n
  induction n with
  | zero => exact fun d h => h.elim
  | succ n ih =>
    intro d h
    have key : ∀ (a : D) (ds : List D), ds.length ≤ 1000 → (∀ d ∈ ds, pl n d) → lcGo (gSet 2) fYes (fCall 1 (copyN n) (fCons (fName 2) fNil)) [some a, none, none, none] ds [] = ret ds := by
      intro a ds hl hp
      refine (lcGo_two (R := fun a t => t = a) id ds ds [] (two_self ds) (fun x t hx hr => ?_) (by simp only [List.length_nil]; exact sz (by omega))).trans (by simp)
      subst hr
      refine ⟨_, rfl, ?_⟩
      have := ih _ (hp _ hx)
      simp only [fDef, fDefF, ofF, sSeq, sIf, sNext, sDrop, sRet, sRetF, sRetO, sSetC, sSetA, sPar, cV, cO, fTst, fBlt, fCall, fCallF, fCons, fNil, fName, fC, fOp, fUn, fAndV, fOrV, fNotV, fAndT, fOrT, fNotT, fIf, fTup_eq, fLst_eq, fNew_eq, chkL0, chkL1, chkL2, chkL3, chkL4, chkT1, chkT2, chkT3, chkN0, chkN1, fL, fLcL, fSeq, fStar, fIt, fStrs, fSl, fPart, sFor, sAsgT, bnd_ret, ofO_some, al, cl, Sl.al, Sl.cl, startS, wipeD, hSet, gSet, List.map_cons, List.map_nil, List.length_cons, List.length_nil, List.cons_append, List.nil_append, List.getElem?_cons_zero, List.getElem?_cons_succ, List.replicate, List.set_cons_zero, List.set_cons_succ, eqD_int, eqD_str, neD_int, eqD_bl, neD_bl, geD_int, gtD_int, ltD_int, addD_int, subD_int, Nat.reduceSub, Nat.reduceAdd, Nat.reduceLT, decide_true, decide_false, if_true, if_false, Bool.false_eq_true, Option.some.injEq, reduceIte, and_self, true_and, and_true, this]
      rfl
    show fDef 4 (B__law_copied (copyN n)) [d] = _
    unfold B__law_copied
    match d, h with
    | .lst ds, h =>
      have sq : (D.lst ds).seq = some ds := rfl
      simp only [fDef, fDefF, ofF, sSeq, sIf, sNext, sDrop, sRet, sRetF, sRetO, sSetC, sSetA, sPar, cV, cO, fTst, fBlt, fCall, fCallF, fCons, fNil, fName, fC, fOp, fUn, fAndV, fOrV, fNotV, fAndT, fOrT, fNotT, fIf, fTup_eq, fLst_eq, fNew_eq, chkL0, chkL1, chkL2, chkL3, chkL4, chkT1, chkT2, chkT3, chkN0, chkN1, fL, fLcL, fSeq, fStar, fIt, fStrs, fSl, fPart, sFor, sAsgT, bnd_ret, ofO_some, al, cl, Sl.al, Sl.cl, startS, wipeD, hSet, gSet, List.map_cons, List.map_nil, List.length_cons, List.length_nil, List.cons_append, List.nil_append, List.getElem?_cons_zero, List.getElem?_cons_succ, List.replicate, List.set_cons_zero, List.set_cons_succ, eqD_int, eqD_str, neD_int, eqD_bl, neD_bl, geD_int, gtD_int, ltD_int, addD_int, subD_int, Nat.reduceSub, Nat.reduceAdd, Nat.reduceLT, decide_true, decide_false, if_true, if_false, Bool.false_eq_true, Option.some.injEq, reduceIte, and_self, true_and, and_true, isT_l, sq, key _ ds h.1 h.2, isL_l]
    | .tup ds, h =>
      have sq : (D.tup ds).seq = some ds := rfl
      have bt : bTuple [.lst ds] = some (.tup ds) := rfl
      simp only [fDef, fDefF, ofF, sSeq, sIf, sNext, sDrop, sRet, sRetF, sRetO, sSetC, sSetA, sPar, cV, cO, fTst, fBlt, fCall, fCallF, fCons, fNil, fName, fC, fOp, fUn, fAndV, fOrV, fNotV, fAndT, fOrT, fNotT, fIf, fTup_eq, fLst_eq, fNew_eq, chkL0, chkL1, chkL2, chkL3, chkL4, chkT1, chkT2, chkT3, chkN0, chkN1, fL, fLcL, fSeq, fStar, fIt, fStrs, fSl, fPart, sFor, sAsgT, bnd_ret, ofO_some, al, cl, Sl.al, Sl.cl, startS, wipeD, hSet, gSet, List.map_cons, List.map_nil, List.length_cons, List.length_nil, List.cons_append, List.nil_append, List.getElem?_cons_zero, List.getElem?_cons_succ, List.replicate, List.set_cons_zero, List.set_cons_succ, eqD_int, eqD_str, neD_int, eqD_bl, neD_bl, geD_int, gtD_int, ltD_int, addD_int, subD_int, Nat.reduceSub, Nat.reduceAdd, Nat.reduceLT, decide_true, decide_false, if_true, if_false, Bool.false_eq_true, Option.some.injEq, reduceIte, and_self, true_and, and_true, isT_t, sq, key _ ds h.1 h.2, isL_t, bt]
    | .int i, h => simp only [fDef, fDefF, ofF, sSeq, sIf, sNext, sDrop, sRet, sRetF, sRetO, sSetC, sSetA, sPar, cV, cO, fTst, fBlt, fCall, fCallF, fCons, fNil, fName, fC, fOp, fUn, fAndV, fOrV, fNotV, fAndT, fOrT, fNotT, fIf, fTup_eq, fLst_eq, fNew_eq, chkL0, chkL1, chkL2, chkL3, chkL4, chkT1, chkT2, chkT3, chkN0, chkN1, fL, fLcL, fSeq, fStar, fIt, fStrs, fSl, fPart, sFor, sAsgT, bnd_ret, ofO_some, al, cl, Sl.al, Sl.cl, startS, wipeD, hSet, gSet, List.map_cons, List.map_nil, List.length_cons, List.length_nil, List.cons_append, List.nil_append, List.getElem?_cons_zero, List.getElem?_cons_succ, List.replicate, List.set_cons_zero, List.set_cons_succ, eqD_int, eqD_str, neD_int, eqD_bl, neD_bl, geD_int, gtD_int, ltD_int, addD_int, subD_int, Nat.reduceSub, Nat.reduceAdd, Nat.reduceLT, decide_true, decide_false, if_true, if_false, Bool.false_eq_true, Option.some.injEq, reduceIte, and_self, true_and, and_true, isT_i, isD_i]
    | .str i, h => simp only [fDef, fDefF, ofF, sSeq, sIf, sNext, sDrop, sRet, sRetF, sRetO, sSetC, sSetA, sPar, cV, cO, fTst, fBlt, fCall, fCallF, fCons, fNil, fName, fC, fOp, fUn, fAndV, fOrV, fNotV, fAndT, fOrT, fNotT, fIf, fTup_eq, fLst_eq, fNew_eq, chkL0, chkL1, chkL2, chkL3, chkL4, chkT1, chkT2, chkT3, chkN0, chkN1, fL, fLcL, fSeq, fStar, fIt, fStrs, fSl, fPart, sFor, sAsgT, bnd_ret, ofO_some, al, cl, Sl.al, Sl.cl, startS, wipeD, hSet, gSet, List.map_cons, List.map_nil, List.length_cons, List.length_nil, List.cons_append, List.nil_append, List.getElem?_cons_zero, List.getElem?_cons_succ, List.replicate, List.set_cons_zero, List.set_cons_succ, eqD_int, eqD_str, neD_int, eqD_bl, neD_bl, geD_int, gtD_int, ltD_int, addD_int, subD_int, Nat.reduceSub, Nat.reduceAdd, Nat.reduceLT, decide_true, decide_false, if_true, if_false, Bool.false_eq_true, Option.some.injEq, reduceIte, and_self, true_and, and_true, isT_s, isD_s]
    | .non, h => simp only [fDef, fDefF, ofF, sSeq, sIf, sNext, sDrop, sRet, sRetF, sRetO, sSetC, sSetA, sPar, cV, cO, fTst, fBlt, fCall, fCallF, fCons, fNil, fName, fC, fOp, fUn, fAndV, fOrV, fNotV, fAndT, fOrT, fNotT, fIf, fTup_eq, fLst_eq, fNew_eq, chkL0, chkL1, chkL2, chkL3, chkL4, chkT1, chkT2, chkT3, chkN0, chkN1, fL, fLcL, fSeq, fStar, fIt, fStrs, fSl, fPart, sFor, sAsgT, bnd_ret, ofO_some, al, cl, Sl.al, Sl.cl, startS, wipeD, hSet, gSet, List.map_cons, List.map_nil, List.length_cons, List.length_nil, List.cons_append, List.nil_append, List.getElem?_cons_zero, List.getElem?_cons_succ, List.replicate, List.set_cons_zero, List.set_cons_succ, eqD_int, eqD_str, neD_int, eqD_bl, neD_bl, geD_int, gtD_int, ltD_int, addD_int, subD_int, Nat.reduceSub, Nat.reduceAdd, Nat.reduceLT, decide_true, decide_false, if_true, if_false, Bool.false_eq_true, Option.some.injEq, reduceIte, and_self, true_and, and_true, isT_n, isD_n]
theorem L_copied {d : D} (h : pl 20 d) : F__law_copied [d] = ret d := p_copied 20 d h
def sameN (n : Nat) : List D → M D := lev (fun r => fDef 4 (B__law_same r)) n
abbrev tLTD : D := .tup [.ty .lst, .ty .tup, .ty .dct]
theorem isTD_i (i : Int) : isiT [.int i, tLTD] = some (.bl false) := rfl
theorem isTD_s (i : Str) : isiT [.str i, tLTD] = some (.bl false) := rfl
theorem isTu_l (ds : List D) : isiB [.lst ds, .ty .tup] = some (.bl false) := rfl
theorem isTu_t (ds : List D) : isiB [.tup ds, .ty .tup] = some (.bl true) := rfl
theorem isB_i (i : Int) : isiB [.int i, .ty .bl] = some (.bl false) := rfl
theorem isB_s (i : Str) : isiB [.str i, .ty .bl] = some (.bl false) := rfl
theorem isB_n : isiB [.non, .ty .bl] = some (.bl false) := rfl
theorem isI_i (i : Int) : isiB [.int i, .ty .int] = some (.bl true) := rfl
theorem isI_s (i : Str) : isiB [.str i, .ty .int] = some (.bl false) := rfl
theorem isS_i (i : Int) : isiB [.int i, .ty .str] = some (.bl false) := rfl
theorem nn_i (i : Int) : oIsN false (.int i) .non = some (.bl false) := rfl
theorem nn_s (i : Str) : oIsN false (.str i) .non = some (.bl false) := rfl
theorem nn_n : oIsN false .non .non = some (.bl true) := rfl
theorem p_same : ∀ (n : Nat) (d : D), pl n d → sameN n [d, d] = ret (.bl true) := by
  intro n
  induction n with
  | zero => exact fun d h => h.elim
  | succ n ih =>
    intro d h
    have key : ∀ (a : D) (ds : List D), ds.length ≤ 1000 → (∀ d ∈ ds, pl n d) → lcGo (gTp 2 (gsCons (gSet 2) (gsCons (gSet 3) gsNil))) fYes (fCall 2 (sameN n) (fCons (fName 2) (fCons (fName 3) fNil))) [some a, some a, none, none] (List.zipWith (fun x y => D.tup [x, y]) ds ds) [] = ret ((ds.map fun _ => true).map D.bl) := by
      intro a ds hl hp
      refine (lcGo_two (R := fun a t => t = .tup [a, a]) (fun _ => D.bl true) ds _ [] ?_ (fun x t hx hr => ?_) (by simp only [List.length_nil]; exact sz (by omega))).trans (by rw [List.nil_append, List.map_map]; rfl)
      · clear hp hl
        induction ds with
        | nil => rfl
        | cons x r ihr => exact ⟨_, _, rfl, rfl, ihr⟩
      · subst hr
        refine ⟨_, rfl, ?_⟩
        have := ih _ (hp _ hx)
        simp only [fDef, fDefF, ofF, sSeq, sIf, sNext, sDrop, sRet, sRetF, sRetO, sSetC, sSetA, sPar, cV, cO, fTst, fBlt, fCall, fCallF, fCons, fNil, fName, fC, fOp, fUn, fAndV, fOrV, fNotV, fAndT, fOrT, fNotT, fIf, fTup_eq, fLst_eq, fNew_eq, chkL0, chkL1, chkL2, chkL3, chkL4, chkT1, chkT2, chkT3, chkN0, chkN1, fL, fLcL, fSeq, fStar, fIt, fStrs, fSl, fPart, sFor, sAsgT, bnd_ret, ofO_some, al, cl, Sl.al, Sl.cl, startS, wipeD, hSet, gSet, List.map_cons, List.map_nil, List.length_cons, List.length_nil, List.cons_append, List.nil_append, List.getElem?_cons_zero, List.getElem?_cons_succ, List.replicate, List.set_cons_zero, List.set_cons_succ, eqD_int, eqD_str, neD_int, eqD_bl, neD_bl, geD_int, gtD_int, ltD_int, addD_int, subD_int, Nat.reduceSub, Nat.reduceAdd, Nat.reduceLT, decide_true, decide_false, if_true, if_false, Bool.false_eq_true, Option.some.injEq, reduceIte, and_self, true_and, and_true, this]
    have al_ : ∀ ds : List D, onBls (fun bs => some (.bl (bs.all id))) [.lst ((ds.map fun _ => true).map D.bl)] = some (.bl true) := by
      intro ds
      rw [allD]
      congr 2
      simp
    show fDef 4 (B__law_same (sameN n)) [d, d] = _
    unfold B__law_same
    match d, h with
    | .lst ds, h =>
      have sq : (D.lst ds).seq = some ds := rfl
      have z := zipD_eq sq sq
      have ln := lenD sq
      simp only [fDef, fDefF, ofF, sSeq, sIf, sNext, sDrop, sRet, sRetF, sRetO, sSetC, sSetA, sPar, cV, cO, fTst, fBlt, fCall, fCallF, fCons, fNil, fName, fC, fOp, fUn, fAndV, fOrV, fNotV, fAndT, fOrT, fNotT, fIf, fTup_eq, fLst_eq, fNew_eq, chkL0, chkL1, chkL2, chkL3, chkL4, chkT1, chkT2, chkT3, chkN0, chkN1, fL, fLcL, fSeq, fStar, fIt, fStrs, fSl, fPart, sFor, sAsgT, bnd_ret, ofO_some, al, cl, Sl.al, Sl.cl, startS, wipeD, hSet, gSet, List.map_cons, List.map_nil, List.length_cons, List.length_nil, List.cons_append, List.nil_append, List.getElem?_cons_zero, List.getElem?_cons_succ, List.replicate, List.set_cons_zero, List.set_cons_succ, eqD_int, eqD_str, neD_int, eqD_bl, neD_bl, geD_int, gtD_int, ltD_int, addD_int, subD_int, Nat.reduceSub, Nat.reduceAdd, Nat.reduceLT, decide_true, decide_false, if_true, if_false, Bool.false_eq_true, Option.some.injEq, reduceIte, and_self, true_and, and_true, isT_l, isL_l, isTu_l, Bool.not_true, z, ln, key _ ds h.1 h.2, al_]
    | .tup ds, h =>
      have sq : (D.tup ds).seq = some ds := rfl
      have z := zipD_eq sq sq
      have ln := lenD sq
      simp only [fDef, fDefF, ofF, sSeq, sIf, sNext, sDrop, sRet, sRetF, sRetO, sSetC, sSetA, sPar, cV, cO, fTst, fBlt, fCall, fCallF, fCons, fNil, fName, fC, fOp, fUn, fAndV, fOrV, fNotV, fAndT, fOrT, fNotT, fIf, fTup_eq, fLst_eq, fNew_eq, chkL0, chkL1, chkL2, chkL3, chkL4, chkT1, chkT2, chkT3, chkN0, chkN1, fL, fLcL, fSeq, fStar, fIt, fStrs, fSl, fPart, sFor, sAsgT, bnd_ret, ofO_some, al, cl, Sl.al, Sl.cl, startS, wipeD, hSet, gSet, List.map_cons, List.map_nil, List.length_cons, List.length_nil, List.cons_append, List.nil_append, List.getElem?_cons_zero, List.getElem?_cons_succ, List.replicate, List.set_cons_zero, List.set_cons_succ, eqD_int, eqD_str, neD_int, eqD_bl, neD_bl, geD_int, gtD_int, ltD_int, addD_int, subD_int, Nat.reduceSub, Nat.reduceAdd, Nat.reduceLT, decide_true, decide_false, if_true, if_false, Bool.false_eq_true, Option.some.injEq, reduceIte, and_self, true_and, and_true, isT_t, isL_t, isTu_t, Bool.not_true, z, ln, key _ ds h.1 h.2, al_]
    | .int i, h => simp only [fDef, fDefF, ofF, sSeq, sIf, sNext, sDrop, sRet, sRetF, sRetO, sSetC, sSetA, sPar, cV, cO, fTst, fBlt, fCall, fCallF, fCons, fNil, fName, fC, fOp, fUn, fAndV, fOrV, fNotV, fAndT, fOrT, fNotT, fIf, fTup_eq, fLst_eq, fNew_eq, chkL0, chkL1, chkL2, chkL3, chkL4, chkT1, chkT2, chkT3, chkN0, chkN1, fL, fLcL, fSeq, fStar, fIt, fStrs, fSl, fPart, sFor, sAsgT, bnd_ret, ofO_some, al, cl, Sl.al, Sl.cl, startS, wipeD, hSet, gSet, List.map_cons, List.map_nil, List.length_cons, List.length_nil, List.cons_append, List.nil_append, List.getElem?_cons_zero, List.getElem?_cons_succ, List.replicate, List.set_cons_zero, List.set_cons_succ, eqD_int, eqD_str, neD_int, eqD_bl, neD_bl, geD_int, gtD_int, ltD_int, addD_int, subD_int, Nat.reduceSub, Nat.reduceAdd, Nat.reduceLT, decide_true, decide_false, if_true, if_false, Bool.false_eq_true, Option.some.injEq, reduceIte, and_self, true_and, and_true, isT_i, isD_i, isB_i, nn_i, isI_i, isS_i, isTD_i, Bool.not_true, Bool.not_false]
    | .str i, h => simp only [fDef, fDefF, ofF, sSeq, sIf, sNext, sDrop, sRet, sRetF, sRetO, sSetC, sSetA, sPar, cV, cO, fTst, fBlt, fCall, fCallF, fCons, fNil, fName, fC, fOp, fUn, fAndV, fOrV, fNotV, fAndT, fOrT, fNotT, fIf, fTup_eq, fLst_eq, fNew_eq, chkL0, chkL1, chkL2, chkL3, chkL4, chkT1, chkT2, chkT3, chkN0, chkN1, fL, fLcL, fSeq, fStar, fIt, fStrs, fSl, fPart, sFor, sAsgT, bnd_ret, ofO_some, al, cl, Sl.al, Sl.cl, startS, wipeD, hSet, gSet, List.map_cons, List.map_nil, List.length_cons, List.length_nil, List.cons_append, List.nil_append, List.getElem?_cons_zero, List.getElem?_cons_succ, List.replicate, List.set_cons_zero, List.set_cons_succ, eqD_int, eqD_str, neD_int, eqD_bl, neD_bl, geD_int, gtD_int, ltD_int, addD_int, subD_int, Nat.reduceSub, Nat.reduceAdd, Nat.reduceLT, decide_true, decide_false, if_true, if_false, Bool.false_eq_true, Option.some.injEq, reduceIte, and_self, true_and, and_true, isT_s, isD_s, isB_s, nn_s, isI_s, isi_str, isTD_s, Bool.not_true, Bool.not_false]
    | .non, h => simp only [fDef, fDefF, ofF, sSeq, sIf, sNext, sDrop, sRet, sRetF, sRetO, sSetC, sSetA, sPar, cV, cO, fTst, fBlt, fCall, fCallF, fCons, fNil, fName, fC, fOp, fUn, fAndV, fOrV, fNotV, fAndT, fOrT, fNotT, fIf, fTup_eq, fLst_eq, fNew_eq, chkL0, chkL1, chkL2, chkL3, chkL4, chkT1, chkT2, chkT3, chkN0, chkN1, fL, fLcL, fSeq, fStar, fIt, fStrs, fSl, fPart, sFor, sAsgT, bnd_ret, ofO_some, al, cl, Sl.al, Sl.cl, startS, wipeD, hSet, gSet, List.map_cons, List.map_nil, List.length_cons, List.length_nil, List.cons_append, List.nil_append, List.getElem?_cons_zero, List.getElem?_cons_succ, List.replicate, List.set_cons_zero, List.set_cons_succ, eqD_int, eqD_str, neD_int, eqD_bl, neD_bl, geD_int, gtD_int, ltD_int, addD_int, subD_int, Nat.reduceSub, Nat.reduceAdd, Nat.reduceLT, decide_true, decide_false, if_true, if_false, Bool.false_eq_true, Option.some.injEq, reduceIte, and_self, true_and, and_true, isT_n, isD_n, isB_n, nn_n]
theorem L_same {d : D} (h : pl 20 d) : F__law_same [d, d] = ret (.bl true) := p_same 20 d h
end K75
namespace K75
open PySem PySem.Spec PyProof.Rows L2 VS
theorem scs_str : ∀ lot : List Str, scs (lot.map D.str) = some (lot.map V.str)
  | [] => rfl
  | s :: r => by
    rw [List.map_cons, List.map_cons]
    unfold scs
    rw [scs_str r]
    rfl
theorem eqV_str (a b : Str) : eqV (.str a) (.str b) = decide (a = b) := by
  show (a == b) = _
  rw [Bool.eq_iff_iff]
  simp
theorem inV_str (s : Str) : ∀ lot : List Str, inV (.str s) (lot.map V.str) = decide (s ∈ lot)
  | [] => by simp [inV]
  | x :: r => by
    have ih := inV_str s r
    unfold inV at ih ⊢
    rw [List.map_cons, List.any_cons, ih, eqV_str]
    by_cases h : x = s
    · simp [h]
    · have h' : ¬ s = x := fun z => h z.symm
      simp [h, h']
theorem in_lot {e : D} {lot : List Str} (he : e.seq = some (lot.map D.str)) (s : Str) : oIn (.str s) e = some (.bl (decide (s ∈ lot))) := by
  have q : inQ false (.str s) e = some (.bl (decide (s ∈ lot))) := by
    have h : inQ false (.str s) e = (match e.seq.bind scs with | some xs => some (.bl (inV (.str s) xs)) | none => none) := by
      show (match (D.str s).sc, e.seq.bind scs with | some x, some xs => some (D.bl (if false then !inV x xs else inV x xs)) | _, _ => none) = _
      cases e.seq.bind scs <;> rfl
    rw [h, he]
    show (match scs (lot.map D.str) with | some xs => some (D.bl (inV (.str s) xs)) | none => none) = _
    rw [scs_str]
    simp only [inV_str]
  unfold oIn orO
  rw [q]
theorem toPs_ints : ∀ ns : List Int, toPs (ns.map D.int) = some (ns.map PyData.int)
  | [] => rfl
  | x :: r => by
    rw [List.map_cons]
    unfold toPs
    rw [toPs_ints r]
    rfl
theorem ne_nil (ns : List Int) : oEq true (.lst (ns.map D.int)) (.lst []) = some (.bl (!ns.isEmpty)) := by
  have e0 : eqS true (.lst (ns.map D.int)) (.lst []) = none := rfl
  have e1 : toP (.lst (ns.map D.int)) = some (.list (ns.map PyData.int)) := by
    unfold toP
    rw [toPs_ints]
    rfl
  have e2 : toP (.lst []) = some (.list []) := rfl
  unfold oEq orO
  rw [e0]
  simp only [eqP, e1, e2]
  rw [if_pos ⟨shaped_ints ns, shaped_ints []⟩, eqv_ints]
  simp
/-! ### found_by -/
def combF (m : Int) (b : Bool) (rs : List (Option Int)) : Option Int := if b then (if rs.any (·.isNone) then none else some ((ints_ rs).sum % m)) else (ints_ rs).head?
mutual
def fnd (m : Int) (lot : List Str) : Fm → List Int → Option Int
  | .name s, xs => if s ∈ lot then xs.head? else none
  | .gate b ps, xs => combF m b (fnds m lot ps xs)
def fnds (m : Int) (lot : List Str) : List Fm → List Int → List (Option Int)
  | [], _ => []
  | p :: ps, xs => fnd m lot p (xs.take (names p).length) :: fnds m lot ps (xs.drop (names p).length)
end
theorem fnd_name (m : Int) (lot : List Str) (s : Str) (xs : List Int) : fnd m lot (.name s) xs = if s ∈ lot then xs.head? else none := by simp [fnd]
theorem fnd_gate (m : Int) (lot : List Str) (b : Bool) (ps : List Fm) (xs : List Int) : fnd m lot (.gate b ps) xs = combF m b (fnds m lot ps xs) := by simp [fnd]
theorem fnds_cons (m : Int) (lot : List Str) (p : Fm) (ps : List Fm) (xs : List Int) : fnds m lot (p :: ps) xs = fnd m lot p (xs.take (names p).length) :: fnds m lot ps (xs.drop (names p).length) := by simp [fnds]
theorem fnds_length (m : Int) (lot : List Str) : ∀ (ps : List Fm) (xs : List Int), (fnds m lot ps xs).length = ps.length
  | [], xs => by simp [fnds]
  | p :: ps, xs => by rw [fnds_cons, List.length_cons, List.length_cons, fnds_length m lot ps]
theorem filter_dO : ∀ rs : List (Option Int), (rs.filter fun o => !o.isNone).map dO = (ints_ rs).map D.int
  | [] => rfl
  | none :: r => by
    have ih := filter_dO r
    rw [List.filter_cons]
    simpa [ints_] using ih
  | some i :: r => by
    have ih := filter_dO r
    rw [List.filter_cons]
    simp only [Option.isNone_some, Bool.not_false, if_true, List.map_cons, ih]
    rfl
theorem lcGo_opt {T F : DEnv → M D} {tg : D → DEnv → Option DEnv} {env : DEnv} : ∀ (rs : List (Option Int)) (acc : List D), (∀ o : Option Int, ∃ env', tg (dO o) env = some env' ∧ fTst T env' = ret (!o.isNone) ∧ F env' = ret (dO o)) → acc.length + rs.length ≤ sizeLine →
    lcGo tg (fTst T) F env (rs.map dO) acc = ret (acc ++ (ints_ rs).map D.int)
  | [], acc, _, _ => by simp [lcGo, ints_]
  | o :: rs, acc, h, hl => by
    obtain ⟨env', e1, e0, e2⟩ := h o
    have hl' : acc.length + (rs.length + 1) ≤ sizeLine := hl
    rw [List.map_cons]
    unfold lcGo
    rw [e1]
    simp only [e0, nox_ret, VS.bnd_ret]
    cases o with
    | none =>
      have ih := lcGo_opt (T := T) (F := F) (tg := tg) (env := env) rs acc h (by omega)
      simp only [Option.isNone_none, Bool.not_true, Bool.false_eq_true, if_false]
      exact ih
    | some i =>
      have ih := lcGo_opt (T := T) (F := F) (tg := tg) (env := env) rs (acc ++ [.int i]) h (by rw [List.length_append]; show acc.length + 1 + rs.length ≤ _; omega)
      simp only [Option.isNone_some, Bool.not_false, if_true, e2, nox_ret, VS.bnd_ret]
      rw [if_pos (by omega)]
      refine ih.trans ?_
      rw [List.append_assoc]
      rfl
def fndN (n : Nat) : List D → M D := lev (fun r => fDef 9 (B_found_by r)) n
theorem p_fnd : ∀ (n : Nat), n ≤ 20 → ∀ (m : Int) (f : Fm) (d e : D) (lot : List Str) (xs : List Int), 0 < m → e.seq = some (lot.map D.str) → IsF f d → dep f < n → ne_ f → (names f).length ≤ 1000 → xs.length = (names f).length → fndN n [d, .int m, e, .lst (xs.map D.int)] = ret (dO (fnd m lot f xs)) := by
  intro n
  induction n with
  | zero => exact fun _ m f d e lot xs _ _ _ h => absurd h (by omega)
  | succ n ih =>
    intro hn20 m f d e lot xs hm he h hn hw hl hx
    match f, h with
    | .name s, h =>
      have e1 := ix_head (xs := xs) (by rw [hx]; simp [names])
      have il := in_lot he s
      show fDef 9 (B_found_by (fndN n)) _ = _
      unfold B_found_by
      simp only [fDef, fDefF, ofF, sSeq, sIf, sNext, sDrop, sRet, sRetF, sRetO, sSetC, sSetA, sPar, cV, cO, fTst, fBlt, fCall, fCallF, fCons, fNil, fName, fC, fOp, fUn, fAndV, fOrV, fNotV, fAndT, fOrT, fNotT, fIf, fTup_eq, fLst_eq, fNew_eq, chkL0, chkL1, chkL2, chkL3, chkL4, chkT1, chkT2, chkT3, chkN0, chkN1, fL, fLcL, fSeq, fStar, fIt, fStrs, fSl, fPart, sFor, sAsgT, bnd_ret, ofO_some, al, cl, Sl.al, Sl.cl, startS, wipeD, hSet, gSet, List.map_cons, List.map_nil, List.length_cons, List.length_nil, List.cons_append, List.nil_append, List.getElem?_cons_zero, List.getElem?_cons_succ, List.replicate, List.set_cons_zero, List.set_cons_succ, eqD_int, eqD_str, neD_int, eqD_bl, neD_bl, geD_int, gtD_int, ltD_int, addD_int, subD_int, Nat.reduceSub, Nat.reduceAdd, Nat.reduceLT, decide_true, decide_false, if_true, if_false, Bool.false_eq_true, Option.some.injEq, reduceIte, and_self, true_and, and_true, ixD0 h, ixD1 h, il, e1]
      rw [fnd_name]
      by_cases c : s ∈ lot
      · simp only [c, decide_true, if_true, VS.bnd_ret]
      · simp only [c, decide_false, Bool.false_eq_true, if_false, VS.bnd_ret]
        rfl
    | .gate b ps, h =>
      obtain ⟨ds, h3, pt, _⟩ := P_parted h (by omega) hw hl hx
      obtain ⟨l, ds', h1, h2, _⟩ := h
      have hw' : ps ≠ [] ∧ nes ps := by simpa only [ne_] using hw
      rw [names_gate] at hl hx
      have hL := (lens_le hw'.2).1
      have key : ∀ env : DEnv, env = [some d, some (.int m), some e, some (.lst (xs.map D.int)), none, none, none, none, none] → lcGo (gTp 2 (gsCons (gSet 6) (gsCons (gSet 7) gsNil))) fYes (fCall 4 (fndN n) (fCons (fName 6) (fCons (fName 1) (fCons (fName 2) (fCons (fName 7) fNil))))) env (List.zipWith prt ds (chunk ps xs)) [] = ret ((fnds m lot ps xs).map dO) := by
        rintro env rfl
        refine (lcGo_two (R := RP) (fun a => dO (fnd m lot a.1 a.2)) (ps.zip (chunk ps xs)) _ [] (two_parts ps ds xs h3 hx) (fun a t ha hr => ?_) (by have := zip_len ps xs; exact sz (by simp only [List.length_nil]; omega))).trans ?_
        · obtain ⟨e', he', rfl, hc⟩ := hr
          have hp := inner_len (b := b) ha
          have e1 := ih (by omega) m a.1 e' e lot a.2 hm he he' (dep_lt hp hn) (nes_mem hw'.2 hp) (Nat.le_trans (names_mem hp) hl) hc
          refine ⟨_, rfl, ?_⟩
          simp only [fDef, fDefF, ofF, sSeq, sIf, sNext, sDrop, sRet, sRetF, sRetO, sSetC, sSetA, sPar, cV, cO, fTst, fBlt, fCall, fCallF, fCons, fNil, fName, fC, fOp, fUn, fAndV, fOrV, fNotV, fAndT, fOrT, fNotT, fIf, fTup_eq, fLst_eq, fNew_eq, chkL0, chkL1, chkL2, chkL3, chkL4, chkT1, chkT2, chkT3, chkN0, chkN1, fL, fLcL, fSeq, fStar, fIt, fStrs, fSl, fPart, sFor, sAsgT, bnd_ret, ofO_some, al, cl, Sl.al, Sl.cl, startS, wipeD, hSet, gSet, List.map_cons, List.map_nil, List.length_cons, List.length_nil, List.cons_append, List.nil_append, List.getElem?_cons_zero, List.getElem?_cons_succ, List.replicate, List.set_cons_zero, List.set_cons_succ, eqD_int, eqD_str, neD_int, eqD_bl, neD_bl, geD_int, gtD_int, ltD_int, addD_int, subD_int, Nat.reduceSub, Nat.reduceAdd, Nat.reduceLT, decide_true, decide_false, if_true, if_false, Bool.false_eq_true, Option.some.injEq, reduceIte, and_self, true_and, and_true, e1]
        · rw [List.nil_append, ← parts_map (fun p c => fnd m lot p c) (fnds m lot) (fun xs => by simp [fnds]) (fun p ps xs => fnds_cons m lot p ps xs) ps xs, List.map_map]
          rfl
      have hrs := fnds_length m lot ps xs
      rw [fnd_gate]
      generalize fnds m lot ps xs = rs at *
      have sq : (D.lst (List.zipWith prt ds (chunk ps xs))).seq = some (List.zipWith prt ds (chunk ps xs)) := rfl
      have sq2 : (D.lst (rs.map dO)).seq = some (rs.map dO) := rfl
      have k1 := key _ rfl
      have mo := in_non rs
      have k2 : lcGo (gSet 8) (fTst (fOp (oIsN true) (fName 8) (fC .non))) (fName 8) [some d, some (.int m), some e, some (.lst (xs.map D.int)), some (.lst (rs.map dO)), none, none, none, none] (rs.map dO) [] = ret ((ints_ rs).map D.int) :=
        (lcGo_opt rs [] (fun o => ⟨_, rfl, by simp only [fDef, fDefF, ofF, sSeq, sIf, sNext, sDrop, sRet, sRetF, sRetO, sSetC, sSetA, sPar, cV, cO, fTst, fBlt, fCall, fCallF, fCons, fNil, fName, fC, fOp, fUn, fAndV, fOrV, fNotV, fAndT, fOrT, fNotT, fIf, fTup_eq, fLst_eq, fNew_eq, chkL0, chkL1, chkL2, chkL3, chkL4, chkT1, chkT2, chkT3, chkN0, chkN1, fL, fLcL, fSeq, fStar, fIt, fStrs, fSl, fPart, sFor, sAsgT, bnd_ret, ofO_some, al, cl, Sl.al, Sl.cl, startS, wipeD, hSet, gSet, List.map_cons, List.map_nil, List.length_cons, List.length_nil, List.cons_append, List.nil_append, List.getElem?_cons_zero, List.getElem?_cons_succ, List.replicate, List.set_cons_zero, List.set_cons_succ, eqD_int, eqD_str, neD_int, eqD_bl, neD_bl, geD_int, gtD_int, ltD_int, addD_int, subD_int, Nat.reduceSub, Nat.reduceAdd, Nat.reduceLT, decide_true, decide_false, if_true, if_false, Bool.false_eq_true, Option.some.injEq, reduceIte, and_self, true_and, and_true, notN_dO], rfl⟩) (by simp only [List.length_nil]; exact sz (by omega))).trans (by rw [List.nil_append])
      show fDef 9 (B_found_by (fndN n)) _ = _
      unfold B_found_by
      cases b with
      | true =>
        simp only [fDef, fDefF, ofF, sSeq, sIf, sNext, sDrop, sRet, sRetF, sRetO, sSetC, sSetA, sPar, cV, cO, fTst, fBlt, fCall, fCallF, fCons, fNil, fName, fC, fOp, fUn, fAndV, fOrV, fNotV, fAndT, fOrT, fNotT, fIf, fTup_eq, fLst_eq, fNew_eq, chkL0, chkL1, chkL2, chkL3, chkL4, chkT1, chkT2, chkT3, chkN0, chkN1, fL, fLcL, fSeq, fStar, fIt, fStrs, fSl, fPart, sFor, sAsgT, bnd_ret, ofO_some, al, cl, Sl.al, Sl.cl, startS, wipeD, hSet, gSet, List.map_cons, List.map_nil, List.length_cons, List.length_nil, List.cons_append, List.nil_append, List.getElem?_cons_zero, List.getElem?_cons_succ, List.replicate, List.set_cons_zero, List.set_cons_succ, eqD_int, eqD_str, neD_int, eqD_bl, neD_bl, geD_int, gtD_int, ltD_int, addD_int, subD_int, Nat.reduceSub, Nat.reduceAdd, Nat.reduceLT, decide_true, decide_false, if_true, if_false, Bool.false_eq_true, Option.some.injEq, reduceIte, and_self, true_and, and_true, ixD0 h1, kw_ne, kw_all, pt, sq, k1, mo]
        cases hb : rs.any (·.isNone) with
        | true =>
          simp only [fDef, fDefF, ofF, sSeq, sIf, sNext, sDrop, sRet, sRetF, sRetO, sSetC, sSetA, sPar, cV, cO, fTst, fBlt, fCall, fCallF, fCons, fNil, fName, fC, fOp, fUn, fAndV, fOrV, fNotV, fAndT, fOrT, fNotT, fIf, fTup_eq, fLst_eq, fNew_eq, chkL0, chkL1, chkL2, chkL3, chkL4, chkT1, chkT2, chkT3, chkN0, chkN1, fL, fLcL, fSeq, fStar, fIt, fStrs, fSl, fPart, sFor, sAsgT, bnd_ret, ofO_some, al, cl, Sl.al, Sl.cl, startS, wipeD, hSet, gSet, List.map_cons, List.map_nil, List.length_cons, List.length_nil, List.cons_append, List.nil_append, List.getElem?_cons_zero, List.getElem?_cons_succ, List.replicate, List.set_cons_zero, List.set_cons_succ, eqD_int, eqD_str, neD_int, eqD_bl, neD_bl, geD_int, gtD_int, ltD_int, addD_int, subD_int, Nat.reduceSub, Nat.reduceAdd, Nat.reduceLT, decide_true, decide_false, if_true, if_false, Bool.false_eq_true, Option.some.injEq, reduceIte, and_self, true_and, and_true]
          unfold combF
          rw [hb]
          rfl
        | false =>
          obtain ⟨q1, q2⟩ := ints_of hb
          have sm := sumD (ints_ rs)
          have md := modD_int (i := (ints_ rs).sum) hm
          rw [q1]
          simp only [fDef, fDefF, ofF, sSeq, sIf, sNext, sDrop, sRet, sRetF, sRetO, sSetC, sSetA, sPar, cV, cO, fTst, fBlt, fCall, fCallF, fCons, fNil, fName, fC, fOp, fUn, fAndV, fOrV, fNotV, fAndT, fOrT, fNotT, fIf, fTup_eq, fLst_eq, fNew_eq, chkL0, chkL1, chkL2, chkL3, chkL4, chkT1, chkT2, chkT3, chkN0, chkN1, fL, fLcL, fSeq, fStar, fIt, fStrs, fSl, fPart, sFor, sAsgT, bnd_ret, ofO_some, al, cl, Sl.al, Sl.cl, startS, wipeD, hSet, gSet, List.map_cons, List.map_nil, List.length_cons, List.length_nil, List.cons_append, List.nil_append, List.getElem?_cons_zero, List.getElem?_cons_succ, List.replicate, List.set_cons_zero, List.set_cons_succ, eqD_int, eqD_str, neD_int, eqD_bl, neD_bl, geD_int, gtD_int, ltD_int, addD_int, subD_int, Nat.reduceSub, Nat.reduceAdd, Nat.reduceLT, decide_true, decide_false, if_true, if_false, Bool.false_eq_true, Option.some.injEq, reduceIte, and_self, true_and, and_true, sm, md]
          unfold combF
          rw [hb]
          rfl
      | false =>
        have nn := ne_nil (ints_ rs)
        simp only [fDef, fDefF, ofF, sSeq, sIf, sNext, sDrop, sRet, sRetF, sRetO, sSetC, sSetA, sPar, cV, cO, fTst, fBlt, fCall, fCallF, fCons, fNil, fName, fC, fOp, fUn, fAndV, fOrV, fNotV, fAndT, fOrT, fNotT, fIf, fTup_eq, fLst_eq, fNew_eq, chkL0, chkL1, chkL2, chkL3, chkL4, chkT1, chkT2, chkT3, chkN0, chkN1, fL, fLcL, fSeq, fStar, fIt, fStrs, fSl, fPart, sFor, sAsgT, bnd_ret, ofO_some, al, cl, Sl.al, Sl.cl, startS, wipeD, hSet, gSet, List.map_cons, List.map_nil, List.length_cons, List.length_nil, List.cons_append, List.nil_append, List.getElem?_cons_zero, List.getElem?_cons_succ, List.replicate, List.set_cons_zero, List.set_cons_succ, eqD_int, eqD_str, neD_int, eqD_bl, neD_bl, geD_int, gtD_int, ltD_int, addD_int, subD_int, Nat.reduceSub, Nat.reduceAdd, Nat.reduceLT, decide_true, decide_false, if_true, if_false, Bool.false_eq_true, Option.some.injEq, reduceIte, and_self, true_and, and_true, ixD0 h1, kw_ne, kw_all, pt, sq, k1, sq2]
        rw [k2]
        simp only [fDef, fDefF, ofF, sSeq, sIf, sNext, sDrop, sRet, sRetF, sRetO, sSetC, sSetA, sPar, cV, cO, fTst, fBlt, fCall, fCallF, fCons, fNil, fName, fC, fOp, fUn, fAndV, fOrV, fNotV, fAndT, fOrT, fNotT, fIf, fTup_eq, fLst_eq, fNew_eq, chkL0, chkL1, chkL2, chkL3, chkL4, chkT1, chkT2, chkT3, chkN0, chkN1, fL, fLcL, fSeq, fStar, fIt, fStrs, fSl, fPart, sFor, sAsgT, bnd_ret, ofO_some, al, cl, Sl.al, Sl.cl, startS, wipeD, hSet, gSet, List.map_cons, List.map_nil, List.length_cons, List.length_nil, List.cons_append, List.nil_append, List.getElem?_cons_zero, List.getElem?_cons_succ, List.replicate, List.set_cons_zero, List.set_cons_succ, eqD_int, eqD_str, neD_int, eqD_bl, neD_bl, geD_int, gtD_int, ltD_int, addD_int, subD_int, Nat.reduceSub, Nat.reduceAdd, Nat.reduceLT, decide_true, decide_false, if_true, if_false, Bool.false_eq_true, Option.some.injEq, reduceIte, and_self, true_and, and_true, nn]
        show _ = ret (dO (ints_ rs).head?)
        cases hi : ints_ rs with
        | nil => rfl
        | cons x r =>
          have ih0 : oIx (.lst (.int x :: r.map D.int)) (.int 0) = some (.int x) := ix_head (xs := x :: r) (by simp)
          simp only [fDef, fDefF, ofF, sSeq, sIf, sNext, sDrop, sRet, sRetF, sRetO, sSetC, sSetA, sPar, cV, cO, fTst, fBlt, fCall, fCallF, fCons, fNil, fName, fC, fOp, fUn, fAndV, fOrV, fNotV, fAndT, fOrT, fNotT, fIf, fTup_eq, fLst_eq, fNew_eq, chkL0, chkL1, chkL2, chkL3, chkL4, chkT1, chkT2, chkT3, chkN0, chkN1, fL, fLcL, fSeq, fStar, fIt, fStrs, fSl, fPart, sFor, sAsgT, bnd_ret, ofO_some, al, cl, Sl.al, Sl.cl, startS, wipeD, hSet, gSet, List.map_cons, List.map_nil, List.length_cons, List.length_nil, List.cons_append, List.nil_append, List.getElem?_cons_zero, List.getElem?_cons_succ, List.replicate, List.set_cons_zero, List.set_cons_succ, eqD_int, eqD_str, neD_int, eqD_bl, neD_bl, geD_int, gtD_int, ltD_int, addD_int, subD_int, Nat.reduceSub, Nat.reduceAdd, Nat.reduceLT, decide_true, decide_false, if_true, if_false, Bool.false_eq_true, Option.some.injEq, reduceIte, and_self, true_and, and_true, ih0, List.isEmpty_cons, Bool.not_false]
          rfl
end K75
namespace K75
open PySem PySem.Spec PyProof.Rows L2 VS
theorem ints_len_le : ∀ rs : List (Option Int), (ints_ rs).length ≤ rs.length
  | [] => Nat.le_refl _
  | none :: r => by have := ints_len_le r; simp only [ints_, List.length_cons]; omega
  | some i :: r => by have := ints_len_le r; simp only [ints_, List.length_cons]; omega
theorem ints_len : ∀ rs : List (Option Int), decide (((ints_ rs).length : Int) = (rs.length : Nat)) = !rs.any (·.isNone)
  | [] => rfl
  | none :: r => by
    have := ints_len_le r
    have h : ¬ (((ints_ (none :: r)).length : Int) = ((none :: r).length : Nat)) := by
      simp only [ints_, List.length_cons]
      omega
    rw [List.any_cons, Option.isNone_none, Bool.true_or, Bool.not_true]
    exact decide_eq_false h
  | some i :: r => by
    have ih := ints_len r
    rw [List.any_cons, Option.isNone_some, Bool.false_or, ← ih]
    congr 1
    simp only [ints_, List.length_cons]
    refine propext ⟨fun h => by omega, fun h => by omega⟩
def lfndN (n : Nat) : List D → M D := lev (fun r => fDef 8 (B__law_found r)) n
theorem p_lfnd : ∀ (n : Nat), n ≤ 20 → ∀ (m : Int) (f : Fm) (d e : D) (lot : List Str) (xs : List Int), 0 < m → e.seq = some (lot.map D.str) → IsF f d → dep f < n → ne_ f → (names f).length ≤ 1000 → xs.length = (names f).length → lfndN n [d, .int m, e, .lst (xs.map D.int)] = ret (dO (fnd m lot f xs)) := by
  intro n
  induction n with
  | zero => exact fun _ m f d e lot xs _ _ _ h => absurd h (by omega)
  | succ n ih =>
    intro hn20 m f d e lot xs hm he h hn hw hl hx
    match f, h with
    | .name s, h =>
      have e1 := ix_head (xs := xs) (by rw [hx]; simp [names])
      have il := in_lot he s
      show fDef 8 (B__law_found (lfndN n)) _ = _
      unfold B__law_found
      simp only [fDef, fDefF, ofF, sSeq, sIf, sNext, sDrop, sRet, sRetF, sRetO, sSetC, sSetA, sPar, cV, cO, fTst, fBlt, fCall, fCallF, fCons, fNil, fName, fC, fOp, fUn, fAndV, fOrV, fNotV, fAndT, fOrT, fNotT, fIf, fTup_eq, fLst_eq, fNew_eq, chkL0, chkL1, chkL2, chkL3, chkL4, chkT1, chkT2, chkT3, chkN0, chkN1, fL, fLcL, fSeq, fStar, fIt, fStrs, fSl, fPart, sFor, sAsgT, bnd_ret, ofO_some, al, cl, Sl.al, Sl.cl, startS, wipeD, hSet, gSet, List.map_cons, List.map_nil, List.length_cons, List.length_nil, List.cons_append, List.nil_append, List.getElem?_cons_zero, List.getElem?_cons_succ, List.replicate, List.set_cons_zero, List.set_cons_succ, eqD_int, eqD_str, neD_int, eqD_bl, neD_bl, geD_int, gtD_int, ltD_int, addD_int, subD_int, Nat.reduceSub, Nat.reduceAdd, Nat.reduceLT, decide_true, decide_false, if_true, if_false, Bool.false_eq_true, Option.some.injEq, reduceIte, and_self, true_and, and_true, ixD0 h, ixD1 h, il, e1]
      rw [fnd_name]
      by_cases c : s ∈ lot
      · simp only [c, decide_true, if_true, VS.bnd_ret]
      · simp only [c, decide_false, Bool.false_eq_true, if_false, VS.bnd_ret]
        rfl
    | .gate b ps, h =>
      obtain ⟨ds, h3, _, pt⟩ := P_parted h (by omega) hw hl hx
      obtain ⟨l, ds', h1, h2, _⟩ := h
      have hw' : ps ≠ [] ∧ nes ps := by simpa only [ne_] using hw
      rw [names_gate] at hl hx
      have hL := (lens_le hw'.2).1
      have key : ∀ env : DEnv, env = [some d, some (.int m), some e, some (.lst (xs.map D.int)), none, none, none, none] → lcGo (gTp 2 (gsCons (gSet 6) (gsCons (gSet 4) gsNil))) fYes (fCall 4 (lfndN n) (fCons (fName 6) (fCons (fName 1) (fCons (fName 2) (fCons (fName 4) fNil))))) env (List.zipWith prt ds (chunk ps xs)) [] = ret ((fnds m lot ps xs).map dO) := by
        rintro env rfl
        refine (lcGo_two (R := RP) (fun a => dO (fnd m lot a.1 a.2)) (ps.zip (chunk ps xs)) _ [] (two_parts ps ds xs h3 hx) (fun a t ha hr => ?_) (by have := zip_len ps xs; exact sz (by simp only [List.length_nil]; omega))).trans ?_
        · obtain ⟨e', he', rfl, hc⟩ := hr
          have hp := inner_len (b := b) ha
          have e1 := ih (by omega) m a.1 e' e lot a.2 hm he he' (dep_lt hp hn) (nes_mem hw'.2 hp) (Nat.le_trans (names_mem hp) hl) hc
          refine ⟨_, rfl, ?_⟩
          simp only [fDef, fDefF, ofF, sSeq, sIf, sNext, sDrop, sRet, sRetF, sRetO, sSetC, sSetA, sPar, cV, cO, fTst, fBlt, fCall, fCallF, fCons, fNil, fName, fC, fOp, fUn, fAndV, fOrV, fNotV, fAndT, fOrT, fNotT, fIf, fTup_eq, fLst_eq, fNew_eq, chkL0, chkL1, chkL2, chkL3, chkL4, chkT1, chkT2, chkT3, chkN0, chkN1, fL, fLcL, fSeq, fStar, fIt, fStrs, fSl, fPart, sFor, sAsgT, bnd_ret, ofO_some, al, cl, Sl.al, Sl.cl, startS, wipeD, hSet, gSet, List.map_cons, List.map_nil, List.length_cons, List.length_nil, List.cons_append, List.nil_append, List.getElem?_cons_zero, List.getElem?_cons_succ, List.replicate, List.set_cons_zero, List.set_cons_succ, eqD_int, eqD_str, neD_int, eqD_bl, neD_bl, geD_int, gtD_int, ltD_int, addD_int, subD_int, Nat.reduceSub, Nat.reduceAdd, Nat.reduceLT, decide_true, decide_false, if_true, if_false, Bool.false_eq_true, Option.some.injEq, reduceIte, and_self, true_and, and_true, e1]
        · rw [List.nil_append, ← parts_map (fun p c => fnd m lot p c) (fnds m lot) (fun xs => by simp [fnds]) (fun p ps xs => fnds_cons m lot p ps xs) ps xs, List.map_map]
          rfl
      have hrs := fnds_length m lot ps xs
      rw [fnd_gate]
      generalize fnds m lot ps xs = rs at *
      have sq : (D.lst (List.zipWith prt ds (chunk ps xs))).seq = some (List.zipWith prt ds (chunk ps xs)) := rfl
      have sq2 : (D.lst (rs.map dO)).seq = some (rs.map dO) := rfl
      have k1 := key _ rfl
      have k2 : lcGo (gSet 7) (fTst (fOp (oIsN true) (fName 7) (fC .non))) (fName 7) [some d, some (.int m), some e, some (.lst (xs.map D.int)), none, some (.lst (rs.map dO)), none, none] (rs.map dO) [] = ret ((ints_ rs).map D.int) :=
        (lcGo_opt rs [] (fun o => ⟨_, rfl, by simp only [fDef, fDefF, ofF, sSeq, sIf, sNext, sDrop, sRet, sRetF, sRetO, sSetC, sSetA, sPar, cV, cO, fTst, fBlt, fCall, fCallF, fCons, fNil, fName, fC, fOp, fUn, fAndV, fOrV, fNotV, fAndT, fOrT, fNotT, fIf, fTup_eq, fLst_eq, fNew_eq, chkL0, chkL1, chkL2, chkL3, chkL4, chkT1, chkT2, chkT3, chkN0, chkN1, fL, fLcL, fSeq, fStar, fIt, fStrs, fSl, fPart, sFor, sAsgT, bnd_ret, ofO_some, al, cl, Sl.al, Sl.cl, startS, wipeD, hSet, gSet, List.map_cons, List.map_nil, List.length_cons, List.length_nil, List.cons_append, List.nil_append, List.getElem?_cons_zero, List.getElem?_cons_succ, List.replicate, List.set_cons_zero, List.set_cons_succ, eqD_int, eqD_str, neD_int, eqD_bl, neD_bl, geD_int, gtD_int, ltD_int, addD_int, subD_int, Nat.reduceSub, Nat.reduceAdd, Nat.reduceLT, decide_true, decide_false, if_true, if_false, Bool.false_eq_true, Option.some.injEq, reduceIte, and_self, true_and, and_true, notN_dO], rfl⟩) (by simp only [List.length_nil]; exact sz (by omega))).trans (by rw [List.nil_append])
      show fDef 8 (B__law_found (lfndN n)) _ = _
      unfold B__law_found
      cases b with
      | true =>
        have l1 : bLen [.lst ((ints_ rs).map D.int)] = some (.int ((ints_ rs).length : Nat)) := by
          show some (D.int (((ints_ rs).map D.int).length : Nat)) = _
          rw [List.length_map]
        have l2 : bLen [.lst (rs.map dO)] = some (.int (rs.length : Nat)) := by
          show some (D.int ((rs.map dO).length : Nat)) = _
          rw [List.length_map]
        have il := ints_len rs
        have sm := sumD (ints_ rs)
        have md := modD_int (i := (ints_ rs).sum) hm
        simp only [fDef, fDefF, ofF, sSeq, sIf, sNext, sDrop, sRet, sRetF, sRetO, sSetC, sSetA, sPar, cV, cO, fTst, fBlt, fCall, fCallF, fCons, fNil, fName, fC, fOp, fUn, fAndV, fOrV, fNotV, fAndT, fOrT, fNotT, fIf, fTup_eq, fLst_eq, fNew_eq, chkL0, chkL1, chkL2, chkL3, chkL4, chkT1, chkT2, chkT3, chkN0, chkN1, fL, fLcL, fSeq, fStar, fIt, fStrs, fSl, fPart, sFor, sAsgT, bnd_ret, ofO_some, al, cl, Sl.al, Sl.cl, startS, wipeD, hSet, gSet, List.map_cons, List.map_nil, List.length_cons, List.length_nil, List.cons_append, List.nil_append, List.getElem?_cons_zero, List.getElem?_cons_succ, List.replicate, List.set_cons_zero, List.set_cons_succ, eqD_int, eqD_str, neD_int, eqD_bl, neD_bl, geD_int, gtD_int, ltD_int, addD_int, subD_int, Nat.reduceSub, Nat.reduceAdd, Nat.reduceLT, decide_true, decide_false, if_true, if_false, Bool.false_eq_true, Option.some.injEq, reduceIte, and_self, true_and, and_true, ixD0 h1, kw_ne, kw_any, pt, sq, k1, sq2]
        rw [k2]
        simp only [fDef, fDefF, ofF, sSeq, sIf, sNext, sDrop, sRet, sRetF, sRetO, sSetC, sSetA, sPar, cV, cO, fTst, fBlt, fCall, fCallF, fCons, fNil, fName, fC, fOp, fUn, fAndV, fOrV, fNotV, fAndT, fOrT, fNotT, fIf, fTup_eq, fLst_eq, fNew_eq, chkL0, chkL1, chkL2, chkL3, chkL4, chkT1, chkT2, chkT3, chkN0, chkN1, fL, fLcL, fSeq, fStar, fIt, fStrs, fSl, fPart, sFor, sAsgT, bnd_ret, ofO_some, al, cl, Sl.al, Sl.cl, startS, wipeD, hSet, gSet, List.map_cons, List.map_nil, List.length_cons, List.length_nil, List.cons_append, List.nil_append, List.getElem?_cons_zero, List.getElem?_cons_succ, List.replicate, List.set_cons_zero, List.set_cons_succ, eqD_int, eqD_str, neD_int, eqD_bl, neD_bl, geD_int, gtD_int, ltD_int, addD_int, subD_int, Nat.reduceSub, Nat.reduceAdd, Nat.reduceLT, decide_true, decide_false, if_true, if_false, Bool.false_eq_true, Option.some.injEq, reduceIte, and_self, true_and, and_true, ixD0 h1, kw_any, Bool.not_true, l1, l2, il]
        cases hb : rs.any (·.isNone) with
        | true =>
          simp only [fDef, fDefF, ofF, sSeq, sIf, sNext, sDrop, sRet, sRetF, sRetO, sSetC, sSetA, sPar, cV, cO, fTst, fBlt, fCall, fCallF, fCons, fNil, fName, fC, fOp, fUn, fAndV, fOrV, fNotV, fAndT, fOrT, fNotT, fIf, fTup_eq, fLst_eq, fNew_eq, chkL0, chkL1, chkL2, chkL3, chkL4, chkT1, chkT2, chkT3, chkN0, chkN1, fL, fLcL, fSeq, fStar, fIt, fStrs, fSl, fPart, sFor, sAsgT, bnd_ret, ofO_some, al, cl, Sl.al, Sl.cl, startS, wipeD, hSet, gSet, List.map_cons, List.map_nil, List.length_cons, List.length_nil, List.cons_append, List.nil_append, List.getElem?_cons_zero, List.getElem?_cons_succ, List.replicate, List.set_cons_zero, List.set_cons_succ, eqD_int, eqD_str, neD_int, eqD_bl, neD_bl, geD_int, gtD_int, ltD_int, addD_int, subD_int, Nat.reduceSub, Nat.reduceAdd, Nat.reduceLT, decide_true, decide_false, if_true, if_false, Bool.false_eq_true, Option.some.injEq, reduceIte, and_self, true_and, and_true, Bool.not_true]
          unfold combF
          rw [hb]
          rfl
        | false =>
          simp only [fDef, fDefF, ofF, sSeq, sIf, sNext, sDrop, sRet, sRetF, sRetO, sSetC, sSetA, sPar, cV, cO, fTst, fBlt, fCall, fCallF, fCons, fNil, fName, fC, fOp, fUn, fAndV, fOrV, fNotV, fAndT, fOrT, fNotT, fIf, fTup_eq, fLst_eq, fNew_eq, chkL0, chkL1, chkL2, chkL3, chkL4, chkT1, chkT2, chkT3, chkN0, chkN1, fL, fLcL, fSeq, fStar, fIt, fStrs, fSl, fPart, sFor, sAsgT, bnd_ret, ofO_some, al, cl, Sl.al, Sl.cl, startS, wipeD, hSet, gSet, List.map_cons, List.map_nil, List.length_cons, List.length_nil, List.cons_append, List.nil_append, List.getElem?_cons_zero, List.getElem?_cons_succ, List.replicate, List.set_cons_zero, List.set_cons_succ, eqD_int, eqD_str, neD_int, eqD_bl, neD_bl, geD_int, gtD_int, ltD_int, addD_int, subD_int, Nat.reduceSub, Nat.reduceAdd, Nat.reduceLT, decide_true, decide_false, if_true, if_false, Bool.false_eq_true, Option.some.injEq, reduceIte, and_self, true_and, and_true, Bool.not_false, sm, bInt_int, md]
          unfold combF
          rw [hb]
          rfl
      | false =>
        have nn := ne_nil (ints_ rs)
        simp only [fDef, fDefF, ofF, sSeq, sIf, sNext, sDrop, sRet, sRetF, sRetO, sSetC, sSetA, sPar, cV, cO, fTst, fBlt, fCall, fCallF, fCons, fNil, fName, fC, fOp, fUn, fAndV, fOrV, fNotV, fAndT, fOrT, fNotT, fIf, fTup_eq, fLst_eq, fNew_eq, chkL0, chkL1, chkL2, chkL3, chkL4, chkT1, chkT2, chkT3, chkN0, chkN1, fL, fLcL, fSeq, fStar, fIt, fStrs, fSl, fPart, sFor, sAsgT, bnd_ret, ofO_some, al, cl, Sl.al, Sl.cl, startS, wipeD, hSet, gSet, List.map_cons, List.map_nil, List.length_cons, List.length_nil, List.cons_append, List.nil_append, List.getElem?_cons_zero, List.getElem?_cons_succ, List.replicate, List.set_cons_zero, List.set_cons_succ, eqD_int, eqD_str, neD_int, eqD_bl, neD_bl, geD_int, gtD_int, ltD_int, addD_int, subD_int, Nat.reduceSub, Nat.reduceAdd, Nat.reduceLT, decide_true, decide_false, if_true, if_false, Bool.false_eq_true, Option.some.injEq, reduceIte, and_self, true_and, and_true, ixD0 h1, kw_ne, kw_any, pt, sq, k1, sq2]
        rw [k2]
        simp only [fDef, fDefF, ofF, sSeq, sIf, sNext, sDrop, sRet, sRetF, sRetO, sSetC, sSetA, sPar, cV, cO, fTst, fBlt, fCall, fCallF, fCons, fNil, fName, fC, fOp, fUn, fAndV, fOrV, fNotV, fAndT, fOrT, fNotT, fIf, fTup_eq, fLst_eq, fNew_eq, chkL0, chkL1, chkL2, chkL3, chkL4, chkT1, chkT2, chkT3, chkN0, chkN1, fL, fLcL, fSeq, fStar, fIt, fStrs, fSl, fPart, sFor, sAsgT, bnd_ret, ofO_some, al, cl, Sl.al, Sl.cl, startS, wipeD, hSet, gSet, List.map_cons, List.map_nil, List.length_cons, List.length_nil, List.cons_append, List.nil_append, List.getElem?_cons_zero, List.getElem?_cons_succ, List.replicate, List.set_cons_zero, List.set_cons_succ, eqD_int, eqD_str, neD_int, eqD_bl, neD_bl, geD_int, gtD_int, ltD_int, addD_int, subD_int, Nat.reduceSub, Nat.reduceAdd, Nat.reduceLT, decide_true, decide_false, if_true, if_false, Bool.false_eq_true, Option.some.injEq, reduceIte, and_self, true_and, and_true, ixD0 h1, kw_any, Bool.not_false, nn]
        show _ = ret (dO (ints_ rs).head?)
        cases hi : ints_ rs with
        | nil => rfl
        | cons x r =>
          have ih0 : oIx (.lst (.int x :: r.map D.int)) (.int 0) = some (.int x) := ix_head (xs := x :: r) (by simp)
          simp only [fDef, fDefF, ofF, sSeq, sIf, sNext, sDrop, sRet, sRetF, sRetO, sSetC, sSetA, sPar, cV, cO, fTst, fBlt, fCall, fCallF, fCons, fNil, fName, fC, fOp, fUn, fAndV, fOrV, fNotV, fAndT, fOrT, fNotT, fIf, fTup_eq, fLst_eq, fNew_eq, chkL0, chkL1, chkL2, chkL3, chkL4, chkT1, chkT2, chkT3, chkN0, chkN1, fL, fLcL, fSeq, fStar, fIt, fStrs, fSl, fPart, sFor, sAsgT, bnd_ret, ofO_some, al, cl, Sl.al, Sl.cl, startS, wipeD, hSet, gSet, List.map_cons, List.map_nil, List.length_cons, List.length_nil, List.cons_append, List.nil_append, List.getElem?_cons_zero, List.getElem?_cons_succ, List.replicate, List.set_cons_zero, List.set_cons_succ, eqD_int, eqD_str, neD_int, eqD_bl, neD_bl, geD_int, gtD_int, ltD_int, addD_int, subD_int, Nat.reduceSub, Nat.reduceAdd, Nat.reduceLT, decide_true, decide_false, if_true, if_false, Bool.false_eq_true, Option.some.injEq, reduceIte, and_self, true_and, and_true, ih0, List.isEmpty_cons, Bool.not_false]
          rfl
theorem L_found {f : Fm} {d e : D} {m : Int} {lot : List Str} {xs : List Int} (h : IsF f d) (hn : dep f < 20) (hw : ne_ f) (hl : (names f).length ≤ 1000) (hm : 0 < m) (he : e.seq = some (lot.map D.str)) (hx : xs.length = (names f).length) : F__law_found [d, .int m, e, .lst (xs.map D.int)] = ret (dO (fnd m lot f xs)) := p_lfnd 20 (Nat.le_refl _) m f d e lot xs hm he h hn hw hl hx
/-! ### opens -/
mutual
def opn (lot : List Str) : Fm → Bool
  | .name s => decide (s ∈ lot)
  | .gate b ps => if b then (opns lot ps).all id else (opns lot ps).any id
def opns (lot : List Str) : List Fm → List Bool
  | [] => []
  | p :: ps => opn lot p :: opns lot ps
end
theorem opn_name (lot : List Str) (s : Str) : opn lot (.name s) = decide (s ∈ lot) := by simp [opn]
theorem opn_gate (lot : List Str) (b : Bool) (ps : List Fm) : opn lot (.gate b ps) = if b then (opns lot ps).all id else (opns lot ps).any id := by simp [opn]
theorem opns_map (lot : List Str) : ∀ ps : List Fm, opns lot ps = ps.map (opn lot)
  | [] => by simp [opns]
  | p :: ps => by simp [opns, opns_map lot ps]
def opnN (n : Nat) : List D → M D := lev (fun r => fDef 4 (B__law_opens r)) n
theorem p_opn : ∀ (n : Nat) (f : Fm) (d e : D) (lot : List Str), e.seq = some (lot.map D.str) → IsF f d → dep f < n → ne_ f → (names f).length ≤ 1000 → opnN n [d, e] = ret (.bl (opn lot f)) := by
  intro n
  induction n with
  | zero => exact fun f d e lot _ _ h => absurd h (by omega)
  | succ n ih =>
    intro f d e lot he h hn hw hl
    match f, h with
    | .name s, h =>
      have il := in_lot he s
      show fDef 4 (B__law_opens (opnN n)) _ = _
      unfold B__law_opens
      simp only [fDef, fDefF, ofF, sSeq, sIf, sNext, sDrop, sRet, sRetF, sRetO, sSetC, sSetA, sPar, cV, cO, fTst, fBlt, fCall, fCallF, fCons, fNil, fName, fC, fOp, fUn, fAndV, fOrV, fNotV, fAndT, fOrT, fNotT, fIf, fTup_eq, fLst_eq, fNew_eq, chkL0, chkL1, chkL2, chkL3, chkL4, chkT1, chkT2, chkT3, chkN0, chkN1, fL, fLcL, fSeq, fStar, fIt, fStrs, fSl, fPart, sFor, sAsgT, bnd_ret, ofO_some, al, cl, Sl.al, Sl.cl, startS, wipeD, hSet, gSet, List.map_cons, List.map_nil, List.length_cons, List.length_nil, List.cons_append, List.nil_append, List.getElem?_cons_zero, List.getElem?_cons_succ, List.replicate, List.set_cons_zero, List.set_cons_succ, eqD_int, eqD_str, neD_int, eqD_bl, neD_bl, geD_int, gtD_int, ltD_int, addD_int, subD_int, Nat.reduceSub, Nat.reduceAdd, Nat.reduceLT, decide_true, decide_false, if_true, if_false, Bool.false_eq_true, Option.some.injEq, reduceIte, and_self, true_and, and_true, ixD0 h, ixD1 h, il]
      rw [opn_name]
    | .gate b ps, h =>
      obtain ⟨l, ds, h1, h2, h3⟩ := h
      have hw' : ps ≠ [] ∧ nes ps := by simpa only [ne_] using hw
      rw [names_gate] at hl
      have hL := (lens_le hw'.2).1
      have em : ps.map (fun p => D.bl (opn lot p)) = (opns lot ps).map D.bl := by rw [opns_map, List.map_map]; rfl
      have key : lcGo (gSet 3) fYes (fCall 2 (opnN n) (fCons (fName 3) (fCons (fName 1) fNil))) [some d, some e, none, none] ds [] = ret ((opns lot ps).map D.bl) := by
        rw [← em]
        refine lcGo_two (R := IsF) (fun p => D.bl (opn lot p)) ps ds [] h3.two (fun p t hp ht => ⟨_, rfl, ?_⟩) (sz (by simp only [List.length_nil]; omega))
        have := ih p t e lot he ht (dep_lt hp hn) (nes_mem hw'.2 hp) (Nat.le_trans (names_mem hp) hl)
        simp only [fDef, fDefF, ofF, sSeq, sIf, sNext, sDrop, sRet, sRetF, sRetO, sSetC, sSetA, sPar, cV, cO, fTst, fBlt, fCall, fCallF, fCons, fNil, fName, fC, fOp, fUn, fAndV, fOrV, fNotV, fAndT, fOrT, fNotT, fIf, fTup_eq, fLst_eq, fNew_eq, chkL0, chkL1, chkL2, chkL3, chkL4, chkT1, chkT2, chkT3, chkN0, chkN1, fL, fLcL, fSeq, fStar, fIt, fStrs, fSl, fPart, sFor, sAsgT, bnd_ret, ofO_some, al, cl, Sl.al, Sl.cl, startS, wipeD, hSet, gSet, List.map_cons, List.map_nil, List.length_cons, List.length_nil, List.cons_append, List.nil_append, List.getElem?_cons_zero, List.getElem?_cons_succ, List.replicate, List.set_cons_zero, List.set_cons_succ, eqD_int, eqD_str, neD_int, eqD_bl, neD_bl, geD_int, gtD_int, ltD_int, addD_int, subD_int, Nat.reduceSub, Nat.reduceAdd, Nat.reduceLT, decide_true, decide_false, if_true, if_false, Bool.false_eq_true, Option.some.injEq, reduceIte, and_self, true_and, and_true, this]
      have a1 := anyD (opns lot ps)
      have a2 := allD (opns lot ps)
      show fDef 4 (B__law_opens (opnN n)) _ = _
      unfold B__law_opens
      rw [opn_gate]
      cases b <;> (simp only [fDef, fDefF, ofF, sSeq, sIf, sNext, sDrop, sRet, sRetF, sRetO, sSetC, sSetA, sPar, cV, cO, fTst, fBlt, fCall, fCallF, fCons, fNil, fName, fC, fOp, fUn, fAndV, fOrV, fNotV, fAndT, fOrT, fNotT, fIf, fTup_eq, fLst_eq, fNew_eq, chkL0, chkL1, chkL2, chkL3, chkL4, chkT1, chkT2, chkT3, chkN0, chkN1, fL, fLcL, fSeq, fStar, fIt, fStrs, fSl, fPart, sFor, sAsgT, bnd_ret, ofO_some, al, cl, Sl.al, Sl.cl, startS, wipeD, hSet, gSet, List.map_cons, List.map_nil, List.length_cons, List.length_nil, List.cons_append, List.nil_append, List.getElem?_cons_zero, List.getElem?_cons_succ, List.replicate, List.set_cons_zero, List.set_cons_succ, eqD_int, eqD_str, neD_int, eqD_bl, neD_bl, geD_int, gtD_int, ltD_int, addD_int, subD_int, Nat.reduceSub, Nat.reduceAdd, Nat.reduceLT, decide_true, decide_false, if_true, if_false, Bool.false_eq_true, Option.some.injEq, reduceIte, and_self, true_and, and_true, ixD0 h1, ixD1 h1, kw_ne, kw_any, h2, key, a1, a2, Bool.not_true, Bool.not_false])
theorem L_opens {f : Fm} {d e : D} {lot : List Str} (h : IsF f d) (hn : dep f < 20) (hw : ne_ f) (hl : (names f).length ≤ 1000) (he : e.seq = some (lot.map D.str)) : F__law_opens [d, e] = ret (.bl (opn lot f)) := p_opn 20 f d e lot he h hn hw hl
end K75
namespace K75
open PySem PySem.Spec PyProof.Rows L2 VS
def ltS (a b : Str) : Bool := decide (a.cps.toList < b.cps.toList)
theorem lt_str (a b : Str) : oLt (.str a) (.str b) = some (.bl (ltS a b)) := rfl
def Rising (lot : List Str) : Prop := ∀ p ∈ lot.zip (lot.drop 1), ltS p.1 p.2 = true
theorem sl1 {e : D} {lot : List Str} (he : e.seq = some (lot.map D.str)) : ∃ e', oSl e (some 1) none = some e' ∧ e'.seq = some ((lot.drop 1).map D.str) := by
  cases e with
  | lst ds =>
    cases he
    refine ⟨.lst (VS.cutD (lot.map D.str) (some 1) none), rfl, ?_⟩
    have := cut_from (lot.map D.str) 1
    show some (VS.cutD (lot.map D.str) (some 1) none) = _
    rw [show (some (1 : Int)) = some ((1 : Nat) : Int) from rfl, this, List.map_drop]
  | tup ds =>
    cases he
    refine ⟨.tup (VS.cutD (lot.map D.str) (some 1) none), rfl, ?_⟩
    have := cut_from (lot.map D.str) 1
    show some (VS.cutD (lot.map D.str) (some 1) none) = _
    rw [show (some (1 : Int)) = some ((1 : Nat) : Int) from rfl, this, List.map_drop]
  | _ => cases he
theorem two_zip : ∀ (as bs : List Str), Two (fun (p : Str × Str) t => t = D.tup [.str p.1, .str p.2]) (as.zip bs) (List.zipWith (fun x y => D.tup [x, y]) (as.map D.str) (bs.map D.str))
  | [], bs => by simp [Two]
  | a :: as, [] => by simp [Two]
  | a :: as, b :: bs => ⟨_, _, rfl, rfl, two_zip as bs⟩
theorem P_rising {e : D} {lot : List Str} (he : e.seq = some (lot.map D.str)) (hl : lot.length ≤ 1000) (hr : Rising lot) : F_is_rising [e] = ret (.bl true) := by
  obtain ⟨e', s1, s2⟩ := sl1 he
  have z := zipD_eq he s2
  have em : (lot.zip (lot.drop 1)).map (fun p => D.bl (ltS p.1 p.2)) = ((lot.zip (lot.drop 1)).map fun p => ltS p.1 p.2).map D.bl := by rw [List.map_map]; rfl
  have key : lcGo (gTp 2 (gsCons (gSet 1) (gsCons (gSet 2) gsNil))) fYes (fOp oLt (fName 1) (fName 2)) [some e, none, none] (List.zipWith (fun x y => D.tup [x, y]) (lot.map D.str) ((lot.drop 1).map D.str)) [] = ret (((lot.zip (lot.drop 1)).map fun p => ltS p.1 p.2).map D.bl) := by
    rw [← em]
    refine lcGo_two (R := fun (p : Str × Str) t => t = D.tup [.str p.1, .str p.2]) (fun p => D.bl (ltS p.1 p.2)) _ _ [] (two_zip _ _) (fun p t _ ht => ?_) (sz (by simp only [List.length_nil, List.length_zip]; omega))
    subst ht
    refine ⟨_, rfl, ?_⟩
    simp only [fDef, fDefF, ofF, sSeq, sIf, sNext, sDrop, sRet, sRetF, sRetO, sSetC, sSetA, sPar, cV, cO, fTst, fBlt, fCall, fCallF, fCons, fNil, fName, fC, fOp, fUn, fAndV, fOrV, fNotV, fAndT, fOrT, fNotT, fIf, fTup_eq, fLst_eq, fNew_eq, chkL0, chkL1, chkL2, chkL3, chkL4, chkT1, chkT2, chkT3, chkN0, chkN1, fL, fLcL, fSeq, fStar, fIt, fStrs, fSl, fPart, sFor, sAsgT, bnd_ret, ofO_some, al, cl, Sl.al, Sl.cl, startS, wipeD, hSet, gSet, List.map_cons, List.map_nil, List.length_cons, List.length_nil, List.cons_append, List.nil_append, List.getElem?_cons_zero, List.getElem?_cons_succ, List.replicate, List.set_cons_zero, List.set_cons_succ, eqD_int, eqD_str, neD_int, eqD_bl, neD_bl, geD_int, gtD_int, ltD_int, addD_int, subD_int, Nat.reduceSub, Nat.reduceAdd, Nat.reduceLT, decide_true, decide_false, if_true, if_false, Bool.false_eq_true, Option.some.injEq, reduceIte, and_self, true_and, and_true, lt_str]
  have al_ := allD ((lot.zip (lot.drop 1)).map fun p => ltS p.1 p.2)
  have at_ : (((lot.zip (lot.drop 1)).map fun p => ltS p.1 p.2).all id) = true := by
    rw [List.all_eq_true]
    intro b hb
    obtain ⟨p, hp, rfl⟩ := List.mem_map.mp hb
    exact hr p hp
  rw [at_] at al_
  unfold F_is_rising B_is_rising
  simp only [fDef, fDefF, ofF, sSeq, sIf, sNext, sDrop, sRet, sRetF, sRetO, sSetC, sSetA, sPar, cV, cO, fTst, fBlt, fCall, fCallF, fCons, fNil, fName, fC, fOp, fUn, fAndV, fOrV, fNotV, fAndT, fOrT, fNotT, fIf, fTup_eq, fLst_eq, fNew_eq, chkL0, chkL1, chkL2, chkL3, chkL4, chkT1, chkT2, chkT3, chkN0, chkN1, fL, fLcL, fSeq, fStar, fIt, fStrs, fSl, fPart, sFor, sAsgT, bnd_ret, ofO_some, al, cl, Sl.al, Sl.cl, startS, wipeD, hSet, gSet, List.map_cons, List.map_nil, List.length_cons, List.length_nil, List.cons_append, List.nil_append, List.getElem?_cons_zero, List.getElem?_cons_succ, List.replicate, List.set_cons_zero, List.set_cons_succ, eqD_int, eqD_str, neD_int, eqD_bl, neD_bl, geD_int, gtD_int, ltD_int, addD_int, subD_int, Nat.reduceSub, Nat.reduceAdd, Nat.reduceLT, decide_true, decide_false, if_true, if_false, Bool.false_eq_true, Option.some.injEq, reduceIte, and_self, true_and, and_true, s1, z, key, al_]
theorem P_check_names {e : D} {lot : List Str} (he : e.seq = some (lot.map D.str)) (hl : lot.length ≤ 1000) (hr : Rising lot) (hv : ∀ s ∈ lot, valid s) : F_check_names [e] = ret .non := by
  have em : lot.map (fun _ => D.bl true) = (lot.map fun _ => true).map D.bl := by rw [List.map_map]; rfl
  have key : lcGo (gSet 1) fYes (fCall 1 F_is_name (fCons (fName 1) fNil)) [some e, none] (lot.map D.str) [] = ret ((lot.map fun _ => true).map D.bl) := by
    rw [← em]
    refine lcGo_two (R := fun s t => t = D.str s) (fun _ => D.bl true) lot _ [] (two_map D.str lot) (fun s t hs ht => ?_) (sz (by simp only [List.length_nil]; omega))
    subst ht
    refine ⟨_, rfl, ?_⟩
    have := P_is_name (hv s hs)
    simp only [fDef, fDefF, ofF, sSeq, sIf, sNext, sDrop, sRet, sRetF, sRetO, sSetC, sSetA, sPar, cV, cO, fTst, fBlt, fCall, fCallF, fCons, fNil, fName, fC, fOp, fUn, fAndV, fOrV, fNotV, fAndT, fOrT, fNotT, fIf, fTup_eq, fLst_eq, fNew_eq, chkL0, chkL1, chkL2, chkL3, chkL4, chkT1, chkT2, chkT3, chkN0, chkN1, fL, fLcL, fSeq, fStar, fIt, fStrs, fSl, fPart, sFor, sAsgT, bnd_ret, ofO_some, al, cl, Sl.al, Sl.cl, startS, wipeD, hSet, gSet, List.map_cons, List.map_nil, List.length_cons, List.length_nil, List.cons_append, List.nil_append, List.getElem?_cons_zero, List.getElem?_cons_succ, List.replicate, List.set_cons_zero, List.set_cons_succ, eqD_int, eqD_str, neD_int, eqD_bl, neD_bl, geD_int, gtD_int, ltD_int, addD_int, subD_int, Nat.reduceSub, Nat.reduceAdd, Nat.reduceLT, decide_true, decide_false, if_true, if_false, Bool.false_eq_true, Option.some.injEq, reduceIte, and_self, true_and, and_true, this]
  have al_ := allD (lot.map fun _ => true)
  have at_ : ((lot.map fun _ => true).all id) = true := by simp
  rw [at_] at al_
  unfold F_check_names B_check_names
  simp only [fDef, fDefF, ofF, sSeq, sIf, sNext, sDrop, sRet, sRetF, sRetO, sSetC, sSetA, sPar, cV, cO, fTst, fBlt, fCall, fCallF, fCons, fNil, fName, fC, fOp, fUn, fAndV, fOrV, fNotV, fAndT, fOrT, fNotT, fIf, fTup_eq, fLst_eq, fNew_eq, chkL0, chkL1, chkL2, chkL3, chkL4, chkT1, chkT2, chkT3, chkN0, chkN1, fL, fLcL, fSeq, fStar, fIt, fStrs, fSl, fPart, sFor, sAsgT, bnd_ret, ofO_some, al, cl, Sl.al, Sl.cl, startS, wipeD, hSet, gSet, List.map_cons, List.map_nil, List.length_cons, List.length_nil, List.cons_append, List.nil_append, List.getElem?_cons_zero, List.getElem?_cons_succ, List.replicate, List.set_cons_zero, List.set_cons_succ, eqD_int, eqD_str, neD_int, eqD_bl, neD_bl, geD_int, gtD_int, ltD_int, addD_int, subD_int, Nat.reduceSub, Nat.reduceAdd, Nat.reduceLT, decide_true, decide_false, if_true, if_false, Bool.false_eq_true, Option.some.injEq, reduceIte, and_self, true_and, and_true, p_is_list he, he, key, al_, P_rising he hl hr, Bool.not_true]
theorem P_opened {f : Fm} {d e g : D} {m : Int} {lot : List Str} {xs : List Int} (h : IsF f d) (hn : dep f < 20) (hw : WF f) (hl : (names f).length ≤ 1000) (hm : 2 ≤ m) (he : e.seq = some (lot.map D.str)) (hll : lot.length ≤ 1000) (hr : Rising lot) (hv : ∀ s ∈ lot, valid s)
    (hg : g.seq = some (xs.map D.int)) (hx : xs.length = (names f).length) (hxr : InR m xs) : F_opened [d, .int m, e, g] = ret (dO (fnd m lot f xs)) := by
  have e0 : F_found_by [d, .int m, e, .lst (xs.map D.int)] = ret (dO (fnd m lot f xs)) := p_fnd 20 (Nat.le_refl _) m f d e lot xs (by omega) he h hn (wf_ne f hw) hl hx
  have e2 : one D.seq [g] = some (xs.map D.int) := hg
  unfold F_opened B_opened
  simp only [fDef, fDefF, ofF, sSeq, sIf, sNext, sDrop, sRet, sRetF, sRetO, sSetC, sSetA, sPar, cV, cO, fTst, fBlt, fCall, fCallF, fCons, fNil, fName, fC, fOp, fUn, fAndV, fOrV, fNotV, fAndT, fOrT, fNotT, fIf, fTup_eq, fLst_eq, fNew_eq, chkL0, chkL1, chkL2, chkL3, chkL4, chkT1, chkT2, chkT3, chkN0, chkN1, fL, fLcL, fSeq, fStar, fIt, fStrs, fSl, fPart, sFor, sAsgT, bnd_ret, ofO_some, al, cl, Sl.al, Sl.cl, startS, wipeD, hSet, gSet, List.map_cons, List.map_nil, List.length_cons, List.length_nil, List.cons_append, List.nil_append, List.getElem?_cons_zero, List.getElem?_cons_succ, List.replicate, List.set_cons_zero, List.set_cons_succ, eqD_int, eqD_str, neD_int, eqD_bl, neD_bl, geD_int, gtD_int, ltD_int, addD_int, subD_int, Nat.reduceSub, Nat.reduceAdd, Nat.reduceLT, decide_true, decide_false, if_true, if_false, Bool.false_eq_true, Option.some.injEq, reduceIte, and_self, true_and, and_true, P_check_modulus h hn hw hl hm, P_check_names he hll hr hv, P_check_shares h hn hl hg hx hxr, e2, e0]
/-! ### the mathematics: what is dealt gives the secret back -/
theorem ints_some (ns : List Int) : ints_ (ns.map some) = ns ∧ (ns.map some).any (fun o : Option Int => o.isNone) = false := by
  induction ns with
  | nil => exact ⟨rfl, rfl⟩
  | cons x r ih => exact ⟨by rw [List.map_cons]; simp only [ints_, ih.1], by rw [List.map_cons, List.any_cons, ih.2]; rfl⟩
mutual
theorem sec_deal (m : Int) (hm : 0 < m) : ∀ (f : Fm) (x : Int) (ns : List Int), ne_ f → want f ≤ ns.length → InR m ns → 0 ≤ x → x < m → sec m f (deal' m f x ns) = some x
  | .name s, x, ns, _, _, _, h0, h1 => by rw [deal_name]; simp [sec]
  | .gate true ps, x, ns, hw, hl, hr, h0, h1 => by
    have hw' : ps ≠ [] ∧ nes ps := by simpa only [ne_] using hw
    have hp : 1 ≤ ps.length := by
      cases ps with
      | nil => exact absurd rfl hw'.1
      | cons a r => simp
    rw [want_gate, if_pos rfl] at hl
    have gl : (ns.take (ps.length - 1) ++ [(x - (ns.take (ps.length - 1)).sum) % m]).length = ps.length := by
      rw [List.length_append, List.length_take]
      show _ + 1 = _
      omega
    have gr : InR m (ns.take (ps.length - 1) ++ [(x - (ns.take (ps.length - 1)).sum) % m]) := by
      intro y hy
      rcases List.mem_append.mp hy with hy | hy
      · exact hr y (List.mem_of_mem_take hy)
      · rw [List.mem_singleton.mp hy]
        exact ⟨Int.emod_nonneg _ (by omega), Int.emod_lt_of_pos _ hm⟩
    rw [deal_all, sec_gate, secs_deal m hm ps _ _ hw'.2 gl (by rw [List.length_drop]; omega) (fun y hy => hr y (List.mem_of_mem_drop hy)) gr]
    unfold comb
    rw [(ints_some _).2, (ints_some _).1]
    simp only [Bool.false_eq_true, if_false, if_true]
    rw [List.sum_append, List.sum_singleton]
    congr 1
    rw [Int.add_emod, Int.emod_emod_of_dvd _ (Int.dvd_refl m), ← Int.add_emod]
    rw [show (ns.take (ps.length - 1)).sum + (x - (ns.take (ps.length - 1)).sum) = x by omega]
    exact Int.emod_eq_of_lt h0 h1
  | .gate false ps, x, ns, hw, hl, hr, h0, h1 => by
    have hw' : ps ≠ [] ∧ nes ps := by simpa only [ne_] using hw
    rw [want_gate, if_neg Bool.false_ne_true] at hl
    have gr : InR m (List.replicate ps.length x) := by
      intro y hy
      rw [List.eq_of_mem_replicate hy]
      exact ⟨h0, h1⟩
    rw [deal_any, sec_gate, secs_deal m hm ps _ _ hw'.2 (by simp) (by omega) hr gr]
    unfold comb
    rw [(ints_some _).2, (ints_some _).1]
    cases hps : ps with
    | nil => exact absurd hps hw'.1
    | cons p r =>
      rw [List.length_cons, List.replicate_succ]
      simp
theorem secs_deal (m : Int) (hm : 0 < m) : ∀ (ps : List Fm) (gs ns : List Int), nes ps → gs.length = ps.length → wants ps ≤ ns.length → InR m ns → InR m gs → secs m ps (deals' m ps gs ns) = gs.map some
  | [], gs, ns, _, hg, _, _, _ => by
    have : gs = [] := List.length_eq_zero_iff.mp hg
    subst this
    simp [secs]
  | p :: ps, [], ns, _, hg, _, _, _ => by simp at hg
  | p :: ps, g :: gs, ns, hw, hg, hl, hr, hgr => by
    have hw' : ne_ p ∧ nes ps := by simpa only [nes] using hw
    rw [wants_cons] at hl
    have len := deal_length m p g ns hw'.1 (by omega)
    rw [deals_cons, secs_cons, ← len, List.take_left, List.drop_left, List.map_cons]
    rw [sec_deal m hm p g ns hw'.1 (by omega) hr (hgr g List.mem_cons_self).1 (hgr g List.mem_cons_self).2]
    rw [secs_deal m hm ps gs _ hw'.2 (by simpa using hg) (by rw [List.length_drop]; omega) (fun y hy => hr y (List.mem_of_mem_drop hy)) (fun y hy => hgr y (List.mem_cons_of_mem _ hy))]
end
end K75
namespace K75
open PySem PySem.Spec PyProof.Rows L2 VS
mutual
theorem deal_in (m : Int) (hm : 0 < m) : ∀ (f : Fm) (x : Int) (ns : List Int), ne_ f → InR m ns → 0 ≤ x → x < m → InR m (deal' m f x ns)
  | .name s, x, ns, _, _, h0, h1 => by
    rw [deal_name]
    intro y hy
    rw [List.mem_singleton.mp hy]
    exact ⟨h0, h1⟩
  | .gate true ps, x, ns, hw, hr, h0, h1 => by
    have hw' : ps ≠ [] ∧ nes ps := by simpa only [ne_] using hw
    rw [deal_all]
    refine deals_in m hm ps _ _ hw'.2 (fun y hy => hr y (List.mem_of_mem_drop hy)) fun y hy => ?_
    rcases List.mem_append.mp hy with hy | hy
    · exact hr y (List.mem_of_mem_take hy)
    · rw [List.mem_singleton.mp hy]
      exact ⟨Int.emod_nonneg _ (by omega), Int.emod_lt_of_pos _ hm⟩
  | .gate false ps, x, ns, hw, hr, h0, h1 => by
    have hw' : ps ≠ [] ∧ nes ps := by simpa only [ne_] using hw
    rw [deal_any]
    refine deals_in m hm ps _ _ hw'.2 hr fun y hy => ?_
    rw [List.eq_of_mem_replicate hy]
    exact ⟨h0, h1⟩
theorem deals_in (m : Int) (hm : 0 < m) : ∀ (ps : List Fm) (gs ns : List Int), nes ps → InR m ns → InR m gs → InR m (deals' m ps gs ns)
  | [], gs, ns, _, _, _ => by simp [deals', InR]
  | p :: ps, [], ns, _, _, _ => by simp [deals', InR]
  | p :: ps, g :: gs, ns, hw, hr, hg => by
    have hw' : ne_ p ∧ nes ps := by simpa only [nes] using hw
    rw [deals_cons]
    intro y hy
    rcases List.mem_append.mp hy with hy | hy
    · exact deal_in m hm p g ns hw'.1 hr (hg g List.mem_cons_self).1 (hg g List.mem_cons_self).2 y hy
    · exact deals_in m hm ps gs _ hw'.2 (fun y hy => hr y (List.mem_of_mem_drop hy)) (fun y hy => hg y (List.mem_cons_of_mem _ hy)) y hy
end
def opt (lot : List Str) (p : Fm) (g : Int) : Option Int := if opn lot p = true then some g else none
theorem opts_any (lot : List Str) : ∀ (ps : List Fm) (gs : List Int), gs.length = ps.length → (List.zipWith (opt lot) ps gs).any (fun o => o.isNone) = !(opns lot ps).all id
  | [], gs, _ => by simp [opns]
  | p :: ps, [], h => by simp at h
  | p :: ps, g :: gs, h => by
    have ih := opts_any lot ps gs (by simpa using h)
    rw [List.zipWith_cons_cons, List.any_cons, ih, opns, List.all_cons]
    unfold opt
    cases opn lot p <;> simp
theorem opts_all (lot : List Str) : ∀ (ps : List Fm) (gs : List Int), gs.length = ps.length → (opns lot ps).all id = true → List.zipWith (opt lot) ps gs = gs.map some
  | [], gs, h, _ => by
    have : gs = [] := List.length_eq_zero_iff.mp h
    subst this
    rfl
  | p :: ps, [], h, _ => by simp at h
  | p :: ps, g :: gs, h, ha => by
    rw [opns, List.all_cons, Bool.and_eq_true] at ha
    rw [List.zipWith_cons_cons, List.map_cons, opts_all lot ps gs (by simpa using h) ha.2]
    unfold opt
    rw [if_pos (show opn lot p = true from ha.1)]
theorem opts_head (lot : List Str) (x : Int) : ∀ (ps : List Fm), (ints_ (List.zipWith (opt lot) ps (List.replicate ps.length x))).head? = if (opns lot ps).any id = true then some x else none
  | [] => by simp [opns, ints_]
  | p :: ps => by
    have ih := opts_head lot x ps
    rw [List.length_cons, List.replicate_succ, List.zipWith_cons_cons, opns, List.any_cons]
    unfold opt at ih ⊢
    cases opn lot p
    · simpa [ints_] using ih
    · simp [ints_]
mutual
theorem fnd_deal (m : Int) (hm : 0 < m) (lot : List Str) : ∀ (f : Fm) (x : Int) (ns : List Int), ne_ f → want f ≤ ns.length → InR m ns → 0 ≤ x → x < m → fnd m lot f (deal' m f x ns) = if opn lot f = true then some x else none
  | .name s, x, ns, _, _, _, h0, h1 => by
    rw [deal_name, fnd_name, opn_name]
    by_cases c : s ∈ lot <;> simp [c]
  | .gate true ps, x, ns, hw, hl, hr, h0, h1 => by
    have hw' : ps ≠ [] ∧ nes ps := by simpa only [ne_] using hw
    have hp : 1 ≤ ps.length := by
      cases ps with
      | nil => exact absurd rfl hw'.1
      | cons a r => simp
    rw [want_gate, if_pos rfl] at hl
    have gl : (ns.take (ps.length - 1) ++ [(x - (ns.take (ps.length - 1)).sum) % m]).length = ps.length := by
      rw [List.length_append, List.length_take]
      show _ + 1 = _
      omega
    have gr : InR m (ns.take (ps.length - 1) ++ [(x - (ns.take (ps.length - 1)).sum) % m]) := by
      intro y hy
      rcases List.mem_append.mp hy with hy | hy
      · exact hr y (List.mem_of_mem_take hy)
      · rw [List.mem_singleton.mp hy]
        exact ⟨Int.emod_nonneg _ (by omega), Int.emod_lt_of_pos _ hm⟩
    rw [deal_all, fnd_gate, fnds_deal m hm lot ps _ _ hw'.2 gl (by rw [List.length_drop]; omega) (fun y hy => hr y (List.mem_of_mem_drop hy)) gr]
    unfold combF
    rw [if_pos rfl, opts_any lot ps _ gl, opn_gate, if_pos rfl]
    cases hc : (opns lot ps).all id with
    | false => simp
    | true =>
      rw [opts_all lot ps _ gl hc, (ints_some _).1]
      simp only [Bool.not_true, Bool.false_eq_true, if_false, if_true]
      rw [List.sum_append, List.sum_singleton]
      congr 1
      rw [Int.add_emod, Int.emod_emod_of_dvd _ (Int.dvd_refl m), ← Int.add_emod]
      rw [show (ns.take (ps.length - 1)).sum + (x - (ns.take (ps.length - 1)).sum) = x by omega]
      exact Int.emod_eq_of_lt h0 h1
  | .gate false ps, x, ns, hw, hl, hr, h0, h1 => by
    have hw' : ps ≠ [] ∧ nes ps := by simpa only [ne_] using hw
    rw [want_gate, if_neg Bool.false_ne_true] at hl
    have gr : InR m (List.replicate ps.length x) := by
      intro y hy
      rw [List.eq_of_mem_replicate hy]
      exact ⟨h0, h1⟩
    rw [deal_any, fnd_gate, fnds_deal m hm lot ps _ _ hw'.2 (by simp) (by omega) hr gr]
    unfold combF
    rw [if_neg Bool.false_ne_true, opts_head, opn_gate, if_neg Bool.false_ne_true]
theorem fnds_deal (m : Int) (hm : 0 < m) (lot : List Str) : ∀ (ps : List Fm) (gs ns : List Int), nes ps → gs.length = ps.length → wants ps ≤ ns.length → InR m ns → InR m gs → fnds m lot ps (deals' m ps gs ns) = List.zipWith (opt lot) ps gs
  | [], gs, ns, _, hg, _, _, _ => by simp [fnds]
  | p :: ps, [], ns, _, hg, _, _, _ => by simp at hg
  | p :: ps, g :: gs, ns, hw, hg, hl, hr, hgr => by
    have hw' : ne_ p ∧ nes ps := by simpa only [nes] using hw
    rw [wants_cons] at hl
    have len := deal_length m p g ns hw'.1 (by omega)
    rw [deals_cons, fnds_cons, ← len, List.take_left, List.drop_left, List.zipWith_cons_cons]
    rw [fnd_deal m hm lot p g ns hw'.1 (by omega) hr (hgr g List.mem_cons_self).1 (hgr g List.mem_cons_self).2]
    rw [fnds_deal m hm lot ps gs _ hw'.2 (by simpa using hg) (by rw [List.length_drop]; omega) (fun y hy => hr y (List.mem_of_mem_drop hy)) (fun y hy => hgr y (List.mem_cons_of_mem _ hy))]
    rfl
end
/-! ### the shares out of the lot do not count -/
def hid (lot : List Str) (xs : List Int) (ns : List Str) : List Int := List.zipWith (fun x n => if n ∈ lot then x else 0) xs ns
mutual
theorem fnd_hid (m : Int) (lot : List Str) : ∀ (f : Fm) (xs : List Int), xs.length = (names f).length → fnd m lot f (hid lot xs (names f)) = fnd m lot f xs
  | .name s, xs, h => by
    have hn : names (.name s) = [s] := by simp [names]
    rw [hn] at h ⊢
    match xs, h with
    | [x], _ =>
      rw [fnd_name, fnd_name]
      by_cases c : s ∈ lot <;> simp [hid, c]
  | .gate b ps, xs, h => by
    rw [names_gate] at h ⊢
    rw [fnd_gate, fnd_gate, fnds_hid m lot ps xs h]
theorem fnds_hid (m : Int) (lot : List Str) : ∀ (ps : List Fm) (xs : List Int), xs.length = (namess ps).length → fnds m lot ps (hid lot xs (namess ps)) = fnds m lot ps xs
  | [], xs, h => by simp [fnds]
  | p :: ps, xs, h => by
    rw [namess_cons, List.length_append] at h
    have e1 : (hid lot xs (namess (p :: ps))).take (names p).length = hid lot (xs.take (names p).length) (names p) := by
      unfold hid
      rw [List.take_zipWith, namess_cons, List.take_left]
    have e2 : (hid lot xs (namess (p :: ps))).drop (names p).length = hid lot (xs.drop (names p).length) (namess ps) := by
      unfold hid
      rw [List.drop_zipWith, namess_cons, List.drop_left]
    rw [fnds_cons, fnds_cons, e1, e2, fnd_hid m lot p _ (by rw [List.length_take]; omega), fnds_hid m lot ps _ (by rw [List.length_drop]; omega)]
end
end K75
namespace K75
open PySem PySem.Spec PyProof.Rows L2 VS
theorem bnd_at {α β : Type} {m : M α} {f : α → M β} {st st' : Option SS} {a : α} (h : m st = some (.ok a, st')) : VS.bnd m f st = f a st' := by
  unfold VS.bnd
  rw [h]
abbrev WC : DEnv → M Bool := fAndT (fTst (fOp (oEq false) (fStGet 0 1) (fC (.int 0)))) (fStMore 0)
abbrev WB : SEnv → M Fl := (sSeq (sSetC 2 (cV (fBlt bAbs (fCons (fStPop 0) fNil))))
    (sSeq (sStPut 0 3 (fOp oMod (fBlt bInt (fCons (fOp oAdd (fOp oAdd (fOp oMul (fStGet 0 3) (fC (.int 6151))) (fName 2)) (fC (.int 7))) fNil)) (fC (.int 2147483629))))
    (sStPut 0 1 (fIf (fTst (fOp oGe (fName 2) (fOp oPow (fC (.int 10)) (fC (.int 18))))) (fName 2) (fC (.int 0))))))
theorem wc_at (n : D) (x y z : Sl) (s : SS) : WC (al [.val .strm, .val n, x, y, z]) (some s) = some (.ok (decide (s.a = 0) && !s.cells.isEmpty), some s) := by
  have e : fTst (fOp (oEq false) (fStGet 0 1) (fC (.int 0))) (al [.val .strm, .val n, x, y, z]) (some s) = some (.ok (decide (s.a = 0)), some s) := by
    show VS.bnd (VS.bnd (fStGet 0 1 _) _) _ _ = _
    have g : fStGet 0 1 (al [.val .strm, .val n, x, y, z]) (some s) = some (.ok (.int s.a), some s) := rfl
    rw [bnd_at (by rw [bnd_at g]; simp only [fC, VS.bnd_ret, eqD_int, ofO_some]; rfl)]
    rfl
  show VS.bnd (fTst (fOp (oEq false) (fStGet 0 1) (fC (.int 0))) _) _ _ = _
  rw [bnd_at e]
  cases h : decide (s.a = 0) with
  | true => rfl
  | false => rfl
theorem mulD_r {i j : Int} (h0 : 0 ≤ j) (h : j < 1000000) : oMul (.int i) (.int j) = some (.int (i * j)) := by
  have c : CMul i j := Or.inr ⟨Int.lt_of_lt_of_le (by decide : -(2 ^ 64) < (0 : Int)) h0, Int.lt_trans h (by decide)⟩
  have e : mInt (.int i) (.int j) = some (.int (i * j)) := if_pos c
  unfold oMul orO
  rw [e]
theorem mulD_l {i j : Int} (h0 : 0 ≤ i) (h : i < 1000000) : oMul (.int i) (.int j) = some (.int (i * j)) := by
  have c : CMul i j := Or.inl ⟨Int.lt_of_lt_of_le (by decide : -(2 ^ 64) < (0 : Int)) h0, Int.lt_trans h (by decide)⟩
  have e : mInt (.int i) (.int j) = some (.int (i * j)) := if_pos c
  unfold oMul orO
  rw [e]
theorem powD {i : Int} {k : Nat} (hk : k ≤ 100) (h0 : 0 ≤ i) (h : i < 2 ^ 64) : oPow (.int i) (.int (k : Nat)) = some (.int (i ^ k)) := by
  have c : CPow i (k : Nat) := ⟨Int.natCast_nonneg k, by omega, by
    have e : (i.natAbs : Int) < ((2 ^ 64 : Nat) : Int) := by
      rw [Int.natAbs_of_nonneg h0]
      exact Int.lt_of_lt_of_le h (by decide)
    exact Int.ofNat_lt.mp e⟩
  have e : oPow (.int i) (.int (k : Nat)) = some (.int (i ^ ((k : Nat) : Int).toNat)) := if_pos c
  rw [e, Int.toNat_natCast]
def nextC (c x : Int) : Int := (c * 6151 + (if x < 0 then -x else x) + 7) % 2147483629
def nextA (x : Int) : Int := if 1000000000000000000 ≤ (if x < 0 then -x else x) then (if x < 0 then -x else x) else 0
theorem wb_at (n : D) (x0 y z : Sl) (x : Int) (r : List Int) (a b c : Int) : WB [.val .strm, .val n, x0, y, z] (some ⟨x :: r, a, b, c⟩) = some (.ok (.nx [.val .strm, .val n, .val (.int (if x < 0 then -x else x)), y, z]), some ⟨r, nextA x, b, nextC c x⟩) := by
  have m1 := mulD_r (i := c) (j := 6151) (by decide) (by decide)
  have ab : bAbs [.int x] = some (.int (if x < 0 then -x else x)) := rfl
  have p1 : oPow (.int 10) (.int 18) = some (.int 1000000000000000000) := powD (i := 10) (k := 18) (by decide) (by decide) (by decide)
  have md := modD_int (i := c * 6151 + (if x < 0 then -x else x) + 7) (j := 2147483629) (by decide)
  generalize hq : (if x < 0 then -x else x) = q at *
  simp only [sSeq, sIf, sNext, sRet, sSetC, cV, fTst, fBlt, fCons, fNil, fName, fC, fOp, fIf, VS.bnd, VS.ret, VS.ofO, fStGet, fStPop, sStPut, isSt, stGet, stPut, Option.bind_some, Option.bind, al, cl, Sl.al, Sl.cl, List.map_cons, List.map_nil, List.length_cons, List.length_nil, List.getElem?_cons_zero, List.getElem?_cons_succ, List.set_cons_zero, List.set_cons_succ, Nat.reduceAdd, Nat.reduceLT, decide_true, decide_false, if_true, if_false, Bool.false_eq_true, reduceIte, ab, m1, addD_int, bInt_int, md, p1, geD_int]
  unfold nextA nextC
  rw [hq]
  by_cases h : 1000000000000000000 ≤ q
  · simp [h, VS.ret]
  · simp [h, VS.ret]
theorem wh_at (n : D) (y z : Sl) (b : Int) (hb : 0 ≤ b) : ∀ (cells : List Int) (a c : Int) (k : Nat) (x0 : Sl), cells.length < k → 0 ≤ a → 0 ≤ c → c < 2147483648 →
    ∃ s' x', whGo WC WB k [.val .strm, .val n, x0, y, z] (some ⟨cells, a, b, c⟩) = some (.ok (.nx [.val .strm, .val n, x', y, z]), some s') ∧ SI s' ∧ s'.b = b
  | cells, a, c, 0, x0, hk, h0, h1, h2 => absurd hk (by omega)
  | [], a, c, k + 1, x0, hk, h0, h1, h2 => by
    refine ⟨⟨[], a, b, c⟩, x0, ?_, ⟨h0, hb, h1, h2⟩, rfl⟩
    unfold whGo
    have e : (decide (a = 0) && !([] : List Int).isEmpty) = false := by simp
    have w : WC (al [.val .strm, .val n, x0, y, z]) (some ⟨[], a, b, c⟩) = some (.ok false, some ⟨[], a, b, c⟩) := (wc_at n x0 y z ⟨[], a, b, c⟩).trans (by rw [← e])
    rw [bnd_at w]
    rfl
  | x :: r, a, c, k + 1, x0, hk, h0, h1, h2 => by
    unfold whGo
    by_cases ha : a = 0
    · have e : (decide (a = 0) && !(x :: r).isEmpty) = true := by simp [ha]
      have ab : 0 ≤ (if x < 0 then -x else x) := by split <;> omega
      have na : 0 ≤ nextA x := by
        unfold nextA
        split <;> omega
      have nc0 : 0 ≤ nextC c x := Int.emod_nonneg _ (by decide)
      have nc1 : nextC c x < 2147483629 := Int.emod_lt_of_pos _ (by decide)
      obtain ⟨s', x', q1, q2, q3⟩ := wh_at n y z b hb r (nextA x) (nextC c x) k (.val (.int (if x < 0 then -x else x))) (by simpa using hk) na nc0 (by omega)
      refine ⟨s', x', ?_, q2, q3⟩
      have w : WC (al [.val .strm, .val n, x0, y, z]) (some ⟨x :: r, a, b, c⟩) = some (.ok true, some ⟨x :: r, a, b, c⟩) := (wc_at n x0 y z ⟨x :: r, a, b, c⟩).trans (by rw [← e])
      rw [bnd_at w]
      show VS.bnd (WB _) _ _ = _
      rw [bnd_at (wb_at n x0 y z x r a b c)]
      exact q1
    · refine ⟨⟨x :: r, a, b, c⟩, x0, ?_, ⟨h0, hb, h1, h2⟩, rfl⟩
      have e : (decide (a = 0) && !(x :: r).isEmpty) = false := by simp [ha]
      have w : WC (al [.val .strm, .val n, x0, y, z]) (some ⟨x :: r, a, b, c⟩) = some (.ok false, some ⟨x :: r, a, b, c⟩) := (wc_at n x0 y z ⟨x :: r, a, b, c⟩).trans (by rw [← e])
      rw [bnd_at w]
      rfl
theorem fdivD {i j : Int} (h : 0 < j) (h1 : j < 1000000000) : oFdiv (.int i) (.int j) = some (.int (i.fdiv j)) := by
  have c : CDivN i j := ⟨by omega, by omega⟩
  exact if_pos c
theorem p_draw {n : Int} (hn : 0 < n) (hn1 : n < 1000000000) : Ok 1 (F__law_draw [.strm, .int n]) (fun r => ∃ d : Int, r = .int d ∧ 0 ≤ d ∧ d < n) := by
  intro s hs hb
  obtain ⟨cells, a, b, c⟩ := s
  obtain ⟨h0, h1, h2, h3⟩ := hs
  have hb' : b + 1 ≤ bigB := hb
  have hb0 : (0 : Int) ≤ b := h1
  obtain ⟨s1, x1, w1, si, sb⟩ := wh_at (.int n) .un .un (b + 1) (by omega) cells a c (cells.length + 1) .un (by omega) h0 h2 h3
  obtain ⟨cells1, a1, b1, c1⟩ := s1
  cases (show b1 = b + 1 from sb)
  obtain ⟨k0, k1, k2, k3⟩ := si
  have j0 : (0 : Int) ≤ a1 := k0
  have j2 : (0 : Int) ≤ c1 := k2
  have j3 : c1 < 2147483648 := k3
  have first : sStPut 0 2 (fOp oAdd (fStGet 0 2) (fC (.int 1))) [.val .strm, .val (.int n), .un, .un, .un] (some ⟨cells, a, b, c⟩) = some (.ok (.nx [.val .strm, .val (.int n), .un, .un, .un]), some ⟨cells, a, b + 1, c⟩) := by
    simp only [sSeq, sIf, sNext, sRet, sSetC, cV, fTst, fBlt, fCons, fNil, fName, fC, fOp, fIf, VS.bnd, VS.ret, VS.ofO, fStGet, fStPop, sStPut, isSt, stGet, stPut, Option.bind_some, Option.bind, al, cl, Sl.al, Sl.cl, List.map_cons, List.map_nil, List.length_cons, List.length_nil, List.getElem?_cons_zero, List.getElem?_cons_succ, List.set_cons_zero, List.set_cons_succ, Nat.reduceAdd, Nat.reduceLT, decide_true, decide_false, if_true, if_false, Bool.false_eq_true, reduceIte, addD_int]
  have second : sWhile stFuel WC WB [.val .strm, .val (.int n), .un, .un, .un] (some ⟨cells, a, b + 1, c⟩) = some (.ok (.nx [.val .strm, .val (.int n), x1, .un, .un]), some ⟨cells1, a1, b + 1, c1⟩) := w1
  unfold F__law_draw fDef
  show ∃ r s', VS.bnd (B__law_draw [.val .strm, .val (.int n), .un, .un, .un]) _ (some ⟨cells, a, b, c⟩) = _ ∧ _
  by_cases ha : 0 < a1
  · have dv : 0 ≤ a1.fdiv n := by
      rw [Int.fdiv_eq_ediv_of_nonneg _ (by omega)]
      exact Int.ediv_nonneg j0 (by omega)
    refine ⟨.int (a1 % n), ⟨cells1, a1.fdiv n, b + 1, c1⟩, ?_, ⟨dv, (by show 0 ≤ b + 1; omega), k2, k3⟩, (by show b + 1 ≤ b + 1; omega), _, rfl, Int.emod_nonneg _ (by omega), Int.emod_lt_of_pos _ hn⟩
    have third : B__law_draw [.val .strm, .val (.int n), .un, .un, .un] (some ⟨cells, a, b, c⟩) = some (.ok (.rt (.int (a1 % n))), some ⟨cells1, a1.fdiv n, b + 1, c1⟩) := by
      unfold B__law_draw
      show VS.bnd (sStPut 0 2 _ _) _ _ = _
      rw [bnd_at first]
      show VS.bnd (sWhile stFuel WC WB _) _ _ = _
      rw [bnd_at second]
      have g1 : decide (0 < a1) = true := by simpa using ha
      have md := modD_int (i := a1) hn
      have fd := fdivD (i := a1) hn hn1
      simp only [sSeq, sIf, sNext, sRet, sSetC, cV, fTst, fBlt, fCons, fNil, fName, fC, fOp, fIf, VS.bnd, VS.ret, VS.ofO, fStGet, fStPop, sStPut, isSt, stGet, stPut, Option.bind_some, Option.bind, al, cl, Sl.al, Sl.cl, List.map_cons, List.map_nil, List.length_cons, List.length_nil, List.getElem?_cons_zero, List.getElem?_cons_succ, List.set_cons_zero, List.set_cons_succ, Nat.reduceAdd, Nat.reduceLT, decide_true, decide_false, if_true, if_false, Bool.false_eq_true, reduceIte, gtD_int, g1, bInt_int, md, fd]
    rw [bnd_at third]
    rfl
  · have g1 : decide (0 < a1) = false := by simpa using ha
    have mx0 : 0 ≤ (c1 + 8191 * (b + 1) + 50021) ^ 5 % 2147483587 := Int.emod_nonneg _ (by decide)
    have mx1 : (c1 + 8191 * (b + 1) + 50021) ^ 5 % 2147483587 < 2147483587 := Int.emod_lt_of_pos _ (by decide)
    have bb : b + 1 ≤ 1099511627776 := hb'
    have e1 := mulD_l (i := 8191) (j := b + 1) (by decide) (by decide)
    have e2 : oPow (.int (c1 + 8191 * (b + 1) + 50021)) (.int 5) = some (.int ((c1 + 8191 * (b + 1) + 50021) ^ 5)) := powD (k := 5) (by decide) (by omega) (Int.lt_trans (show c1 + 8191 * (b + 1) + 50021 < 9223372036854775807 by omega) (by decide))
    have e3 := modD_int (i := (c1 + 8191 * (b + 1) + 50021) ^ 5) (j := 2147483587) (by decide)
    generalize hmx : (c1 + 8191 * (b + 1) + 50021) ^ 5 % 2147483587 = mx at *
    have e4 := mulD_r (i := mx) (j := 40009) (by decide) (by decide)
    have e5 := mulD_l (i := 20011) (j := b + 1) (by decide) (by decide)
    have e6 : oPow (.int (mx * 40009 + 20011 * (b + 1) + 31)) (.int 3) = some (.int ((mx * 40009 + 20011 * (b + 1) + 31) ^ 3)) := powD (k := 3) (by decide) (by omega) (Int.lt_of_lt_of_le (show mx * 40009 + 20011 * (b + 1) + 31 < 18446744073709551615 by omega) (by decide))
    have e7 := modD_int (i := (mx * 40009 + 20011 * (b + 1) + 31) ^ 3) (j := 1000000009) (by decide)
    have e8 := modD_int (i := (mx * 40009 + 20011 * (b + 1) + 31) ^ 3 % 1000000009) hn
    refine ⟨.int ((mx * 40009 + 20011 * (b + 1) + 31) ^ 3 % 1000000009 % n), ⟨cells1, a1, b + 1, c1⟩, ?_, ⟨k0, (by show 0 ≤ b + 1; omega), k2, k3⟩, (by show b + 1 ≤ b + 1; omega), _, rfl, Int.emod_nonneg _ (by omega), Int.emod_lt_of_pos _ hn⟩
    have third : B__law_draw [.val .strm, .val (.int n), .un, .un, .un] (some ⟨cells, a, b, c⟩) = some (.ok (.rt (.int ((mx * 40009 + 20011 * (b + 1) + 31) ^ 3 % 1000000009 % n))), some ⟨cells1, a1, b + 1, c1⟩) := by
      unfold B__law_draw
      show VS.bnd (sStPut 0 2 _ _) _ _ = _
      rw [bnd_at first]
      show VS.bnd (sWhile stFuel WC WB _) _ _ = _
      rw [bnd_at second]
      simp only [sSeq, sIf, sNext, sRet, sSetC, cV, fTst, fBlt, fCons, fNil, fName, fC, fOp, fIf, VS.bnd, VS.ret, VS.ofO, fStGet, fStPop, sStPut, isSt, stGet, stPut, Option.bind_some, Option.bind, al, cl, Sl.al, Sl.cl, List.map_cons, List.map_nil, List.length_cons, List.length_nil, List.getElem?_cons_zero, List.getElem?_cons_succ, List.set_cons_zero, List.set_cons_succ, Nat.reduceAdd, Nat.reduceLT, decide_true, decide_false, if_true, if_false, Bool.false_eq_true, reduceIte, gtD_int, g1, e1, addD_int, e2, bInt_int, e3, e4, e5, e6, e7, e8]
    rw [bnd_at third]
    rfl
end K75
namespace K75
open PySem PySem.Spec PyProof.Rows L2 VS
theorem ixL {xs : List D} {d : Int} (h0 : 0 ≤ d) (h1 : d < xs.length) : ∃ a, oIx (.lst xs) (.int d) = some a ∧ a ∈ xs := by
  obtain ⟨j, rfl⟩ := Int.eq_ofNat_of_zero_le h0
  have hj : j < xs.length := by omega
  refine ⟨xs[j], ?_, List.getElem_mem hj⟩
  show L2.atI xs (j : Nat) = _
  exact atI_nat (xs := xs) (j := j) (List.getElem?_eq_getElem hj)
theorem p_pick {xs : List D} (h0 : 0 < xs.length) (h1 : xs.length < 1000000000) : Ok 1 (F__law_pick [.strm, .lst xs]) (fun r => r ∈ xs) := by
  have ln : bLen [.lst xs] = some (.int (xs.length : Nat)) := rfl
  unfold F__law_pick B__law_pick
  simp only [fDef, fDefF, ofF, sSeq, sIf, sNext, sDrop, sRet, sRetF, sRetO, sSetC, sSetA, sPar, cV, cO, fTst, fBlt, fCall, fCallF, fCons, fNil, fName, fC, fOp, fUn, fAndV, fOrV, fNotV, fAndT, fOrT, fNotT, fIf, fTup_eq, fLst_eq, fNew_eq, chkL0, chkL1, chkL2, chkL3, chkL4, chkT1, chkT2, chkT3, chkN0, chkN1, fL, fLcL, fSeq, fStar, fIt, fStrs, fSl, fPart, sFor, sAsgT, bnd_ret, ofO_some, al, cl, Sl.al, Sl.cl, startS, wipeD, hSet, gSet, List.map_cons, List.map_nil, List.length_cons, List.length_nil, List.cons_append, List.nil_append, List.getElem?_cons_zero, List.getElem?_cons_succ, List.replicate, List.set_cons_zero, List.set_cons_succ, eqD_int, eqD_str, neD_int, eqD_bl, neD_bl, geD_int, gtD_int, ltD_int, addD_int, subD_int, Nat.reduceSub, Nat.reduceAdd, Nat.reduceLT, decide_true, decide_false, if_true, if_false, Bool.false_eq_true, Option.some.injEq, reduceIte, and_self, true_and, and_true, ln, VS.bnd_assoc]
  refine ((p_draw (n := (xs.length : Nat)) (by omega) (by omega)).bnd (k := 0) fun r hr => ?_).mono (Nat.le_refl _) fun _ q => q
  obtain ⟨d, rfl, d0, d1⟩ := hr
  obtain ⟨a, e, ha⟩ := ixL d0 d1
  simp only [fDef, fDefF, ofF, sSeq, sIf, sNext, sDrop, sRet, sRetF, sRetO, sSetC, sSetA, sPar, cV, cO, fTst, fBlt, fCall, fCallF, fCons, fNil, fName, fC, fOp, fUn, fAndV, fOrV, fNotV, fAndT, fOrT, fNotT, fIf, fTup_eq, fLst_eq, fNew_eq, chkL0, chkL1, chkL2, chkL3, chkL4, chkT1, chkT2, chkT3, chkN0, chkN1, fL, fLcL, fSeq, fStar, fIt, fStrs, fSl, fPart, sFor, sAsgT, bnd_ret, ofO_some, al, cl, Sl.al, Sl.cl, startS, wipeD, hSet, gSet, List.map_cons, List.map_nil, List.length_cons, List.length_nil, List.cons_append, List.nil_append, List.getElem?_cons_zero, List.getElem?_cons_succ, List.replicate, List.set_cons_zero, List.set_cons_succ, eqD_int, eqD_str, neD_int, eqD_bl, neD_bl, geD_int, gtD_int, ltD_int, addD_int, subD_int, Nat.reduceSub, Nat.reduceAdd, Nat.reduceLT, decide_true, decide_false, if_true, if_false, Bool.false_eq_true, Option.some.injEq, reduceIte, and_self, true_and, and_true, e]
  exact Ok.ret 0 ha
theorem ixS {d : Int} (h0 : 0 ≤ d) (h1 : d < 26) : ∃ c, oIx (.str abc) (.int d) = some (.str ⟨#[c]⟩) ∧ letter c := by
  have h : (List.range 26).all (fun j => match oIx (.str abc) (.int (j : Nat)) with | some (.str ⟨⟨[c]⟩⟩) => decide (97 ≤ c ∧ c < 123) | _ => false) = true := by decide +kernel
  obtain ⟨j, rfl⟩ := Int.eq_ofNat_of_zero_le h0
  have q := List.all_eq_true.mp h j (by rw [List.mem_range]; omega)
  split at q
  · rename_i c e
    exact ⟨c, e, show 97 ≤ c ∧ c < 123 from of_decide_eq_true q⟩
  · cases q
theorem lenA : bLen [.str abc] = some (.int 26) := by
  have e : abc.length = 26 := by decide +kernel
  show (if abc.length ≤ sizeLine then some (D.int (abc.length : Nat)) else none) = _
  rw [e, if_pos (sz (by omega))]
  rfl
theorem p_pickS : Ok 1 (F__law_pick [.strm, .str abc]) (fun r => ∃ c, r = .str ⟨#[c]⟩ ∧ letter c) := by
  unfold F__law_pick B__law_pick
  simp only [fDef, fDefF, ofF, sSeq, sIf, sNext, sDrop, sRet, sRetF, sRetO, sSetC, sSetA, sPar, cV, cO, fTst, fBlt, fCall, fCallF, fCons, fNil, fName, fC, fOp, fUn, fAndV, fOrV, fNotV, fAndT, fOrT, fNotT, fIf, fTup_eq, fLst_eq, fNew_eq, chkL0, chkL1, chkL2, chkL3, chkL4, chkT1, chkT2, chkT3, chkN0, chkN1, fL, fLcL, fSeq, fStar, fIt, fStrs, fSl, fPart, sFor, sAsgT, bnd_ret, ofO_some, al, cl, Sl.al, Sl.cl, startS, wipeD, hSet, gSet, List.map_cons, List.map_nil, List.length_cons, List.length_nil, List.cons_append, List.nil_append, List.getElem?_cons_zero, List.getElem?_cons_succ, List.replicate, List.set_cons_zero, List.set_cons_succ, eqD_int, eqD_str, neD_int, eqD_bl, neD_bl, geD_int, gtD_int, ltD_int, addD_int, subD_int, Nat.reduceSub, Nat.reduceAdd, Nat.reduceLT, decide_true, decide_false, if_true, if_false, Bool.false_eq_true, Option.some.injEq, reduceIte, and_self, true_and, and_true, lenA, VS.bnd_assoc]
  refine ((p_draw (n := 26) (by omega) (by omega)).bnd (k := 0) fun r hr => ?_).mono (Nat.le_refl _) fun _ q => q
  obtain ⟨d, rfl, d0, d1⟩ := hr
  obtain ⟨c, e, hc⟩ := ixS d0 d1
  simp only [fDef, fDefF, ofF, sSeq, sIf, sNext, sDrop, sRet, sRetF, sRetO, sSetC, sSetA, sPar, cV, cO, fTst, fBlt, fCall, fCallF, fCons, fNil, fName, fC, fOp, fUn, fAndV, fOrV, fNotV, fAndT, fOrT, fNotT, fIf, fTup_eq, fLst_eq, fNew_eq, chkL0, chkL1, chkL2, chkL3, chkL4, chkT1, chkT2, chkT3, chkN0, chkN1, fL, fLcL, fSeq, fStar, fIt, fStrs, fSl, fPart, sFor, sAsgT, bnd_ret, ofO_some, al, cl, Sl.al, Sl.cl, startS, wipeD, hSet, gSet, List.map_cons, List.map_nil, List.length_cons, List.length_nil, List.cons_append, List.nil_append, List.getElem?_cons_zero, List.getElem?_cons_succ, List.replicate, List.set_cons_zero, List.set_cons_succ, eqD_int, eqD_str, neD_int, eqD_bl, neD_bl, geD_int, gtD_int, ltD_int, addD_int, subD_int, Nat.reduceSub, Nat.reduceAdd, Nat.reduceLT, decide_true, decide_false, if_true, if_false, Bool.false_eq_true, Option.some.injEq, reduceIte, and_self, true_and, and_true, e]
  exact Ok.ret 0 ⟨c, rfl, hc⟩
/-! ### loose -/
mutual
def cost : D → Nat
  | .lst ds => 1 + costs ds
  | .tup ds => 1 + costs ds
  | _ => 0
def costs : List D → Nat
  | [] => 0
  | d :: ds => cost d + costs ds
end
theorem cost_lst (ds : List D) : cost (.lst ds) = 1 + costs ds := by simp [cost]
theorem cost_tup (ds : List D) : cost (.tup ds) = 1 + costs ds := by simp [cost]
theorem costs_cons (d : D) (ds : List D) : costs (d :: ds) = cost d + costs ds := by simp [costs]
/-- the same but for lists and tuples -/
def loo : Nat → D → D → Prop
  | 0, _, _ => False
  | n + 1, .lst ds, r => ∃ es, r.seq = some es ∧ Two (loo n) ds es
  | n + 1, .tup ds, r => ∃ es, r.seq = some es ∧ Two (loo n) ds es
  | _ + 1, d, r => r = d
theorem ok_lcV {tg : D → DEnv → Option DEnv} {F : DEnv → M D} {env : DEnv} {P : D → D → Prop} : ∀ (ds acc : List D), (∀ d ∈ ds, ∃ env', tg d env = some env' ∧ Ok (cost d) (F env') (P d)) → acc.length + ds.length ≤ sizeLine →
    Ok (costs ds) (lcGo tg fYes F env ds acc) (fun ys => ∃ zs : List D, ys = acc ++ zs ∧ Two P ds zs)
  | [], acc, _, _ => by
    unfold lcGo
    exact Ok.ret _ ⟨[], by simp, rfl⟩
  | d :: ds, acc, h, hl => by
    obtain ⟨env', e1, e2⟩ := h d List.mem_cons_self
    have hl' : acc.length + (ds.length + 1) ≤ sizeLine := hl
    unfold lcGo
    rw [e1, costs_cons]
    simp only [fYes, nox_ret, VS.bnd_ret, if_pos]
    refine e2.nox.bnd (k := costs ds) fun y hy => ?_
    rw [if_pos (show acc.length < sizeLine by omega)]
    refine (ok_lcV ds (acc ++ [y]) (fun x hx => h x (List.mem_cons_of_mem _ hx)) (by rw [List.length_append]; show acc.length + 1 + ds.length ≤ _; omega)).mono (Nat.le_refl _) fun ys q => ?_
    obtain ⟨zs, rfl, hz⟩ := q
    exact ⟨y :: zs, by rw [List.append_assoc]; rfl, y, zs, rfl, hy, hz⟩
def looseN (n : Nat) : List D → M D := lev (fun r => fDef 4 (B__law_loose r)) n
theorem p_loose : ∀ (n : Nat) (d : D), pl n d → Ok (cost d) (looseN n [.strm, d]) (loo n d) := by
  intro n
  induction n with
  | zero => exact fun d h => h.elim
  | succ n ih =>
    intro d h
    have key : ∀ (a : D) (ds : List D), ds.length ≤ 1000 → (∀ d ∈ ds, pl n d) → Ok (costs ds) (lcGo (gSet 3) fYes (fCall 2 (looseN n) (fCons (fName 0) (fCons (fName 3) fNil))) [some .strm, some a, none, none] ds []) (fun ys => ∃ zs : List D, ys = zs ∧ Two (loo n) ds zs) := by
      intro a ds hl hp
      have e1 : ∀ x ∈ ds, ∃ env', gSet 3 x [some .strm, some a, none, none] = some env' ∧ Ok (cost x) ((fCall 2 (looseN n) (fCons (fName 0) (fCons (fName 3) fNil))) env') (loo n x) := by
        intro x hx
        refine ⟨[some .strm, some a, none, some x], rfl, ?_⟩
        have := ih x (hp x hx)
        simp only [fDef, fDefF, ofF, sSeq, sIf, sNext, sDrop, sRet, sRetF, sRetO, sSetC, sSetA, sPar, cV, cO, fTst, fBlt, fCall, fCallF, fCons, fNil, fName, fC, fOp, fUn, fAndV, fOrV, fNotV, fAndT, fOrT, fNotT, fIf, fTup_eq, fLst_eq, fNew_eq, chkL0, chkL1, chkL2, chkL3, chkL4, chkT1, chkT2, chkT3, chkN0, chkN1, fL, fLcL, fSeq, fStar, fIt, fStrs, fSl, fPart, sFor, sAsgT, bnd_ret, ofO_some, al, cl, Sl.al, Sl.cl, startS, wipeD, hSet, gSet, List.map_cons, List.map_nil, List.length_cons, List.length_nil, List.cons_append, List.nil_append, List.getElem?_cons_zero, List.getElem?_cons_succ, List.replicate, List.set_cons_zero, List.set_cons_succ, eqD_int, eqD_str, neD_int, eqD_bl, neD_bl, geD_int, gtD_int, ltD_int, addD_int, subD_int, Nat.reduceSub, Nat.reduceAdd, Nat.reduceLT, decide_true, decide_false, if_true, if_false, Bool.false_eq_true, Option.some.injEq, reduceIte, and_self, true_and, and_true]
        exact this
      exact (ok_lcV ds [] e1 (by simp only [List.length_nil]; exact sz (by omega))).mono (Nat.le_refl _) fun ys q => by simpa using q
    have fin : ∀ (a : D) (ds : List D), ds.length ≤ 1000 → (∀ d ∈ ds, pl n d) → isiT [a, tLT] = some (.bl true) → a.seq = some ds → Ok (1 + costs ds) (fDef 4 (B__law_loose (looseN n)) [.strm, a]) (fun r => ∃ es, r.seq = some es ∧ Two (loo n) ds es) := by
      intro a ds hl hp hi hs
      unfold B__law_loose
      simp only [fDef, fDefF, ofF, sSeq, sIf, sNext, sDrop, sRet, sRetF, sRetO, sSetC, sSetA, sPar, cV, cO, fTst, fBlt, fCall, fCallF, fCons, fNil, fName, fC, fOp, fUn, fAndV, fOrV, fNotV, fAndT, fOrT, fNotT, fIf, fTup_eq, fLst_eq, fNew_eq, chkL0, chkL1, chkL2, chkL3, chkL4, chkT1, chkT2, chkT3, chkN0, chkN1, fL, fLcL, fSeq, fStar, fIt, fStrs, fSl, fPart, sFor, sAsgT, bnd_ret, ofO_some, al, cl, Sl.al, Sl.cl, startS, wipeD, hSet, gSet, List.map_cons, List.map_nil, List.length_cons, List.length_nil, List.cons_append, List.nil_append, List.getElem?_cons_zero, List.getElem?_cons_succ, List.replicate, List.set_cons_zero, List.set_cons_succ, eqD_int, eqD_str, neD_int, eqD_bl, neD_bl, geD_int, gtD_int, ltD_int, addD_int, subD_int, Nat.reduceSub, Nat.reduceAdd, Nat.reduceLT, decide_true, decide_false, if_true, if_false, Bool.false_eq_true, Option.some.injEq, reduceIte, and_self, true_and, and_true, hi, hs, VS.bnd_assoc]
      refine ((key a ds hl hp).bnd (k := 1) fun ys hy => ?_).mono (by omega) fun _ q => q
      obtain ⟨zs, e0, hz⟩ := hy
      subst e0
      try simp only [fDef, fDefF, ofF, sSeq, sIf, sNext, sDrop, sRet, sRetF, sRetO, sSetC, sSetA, sPar, cV, cO, fTst, fBlt, fCall, fCallF, fCons, fNil, fName, fC, fOp, fUn, fAndV, fOrV, fNotV, fAndT, fOrT, fNotT, fIf, fTup_eq, fLst_eq, fNew_eq, chkL0, chkL1, chkL2, chkL3, chkL4, chkT1, chkT2, chkT3, chkN0, chkN1, fL, fLcL, fSeq, fStar, fIt, fStrs, fSl, fPart, sFor, sAsgT, bnd_ret, ofO_some, al, cl, Sl.al, Sl.cl, startS, wipeD, hSet, gSet, List.map_cons, List.map_nil, List.length_cons, List.length_nil, List.cons_append, List.nil_append, List.getElem?_cons_zero, List.getElem?_cons_succ, List.replicate, List.set_cons_zero, List.set_cons_succ, eqD_int, eqD_str, neD_int, eqD_bl, neD_bl, geD_int, gtD_int, ltD_int, addD_int, subD_int, Nat.reduceSub, Nat.reduceAdd, Nat.reduceLT, decide_true, decide_false, if_true, if_false, Bool.false_eq_true, Option.some.injEq, reduceIte, and_self, true_and, and_true, VS.bnd_assoc]
      refine ((p_draw (n := 2) (by omega) (by omega)).bnd (k := 0) fun r hr => ?_).mono (Nat.le_refl _) fun _ q => q
      obtain ⟨b, rfl, b0, b1⟩ := hr
      have bt : bTuple [.lst ys] = some (.tup ys) := rfl
      try simp only [fDef, fDefF, ofF, sSeq, sIf, sNext, sDrop, sRet, sRetF, sRetO, sSetC, sSetA, sPar, cV, cO, fTst, fBlt, fCall, fCallF, fCons, fNil, fName, fC, fOp, fUn, fAndV, fOrV, fNotV, fAndT, fOrT, fNotT, fIf, fTup_eq, fLst_eq, fNew_eq, chkL0, chkL1, chkL2, chkL3, chkL4, chkT1, chkT2, chkT3, chkN0, chkN1, fL, fLcL, fSeq, fStar, fIt, fStrs, fSl, fPart, sFor, sAsgT, bnd_ret, ofO_some, al, cl, Sl.al, Sl.cl, startS, wipeD, hSet, gSet, List.map_cons, List.map_nil, List.length_cons, List.length_nil, List.cons_append, List.nil_append, List.getElem?_cons_zero, List.getElem?_cons_succ, List.replicate, List.set_cons_zero, List.set_cons_succ, eqD_int, eqD_str, neD_int, eqD_bl, neD_bl, geD_int, gtD_int, ltD_int, addD_int, subD_int, Nat.reduceSub, Nat.reduceAdd, Nat.reduceLT, decide_true, decide_false, if_true, if_false, Bool.false_eq_true, Option.some.injEq, reduceIte, and_self, true_and, and_true, bt]
      by_cases hb : b = 0
      · subst hb
        simp only [fDef, fDefF, ofF, sSeq, sIf, sNext, sDrop, sRet, sRetF, sRetO, sSetC, sSetA, sPar, cV, cO, fTst, fBlt, fCall, fCallF, fCons, fNil, fName, fC, fOp, fUn, fAndV, fOrV, fNotV, fAndT, fOrT, fNotT, fIf, fTup_eq, fLst_eq, fNew_eq, chkL0, chkL1, chkL2, chkL3, chkL4, chkT1, chkT2, chkT3, chkN0, chkN1, fL, fLcL, fSeq, fStar, fIt, fStrs, fSl, fPart, sFor, sAsgT, bnd_ret, ofO_some, al, cl, Sl.al, Sl.cl, startS, wipeD, hSet, gSet, List.map_cons, List.map_nil, List.length_cons, List.length_nil, List.cons_append, List.nil_append, List.getElem?_cons_zero, List.getElem?_cons_succ, List.replicate, List.set_cons_zero, List.set_cons_succ, eqD_int, eqD_str, neD_int, eqD_bl, neD_bl, geD_int, gtD_int, ltD_int, addD_int, subD_int, Nat.reduceSub, Nat.reduceAdd, Nat.reduceLT, decide_true, decide_false, if_true, if_false, Bool.false_eq_true, Option.some.injEq, reduceIte, and_self, true_and, and_true]
        exact Ok.ret 0 ⟨ys, rfl, hz⟩
      · have e : decide (b = 0) = false := by simpa using hb
        simp only [fDef, fDefF, ofF, sSeq, sIf, sNext, sDrop, sRet, sRetF, sRetO, sSetC, sSetA, sPar, cV, cO, fTst, fBlt, fCall, fCallF, fCons, fNil, fName, fC, fOp, fUn, fAndV, fOrV, fNotV, fAndT, fOrT, fNotT, fIf, fTup_eq, fLst_eq, fNew_eq, chkL0, chkL1, chkL2, chkL3, chkL4, chkT1, chkT2, chkT3, chkN0, chkN1, fL, fLcL, fSeq, fStar, fIt, fStrs, fSl, fPart, sFor, sAsgT, bnd_ret, ofO_some, al, cl, Sl.al, Sl.cl, startS, wipeD, hSet, gSet, List.map_cons, List.map_nil, List.length_cons, List.length_nil, List.cons_append, List.nil_append, List.getElem?_cons_zero, List.getElem?_cons_succ, List.replicate, List.set_cons_zero, List.set_cons_succ, eqD_int, eqD_str, neD_int, eqD_bl, neD_bl, geD_int, gtD_int, ltD_int, addD_int, subD_int, Nat.reduceSub, Nat.reduceAdd, Nat.reduceLT, decide_true, decide_false, if_true, if_false, Bool.false_eq_true, Option.some.injEq, reduceIte, and_self, true_and, and_true, e]
        exact Ok.ret 0 ⟨ys, rfl, hz⟩
    show Ok _ (fDef 4 (B__law_loose (looseN n)) [.strm, d]) _
    match d, h with
    | .lst ds, h =>
      rw [cost_lst]
      exact fin _ ds h.1 h.2 (isT_l ds) rfl
    | .tup ds, h =>
      rw [cost_tup]
      exact fin _ ds h.1 h.2 (isT_t ds) rfl
    | .int i, h =>
      unfold B__law_loose
      simp only [fDef, fDefF, ofF, sSeq, sIf, sNext, sDrop, sRet, sRetF, sRetO, sSetC, sSetA, sPar, cV, cO, fTst, fBlt, fCall, fCallF, fCons, fNil, fName, fC, fOp, fUn, fAndV, fOrV, fNotV, fAndT, fOrT, fNotT, fIf, fTup_eq, fLst_eq, fNew_eq, chkL0, chkL1, chkL2, chkL3, chkL4, chkT1, chkT2, chkT3, chkN0, chkN1, fL, fLcL, fSeq, fStar, fIt, fStrs, fSl, fPart, sFor, sAsgT, bnd_ret, ofO_some, al, cl, Sl.al, Sl.cl, startS, wipeD, hSet, gSet, List.map_cons, List.map_nil, List.length_cons, List.length_nil, List.cons_append, List.nil_append, List.getElem?_cons_zero, List.getElem?_cons_succ, List.replicate, List.set_cons_zero, List.set_cons_succ, eqD_int, eqD_str, neD_int, eqD_bl, neD_bl, geD_int, gtD_int, ltD_int, addD_int, subD_int, Nat.reduceSub, Nat.reduceAdd, Nat.reduceLT, decide_true, decide_false, if_true, if_false, Bool.false_eq_true, Option.some.injEq, reduceIte, and_self, true_and, and_true, isT_i]
      exact Ok.ret _ rfl
    | .str i, h =>
      unfold B__law_loose
      simp only [fDef, fDefF, ofF, sSeq, sIf, sNext, sDrop, sRet, sRetF, sRetO, sSetC, sSetA, sPar, cV, cO, fTst, fBlt, fCall, fCallF, fCons, fNil, fName, fC, fOp, fUn, fAndV, fOrV, fNotV, fAndT, fOrT, fNotT, fIf, fTup_eq, fLst_eq, fNew_eq, chkL0, chkL1, chkL2, chkL3, chkL4, chkT1, chkT2, chkT3, chkN0, chkN1, fL, fLcL, fSeq, fStar, fIt, fStrs, fSl, fPart, sFor, sAsgT, bnd_ret, ofO_some, al, cl, Sl.al, Sl.cl, startS, wipeD, hSet, gSet, List.map_cons, List.map_nil, List.length_cons, List.length_nil, List.cons_append, List.nil_append, List.getElem?_cons_zero, List.getElem?_cons_succ, List.replicate, List.set_cons_zero, List.set_cons_succ, eqD_int, eqD_str, neD_int, eqD_bl, neD_bl, geD_int, gtD_int, ltD_int, addD_int, subD_int, Nat.reduceSub, Nat.reduceAdd, Nat.reduceLT, decide_true, decide_false, if_true, if_false, Bool.false_eq_true, Option.some.injEq, reduceIte, and_self, true_and, and_true, isT_s]
      exact Ok.ret _ rfl
    | .non, h =>
      unfold B__law_loose
      simp only [fDef, fDefF, ofF, sSeq, sIf, sNext, sDrop, sRet, sRetF, sRetO, sSetC, sSetA, sPar, cV, cO, fTst, fBlt, fCall, fCallF, fCons, fNil, fName, fC, fOp, fUn, fAndV, fOrV, fNotV, fAndT, fOrT, fNotT, fIf, fTup_eq, fLst_eq, fNew_eq, chkL0, chkL1, chkL2, chkL3, chkL4, chkT1, chkT2, chkT3, chkN0, chkN1, fL, fLcL, fSeq, fStar, fIt, fStrs, fSl, fPart, sFor, sAsgT, bnd_ret, ofO_some, al, cl, Sl.al, Sl.cl, startS, wipeD, hSet, gSet, List.map_cons, List.map_nil, List.length_cons, List.length_nil, List.cons_append, List.nil_append, List.getElem?_cons_zero, List.getElem?_cons_succ, List.replicate, List.set_cons_zero, List.set_cons_succ, eqD_int, eqD_str, neD_int, eqD_bl, neD_bl, geD_int, gtD_int, ltD_int, addD_int, subD_int, Nat.reduceSub, Nat.reduceAdd, Nat.reduceLT, decide_true, decide_false, if_true, if_false, Bool.false_eq_true, Option.some.injEq, reduceIte, and_self, true_and, and_true, isT_n]
      exact Ok.ret _ rfl
theorem L_loose {d : D} (h : pl 20 d) : Ok (cost d) (F__law_loose [.strm, d]) (loo 20 d) := p_loose 20 d h
end K75
namespace K75
open PySem PySem.Spec PyProof.Rows L2 VS
theorem seq_cases {d : D} {ds : List D} (h : d.seq = some ds) : d = .lst ds ∨ d = .tup ds := by
  cases d with
  | lst l => cases h; exact .inl rfl
  | tup l => cases h; exact .inr rfl
  | _ => cases h
theorem pl_seq {n : Nat} {d : D} {ds : List D} (h : d.seq = some ds) (hl : ds.length ≤ 1000) (hp : ∀ x ∈ ds, pl n x) : pl (n + 1) d := by
  rcases seq_cases h with rfl | rfl
  · exact ⟨hl, hp⟩
  · exact ⟨hl, hp⟩
theorem two_mem {α β : Type} {R : α → β → Prop} : ∀ {as : List α} {ds : List β}, Two R as ds → ∀ x ∈ ds, ∃ a ∈ as, R a x
  | [], _, h, x, hx => by
    cases (show _ = _ from h)
    simp at hx
  | a :: as, _, h, x, hx => by
    obtain ⟨d, r, rfl, h1, h2⟩ := h
    rcases List.mem_cons.mp hx with rfl | hx
    · exact ⟨a, List.mem_cons_self, h1⟩
    · obtain ⟨b, hb, hr⟩ := two_mem h2 x hx
      exact ⟨b, List.mem_cons_of_mem _ hb, hr⟩
theorem pl_isF : ∀ (k : Nat) (f : Fm) (d : D) (n : Nat), dep f < k → IsF f d → ne_ f → (names f).length ≤ 1000 → 2 * dep f + 2 ≤ n → pl n d
  | k + 1, .name s, d, n, hk, h, hw, hl, hn => by
    obtain ⟨n, rfl⟩ : ∃ j, n = j + 2 := ⟨n - 2, by omega⟩
    refine pl_seq h (by show 2 ≤ 1000; omega) fun x hx => ?_
    rcases List.mem_cons.mp hx with rfl | hx
    · trivial
    · rw [List.mem_singleton.mp hx]; trivial
  | k + 1, .gate b ps, d, n, hk, h, hw, hl, hn => by
    obtain ⟨l, ds, h1, h2, h3⟩ := h
    have hw' : ps ≠ [] ∧ nes ps := by simpa only [ne_] using hw
    rw [names_gate] at hl
    have hL := (lens_le hw'.2).1
    rw [dep_gate] at hn hk
    obtain ⟨n, rfl⟩ : ∃ j, n = j + 2 := ⟨n - 2, by omega⟩
    have hlen := h3.two.length
    refine pl_seq h1 (by show 2 ≤ 1000; omega) fun x hx => ?_
    rcases List.mem_cons.mp hx with rfl | hx
    · trivial
    · rw [List.mem_singleton.mp hx]
      refine pl_seq h2 (by omega) fun y hy => ?_
      obtain ⟨p, hp, hr⟩ := two_mem h3.two y hy
      have hd := dep_mem hp
      exact pl_isF k p y n (by omega) hr (nes_mem hw'.2 hp) (Nat.le_trans (names_mem hp) hl) (by omega)
theorem pl_ints {n : Nat} {d : D} {ns : List Int} (h : d.seq = some (ns.map D.int)) (hl : ns.length ≤ 1000) : pl (n + 2) d := by
  refine pl_seq h (by rw [List.length_map]; exact hl) fun x hx => ?_
  obtain ⟨i, _, rfl⟩ := List.mem_map.mp hx
  trivial
/-! ### loose data encode the same -/
theorem loo_str {n : Nat} {s : Str} {r : D} (h : loo n (.str s) r) : r = .str s := by
  cases n with
  | zero => exact h.elim
  | succ n => exact h
theorem loo_int {n : Nat} {s : Int} {r : D} (h : loo n (.int s) r) : r = .int s := by
  cases n with
  | zero => exact h.elim
  | succ n => exact h
theorem loo_seq {n : Nat} {d r : D} {ds : List D} (h : loo n d r) (hd : d.seq = some ds) : ∃ (m : Nat) (es : List D), r.seq = some es ∧ Two (loo m) ds es := by
  cases n with
  | zero => exact h.elim
  | succ n =>
    rcases seq_cases hd with rfl | rfl
    · obtain ⟨es, h1, h2⟩ := h
      exact ⟨n, es, h1, h2⟩
    · obtain ⟨es, h1, h2⟩ := h
      exact ⟨n, es, h1, h2⟩
mutual
theorem loo_isF : ∀ (f : Fm) (d r : D) (n : Nat), IsF f d → loo n d r → IsF f r
  | .name s, d, r, n, h, hl => by
    obtain ⟨m, es, h1, h2⟩ := loo_seq hl h
    obtain ⟨a, t, rfl, q1, q2⟩ := h2
    obtain ⟨b, t, rfl, q3, q4⟩ := q2
    cases (show t = [] from q4)
    rw [loo_str q1, loo_str q3] at h1
    exact h1
  | .gate b ps, d, r, n, h, hl => by
    obtain ⟨l, ds, k1, k2, k3⟩ := h
    obtain ⟨m, es, h1, h2⟩ := loo_seq hl k1
    obtain ⟨a, t, rfl, q1, q2⟩ := h2
    obtain ⟨c, t, rfl, q3, q4⟩ := q2
    cases (show t = [] from q4)
    rw [loo_str q1] at h1
    obtain ⟨m2, fs, j1, j2⟩ := loo_seq q3 k2
    exact ⟨c, fs, h1, j1, loo_isFs ps ds fs m2 k3 j2⟩
theorem loo_isFs : ∀ (ps : List Fm) (ds es : List D) (n : Nat), IsFs ps ds → Two (loo n) ds es → IsFs ps es
  | [], ds, es, n, h, hl => by
    cases (show ds = [] from h)
    exact hl
  | p :: ps, ds, es, n, h, hl => by
    obtain ⟨d, r, rfl, h1, h2⟩ := h
    obtain ⟨e, s, rfl, k1, k2⟩ := hl
    exact ⟨e, s, rfl, loo_isF p d e n h1 k1, loo_isFs ps r s n h2 k2⟩
end
theorem loo_ints {n : Nat} {d r : D} {ns : List Int} (h : loo n d r) (hd : d.seq = some (ns.map D.int)) : r.seq = some (ns.map D.int) := by
  obtain ⟨m, es, h1, h2⟩ := loo_seq h hd
  have : ∀ (ns : List Int) (es : List D), Two (loo m) (ns.map D.int) es → es = ns.map D.int := by
    intro ns
    induction ns with
    | nil => exact fun es h => h
    | cons x r ih =>
      intro es h
      obtain ⟨e, t, rfl, k1, k2⟩ := h
      rw [List.map_cons, loo_int k1, ih t k2]
  rw [h1, this ns es h2]
/-! ### the cost of loosening -/
theorem cost_seq {d : D} {ds : List D} (h : d.seq = some ds) : cost d = 1 + costs ds := by
  rcases seq_cases h with rfl | rfl
  · exact cost_lst ds
  · exact cost_tup ds
theorem costs_ints : ∀ ns : List Int, costs (ns.map D.int) = 0
  | [] => by simp [costs]
  | x :: r => by
    rw [List.map_cons, costs_cons, costs_ints r]
    simp [cost]
theorem cost_ints {d : D} {ns : List Int} (h : d.seq = some (ns.map D.int)) : cost d = 1 := by rw [cost_seq h, costs_ints]
mutual
theorem cost_isF : ∀ (f : Fm) (d : D), IsF f d → ne_ f → cost d ≤ (2 * dep f + 1) * (names f).length
  | .name s, d, h, hw => by
    rw [cost_seq h, costs_cons, costs_cons]
    simp [cost, costs, dep, names]
  | .gate b ps, d, h, hw => by
    obtain ⟨l, ds, h1, h2, h3⟩ := h
    have hw' : ps ≠ [] ∧ nes ps := by simpa only [ne_] using hw
    have hq := cost_isFs ps ds (deps ps) (Nat.le_refl _) h3 hw'.2
    have hL := (lens_le hw'.2).1
    have hp : 1 ≤ ps.length := by
      cases ps with
      | nil => exact absurd rfl hw'.1
      | cons a r => simp
    rw [cost_seq h1, costs_cons, costs_cons, cost_seq h2, dep_gate, names_gate]
    simp only [cost, costs, Nat.zero_add, Nat.add_zero]
    have e : (2 * (deps ps + 1) + 1) * (namess ps).length = (2 * deps ps + 1) * (namess ps).length + 2 * (namess ps).length := by
      rw [show 2 * (deps ps + 1) + 1 = (2 * deps ps + 1) + 2 by omega, Nat.add_mul]
    omega
theorem cost_isFs : ∀ (ps : List Fm) (ds : List D) (k : Nat), deps ps ≤ k → IsFs ps ds → nes ps → costs ds ≤ (2 * k + 1) * (namess ps).length
  | [], ds, k, hk, h, hw => by
    cases (show ds = [] from h)
    simp [costs]
  | p :: ps, ds, k, hk, h, hw => by
    obtain ⟨d, r, rfl, h1, h2⟩ := h
    have hw' : ne_ p ∧ nes ps := by simpa only [nes] using hw
    rw [deps_cons] at hk
    have e1 := cost_isF p d h1 hw'.1
    have e2 := cost_isFs ps r k (by omega) h2 hw'.2
    have e3 : (2 * dep p + 1) * (names p).length ≤ (2 * k + 1) * (names p).length := Nat.mul_le_mul_right _ (by omega)
    rw [costs_cons, namess_cons, List.length_append, Nat.mul_add]
    omega
end
end K75
namespace K75
open PySem PySem.Spec PyProof.Rows L2 VS
theorem seqIx {j n : Nat} (h : j < n) : seqIndex? (j : Nat) n = some j := by
  have h0 : ¬ (((j : Nat) : Int) < 0) := by omega
  have h1 : (decide (0 ≤ ((j : Nat) : Int)) && decide (((j : Nat) : Int) < (n : Nat))) = true := by simp [h]
  show (if (decide (0 ≤ (if ((j : Nat) : Int) < 0 then ((j : Nat) : Int) + n else (j : Nat))) && decide ((if ((j : Nat) : Int) < 0 then ((j : Nat) : Int) + n else (j : Nat)) < (n : Nat))) = true then some (if ((j : Nat) : Int) < 0 then ((j : Nat) : Int) + n else (j : Nat)).toNat else none) = _
  rw [if_neg h0, if_pos h1, Int.toNat_natCast]
theorem erase_perm {α : Type} : ∀ {l : List α} {i : Nat} (h : i < l.length), (l[i] :: l.eraseIdx i).Perm l
  | a :: l, 0, h => List.Perm.refl _
  | a :: l, i + 1, h => by
    have ih := erase_perm (l := l) (i := i) (by simpa using h)
    exact (List.Perm.swap a (l[i]'(by simpa using h)) (l.eraseIdx i)).trans (List.Perm.cons a ih)
theorem rng1_ok {j : Int} (h : -(2 ^ 62) ≤ j ∧ j < 2 ^ 62) : rng1 [.int j] = some ((List.range j.toNat).map fun i => D.int (0 + (i : Nat))) := if_pos h
theorem lo62 (k : Nat) : -(2 ^ 62) ≤ ((k : Nat) : Int) := Int.le_trans (by decide) (Int.natCast_nonneg k)
theorem hi62 (k : Nat) (h : k ≤ 1000) : ((k : Nat) : Int) < 2 ^ 62 := Int.lt_of_le_of_lt (show ((k : Nat) : Int) ≤ 1000 by omega) (by decide)
theorem rngN (k : Nat) (h : k ≤ 1000) : rng1 [.int (k : Nat)] = some ((List.range k).map fun i => D.int (0 + (i : Nat))) := by
  rw [rng1_ok ⟨lo62 k, hi62 k h⟩, Int.toNat_natCast]
theorem apPop_at {v x : D} {y : Sl} {left found : List D} {A : DEnv → M D} {j : Nat} {a : D} (hj : left[j]? = some a) (hl : found.length ≤ 1000) (h1 : left.length ≤ 1000) {s s' : Option SS}
    (hA : A (al [.val .strm, .val v, .own left, .own found, y]) s = some (.ok (.int (j : Nat)), s')) : sApPop 3 2 A [.val .strm, .val v, .own left, .own found, y] s = some (.ok (.nx [.val .strm, .val v, .own (left.eraseIdx j), .own (found ++ [a]), y]), s') := by
  have hjl : j < left.length := (List.getElem?_eq_some_iff.mp hj).1
  have c : -(2 ^ 63) ≤ ((j : Nat) : Int) ∧ ((j : Nat) : Int) < 2 ^ 63 ∧ found.length < sizeLine := ⟨lo63 j, hi63 j (by omega), by have := sz (n := found.length + 1) (by omega); omega⟩
  unfold sApPop
  show VS.bnd (A _) _ s = _
  rw [bnd_at hA]
  simp only [seqIx hjl, hj]
  rw [if_pos c]
  rfl
theorem forGo_step {tg : D → SEnv → Option SEnv} {B : SEnv → M Fl} {d : D} {ds : List D} {env env1 : SEnv} (h1 : tg d env = some env1) : forGo tg B (d :: ds) env = VS.bnd (B env1) fun r => match r with
    | .nx e => forGo tg B ds e
    | .ct e => forGo tg B ds e
    | .bk e => ret (.nx e)
    | .rt d => ret (.rt d)
    | .rf d => ret (.rf d) := by
  show (match tg d env with
    | none => stuck
    | some env1 => VS.bnd (B env1) _) = _
  rw [h1]
  all_goals rfl
theorem mixed_go (v : D) : ∀ (ds left found : List D) (x : Sl), ds.length = left.length → found.length + left.length ≤ 1000 →
    Ok ds.length (forGo (hSet 4) (sApPop 3 2 (fCall 2 F__law_draw (fCons (fName 0) (fCons (fBlt bLen (fCons (fName 2) fNil)) fNil)))) ds [.val .strm, .val v, .own left, .own found, x])
      (fun r => ∃ ys x', r = .nx [.val .strm, .val v, .own [], .own ys, x'] ∧ ys.Perm (found ++ left))
  | [], left, found, x, h, hl => by
    have : left = [] := List.length_eq_zero_iff.mp h.symm
    subst this
    exact Ok.ret _ ⟨found, x, rfl, by simp⟩
  | d :: ds, left, found, x, h, hl => by
    intro s hs hb
    have hlen : left.length = ds.length + 1 := h.symm
    have hb' : s.b + ((ds.length + 1 : Nat) : Int) ≤ bigB := hb
    obtain ⟨r, s1, e1, si, sb, k, rfl, k0, k1⟩ := p_draw (n := (left.length : Nat)) (by omega) (by omega) s hs (by omega)
    obtain ⟨j, rfl⟩ := Int.eq_ofNat_of_zero_le k0
    have hj : j < left.length := by omega
    have ln : bLen [.lst left] = some (.int (left.length : Nat)) := rfl
    have hA : (fCall 2 F__law_draw (fCons (fName 0) (fCons (fBlt bLen (fCons (fName 2) fNil)) fNil))) (al [.val .strm, .val v, .own left, .own found, .val d]) (some s) = some (.ok (.int (j : Nat)), some s1) := by
      have : (fCall 2 F__law_draw (fCons (fName 0) (fCons (fBlt bLen (fCons (fName 2) fNil)) fNil))) (al [.val .strm, .val v, .own left, .own found, .val d]) = F__law_draw [.strm, .int (left.length : Nat)] := by
        simp only [fDef, fDefF, ofF, sSeq, sIf, sNext, sDrop, sRet, sRetF, sRetO, sSetC, sSetA, sPar, cV, cO, fTst, fBlt, fCall, fCallF, fCons, fNil, fName, fC, fOp, fUn, fAndV, fOrV, fNotV, fAndT, fOrT, fNotT, fIf, fTup_eq, fLst_eq, fNew_eq, chkL0, chkL1, chkL2, chkL3, chkL4, chkT1, chkT2, chkT3, chkN0, chkN1, fL, fLcL, fSeq, fStar, fIt, fStrs, fSl, fPart, sFor, sAsgT, bnd_ret, ofO_some, al, cl, Sl.al, Sl.cl, startS, wipeD, hSet, gSet, List.map_cons, List.map_nil, List.length_cons, List.length_nil, List.cons_append, List.nil_append, List.getElem?_cons_zero, List.getElem?_cons_succ, List.replicate, List.set_cons_zero, List.set_cons_succ, eqD_int, eqD_str, neD_int, eqD_bl, neD_bl, geD_int, gtD_int, ltD_int, addD_int, subD_int, Nat.reduceSub, Nat.reduceAdd, Nat.reduceLT, decide_true, decide_false, if_true, if_false, Bool.false_eq_true, Option.some.injEq, reduceIte, and_self, true_and, and_true, ln]
      rw [this]
      exact e1
    have st := apPop_at (x := v) (v := v) (y := .val d) (List.getElem?_eq_getElem hj) (by omega) (by omega) hA
    obtain ⟨r2, s2, e2, si2, sb2, ys, x', rfl, hp⟩ := mixed_go v ds (left.eraseIdx j) (found ++ [left[j]]) (.val d) (by rw [List.length_eraseIdx_of_lt hj]; omega) (by rw [List.length_append, List.length_eraseIdx_of_lt hj]; show found.length + 1 + _ ≤ _; omega) s1 si (by omega)
    refine ⟨_, s2, ?_, si2, (by show s2.b ≤ s.b + ((ds.length + 1 : Nat) : Int); omega), ys, x', rfl, ?_⟩
    · rw [forGo_step (env1 := [.val .strm, .val v, .own left, .own found, .val d]) rfl, bnd_at st]
      exact e2
    · refine hp.trans ?_
      rw [List.append_assoc]
      exact List.Perm.append_left _ (erase_perm hj)
theorem p_mixed {xs : List D} (hl : xs.length ≤ 1000) : Ok xs.length (F__law_mixed [.strm, .lst xs]) (fun r => ∃ ys, r = .lst ys ∧ ys.Perm xs) := by
  have o : one D.seq [.lst xs] = some xs := rfl
  have ln : bLen [.lst xs] = some (.int (xs.length : Nat)) := rfl
  have rg := rngN xs.length hl
  unfold F__law_mixed B__law_mixed
  simp only [fDef, fDefF, ofF, sSeq, sIf, sNext, sDrop, sRet, sRetF, sRetO, sSetC, sSetA, sPar, cV, cO, fTst, fBlt, fCall, fCallF, fCons, fNil, fName, fC, fOp, fUn, fAndV, fOrV, fNotV, fAndT, fOrT, fNotT, fIf, fTup_eq, fLst_eq, fNew_eq, chkL0, chkL1, chkL2, chkL3, chkL4, chkT1, chkT2, chkT3, chkN0, chkN1, fL, fLcL, fSeq, fStar, fIt, fStrs, fSl, fPart, sFor, sAsgT, bnd_ret, ofO_some, al, cl, Sl.al, Sl.cl, startS, wipeD, hSet, gSet, List.map_cons, List.map_nil, List.length_cons, List.length_nil, List.cons_append, List.nil_append, List.getElem?_cons_zero, List.getElem?_cons_succ, List.replicate, List.set_cons_zero, List.set_cons_succ, eqD_int, eqD_str, neD_int, eqD_bl, neD_bl, geD_int, gtD_int, ltD_int, addD_int, subD_int, Nat.reduceSub, Nat.reduceAdd, Nat.reduceLT, decide_true, decide_false, if_true, if_false, Bool.false_eq_true, Option.some.injEq, reduceIte, and_self, true_and, and_true, o, VS.bnd_assoc, sForA, ln, rg]
  have g := mixed_go (.lst xs) ((List.range xs.length).map fun i => D.int (0 + (i : Nat))) xs [] .un (by simp) (by simpa using hl)
  rw [List.length_map, List.length_range] at g
  refine (g.bnd (k := 0) fun r hr => ?_).mono (Nat.le_refl _) fun _ q => q
  obtain ⟨ys, x', rfl, hp⟩ := hr
  try simp only [fDef, fDefF, ofF, sSeq, sIf, sNext, sDrop, sRet, sRetF, sRetO, sSetC, sSetA, sPar, cV, cO, fTst, fBlt, fCall, fCallF, fCons, fNil, fName, fC, fOp, fUn, fAndV, fOrV, fNotV, fAndT, fOrT, fNotT, fIf, fTup_eq, fLst_eq, fNew_eq, chkL0, chkL1, chkL2, chkL3, chkL4, chkT1, chkT2, chkT3, chkN0, chkN1, fL, fLcL, fSeq, fStar, fIt, fStrs, fSl, fPart, sFor, sAsgT, bnd_ret, ofO_some, al, cl, Sl.al, Sl.cl, startS, wipeD, hSet, gSet, List.map_cons, List.map_nil, List.length_cons, List.length_nil, List.cons_append, List.nil_append, List.getElem?_cons_zero, List.getElem?_cons_succ, List.replicate, List.set_cons_zero, List.set_cons_succ, eqD_int, eqD_str, neD_int, eqD_bl, neD_bl, geD_int, gtD_int, ltD_int, addD_int, subD_int, Nat.reduceSub, Nat.reduceAdd, Nat.reduceLT, decide_true, decide_false, if_true, if_false, Bool.false_eq_true, Option.some.injEq, reduceIte, and_self, true_and, and_true]
  exact Ok.ret 0 ⟨ys, rfl, by simpa using hp⟩
end K75
namespace K75
open PySem PySem.Spec PyProof.Rows L2 VS
theorem Ok.ofEq {α : Type} {n : Nat} {m m' : M α} {P : α → Prop} (h : Ok n m' P) (e : m = m') : Ok n m P := e ▸ h
theorem ixLast (ds : List D) (e : D) : oIx (.lst (ds ++ [e])) (.int (-1)) = some e := by
  show L2.atI (ds ++ [e]) (-1) = _
  exact atI_last _ _
theorem isFs_snoc : ∀ {ps : List Fm} {ds : List D} {p : Fm} {d : D}, IsFs ps ds → IsF p d → IsFs (ps ++ [p]) (ds ++ [d])
  | [], _, p, d, h, hp => by
    cases (show _ = [] from h)
    exact ⟨d, [], rfl, hp, rfl⟩
  | q :: ps, _, p, d, h, hp => by
    obtain ⟨e, r, rfl, h1, h2⟩ := h
    exact ⟨e, r ++ [d], rfl, h1, isFs_snoc h2 hp⟩
theorem namess_append : ∀ (ps qs : List Fm), namess (ps ++ qs) = namess ps ++ namess qs
  | [], qs => by simp [namess]
  | p :: ps, qs => by rw [List.cons_append, namess_cons, namess_cons, namess_append ps qs, List.append_assoc]
theorem deps_append : ∀ (ps qs : List Fm), deps (ps ++ qs) = max (deps ps) (deps qs)
  | [], qs => by simp [deps]
  | p :: ps, qs => by rw [List.cons_append, deps_cons, deps_cons, deps_append ps qs]; omega
theorem wfs_append : ∀ (ps qs : List Fm), WFs ps → WFs qs → WFs (ps ++ qs)
  | [], qs, _, h => h
  | p :: ps, qs, h, h2 => by
    have h' : WF p ∧ WFs ps := by simpa only [WFs] using h
    show WFs (p :: (ps ++ qs))
    simp only [WFs]
    exact ⟨h'.1, wfs_append ps qs h'.2 h2⟩
theorem namess_one (p : Fm) : namess [p] = names p := by rw [namess_cons]; simp [namess]
theorem deps_one (p : Fm) : deps [p] = dep p := by rw [deps_cons]; simp [deps]
def bud : Nat → Nat
  | 0 => 2
  | k + 1 => 4 + 3 * bud k
/-- a formula of names among ns -/
structure GoodF (ns : List Str) (k most : Nat) (f : Fm) (r : D) : Prop where
  is : IsF f r
  wf : WF f
  dp : dep f ≤ k
  lo : 1 ≤ (names f).length
  hi : (names f).length ≤ most
  of_ : ∀ s ∈ names f, s ∈ ns
def formN (n : Nat) : List D → M D := lev (fun r => fDef 7 (B__law_formula r)) n
abbrev FB (n : Nat) : SEnv → M Fl := sIf (fTst (fOp oGt (fName 5) (fC (.int 0)))) (sSeq (sMut 4 stAppend (fCons (fCall 4 (formN n) (fCons (fName 0) (fCons (fName 1) (fCons (fOp oSub (fName 2) (fC (.int 1))) (fCons (fName 5) fNil))))) fNil))
    (sSetA 5 (fOp oSub (fName 5) (fBlt bLen (fCons (fCall 1 F__law_places (fCons (fOp oIx (fName 4) (fUn oNeg (fC (.int 1)))) fNil)) fNil))))) sNext
theorem fb_at {n : Nat} {N : D} {k most left : Nat} {ds : List D} {x : Sl} {ns : List Str} (hleft : 0 < left) (hl : ds.length ≤ 1000) (hk : k ≤ 10) (hm : left ≤ 1000)
    (ih : Ok (bud k) (formN n [.strm, N, .int (k : Nat), .int (left : Nat)]) (fun r => ∃ f, GoodF ns k left f r)) :
    Ok (bud k) (FB n [.val .strm, .val N, .val (.int ((k + 1 : Nat) : Int)), .val (.int (most : Nat)), .own ds, .val (.int (left : Nat)), x])
      (fun r => ∃ f e, GoodF ns k left f e ∧ r = .nx [.val .strm, .val N, .val (.int ((k + 1 : Nat) : Int)), .val (.int (most : Nat)), .own (ds ++ [e]), .val (.int ((left - (names f).length : Nat) : Int)), x]) := by
  have g : decide ((0 : Int) < ((left : Nat) : Int)) = true := by simpa using hleft
  have c1 : (((k + 1 : Nat) : Int)) - 1 = ((k : Nat) : Int) := by omega
  unfold FB
  simp only [fDef, fDefF, ofF, sSeq, sIf, sNext, sDrop, sRet, sRetF, sRetO, sSetC, sSetA, sPar, cV, cO, fTst, fBlt, fCall, fCallF, fCons, fNil, fName, fC, fOp, fUn, fAndV, fOrV, fNotV, fAndT, fOrT, fNotT, fIf, fTup_eq, fLst_eq, fNew_eq, chkL0, chkL1, chkL2, chkL3, chkL4, chkT1, chkT2, chkT3, chkN0, chkN1, fL, fLcL, fSeq, fStar, fIt, fStrs, fSl, fPart, sFor, sAsgT, bnd_ret, ofO_some, al, cl, Sl.al, Sl.cl, startS, wipeD, hSet, gSet, List.map_cons, List.map_nil, List.length_cons, List.length_nil, List.cons_append, List.nil_append, List.getElem?_cons_zero, List.getElem?_cons_succ, List.replicate, List.set_cons_zero, List.set_cons_succ, eqD_int, eqD_str, neD_int, eqD_bl, neD_bl, geD_int, gtD_int, ltD_int, addD_int, subD_int, Nat.reduceSub, Nat.reduceAdd, Nat.reduceLT, decide_true, decide_false, if_true, if_false, Bool.false_eq_true, Option.some.injEq, reduceIte, and_self, true_and, and_true, g, sMut, VS.bnd_assoc, c1]
  refine (ih.bnd (k := 0) fun r hr => ?_).mono (Nat.le_refl _) fun _ q => q
  obtain ⟨f, hf⟩ := hr
  have st := stAppend_ok (a := ds) (d := r) (by have := sz (n := ds.length + 1) (by omega); omega)
  have ix := ixLast ds r
  have ng : oNeg (.int 1) = some (.int (-1)) := rfl
  have pl_ := L_places hf.is (by have := hf.dp; omega) (sz (by have := hf.hi; omega))
  have ls := lenS (names f)
  have c2 : ((left : Nat) : Int) - ((names f).length : Nat) = ((left - (names f).length : Nat) : Int) := by have := hf.hi; omega
  simp only [fDef, fDefF, ofF, sSeq, sIf, sNext, sDrop, sRet, sRetF, sRetO, sSetC, sSetA, sPar, cV, cO, fTst, fBlt, fCall, fCallF, fCons, fNil, fName, fC, fOp, fUn, fAndV, fOrV, fNotV, fAndT, fOrT, fNotT, fIf, fTup_eq, fLst_eq, fNew_eq, chkL0, chkL1, chkL2, chkL3, chkL4, chkT1, chkT2, chkT3, chkN0, chkN1, fL, fLcL, fSeq, fStar, fIt, fStrs, fSl, fPart, sFor, sAsgT, bnd_ret, ofO_some, al, cl, Sl.al, Sl.cl, startS, wipeD, hSet, gSet, List.map_cons, List.map_nil, List.length_cons, List.length_nil, List.cons_append, List.nil_append, List.getElem?_cons_zero, List.getElem?_cons_succ, List.replicate, List.set_cons_zero, List.set_cons_succ, eqD_int, eqD_str, neD_int, eqD_bl, neD_bl, geD_int, gtD_int, ltD_int, addD_int, subD_int, Nat.reduceSub, Nat.reduceAdd, Nat.reduceLT, decide_true, decide_false, if_true, if_false, Bool.false_eq_true, Option.some.injEq, reduceIte, and_self, true_and, and_true, st, ng, ix, pl_, ls, c2]
  exact Ok.ret 0 ⟨f, r, hf, rfl⟩
end K75
namespace K75
open PySem PySem.Spec PyProof.Rows L2 VS
theorem fb_skip {n : Nat} {a b c m o x : Sl} : FB n [a, b, c, m, o, .val (.int 0), x] = ret (.nx [a, b, c, m, o, .val (.int 0), x]) := by
  have g : decide ((0 : Int) < 0) = false := by decide
  unfold FB
  simp only [fDef, fDefF, ofF, sSeq, sIf, sNext, sDrop, sRet, sRetF, sRetO, sSetC, sSetA, sPar, cV, cO, fTst, fBlt, fCall, fCallF, fCons, fNil, fName, fC, fOp, fUn, fAndV, fOrV, fNotV, fAndT, fOrT, fNotT, fIf, fTup_eq, fLst_eq, fNew_eq, chkL0, chkL1, chkL2, chkL3, chkL4, chkT1, chkT2, chkT3, chkN0, chkN1, fL, fLcL, fSeq, fStar, fIt, fStrs, fSl, fPart, sFor, sAsgT, bnd_ret, ofO_some, al, cl, Sl.al, Sl.cl, startS, wipeD, hSet, gSet, List.map_cons, List.map_nil, List.length_cons, List.length_nil, List.cons_append, List.nil_append, List.getElem?_cons_zero, List.getElem?_cons_succ, List.replicate, List.set_cons_zero, List.set_cons_succ, eqD_int, eqD_str, neD_int, eqD_bl, neD_bl, geD_int, gtD_int, ltD_int, addD_int, subD_int, Nat.reduceSub, Nat.reduceAdd, Nat.reduceLT, decide_true, decide_false, if_true, if_false, Bool.false_eq_true, Option.some.injEq, reduceIte, and_self, true_and, and_true, g]
theorem form_go {n : Nat} {N : D} {k most : Nat} {ns : List Str} (hk : k ≤ 10) (hm : most ≤ 1000)
    (ih : ∀ left, 1 ≤ left → left ≤ 1000 → Ok (bud k) (formN n [.strm, N, .int (k : Nat), .int (left : Nat)]) (fun r => ∃ f, GoodF ns k left f r)) :
    ∀ (js : List D) (ps : List Fm) (ds : List D) (x : Sl), IsFs ps ds → WFs ps → deps ps ≤ k → (namess ps).length ≤ most → (∀ s ∈ namess ps, s ∈ ns) → ds.length + js.length ≤ 1000 →
      (1 ≤ (namess ps).length ∨ (1 ≤ js.length ∧ 1 ≤ most)) →
      Ok (js.length * bud k) (forGo (hSet 6) (FB n) js [.val .strm, .val N, .val (.int ((k + 1 : Nat) : Int)), .val (.int (most : Nat)), .own ds, .val (.int ((most - (namess ps).length : Nat) : Int)), x])
        (fun r => ∃ ps' ds' a b, r = .nx [.val .strm, .val N, .val (.int ((k + 1 : Nat) : Int)), .val (.int (most : Nat)), .own ds', a, b] ∧ IsFs ps' ds' ∧ WFs ps' ∧ deps ps' ≤ k ∧ (namess ps').length ≤ most ∧ (∀ s ∈ namess ps', s ∈ ns) ∧ 1 ≤ (namess ps').length)
  | [], ps, ds, x, h1, h2, h3, h4, h5, _, h7 => by
    have h7' : 1 ≤ (namess ps).length := by
      rcases h7 with h | h
      · exact h
      · exact absurd h.1 (by simp)
    exact Ok.ret _ ⟨ps, ds, _, _, rfl, h1, h2, h3, h4, h5, h7'⟩
  | j :: js, ps, ds, x, h1, h2, h3, h4, h5, h6, h7 => by
    have h6' : ds.length + (js.length + 1) ≤ 1000 := h6
    rw [forGo_step (env1 := [.val .strm, .val N, .val (.int ((k + 1 : Nat) : Int)), .val (.int (most : Nat)), .own ds, .val (.int ((most - (namess ps).length : Nat) : Int)), .val j]) rfl]
    by_cases hl : 0 < most - (namess ps).length
    · refine ((fb_at (ns := ns) (ds := ds) (most := most) (x := .val j) hl (by omega) hk (by omega) (ih _ hl (by omega))).bnd (k := js.length * bud k) fun r hr => ?_).mono (by rw [List.length_cons, Nat.succ_mul]; omega) fun _ q => q
      obtain ⟨f, e, hf, rfl⟩ := hr
      have hn : (namess (ps ++ [f])).length = (namess ps).length + (names f).length := by rw [namess_append, namess_one, List.length_append]
      have hh := hf.hi
      have hlo := hf.lo
      have hdp := hf.dp
      have c : most - (namess ps).length - (names f).length = most - (namess (ps ++ [f])).length := by omega
      rw [c]
      refine form_go hk hm ih js (ps ++ [f]) (ds ++ [e]) (.val j) (isFs_snoc h1 hf.is) (wfs_append _ _ h2 ?_) ?_ (by omega) ?_ (by rw [List.length_append]; show ds.length + 1 + _ ≤ _; omega) (.inl (by omega))
      · simp only [WFs]
        exact ⟨hf.wf, trivial⟩
      · rw [deps_append, deps_one]
        omega
      · intro s hs
        rw [namess_append, namess_one] at hs
        rcases List.mem_append.mp hs with hs | hs
        · exact h5 s hs
        · exact hf.of_ s hs
    · have c : most - (namess ps).length = 0 := by omega
      rw [c]
      have hp : 1 ≤ (namess ps).length := by
        rcases h7 with h | h
        · exact h
        · have := h.2
          omega
      have g := form_go hk hm ih js ps ds (.val j) h1 h2 h3 h4 h5 (by omega) (.inl hp)
      rw [c] at g
      show Ok _ (VS.bnd (FB n [_, _, _, _, _, .val (.int 0), _]) _) _
      rw [fb_skip, bnd_ret]
      exact g.mono (by rw [List.length_cons, Nat.succ_mul]; omega) fun _ q => q
theorem kw_of {r : D} (h : r ∈ [D.str (Str.ofString "any"), .str (Str.ofString "all"), .str (Str.ofString "all")]) : ∃ b, r = .str (kw b) := by
  rcases List.mem_cons.mp h with rfl | h
  · exact ⟨false, rfl⟩
  · rcases List.mem_cons.mp h with rfl | h
    · exact ⟨true, rfl⟩
    · rcases List.mem_cons.mp h with rfl | h
      · exact ⟨true, rfl⟩
      · cases h
theorem rng1_at (j : Int) (h0 : 0 ≤ j) (h : j ≤ 1000) : ∃ js : List D, rng1 [.int j] = some js ∧ js.length = j.toNat := by
  obtain ⟨k, rfl⟩ := Int.eq_ofNat_of_zero_le h0
  exact ⟨_, rngN k (by omega), by simp⟩
theorem form_name {ns : List Str} {k most : Nat} {r : D} (hm : 1 ≤ most) (hv : ∀ s ∈ ns, valid s) (h : r ∈ ns.map D.str) : ∃ f, GoodF ns k most f (.tup [.str (Str.ofString "name"), r]) := by
  obtain ⟨s, hs, rfl⟩ := List.mem_map.mp h
  exact ⟨.name s, rfl, by simp only [WF]; exact hv s hs, by simp [dep], by simp [names], by simpa [names] using hm, by simpa [names] using hs⟩
theorem pk_name {ns : List Str} {k most : Nat} {m : D → M D} (hne : 0 < ns.length) (hl : ns.length ≤ 1000) (hm : 1 ≤ most) (hv : ∀ s ∈ ns, valid s)
    (e : ∀ r, m r = ret (.tup [.str (Str.ofString "name"), r])) : Ok 1 (VS.bnd (F__law_pick [.strm, .lst (ns.map D.str)]) m) (fun r => ∃ f, GoodF ns k most f r) := by
  refine ((p_pick (xs := ns.map D.str) (by rw [List.length_map]; exact hne) (by rw [List.length_map]; omega)).bnd (k := 0) fun r hr => ?_).mono (Nat.le_refl _) fun _ q => q
  rw [e]
  exact Ok.ret 0 (form_name hm hv hr)
theorem bud2 : ∀ k, 2 ≤ bud k
  | 0 => Nat.le_refl _
  | k + 1 => by show 2 ≤ 4 + 3 * bud k; omega
theorem p_form {ns : List Str} (hne : 0 < ns.length) (hl : ns.length ≤ 1000) (hv : ∀ s ∈ ns, valid s) : ∀ (n k most : Nat), k < n → k ≤ 10 → 1 ≤ most → most ≤ 1000 →
    Ok (bud k) (formN n [.strm, .lst (ns.map D.str), .int (k : Nat), .int (most : Nat)]) (fun r => ∃ f, GoodF ns k most f r)
  | 0, k, most, h, _, _, _ => absurd h (Nat.not_lt_zero _)
  | n + 1, 0, most, _, _, h1, _ => by
    show Ok _ (fDef 7 (B__law_formula (formN n)) _) _
    unfold B__law_formula
    have g : decide (((0 : Nat) : Int) = 0) = true := by decide
    simp only [fDef, fDefF, ofF, sSeq, sIf, sNext, sDrop, sRet, sRetF, sRetO, sSetC, sSetA, sPar, cV, cO, fTst, fBlt, fCall, fCallF, fCons, fNil, fName, fC, fOp, fUn, fAndV, fOrV, fNotV, fAndT, fOrT, fNotT, fIf, fTup_eq, fLst_eq, fNew_eq, chkL0, chkL1, chkL2, chkL3, chkL4, chkT1, chkT2, chkT3, chkN0, chkN1, fL, fLcL, fSeq, fStar, fIt, fStrs, fSl, fPart, sFor, sAsgT, bnd_ret, ofO_some, al, cl, Sl.al, Sl.cl, startS, wipeD, hSet, gSet, List.map_cons, List.map_nil, List.length_cons, List.length_nil, List.cons_append, List.nil_append, List.getElem?_cons_zero, List.getElem?_cons_succ, List.replicate, List.set_cons_zero, List.set_cons_succ, eqD_int, eqD_str, neD_int, eqD_bl, neD_bl, geD_int, gtD_int, ltD_int, addD_int, subD_int, Nat.reduceSub, Nat.reduceAdd, Nat.reduceLT, decide_true, decide_false, if_true, if_false, Bool.false_eq_true, Option.some.injEq, reduceIte, and_self, true_and, and_true, g, VS.bnd_assoc]
    exact (pk_name hne hl h1 hv fun r => by simp only [fDef, fDefF, ofF, sSeq, sIf, sNext, sDrop, sRet, sRetF, sRetO, sSetC, sSetA, sPar, cV, cO, fTst, fBlt, fCall, fCallF, fCons, fNil, fName, fC, fOp, fUn, fAndV, fOrV, fNotV, fAndT, fOrT, fNotT, fIf, fTup_eq, fLst_eq, fNew_eq, chkL0, chkL1, chkL2, chkL3, chkL4, chkT1, chkT2, chkT3, chkN0, chkN1, fL, fLcL, fSeq, fStar, fIt, fStrs, fSl, fPart, sFor, sAsgT, bnd_ret, ofO_some, al, cl, Sl.al, Sl.cl, startS, wipeD, hSet, gSet, List.map_cons, List.map_nil, List.length_cons, List.length_nil, List.cons_append, List.nil_append, List.getElem?_cons_zero, List.getElem?_cons_succ, List.replicate, List.set_cons_zero, List.set_cons_succ, eqD_int, eqD_str, neD_int, eqD_bl, neD_bl, geD_int, gtD_int, ltD_int, addD_int, subD_int, Nat.reduceSub, Nat.reduceAdd, Nat.reduceLT, decide_true, decide_false, if_true, if_false, Bool.false_eq_true, Option.some.injEq, reduceIte, and_self, true_and, and_true]).mono (by decide) fun _ q => q
  | n + 1, k + 1, most, h, hk, h1, h2 => by
    show Ok _ (fDef 7 (B__law_formula (formN n)) _) _
    have hb := bud2 k
    have g : decide (((k + 1 : Nat) : Int) = 0) = false := by
      rw [decide_eq_false_iff_not]
      omega
    by_cases hm : most < 2
    · have g2 : decide (((most : Nat) : Int) < 2) = true := by
        rw [decide_eq_true_eq]
        omega
      unfold B__law_formula
      simp only [fDef, fDefF, ofF, sSeq, sIf, sNext, sDrop, sRet, sRetF, sRetO, sSetC, sSetA, sPar, cV, cO, fTst, fBlt, fCall, fCallF, fCons, fNil, fName, fC, fOp, fUn, fAndV, fOrV, fNotV, fAndT, fOrT, fNotT, fIf, fTup_eq, fLst_eq, fNew_eq, chkL0, chkL1, chkL2, chkL3, chkL4, chkT1, chkT2, chkT3, chkN0, chkN1, fL, fLcL, fSeq, fStar, fIt, fStrs, fSl, fPart, sFor, sAsgT, bnd_ret, ofO_some, al, cl, Sl.al, Sl.cl, startS, wipeD, hSet, gSet, List.map_cons, List.map_nil, List.length_cons, List.length_nil, List.cons_append, List.nil_append, List.getElem?_cons_zero, List.getElem?_cons_succ, List.replicate, List.set_cons_zero, List.set_cons_succ, eqD_int, eqD_str, neD_int, eqD_bl, neD_bl, geD_int, gtD_int, ltD_int, addD_int, subD_int, Nat.reduceSub, Nat.reduceAdd, Nat.reduceLT, decide_true, decide_false, if_true, if_false, Bool.false_eq_true, Option.some.injEq, reduceIte, and_self, true_and, and_true, g, g2, VS.bnd_assoc]
      exact (pk_name hne hl h1 hv fun r => by simp only [fDef, fDefF, ofF, sSeq, sIf, sNext, sDrop, sRet, sRetF, sRetO, sSetC, sSetA, sPar, cV, cO, fTst, fBlt, fCall, fCallF, fCons, fNil, fName, fC, fOp, fUn, fAndV, fOrV, fNotV, fAndT, fOrT, fNotT, fIf, fTup_eq, fLst_eq, fNew_eq, chkL0, chkL1, chkL2, chkL3, chkL4, chkT1, chkT2, chkT3, chkN0, chkN1, fL, fLcL, fSeq, fStar, fIt, fStrs, fSl, fPart, sFor, sAsgT, bnd_ret, ofO_some, al, cl, Sl.al, Sl.cl, startS, wipeD, hSet, gSet, List.map_cons, List.map_nil, List.length_cons, List.length_nil, List.cons_append, List.nil_append, List.getElem?_cons_zero, List.getElem?_cons_succ, List.replicate, List.set_cons_zero, List.set_cons_succ, eqD_int, eqD_str, neD_int, eqD_bl, neD_bl, geD_int, gtD_int, ltD_int, addD_int, subD_int, Nat.reduceSub, Nat.reduceAdd, Nat.reduceLT, decide_true, decide_false, if_true, if_false, Bool.false_eq_true, Option.some.injEq, reduceIte, and_self, true_and, and_true]).mono (by show 1 ≤ 4 + 3 * bud k; omega) fun _ q => q
    · have g2 : decide (((most : Nat) : Int) < 2) = false := by
        rw [decide_eq_false_iff_not]
        omega
      unfold B__law_formula
      simp only [fDef, fDefF, ofF, sSeq, sIf, sNext, sDrop, sRet, sRetF, sRetO, sSetC, sSetA, sPar, cV, cO, fTst, fBlt, fCall, fCallF, fCons, fNil, fName, fC, fOp, fUn, fAndV, fOrV, fNotV, fAndT, fOrT, fNotT, fIf, fTup_eq, fLst_eq, fNew_eq, chkL0, chkL1, chkL2, chkL3, chkL4, chkT1, chkT2, chkT3, chkN0, chkN1, fL, fLcL, fSeq, fStar, fIt, fStrs, fSl, fPart, sFor, sAsgT, bnd_ret, ofO_some, al, cl, Sl.al, Sl.cl, startS, wipeD, hSet, gSet, List.map_cons, List.map_nil, List.length_cons, List.length_nil, List.cons_append, List.nil_append, List.getElem?_cons_zero, List.getElem?_cons_succ, List.replicate, List.set_cons_zero, List.set_cons_succ, eqD_int, eqD_str, neD_int, eqD_bl, neD_bl, geD_int, gtD_int, ltD_int, addD_int, subD_int, Nat.reduceSub, Nat.reduceAdd, Nat.reduceLT, decide_true, decide_false, if_true, if_false, Bool.false_eq_true, Option.some.injEq, reduceIte, and_self, true_and, and_true, g, g2, VS.bnd_assoc]
      refine ((p_draw (n := 4) (by omega) (by omega)).bnd (k := 3 + 3 * bud k) fun r hr => ?_).mono (by show _ ≤ 4 + 3 * bud k; omega) fun _ q => q
      obtain ⟨d, rfl, d0, d1⟩ := hr
      by_cases hd : d = 0
      · have g3 : decide (d = 0) = true := by simpa using hd
        simp only [fDef, fDefF, ofF, sSeq, sIf, sNext, sDrop, sRet, sRetF, sRetO, sSetC, sSetA, sPar, cV, cO, fTst, fBlt, fCall, fCallF, fCons, fNil, fName, fC, fOp, fUn, fAndV, fOrV, fNotV, fAndT, fOrT, fNotT, fIf, fTup_eq, fLst_eq, fNew_eq, chkL0, chkL1, chkL2, chkL3, chkL4, chkT1, chkT2, chkT3, chkN0, chkN1, fL, fLcL, fSeq, fStar, fIt, fStrs, fSl, fPart, sFor, sAsgT, bnd_ret, ofO_some, al, cl, Sl.al, Sl.cl, startS, wipeD, hSet, gSet, List.map_cons, List.map_nil, List.length_cons, List.length_nil, List.cons_append, List.nil_append, List.getElem?_cons_zero, List.getElem?_cons_succ, List.replicate, List.set_cons_zero, List.set_cons_succ, eqD_int, eqD_str, neD_int, eqD_bl, neD_bl, geD_int, gtD_int, ltD_int, addD_int, subD_int, Nat.reduceSub, Nat.reduceAdd, Nat.reduceLT, decide_true, decide_false, if_true, if_false, Bool.false_eq_true, Option.some.injEq, reduceIte, and_self, true_and, and_true, g3, VS.bnd_assoc]
        exact (pk_name hne hl h1 hv fun r => by simp only [fDef, fDefF, ofF, sSeq, sIf, sNext, sDrop, sRet, sRetF, sRetO, sSetC, sSetA, sPar, cV, cO, fTst, fBlt, fCall, fCallF, fCons, fNil, fName, fC, fOp, fUn, fAndV, fOrV, fNotV, fAndT, fOrT, fNotT, fIf, fTup_eq, fLst_eq, fNew_eq, chkL0, chkL1, chkL2, chkL3, chkL4, chkT1, chkT2, chkT3, chkN0, chkN1, fL, fLcL, fSeq, fStar, fIt, fStrs, fSl, fPart, sFor, sAsgT, bnd_ret, ofO_some, al, cl, Sl.al, Sl.cl, startS, wipeD, hSet, gSet, List.map_cons, List.map_nil, List.length_cons, List.length_nil, List.cons_append, List.nil_append, List.getElem?_cons_zero, List.getElem?_cons_succ, List.replicate, List.set_cons_zero, List.set_cons_succ, eqD_int, eqD_str, neD_int, eqD_bl, neD_bl, geD_int, gtD_int, ltD_int, addD_int, subD_int, Nat.reduceSub, Nat.reduceAdd, Nat.reduceLT, decide_true, decide_false, if_true, if_false, Bool.false_eq_true, Option.some.injEq, reduceIte, and_self, true_and, and_true]).mono (by omega) fun _ q => q
      · have g3 : decide (d = 0) = false := by simpa using hd
        simp only [fDef, fDefF, ofF, sSeq, sIf, sNext, sDrop, sRet, sRetF, sRetO, sSetC, sSetA, sPar, cV, cO, fTst, fBlt, fCall, fCallF, fCons, fNil, fName, fC, fOp, fUn, fAndV, fOrV, fNotV, fAndT, fOrT, fNotT, fIf, fTup_eq, fLst_eq, fNew_eq, chkL0, chkL1, chkL2, chkL3, chkL4, chkT1, chkT2, chkT3, chkN0, chkN1, fL, fLcL, fSeq, fStar, fIt, fStrs, fSl, fPart, sFor, sAsgT, bnd_ret, ofO_some, al, cl, Sl.al, Sl.cl, startS, wipeD, hSet, gSet, List.map_cons, List.map_nil, List.length_cons, List.length_nil, List.cons_append, List.nil_append, List.getElem?_cons_zero, List.getElem?_cons_succ, List.replicate, List.set_cons_zero, List.set_cons_succ, eqD_int, eqD_str, neD_int, eqD_bl, neD_bl, geD_int, gtD_int, ltD_int, addD_int, subD_int, Nat.reduceSub, Nat.reduceAdd, Nat.reduceLT, decide_true, decide_false, if_true, if_false, Bool.false_eq_true, Option.some.injEq, reduceIte, and_self, true_and, and_true, g3, VS.bnd_assoc]
        refine ((p_draw (n := 3) (by omega) (by omega)).bnd (k := 1 + 3 * bud k) fun r hr => ?_).mono (by omega) fun _ q => q
        obtain ⟨e, rfl, e0, e1⟩ := hr
        obtain ⟨js, ej, lj⟩ := rng1_at (1 + e) (by omega) (by omega)
        simp only [fDef, fDefF, ofF, sSeq, sIf, sNext, sDrop, sRet, sRetF, sRetO, sSetC, sSetA, sPar, cV, cO, fTst, fBlt, fCall, fCallF, fCons, fNil, fName, fC, fOp, fUn, fAndV, fOrV, fNotV, fAndT, fOrT, fNotT, fIf, fTup_eq, fLst_eq, fNew_eq, chkL0, chkL1, chkL2, chkL3, chkL4, chkT1, chkT2, chkT3, chkN0, chkN1, fL, fLcL, fSeq, fStar, fIt, fStrs, fSl, fPart, sFor, sAsgT, bnd_ret, ofO_some, al, cl, Sl.al, Sl.cl, startS, wipeD, hSet, gSet, List.map_cons, List.map_nil, List.length_cons, List.length_nil, List.cons_append, List.nil_append, List.getElem?_cons_zero, List.getElem?_cons_succ, List.replicate, List.set_cons_zero, List.set_cons_succ, eqD_int, eqD_str, neD_int, eqD_bl, neD_bl, geD_int, gtD_int, ltD_int, addD_int, subD_int, Nat.reduceSub, Nat.reduceAdd, Nat.reduceLT, decide_true, decide_false, if_true, if_false, Bool.false_eq_true, Option.some.injEq, reduceIte, and_self, true_and, and_true, ej, VS.bnd_assoc]
        have hj1 : 1 ≤ js.length := by omega
        have hj3 : js.length ≤ 3 := by omega
        have go := form_go (n := n) (N := .lst (ns.map D.str)) (k := k) (most := most) (ns := ns) (by omega) h2 (fun left a b => p_form hne hl hv n k left (by omega) (by omega) a b) js [] [] .un rfl (by simp [WFs]) (by simp [deps]) (by simp [namess]) (by simp [namess]) (by show 0 + _ ≤ _; omega) (.inr ⟨hj1, h1⟩)
        refine (go.bnd (k := 1) fun r hr => ?_).mono (by have : js.length * bud k ≤ 3 * bud k := Nat.mul_le_mul_right _ hj3; omega) fun _ q => q
        obtain ⟨ps, ds, a, b, rfl, i1, i2, i3, i4, i5, i6⟩ := hr
        simp only [fDef, fDefF, ofF, sSeq, sIf, sNext, sDrop, sRet, sRetF, sRetO, sSetC, sSetA, sPar, cV, cO, fTst, fBlt, fCall, fCallF, fCons, fNil, fName, fC, fOp, fUn, fAndV, fOrV, fNotV, fAndT, fOrT, fNotT, fIf, fTup_eq, fLst_eq, fNew_eq, chkL0, chkL1, chkL2, chkL3, chkL4, chkT1, chkT2, chkT3, chkN0, chkN1, fL, fLcL, fSeq, fStar, fIt, fStrs, fSl, fPart, sFor, sAsgT, bnd_ret, ofO_some, al, cl, Sl.al, Sl.cl, startS, wipeD, hSet, gSet, List.map_cons, List.map_nil, List.length_cons, List.length_nil, List.cons_append, List.nil_append, List.getElem?_cons_zero, List.getElem?_cons_succ, List.replicate, List.set_cons_zero, List.set_cons_succ, eqD_int, eqD_str, neD_int, eqD_bl, neD_bl, geD_int, gtD_int, ltD_int, addD_int, subD_int, Nat.reduceSub, Nat.reduceAdd, Nat.reduceLT, decide_true, decide_false, if_true, if_false, Bool.false_eq_true, Option.some.injEq, reduceIte, and_self, true_and, and_true, VS.bnd_assoc]
        refine ((p_pick (xs := [.str (Str.ofString "any"), .str (Str.ofString "all"), .str (Str.ofString "all")]) (by decide) (by decide)).bnd (k := 0) fun r hr => ?_).mono (Nat.le_refl _) fun _ q => q
        obtain ⟨b, rfl⟩ := kw_of hr
        try simp only [fDef, fDefF, ofF, sSeq, sIf, sNext, sDrop, sRet, sRetF, sRetO, sSetC, sSetA, sPar, cV, cO, fTst, fBlt, fCall, fCallF, fCons, fNil, fName, fC, fOp, fUn, fAndV, fOrV, fNotV, fAndT, fOrT, fNotT, fIf, fTup_eq, fLst_eq, fNew_eq, chkL0, chkL1, chkL2, chkL3, chkL4, chkT1, chkT2, chkT3, chkN0, chkN1, fL, fLcL, fSeq, fStar, fIt, fStrs, fSl, fPart, sFor, sAsgT, bnd_ret, ofO_some, al, cl, Sl.al, Sl.cl, startS, wipeD, hSet, gSet, List.map_cons, List.map_nil, List.length_cons, List.length_nil, List.cons_append, List.nil_append, List.getElem?_cons_zero, List.getElem?_cons_succ, List.replicate, List.set_cons_zero, List.set_cons_succ, eqD_int, eqD_str, neD_int, eqD_bl, neD_bl, geD_int, gtD_int, ltD_int, addD_int, subD_int, Nat.reduceSub, Nat.reduceAdd, Nat.reduceLT, decide_true, decide_false, if_true, if_false, Bool.false_eq_true, Option.some.injEq, reduceIte, and_self, true_and, and_true]
        refine Ok.ret 0 ⟨.gate b ps, ⟨.lst ds, ds, rfl, rfl, i1⟩, ?_, ?_, ?_, ?_, ?_⟩
        · simp only [WF]
          refine ⟨fun e => ?_, i2⟩
          rw [e] at i6
          simp [namess] at i6
        · rw [dep_gate]
          omega
        · rw [names_gate]
          exact i6
        · rw [names_gate]
          exact i4
        · rw [names_gate]
          exact i5
theorem L_formula {ns : List Str} (hne : 0 < ns.length) (hl : ns.length ≤ 1000) (hv : ∀ s ∈ ns, valid s) (k most : Nat) (h0 : k ≤ 10) (h1 : 1 ≤ most) (h2 : most ≤ 1000) :
    Ok (bud k) (F__law_formula [.strm, .lst (ns.map D.str), .int (k : Nat), .int (most : Nat)]) (fun r => ∃ f, GoodF ns k most f r) := p_form hne hl hv 20 k most (by omega) h0 h1 h2
end K75
namespace K75
open PySem PySem.Spec PyProof.Rows L2 VS
/-- a name: one to five letters -/
def word (s : Str) : Prop := 0 < s.length ∧ s.length ≤ 5 ∧ ∀ c ∈ s.cps.toList, letter c
theorem word.valid {s : Str} (h : word s) : valid s := ⟨h.1, by have := h.2.1; omega, h.2.2⟩
theorem len_cps (s : Str) : s.cps.toList.length = s.length := by simp [PySem.Str.length]
theorem cps_append (a b : Str) : (a ++ b).cps.toList = a.cps.toList ++ b.cps.toList := by
  show (a.cps ++ b.cps).toList = _
  rw [Array.toList_append]
theorem len_append (a b : Str) : (a ++ b).length = a.length + b.length := by rw [← len_cps, cps_append, List.length_append, len_cps, len_cps]
def one1 (cs : List Nat) : List Str := cs.map fun c => ⟨#[c]⟩
theorem join_cps : ∀ cs : List Nat, (PySem.Str.join (Str.ofString "") (one1 cs)).cps.toList = cs
  | [] => rfl
  | [c] => rfl
  | c :: e :: r => by
    have ih := join_cps (e :: r)
    show ((⟨#[c]⟩ ++ Str.ofString "") ++ PySem.Str.join (Str.ofString "") (one1 (e :: r)) : Str).cps.toList = _
    rw [cps_append, cps_append, ih]
    rfl
theorem strs_one : ∀ cs : List Str, strs' (cs.map D.str) = some cs
  | [] => rfl
  | c :: r => by
    show (strs' (r.map D.str)).map (c :: ·) = _
    rw [strs_one r]
    rfl
theorem sum_one : ∀ cs : List Nat, ((one1 cs).map (·.length)).sum = cs.length
  | [] => rfl
  | c :: r => by
    show (1 + ((one1 r).map (·.length)).sum) = _
    rw [sum_one r, List.length_cons]
    omega
theorem txt_join (a : Str) (ys : List Str) : Txt.join a ys = PySem.Str.join a ys := StrLaws.glued_eq_join a ys
theorem join_ok {cs : List Nat} (h0 : 0 < cs.length) (h1 : cs.length ≤ 3) (hl : ∀ c ∈ cs, letter c) : ∃ s, oJoin (.str (Str.ofString "")) (.lst ((one1 cs).map D.str)) = some (.str s) ∧ word s := by
  have e : (Str.ofString "").length = 0 := rfl
  have q : oJoin (.str (Str.ofString "")) (.lst ((one1 cs).map D.str)) = some (.str (PySem.Str.join (Str.ofString "") (one1 cs))) := by
    show ((strs' ((one1 cs).map D.str)).bind fun ys => if (ys.map (·.length)).sum + ys.length * (Str.ofString "").length ≤ 16777216 then some (D.str (Txt.join (Str.ofString "") ys)) else none) = _
    rw [strs_one]
    show (if ((one1 cs).map (·.length)).sum + (one1 cs).length * (Str.ofString "").length ≤ 16777216 then some (D.str (Txt.join (Str.ofString "") (one1 cs))) else none) = _
    rw [sum_one, e, if_pos (by omega), txt_join]
  refine ⟨_, q, ?_, ?_, ?_⟩
  · rw [← len_cps, join_cps]
    exact h0
  · rw [← len_cps, join_cps]
    omega
  · rw [join_cps]
    exact hl
theorem two_one {js zs : List D} (h : zs.length = js.length) (hp : ∀ (i : Nat) (d z : D), js[i]? = some d → zs[i]? = some z → ∃ c, z = .str ⟨#[c]⟩ ∧ letter c) : ∃ cs : List Nat, zs = (one1 cs).map D.str ∧ cs.length = js.length ∧ ∀ c ∈ cs, letter c := by
  induction zs generalizing js with
  | nil => exact ⟨[], rfl, h, fun c hc => by cases hc⟩
  | cons z zs ih =>
    cases js with
    | nil => cases h
    | cons j js =>
      obtain ⟨c, rfl, hc⟩ := hp 0 j z rfl rfl
      obtain ⟨cs, rfl, h2, h3⟩ := ih (js := js) (by simpa using h) fun i d z hd hz => hp (i + 1) d z hd hz
      refine ⟨c :: cs, rfl, by rw [List.length_cons, List.length_cons, h2], fun x hx => ?_⟩
      rcases List.mem_cons.mp hx with rfl | hx
      · exact hc
      · exact h3 x hx
theorem three_in {r : D} (h : r ∈ [D.int 1, .int 1, .int 3]) : ∃ d : Int, r = .int d ∧ 0 < d ∧ d ≤ 3 := by
  rcases List.mem_cons.mp h with rfl | h
  · exact ⟨1, rfl, by decide, by decide⟩
  · rcases List.mem_cons.mp h with rfl | h
    · exact ⟨1, rfl, by decide, by decide⟩
    · rcases List.mem_cons.mp h with rfl | h
      · exact ⟨3, rfl, by decide, by decide⟩
      · cases h
theorem add_str {a b : Str} (h : a.length + b.length ≤ 1000) : oAdd (.str a) (.str b) = some (.str (a ++ b)) := by
  show (if a.length + b.length ≤ sizeLine then some (D.str (a ++ b)) else none) = _
  rw [if_pos (sz (by omega))]
theorem cut3 {s : Str} (h : word s) : ∃ t : Str, oSl (.str s) none (some 3) = some (.str t) ∧ 0 < t.length ∧ t.length ≤ 3 ∧ ∀ c ∈ t.cps.toList, letter c := by
  refine ⟨cutS s none (some 3), ?_, ?_⟩
  · show (if s.length ≤ sizeLine then some (D.str (cutS s none (some 3))) else none) = _
    rw [if_pos (sz (by have := h.2.1; omega))]
  · have e : (cutS s none (some 3)).cps.toList = s.cps.toList.take 3 := by
      show ((s.cps.toList.drop (HT.sIx s.length 0 none)).take (HT.sIx s.length s.length (some ((3 : Nat) : Int)) - HT.sIx s.length 0 none)).toArray.toList = _
      rw [HT.sIx_none, HT.sIx_nat, List.drop_zero, Nat.sub_zero, List.toList_toArray, ← len_cps, List.take_eq_take_iff]
      omega
    have l := len_cps (cutS s none (some 3))
    rw [e, List.length_take, len_cps] at l
    have := h.1
    refine ⟨by omega, by omega, fun c hc => ?_⟩
    rw [e] at hc
    exact h.2.2 c (List.mem_of_mem_take hc)
end K75
namespace K75
open PySem PySem.Spec PyProof.Rows L2 VS
theorem scs_strs (ns : List Str) : (D.lst (ns.map D.str)).seq = some (ns.map D.str) := rfl
abbrev JB : SEnv → M Fl := sSetC 5 (cV (fJoin (fC (.str (Str.ofString ""))) (fL (fLcL (fIt rng1 (fCons (fOp oAdd (fC (.int 1)) (fCall 2 F__law_draw (fCons (fName 0) (fCons (fCall 2 F__law_pick (fCons (fName 0) (fCons (fLst (fCons (fC (.int 1)) (fCons (fC (.int 1)) (fCons (fC (.int 3)) fNil)))) fNil))) fNil)))) fNil)) (gSet 7) fYes (fCall 2 F__law_pick (fCons (fName 0) (fCons (fName 3) fNil))) [7]))))
abbrev CB : SEnv → M Fl := sIf (fTst (fOp oIn (fName 5) (fName 2))) (sSetC 5 (cV (fOp oAdd (fOp oAdd (fSl (fName 5) (fun _ => ret none) (fPart (fC (.int 3)))) (fOp oIx (fName 3) (fOp oFdiv (fName 6) (fC (.int 26))))) (fOp oIx (fName 3) (fOp oMod (fName 6) (fC (.int 26))))))) sNext
abbrev XB : SEnv → M Fl := sForA (fIt rng1 (fCons (fOp oAdd (fBlt bLen (fCons (fName 2) fNil)) (fC (.int 1))) fNil)) (hSet 6) CB
abbrev NB : SEnv → M Fl := sSeq JB (sSeq XB (sMut 2 stAppend (fCons (fName 5) fNil)))
theorem pickJ : Ok 1 (F__law_pick [.strm, .lst [.int 1, .int 1, .int 3]]) (fun r => ∃ d : Int, r = .int d ∧ 0 < d ∧ d ≤ 3) :=
  (p_pick (xs := [.int 1, .int 1, .int 3]) (by decide) (by decide)).mono (Nat.le_refl _) fun _ h => three_in h
theorem pickLc {p q r t u : Option D} {js : List D} (hl : js.length ≤ 3) : Ok js.length (lcGo (gSet 7) fYes (fCall 2 F__law_pick (fCons (fName 0) (fCons (fName 3) fNil))) [some .strm, p, q, some (.str abc), r, t, u, none] js [])
    (fun zs => ∃ cs : List Nat, zs = (one1 cs).map D.str ∧ cs.length = js.length ∧ ∀ c ∈ cs, letter c) := by
  have h : ∀ d ∈ js, ∃ env', gSet 7 d [some D.strm, p, q, some (D.str abc), r, t, u, none] = some env' ∧ Ok 1 ((fCall 2 F__law_pick (fCons (fName 0) (fCons (fName 3) fNil))) env') (fun z => ∃ c, z = .str ⟨#[c]⟩ ∧ letter c) := by
    intro d _
    refine ⟨[some .strm, p, q, some (.str abc), r, t, u, some d], rfl, ?_⟩
    simp only [fDef, fDefF, ofF, sSeq, sIf, sNext, sDrop, sRet, sRetF, sRetO, sSetC, sSetA, sPar, cV, cO, fTst, fBlt, fCall, fCallF, fCons, fNil, fName, fC, fOp, fUn, fAndV, fOrV, fNotV, fAndT, fOrT, fNotT, fIf, fTup_eq, fLst_eq, fNew_eq, chkL0, chkL1, chkL2, chkL3, chkL4, chkT1, chkT2, chkT3, chkN0, chkN1, fL, fLcL, fSeq, fStar, fIt, fStrs, fSl, fPart, sFor, sAsgT, bnd_ret, ofO_some, al, cl, Sl.al, Sl.cl, startS, wipeD, hSet, gSet, List.map_cons, List.map_nil, List.length_cons, List.length_nil, List.cons_append, List.nil_append, List.getElem?_cons_zero, List.getElem?_cons_succ, List.replicate, List.set_cons_zero, List.set_cons_succ, eqD_int, eqD_str, neD_int, eqD_bl, neD_bl, geD_int, gtD_int, ltD_int, addD_int, subD_int, Nat.reduceSub, Nat.reduceAdd, Nat.reduceLT, decide_true, decide_false, if_true, if_false, Bool.false_eq_true, Option.some.injEq, reduceIte, and_self, true_and, and_true]
    exact p_pickS
  refine (Ok.lc (P := fun _ z => ∃ c, z = .str ⟨#[c]⟩ ∧ letter c) js [] h (by have := sz (n := js.length) (by omega); simpa using this)).mono (by omega) fun ys hy => ?_
  obtain ⟨zs, rfl, h1, h2⟩ := hy
  exact two_one h1 h2
theorem jb {a b f e x y z w : Sl} : Ok 5 (JB [.val .strm, b, f, .val (.str abc), e, x, y, z]) (fun r => ∃ s, word s ∧ r = .nx [.val .strm, b, f, .val (.str abc), e, .val (.str s), y, z]) := by
  unfold JB
  simp only [fDef, fDefF, ofF, sSeq, sIf, sNext, sDrop, sRet, sRetF, sRetO, sSetC, sSetA, sPar, cV, cO, fTst, fBlt, fCall, fCallF, fCons, fNil, fName, fC, fOp, fUn, fAndV, fOrV, fNotV, fAndT, fOrT, fNotT, fIf, fTup_eq, fLst_eq, fNew_eq, chkL0, chkL1, chkL2, chkL3, chkL4, chkT1, chkT2, chkT3, chkN0, chkN1, fL, fLcL, fSeq, fStar, fIt, fStrs, fSl, fPart, sFor, sAsgT, bnd_ret, ofO_some, al, cl, Sl.al, Sl.cl, startS, wipeD, hSet, gSet, List.map_cons, List.map_nil, List.length_cons, List.length_nil, List.cons_append, List.nil_append, List.getElem?_cons_zero, List.getElem?_cons_succ, List.replicate, List.set_cons_zero, List.set_cons_succ, eqD_int, eqD_str, neD_int, eqD_bl, neD_bl, geD_int, gtD_int, ltD_int, addD_int, subD_int, Nat.reduceSub, Nat.reduceAdd, Nat.reduceLT, decide_true, decide_false, if_true, if_false, Bool.false_eq_true, Option.some.injEq, reduceIte, and_self, true_and, and_true, fJoin, VS.bnd_assoc]
  refine (pickJ.bnd (k := 4) fun r hr => ?_).mono (by omega) fun _ q => q
  obtain ⟨d, rfl, d0, d1⟩ := hr
  try simp only [fDef, fDefF, ofF, sSeq, sIf, sNext, sDrop, sRet, sRetF, sRetO, sSetC, sSetA, sPar, cV, cO, fTst, fBlt, fCall, fCallF, fCons, fNil, fName, fC, fOp, fUn, fAndV, fOrV, fNotV, fAndT, fOrT, fNotT, fIf, fTup_eq, fLst_eq, fNew_eq, chkL0, chkL1, chkL2, chkL3, chkL4, chkT1, chkT2, chkT3, chkN0, chkN1, fL, fLcL, fSeq, fStar, fIt, fStrs, fSl, fPart, sFor, sAsgT, bnd_ret, ofO_some, al, cl, Sl.al, Sl.cl, startS, wipeD, hSet, gSet, List.map_cons, List.map_nil, List.length_cons, List.length_nil, List.cons_append, List.nil_append, List.getElem?_cons_zero, List.getElem?_cons_succ, List.replicate, List.set_cons_zero, List.set_cons_succ, eqD_int, eqD_str, neD_int, eqD_bl, neD_bl, geD_int, gtD_int, ltD_int, addD_int, subD_int, Nat.reduceSub, Nat.reduceAdd, Nat.reduceLT, decide_true, decide_false, if_true, if_false, Bool.false_eq_true, Option.some.injEq, reduceIte, and_self, true_and, and_true, VS.bnd_assoc]
  refine ((p_draw (n := d) d0 (by omega)).bnd (k := 3) fun r hr => ?_).mono (by omega) fun _ q => q
  obtain ⟨k, rfl, k0, k1⟩ := hr
  obtain ⟨js, ej, lj⟩ := rng1_at (1 + k) (by omega) (by omega)
  simp only [fDef, fDefF, ofF, sSeq, sIf, sNext, sDrop, sRet, sRetF, sRetO, sSetC, sSetA, sPar, cV, cO, fTst, fBlt, fCall, fCallF, fCons, fNil, fName, fC, fOp, fUn, fAndV, fOrV, fNotV, fAndT, fOrT, fNotT, fIf, fTup_eq, fLst_eq, fNew_eq, chkL0, chkL1, chkL2, chkL3, chkL4, chkT1, chkT2, chkT3, chkN0, chkN1, fL, fLcL, fSeq, fStar, fIt, fStrs, fSl, fPart, sFor, sAsgT, bnd_ret, ofO_some, al, cl, Sl.al, Sl.cl, startS, wipeD, hSet, gSet, List.map_cons, List.map_nil, List.length_cons, List.length_nil, List.cons_append, List.nil_append, List.getElem?_cons_zero, List.getElem?_cons_succ, List.replicate, List.set_cons_zero, List.set_cons_succ, eqD_int, eqD_str, neD_int, eqD_bl, neD_bl, geD_int, gtD_int, ltD_int, addD_int, subD_int, Nat.reduceSub, Nat.reduceAdd, Nat.reduceLT, decide_true, decide_false, if_true, if_false, Bool.false_eq_true, Option.some.injEq, reduceIte, and_self, true_and, and_true, ej, VS.bnd_assoc]
  have hl : js.length ≤ 3 := by omega
  refine ((pickLc hl).bnd (k := 0) fun r hr => ?_).mono (by omega) fun _ q => q
  obtain ⟨cs, rfl, c1, c2⟩ := hr
  obtain ⟨s, es, hs⟩ := join_ok (cs := cs) (by omega) (by omega) c2
  rw [es]
  try simp only [fDef, fDefF, ofF, sSeq, sIf, sNext, sDrop, sRet, sRetF, sRetO, sSetC, sSetA, sPar, cV, cO, fTst, fBlt, fCall, fCallF, fCons, fNil, fName, fC, fOp, fUn, fAndV, fOrV, fNotV, fAndT, fOrT, fNotT, fIf, fTup_eq, fLst_eq, fNew_eq, chkL0, chkL1, chkL2, chkL3, chkL4, chkT1, chkT2, chkT3, chkN0, chkN1, fL, fLcL, fSeq, fStar, fIt, fStrs, fSl, fPart, sFor, sAsgT, bnd_ret, ofO_some, al, cl, Sl.al, Sl.cl, startS, wipeD, hSet, gSet, List.map_cons, List.map_nil, List.length_cons, List.length_nil, List.cons_append, List.nil_append, List.getElem?_cons_zero, List.getElem?_cons_succ, List.replicate, List.set_cons_zero, List.set_cons_succ, eqD_int, eqD_str, neD_int, eqD_bl, neD_bl, geD_int, gtD_int, ltD_int, addD_int, subD_int, Nat.reduceSub, Nat.reduceAdd, Nat.reduceLT, decide_true, decide_false, if_true, if_false, Bool.false_eq_true, Option.some.injEq, reduceIte, and_self, true_and, and_true]
  exact Ok.ret 0 ⟨s, hs, rfl⟩
theorem fdiv26 {j : Int} (h0 : 0 ≤ j) (h1 : j < 26) : j.fdiv 26 = 0 := by
  rw [Int.fdiv_eq_ediv_of_nonneg _ (by decide)]
  omega
theorem cb {a b e : Sl} {found : List Str} {s : Str} {j : Int} {z : Sl} (hs : word s) (h0 : 0 ≤ j) (h1 : j < 26) (ob : ∀ u : Str, oIn (.str u) (.lst (found.map D.str)) = some (.bl (decide (u ∈ found)))) :
    ∃ t, word t ∧ CB [a, b, .own (found.map D.str), .val (.str abc), e, .val (.str s), .val (.int j), z] = ret (.nx [a, b, .own (found.map D.str), .val (.str abc), e, .val (.str t), .val (.int j), z]) := by
  unfold CB
  by_cases hm : s ∈ found
  · obtain ⟨t, et, t0, t1, t2⟩ := cut3 hs
    obtain ⟨c, ec, hc⟩ := ixS (d := 0) (by decide) (by decide)
    have md : oMod (.int j) (.int 26) = some (.int (j % 26)) := modD_int (by decide)
    have m2 : j % 26 = j := Int.emod_eq_of_lt h0 h1
    obtain ⟨c', ec', hc'⟩ := ixS (d := j) h0 h1
    have fd : oFdiv (.int j) (.int 26) = some (.int 0) := by rw [fdivD (by decide) (by decide), fdiv26 h0 h1]
    rw [m2] at md
    have g : decide (s ∈ found) = true := by simpa using hm
    have a1 := add_str (a := t) (b := ⟨#[c]⟩) (by show t.length + 1 ≤ _; omega)
    have l1 : (t ++ ⟨#[c]⟩ : Str).length = t.length + 1 := by rw [len_append]; rfl
    have a2 := add_str (a := t ++ ⟨#[c]⟩) (b := ⟨#[c']⟩) (by rw [l1]; show t.length + 1 + 1 ≤ _; omega)
    refine ⟨(t ++ ⟨#[c]⟩) ++ ⟨#[c']⟩, ⟨?_, ?_, ?_⟩, ?_⟩
    · rw [len_append, l1]; show 0 < t.length + 1 + 1; omega
    · rw [len_append, l1]; show t.length + 1 + 1 ≤ 5; omega
    · intro x hx
      rw [cps_append, cps_append] at hx
      rcases List.mem_append.mp hx with hx | hx
      · rcases List.mem_append.mp hx with hx | hx
        · exact t2 x hx
        · rw [List.mem_singleton.mp hx]; exact hc
      · rw [List.mem_singleton.mp hx]; exact hc'
    · simp only [fDef, fDefF, ofF, sSeq, sIf, sNext, sDrop, sRet, sRetF, sRetO, sSetC, sSetA, sPar, cV, cO, fTst, fBlt, fCall, fCallF, fCons, fNil, fName, fC, fOp, fUn, fAndV, fOrV, fNotV, fAndT, fOrT, fNotT, fIf, fTup_eq, fLst_eq, fNew_eq, chkL0, chkL1, chkL2, chkL3, chkL4, chkT1, chkT2, chkT3, chkN0, chkN1, fL, fLcL, fSeq, fStar, fIt, fStrs, fSl, fPart, sFor, sAsgT, bnd_ret, ofO_some, al, cl, Sl.al, Sl.cl, startS, wipeD, hSet, gSet, List.map_cons, List.map_nil, List.length_cons, List.length_nil, List.cons_append, List.nil_append, List.getElem?_cons_zero, List.getElem?_cons_succ, List.replicate, List.set_cons_zero, List.set_cons_succ, eqD_int, eqD_str, neD_int, eqD_bl, neD_bl, geD_int, gtD_int, ltD_int, addD_int, subD_int, Nat.reduceSub, Nat.reduceAdd, Nat.reduceLT, decide_true, decide_false, if_true, if_false, Bool.false_eq_true, Option.some.injEq, reduceIte, and_self, true_and, and_true, ob, g, et, ec, ec', md, fd, a1, a2]
  · have g : decide (s ∈ found) = false := by simpa using hm
    refine ⟨s, hs, ?_⟩
    simp only [fDef, fDefF, ofF, sSeq, sIf, sNext, sDrop, sRet, sRetF, sRetO, sSetC, sSetA, sPar, cV, cO, fTst, fBlt, fCall, fCallF, fCons, fNil, fName, fC, fOp, fUn, fAndV, fOrV, fNotV, fAndT, fOrT, fNotT, fIf, fTup_eq, fLst_eq, fNew_eq, chkL0, chkL1, chkL2, chkL3, chkL4, chkT1, chkT2, chkT3, chkN0, chkN1, fL, fLcL, fSeq, fStar, fIt, fStrs, fSl, fPart, sFor, sAsgT, bnd_ret, ofO_some, al, cl, Sl.al, Sl.cl, startS, wipeD, hSet, gSet, List.map_cons, List.map_nil, List.length_cons, List.length_nil, List.cons_append, List.nil_append, List.getElem?_cons_zero, List.getElem?_cons_succ, List.replicate, List.set_cons_zero, List.set_cons_succ, eqD_int, eqD_str, neD_int, eqD_bl, neD_bl, geD_int, gtD_int, ltD_int, addD_int, subD_int, Nat.reduceSub, Nat.reduceAdd, Nat.reduceLT, decide_true, decide_false, if_true, if_false, Bool.false_eq_true, Option.some.injEq, reduceIte, and_self, true_and, and_true, ob, g]
end K75
namespace K75
open PySem PySem.Spec PyProof.Rows L2 VS
theorem cb_go {a b e : Sl} {found : List Str} {z : Sl} (ob : ∀ u : Str, oIn (.str u) (.lst (found.map D.str)) = some (.bl (decide (u ∈ found)))) : ∀ (js : List Int) (s : Str) (y : Sl), word s → (∀ j ∈ js, 0 ≤ j ∧ j < 26) →
    ∃ t y', word t ∧ forGo (hSet 6) CB (js.map D.int) [a, b, .own (found.map D.str), .val (.str abc), e, .val (.str s), y, z] = ret (.nx [a, b, .own (found.map D.str), .val (.str abc), e, .val (.str t), y', z])
  | [], s, y, hs, _ => ⟨s, y, hs, rfl⟩
  | j :: js, s, y, hs, hj => by
    obtain ⟨t, ht, et⟩ := cb (a := a) (b := b) (e := e) (z := z) hs (hj j List.mem_cons_self).1 (hj j List.mem_cons_self).2 ob
    obtain ⟨t', y', ht', et'⟩ := cb_go ob js t (.val (.int j)) ht fun x hx => hj x (List.mem_cons_of_mem _ hx)
    refine ⟨t', y', ht', ?_⟩
    rw [List.map_cons, forGo_nx (env1 := [a, b, .own (found.map D.str), .val (.str abc), e, .val (.str s), .val (.int j), z]) rfl et]
    exact et'
theorem rngI (k : Nat) (h : k ≤ 20) : ∃ js : List Int, rng1 [.int ((k : Nat) + 1)] = some (js.map D.int) ∧ ∀ j ∈ js, 0 ≤ j ∧ j < 26 := by
  refine ⟨(List.range (k + 1)).map fun i => (0 : Int) + (i : Nat), ?_, ?_⟩
  · have := rngN (k + 1) (by omega)
    rw [show ((k : Nat) : Int) + 1 = ((k + 1 : Nat) : Int) by omega, this, List.map_map]
    rfl
  · intro j hj
    obtain ⟨i, hi, rfl⟩ := List.mem_map.mp hj
    have := List.mem_range.mp hi
    omega
theorem nb {b e x y z : Sl} {found : List Str} (hf : found.length ≤ 20) : Ok 5 (NB [.val .strm, b, .own (found.map D.str), .val (.str abc), e, x, y, z])
    (fun r => ∃ t y', word t ∧ r = .nx [.val .strm, b, .own ((found ++ [t]).map D.str), .val (.str abc), e, .val (.str t), y', z]) := by
  have ob := fun u => in_lot (e := .lst (found.map D.str)) (lot := found) rfl u
  show Ok 5 (VS.bnd (JB _) _) _
  refine ((jb (a := .un) (w := .un)).bnd (k := 0) fun r hr => ?_).mono (by omega) fun _ q => q
  obtain ⟨s, hs, rfl⟩ := hr
  obtain ⟨js, ej, hj⟩ := rngI found.length hf
  obtain ⟨t, y', ht, et⟩ := cb_go (a := .val .strm) (b := b) (e := e) (z := z) ob js s y hs hj
  have ln : bLen [.lst (found.map D.str)] = some (.int (found.length : Nat)) := by
    show some (D.int ((found.map D.str).length : Nat)) = _
    rw [List.length_map]
  have st := stAppend_ok (a := found.map D.str) (d := .str t) (by have := sz (n := (found.map D.str).length + 1) (by rw [List.length_map]; omega); omega)
  unfold XB
  generalize CB = C at et ⊢
  simp only [fDef, fDefF, ofF, sSeq, sIf, sNext, sDrop, sRet, sRetF, sRetO, sSetC, sSetA, sPar, cV, cO, fTst, fBlt, fCall, fCallF, fCons, fNil, fName, fC, fOp, fUn, fAndV, fOrV, fNotV, fAndT, fOrT, fNotT, fIf, fTup_eq, fLst_eq, fNew_eq, chkL0, chkL1, chkL2, chkL3, chkL4, chkT1, chkT2, chkT3, chkN0, chkN1, fL, fLcL, fSeq, fStar, fIt, fStrs, fSl, fPart, sFor, sAsgT, bnd_ret, ofO_some, al, cl, Sl.al, Sl.cl, startS, wipeD, hSet, gSet, List.map_cons, List.map_nil, List.length_cons, List.length_nil, List.cons_append, List.nil_append, List.getElem?_cons_zero, List.getElem?_cons_succ, List.replicate, List.set_cons_zero, List.set_cons_succ, eqD_int, eqD_str, neD_int, eqD_bl, neD_bl, geD_int, gtD_int, ltD_int, addD_int, subD_int, Nat.reduceSub, Nat.reduceAdd, Nat.reduceLT, decide_true, decide_false, if_true, if_false, Bool.false_eq_true, Option.some.injEq, reduceIte, and_self, true_and, and_true, sForA, sMut, ln, ej, et, st]
  exact Ok.ret 0 ⟨t, y', ht, by rw [List.map_append]; rfl⟩
theorem nb_go {b : Sl} : ∀ (js : List D) (found : List Str) (e x y z : Sl), found.length + js.length ≤ 20 → (∀ s ∈ found, word s) → Ok (5 * js.length) (forGo (hSet 4) NB js [.val .strm, b, .own (found.map D.str), .val (.str abc), e, x, y, z])
    (fun r => ∃ (ns : List Str) (e' x' y' : Sl), r = .nx [.val .strm, b, .own (ns.map D.str), .val (.str abc), e', x', y', z] ∧ ns.length = found.length + js.length ∧ ∀ s ∈ ns, word s)
  | [], found, e, x, y, z, _, hw => Ok.ret _ ⟨found, e, x, y, rfl, rfl, hw⟩
  | j :: js, found, e, x, y, z, hl, hw => by
    have hl' : found.length + (js.length + 1) ≤ 20 := hl
    rw [forGo_step (env1 := [.val .strm, b, .own (found.map D.str), .val (.str abc), .val j, x, y, z]) rfl]
    refine ((nb (by omega)).bnd (k := 5 * js.length) fun r hr => ?_).mono (by rw [List.length_cons]; omega) fun _ q => q
    obtain ⟨t, y', ht, rfl⟩ := hr
    refine (nb_go js (found ++ [t]) (.val j) (.val (.str t)) y' z (by rw [List.length_append]; show found.length + 1 + _ ≤ _; omega) fun s hs => ?_).mono (Nat.le_refl _) fun r hr => ?_
    · rcases List.mem_append.mp hs with hs | hs
      · exact hw s hs
      · rw [List.mem_singleton.mp hs]; exact ht
    · obtain ⟨ns, e', x', y'', h1, h2, h3⟩ := hr
      have l : (found ++ [t]).length = found.length + 1 := by simp
      exact ⟨ns, e', x', y'', h1, by rw [h2, l, List.length_cons]; omega, h3⟩
theorem L_names {k : Nat} (hk : k ≤ 20) : Ok (5 * k) (F__law_names [.strm, .int (k : Nat)]) (fun r => ∃ ns : List Str, r = .lst (ns.map D.str) ∧ ns.length = k ∧ ∀ s ∈ ns, word s) := by
  have rg := rngN k (by omega)
  have g := nb_go (b := .val (.int (k : Nat))) ((List.range k).map fun i => D.int (0 + (i : Nat))) [] .un .un .un .un (by simpa using hk) (by simp)
  rw [List.length_map, List.length_range] at g
  unfold F__law_names B__law_names
  generalize hN : NB = N at g
  show Ok _ (fDef 8 (sSeq (sPar 2 3 (cO (fNew fNil)) (cV (fC (.str (Str.ofString "abcdefghijklmnopqrstuvwxyz"))))) (sSeq (sFor (fIt rng1 (fCons (fName 1) fNil)) (hSet 4) NB) (sRet (fName 2)))) _) _
  rw [hN]
  simp only [fDef, fDefF, ofF, sSeq, sIf, sNext, sDrop, sRet, sRetF, sRetO, sSetC, sSetA, sPar, cV, cO, fTst, fBlt, fCall, fCallF, fCons, fNil, fName, fC, fOp, fUn, fAndV, fOrV, fNotV, fAndT, fOrT, fNotT, fIf, fTup_eq, fLst_eq, fNew_eq, chkL0, chkL1, chkL2, chkL3, chkL4, chkT1, chkT2, chkT3, chkN0, chkN1, fL, fLcL, fSeq, fStar, fIt, fStrs, fSl, fPart, sFor, sAsgT, bnd_ret, ofO_some, al, cl, Sl.al, Sl.cl, startS, wipeD, hSet, gSet, List.map_cons, List.map_nil, List.length_cons, List.length_nil, List.cons_append, List.nil_append, List.getElem?_cons_zero, List.getElem?_cons_succ, List.replicate, List.set_cons_zero, List.set_cons_succ, eqD_int, eqD_str, neD_int, eqD_bl, neD_bl, geD_int, gtD_int, ltD_int, addD_int, subD_int, Nat.reduceSub, Nat.reduceAdd, Nat.reduceLT, decide_true, decide_false, if_true, if_false, Bool.false_eq_true, Option.some.injEq, reduceIte, and_self, true_and, and_true, rg, VS.bnd_assoc]
  refine (g.bnd (k := 0) fun r hr => ?_).mono (Nat.le_refl _) fun _ q => q
  obtain ⟨ns, e', x', y', rfl, h1, h2⟩ := hr
  try simp only [fDef, fDefF, ofF, sSeq, sIf, sNext, sDrop, sRet, sRetF, sRetO, sSetC, sSetA, sPar, cV, cO, fTst, fBlt, fCall, fCallF, fCons, fNil, fName, fC, fOp, fUn, fAndV, fOrV, fNotV, fAndT, fOrT, fNotT, fIf, fTup_eq, fLst_eq, fNew_eq, chkL0, chkL1, chkL2, chkL3, chkL4, chkT1, chkT2, chkT3, chkN0, chkN1, fL, fLcL, fSeq, fStar, fIt, fStrs, fSl, fPart, sFor, sAsgT, bnd_ret, ofO_some, al, cl, Sl.al, Sl.cl, startS, wipeD, hSet, gSet, List.map_cons, List.map_nil, List.length_cons, List.length_nil, List.cons_append, List.nil_append, List.getElem?_cons_zero, List.getElem?_cons_succ, List.replicate, List.set_cons_zero, List.set_cons_succ, eqD_int, eqD_str, neD_int, eqD_bl, neD_bl, geD_int, gtD_int, ltD_int, addD_int, subD_int, Nat.reduceSub, Nat.reduceAdd, Nat.reduceLT, decide_true, decide_false, if_true, if_false, Bool.false_eq_true, Option.some.injEq, reduceIte, and_self, true_and, and_true]
  exact Ok.ret 0 ⟨ns, rfl, by simpa using h1, h2⟩
end K75
namespace K75
open PySem PySem.Spec PyProof.Rows L2 VS
theorem nm0_of : ∀ ns : List Str, nm0 (ns.map fun x => D.tup [.str x, .int 0]) = some ns
  | [] => rfl
  | x :: r => by
    show (nm0 (r.map fun x => D.tup [.str x, .int 0])).map (x :: ·) = _
    rw [nm0_of r]
    rfl
theorem nmK_of : ∀ ns : List Str, nmK (ns.map fun x => (D.str x, D.int 0)) = some ns
  | [] => rfl
  | x :: r => by
    show (nmK (r.map fun x => (D.str x, D.int 0))).map (x :: ·) = _
    rw [nmK_of r]
    rfl
theorem nub_ok : ∀ (ns acc : List Str), acc.Nodup → (VS.nub acc ns).Nodup ∧ (VS.nub acc ns).length ≤ acc.length + ns.length ∧ acc.length ≤ (VS.nub acc ns).length ∧ (∀ s ∈ VS.nub acc ns, s ∈ acc ∨ s ∈ ns)
  | [], acc, h => ⟨h, Nat.le_refl _, Nat.le_refl _, fun s hs => .inl hs⟩
  | x :: r, acc, h => by
    unfold VS.nub
    split
    · obtain ⟨h1, h2, h3, h4⟩ := nub_ok r acc h
      refine ⟨h1, by rw [List.length_cons]; omega, h3, fun s hs => ?_⟩
      rcases h4 s hs with q | q
      · exact .inl q
      · exact .inr (List.mem_cons_of_mem _ q)
    · rename_i hx
      have hn : (acc ++ [x]).Nodup := by
        rw [List.nodup_append]
        refine ⟨h, by simp, fun a ha b hb e => ?_⟩
        rw [List.mem_singleton.mp hb] at e
        rw [e] at ha
        exact hx ha
      obtain ⟨h1, h2, h3, h4⟩ := nub_ok r (acc ++ [x]) hn
      have l : (acc ++ [x]).length = acc.length + 1 := by simp
      refine ⟨h1, by rw [List.length_cons]; omega, by omega, fun s hs => ?_⟩
      rcases h4 s hs with q | q
      · rcases List.mem_append.mp q with q | q
        · exact .inl q
        · rw [List.mem_singleton.mp q]; exact .inr List.mem_cons_self
      · exact .inr (List.mem_cons_of_mem _ q)
theorem nub_pos {ns : List Str} (h : 0 < ns.length) : 0 < (VS.nub [] ns).length := by
  cases ns with
  | nil => cases h
  | cons x r =>
    have q := (nub_ok r [x] (by simp)).2.2.1
    show 0 < (if x ∈ ([] : List Str) then VS.nub [] r else VS.nub ([] ++ [x]) r).length
    rw [if_neg (by simp)]
    exact Nat.lt_of_lt_of_le (by simp) q
theorem sorted_rising : ∀ (l : List Str), l.Pairwise (fun a b => leS a b = true) → l.Nodup → Rising l
  | [], _, _ => by intro p hp; simp at hp
  | [x], _, _ => by intro p hp; simp at hp
  | x :: y :: r, h, hn => by
    intro p hp
    have hp' : p = (x, y) ∨ p ∈ (y :: r).zip ((y :: r).drop 1) := by
      have : p ∈ (x, y) :: ((y :: r).zip r) := hp
      rcases List.mem_cons.mp this with q | q
      · exact .inl q
      · exact .inr q
    rcases hp' with rfl | q
    · have h1 := (List.pairwise_cons.mp h).1 y List.mem_cons_self
      have h2 := (List.nodup_cons.mp hn).1
      show decide (x.cps.toList < y.cps.toList) = true
      rw [decide_eq_true_eq]
      by_cases hc : x.cps.toList < y.cps.toList
      · exact hc
      · have : leS y x = true := leS_iff.mpr (List.not_lt.mp hc)
        exact absurd (leS_antisymm h1 this) fun e => h2 (e ▸ List.mem_cons_self)
    · exact sorted_rising (y :: r) (List.pairwise_cons.mp h).2 (List.nodup_cons.mp hn).2 p q
theorem sortS_perm (xs : List Str) : (sortS xs).Perm xs := List.mergeSort_perm xs leS
theorem sortS_rising {xs : List Str} (h : xs.Nodup) : Rising (sortS xs) := by
  refine sorted_rising _ ?_ ((sortS_perm xs).nodup_iff.mpr h)
  exact List.pairwise_mergeSort (le := leS) (by intro a b c h1 h2; exact leS_trans h1 h2) (by intro a b; exact leS_total a b) xs
def toS : D → Option Str
  | .str s => some s
  | _ => none
theorem toS_map : ∀ us : List Str, (us.map D.str).filterMap toS = us
  | [] => rfl
  | u :: us => by
    rw [List.map_cons, List.filterMap_cons]
    show u :: _ = _
    rw [toS_map us]
theorem perm_map : ∀ {ys : List D} {us : List Str}, ys.Perm (us.map D.str) → ∃ vs : List Str, ys = vs.map D.str ∧ vs.Perm us := by
  intro ys us h
  have hm : ∀ d ∈ ys, ∃ s, d = .str s := fun d hd => by
    obtain ⟨s, _, rfl⟩ := List.mem_map.mp (h.mem_iff.mp hd)
    exact ⟨s, rfl⟩
  have : ∃ vs : List Str, ys = vs.map D.str := by
    clear h
    induction ys with
    | nil => exact ⟨[], rfl⟩
    | cons d r ih =>
      obtain ⟨s, rfl⟩ := hm d List.mem_cons_self
      obtain ⟨vs, rfl⟩ := ih fun d hd => hm d (List.mem_cons_of_mem _ hd)
      exact ⟨s :: vs, rfl⟩
  obtain ⟨vs, rfl⟩ := this
  have q := h.filterMap toS
  rw [toS_map, toS_map] at q
  exact ⟨vs, rfl, q⟩
theorem mul_str (z : Str) (b : Bool) : oMul (.lst [.str z]) (.int (if b then 1 else 0)) = some (.lst ((if b then [z] else []).map D.str)) := by
  have e0 : mInt (.lst [.str z]) (.int (if b then 1 else 0)) = none := rfl
  cases b with
  | true =>
    refine oMul_of rfl ((mLst_ok ⟨by decide, by decide, ?_⟩).trans rfl)
    exact sz (show 1 * 1 ≤ 1000000 by decide)
  | false =>
    refine oMul_of rfl ((mLst_ok ⟨by decide, by decide, ?_⟩).trans rfl)
    exact sz (show 1 * 0 ≤ 1000000 by decide)
abbrev zz : Str := Str.ofString "zzzzzz"
theorem zz_valid : valid zz := by
  refine ⟨by decide +kernel, by decide +kernel, ?_⟩
  have : zz.cps.toList.all (fun c => decide (97 ≤ c ∧ c < 123)) = true := by decide +kernel
  intro c hc
  exact show 97 ≤ c ∧ c < 123 from of_decide_eq_true (List.all_eq_true.mp this c hc)
theorem zz_len : zz.length = 6 := by decide +kernel
theorem L_lot {ns : List Str} (h0 : 0 < ns.length) (h1 : ns.length ≤ 20) (hw : ∀ s ∈ ns, word s) : Ok 22 (F__law_lot [.strm, .lst (ns.map D.str)]) (fun r => ∃ lot : List Str, r = .lst (lot.map D.str) ∧ Rising lot ∧ lot.length ≤ 21 ∧ ∀ s ∈ lot, valid s) := by
  obtain ⟨n1, n2, _, n4⟩ := nub_ok ns [] (by simp)
  have np := nub_pos h0
  have key : lcGo (gSet 4) fYes (fTup (fCons (fName 4) (fCons (fC (.int 0)) fNil))) [some .strm, some (.lst (ns.map D.str)), none, none, none] (ns.map D.str) [] = ret (ns.map fun x => D.tup [.str x, .int 0]) := by
    have := lcGo_map (tg := gSet 4) (F := fTup (fCons (fName 4) (fCons (fC (.int 0)) fNil))) (env := [some .strm, some (.lst (ns.map D.str)), none, none, none]) (fun d => D.tup [d, .int 0]) (ns.map D.str) [] (fun d _ => ⟨_, rfl, by simp only [fDef, fDefF, ofF, sSeq, sIf, sNext, sDrop, sRet, sRetF, sRetO, sSetC, sSetA, sPar, cV, cO, fTst, fBlt, fCall, fCallF, fCons, fNil, fName, fC, fOp, fUn, fAndV, fOrV, fNotV, fAndT, fOrT, fNotT, fIf, fTup_eq, fLst_eq, fNew_eq, chkL0, chkL1, chkL2, chkL3, chkL4, chkT1, chkT2, chkT3, chkN0, chkN1, fL, fLcL, fSeq, fStar, fIt, fStrs, fSl, fPart, sFor, sAsgT, bnd_ret, ofO_some, al, cl, Sl.al, Sl.cl, startS, wipeD, hSet, gSet, List.map_cons, List.map_nil, List.length_cons, List.length_nil, List.cons_append, List.nil_append, List.getElem?_cons_zero, List.getElem?_cons_succ, List.replicate, List.set_cons_zero, List.set_cons_succ, eqD_int, eqD_str, neD_int, eqD_bl, neD_bl, geD_int, gtD_int, ltD_int, addD_int, subD_int, Nat.reduceSub, Nat.reduceAdd, Nat.reduceLT, decide_true, decide_false, if_true, if_false, Bool.false_eq_true, Option.some.injEq, reduceIte, and_self, true_and, and_true]⟩) (by rw [List.length_map]; exact sz (by simp; omega))
    rw [this, List.map_map]
    rfl
  have sq : (D.lst (ns.map D.str)).seq = some (ns.map D.str) := rfl
  have e1 : bDict0 [.lst (ns.map fun x => D.tup [.str x, .int 0])] = some (.dct ((VS.nub [] ns).map fun x => (.str x, .int 0))) := by
    show (nm0 _).map _ = _
    rw [nm0_of]
    rfl
  have e2 : one srtK [.dct ((VS.nub [] ns).map fun x => (D.str x, D.int 0))] = some ((sortS (VS.nub [] ns)).map D.str) := by
    show (nmK ((VS.nub [] ns).map fun x => (D.str x, D.int 0))).bind (fun ns => if ns.length < 64 ∧ ns ≠ [] then some ((sortS ns).map D.str) else none) = _
    rw [nmK_of]
    show (if (VS.nub [] ns).length < 64 ∧ VS.nub [] ns ≠ [] then some ((sortS (VS.nub [] ns)).map D.str) else none) = _
    rw [if_pos ⟨by have : ([] : List Str).length = 0 := rfl; omega, fun e => by rw [e] at np; cases np⟩]
  have sl := (sortS_perm (VS.nub [] ns)).length_eq
  have l0 : ([] : List Str).length = 0 := rfl
  unfold F__law_lot B__law_lot
  simp only [fDef, fDefF, ofF, sSeq, sIf, sNext, sDrop, sRet, sRetF, sRetO, sSetC, sSetA, sPar, cV, cO, fTst, fBlt, fCall, fCallF, fCons, fNil, fName, fC, fOp, fUn, fAndV, fOrV, fNotV, fAndT, fOrT, fNotT, fIf, fTup_eq, fLst_eq, fNew_eq, chkL0, chkL1, chkL2, chkL3, chkL4, chkT1, chkT2, chkT3, chkN0, chkN1, fL, fLcL, fSeq, fStar, fIt, fStrs, fSl, fPart, sFor, sAsgT, bnd_ret, ofO_some, al, cl, Sl.al, Sl.cl, startS, wipeD, hSet, gSet, List.map_cons, List.map_nil, List.length_cons, List.length_nil, List.cons_append, List.nil_append, List.getElem?_cons_zero, List.getElem?_cons_succ, List.replicate, List.set_cons_zero, List.set_cons_succ, eqD_int, eqD_str, neD_int, eqD_bl, neD_bl, geD_int, gtD_int, ltD_int, addD_int, subD_int, Nat.reduceSub, Nat.reduceAdd, Nat.reduceLT, decide_true, decide_false, if_true, if_false, Bool.false_eq_true, Option.some.injEq, reduceIte, and_self, true_and, and_true, sq, key, e1, e2, VS.bnd_assoc]
  refine ((p_mixed (xs := (sortS (VS.nub [] ns)).map D.str) (by rw [List.length_map]; omega)).bnd (k := 2) fun r hr => ?_).mono (by rw [List.length_map]; omega) fun _ q => q
  obtain ⟨ys, rfl, hp⟩ := hr
  obtain ⟨us, rfl, hu⟩ := perm_map hp
  have hu2 := hu.trans (sortS_perm _)
  have ul := hu2.length_eq
  try simp only [fDef, fDefF, ofF, sSeq, sIf, sNext, sDrop, sRet, sRetF, sRetO, sSetC, sSetA, sPar, cV, cO, fTst, fBlt, fCall, fCallF, fCons, fNil, fName, fC, fOp, fUn, fAndV, fOrV, fNotV, fAndT, fOrT, fNotT, fIf, fTup_eq, fLst_eq, fNew_eq, chkL0, chkL1, chkL2, chkL3, chkL4, chkT1, chkT2, chkT3, chkN0, chkN1, fL, fLcL, fSeq, fStar, fIt, fStrs, fSl, fPart, sFor, sAsgT, bnd_ret, ofO_some, al, cl, Sl.al, Sl.cl, startS, wipeD, hSet, gSet, List.map_cons, List.map_nil, List.length_cons, List.length_nil, List.cons_append, List.nil_append, List.getElem?_cons_zero, List.getElem?_cons_succ, List.replicate, List.set_cons_zero, List.set_cons_succ, eqD_int, eqD_str, neD_int, eqD_bl, neD_bl, geD_int, gtD_int, ltD_int, addD_int, subD_int, Nat.reduceSub, Nat.reduceAdd, Nat.reduceLT, decide_true, decide_false, if_true, if_false, Bool.false_eq_true, Option.some.injEq, reduceIte, and_self, true_and, and_true, VS.bnd_assoc]
  refine ((p_draw (n := 4) (by omega) (by omega)).bnd (k := 1) fun r hr => ?_).mono (by omega) fun _ q => q
  obtain ⟨d, rfl, d0, d1⟩ := hr
  rw [eqD_int]
  generalize decide (d = 0) = bb
  have bi : bInt [.bl bb] = some (.int (if bb then 1 else 0)) := rfl
  have ml : oMul (.lst [.str (Str.ofString "zzzzzz")]) (.int (if bb then 1 else 0)) = _ := mul_str zz bb
  have ln := lenS us
  generalize hQ : (if bb = true then (1 : Int) else 0) = one_ at bi ml
  simp only [fDef, fDefF, ofF, sSeq, sIf, sNext, sDrop, sRet, sRetF, sRetO, sSetC, sSetA, sPar, cV, cO, fTst, fBlt, fCall, fCallF, fCons, fNil, fName, fC, fOp, fUn, fAndV, fOrV, fNotV, fAndT, fOrT, fNotT, fIf, fTup_eq, fLst_eq, fNew_eq, chkL0, chkL1, chkL2, chkL3, chkL4, chkT1, chkT2, chkT3, chkN0, chkN1, fL, fLcL, fSeq, fStar, fIt, fStrs, fSl, fPart, sFor, sAsgT, bnd_ret, ofO_some, al, cl, Sl.al, Sl.cl, startS, wipeD, hSet, gSet, List.map_cons, List.map_nil, List.length_cons, List.length_nil, List.cons_append, List.nil_append, List.getElem?_cons_zero, List.getElem?_cons_succ, List.replicate, List.set_cons_zero, List.set_cons_succ, eqD_int, eqD_str, neD_int, eqD_bl, neD_bl, geD_int, gtD_int, ltD_int, addD_int, subD_int, Nat.reduceSub, Nat.reduceAdd, Nat.reduceLT, decide_true, decide_false, if_true, if_false, Bool.false_eq_true, Option.some.injEq, reduceIte, and_self, true_and, and_true, bi, ml, ln, VS.bnd_assoc]
  refine ((p_draw (n := (us.length : Nat) + 1) (by omega) (by omega)).bnd (k := 0) fun r hr => ?_).mono (by omega) fun _ q => q
  obtain ⟨k, rfl, k0, k1⟩ := hr
  obtain ⟨j, rfl⟩ := Int.eq_ofNat_of_zero_le k0
  have sl2 : oSl (.lst (us.map D.str)) none (some ((j : Nat) : Int)) = some (.lst ((us.take j).map D.str)) := by
    show some (D.lst (VS.cutD (us.map D.str) none (some (j : Nat)))) = _
    rw [cut_to, List.map_take]
  generalize hz : (if bb = true then [zz] else []) = zs
  have hzs : zs = [zz] ∨ zs = [] := by cases bb <;> simp at hz <;> simp [← hz]
  have zl : zs.length ≤ 1 := by rcases hzs with h | h <;> simp [h]
  have tl : (us.take j).length ≤ us.length := by rw [List.length_take]; omega
  have ad : oAdd (.lst ((us.take j).map D.str)) (.lst (zs.map D.str)) = some (.lst ((us.take j ++ zs).map D.str)) := by
    rw [addD_lst (by rw [List.length_map, List.length_map]; exact sz (by omega)), List.map_append]
  have al_ : (us.take j ++ zs).length ≤ 21 := by rw [List.length_append]; omega
  have sr : srtS [.lst ((us.take j ++ zs).map D.str)] = some ((sortS (us.take j ++ zs)).map D.str) := by
    show (strs' ((us.take j ++ zs).map D.str)).bind (fun ys => if ys.length < 64 then some ((sortS ys).map D.str) else none) = _
    rw [strs_one]
    show (if (us.take j ++ zs).length < 64 then some ((sortS (us.take j ++ zs)).map D.str) else none) = _
    rw [if_pos (by omega)]
  simp only [fDef, fDefF, ofF, sSeq, sIf, sNext, sDrop, sRet, sRetF, sRetO, sSetC, sSetA, sPar, cV, cO, fTst, fBlt, fCall, fCallF, fCons, fNil, fName, fC, fOp, fUn, fAndV, fOrV, fNotV, fAndT, fOrT, fNotT, fIf, fTup_eq, fLst_eq, fNew_eq, chkL0, chkL1, chkL2, chkL3, chkL4, chkT1, chkT2, chkT3, chkN0, chkN1, fL, fLcL, fSeq, fStar, fIt, fStrs, fSl, fPart, sFor, sAsgT, bnd_ret, ofO_some, al, cl, Sl.al, Sl.cl, startS, wipeD, hSet, gSet, List.map_cons, List.map_nil, List.length_cons, List.length_nil, List.cons_append, List.nil_append, List.getElem?_cons_zero, List.getElem?_cons_succ, List.replicate, List.set_cons_zero, List.set_cons_succ, eqD_int, eqD_str, neD_int, eqD_bl, neD_bl, geD_int, gtD_int, ltD_int, addD_int, subD_int, Nat.reduceSub, Nat.reduceAdd, Nat.reduceLT, decide_true, decide_false, if_true, if_false, Bool.false_eq_true, Option.some.injEq, reduceIte, and_self, true_and, and_true, sl2, ad, sr]
  have usn : us.Nodup := hu2.nodup_iff.mpr n1
  have uw : ∀ s ∈ us, word s := fun s hs => by
    rcases n4 s (hu2.mem_iff.mp hs) with q | q
    · cases q
    · exact hw s q
  have nd : (us.take j ++ zs).Nodup := by
    rw [List.nodup_append]
    refine ⟨(List.take_sublist j us).nodup usn, by rcases hzs with h | h <;> simp [h], fun a ha b hb e => ?_⟩
    rcases hzs with h | h
    · rw [h] at hb
      have := uw a (List.mem_of_mem_take ha)
      rw [e, List.mem_singleton.mp hb] at this
      have := this.2.1
      rw [zz_len] at this
      omega
    · rw [h] at hb; cases hb
  refine Ok.ret 0 ⟨sortS (us.take j ++ zs), rfl, sortS_rising nd, by rw [(sortS_perm _).length_eq]; exact al_, fun s hs => ?_⟩
  rcases List.mem_append.mp ((sortS_perm _).mem_iff.mp hs) with q | q
  · exact (uw s (List.mem_of_mem_take q)).valid
  · rcases hzs with h | h
    · rw [h] at q; rw [List.mem_singleton.mp q]; exact zz_valid
    · rw [h] at q; cases q
end K75
namespace K75
open PySem PySem.Spec PyProof.Rows L2 VS
structure Sh (n w : Nat) (d : D) (p : PyData) : Prop where
  to : toP d = some p
  ok : p.showable = true
  nd : p.hasDict = false
  dp : p.depth ≤ n
  wt : p.weight ≤ w
  ls : p.leavesShort 13 = true
structure Shs (n w : Nat) (ds : List D) (ps : List PyData) : Prop where
  to : toPs ds = some ps
  ok : PyData.showableAll ps = true
  nd : PyData.hasDictAll ps = false
  dp : PyData.depthAll ps ≤ n
  wt : PyData.weightAll ps ≤ w
  ls : PyData.leavesShortAll 13 ps = true
theorem Shs.nil (n w : Nat) : Shs n w [] [] := ⟨by simp [toPs], by simp [PyData.showableAll], by simp [PyData.hasDictAll], by simp [PyData.depthAll], by simp [PyData.weightAll], by simp [PyData.leavesShortAll]⟩
theorem Shs.cons {n w w' : Nat} {d : D} {ds : List D} {p : PyData} {ps : List PyData} (h : Sh n w d p) (h' : Shs n w' ds ps) : Shs n (w + 1 + w') (d :: ds) (p :: ps) := by
  refine ⟨?_, ?_, ?_, ?_, ?_, ?_⟩
  · simp [toPs, h.to, h'.to]
  · simp [PyData.showableAll, h.ok, h'.ok]
  · simp [PyData.hasDictAll, h.nd, h'.nd]
  · have := h.dp; have := h'.dp; simp only [PyData.depthAll]; omega
  · have := h.wt; have := h'.wt; simp only [PyData.weightAll]; omega
  · simp [PyData.leavesShortAll, h.ls, h'.ls]
theorem Shs.seq {n w : Nat} {d : D} {ds : List D} {ps : List PyData} (e : d.seq = some ds) (h : Shs n w ds ps) : ∃ p, Sh (n + 1) w d p := by
  cases d <;> simp only [D.seq] at e <;> first | (cases e; done) | skip
  · cases e
    refine ⟨.list ps, ?_, ?_, ?_, ?_, ?_, ?_⟩
    · simp [toP, h.to]
    · simpa [PyData.showable] using h.ok
    · simpa [PyData.hasDict] using h.nd
    · have := h.dp; simp only [PyData.depth]; omega
    · simpa [PyData.weight] using h.wt
    · simpa [PyData.leavesShort] using h.ls
  · cases e
    refine ⟨.tuple ps, ?_, ?_, ?_, ?_, ?_, ?_⟩
    · simp [toP, h.to]
    · simpa [PyData.showable] using h.ok
    · simpa [PyData.hasDict] using h.nd
    · have := h.dp; simp only [PyData.depth]; omega
    · simpa [PyData.weight] using h.wt
    · simpa [PyData.leavesShort] using h.ls
theorem Sh.mono {n n' w w' : Nat} {d : D} {p : PyData} (h : Sh n w d p) (hn : n ≤ n') (hw : w ≤ w') : Sh n' w' d p := ⟨h.to, h.ok, h.nd, Nat.le_trans h.dp hn, Nat.le_trans h.wt hw, h.ls⟩
theorem Sh.str {n : Nat} {s : Str} (h : ∀ c ∈ s.cps.toList, letter c) : Sh n s.length (.str s) (.str s) := by
  refine ⟨by simp [toP], by simp [PyData.showable], by simp [PyData.hasDict], by simp [PyData.depth], by simp [PyData.weight, PySem.Str.length], ?_⟩
  simp only [PyData.leavesShort]
  refine List.all_eq_true.mpr fun c hc => decide_eq_true ?_
  have := (h c hc).2
  have : (16 : Nat) ^ 8 = 4294967296 := by decide
  omega
theorem Sh.repr {w : Nat} {d : D} {ds : List D} {p : PyData} (e : d.seq = some ds) (h : Sh 60 w d p) (hw : w ≤ 1000000) : bRepr [d] = some (.str p.shown) := by
  have hw2 : p.weight ≤ 2 ^ 20 := by
    have := h.wt
    have : (2 : Nat) ^ 20 = 1048576 := by decide
    omega
  have hf := PyData.shown_fits (B := 13) (by decide) (by decide) h.ls hw2
  have : reprD d = some (.str p.shown) := by
    unfold reprD
    rw [h.to]
    show (if p.showable = true ∧ p.hasDict = false ∧ p.depth ≤ 60 ∧ p.shown.length ≤ sizeLine then some (D.str p.shown) else none) = _
    rw [if_pos ⟨h.ok, h.nd, h.dp, hf⟩]
  cases d <;> simp only [D.seq] at e <;> first | (cases e; done) | skip
  · exact this
  · exact this
theorem kw_letters (b : Bool) : ∀ c ∈ (kw b).cps.toList, letter c := by
  have h : (kw b).cps.toList.all (fun c => decide (97 ≤ c ∧ c < 123)) = true := by cases b <;> decide +kernel
  intro c hc
  exact show 97 ≤ c ∧ c < 123 from of_decide_eq_true (List.all_eq_true.mp h c hc)
theorem nm_letters : ∀ c ∈ (Str.ofString "name").cps.toList, letter c := by
  have h : (Str.ofString "name").cps.toList.all (fun c => decide (97 ≤ c ∧ c < 123)) = true := by decide +kernel
  intro c hc
  exact show 97 ≤ c ∧ c < 123 from of_decide_eq_true (List.all_eq_true.mp h c hc)
theorem kw_len (b : Bool) : (kw b).length = 3 := by cases b <;> decide +kernel
theorem nm_len : (Str.ofString "name").length = 4 := by decide +kernel
mutual
theorem sh_isF : ∀ (f : Fm) (d : D), IsF f d → WF f → ∃ p, Sh (2 * dep f + 1) (20 * (2 * dep f + 1) * (names f).length) d p
  | .name s, d, h, hw => by
    have hv : valid s := by simpa only [WF] using hw
    obtain ⟨p, hp⟩ := Shs.seq h (Shs.cons (Sh.str (n := 0) nm_letters) (Shs.cons (Sh.str hv.2.2) (Shs.nil 0 0)))
    refine ⟨p, hp.mono (by omega) ?_⟩
    have := hv.2.1
    rw [nm_len]
    simp only [dep, names, List.length_cons, List.length_nil]
    omega
  | .gate b ps, d, h, hw => by
    obtain ⟨l, ds, h1, h2, h3⟩ := h
    have hw' : ps ≠ [] ∧ WFs ps := by simpa only [WF] using hw
    obtain ⟨qs, hq⟩ := sh_isFs ps ds (deps ps) (Nat.le_refl _) h3 hw'.2
    have hL := (lens_le (wfs_ne ps hw'.2)).1
    have hp : 1 ≤ ps.length := by
      cases ps with
      | nil => exact absurd rfl hw'.1
      | cons a r => simp
    obtain ⟨p, hp1⟩ := Shs.seq h2 hq
    obtain ⟨q, hq1⟩ := Shs.seq h1 (Shs.cons ((Sh.str (n := 0) (kw_letters b)).mono (n' := 2 * deps ps + 1 + 1) (by omega) (Nat.le_refl _)) (Shs.cons hp1 (Shs.nil _ 0)))
    rw [dep_gate, names_gate]
    refine ⟨q, hq1.mono (by omega) ?_⟩
    rw [kw_len]
    have e : 20 * (2 * (deps ps + 1) + 1) * (namess ps).length = 20 * (2 * deps ps + 1) * (namess ps).length + 40 * (namess ps).length := by
      rw [show 20 * (2 * (deps ps + 1) + 1) = 20 * (2 * deps ps + 1) + 40 by omega, Nat.add_mul]
    omega
theorem sh_isFs : ∀ (ps : List Fm) (ds : List D) (k : Nat), deps ps ≤ k → IsFs ps ds → WFs ps → ∃ qs, Shs (2 * k + 1) (20 * (2 * k + 1) * (namess ps).length + ps.length) ds qs
  | [], ds, k, hk, h, hw => by
    cases (show ds = [] from h)
    exact ⟨[], Shs.nil _ _⟩
  | p :: ps, ds, k, hk, h, hw => by
    obtain ⟨d, r, rfl, h1, h2⟩ := h
    have hw' : WF p ∧ WFs ps := by simpa only [WFs] using hw
    rw [deps_cons] at hk
    obtain ⟨q, hq⟩ := sh_isF p d h1 hw'.1
    obtain ⟨qs, hqs⟩ := sh_isFs ps r k (by omega) h2 hw'.2
    have e3 : 20 * (2 * dep p + 1) * (names p).length ≤ 20 * (2 * k + 1) * (names p).length := Nat.mul_le_mul_right _ (by omega)
    have c := Shs.cons (hq.mono (n' := 2 * k + 1) (by omega) e3) hqs
    refine ⟨_, c.to, c.ok, c.nd, c.dp, Nat.le_trans c.wt ?_, c.ls⟩
    have e4 : 20 * (2 * k + 1) * (namess (p :: ps)).length = 20 * (2 * k + 1) * (names p).length + 20 * (2 * k + 1) * (namess ps).length := by rw [namess_cons, List.length_append, Nat.mul_add]
    rw [e4, List.length_cons]
    omega
end
end K75
namespace K75
open PySem PySem.Spec PyProof.Rows L2 VS
theorem log_le {n : Nat} (h : n < 2 ^ 40) : n.log2 < 41 := by
  by_cases h0 : n = 0
  · subst h0; decide
  · have := (Nat.log2_lt h0 (k := 40)).mpr h
    omega
theorem Sh.int {n : Nat} {i : Int} (h0 : 0 ≤ i) (h1 : i < 1000000) : Sh n 50 (.int i) (.int i) := by
  have hn : i.natAbs < 1000000 := by omega
  have hl := log_le (n := i.natAbs) (by have : (2 : Nat) ^ 40 = 1099511627776 := by decide
                                        omega)
  have hw : (if (i == 0) = true then 0 else i.natAbs.log2 + 1) ≤ 50 := by split <;> omega
  refine ⟨by simp [toP], ?_, by simp [PyData.hasDict], by simp [PyData.depth], by simpa only [PyData.weight] using hw, ?_⟩
  · simp only [PyData.showable]
    exact decide_eq_true (by omega)
  · simp only [PyData.leavesShort]
    exact decide_eq_true (PyData.shown_int_le (by have : (10 : Nat) ^ 12 = 1000000000000 := by decide
                                                  omega))
theorem Shs.ints {n : Nat} : ∀ {ns : List Int}, (∀ x ∈ ns, 0 ≤ x ∧ x < 1000000) → ∃ ps, Shs n (51 * ns.length) (ns.map D.int) ps
  | [], _ => ⟨[], Shs.nil _ _⟩
  | x :: ns, h => by
    obtain ⟨ps, hp⟩ := Shs.ints (n := n) (ns := ns) fun y hy => h y (List.mem_cons_of_mem _ hy)
    have c := Shs.cons (Sh.int (n := n) (h x List.mem_cons_self).1 (h x List.mem_cons_self).2) hp
    exact ⟨_, c.to, c.ok, c.nd, c.dp, Nat.le_trans c.wt (by rw [List.length_cons]; omega), c.ls⟩
theorem bud_w {d k : Nat} (hd : d ≤ 10) (hk : k ≤ 20) : 20 * (2 * d + 1) * k ≤ 10000 := by
  have : 20 * (2 * d + 1) * k ≤ 420 * 20 := Nat.mul_le_mul (by omega) hk
  omega
theorem repr_form {f : Fm} {d : D} (h : IsF f d) (hw : WF f) (hd : dep f ≤ 10) (hn : (names f).length ≤ 20) : ∃ s, bRepr [d] = some (.str s) := by
  obtain ⟨p, hp⟩ := sh_isF f d h hw
  have hb := bud_w hd hn
  have : ∃ ds, d.seq = some ds := by
    cases f with
    | name s => exact ⟨_, h⟩
    | gate b ps => obtain ⟨l, ds, h1, _⟩ := h; exact ⟨_, h1⟩
  obtain ⟨ds, e⟩ := this
  exact ⟨_, Sh.repr e (hp.mono (by omega) hb) (by omega)⟩
theorem repr_hand {f : Fm} {d e : D} {ns : List Int} (h : IsF f d) (hw : WF f) (hd : dep f ≤ 10) (hn : (names f).length ≤ 20) (he : e.seq = some (ns.map D.int)) (hl : ns.length ≤ 1000) (hr : ∀ x ∈ ns, 0 ≤ x ∧ x < 1000000) : ∃ s, bRepr [.lst [d, e]] = some (.str s) := by
  obtain ⟨p, hp⟩ := sh_isF f d h hw
  have hb := bud_w hd hn
  obtain ⟨qs, hq⟩ := Shs.ints (n := 58) hr
  obtain ⟨q, hq1⟩ := Shs.seq he hq
  have c := Shs.cons (hp.mono (n' := 59) (by omega) hb) (Shs.cons hq1 (Shs.nil _ 0))
  obtain ⟨r, hr1⟩ := Shs.seq (d := .lst [d, e]) rfl c
  exact ⟨_, Sh.repr (d := .lst [d, e]) rfl hr1 (by omega)⟩
end K75
namespace K75
open PySem PySem.Spec PyProof.Rows L2 VS
abbrev f0 : Fm := .gate true [.name (Str.ofString "a"), .gate false [.name (Str.ofString "b"), .name (Str.ofString "c")]]
abbrev nmD (s : String) : D := .tup [.str (Str.ofString "name"), .str (Str.ofString s)]
abbrev d0 : D := .tup [.str (Str.ofString "all"), .lst [nmD "a", .tup [.str (Str.ofString "any"), .lst [nmD "b", nmD "c"]]]]
theorem is0 : IsF f0 d0 := ⟨_, _, rfl, rfl, _, _, rfl, rfl, _, _, rfl, ⟨_, _, rfl, rfl, _, _, rfl, rfl, _, _, rfl, rfl, rfl⟩, rfl⟩
theorem one_valid (s : Str) (c : Nat) (e : s.cps.toList = [c]) (hc : letter c) : valid s := by
  have l := len_cps s
  rw [e] at l
  have l1 : [c].length = 1 := rfl
  refine ⟨by omega, by omega, fun x hx => ?_⟩
  rw [e] at hx
  rw [List.mem_singleton.mp hx]
  exact hc
theorem va : valid (Str.ofString "a") := one_valid _ 97 (by decide +kernel) ⟨by decide, by decide⟩
theorem vb : valid (Str.ofString "b") := one_valid _ 98 (by decide +kernel) ⟨by decide, by decide⟩
theorem vc : valid (Str.ofString "c") := one_valid _ 99 (by decide +kernel) ⟨by decide, by decide⟩
theorem wf0 : WF f0 := by
  simp only [WF, WFs]
  exact ⟨by simp, va, ⟨by simp, vb, vc, trivial⟩, trivial⟩
theorem dp0 : dep f0 = 2 := by simp [dep, deps]
theorem nm0' : (names f0).length = 3 := by simp [names, namess]
theorem wa0 : want f0 = 1 := by simp [want, wants]
theorem valE : deal' 10 f0 3 [8] = [8, 5, 5] := by simp [deal', deals', want, wants]
theorem secA : sec 10 f0 [8, 5, 5] = some 3 := by simp [sec, secs, comb, ints_, names, namess]
theorem secB : sec 10 f0 [8, 5, 6] = none := by simp [sec, secs, comb, ints_, names, namess]
theorem fndA : fnd 10 [Str.ofString "a", Str.ofString "b"] f0 [8, 5, 5] = some 3 := by decide +kernel
theorem fndB : fnd 10 [Str.ofString "b", Str.ofString "c"] f0 [8, 5, 5] = none := by decide +kernel
theorem fndC : fnd 10 [Str.ofString "a", Str.ofString "b", Str.ofString "c"] f0 [8, 4, 6] = some 2 := by decide +kernel
end K75
namespace K75
open PySem PySem.Spec PyProof.Rows L2 VS
theorem exDeal : F_deal [d0, .int 10, .int 3, .lst [.int 8]] = ret (.lst [.int 8, .int 5, .int 5]) := by
  have h := P_deal (e := .lst [.int 8]) (m := 10) (x := 3) (ns := [8]) is0 (by rw [dp0]; decide) wf0 (by rw [nm0']; decide) (by decide) (by decide) (by decide) rfl (by rw [wa0]; rfl) (by rw [wa0]; decide) (by intro y hy; rw [List.mem_singleton.mp hy]; decide)
  rw [valE] at h
  show ofF FF_deal _ = _
  unfold ofF
  rw [h, bnd_ret]
  rfl
theorem exSec {a b c : Int} (h : InR 10 [a, b, c]) : F_secret_of [d0, .int 10, .lst [.int a, .int b, .int c]] = ret (dO (sec 10 f0 [a, b, c])) :=
  P_secret (xs := [a, b, c]) is0 (by rw [dp0]; decide) wf0 (by rw [nm0']; decide) (by decide) rfl (by rw [nm0']; rfl) h
theorem exOpen {a b c : Int} {lot : List Str} (h : InR 10 [a, b, c]) (hl : lot.length ≤ 1000) (hr : Rising lot) (hv : ∀ s ∈ lot, valid s) : F_opened [d0, .int 10, .lst (lot.map D.str), .lst [.int a, .int b, .int c]] = ret (dO (fnd 10 lot f0 [a, b, c])) :=
  P_opened (xs := [a, b, c]) is0 (by rw [dp0]; decide) wf0 (by rw [nm0']; decide) (by decide) rfl hl hr hv rfl (by rw [nm0']; rfl) h
end K75
namespace K75
open PySem PySem.Spec PyProof.Rows L2 VS
-- LB1: 4 statements
def LB1_3 : SEnv → M Fl := (sIf (fNotT (fTst (fCall 2 F__law_same (fCons (fName 14) (fCons (fLst (fCons (fName 18) (fCons (fName 18) fNil))) fNil))))) (sRet (fC (.bl false))) sNext)
def LB1_2 : SEnv → M Fl := sSeq (sMut 14 stAppend (fCons (fCallK 4 4 [3, 2, 1, 0] F_opened (fCons (fBlt bTuple (fCons (fName 23) fNil)) (fCons (fBlt bTuple (fCons (fName 20) fNil)) (fCons (fName 5) (fCons (fCall 1 F__law_copied (fCons (fName 4) fNil)) fNil))))) fNil)) LB1_3
def LB1_1 : SEnv → M Fl := sSeq (sSetC 14 (cO (fNew (fCons (fCall 4 F_opened (fCons (fCall 1 F__law_copied (fCons (fName 4) fNil)) (fCons (fName 5) (fCons (fL (fIt (one D.seq) (fCons (fName 20) fNil))) (fCons (fL (fIt (one D.seq) (fCons (fName 23) fNil))) fNil))))) fNil)))) LB1_2
def LB1_0 : SEnv → M Fl := sSeq (sSetC 18 (cV (fCall 4 F__law_found (fCons (fName 4) (fCons (fName 5) (fCons (fName 20) (fCons (fName 23) fNil))))))) LB1_1
def LB1 : SEnv → M Fl := LB1_0
-- LB2: 16 statements
def LB2_15 : SEnv → M Fl := (sFor (fSeq (fTup (fCons (fName 16) (fCons (fName 22) fNil)))) (hSet 23) LB1)
def LB2_14 : SEnv → M Fl := sSeq (sSetC 22 (cV (fL (fLcL (fSeq (fName 10)) (gSet 24) fYes (fCall 2 F__law_draw (fCons (fName 1) (fCons (fName 5) fNil))) [24])))) LB2_15
def LB2_13 : SEnv → M Fl := sSeq (sIf (fNotT (fTst (fCall 2 F__law_same (fCons (fCall 4 F_opened (fCons (fCall 1 F__law_copied (fCons (fName 4) fNil)) (fCons (fName 5) (fCons (fL (fIt (one D.seq) (fCons (fName 20) fNil))) (fCons (fName 21) fNil))))) (fCons (fName 18) fNil))))) (sRet (fC (.bl false))) sNext) LB2_14
def LB2_12 : SEnv → M Fl := sSeq (sSetC 21 (cV (fL (fLcL (fIt zipD (fCons (fName 10) (fCons (fCall 1 F__law_places (fCons (fName 4) fNil)) fNil))) (gTp 2 (gsCons (gSet 24) (gsCons (gSet 25) gsNil))) fYes (fIf (fTst (fOp oIn (fName 25) (fName 20))) (fName 24) (fC (.int 0))) [24, 25])))) LB2_13
def LB2_11 : SEnv → M Fl := sSeq (sIf (fNotT (fTst (fCall 2 F__law_same (fCons (fName 14) (fCons (fLst (fCons (fName 18) (fCons (fName 18) fNil))) fNil))))) (sRet (fC (.bl false))) sNext) LB2_12
def LB2_10 : SEnv → M Fl := sSeq (sSetC 18 (cV (fIf (fTst (fCall 2 F__law_opens (fCons (fName 4) (fCons (fName 20) fNil)))) (fName 8) (fC .non)))) LB2_11
def LB2_9 : SEnv → M Fl := sSeq (sMut 14 stAppend (fCons (fCallK 4 4 [3, 2, 1, 0] F_opened (fCons (fBlt bTuple (fCons (fName 10) fNil)) (fCons (fBlt bTuple (fCons (fName 20) fNil)) (fCons (fName 5) (fCons (fCall 2 F__law_loose (fCons (fName 1) (fCons (fName 4) fNil))) fNil))))) fNil)) LB2_10
def LB2_8 : SEnv → M Fl := sSeq (sSetC 14 (cO (fNew (fCons (fCall 4 F_opened (fCons (fCall 1 F__law_copied (fCons (fName 4) fNil)) (fCons (fName 5) (fCons (fL (fIt (one D.seq) (fCons (fName 20) fNil))) (fCons (fL (fIt (one D.seq) (fCons (fName 10) fNil))) fNil))))) fNil)))) LB2_9
def LB2_7 : SEnv → M Fl := sSeq (sSetC 20 (cV (fCall 2 F__law_lot (fCons (fName 1) (fCons (fName 3) fNil))))) LB2_8
def LB2_6 : SEnv → M Fl := sSeq (sIf (fNotT (fTst (fCall 2 F__law_same (fCons (fName 14) (fCons (fLst (fCons (fName 18) (fCons (fName 18) fNil))) fNil))))) (sRet (fC (.bl false))) sNext) LB2_7
def LB2_5 : SEnv → M Fl := sSeq (sMut 14 stAppend (fCons (fCallK 3 3 [2, 1, 0] F_secret_of (fCons (fL (fIt (one D.seq) (fCons (fName 16) fNil))) (fCons (fName 5) (fCons (fCall 1 F__law_copied (fCons (fName 4) fNil)) fNil)))) fNil)) LB2_6
def LB2_4 : SEnv → M Fl := sSeq (sSetC 14 (cO (fNew (fCons (fCall 3 F_secret_of (fCons (fCall 1 F__law_copied (fCons (fName 4) fNil)) (fCons (fName 5) (fCons (fName 19) fNil)))) fNil)))) LB2_5
def LB2_3 : SEnv → M Fl := sSeq (sFz (sPar 18 19 (cV (fCall 3 F__law_secret (fCons (fName 4) (fCons (fName 5) (fCons (fName 16) fNil))))) (cV (fCall 2 F__law_loose (fCons (fName 1) (fCons (fBlt bTuple (fCons (fName 16) fNil)) fNil)))))) LB2_4
def LB2_2 : SEnv → M Fl := sSeq (sStore 16 (fCall 2 F__law_draw (fCons (fName 1) (fCons (fName 5) fNil))) (fName 17)) LB2_3
def LB2_1 : SEnv → M Fl := sSeq (sSetA 17 (fCall 2 F__law_draw (fCons (fName 1) (fCons (fBlt bLen (fCons (fName 16) fNil)) fNil)))) LB2_2
def LB2_0 : SEnv → M Fl := sSeq (sSetC 16 (cO (fIt (one D.seq) (fCons (fName 10) fNil)))) LB2_1
def LB2 : SEnv → M Fl := LB2_0
-- LB3: 11 statements
def LB3_10 : SEnv → M Fl := (sIf (fTst (fOp (oEq true) (fBlt bRepr (fCons (fName 4) fNil)) (fName 6))) (sRet (fC (.bl false))) sNext)
def LB3_9 : SEnv → M Fl := sSeq (sFor (fIt rng1 (fCons (fC (.int 6)) fNil)) (hSet 15) LB2) LB3_10
def LB3_8 : SEnv → M Fl := sSeq (sIf (fNotT (fTst (fCall 2 F__law_same (fCons (fName 14) (fCons (fLst (fCons (fName 8) (fCons (fName 8) fNil))) fNil))))) (sRet (fC (.bl false))) sNext) LB3_9
def LB3_7 : SEnv → M Fl := sSeq (sSetC 14 (cO (fNew (fCons (fCall 3 F_secret_of (fCons (fCall 1 F__law_copied (fCons (fName 4) fNil)) (fCons (fName 5) (fCons (fL (fIt (one D.seq) (fCons (fName 10) fNil))) fNil)))) (fCons (fCall 3 F__law_secret (fCons (fName 4) (fCons (fName 5) (fCons (fName 10) fNil)))) fNil))))) LB3_8
def LB3_6 : SEnv → M Fl := sSeq (sIf (fNotT (fTst (fCall 2 F__law_same (fCons (fCall 4 F_deal (fCons (fCall 1 F__law_copied (fCons (fName 4) fNil)) (fCons (fName 5) (fCons (fName 8) (fCons (fL (fIt (one D.seq) (fCons (fName 9) fNil))) fNil))))) (fCons (fName 10) fNil))))) (sRet (fC (.bl false))) sNext) LB3_7
def LB3_5 : SEnv → M Fl := sSeq (sTold 12 13 (fBlt bRepr (fCons (fName 11) fNil)) (fCallF 4 FF_deal (fCons (fOp oIx (fName 11) (fC (.int 0))) (fCons (fName 5) (fCons (fName 8) (fCons (fOp oIx (fName 11) (fC (.int 1))) fNil))))) (fCallKF 4 4 [3, 2, 1, 0] FF_deal (fCons (fBlt bTuple (fCons (fName 9) fNil)) (fCons (fName 8) (fCons (fName 5) (fCons (fCall 1 F__law_copied (fCons (fName 4) fNil)) fNil))))) (fOrT (fNotT (fTst (fCall 2 F__law_same (fCons (fName 13) (fCons (fLst (fCons (fName 10) (fCons (fName 10) fNil))) fNil))))) (fTst (fOp (oEq true) (fBlt bRepr (fCons (fName 11) fNil)) (fName 12))))) LB3_6
def LB3_4 : SEnv → M Fl := sSeq (sPar 10 11 (cV (fOp oIx (fCall 4 F__law_dealt (fCons (fName 4) (fCons (fName 5) (fCons (fName 8) (fCons (fName 9) fNil))))) (fC (.int 0)))) (cV (fLst (fCons (fCall 2 F__law_loose (fCons (fName 1) (fCons (fName 4) fNil))) (fCons (fL (fIt (one D.seq) (fCons (fName 9) fNil))) fNil))))) LB3_5
def LB3_3 : SEnv → M Fl := sSeq (sPar 8 9 (cV (fCall 2 F__law_draw (fCons (fName 1) (fCons (fName 5) fNil)))) (cV (fL (fLcL (fIt rng1 (fCons (fCall 1 F__law_wanted (fCons (fName 4) fNil)) fNil)) (gSet 7) fYes (fCall 2 F__law_draw (fCons (fName 1) (fCons (fName 5) fNil))) [7])))) LB3_4
def LB3_2 : SEnv → M Fl := sSeq (sPar 5 6 (cV (fCall 2 F__law_pick (fCons (fName 1) (fCons (fLst (fCons (fC (.int 2)) (fCons (fC (.int 3)) (fCons (fC (.int 10)) (fCons (fOp oAdd (fC (.int 2)) (fCall 2 F__law_draw (fCons (fName 1) (fCons (fC (.int 999)) fNil)))) fNil))))) fNil)))) (cV (fBlt bRepr (fCons (fName 4) fNil)))) LB3_3
def LB3_1 : SEnv → M Fl := sSeq (sSetC 4 (cV (fCall 4 F__law_formula (fCons (fName 1) (fCons (fName 3) (fCons (fCall 2 F__law_pick (fCons (fName 1) (fCons (fLst (fCons (fC (.int 1)) (fCons (fC (.int 3)) (fCons (fC (.int 6)) fNil)))) fNil))) (fCons (fC (.int 12)) fNil))))))) LB3_2
def LB3_0 : SEnv → M Fl := sSeq (sSetC 3 (cV (fCall 2 F__law_names (fCons (fName 1) (fCons (fOp oAdd (fC (.int 1)) (fCall 2 F__law_draw (fCons (fName 1) (fCons (fC (.int 6)) fNil)))) fNil))))) LB3_1
def LB3 : SEnv → M Fl := LB3_0
-- LBT: 5 statements
def LBT_4 : SEnv → M Fl := (sRet (fCall 2 F__law_same (fCons (fName 14) (fCons (fLst (fCons (fLst (fCons (fC (.int 8)) (fCons (fC (.int 5)) (fCons (fC (.int 5)) fNil)))) (fCons (fC (.int 3)) (fCons (fC .non) (fCons (fC (.int 3)) (fCons (fC .non) (fCons (fC (.int 2)) fNil))))))) fNil))))
def LBT_3 : SEnv → M Fl := sSeq (sMut 14 stExtend (fCons (fLst (fCons (fCall 3 F_secret_of (fCons (fName 7) (fCons (fC (.int 10)) (fCons (fLst (fCons (fC (.int 8)) (fCons (fC (.int 5)) (fCons (fC (.int 5)) fNil)))) fNil)))) (fCons (fCall 3 F_secret_of (fCons (fName 7) (fCons (fC (.int 10)) (fCons (fLst (fCons (fC (.int 8)) (fCons (fC (.int 5)) (fCons (fC (.int 6)) fNil)))) fNil)))) (fCons (fCall 4 F_opened (fCons (fName 7) (fCons (fC (.int 10)) (fCons (fLst (fCons (fC (.str (Str.ofString "a"))) (fCons (fC (.str (Str.ofString "b"))) (fCons (fC (.str (Str.ofString "c"))) fNil)))) (fCons (fLst (fCons (fC (.int 8)) (fCons (fC (.int 4)) (fCons (fC (.int 6)) fNil)))) fNil))))) fNil)))) fNil)) LBT_4
def LBT_2 : SEnv → M Fl := sSeq (sSetC 14 (cO (fNew (fCons (fCall 4 F_deal (fCons (fName 7) (fCons (fC (.int 10)) (fCons (fC (.int 3)) (fCons (fLst (fCons (fC (.int 8)) fNil)) fNil))))) (fCons (fCall 4 F_opened (fCons (fName 7) (fCons (fC (.int 10)) (fCons (fLst (fCons (fC (.str (Str.ofString "a"))) (fCons (fC (.str (Str.ofString "b"))) fNil))) (fCons (fLst (fCons (fC (.int 8)) (fCons (fC (.int 5)) (fCons (fC (.int 5)) fNil)))) fNil))))) (fCons (fCall 4 F_opened (fCons (fName 7) (fCons (fC (.int 10)) (fCons (fLst (fCons (fC (.str (Str.ofString "b"))) (fCons (fC (.str (Str.ofString "c"))) fNil))) (fCons (fLst (fCons (fC (.int 8)) (fCons (fC (.int 5)) (fCons (fC (.int 5)) fNil)))) fNil))))) fNil)))))) LBT_3
def LBT_1 : SEnv → M Fl := sSeq (sSetC 7 (cV (fTup (fCons (fC (.str (Str.ofString "all"))) (fCons (fLst (fCons (fTup (fCons (fC (.str (Str.ofString "name"))) (fCons (fC (.str (Str.ofString "a"))) fNil))) (fCons (fTup (fCons (fC (.str (Str.ofString "any"))) (fCons (fLst (fCons (fTup (fCons (fC (.str (Str.ofString "name"))) (fCons (fC (.str (Str.ofString "b"))) fNil))) (fCons (fTup (fCons (fC (.str (Str.ofString "name"))) (fCons (fC (.str (Str.ofString "c"))) fNil))) fNil))) fNil))) fNil))) fNil))))) LBT_2
def LBT_0 : SEnv → M Fl := sSeq (sFor (fIt rng1 (fCons (fC (.int 10)) fNil)) (hSet 2) LB3) LBT_1
def LBT : SEnv → M Fl := LBT_0
theorem B_law_eq : B_law = LBT := rfl
theorem pickK3 {F : List D → M D} {a b c : D} : (if [a, b, c].length = 3 ∧ (pick [2, 1, 0] [a, b, c]).length = 3 then F (pick [2, 1, 0] [a, b, c]) else stuck) = F [c, b, a] := rfl
theorem pickK4 {F : List D → M D} {a b c d : D} : (if [a, b, c, d].length = 4 ∧ (pick [3, 2, 1, 0] [a, b, c, d]).length = 4 then F (pick [3, 2, 1, 0] [a, b, c, d]) else stuck) = F [d, c, b, a] := rfl
theorem callK3 {F : List D → M D} {A B C : DEnv → M D} {env : DEnv} {a b c : D} (ha : A env = ret a) (hb : B env = ret b) (hc : C env = ret c) : fCallK 3 3 [2, 1, 0] F (fCons A (fCons B (fCons C fNil))) env = F [c, b, a] := by
  unfold fCallK
  simp only [fCons, fNil, ha, hb, hc, bnd_ret]
  exact pickK3
theorem callK4 {F : List D → M D} {A B C E : DEnv → M D} {env : DEnv} {a b c e : D} (ha : A env = ret a) (hb : B env = ret b) (hc : C env = ret c) (he : E env = ret e) : fCallK 4 4 [3, 2, 1, 0] F (fCons A (fCons B (fCons C (fCons E fNil)))) env = F [e, c, b, a] := by
  unfold fCallK
  simp only [fCons, fNil, ha, hb, hc, he, bnd_ret]
  exact pickK4
theorem app1 {a d : D} : stAppend [a] [d] = some ([a, d], .non) := stAppend_ok (a := [a]) (sz (show 1 < 1000000 by decide))
theorem pl_dO (o : Option Int) (n : Nat) : pl (n + 1) (dO o) := by
  cases o <;> trivial
end K75
namespace K75
open PySem PySem.Spec PyProof.Rows L2 VS
structure Cf (f : Fm) (d : D) (m : Int) : Prop where
  is : IsF f d
  wf : WF f
  dp : dep f ≤ 7
  nl : (names f).length ≤ 12
  m0 : 2 ≤ m
  m1 : m ≤ 1001
structure Lt (lot : List Str) : Prop where
  l : lot.length ≤ 21
  r : Rising lot
  v : ∀ s ∈ lot, valid s
theorem Cf.copied {f : Fm} {d : D} {m : Int} (c : Cf f d m) : F__law_copied [d] = ret d :=
  L_copied (pl_isF 8 f d 20 (by have := c.dp; omega) c.is (wf_ne f c.wf) (by have := c.nl; omega) (by have := c.dp; omega))
theorem Cf.opened {f : Fm} {d : D} {m : Int} (c : Cf f d m) {d' e g : D} {lot : List Str} {xs : List Int} (h : IsF f d') (hl : Lt lot) (he : e.seq = some (lot.map D.str)) (hg : g.seq = some (xs.map D.int)) (hx : xs.length = (names f).length) (hr : InR m xs) :
    F_opened [d', .int m, e, g] = ret (dO (fnd m lot f xs)) :=
  P_opened h (by have := c.dp; omega) c.wf (by have := c.nl; omega) c.m0 he (by have := hl.l; omega) hl.r hl.v hg hx hr
theorem Cf.found {f : Fm} {d : D} {m : Int} (c : Cf f d m) {lot : List Str} {xs : List Int} (hx : xs.length = (names f).length) :
    F__law_found [d, .int m, .lst (lot.map D.str), .lst (xs.map D.int)] = ret (dO (fnd m lot f xs)) :=
  L_found c.is (by have := c.dp; omega) (wf_ne f c.wf) (by have := c.nl; omega) (by have := c.m0; omega) rfl hx
theorem same2 {o : Option Int} : F__law_same [.lst [dO o, dO o], .lst [dO o, dO o]] = ret (.bl true) :=
  L_same (show pl (19 + 1) (D.lst [dO o, dO o]) from ⟨show 2 ≤ 1000 by decide, fun x hx => by
    rcases List.mem_cons.mp hx with rfl | hx
    · exact pl_dO o _
    · rcases List.mem_cons.mp hx with rfl | hx
      · exact pl_dO o _
      · cases hx⟩)
theorem one_lst (xs : List D) : one D.seq [.lst xs] = some xs := rfl
theorem one_tup (xs : List D) : one D.seq [.tup xs] = some xs := rfl
theorem tup_lst (xs : List D) : bTuple [.lst xs] = some (.tup xs) := rfl
theorem sb {f : Fm} {d : D} {m : Int} (c : Cf f d m) {lot : List Str} (hl : Lt lot) {xs : List Int} (hx : xs.length = (names f).length) (hr : InR m xs)
    {a0 a1 a2 a3 a6 a7 a8 a9 a10 a11 a12 a13 a14 a15 a16 a17 a18 a19 a21 a22 a24 a25 : Sl} :
    LB1 [a0, a1, a2, a3, .val d, .val (.int m), a6, a7, a8, a9, a10, a11, a12, a13, a14, a15, a16, a17, a18, a19, .val (.lst (lot.map D.str)), a21, a22, .val (.lst (xs.map D.int)), a24, a25] =
      ret (.nx [a0, a1, a2, a3, .val d, .val (.int m), a6, a7, a8, a9, a10, a11, a12, a13, .own [dO (fnd m lot f xs), dO (fnd m lot f xs)], a15, a16, a17, .val (dO (fnd m lot f xs)), a19, .val (.lst (lot.map D.str)), a21, a22, .val (.lst (xs.map D.int)), a24, a25]) := by
  unfold LB1 LB1_0
  have e1 := c.found (lot := lot) hx
  have e2 := c.copied
  have e3 := c.opened (e := .lst (lot.map D.str)) (g := .lst (xs.map D.int)) c.is hl rfl rfl hx hr
  have e4 := c.opened (e := .tup (lot.map D.str)) (g := .tup (xs.map D.int)) c.is hl rfl rfl hx hr
  have e5 := same2 (o := fnd m lot f xs)
  generalize dO (fnd m lot f xs) = r at *
  simp only [fDef, fDefF, ofF, sSeq, sIf, sNext, sDrop, sRet, sRetF, sRetO, sSetC, sSetA, sPar, cV, cO, fTst, fBlt, fCall, fCallF, fCons, fNil, fName, fC, fOp, fUn, fAndV, fOrV, fNotV, fAndT, fOrT, fNotT, fIf, fTup_eq, fLst_eq, fNew_eq, chkL0, chkL1, chkL2, chkL3, chkL4, chkT1, chkT2, chkT3, chkN0, chkN1, fL, fLcL, fSeq, fStar, fIt, fStrs, fSl, fPart, sFor, sAsgT, bnd_ret, ofO_some, al, cl, Sl.al, Sl.cl, startS, wipeD, hSet, gSet, List.map_cons, List.map_nil, List.length_cons, List.length_nil, List.cons_append, List.nil_append, List.getElem?_cons_zero, List.getElem?_cons_succ, List.replicate, List.set_cons_zero, List.set_cons_succ, eqD_int, eqD_str, neD_int, eqD_bl, neD_bl, geD_int, gtD_int, ltD_int, addD_int, subD_int, Nat.reduceSub, Nat.reduceAdd, Nat.reduceLT, decide_true, decide_false, if_true, if_false, Bool.false_eq_true, Option.some.injEq, reduceIte, and_self, true_and, and_true, e1]
  unfold LB1_1
  simp only [fDef, fDefF, ofF, sSeq, sIf, sNext, sDrop, sRet, sRetF, sRetO, sSetC, sSetA, sPar, cV, cO, fTst, fBlt, fCall, fCallF, fCons, fNil, fName, fC, fOp, fUn, fAndV, fOrV, fNotV, fAndT, fOrT, fNotT, fIf, fTup_eq, fLst_eq, fNew_eq, chkL0, chkL1, chkL2, chkL3, chkL4, chkT1, chkT2, chkT3, chkN0, chkN1, fL, fLcL, fSeq, fStar, fIt, fStrs, fSl, fPart, sFor, sAsgT, bnd_ret, ofO_some, al, cl, Sl.al, Sl.cl, startS, wipeD, hSet, gSet, List.map_cons, List.map_nil, List.length_cons, List.length_nil, List.cons_append, List.nil_append, List.getElem?_cons_zero, List.getElem?_cons_succ, List.replicate, List.set_cons_zero, List.set_cons_succ, eqD_int, eqD_str, neD_int, eqD_bl, neD_bl, geD_int, gtD_int, ltD_int, addD_int, subD_int, Nat.reduceSub, Nat.reduceAdd, Nat.reduceLT, decide_true, decide_false, if_true, if_false, Bool.false_eq_true, Option.some.injEq, reduceIte, and_self, true_and, and_true, e2, one_lst, e3]
  unfold LB1_2
  have e6 : fCallK 4 4 [3, 2, 1, 0] F_opened (fCons (fBlt bTuple (fCons (fName 23) fNil)) (fCons (fBlt bTuple (fCons (fName 20) fNil)) (fCons (fName 5) (fCons (fCall 1 F__law_copied (fCons (fName 4) fNil)) fNil)))) (cl [a0, a1, a2, a3, .val d, .val (.int m), a6, a7, a8, a9, a10, a11, a12, a13, .own [r], a15, a16, a17, .val r, a19, .val (.lst (lot.map D.str)), a21, a22, .val (.lst (xs.map D.int)), a24, a25]) = ret r := by
    rw [callK4 (a := .tup (xs.map D.int)) (b := .tup (lot.map D.str)) (c := .int m) (e := d) (by simp only [fDef, fDefF, ofF, sSeq, sIf, sNext, sDrop, sRet, sRetF, sRetO, sSetC, sSetA, sPar, cV, cO, fTst, fBlt, fCall, fCallF, fCons, fNil, fName, fC, fOp, fUn, fAndV, fOrV, fNotV, fAndT, fOrT, fNotT, fIf, fTup_eq, fLst_eq, fNew_eq, chkL0, chkL1, chkL2, chkL3, chkL4, chkT1, chkT2, chkT3, chkN0, chkN1, fL, fLcL, fSeq, fStar, fIt, fStrs, fSl, fPart, sFor, sAsgT, bnd_ret, ofO_some, al, cl, Sl.al, Sl.cl, startS, wipeD, hSet, gSet, List.map_cons, List.map_nil, List.length_cons, List.length_nil, List.cons_append, List.nil_append, List.getElem?_cons_zero, List.getElem?_cons_succ, List.replicate, List.set_cons_zero, List.set_cons_succ, eqD_int, eqD_str, neD_int, eqD_bl, neD_bl, geD_int, gtD_int, ltD_int, addD_int, subD_int, Nat.reduceSub, Nat.reduceAdd, Nat.reduceLT, decide_true, decide_false, if_true, if_false, Bool.false_eq_true, Option.some.injEq, reduceIte, and_self, true_and, and_true, tup_lst]) (by simp only [fDef, fDefF, ofF, sSeq, sIf, sNext, sDrop, sRet, sRetF, sRetO, sSetC, sSetA, sPar, cV, cO, fTst, fBlt, fCall, fCallF, fCons, fNil, fName, fC, fOp, fUn, fAndV, fOrV, fNotV, fAndT, fOrT, fNotT, fIf, fTup_eq, fLst_eq, fNew_eq, chkL0, chkL1, chkL2, chkL3, chkL4, chkT1, chkT2, chkT3, chkN0, chkN1, fL, fLcL, fSeq, fStar, fIt, fStrs, fSl, fPart, sFor, sAsgT, bnd_ret, ofO_some, al, cl, Sl.al, Sl.cl, startS, wipeD, hSet, gSet, List.map_cons, List.map_nil, List.length_cons, List.length_nil, List.cons_append, List.nil_append, List.getElem?_cons_zero, List.getElem?_cons_succ, List.replicate, List.set_cons_zero, List.set_cons_succ, eqD_int, eqD_str, neD_int, eqD_bl, neD_bl, geD_int, gtD_int, ltD_int, addD_int, subD_int, Nat.reduceSub, Nat.reduceAdd, Nat.reduceLT, decide_true, decide_false, if_true, if_false, Bool.false_eq_true, Option.some.injEq, reduceIte, and_self, true_and, and_true, tup_lst]) (by simp only [fDef, fDefF, ofF, sSeq, sIf, sNext, sDrop, sRet, sRetF, sRetO, sSetC, sSetA, sPar, cV, cO, fTst, fBlt, fCall, fCallF, fCons, fNil, fName, fC, fOp, fUn, fAndV, fOrV, fNotV, fAndT, fOrT, fNotT, fIf, fTup_eq, fLst_eq, fNew_eq, chkL0, chkL1, chkL2, chkL3, chkL4, chkT1, chkT2, chkT3, chkN0, chkN1, fL, fLcL, fSeq, fStar, fIt, fStrs, fSl, fPart, sFor, sAsgT, bnd_ret, ofO_some, al, cl, Sl.al, Sl.cl, startS, wipeD, hSet, gSet, List.map_cons, List.map_nil, List.length_cons, List.length_nil, List.cons_append, List.nil_append, List.getElem?_cons_zero, List.getElem?_cons_succ, List.replicate, List.set_cons_zero, List.set_cons_succ, eqD_int, eqD_str, neD_int, eqD_bl, neD_bl, geD_int, gtD_int, ltD_int, addD_int, subD_int, Nat.reduceSub, Nat.reduceAdd, Nat.reduceLT, decide_true, decide_false, if_true, if_false, Bool.false_eq_true, Option.some.injEq, reduceIte, and_self, true_and, and_true]) (by simp only [fDef, fDefF, ofF, sSeq, sIf, sNext, sDrop, sRet, sRetF, sRetO, sSetC, sSetA, sPar, cV, cO, fTst, fBlt, fCall, fCallF, fCons, fNil, fName, fC, fOp, fUn, fAndV, fOrV, fNotV, fAndT, fOrT, fNotT, fIf, fTup_eq, fLst_eq, fNew_eq, chkL0, chkL1, chkL2, chkL3, chkL4, chkT1, chkT2, chkT3, chkN0, chkN1, fL, fLcL, fSeq, fStar, fIt, fStrs, fSl, fPart, sFor, sAsgT, bnd_ret, ofO_some, al, cl, Sl.al, Sl.cl, startS, wipeD, hSet, gSet, List.map_cons, List.map_nil, List.length_cons, List.length_nil, List.cons_append, List.nil_append, List.getElem?_cons_zero, List.getElem?_cons_succ, List.replicate, List.set_cons_zero, List.set_cons_succ, eqD_int, eqD_str, neD_int, eqD_bl, neD_bl, geD_int, gtD_int, ltD_int, addD_int, subD_int, Nat.reduceSub, Nat.reduceAdd, Nat.reduceLT, decide_true, decide_false, if_true, if_false, Bool.false_eq_true, Option.some.injEq, reduceIte, and_self, true_and, and_true, e2])]
    exact e4
  rw [sSeq, sMut_ok (ds := [r]) (es := [r]) (ds' := [r, r]) (d := .non) rfl (by simp only [fCons, fNil, e6, bnd_ret]) app1, bnd_ret]
  show LB1_3 _ = _
  unfold LB1_3
  simp only [fDef, fDefF, ofF, sSeq, sIf, sNext, sDrop, sRet, sRetF, sRetO, sSetC, sSetA, sPar, cV, cO, fTst, fBlt, fCall, fCallF, fCons, fNil, fName, fC, fOp, fUn, fAndV, fOrV, fNotV, fAndT, fOrT, fNotT, fIf, fTup_eq, fLst_eq, fNew_eq, chkL0, chkL1, chkL2, chkL3, chkL4, chkT1, chkT2, chkT3, chkN0, chkN1, fL, fLcL, fSeq, fStar, fIt, fStrs, fSl, fPart, sFor, sAsgT, bnd_ret, ofO_some, al, cl, Sl.al, Sl.cl, startS, wipeD, hSet, gSet, List.map_cons, List.map_nil, List.length_cons, List.length_nil, List.cons_append, List.nil_append, List.getElem?_cons_zero, List.getElem?_cons_succ, List.replicate, List.set_cons_zero, List.set_cons_succ, eqD_int, eqD_str, neD_int, eqD_bl, neD_bl, geD_int, gtD_int, ltD_int, addD_int, subD_int, Nat.reduceSub, Nat.reduceAdd, Nat.reduceLT, decide_true, decide_false, if_true, if_false, Bool.false_eq_true, Option.some.injEq, reduceIte, and_self, true_and, and_true, e5]
  rfl
theorem Ok.seq {n k : Nat} {F G : SEnv → M Fl} {e : SEnv} {P : SEnv → Prop} {Q : Fl → Prop} (h : Ok n (F e) (fun r => ∃ e', r = .nx e' ∧ P e')) (i : ∀ e', P e' → Ok k (G e') Q) : Ok (n + k) (sSeq F G e) Q := by
  refine Ok.bnd h fun r hr => ?_
  obtain ⟨e', rfl, hp⟩ := hr
  exact i e' hp
theorem seq_nx {F G : SEnv → M Fl} {e e' : SEnv} (h : F e = ret (.nx e')) : sSeq F G e = G e' := by
  unfold sSeq
  rw [h, bnd_ret]
end K75
namespace K75
open PySem PySem.Spec PyProof.Rows L2 VS
theorem ixN_ok {n j : Nat} (h : j < n) : ixN n (j : Nat) = some j := by
  unfold ixN
  rw [if_pos (by omega), if_pos (by omega)]
  simp
theorem store_ok {i n : Nat} {env : SEnv} {ds : List D} {A B : DEnv → M D} {j : Nat} {P : D → Prop} (h : env[i]? = some (.own ds)) (hA : Ok n (A (cl env)) P) (hB : B (cl env) = ret (.int (j : Nat))) (hj : j < ds.length) :
    Ok n (sStore i A B env) (fun r => ∃ d, P d ∧ r = .nx (env.set i (.own (ds.set j d)))) := by
  unfold sStore
  rw [h]
  refine (hA.bnd (k := 0) fun d hd => ?_).mono (Nat.le_refl _) fun _ q => q
  simp only [hB, bnd_ret, ixN_ok hj]
  exact Ok.ret 0 ⟨d, hd, rfl⟩
theorem set_in {m : Int} {xs : List Int} (h : InR m xs) {j : Nat} {v : Int} (h0 : 0 ≤ v) (h1 : v < m) : InR m (xs.set j v) := fun x hx => by
  rcases List.mem_or_eq_of_mem_set hx with q | q
  · exact h x q
  · rw [q]; exact ⟨h0, h1⟩
theorem hid_in {m : Int} (hm : 0 < m) {lot ns : List Str} {xs : List Int} (h : InR m xs) : InR m (hid lot xs ns) := fun x hx => by
  unfold hid at hx
  rw [List.mem_iff_getElem] at hx
  obtain ⟨i, hi, rfl⟩ := hx
  rw [List.getElem_zipWith]
  rw [List.length_zipWith] at hi
  split
  · exact h _ (List.getElem_mem _)
  · exact ⟨Int.le_refl 0, hm⟩
/-- the state of a turn -/
def Inv (nm d k : D) (m x : Int) (du : List Int) (e : SEnv) : Prop := ∃ a0 a2 a7 a9 a11 a12 a13 a14 a15 a16 a17 a18 a19 a20 a21 a22 a23 a24 a25,
  e = [a0, .val .strm, a2, .val nm, .val d, .val (.int m), .val k, a7, .val (.int x), a9, .val (.lst (du.map D.int)), a11, a12, a13, a14, a15, a16, a17, a18, a19, a20, a21, a22, a23, a24, a25]
theorem bLen_lst (xs : List D) : bLen [.lst xs] = some (.int xs.length) := rfl
theorem map_set (xs : List Int) (j : Nat) (v : Int) : (xs.map D.int).set j (.int v) = (xs.set j v).map D.int := by rw [List.map_set]
theorem numDraws {m : Int} (h0 : 0 < m) (h1 : m < 1000000000) {env : DEnv} {tg : D → DEnv → Option DEnv} {F : DEnv → M D} (ds : List D) (hd : ds.length ≤ 1000) (h : ∀ d ∈ ds, ∃ env', tg d env = some env' ∧ F env' = F__law_draw [.strm, .int m]) :
    Ok ds.length (lcGo tg fYes F env ds []) (fun r => ∃ xs : List Int, r = xs.map D.int ∧ xs.length = ds.length ∧ InR m xs) := by
  have q := Ok.lc (n := 1) (P := fun _ r => ∃ d : Int, r = .int d ∧ 0 ≤ d ∧ d < m) (tg := tg) (F := F) (env := env) ds [] (fun d hd => by
    obtain ⟨env', e1, e2⟩ := h d hd
    exact ⟨env', e1, e2 ▸ p_draw h0 h1⟩) (by
    have : ds.length ≤ sizeLine := sz (Nat.le_trans hd (by decide))
    simpa using this)
  refine q.mono (by omega) fun ys hy => ?_
  obtain ⟨zs, rfl, hl, hp⟩ := hy
  have : ∀ (zs : List D), (∀ z ∈ zs, ∃ d : Int, z = .int d ∧ 0 ≤ d ∧ d < m) → ∃ xs : List Int, zs = xs.map D.int ∧ xs.length = zs.length ∧ InR m xs := by
    intro zs
    induction zs with
    | nil => exact fun _ => ⟨[], rfl, rfl, fun x hx => by cases hx⟩
    | cons z zs ih =>
      intro hz
      obtain ⟨v, rfl, v0, v1⟩ := hz z List.mem_cons_self
      obtain ⟨xs, rfl, hl, hr⟩ := ih fun y hy => hz y (List.mem_cons_of_mem _ hy)
      refine ⟨v :: xs, rfl, by simp, fun y hy => ?_⟩
      rcases List.mem_cons.mp hy with rfl | hy
      · exact ⟨v0, v1⟩
      · exact hr y hy
  obtain ⟨xs, rfl, h3, h4⟩ := this ys fun z hz => by
    obtain ⟨i, hi, rfl⟩ := List.mem_iff_getElem.mp hz
    exact hp i (ds[i]'(by omega)) ys[i] (List.getElem?_eq_getElem _) (List.getElem?_eq_getElem _)
  exact ⟨xs, by simp, by omega, h4⟩
end K75
namespace K75
open PySem PySem.Spec PyProof.Rows L2 VS
variable {f : Fm} {nm d k : D} {m x : Int} {du nums : List Int} {ns : List Str} {e : SEnv}
theorem Cf.secret (c : Cf f d m) {d' e : D} {xs : List Int} (h : IsF f d') (he : e.seq = some (xs.map D.int)) (hx : xs.length = (names f).length) (hr : InR m xs) :
    F_secret_of [d', .int m, e] = ret (dO (sec m f xs)) := P_secret h (by have := c.dp; omega) c.wf (by have := c.nl; omega) c.m0 he hx hr
theorem Cf.lsecret (c : Cf f d m) {xs : List Int} (hx : xs.length = (names f).length) :
    F__law_secret [d, .int m, .lst (xs.map D.int)] = ret (dO (sec m f xs)) := L_secret c.is (by have := c.dp; omega) (wf_ne f c.wf) (by have := c.nl; omega) (by have := c.m0; omega) hx
theorem Cf.loose (c : Cf f d m) : Ok 180 (F__law_loose [.strm, d]) (fun r => IsF f r) := by
  have h := L_loose (pl_isF 8 f d 20 (by have := c.dp; omega) c.is (wf_ne f c.wf) (by have := c.nl; omega) (by have := c.dp; omega))
  refine h.mono ?_ fun r hr => loo_isF f d r 20 c.is hr
  refine Nat.le_trans (cost_isF f d c.is (wf_ne f c.wf)) (Nat.le_trans (Nat.mul_le_mul (show 2 * dep f + 1 ≤ 15 by have := c.dp; omega) c.nl) (by decide))
theorem looseInts {e : D} {xs : List Int} (h : e.seq = some (xs.map D.int)) (hl : xs.length ≤ 1000) : Ok 1 (F__law_loose [.strm, e]) (fun r => r.seq = some (xs.map D.int)) := by
  have q := L_loose (pl_ints (n := 18) h hl)
  rw [cost_ints h] at q
  exact q.mono (Nat.le_refl _) fun r hr => loo_ints hr h
theorem fz_val (d : D) : (Sl.val d).fz = .val d := rfl
theorem fz_own (d : List D) : (Sl.own d).fz = .val (.lst d) := rfl
theorem names_pos : ∀ {f : Fm}, WF f → 1 ≤ (names f).length
  | .name s, _ => by simp [names]
  | .gate b ps, h => by
    have h' : ps ≠ [] ∧ WFs ps := by simpa only [WF] using h
    have q := (lens_le (wfs_ne ps h'.2)).1
    rw [names_gate]
    cases ps with
    | nil => exact absurd rfl h'.1
    | cons p r => exact Nat.le_trans (by simp) q
theorem pl_o (o : Option Int) : pl 20 (dO o) := pl_dO o 19
theorem seq_lst (xs : List D) : D.seq (.lst xs) = some xs := rfl
theorem seq_tup (xs : List D) : D.seq (.tup xs) = some xs := rfl
theorem two_zipI : ∀ (as : List Int) (bs : List Str), Two (fun (p : Int × Str) t => t = D.tup [.int p.1, .str p.2]) (as.zip bs) (List.zipWith (fun x y => D.tup [x, y]) (as.map D.int) (bs.map D.str))
  | [], _ => rfl
  | _ :: _, [] => rfl
  | a :: as, b :: bs => ⟨_, _, rfl, rfl, two_zipI as bs⟩
theorem hid_map (lot : List Str) : ∀ (as : List Int) (bs : List Str), (as.zip bs).map (fun p => D.int (if p.2 ∈ lot then p.1 else 0)) = (hid lot as bs).map D.int
  | [], _ => rfl
  | _ :: _, [] => rfl
  | a :: as, b :: bs => by
    show _ :: ((as.zip bs).map _) = _ :: ((hid lot as bs).map D.int)
    rw [hid_map lot as bs]
theorem hid_go {lot : List Str} {a0 a1 a2 a3 a4 a5 a6 a7 a8 a9 a10 a11 a12 a13 a14 a15 a16 a17 a18 a19 a21 a22 a23 a24 a25 : Option D} (as : List Int) (bs : List Str) (h : as.length ≤ 1000) :
    lcGo (gTp 2 (gsCons (gSet 24) (gsCons (gSet 25) gsNil))) fYes (fIf (fTst (fOp oIn (fName 25) (fName 20))) (fName 24) (fC (.int 0))) [a0, a1, a2, a3, a4, a5, a6, a7, a8, a9, a10, a11, a12, a13, a14, a15, a16, a17, a18, a19, some (.lst (lot.map D.str)), a21, a22, a23, a24, a25] (List.zipWith (fun x y => D.tup [x, y]) (as.map D.int) (bs.map D.str)) [] = ret ((hid lot as bs).map D.int) := by
  rw [lcGo_two (fun p => D.int (if p.2 ∈ lot then p.1 else 0)) (as.zip bs) _ [] (two_zipI as bs) ?_ ?_, List.nil_append, hid_map]
  · intro p t _ ht
    subst ht
    refine ⟨_, rfl, ?_⟩
    have e := in_lot (e := .lst (lot.map D.str)) rfl p.2
    simp only [fDef, fDefF, ofF, sSeq, sIf, sNext, sDrop, sRet, sRetF, sRetO, sSetC, sSetA, sPar, cV, cO, fTst, fBlt, fCall, fCallF, fCons, fNil, fName, fC, fOp, fUn, fAndV, fOrV, fNotV, fAndT, fOrT, fNotT, fIf, fTup_eq, fLst_eq, fNew_eq, chkL0, chkL1, chkL2, chkL3, chkL4, chkT1, chkT2, chkT3, chkN0, chkN1, fL, fLcL, fSeq, fStar, fIt, fStrs, fSl, fPart, sFor, sAsgT, bnd_ret, ofO_some, al, cl, Sl.al, Sl.cl, startS, wipeD, hSet, gSet, List.map_cons, List.map_nil, List.length_cons, List.length_nil, List.cons_append, List.nil_append, List.getElem?_cons_zero, List.getElem?_cons_succ, List.replicate, List.set_cons_zero, List.set_cons_succ, eqD_int, eqD_str, neD_int, eqD_bl, neD_bl, geD_int, gtD_int, ltD_int, addD_int, subD_int, Nat.reduceSub, Nat.reduceAdd, Nat.reduceLT, decide_true, decide_false, if_true, if_false, Bool.false_eq_true, Option.some.injEq, reduceIte, and_self, true_and, and_true, e]
    by_cases q : p.2 ∈ lot
    · simp only [q, decide_true, if_pos]
    · simp only [q, decide_false, if_neg Bool.false_ne_true, Bool.false_eq_true, if_false]
  · have : (as.zip bs).length ≤ as.length := by rw [List.length_zip]; omega
    exact sz (by simpa using (show (as.zip bs).length ≤ 1000000 by omega))
theorem ib (c : Cf f d m) (hns : ns.length ≤ 20) (hn0 : 0 < ns.length) (hw : ∀ s ∈ ns, word s) (x0 : 0 ≤ x) (x1 : x < m) (hnu : InR m nums) (hnl : nums.length = want f)
    (h : Inv (.lst (ns.map D.str)) d k m x (deal' m f x nums) e) : Ok 217 (LB2 e) (fun r => ∃ e', r = .nx e' ∧ Inv (.lst (ns.map D.str)) d k m x (deal' m f x nums) e') := by
  obtain ⟨a0, a2, a7, a9, a11, a12, a13, a14, a15, a16, a17, a18, a19, a20, a21, a22, a23, a24, a25, rfl⟩ := h
  have hm0 : 0 < m := by have := c.m0; omega
  have hm1 : m < 1000000000 := by have := c.m1; omega
  have hlen : (deal' m f x nums).length = (names f).length := deal_length m f x nums (wf_ne f c.wf) (by omega)
  have hin : InR m (deal' m f x nums) := deal_in m hm0 f x nums (wf_ne f c.wf) hnu x0 x1
  have hpos : 1 ≤ (names f).length := names_pos c.wf
  have hnl12 := c.nl
  have hfd := fun lot => fnd_deal m hm0 lot f x nums (wf_ne f c.wf) (by omega) hnu x0 x1
  generalize deal' m f x nums = du at *
  have hdu : du.length ≤ 12 := by omega
  have hcp := c.copied
  unfold LB2 LB2_0
  simp only [fDef, fDefF, ofF, sSeq, sIf, sNext, sDrop, sRet, sRetF, sRetO, sSetC, sSetA, sPar, cV, cO, fTst, fBlt, fCall, fCallF, fCons, fNil, fName, fC, fOp, fUn, fAndV, fOrV, fNotV, fAndT, fOrT, fNotT, fIf, fTup_eq, fLst_eq, fNew_eq, chkL0, chkL1, chkL2, chkL3, chkL4, chkT1, chkT2, chkT3, chkN0, chkN1, fL, fLcL, fSeq, fStar, fIt, fStrs, fSl, fPart, sFor, sAsgT, bnd_ret, ofO_some, al, cl, Sl.al, Sl.cl, startS, wipeD, hSet, gSet, List.map_cons, List.map_nil, List.length_cons, List.length_nil, List.cons_append, List.nil_append, List.getElem?_cons_zero, List.getElem?_cons_succ, List.replicate, List.set_cons_zero, List.set_cons_succ, eqD_int, eqD_str, neD_int, eqD_bl, neD_bl, geD_int, gtD_int, ltD_int, addD_int, subD_int, Nat.reduceSub, Nat.reduceAdd, Nat.reduceLT, decide_true, decide_false, if_true, if_false, Bool.false_eq_true, Option.some.injEq, reduceIte, and_self, true_and, and_true, one_lst]
  unfold LB2_1
  refine Ok.mono (Ok.seq (n := 1) (k := 216) (P := fun e' => ∃ j : Nat, j < du.length ∧ e' = [a0, .val .strm, a2, .val (.lst (ns.map D.str)), .val d, .val (.int m), .val k, a7, .val (.int x), a9, .val (.lst (du.map D.int)), a11, a12, a13, a14, a15, .own (du.map D.int), .val (.int (j : Nat)), a18, a19, a20, a21, a22, a23, a24, a25]) ?_ fun e' he' => ?_) (Nat.le_refl _) fun _ q => q
  · simp only [fDef, fDefF, ofF, sSeq, sIf, sNext, sDrop, sRet, sRetF, sRetO, sSetC, sSetA, sPar, cV, cO, fTst, fBlt, fCall, fCallF, fCons, fNil, fName, fC, fOp, fUn, fAndV, fOrV, fNotV, fAndT, fOrT, fNotT, fIf, fTup_eq, fLst_eq, fNew_eq, chkL0, chkL1, chkL2, chkL3, chkL4, chkT1, chkT2, chkT3, chkN0, chkN1, fL, fLcL, fSeq, fStar, fIt, fStrs, fSl, fPart, sFor, sAsgT, bnd_ret, ofO_some, al, cl, Sl.al, Sl.cl, startS, wipeD, hSet, gSet, List.map_cons, List.map_nil, List.length_cons, List.length_nil, List.cons_append, List.nil_append, List.getElem?_cons_zero, List.getElem?_cons_succ, List.replicate, List.set_cons_zero, List.set_cons_succ, eqD_int, eqD_str, neD_int, eqD_bl, neD_bl, geD_int, gtD_int, ltD_int, addD_int, subD_int, Nat.reduceSub, Nat.reduceAdd, Nat.reduceLT, decide_true, decide_false, if_true, if_false, Bool.false_eq_true, Option.some.injEq, reduceIte, and_self, true_and, and_true, bLen_lst, List.length_map]
    refine ((p_draw (n := (du.length : Nat)) (by omega) (by omega)).bnd (k := 0) fun r hr => ?_).mono (Nat.le_refl _) fun _ q => q
    obtain ⟨j, rfl, j0, j1⟩ := hr
    obtain ⟨jn, rfl⟩ := Int.eq_ofNat_of_zero_le j0
    simp only [fDef, fDefF, ofF, sSeq, sIf, sNext, sDrop, sRet, sRetF, sRetO, sSetC, sSetA, sPar, cV, cO, fTst, fBlt, fCall, fCallF, fCons, fNil, fName, fC, fOp, fUn, fAndV, fOrV, fNotV, fAndT, fOrT, fNotT, fIf, fTup_eq, fLst_eq, fNew_eq, chkL0, chkL1, chkL2, chkL3, chkL4, chkT1, chkT2, chkT3, chkN0, chkN1, fL, fLcL, fSeq, fStar, fIt, fStrs, fSl, fPart, sFor, sAsgT, bnd_ret, ofO_some, al, cl, Sl.al, Sl.cl, startS, wipeD, hSet, gSet, List.map_cons, List.map_nil, List.length_cons, List.length_nil, List.cons_append, List.nil_append, List.getElem?_cons_zero, List.getElem?_cons_succ, List.replicate, List.set_cons_zero, List.set_cons_succ, eqD_int, eqD_str, neD_int, eqD_bl, neD_bl, geD_int, gtD_int, ltD_int, addD_int, subD_int, Nat.reduceSub, Nat.reduceAdd, Nat.reduceLT, decide_true, decide_false, if_true, if_false, Bool.false_eq_true, Option.some.injEq, reduceIte, and_self, true_and, and_true, D.sc]
    exact Ok.ret 0 ⟨_, rfl, jn, by omega, rfl⟩
  obtain ⟨j, hj, rfl⟩ := he'
  unfold LB2_2
  refine Ok.mono (Ok.seq (n := 1) (k := 215) (P := fun e' => ∃ v : Int, (0 ≤ v ∧ v < m) ∧ e' = [a0, .val .strm, a2, .val (.lst (ns.map D.str)), .val d, .val (.int m), .val k, a7, .val (.int x), a9, .val (.lst (du.map D.int)), a11, a12, a13, a14, a15, .own ((du.set j v).map D.int), .val (.int (j : Nat)), a18, a19, a20, a21, a22, a23, a24, a25]) ?_ fun e' he' => ?_) (Nat.le_refl _) fun _ q => q
  · refine (store_ok (ds := du.map D.int) (j := j) rfl (P := fun r => ∃ v : Int, r = .int v ∧ 0 ≤ v ∧ v < m) ?_ (by simp only [fDef, fDefF, ofF, sSeq, sIf, sNext, sDrop, sRet, sRetF, sRetO, sSetC, sSetA, sPar, cV, cO, fTst, fBlt, fCall, fCallF, fCons, fNil, fName, fC, fOp, fUn, fAndV, fOrV, fNotV, fAndT, fOrT, fNotT, fIf, fTup_eq, fLst_eq, fNew_eq, chkL0, chkL1, chkL2, chkL3, chkL4, chkT1, chkT2, chkT3, chkN0, chkN1, fL, fLcL, fSeq, fStar, fIt, fStrs, fSl, fPart, sFor, sAsgT, bnd_ret, ofO_some, al, cl, Sl.al, Sl.cl, startS, wipeD, hSet, gSet, List.map_cons, List.map_nil, List.length_cons, List.length_nil, List.cons_append, List.nil_append, List.getElem?_cons_zero, List.getElem?_cons_succ, List.replicate, List.set_cons_zero, List.set_cons_succ, eqD_int, eqD_str, neD_int, eqD_bl, neD_bl, geD_int, gtD_int, ltD_int, addD_int, subD_int, Nat.reduceSub, Nat.reduceAdd, Nat.reduceLT, decide_true, decide_false, if_true, if_false, Bool.false_eq_true, Option.some.injEq, reduceIte, and_self, true_and, and_true]) (by simpa using hj)).mono (Nat.le_refl _) fun r hr => ?_
    · simp only [fDef, fDefF, ofF, sSeq, sIf, sNext, sDrop, sRet, sRetF, sRetO, sSetC, sSetA, sPar, cV, cO, fTst, fBlt, fCall, fCallF, fCons, fNil, fName, fC, fOp, fUn, fAndV, fOrV, fNotV, fAndT, fOrT, fNotT, fIf, fTup_eq, fLst_eq, fNew_eq, chkL0, chkL1, chkL2, chkL3, chkL4, chkT1, chkT2, chkT3, chkN0, chkN1, fL, fLcL, fSeq, fStar, fIt, fStrs, fSl, fPart, sFor, sAsgT, bnd_ret, ofO_some, al, cl, Sl.al, Sl.cl, startS, wipeD, hSet, gSet, List.map_cons, List.map_nil, List.length_cons, List.length_nil, List.cons_append, List.nil_append, List.getElem?_cons_zero, List.getElem?_cons_succ, List.replicate, List.set_cons_zero, List.set_cons_succ, eqD_int, eqD_str, neD_int, eqD_bl, neD_bl, geD_int, gtD_int, ltD_int, addD_int, subD_int, Nat.reduceSub, Nat.reduceAdd, Nat.reduceLT, decide_true, decide_false, if_true, if_false, Bool.false_eq_true, Option.some.injEq, reduceIte, and_self, true_and, and_true]
      exact p_draw hm0 hm1
    · obtain ⟨_, ⟨v, rfl, v0, v1⟩, rfl⟩ := hr
      exact ⟨_, rfl, v, ⟨v0, v1⟩, by rw [map_set]; rfl⟩
  obtain ⟨v, hv, rfl⟩ := he'
  have hsl : (du.set j v).length = (names f).length := by rw [List.length_set]; exact hlen
  have hsr : InR m (du.set j v) := set_in hin hv.1 hv.2
  generalize du.set j v = sh at *
  unfold LB2_3
  have e1 := c.lsecret hsl
  refine Ok.mono (Ok.seq (n := 1) (k := 214) (P := fun e' => ∃ p : D, p.seq = some (sh.map D.int) ∧ e' = [a0.fz, .val .strm, a2.fz, .val (.lst (ns.map D.str)), .val d, .val (.int m), .val k, a7.fz, .val (.int x), a9.fz, .val (.lst (du.map D.int)), a11.fz, a12.fz, a13.fz, a14.fz, a15.fz, .val (.lst (sh.map D.int)), .val (.int (j : Nat)), .val (dO (sec m f sh)), .val p, a20.fz, a21.fz, a22.fz, a23.fz, a24.fz, a25.fz]) ?_ fun e' he' => ?_) (Nat.le_refl _) fun _ q => q
  · unfold sFz VS.fz
    simp only [fDef, fDefF, ofF, sSeq, sIf, sNext, sDrop, sRet, sRetF, sRetO, sSetC, sSetA, sPar, cV, cO, fTst, fBlt, fCall, fCallF, fCons, fNil, fName, fC, fOp, fUn, fAndV, fOrV, fNotV, fAndT, fOrT, fNotT, fIf, fTup_eq, fLst_eq, fNew_eq, chkL0, chkL1, chkL2, chkL3, chkL4, chkT1, chkT2, chkT3, chkN0, chkN1, fL, fLcL, fSeq, fStar, fIt, fStrs, fSl, fPart, sFor, sAsgT, bnd_ret, ofO_some, al, cl, Sl.al, Sl.cl, startS, wipeD, hSet, gSet, List.map_cons, List.map_nil, List.length_cons, List.length_nil, List.cons_append, List.nil_append, List.getElem?_cons_zero, List.getElem?_cons_succ, List.replicate, List.set_cons_zero, List.set_cons_succ, eqD_int, eqD_str, neD_int, eqD_bl, neD_bl, geD_int, gtD_int, ltD_int, addD_int, subD_int, Nat.reduceSub, Nat.reduceAdd, Nat.reduceLT, decide_true, decide_false, if_true, if_false, Bool.false_eq_true, Option.some.injEq, reduceIte, and_self, true_and, and_true, fz_val, fz_own, e1, tup_lst, VS.bnd_assoc]
    refine ((looseInts (e := .tup (sh.map D.int)) rfl (by omega)).bnd (k := 0) fun r hr => ?_).mono (Nat.le_refl _) fun _ q => q
    try simp only [fDef, fDefF, ofF, sSeq, sIf, sNext, sDrop, sRet, sRetF, sRetO, sSetC, sSetA, sPar, cV, cO, fTst, fBlt, fCall, fCallF, fCons, fNil, fName, fC, fOp, fUn, fAndV, fOrV, fNotV, fAndT, fOrT, fNotT, fIf, fTup_eq, fLst_eq, fNew_eq, chkL0, chkL1, chkL2, chkL3, chkL4, chkT1, chkT2, chkT3, chkN0, chkN1, fL, fLcL, fSeq, fStar, fIt, fStrs, fSl, fPart, sFor, sAsgT, bnd_ret, ofO_some, al, cl, Sl.al, Sl.cl, startS, wipeD, hSet, gSet, List.map_cons, List.map_nil, List.length_cons, List.length_nil, List.cons_append, List.nil_append, List.getElem?_cons_zero, List.getElem?_cons_succ, List.replicate, List.set_cons_zero, List.set_cons_succ, eqD_int, eqD_str, neD_int, eqD_bl, neD_bl, geD_int, gtD_int, ltD_int, addD_int, subD_int, Nat.reduceSub, Nat.reduceAdd, Nat.reduceLT, decide_true, decide_false, if_true, if_false, Bool.false_eq_true, Option.some.injEq, reduceIte, and_self, true_and, and_true]
    exact Ok.ret 0 ⟨_, rfl, r, hr, rfl⟩
  obtain ⟨p, hp, rfl⟩ := he'
  generalize a0.fz = a0, a2.fz = a2, a7.fz = a7, a9.fz = a9, a11.fz = a11, a12.fz = a12, a13.fz = a13, a14.fz = a14, a15.fz = a15, a20.fz = a20, a21.fz = a21, a22.fz = a22, a23.fz = a23, a24.fz = a24, a25.fz = a25
  have e2 := c.secret c.is hp hsl hsr
  unfold LB2_4
  simp only [fDef, fDefF, ofF, sSeq, sIf, sNext, sDrop, sRet, sRetF, sRetO, sSetC, sSetA, sPar, cV, cO, fTst, fBlt, fCall, fCallF, fCons, fNil, fName, fC, fOp, fUn, fAndV, fOrV, fNotV, fAndT, fOrT, fNotT, fIf, fTup_eq, fLst_eq, fNew_eq, chkL0, chkL1, chkL2, chkL3, chkL4, chkT1, chkT2, chkT3, chkN0, chkN1, fL, fLcL, fSeq, fStar, fIt, fStrs, fSl, fPart, sFor, sAsgT, bnd_ret, ofO_some, al, cl, Sl.al, Sl.cl, startS, wipeD, hSet, gSet, List.map_cons, List.map_nil, List.length_cons, List.length_nil, List.cons_append, List.nil_append, List.getElem?_cons_zero, List.getElem?_cons_succ, List.replicate, List.set_cons_zero, List.set_cons_succ, eqD_int, eqD_str, neD_int, eqD_bl, neD_bl, geD_int, gtD_int, ltD_int, addD_int, subD_int, Nat.reduceSub, Nat.reduceAdd, Nat.reduceLT, decide_true, decide_false, if_true, if_false, Bool.false_eq_true, Option.some.injEq, reduceIte, and_self, true_and, and_true, hcp, e2]
  unfold LB2_5
  have e3 : fCallK 3 3 [2, 1, 0] F_secret_of (fCons (fL (fIt (one D.seq) (fCons (fName 16) fNil))) (fCons (fName 5) (fCons (fCall 1 F__law_copied (fCons (fName 4) fNil)) fNil))) (cl [a0, .val .strm, a2, .val (.lst (ns.map D.str)), .val d, .val (.int m), .val k, a7, .val (.int x), a9, .val (.lst (du.map D.int)), a11, a12, a13, .own [dO (sec m f sh)], a15, .val (.lst (sh.map D.int)), .val (.int (j : Nat)), .val (dO (sec m f sh)), .val p, a20, a21, a22, a23, a24, a25]) = ret (dO (sec m f sh)) := by
    rw [callK3 (a := .lst (sh.map D.int)) (b := .int m) (c := d) (by simp only [fDef, fDefF, ofF, sSeq, sIf, sNext, sDrop, sRet, sRetF, sRetO, sSetC, sSetA, sPar, cV, cO, fTst, fBlt, fCall, fCallF, fCons, fNil, fName, fC, fOp, fUn, fAndV, fOrV, fNotV, fAndT, fOrT, fNotT, fIf, fTup_eq, fLst_eq, fNew_eq, chkL0, chkL1, chkL2, chkL3, chkL4, chkT1, chkT2, chkT3, chkN0, chkN1, fL, fLcL, fSeq, fStar, fIt, fStrs, fSl, fPart, sFor, sAsgT, bnd_ret, ofO_some, al, cl, Sl.al, Sl.cl, startS, wipeD, hSet, gSet, List.map_cons, List.map_nil, List.length_cons, List.length_nil, List.cons_append, List.nil_append, List.getElem?_cons_zero, List.getElem?_cons_succ, List.replicate, List.set_cons_zero, List.set_cons_succ, eqD_int, eqD_str, neD_int, eqD_bl, neD_bl, geD_int, gtD_int, ltD_int, addD_int, subD_int, Nat.reduceSub, Nat.reduceAdd, Nat.reduceLT, decide_true, decide_false, if_true, if_false, Bool.false_eq_true, Option.some.injEq, reduceIte, and_self, true_and, and_true, one_lst]) (by simp only [fDef, fDefF, ofF, sSeq, sIf, sNext, sDrop, sRet, sRetF, sRetO, sSetC, sSetA, sPar, cV, cO, fTst, fBlt, fCall, fCallF, fCons, fNil, fName, fC, fOp, fUn, fAndV, fOrV, fNotV, fAndT, fOrT, fNotT, fIf, fTup_eq, fLst_eq, fNew_eq, chkL0, chkL1, chkL2, chkL3, chkL4, chkT1, chkT2, chkT3, chkN0, chkN1, fL, fLcL, fSeq, fStar, fIt, fStrs, fSl, fPart, sFor, sAsgT, bnd_ret, ofO_some, al, cl, Sl.al, Sl.cl, startS, wipeD, hSet, gSet, List.map_cons, List.map_nil, List.length_cons, List.length_nil, List.cons_append, List.nil_append, List.getElem?_cons_zero, List.getElem?_cons_succ, List.replicate, List.set_cons_zero, List.set_cons_succ, eqD_int, eqD_str, neD_int, eqD_bl, neD_bl, geD_int, gtD_int, ltD_int, addD_int, subD_int, Nat.reduceSub, Nat.reduceAdd, Nat.reduceLT, decide_true, decide_false, if_true, if_false, Bool.false_eq_true, Option.some.injEq, reduceIte, and_self, true_and, and_true]) (by simp only [fDef, fDefF, ofF, sSeq, sIf, sNext, sDrop, sRet, sRetF, sRetO, sSetC, sSetA, sPar, cV, cO, fTst, fBlt, fCall, fCallF, fCons, fNil, fName, fC, fOp, fUn, fAndV, fOrV, fNotV, fAndT, fOrT, fNotT, fIf, fTup_eq, fLst_eq, fNew_eq, chkL0, chkL1, chkL2, chkL3, chkL4, chkT1, chkT2, chkT3, chkN0, chkN1, fL, fLcL, fSeq, fStar, fIt, fStrs, fSl, fPart, sFor, sAsgT, bnd_ret, ofO_some, al, cl, Sl.al, Sl.cl, startS, wipeD, hSet, gSet, List.map_cons, List.map_nil, List.length_cons, List.length_nil, List.cons_append, List.nil_append, List.getElem?_cons_zero, List.getElem?_cons_succ, List.replicate, List.set_cons_zero, List.set_cons_succ, eqD_int, eqD_str, neD_int, eqD_bl, neD_bl, geD_int, gtD_int, ltD_int, addD_int, subD_int, Nat.reduceSub, Nat.reduceAdd, Nat.reduceLT, decide_true, decide_false, if_true, if_false, Bool.false_eq_true, Option.some.injEq, reduceIte, and_self, true_and, and_true, hcp])]
    exact c.secret c.is rfl hsl hsr
  rw [seq_nx (sMut_ok (ds := [dO (sec m f sh)]) (es := [dO (sec m f sh)]) (ds' := [dO (sec m f sh), dO (sec m f sh)]) (d := .non) rfl (by simp only [fCons, fNil, e3, bnd_ret]) app1)]
  have e4 := same2 (o := sec m f sh)
  generalize hsec : dO (sec m f sh) = sc at *
  simp only [List.set_cons_zero, List.set_cons_succ]
  unfold LB2_6
  simp only [fDef, fDefF, ofF, sSeq, sIf, sNext, sDrop, sRet, sRetF, sRetO, sSetC, sSetA, sPar, cV, cO, fTst, fBlt, fCall, fCallF, fCons, fNil, fName, fC, fOp, fUn, fAndV, fOrV, fNotV, fAndT, fOrT, fNotT, fIf, fTup_eq, fLst_eq, fNew_eq, chkL0, chkL1, chkL2, chkL3, chkL4, chkT1, chkT2, chkT3, chkN0, chkN1, fL, fLcL, fSeq, fStar, fIt, fStrs, fSl, fPart, sFor, sAsgT, bnd_ret, ofO_some, al, cl, Sl.al, Sl.cl, startS, wipeD, hSet, gSet, List.map_cons, List.map_nil, List.length_cons, List.length_nil, List.cons_append, List.nil_append, List.getElem?_cons_zero, List.getElem?_cons_succ, List.replicate, List.set_cons_zero, List.set_cons_succ, eqD_int, eqD_str, neD_int, eqD_bl, neD_bl, geD_int, gtD_int, ltD_int, addD_int, subD_int, Nat.reduceSub, Nat.reduceAdd, Nat.reduceLT, decide_true, decide_false, if_true, if_false, Bool.false_eq_true, Option.some.injEq, reduceIte, and_self, true_and, and_true, e4]
  unfold LB2_7
  refine Ok.mono (Ok.seq (n := 22) (k := 192) (P := fun e' => ∃ lot : List Str, Lt lot ∧ e' = [a0, .val .strm, a2, .val (.lst (ns.map D.str)), .val d, .val (.int m), .val k, a7, .val (.int x), a9, .val (.lst (du.map D.int)), a11, a12, a13, .own [sc, sc], a15, .val (.lst (sh.map D.int)), .val (.int (j : Nat)), .val sc, .val p, .val (.lst (lot.map D.str)), a21, a22, a23, a24, a25]) ?_ fun e' he' => ?_) (Nat.le_refl _) fun _ q => q
  · simp only [fDef, fDefF, ofF, sSeq, sIf, sNext, sDrop, sRet, sRetF, sRetO, sSetC, sSetA, sPar, cV, cO, fTst, fBlt, fCall, fCallF, fCons, fNil, fName, fC, fOp, fUn, fAndV, fOrV, fNotV, fAndT, fOrT, fNotT, fIf, fTup_eq, fLst_eq, fNew_eq, chkL0, chkL1, chkL2, chkL3, chkL4, chkT1, chkT2, chkT3, chkN0, chkN1, fL, fLcL, fSeq, fStar, fIt, fStrs, fSl, fPart, sFor, sAsgT, bnd_ret, ofO_some, al, cl, Sl.al, Sl.cl, startS, wipeD, hSet, gSet, List.map_cons, List.map_nil, List.length_cons, List.length_nil, List.cons_append, List.nil_append, List.getElem?_cons_zero, List.getElem?_cons_succ, List.replicate, List.set_cons_zero, List.set_cons_succ, eqD_int, eqD_str, neD_int, eqD_bl, neD_bl, geD_int, gtD_int, ltD_int, addD_int, subD_int, Nat.reduceSub, Nat.reduceAdd, Nat.reduceLT, decide_true, decide_false, if_true, if_false, Bool.false_eq_true, Option.some.injEq, reduceIte, and_self, true_and, and_true, VS.bnd_assoc]
    refine ((L_lot hn0 hns hw).bnd (k := 0) fun r hr => ?_).mono (Nat.le_refl _) fun _ q => q
    obtain ⟨lot, rfl, l1, l2, l3⟩ := hr
    try simp only [fDef, fDefF, ofF, sSeq, sIf, sNext, sDrop, sRet, sRetF, sRetO, sSetC, sSetA, sPar, cV, cO, fTst, fBlt, fCall, fCallF, fCons, fNil, fName, fC, fOp, fUn, fAndV, fOrV, fNotV, fAndT, fOrT, fNotT, fIf, fTup_eq, fLst_eq, fNew_eq, chkL0, chkL1, chkL2, chkL3, chkL4, chkT1, chkT2, chkT3, chkN0, chkN1, fL, fLcL, fSeq, fStar, fIt, fStrs, fSl, fPart, sFor, sAsgT, bnd_ret, ofO_some, al, cl, Sl.al, Sl.cl, startS, wipeD, hSet, gSet, List.map_cons, List.map_nil, List.length_cons, List.length_nil, List.cons_append, List.nil_append, List.getElem?_cons_zero, List.getElem?_cons_succ, List.replicate, List.set_cons_zero, List.set_cons_succ, eqD_int, eqD_str, neD_int, eqD_bl, neD_bl, geD_int, gtD_int, ltD_int, addD_int, subD_int, Nat.reduceSub, Nat.reduceAdd, Nat.reduceLT, decide_true, decide_false, if_true, if_false, Bool.false_eq_true, Option.some.injEq, reduceIte, and_self, true_and, and_true]
    exact Ok.ret 0 ⟨_, rfl, lot, ⟨l2, l1, l3⟩, rfl⟩
  obtain ⟨lot, hlot, rfl⟩ := he'
  have e5 := c.opened (e := .lst (lot.map D.str)) (g := .lst (du.map D.int)) c.is hlot rfl rfl hlen hin
  rw [hfd lot] at e5
  unfold LB2_8
  simp only [fDef, fDefF, ofF, sSeq, sIf, sNext, sDrop, sRet, sRetF, sRetO, sSetC, sSetA, sPar, cV, cO, fTst, fBlt, fCall, fCallF, fCons, fNil, fName, fC, fOp, fUn, fAndV, fOrV, fNotV, fAndT, fOrT, fNotT, fIf, fTup_eq, fLst_eq, fNew_eq, chkL0, chkL1, chkL2, chkL3, chkL4, chkT1, chkT2, chkT3, chkN0, chkN1, fL, fLcL, fSeq, fStar, fIt, fStrs, fSl, fPart, sFor, sAsgT, bnd_ret, ofO_some, al, cl, Sl.al, Sl.cl, startS, wipeD, hSet, gSet, List.map_cons, List.map_nil, List.length_cons, List.length_nil, List.cons_append, List.nil_append, List.getElem?_cons_zero, List.getElem?_cons_succ, List.replicate, List.set_cons_zero, List.set_cons_succ, eqD_int, eqD_str, neD_int, eqD_bl, neD_bl, geD_int, gtD_int, ltD_int, addD_int, subD_int, Nat.reduceSub, Nat.reduceAdd, Nat.reduceLT, decide_true, decide_false, if_true, if_false, Bool.false_eq_true, Option.some.injEq, reduceIte, and_self, true_and, and_true, hcp, one_lst, e5]
  have e6 : F__law_opens [d, .lst (lot.map D.str)] = ret (.bl (opn lot f)) := L_opens c.is (by have := c.dp; omega) (wf_ne f c.wf) (by omega) rfl
  have e7 := c.opened (e := .lst (lot.map D.str)) (g := .lst ((hid lot du (names f)).map D.int)) c.is hlot rfl rfl (by unfold hid; rw [List.length_zipWith]; omega) (hid_in hm0 hin)
  rw [fnd_hid m lot f du hlen, hfd lot] at e7
  have hfi : (if opn lot f = true then ret (D.int x) else ret D.non) = ret (dO (if opn lot f = true then some x else none)) := by
    split <;> rfl
  generalize hres : (if opn lot f = true then some x else none) = res at *
  unfold LB2_9
  refine Ok.mono (Ok.seq (n := 180) (k := 12) (P := fun e' => e' = [a0, .val .strm, a2, .val (.lst (ns.map D.str)), .val d, .val (.int m), .val k, a7, .val (.int x), a9, .val (.lst (du.map D.int)), a11, a12, a13, .own [dO res, dO res], a15, .val (.lst (sh.map D.int)), .val (.int (j : Nat)), .val sc, .val p, .val (.lst (lot.map D.str)), a21, a22, a23, a24, a25]) ?_ fun e' he' => ?_) (Nat.le_refl _) fun _ q => q
  · unfold sMut fCallK
    simp only [fDef, fDefF, ofF, sSeq, sIf, sNext, sDrop, sRet, sRetF, sRetO, sSetC, sSetA, sPar, cV, cO, fTst, fBlt, fCall, fCallF, fCons, fNil, fName, fC, fOp, fUn, fAndV, fOrV, fNotV, fAndT, fOrT, fNotT, fIf, fTup_eq, fLst_eq, fNew_eq, chkL0, chkL1, chkL2, chkL3, chkL4, chkT1, chkT2, chkT3, chkN0, chkN1, fL, fLcL, fSeq, fStar, fIt, fStrs, fSl, fPart, sFor, sAsgT, bnd_ret, ofO_some, al, cl, Sl.al, Sl.cl, startS, wipeD, hSet, gSet, List.map_cons, List.map_nil, List.length_cons, List.length_nil, List.cons_append, List.nil_append, List.getElem?_cons_zero, List.getElem?_cons_succ, List.replicate, List.set_cons_zero, List.set_cons_succ, eqD_int, eqD_str, neD_int, eqD_bl, neD_bl, geD_int, gtD_int, ltD_int, addD_int, subD_int, Nat.reduceSub, Nat.reduceAdd, Nat.reduceLT, decide_true, decide_false, if_true, if_false, Bool.false_eq_true, Option.some.injEq, reduceIte, and_self, true_and, and_true, tup_lst, VS.bnd_assoc]
    refine (c.loose.bnd (k := 0) fun r hr => ?_).mono (Nat.le_refl _) fun _ q => q
    have e8 := c.opened (e := .tup (lot.map D.str)) (g := .tup (du.map D.int)) hr hlot rfl rfl hlen hin
    rw [hfd lot, hres] at e8
    have e9 : pick [3, 2, 1, 0] [D.tup (List.map D.int du), D.tup (List.map D.str lot), D.int m, r] = [r, .int m, .tup (lot.map D.str), .tup (du.map D.int)] := rfl
    simp only [fDef, fDefF, ofF, sSeq, sIf, sNext, sDrop, sRet, sRetF, sRetO, sSetC, sSetA, sPar, cV, cO, fTst, fBlt, fCall, fCallF, fCons, fNil, fName, fC, fOp, fUn, fAndV, fOrV, fNotV, fAndT, fOrT, fNotT, fIf, fTup_eq, fLst_eq, fNew_eq, chkL0, chkL1, chkL2, chkL3, chkL4, chkT1, chkT2, chkT3, chkN0, chkN1, fL, fLcL, fSeq, fStar, fIt, fStrs, fSl, fPart, sFor, sAsgT, bnd_ret, ofO_some, al, cl, Sl.al, Sl.cl, startS, wipeD, hSet, gSet, List.map_cons, List.map_nil, List.length_cons, List.length_nil, List.cons_append, List.nil_append, List.getElem?_cons_zero, List.getElem?_cons_succ, List.replicate, List.set_cons_zero, List.set_cons_succ, eqD_int, eqD_str, neD_int, eqD_bl, neD_bl, geD_int, gtD_int, ltD_int, addD_int, subD_int, Nat.reduceSub, Nat.reduceAdd, Nat.reduceLT, decide_true, decide_false, if_true, if_false, Bool.false_eq_true, Option.some.injEq, reduceIte, and_self, true_and, and_true, e9, e8, app1]
    exact Ok.ret 0 ⟨_, rfl, rfl⟩
  subst he'
  unfold LB2_10
  simp only [fDef, fDefF, ofF, sSeq, sIf, sNext, sDrop, sRet, sRetF, sRetO, sSetC, sSetA, sPar, cV, cO, fTst, fBlt, fCall, fCallF, fCons, fNil, fName, fC, fOp, fUn, fAndV, fOrV, fNotV, fAndT, fOrT, fNotT, fIf, fTup_eq, fLst_eq, fNew_eq, chkL0, chkL1, chkL2, chkL3, chkL4, chkT1, chkT2, chkT3, chkN0, chkN1, fL, fLcL, fSeq, fStar, fIt, fStrs, fSl, fPart, sFor, sAsgT, bnd_ret, ofO_some, al, cl, Sl.al, Sl.cl, startS, wipeD, hSet, gSet, List.map_cons, List.map_nil, List.length_cons, List.length_nil, List.cons_append, List.nil_append, List.getElem?_cons_zero, List.getElem?_cons_succ, List.replicate, List.set_cons_zero, List.set_cons_succ, eqD_int, eqD_str, neD_int, eqD_bl, neD_bl, geD_int, gtD_int, ltD_int, addD_int, subD_int, Nat.reduceSub, Nat.reduceAdd, Nat.reduceLT, decide_true, decide_false, if_true, if_false, Bool.false_eq_true, Option.some.injEq, reduceIte, and_self, true_and, and_true, e6, hfi]
  have e9 := same2 (o := res)
  unfold LB2_11
  simp only [fDef, fDefF, ofF, sSeq, sIf, sNext, sDrop, sRet, sRetF, sRetO, sSetC, sSetA, sPar, cV, cO, fTst, fBlt, fCall, fCallF, fCons, fNil, fName, fC, fOp, fUn, fAndV, fOrV, fNotV, fAndT, fOrT, fNotT, fIf, fTup_eq, fLst_eq, fNew_eq, chkL0, chkL1, chkL2, chkL3, chkL4, chkT1, chkT2, chkT3, chkN0, chkN1, fL, fLcL, fSeq, fStar, fIt, fStrs, fSl, fPart, sFor, sAsgT, bnd_ret, ofO_some, al, cl, Sl.al, Sl.cl, startS, wipeD, hSet, gSet, List.map_cons, List.map_nil, List.length_cons, List.length_nil, List.cons_append, List.nil_append, List.getElem?_cons_zero, List.getElem?_cons_succ, List.replicate, List.set_cons_zero, List.set_cons_succ, eqD_int, eqD_str, neD_int, eqD_bl, neD_bl, geD_int, gtD_int, ltD_int, addD_int, subD_int, Nat.reduceSub, Nat.reduceAdd, Nat.reduceLT, decide_true, decide_false, if_true, if_false, Bool.false_eq_true, Option.some.injEq, reduceIte, and_self, true_and, and_true, e9, Bool.not_true]
  have e10 := L_places c.is (by have := c.dp; omega) (sz (by omega))
  unfold LB2_12
  have e11 : zipD [.lst (du.map D.int), .lst ((names f).map D.str)] = some (List.zipWith (fun x y => D.tup [x, y]) (du.map D.int) ((names f).map D.str)) := rfl
  have e13 : F__law_same [dO res, dO res] = ret (.bl true) := L_same (pl_o res)
  rw [seq_nx (e' := [a0, .val .strm, a2, .val (.lst (ns.map D.str)), .val d, .val (.int m), .val k, a7, .val (.int x), a9, .val (.lst (du.map D.int)), a11, a12, a13, .own [dO res, dO res], a15, .val (.lst (sh.map D.int)), .val (.int (j : Nat)), .val (dO res), .val p, .val (.lst (lot.map D.str)), .val (.lst ((hid lot du (names f)).map D.int)), a22, a23, a24, a25]) (by simp only [fDef, fDefF, ofF, sSeq, sIf, sNext, sDrop, sRet, sRetF, sRetO, sSetC, sSetA, sPar, cV, cO, fTst, fBlt, fCall, fCallF, fCons, fNil, fName, fC, fOp, fUn, fAndV, fOrV, fNotV, fAndT, fOrT, fNotT, fIf, fTup_eq, fLst_eq, fNew_eq, chkL0, chkL1, chkL2, chkL3, chkL4, chkT1, chkT2, chkT3, chkN0, chkN1, fL, fLcL, fSeq, fStar, fIt, fStrs, fSl, fPart, sFor, sAsgT, bnd_ret, ofO_some, al, cl, Sl.al, Sl.cl, startS, wipeD, hSet, gSet, List.map_cons, List.map_nil, List.length_cons, List.length_nil, List.cons_append, List.nil_append, List.getElem?_cons_zero, List.getElem?_cons_succ, List.replicate, List.set_cons_zero, List.set_cons_succ, eqD_int, eqD_str, neD_int, eqD_bl, neD_bl, geD_int, gtD_int, ltD_int, addD_int, subD_int, Nat.reduceSub, Nat.reduceAdd, Nat.reduceLT, decide_true, decide_false, if_true, if_false, Bool.false_eq_true, Option.some.injEq, reduceIte, and_self, true_and, and_true, e10, e11, hid_go (lot := lot) du (names f) (by omega)])]
  unfold LB2_13
  simp only [fDef, fDefF, ofF, sSeq, sIf, sNext, sDrop, sRet, sRetF, sRetO, sSetC, sSetA, sPar, cV, cO, fTst, fBlt, fCall, fCallF, fCons, fNil, fName, fC, fOp, fUn, fAndV, fOrV, fNotV, fAndT, fOrT, fNotT, fIf, fTup_eq, fLst_eq, fNew_eq, chkL0, chkL1, chkL2, chkL3, chkL4, chkT1, chkT2, chkT3, chkN0, chkN1, fL, fLcL, fSeq, fStar, fIt, fStrs, fSl, fPart, sFor, sAsgT, bnd_ret, ofO_some, al, cl, Sl.al, Sl.cl, startS, wipeD, hSet, gSet, List.map_cons, List.map_nil, List.length_cons, List.length_nil, List.cons_append, List.nil_append, List.getElem?_cons_zero, List.getElem?_cons_succ, List.replicate, List.set_cons_zero, List.set_cons_succ, eqD_int, eqD_str, neD_int, eqD_bl, neD_bl, geD_int, gtD_int, ltD_int, addD_int, subD_int, Nat.reduceSub, Nat.reduceAdd, Nat.reduceLT, decide_true, decide_false, if_true, if_false, Bool.false_eq_true, Option.some.injEq, reduceIte, and_self, true_and, and_true, hcp, one_lst, e7, e13, Bool.not_true]
  unfold LB2_14
  refine Ok.mono (Ok.seq (n := 12) (k := 0) (P := fun e' => ∃ dr : List Int, dr.length = du.length ∧ InR m dr ∧ e' = [a0, .val .strm, a2, .val (.lst (ns.map D.str)), .val d, .val (.int m), .val k, a7, .val (.int x), a9, .val (.lst (du.map D.int)), a11, a12, a13, .own [dO res, dO res], a15, .val (.lst (sh.map D.int)), .val (.int (j : Nat)), .val (dO res), .val p, .val (.lst (lot.map D.str)), .val (.lst ((hid lot du (names f)).map D.int)), .val (.lst (dr.map D.int)), a23, a24, a25]) ?_ fun e' he' => ?_) (Nat.le_refl _) fun _ q => q
  · simp only [fDef, fDefF, ofF, sSeq, sIf, sNext, sDrop, sRet, sRetF, sRetO, sSetC, sSetA, sPar, cV, cO, fTst, fBlt, fCall, fCallF, fCons, fNil, fName, fC, fOp, fUn, fAndV, fOrV, fNotV, fAndT, fOrT, fNotT, fIf, fTup_eq, fLst_eq, fNew_eq, chkL0, chkL1, chkL2, chkL3, chkL4, chkT1, chkT2, chkT3, chkN0, chkN1, fL, fLcL, fSeq, fStar, fIt, fStrs, fSl, fPart, sFor, sAsgT, bnd_ret, ofO_some, al, cl, Sl.al, Sl.cl, startS, wipeD, hSet, gSet, List.map_cons, List.map_nil, List.length_cons, List.length_nil, List.cons_append, List.nil_append, List.getElem?_cons_zero, List.getElem?_cons_succ, List.replicate, List.set_cons_zero, List.set_cons_succ, eqD_int, eqD_str, neD_int, eqD_bl, neD_bl, geD_int, gtD_int, ltD_int, addD_int, subD_int, Nat.reduceSub, Nat.reduceAdd, Nat.reduceLT, decide_true, decide_false, if_true, if_false, Bool.false_eq_true, Option.some.injEq, reduceIte, and_self, true_and, and_true, VS.bnd_assoc, seq_lst]
    refine ((numDraws hm0 hm1 (du.map D.int) (by rw [List.length_map]; omega) ?_).bnd (k := 0) fun r hr => ?_).mono (by rw [List.length_map]; omega) fun _ q => q
    · exact fun y hy => ⟨_, rfl, by simp only [fDef, fDefF, ofF, sSeq, sIf, sNext, sDrop, sRet, sRetF, sRetO, sSetC, sSetA, sPar, cV, cO, fTst, fBlt, fCall, fCallF, fCons, fNil, fName, fC, fOp, fUn, fAndV, fOrV, fNotV, fAndT, fOrT, fNotT, fIf, fTup_eq, fLst_eq, fNew_eq, chkL0, chkL1, chkL2, chkL3, chkL4, chkT1, chkT2, chkT3, chkN0, chkN1, fL, fLcL, fSeq, fStar, fIt, fStrs, fSl, fPart, sFor, sAsgT, bnd_ret, ofO_some, al, cl, Sl.al, Sl.cl, startS, wipeD, hSet, gSet, List.map_cons, List.map_nil, List.length_cons, List.length_nil, List.cons_append, List.nil_append, List.getElem?_cons_zero, List.getElem?_cons_succ, List.replicate, List.set_cons_zero, List.set_cons_succ, eqD_int, eqD_str, neD_int, eqD_bl, neD_bl, geD_int, gtD_int, ltD_int, addD_int, subD_int, Nat.reduceSub, Nat.reduceAdd, Nat.reduceLT, decide_true, decide_false, if_true, if_false, Bool.false_eq_true, Option.some.injEq, reduceIte, and_self, true_and, and_true]⟩
    obtain ⟨dr, rfl, d1, d2⟩ := hr
    try simp only [fDef, fDefF, ofF, sSeq, sIf, sNext, sDrop, sRet, sRetF, sRetO, sSetC, sSetA, sPar, cV, cO, fTst, fBlt, fCall, fCallF, fCons, fNil, fName, fC, fOp, fUn, fAndV, fOrV, fNotV, fAndT, fOrT, fNotT, fIf, fTup_eq, fLst_eq, fNew_eq, chkL0, chkL1, chkL2, chkL3, chkL4, chkT1, chkT2, chkT3, chkN0, chkN1, fL, fLcL, fSeq, fStar, fIt, fStrs, fSl, fPart, sFor, sAsgT, bnd_ret, ofO_some, al, cl, Sl.al, Sl.cl, startS, wipeD, hSet, gSet, List.map_cons, List.map_nil, List.length_cons, List.length_nil, List.cons_append, List.nil_append, List.getElem?_cons_zero, List.getElem?_cons_succ, List.replicate, List.set_cons_zero, List.set_cons_succ, eqD_int, eqD_str, neD_int, eqD_bl, neD_bl, geD_int, gtD_int, ltD_int, addD_int, subD_int, Nat.reduceSub, Nat.reduceAdd, Nat.reduceLT, decide_true, decide_false, if_true, if_false, Bool.false_eq_true, Option.some.injEq, reduceIte, and_self, true_and, and_true]
    exact Ok.ret 0 ⟨_, rfl, dr, by rw [d1, List.length_map], d2, rfl⟩
  obtain ⟨dr, d1, d2, rfl⟩ := he'
  unfold LB2_15
  simp only [fDef, fDefF, ofF, sSeq, sIf, sNext, sDrop, sRet, sRetF, sRetO, sSetC, sSetA, sPar, cV, cO, fTst, fBlt, fCall, fCallF, fCons, fNil, fName, fC, fOp, fUn, fAndV, fOrV, fNotV, fAndT, fOrT, fNotT, fIf, fTup_eq, fLst_eq, fNew_eq, chkL0, chkL1, chkL2, chkL3, chkL4, chkT1, chkT2, chkT3, chkN0, chkN1, fL, fLcL, fSeq, fStar, fIt, fStrs, fSl, fPart, sFor, sAsgT, bnd_ret, ofO_some, al, cl, Sl.al, Sl.cl, startS, wipeD, hSet, gSet, List.map_cons, List.map_nil, List.length_cons, List.length_nil, List.cons_append, List.nil_append, List.getElem?_cons_zero, List.getElem?_cons_succ, List.replicate, List.set_cons_zero, List.set_cons_succ, eqD_int, eqD_str, neD_int, eqD_bl, neD_bl, geD_int, gtD_int, ltD_int, addD_int, subD_int, Nat.reduceSub, Nat.reduceAdd, Nat.reduceLT, decide_true, decide_false, if_true, if_false, Bool.false_eq_true, Option.some.injEq, reduceIte, and_self, true_and, and_true, seq_tup]
  rw [forGo_nx rfl (sb c hlot hsl hsr), forGo_nx rfl (sb c hlot (by omega) d2), forGo_nil]
  exact Ok.ret 0 ⟨_, rfl, _, _, _, _, _, _, _, _, _, _, _, _, _, _, _, _, _, _, _, rfl⟩
end K75
namespace K75
open PySem PySem.Spec PyProof.Rows L2 VS
mutual
theorem want_le : ∀ f : Fm, WF f → want f + 1 ≤ (names f).length
  | .name s, _ => by simp [want, names]
  | .gate b ps, h => by
    have h' : ps ≠ [] ∧ WFs ps := by simpa only [WF] using h
    have q := wants_le ps h'.2
    have : 1 ≤ ps.length := by
      cases ps with
      | nil => exact absurd rfl h'.1
      | cons p r => simp
    rw [want_gate, names_gate]
    cases b
    · simp; omega
    · simp; omega
theorem wants_le : ∀ ps : List Fm, WFs ps → wants ps + ps.length ≤ (namess ps).length
  | [], _ => by simp [wants, namess]
  | p :: ps, h => by
    have h' : WF p ∧ WFs ps := by simpa only [WFs] using h
    have q := want_le p h'.1
    have q2 := wants_le ps h'.2
    rw [wants_cons, namess_cons, List.length_append, List.length_cons]
    omega
end
theorem chkN2 {a b : D} : chkN [a, b] = ret [a, b] := chkN_of (Nat.le_trans (by decide : 2 ≤ 4) le4)
theorem chkN3 {a b c : D} : chkN [a, b, c] = ret [a, b, c] := chkN_of (Nat.le_trans (by decide : 3 ≤ 4) le4)
theorem pick4r (a b c e : D) : pick [3, 2, 1, 0] [a, b, c, e] = [e, c, b, a] := rfl
theorem callKF4 {F : List D → M (List D)} {A B C E : DEnv → M D} {env : DEnv} {a b c e : D} (ha : A env = ret a) (hb : B env = ret b) (hc : C env = ret c) (he : E env = ret e) : fCallKF 4 4 [3, 2, 1, 0] F (fCons A (fCons B (fCons C (fCons E fNil)))) env = F [e, c, b, a] := by
  unfold fCallKF
  simp only [fCons, fNil, ha, hb, hc, he, bnd_ret]
  rfl
theorem Cf.deal {f : Fm} {d d' e : D} {m x : Int} {nums : List Int} (c : Cf f d m) (h : IsF f d') (x0 : 0 ≤ x) (x1 : x < m) (hnu : InR m nums) (hnl : nums.length = want f) (he : e.seq = some (nums.map D.int)) :
    FF_deal [d', .int m, .int x, e] = ret ((deal' m f x nums).map D.int) :=
  P_deal h (by have := c.dp; omega) c.wf (by have := c.nl; omega) c.m0 x0 x1 he hnl (by have := c.nl; have := want_le f c.wf; omega) hnu
theorem Cf.deal' {f : Fm} {d d' e : D} {m x : Int} {nums : List Int} (c : Cf f d m) (h : IsF f d') (x0 : 0 ≤ x) (x1 : x < m) (hnu : InR m nums) (hnl : nums.length = want f) (he : e.seq = some (nums.map D.int)) :
    F_deal [d', .int m, .int x, e] = ret (.lst ((K75.deal' m f x nums).map D.int)) := by
  show ofF FF_deal _ = _
  unfold ofF
  rw [c.deal h x0 x1 hnu hnl he, bnd_ret]
theorem Cf.ldealt {f : Fm} {d : D} {m x : Int} {nums : List Int} (c : Cf f d m) (hnl : nums.length = want f) :
    ∃ r, F__law_dealt [d, .int m, .int x, .lst (nums.map D.int)] = ret (.tup [.lst ((K75.deal' m f x nums).map D.int), r]) :=
  ⟨_, L_dealt c.is (by have := c.dp; omega) (wf_ne f c.wf) (by have := c.nl; omega) (by omega) (by have := c.nl; have := want_le f c.wf; omega) (by have := c.m0; omega)⟩
theorem Cf.wanted {f : Fm} {d : D} {m : Int} (c : Cf f d m) : F__law_wanted [d] = ret (.int (want f : Nat)) :=
  L_want c.is (by have := c.dp; omega) (wf_ne f c.wf) (sz (by have := c.nl; omega))
theorem ibs {f : Fm} {d k : D} {m x : Int} {nums : List Int} {ns : List Str} (c : Cf f d m) (hns : ns.length ≤ 20) (hn0 : 0 < ns.length) (hw : ∀ s ∈ ns, word s) (x0 : 0 ≤ x) (x1 : x < m) (hnu : InR m nums) (hnl : nums.length = want f) :
    ∀ (js : List D) (e : SEnv), Inv (.lst (ns.map D.str)) d k m x (deal' m f x nums) e → Ok (217 * js.length) (forGo (hSet 15) LB2 js e) (fun r => ∃ e', r = .nx e' ∧ Inv (.lst (ns.map D.str)) d k m x (deal' m f x nums) e')
  | [], e, h => Ok.ret _ ⟨e, rfl, h⟩
  | j :: js, e, h => by
    obtain ⟨a0, a2, a7, a9, a11, a12, a13, a14, a15, a16, a17, a18, a19, a20, a21, a22, a23, a24, a25, rfl⟩ := h
    rw [forGo_step (env1 := [a0, .val .strm, a2, .val (.lst (ns.map D.str)), .val d, .val (.int m), .val k, a7, .val (.int x), a9, .val (.lst ((deal' m f x nums).map D.int)), a11, a12, a13, a14, .val j, a16, a17, a18, a19, a20, a21, a22, a23, a24, a25]) rfl]
    refine ((ib c hns hn0 hw x0 x1 hnu hnl ⟨_, _, _, _, _, _, _, _, _, _, _, _, _, _, _, _, _, _, _, rfl⟩).bnd (k := 217 * js.length) fun r hr => ?_).mono (by rw [List.length_cons, Nat.mul_succ]; omega) fun _ q => q
    obtain ⟨e', rfl, h'⟩ := hr
    exact ibs c hns hn0 hw x0 x1 hnu hnl js e' h'
def InvT (e : SEnv) : Prop := ∃ a0 a2 a3 a4 a5 a6 a7 a8 a9 a10 a11 a12 a13 a14 a15 a16 a17 a18 a19 a20 a21 a22 a23 a24 a25,
  e = [a0, .val .strm, a2, a3, a4, a5, a6, a7, a8, a9, a10, a11, a12, a13, a14, a15, a16, a17, a18, a19, a20, a21, a22, a23, a24, a25]
theorem rngK (k : Nat) (h : k ≤ 1000) : ∃ js : List D, rng1 [.int (k : Nat)] = some js ∧ js.length = k := by
  obtain ⟨js, e, l⟩ := rng1_at (k : Nat) (by omega) (by omega)
  exact ⟨js, e, by omega⟩
theorem eqStr (s : Str) : oEq true (.str s) (.str s) = some (.bl false) := by
  show some (D.bl (true ^^ decide (V.str s = V.str s))) = _
  rw [Bool.true_xor]
  simp
theorem pick4 {a : Int} (h0 : 0 ≤ a) (h1 : a < 999) : Ok 1 (F__law_pick [.strm, .lst [.int 2, .int 3, .int 10, .int (2 + a)]]) (fun r => ∃ m : Int, r = .int m ∧ 2 ≤ m ∧ m ≤ 1001) := by
  refine (p_pick (xs := [.int 2, .int 3, .int 10, .int (2 + a)]) (show 0 < 4 by decide) (show 4 < 1000000000 by decide)).mono (Nat.le_refl _) fun r hr => ?_
  rcases List.mem_cons.mp hr with rfl | hr
  · exact ⟨2, rfl, by decide, by decide⟩
  rcases List.mem_cons.mp hr with rfl | hr
  · exact ⟨3, rfl, by decide, by decide⟩
  rcases List.mem_cons.mp hr with rfl | hr
  · exact ⟨10, rfl, by decide, by decide⟩
  rcases List.mem_cons.mp hr with rfl | hr
  · exact ⟨2 + a, rfl, by omega, by omega⟩
  cases hr
theorem pick3 : Ok 1 (F__law_pick [.strm, .lst [.int 1, .int 3, .int 6]]) (fun r => ∃ k : Nat, r = .int (k : Nat) ∧ k ≤ 6) := by
  refine (p_pick (xs := [.int 1, .int 3, .int 6]) (show 0 < 3 by decide) (show 3 < 1000000000 by decide)).mono (Nat.le_refl _) fun r hr => ?_
  rcases List.mem_cons.mp hr with rfl | hr
  · exact ⟨1, rfl, by decide⟩
  rcases List.mem_cons.mp hr with rfl | hr
  · exact ⟨3, rfl, by decide⟩
  rcases List.mem_cons.mp hr with rfl | hr
  · exact ⟨6, rfl, by decide⟩
  cases hr
theorem bud6 : ∀ k, k ≤ 6 → bud k ≤ 2918
  | 0, _ => by decide
  | 1, _ => by decide
  | 2, _ => by decide
  | 3, _ => by decide
  | 4, _ => by decide
  | 5, _ => by decide
  | 6, _ => by decide
  | k + 7, h => by omega
theorem tb {e : SEnv} (h : InvT e) : Ok 5000 (LB3 e) (fun r => ∃ e', r = .nx e' ∧ InvT e') := by
  obtain ⟨a0, a2, a3, a4, a5, a6, a7, a8, a9, a10, a11, a12, a13, a14, a15, a16, a17, a18, a19, a20, a21, a22, a23, a24, a25, rfl⟩ := h
  unfold LB3 LB3_0
  refine Ok.mono (Ok.seq (n := 40) (k := 4960) (P := fun e' => ∃ ns : List Str, (0 < ns.length ∧ ns.length ≤ 20 ∧ ∀ s ∈ ns, word s) ∧ e' = [a0, .val .strm, a2, .val (.lst (ns.map D.str)), a4, a5, a6, a7, a8, a9, a10, a11, a12, a13, a14, a15, a16, a17, a18, a19, a20, a21, a22, a23, a24, a25]) ?_ fun e' he' => ?_) (Nat.le_refl _) fun _ q => q
  · simp only [fDef, fDefF, ofF, sSeq, sIf, sNext, sDrop, sRet, sRetF, sRetO, sSetC, sSetA, sPar, cV, cO, fTst, fBlt, fCall, fCallF, fCons, fNil, fName, fC, fOp, fUn, fAndV, fOrV, fNotV, fAndT, fOrT, fNotT, fIf, fTup_eq, fLst_eq, fNew_eq, chkL0, chkL1, chkL2, chkL3, chkL4, chkT1, chkT2, chkT3, chkN0, chkN1, fL, fLcL, fSeq, fStar, fIt, fStrs, fSl, fPart, sFor, sAsgT, bnd_ret, ofO_some, al, cl, Sl.al, Sl.cl, startS, wipeD, hSet, gSet, List.map_cons, List.map_nil, List.length_cons, List.length_nil, List.cons_append, List.nil_append, List.getElem?_cons_zero, List.getElem?_cons_succ, List.replicate, List.set_cons_zero, List.set_cons_succ, eqD_int, eqD_str, neD_int, eqD_bl, neD_bl, geD_int, gtD_int, ltD_int, addD_int, subD_int, Nat.reduceSub, Nat.reduceAdd, Nat.reduceLT, decide_true, decide_false, if_true, if_false, Bool.false_eq_true, Option.some.injEq, reduceIte, and_self, true_and, and_true, VS.bnd_assoc]
    refine ((p_draw (n := 6) (by omega) (by omega)).bnd (k := 39) fun r hr => ?_).mono (Nat.le_refl _) fun _ q => q
    obtain ⟨j, rfl, j0, j1⟩ := hr
    obtain ⟨jn, rfl⟩ := Int.eq_ofNat_of_zero_le j0
    have e : (1 : Int) + (jn : Nat) = ((jn + 1 : Nat) : Int) := by omega
    simp only [fDef, fDefF, ofF, sSeq, sIf, sNext, sDrop, sRet, sRetF, sRetO, sSetC, sSetA, sPar, cV, cO, fTst, fBlt, fCall, fCallF, fCons, fNil, fName, fC, fOp, fUn, fAndV, fOrV, fNotV, fAndT, fOrT, fNotT, fIf, fTup_eq, fLst_eq, fNew_eq, chkL0, chkL1, chkL2, chkL3, chkL4, chkT1, chkT2, chkT3, chkN0, chkN1, fL, fLcL, fSeq, fStar, fIt, fStrs, fSl, fPart, sFor, sAsgT, bnd_ret, ofO_some, al, cl, Sl.al, Sl.cl, startS, wipeD, hSet, gSet, List.map_cons, List.map_nil, List.length_cons, List.length_nil, List.cons_append, List.nil_append, List.getElem?_cons_zero, List.getElem?_cons_succ, List.replicate, List.set_cons_zero, List.set_cons_succ, eqD_int, eqD_str, neD_int, eqD_bl, neD_bl, geD_int, gtD_int, ltD_int, addD_int, subD_int, Nat.reduceSub, Nat.reduceAdd, Nat.reduceLT, decide_true, decide_false, if_true, if_false, Bool.false_eq_true, Option.some.injEq, reduceIte, and_self, true_and, and_true, e, VS.bnd_assoc]
    refine ((L_names (k := jn + 1) (by omega)).bnd (k := 0) fun r hr => ?_).mono (by omega) fun _ q => q
    obtain ⟨ns, rfl, n1, n2⟩ := hr
    try simp only [fDef, fDefF, ofF, sSeq, sIf, sNext, sDrop, sRet, sRetF, sRetO, sSetC, sSetA, sPar, cV, cO, fTst, fBlt, fCall, fCallF, fCons, fNil, fName, fC, fOp, fUn, fAndV, fOrV, fNotV, fAndT, fOrT, fNotT, fIf, fTup_eq, fLst_eq, fNew_eq, chkL0, chkL1, chkL2, chkL3, chkL4, chkT1, chkT2, chkT3, chkN0, chkN1, fL, fLcL, fSeq, fStar, fIt, fStrs, fSl, fPart, sFor, sAsgT, bnd_ret, ofO_some, al, cl, Sl.al, Sl.cl, startS, wipeD, hSet, gSet, List.map_cons, List.map_nil, List.length_cons, List.length_nil, List.cons_append, List.nil_append, List.getElem?_cons_zero, List.getElem?_cons_succ, List.replicate, List.set_cons_zero, List.set_cons_succ, eqD_int, eqD_str, neD_int, eqD_bl, neD_bl, geD_int, gtD_int, ltD_int, addD_int, subD_int, Nat.reduceSub, Nat.reduceAdd, Nat.reduceLT, decide_true, decide_false, if_true, if_false, Bool.false_eq_true, Option.some.injEq, reduceIte, and_self, true_and, and_true]
    exact Ok.ret 0 ⟨_, rfl, ns, ⟨by omega, by omega, n2⟩, rfl⟩
  obtain ⟨ns, ⟨n0, n1, hw⟩, rfl⟩ := he'
  unfold LB3_1
  refine Ok.mono (Ok.seq (n := 2919) (k := 2041) (P := fun e' => ∃ f d, (IsF f d ∧ WF f ∧ dep f ≤ 7 ∧ (names f).length ≤ 12) ∧ e' = [a0, .val .strm, a2, .val (.lst (ns.map D.str)), .val d, a5, a6, a7, a8, a9, a10, a11, a12, a13, a14, a15, a16, a17, a18, a19, a20, a21, a22, a23, a24, a25]) ?_ fun e' he' => ?_) (Nat.le_refl _) fun _ q => q
  · simp only [fDef, fDefF, ofF, sSeq, sIf, sNext, sDrop, sRet, sRetF, sRetO, sSetC, sSetA, sPar, cV, cO, fTst, fBlt, fCall, fCallF, fCons, fNil, fName, fC, fOp, fUn, fAndV, fOrV, fNotV, fAndT, fOrT, fNotT, fIf, fTup_eq, fLst_eq, fNew_eq, chkL0, chkL1, chkL2, chkL3, chkL4, chkT1, chkT2, chkT3, chkN0, chkN1, fL, fLcL, fSeq, fStar, fIt, fStrs, fSl, fPart, sFor, sAsgT, bnd_ret, ofO_some, al, cl, Sl.al, Sl.cl, startS, wipeD, hSet, gSet, List.map_cons, List.map_nil, List.length_cons, List.length_nil, List.cons_append, List.nil_append, List.getElem?_cons_zero, List.getElem?_cons_succ, List.replicate, List.set_cons_zero, List.set_cons_succ, eqD_int, eqD_str, neD_int, eqD_bl, neD_bl, geD_int, gtD_int, ltD_int, addD_int, subD_int, Nat.reduceSub, Nat.reduceAdd, Nat.reduceLT, decide_true, decide_false, if_true, if_false, Bool.false_eq_true, Option.some.injEq, reduceIte, and_self, true_and, and_true, VS.bnd_assoc]
    refine (pick3.bnd (k := 2918) fun r hr => ?_).mono (Nat.le_refl _) fun _ q => q
    obtain ⟨kk, rfl, k6⟩ := hr
    refine ((L_formula (ns := ns) n0 (by omega) (fun s hs => (hw s hs).valid) kk 12 (by omega) (by omega) (by omega)).bnd (k := 0) fun r hr => ?_).mono (bud6 kk k6) fun _ q => q
    obtain ⟨f, hf⟩ := hr
    have h1 := hf.dp
    try simp only [fDef, fDefF, ofF, sSeq, sIf, sNext, sDrop, sRet, sRetF, sRetO, sSetC, sSetA, sPar, cV, cO, fTst, fBlt, fCall, fCallF, fCons, fNil, fName, fC, fOp, fUn, fAndV, fOrV, fNotV, fAndT, fOrT, fNotT, fIf, fTup_eq, fLst_eq, fNew_eq, chkL0, chkL1, chkL2, chkL3, chkL4, chkT1, chkT2, chkT3, chkN0, chkN1, fL, fLcL, fSeq, fStar, fIt, fStrs, fSl, fPart, sFor, sAsgT, bnd_ret, ofO_some, al, cl, Sl.al, Sl.cl, startS, wipeD, hSet, gSet, List.map_cons, List.map_nil, List.length_cons, List.length_nil, List.cons_append, List.nil_append, List.getElem?_cons_zero, List.getElem?_cons_succ, List.replicate, List.set_cons_zero, List.set_cons_succ, eqD_int, eqD_str, neD_int, eqD_bl, neD_bl, geD_int, gtD_int, ltD_int, addD_int, subD_int, Nat.reduceSub, Nat.reduceAdd, Nat.reduceLT, decide_true, decide_false, if_true, if_false, Bool.false_eq_true, Option.some.injEq, reduceIte, and_self, true_and, and_true]
    exact Ok.ret 0 ⟨_, rfl, f, r, ⟨hf.is, hf.wf, by omega, hf.hi⟩, rfl⟩
  obtain ⟨f, d, ⟨hf1, hf2, hf3, hf4⟩, rfl⟩ := he'
  obtain ⟨ks, hks⟩ := repr_form hf1 hf2 (by omega) (by omega)
  unfold LB3_2
  refine Ok.mono (Ok.seq (n := 2) (k := 2039) (P := fun e' => ∃ m : Int, (2 ≤ m ∧ m ≤ 1001) ∧ e' = [a0, .val .strm, a2, .val (.lst (ns.map D.str)), .val d, .val (.int m), .val (.str ks), a7, a8, a9, a10, a11, a12, a13, a14, a15, a16, a17, a18, a19, a20, a21, a22, a23, a24, a25]) ?_ fun e' he' => ?_) (Nat.le_refl _) fun _ q => q
  · simp only [fDef, fDefF, ofF, sSeq, sIf, sNext, sDrop, sRet, sRetF, sRetO, sSetC, sSetA, sPar, cV, cO, fTst, fBlt, fCall, fCallF, fCons, fNil, fName, fC, fOp, fUn, fAndV, fOrV, fNotV, fAndT, fOrT, fNotT, fIf, fTup_eq, fLst_eq, fNew_eq, chkL0, chkL1, chkL2, chkL3, chkL4, chkT1, chkT2, chkT3, chkN0, chkN1, fL, fLcL, fSeq, fStar, fIt, fStrs, fSl, fPart, sFor, sAsgT, bnd_ret, ofO_some, al, cl, Sl.al, Sl.cl, startS, wipeD, hSet, gSet, List.map_cons, List.map_nil, List.length_cons, List.length_nil, List.cons_append, List.nil_append, List.getElem?_cons_zero, List.getElem?_cons_succ, List.replicate, List.set_cons_zero, List.set_cons_succ, eqD_int, eqD_str, neD_int, eqD_bl, neD_bl, geD_int, gtD_int, ltD_int, addD_int, subD_int, Nat.reduceSub, Nat.reduceAdd, Nat.reduceLT, decide_true, decide_false, if_true, if_false, Bool.false_eq_true, Option.some.injEq, reduceIte, and_self, true_and, and_true, VS.bnd_assoc]
    refine ((p_draw (n := 999) (by omega) (by omega)).bnd (k := 1) fun r hr => ?_).mono (Nat.le_refl _) fun _ q => q
    obtain ⟨j, rfl, j0, j1⟩ := hr
    simp only [fDef, fDefF, ofF, sSeq, sIf, sNext, sDrop, sRet, sRetF, sRetO, sSetC, sSetA, sPar, cV, cO, fTst, fBlt, fCall, fCallF, fCons, fNil, fName, fC, fOp, fUn, fAndV, fOrV, fNotV, fAndT, fOrT, fNotT, fIf, fTup_eq, fLst_eq, fNew_eq, chkL0, chkL1, chkL2, chkL3, chkL4, chkT1, chkT2, chkT3, chkN0, chkN1, fL, fLcL, fSeq, fStar, fIt, fStrs, fSl, fPart, sFor, sAsgT, bnd_ret, ofO_some, al, cl, Sl.al, Sl.cl, startS, wipeD, hSet, gSet, List.map_cons, List.map_nil, List.length_cons, List.length_nil, List.cons_append, List.nil_append, List.getElem?_cons_zero, List.getElem?_cons_succ, List.replicate, List.set_cons_zero, List.set_cons_succ, eqD_int, eqD_str, neD_int, eqD_bl, neD_bl, geD_int, gtD_int, ltD_int, addD_int, subD_int, Nat.reduceSub, Nat.reduceAdd, Nat.reduceLT, decide_true, decide_false, if_true, if_false, Bool.false_eq_true, Option.some.injEq, reduceIte, and_self, true_and, and_true, VS.bnd_assoc]
    refine ((pick4 j0 j1).bnd (k := 0) fun r hr => ?_).mono (Nat.le_refl _) fun _ q => q
    obtain ⟨m, rfl, m0, m1⟩ := hr
    simp only [fDef, fDefF, ofF, sSeq, sIf, sNext, sDrop, sRet, sRetF, sRetO, sSetC, sSetA, sPar, cV, cO, fTst, fBlt, fCall, fCallF, fCons, fNil, fName, fC, fOp, fUn, fAndV, fOrV, fNotV, fAndT, fOrT, fNotT, fIf, fTup_eq, fLst_eq, fNew_eq, chkL0, chkL1, chkL2, chkL3, chkL4, chkT1, chkT2, chkT3, chkN0, chkN1, fL, fLcL, fSeq, fStar, fIt, fStrs, fSl, fPart, sFor, sAsgT, bnd_ret, ofO_some, al, cl, Sl.al, Sl.cl, startS, wipeD, hSet, gSet, List.map_cons, List.map_nil, List.length_cons, List.length_nil, List.cons_append, List.nil_append, List.getElem?_cons_zero, List.getElem?_cons_succ, List.replicate, List.set_cons_zero, List.set_cons_succ, eqD_int, eqD_str, neD_int, eqD_bl, neD_bl, geD_int, gtD_int, ltD_int, addD_int, subD_int, Nat.reduceSub, Nat.reduceAdd, Nat.reduceLT, decide_true, decide_false, if_true, if_false, Bool.false_eq_true, Option.some.injEq, reduceIte, and_self, true_and, and_true, hks]
    exact Ok.ret 0 ⟨_, rfl, m, ⟨m0, m1⟩, rfl⟩
  obtain ⟨m, ⟨m0, m1⟩, rfl⟩ := he'
  have c : Cf f d m := ⟨hf1, hf2, hf3, hf4, m0, m1⟩
  have hwl := want_le f hf2
  obtain ⟨wj, ewj, lwj⟩ := rngK (want f) (by omega)
  unfold LB3_3
  refine Ok.mono (Ok.seq (n := 13) (k := 2026) (P := fun e' => ∃ (x : Int) (nums : List Int), (0 ≤ x ∧ x < m ∧ InR m nums ∧ nums.length = want f) ∧ e' = [a0, .val .strm, a2, .val (.lst (ns.map D.str)), .val d, .val (.int m), .val (.str ks), a7, .val (.int x), .val (.lst (nums.map D.int)), a10, a11, a12, a13, a14, a15, a16, a17, a18, a19, a20, a21, a22, a23, a24, a25]) ?_ fun e' he' => ?_) (Nat.le_refl _) fun _ q => q
  · simp only [fDef, fDefF, ofF, sSeq, sIf, sNext, sDrop, sRet, sRetF, sRetO, sSetC, sSetA, sPar, cV, cO, fTst, fBlt, fCall, fCallF, fCons, fNil, fName, fC, fOp, fUn, fAndV, fOrV, fNotV, fAndT, fOrT, fNotT, fIf, fTup_eq, fLst_eq, fNew_eq, chkL0, chkL1, chkL2, chkL3, chkL4, chkT1, chkT2, chkT3, chkN0, chkN1, fL, fLcL, fSeq, fStar, fIt, fStrs, fSl, fPart, sFor, sAsgT, bnd_ret, ofO_some, al, cl, Sl.al, Sl.cl, startS, wipeD, hSet, gSet, List.map_cons, List.map_nil, List.length_cons, List.length_nil, List.cons_append, List.nil_append, List.getElem?_cons_zero, List.getElem?_cons_succ, List.replicate, List.set_cons_zero, List.set_cons_succ, eqD_int, eqD_str, neD_int, eqD_bl, neD_bl, geD_int, gtD_int, ltD_int, addD_int, subD_int, Nat.reduceSub, Nat.reduceAdd, Nat.reduceLT, decide_true, decide_false, if_true, if_false, Bool.false_eq_true, Option.some.injEq, reduceIte, and_self, true_and, and_true, VS.bnd_assoc]
    refine ((p_draw (n := m) (by omega) (by omega)).bnd (k := 12) fun r hr => ?_).mono (Nat.le_refl _) fun _ q => q
    obtain ⟨x, rfl, x0, x1⟩ := hr
    simp only [fDef, fDefF, ofF, sSeq, sIf, sNext, sDrop, sRet, sRetF, sRetO, sSetC, sSetA, sPar, cV, cO, fTst, fBlt, fCall, fCallF, fCons, fNil, fName, fC, fOp, fUn, fAndV, fOrV, fNotV, fAndT, fOrT, fNotT, fIf, fTup_eq, fLst_eq, fNew_eq, chkL0, chkL1, chkL2, chkL3, chkL4, chkT1, chkT2, chkT3, chkN0, chkN1, fL, fLcL, fSeq, fStar, fIt, fStrs, fSl, fPart, sFor, sAsgT, bnd_ret, ofO_some, al, cl, Sl.al, Sl.cl, startS, wipeD, hSet, gSet, List.map_cons, List.map_nil, List.length_cons, List.length_nil, List.cons_append, List.nil_append, List.getElem?_cons_zero, List.getElem?_cons_succ, List.replicate, List.set_cons_zero, List.set_cons_succ, eqD_int, eqD_str, neD_int, eqD_bl, neD_bl, geD_int, gtD_int, ltD_int, addD_int, subD_int, Nat.reduceSub, Nat.reduceAdd, Nat.reduceLT, decide_true, decide_false, if_true, if_false, Bool.false_eq_true, Option.some.injEq, reduceIte, and_self, true_and, and_true, c.wanted, ewj, VS.bnd_assoc]
    refine ((numDraws (m := m) (by omega) (by omega) wj (by omega) ?_).bnd (k := 0) fun r hr => ?_).mono (by omega) fun _ q => q
    · exact fun y hy => ⟨_, rfl, by simp only [fDef, fDefF, ofF, sSeq, sIf, sNext, sDrop, sRet, sRetF, sRetO, sSetC, sSetA, sPar, cV, cO, fTst, fBlt, fCall, fCallF, fCons, fNil, fName, fC, fOp, fUn, fAndV, fOrV, fNotV, fAndT, fOrT, fNotT, fIf, fTup_eq, fLst_eq, fNew_eq, chkL0, chkL1, chkL2, chkL3, chkL4, chkT1, chkT2, chkT3, chkN0, chkN1, fL, fLcL, fSeq, fStar, fIt, fStrs, fSl, fPart, sFor, sAsgT, bnd_ret, ofO_some, al, cl, Sl.al, Sl.cl, startS, wipeD, hSet, gSet, List.map_cons, List.map_nil, List.length_cons, List.length_nil, List.cons_append, List.nil_append, List.getElem?_cons_zero, List.getElem?_cons_succ, List.replicate, List.set_cons_zero, List.set_cons_succ, eqD_int, eqD_str, neD_int, eqD_bl, neD_bl, geD_int, gtD_int, ltD_int, addD_int, subD_int, Nat.reduceSub, Nat.reduceAdd, Nat.reduceLT, decide_true, decide_false, if_true, if_false, Bool.false_eq_true, Option.some.injEq, reduceIte, and_self, true_and, and_true]⟩
    obtain ⟨nums, rfl, l1, l2⟩ := hr
    try simp only [fDef, fDefF, ofF, sSeq, sIf, sNext, sDrop, sRet, sRetF, sRetO, sSetC, sSetA, sPar, cV, cO, fTst, fBlt, fCall, fCallF, fCons, fNil, fName, fC, fOp, fUn, fAndV, fOrV, fNotV, fAndT, fOrT, fNotT, fIf, fTup_eq, fLst_eq, fNew_eq, chkL0, chkL1, chkL2, chkL3, chkL4, chkT1, chkT2, chkT3, chkN0, chkN1, fL, fLcL, fSeq, fStar, fIt, fStrs, fSl, fPart, sFor, sAsgT, bnd_ret, ofO_some, al, cl, Sl.al, Sl.cl, startS, wipeD, hSet, gSet, List.map_cons, List.map_nil, List.length_cons, List.length_nil, List.cons_append, List.nil_append, List.getElem?_cons_zero, List.getElem?_cons_succ, List.replicate, List.set_cons_zero, List.set_cons_succ, eqD_int, eqD_str, neD_int, eqD_bl, neD_bl, geD_int, gtD_int, ltD_int, addD_int, subD_int, Nat.reduceSub, Nat.reduceAdd, Nat.reduceLT, decide_true, decide_false, if_true, if_false, Bool.false_eq_true, Option.some.injEq, reduceIte, and_self, true_and, and_true]
    exact Ok.ret 0 ⟨_, rfl, x, nums, ⟨x0, x1, l2, by omega⟩, rfl⟩
  obtain ⟨x, nums, ⟨x0, x1, hnu, hnl⟩, rfl⟩ := he'
  obtain ⟨rest, erest⟩ := c.ldealt (x := x) hnl
  have eix : oIx (.tup [.lst ((K75.deal' m f x nums).map D.int), rest]) (.int 0) = some (.lst ((K75.deal' m f x nums).map D.int)) := ixD0 rfl
  unfold LB3_4
  refine Ok.mono (Ok.seq (n := 180) (k := 1846) (P := fun e' => ∃ g : D, IsF f g ∧ e' = [a0, .val .strm, a2, .val (.lst (ns.map D.str)), .val d, .val (.int m), .val (.str ks), a7, .val (.int x), .val (.lst (nums.map D.int)), .val (.lst ((K75.deal' m f x nums).map D.int)), .val (.lst [g, .lst (nums.map D.int)]), a12, a13, a14, a15, a16, a17, a18, a19, a20, a21, a22, a23, a24, a25]) ?_ fun e' he' => ?_) (Nat.le_refl _) fun _ q => q
  · simp only [fDef, fDefF, ofF, sSeq, sIf, sNext, sDrop, sRet, sRetF, sRetO, sSetC, sSetA, sPar, cV, cO, fTst, fBlt, fCall, fCallF, fCons, fNil, fName, fC, fOp, fUn, fAndV, fOrV, fNotV, fAndT, fOrT, fNotT, fIf, fTup_eq, fLst_eq, fNew_eq, chkL0, chkL1, chkL2, chkL3, chkL4, chkT1, chkT2, chkT3, chkN0, chkN1, fL, fLcL, fSeq, fStar, fIt, fStrs, fSl, fPart, sFor, sAsgT, bnd_ret, ofO_some, al, cl, Sl.al, Sl.cl, startS, wipeD, hSet, gSet, List.map_cons, List.map_nil, List.length_cons, List.length_nil, List.cons_append, List.nil_append, List.getElem?_cons_zero, List.getElem?_cons_succ, List.replicate, List.set_cons_zero, List.set_cons_succ, eqD_int, eqD_str, neD_int, eqD_bl, neD_bl, geD_int, gtD_int, ltD_int, addD_int, subD_int, Nat.reduceSub, Nat.reduceAdd, Nat.reduceLT, decide_true, decide_false, if_true, if_false, Bool.false_eq_true, Option.some.injEq, reduceIte, and_self, true_and, and_true, erest, eix, one_lst, VS.bnd_assoc]
    refine (c.loose.bnd (k := 0) fun r hr => ?_).mono (Nat.le_refl _) fun _ q => q
    try simp only [fDef, fDefF, ofF, sSeq, sIf, sNext, sDrop, sRet, sRetF, sRetO, sSetC, sSetA, sPar, cV, cO, fTst, fBlt, fCall, fCallF, fCons, fNil, fName, fC, fOp, fUn, fAndV, fOrV, fNotV, fAndT, fOrT, fNotT, fIf, fTup_eq, fLst_eq, fNew_eq, chkL0, chkL1, chkL2, chkL3, chkL4, chkT1, chkT2, chkT3, chkN0, chkN1, fL, fLcL, fSeq, fStar, fIt, fStrs, fSl, fPart, sFor, sAsgT, bnd_ret, ofO_some, al, cl, Sl.al, Sl.cl, startS, wipeD, hSet, gSet, List.map_cons, List.map_nil, List.length_cons, List.length_nil, List.cons_append, List.nil_append, List.getElem?_cons_zero, List.getElem?_cons_succ, List.replicate, List.set_cons_zero, List.set_cons_succ, eqD_int, eqD_str, neD_int, eqD_bl, neD_bl, geD_int, gtD_int, ltD_int, addD_int, subD_int, Nat.reduceSub, Nat.reduceAdd, Nat.reduceLT, decide_true, decide_false, if_true, if_false, Bool.false_eq_true, Option.some.injEq, reduceIte, and_self, true_and, and_true]
    exact Ok.ret 0 ⟨_, rfl, r, hr, rfl⟩
  obtain ⟨g, hg, rfl⟩ := he'
  obtain ⟨kh, ekh⟩ := repr_hand (ns := nums) (e := .lst (nums.map D.int)) hg hf2 (by omega) (by omega) rfl (by omega) fun y hy => ⟨(hnu y hy).1, by have := (hnu y hy).2; omega⟩
  have f1 := c.deal (e := .lst (nums.map D.int)) hg x0 x1 hnu hnl rfl
  have f2 := c.deal (e := .tup (nums.map D.int)) hf1 x0 x1 hnu hnl rfl
  have f3 := c.deal' (e := .lst (nums.map D.int)) hf1 x0 x1 hnu hnl rfl
  have hlen : (K75.deal' m f x nums).length = (names f).length := deal_length m f x nums (wf_ne f hf2) (by omega)
  have hin : InR m (K75.deal' m f x nums) := deal_in m (by omega) f x nums (wf_ne f hf2) hnu x0 x1
  have f4 := c.secret (e := .lst ((K75.deal' m f x nums).map D.int)) hf1 rfl hlen hin
  have f5 := c.lsecret hlen
  rw [sec_deal m (by omega) f x nums (wf_ne f hf2) (by omega) hnu x0 x1] at f4 f5
  have hI := ibs (k := .str ks) c n1 n0 hw x0 x1 hnu hnl
  generalize hdu : K75.deal' m f x nums = du at *
  have pdu : pl 19 (.lst (du.map D.int)) := pl_ints (n := 17) rfl (by omega)
  have pdu' : pl 20 (.lst (du.map D.int)) := pl_ints (n := 18) rfl (by omega)
  have g1 : F__law_same [.lst [.lst (du.map D.int), .lst (du.map D.int)], .lst [.lst (du.map D.int), .lst (du.map D.int)]] = ret (.bl true) :=
    L_same (show pl (19 + 1) (D.lst [.lst (du.map D.int), .lst (du.map D.int)]) from ⟨show 2 ≤ 1000 by decide, fun y hy => by
      rcases List.mem_cons.mp hy with rfl | hy
      · exact pdu
      · rcases List.mem_cons.mp hy with rfl | hy
        · exact pdu
        · cases hy⟩)
  have g2 := eqStr kh
  have i0 : oIx (.lst [g, .lst (nums.map D.int)]) (.int 0) = some g := ixD0 rfl
  have i1 : oIx (.lst [g, .lst (nums.map D.int)]) (.int 1) = some (.lst (nums.map D.int)) := ixD1 rfl
  have hsz : du.length < sizeLine := by
    rw [sizeLine_eq]
    omega
  have hcp := c.copied
  unfold LB3_5
  rw [seq_nx (e' := [a0, .val .strm, a2, .val (.lst (ns.map D.str)), .val d, .val (.int m), .val (.str ks), a7, .val (.int x), .val (.lst (nums.map D.int)), .val (.lst (du.map D.int)), .val (.lst [g, .lst (nums.map D.int)]), .val (.str kh), .un, a14, a15, a16, a17, a18, a19, a20, a21, a22, a23, a24, a25])
    (by
      unfold sTold
      simp only [fDef, fDefF, ofF, sSeq, sIf, sNext, sDrop, sRet, sRetF, sRetO, sSetC, sSetA, sPar, cV, cO, fTst, fBlt, fCall, fCallF, fCons, fNil, fName, fC, fOp, fUn, fAndV, fOrV, fNotV, fAndT, fOrT, fNotT, fIf, fTup_eq, fLst_eq, fNew_eq, chkL0, chkL1, chkL2, chkL3, chkL4, chkT1, chkT2, chkT3, chkN0, chkN1, fL, fLcL, fSeq, fStar, fIt, fStrs, fSl, fPart, sFor, sAsgT, bnd_ret, ofO_some, al, cl, Sl.al, Sl.cl, startS, wipeD, hSet, gSet, List.map_cons, List.map_nil, List.length_cons, List.length_nil, List.cons_append, List.nil_append, List.getElem?_cons_zero, List.getElem?_cons_succ, List.replicate, List.set_cons_zero, List.set_cons_succ, eqD_int, eqD_str, neD_int, eqD_bl, neD_bl, geD_int, gtD_int, ltD_int, addD_int, subD_int, Nat.reduceSub, Nat.reduceAdd, Nat.reduceLT, decide_true, decide_false, if_true, if_false, Bool.false_eq_true, Option.some.injEq, reduceIte, and_self, true_and, and_true, fCallKF, pick4r, tup_lst, hcp, f2, ekh, i0, i1, f1, VS.ints_map, hsz, g1, g2, Bool.not_true])]
  unfold LB3_6
  simp only [fDef, fDefF, ofF, sSeq, sIf, sNext, sDrop, sRet, sRetF, sRetO, sSetC, sSetA, sPar, cV, cO, fTst, fBlt, fCall, fCallF, fCons, fNil, fName, fC, fOp, fUn, fAndV, fOrV, fNotV, fAndT, fOrT, fNotT, fIf, fTup_eq, fLst_eq, fNew_eq, chkL0, chkL1, chkL2, chkL3, chkL4, chkT1, chkT2, chkT3, chkN0, chkN1, fL, fLcL, fSeq, fStar, fIt, fStrs, fSl, fPart, sFor, sAsgT, bnd_ret, ofO_some, al, cl, Sl.al, Sl.cl, startS, wipeD, hSet, gSet, List.map_cons, List.map_nil, List.length_cons, List.length_nil, List.cons_append, List.nil_append, List.getElem?_cons_zero, List.getElem?_cons_succ, List.replicate, List.set_cons_zero, List.set_cons_succ, eqD_int, eqD_str, neD_int, eqD_bl, neD_bl, geD_int, gtD_int, ltD_int, addD_int, subD_int, Nat.reduceSub, Nat.reduceAdd, Nat.reduceLT, decide_true, decide_false, if_true, if_false, Bool.false_eq_true, Option.some.injEq, reduceIte, and_self, true_and, and_true, hcp, one_lst, f3, L_same pdu', Bool.not_true]
  unfold LB3_7
  simp only [fDef, fDefF, ofF, sSeq, sIf, sNext, sDrop, sRet, sRetF, sRetO, sSetC, sSetA, sPar, cV, cO, fTst, fBlt, fCall, fCallF, fCons, fNil, fName, fC, fOp, fUn, fAndV, fOrV, fNotV, fAndT, fOrT, fNotT, fIf, fTup_eq, fLst_eq, fNew_eq, chkL0, chkL1, chkL2, chkL3, chkL4, chkT1, chkT2, chkT3, chkN0, chkN1, fL, fLcL, fSeq, fStar, fIt, fStrs, fSl, fPart, sFor, sAsgT, bnd_ret, ofO_some, al, cl, Sl.al, Sl.cl, startS, wipeD, hSet, gSet, List.map_cons, List.map_nil, List.length_cons, List.length_nil, List.cons_append, List.nil_append, List.getElem?_cons_zero, List.getElem?_cons_succ, List.replicate, List.set_cons_zero, List.set_cons_succ, eqD_int, eqD_str, neD_int, eqD_bl, neD_bl, geD_int, gtD_int, ltD_int, addD_int, subD_int, Nat.reduceSub, Nat.reduceAdd, Nat.reduceLT, decide_true, decide_false, if_true, if_false, Bool.false_eq_true, Option.some.injEq, reduceIte, and_self, true_and, and_true, hcp, one_lst, f4, f5, chkN2]
  have h2 := same2 (o := some x)
  unfold LB3_8
  simp only [fDef, fDefF, ofF, sSeq, sIf, sNext, sDrop, sRet, sRetF, sRetO, sSetC, sSetA, sPar, cV, cO, fTst, fBlt, fCall, fCallF, fCons, fNil, fName, fC, fOp, fUn, fAndV, fOrV, fNotV, fAndT, fOrT, fNotT, fIf, fTup_eq, fLst_eq, fNew_eq, chkL0, chkL1, chkL2, chkL3, chkL4, chkT1, chkT2, chkT3, chkN0, chkN1, fL, fLcL, fSeq, fStar, fIt, fStrs, fSl, fPart, sFor, sAsgT, bnd_ret, ofO_some, al, cl, Sl.al, Sl.cl, startS, wipeD, hSet, gSet, List.map_cons, List.map_nil, List.length_cons, List.length_nil, List.cons_append, List.nil_append, List.getElem?_cons_zero, List.getElem?_cons_succ, List.replicate, List.set_cons_zero, List.set_cons_succ, eqD_int, eqD_str, neD_int, eqD_bl, neD_bl, geD_int, gtD_int, ltD_int, addD_int, subD_int, Nat.reduceSub, Nat.reduceAdd, Nat.reduceLT, decide_true, decide_false, if_true, if_false, Bool.false_eq_true, Option.some.injEq, reduceIte, and_self, true_and, and_true, show dO (some x) = .int x from rfl, show F__law_same [.lst [.int x, .int x], .lst [.int x, .int x]] = ret (.bl true) from h2, Bool.not_true]
  obtain ⟨rj, erj, lrj⟩ := rngK 6 (by omega)
  have erj' : rng1 [.int 6] = some rj := erj
  unfold LB3_9
  refine Ok.mono (Ok.seq (n := 217 * 6) (k := 0) (P := Inv (.lst (ns.map D.str)) d (.str ks) m x du) ?_ fun e' he' => ?_) (by decide) fun _ q => q
  · simp only [fDef, fDefF, ofF, sSeq, sIf, sNext, sDrop, sRet, sRetF, sRetO, sSetC, sSetA, sPar, cV, cO, fTst, fBlt, fCall, fCallF, fCons, fNil, fName, fC, fOp, fUn, fAndV, fOrV, fNotV, fAndT, fOrT, fNotT, fIf, fTup_eq, fLst_eq, fNew_eq, chkL0, chkL1, chkL2, chkL3, chkL4, chkT1, chkT2, chkT3, chkN0, chkN1, fL, fLcL, fSeq, fStar, fIt, fStrs, fSl, fPart, sFor, sAsgT, bnd_ret, ofO_some, al, cl, Sl.al, Sl.cl, startS, wipeD, hSet, gSet, List.map_cons, List.map_nil, List.length_cons, List.length_nil, List.cons_append, List.nil_append, List.getElem?_cons_zero, List.getElem?_cons_succ, List.replicate, List.set_cons_zero, List.set_cons_succ, eqD_int, eqD_str, neD_int, eqD_bl, neD_bl, geD_int, gtD_int, ltD_int, addD_int, subD_int, Nat.reduceSub, Nat.reduceAdd, Nat.reduceLT, decide_true, decide_false, if_true, if_false, Bool.false_eq_true, Option.some.injEq, reduceIte, and_self, true_and, and_true, erj']
    rw [← lrj]
    exact hI rj _ ⟨_, _, _, _, _, _, _, _, _, _, _, _, _, _, _, _, _, _, _, rfl⟩
  obtain ⟨b0, b2, b7, b9, b11, b12, b13, b14, b15, b16, b17, b18, b19, b20, b21, b22, b23, b24, b25, rfl⟩ := he'
  unfold LB3_10
  simp only [fDef, fDefF, ofF, sSeq, sIf, sNext, sDrop, sRet, sRetF, sRetO, sSetC, sSetA, sPar, cV, cO, fTst, fBlt, fCall, fCallF, fCons, fNil, fName, fC, fOp, fUn, fAndV, fOrV, fNotV, fAndT, fOrT, fNotT, fIf, fTup_eq, fLst_eq, fNew_eq, chkL0, chkL1, chkL2, chkL3, chkL4, chkT1, chkT2, chkT3, chkN0, chkN1, fL, fLcL, fSeq, fStar, fIt, fStrs, fSl, fPart, sFor, sAsgT, bnd_ret, ofO_some, al, cl, Sl.al, Sl.cl, startS, wipeD, hSet, gSet, List.map_cons, List.map_nil, List.length_cons, List.length_nil, List.cons_append, List.nil_append, List.getElem?_cons_zero, List.getElem?_cons_succ, List.replicate, List.set_cons_zero, List.set_cons_succ, eqD_int, eqD_str, neD_int, eqD_bl, neD_bl, geD_int, gtD_int, ltD_int, addD_int, subD_int, Nat.reduceSub, Nat.reduceAdd, Nat.reduceLT, decide_true, decide_false, if_true, if_false, Bool.false_eq_true, Option.some.injEq, reduceIte, and_self, true_and, and_true, hks, eqStr ks]
  exact Ok.ret 0 ⟨_, rfl, _, _, _, _, _, _, _, _, _, _, _, _, _, _, _, _, _, _, _, _, _, _, _, _, _, rfl⟩
theorem tbs : ∀ (js : List D) (e : SEnv), InvT e → Ok (5000 * js.length) (forGo (hSet 2) LB3 js e) (fun r => ∃ e', r = .nx e' ∧ InvT e')
  | [], e, h => Ok.ret _ ⟨e, rfl, h⟩
  | j :: js, e, h => by
    obtain ⟨a0, a2, a3, a4, a5, a6, a7, a8, a9, a10, a11, a12, a13, a14, a15, a16, a17, a18, a19, a20, a21, a22, a23, a24, a25, rfl⟩ := h
    rw [forGo_step (env1 := [a0, .val .strm, .val j, a3, a4, a5, a6, a7, a8, a9, a10, a11, a12, a13, a14, a15, a16, a17, a18, a19, a20, a21, a22, a23, a24, a25]) rfl]
    refine ((tb ⟨_, _, _, _, _, _, _, _, _, _, _, _, _, _, _, _, _, _, _, _, _, _, _, _, _, rfl⟩).bnd (k := 5000 * js.length) fun r hr => ?_).mono (by rw [List.length_cons, Nat.mul_succ]; omega) fun _ q => q
    obtain ⟨e', rfl, h'⟩ := hr
    exact tbs js e' h'
end K75
namespace K75
open PySem PySem.Spec PyProof.Rows L2 VS
theorem inr (a b c : Int) (h : (0 ≤ a ∧ a < 10) ∧ (0 ≤ b ∧ b < 10) ∧ (0 ≤ c ∧ c < 10)) : InR 10 [a, b, c] := fun x hx => by
  rcases List.mem_cons.mp hx with rfl | hx
  · exact h.1
  rcases List.mem_cons.mp hx with rfl | hx
  · exact h.2.1
  rcases List.mem_cons.mp hx with rfl | hx
  · exact h.2.2
  cases hx
abbrev sA : Str := Str.ofString "a"
abbrev sB : Str := Str.ofString "b"
abbrev sC : Str := Str.ofString "c"
theorem ltAB : ltS sA sB = true := by decide +kernel
theorem ltBC : ltS sB sC = true := by decide +kernel
theorem risAB : Rising [sA, sB] := fun p hp => by
  cases List.mem_singleton.mp (show p ∈ [(sA, sB)] from hp)
  exact ltAB
theorem risBC : Rising [sB, sC] := fun p hp => by
  cases List.mem_singleton.mp (show p ∈ [(sB, sC)] from hp)
  exact ltBC
theorem risABC : Rising [sA, sB, sC] := fun p hp => by
  rcases List.mem_cons.mp (show p ∈ [(sA, sB), (sB, sC)] from hp) with rfl | hp
  · exact ltAB
  · cases List.mem_singleton.mp hp
    exact ltBC
theorem vABC : ∀ s ∈ [sA, sB, sC], valid s := fun s hs => by
  rcases List.mem_cons.mp hs with rfl | hs
  · exact va
  rcases List.mem_cons.mp hs with rfl | hs
  · exact vb
  rcases List.mem_cons.mp hs with rfl | hs
  · exact vc
  cases hs
theorem exO1 : F_opened [d0, .int 10, .lst [.str sA, .str sB], .lst [.int 8, .int 5, .int 5]] = ret (.int 3) := by
  have h := exOpen (lot := [sA, sB]) (inr 8 5 5 (by decide)) (by decide) risAB (fun s hs => vABC s (by simp at hs ⊢; rcases hs with h | h <;> simp [h]))
  rw [fndA] at h
  exact h
theorem exO2 : F_opened [d0, .int 10, .lst [.str sB, .str sC], .lst [.int 8, .int 5, .int 5]] = ret .non := by
  have h := exOpen (lot := [sB, sC]) (inr 8 5 5 (by decide)) (by decide) risBC (fun s hs => vABC s (by simp at hs ⊢; rcases hs with h | h <;> simp [h]))
  rw [fndB] at h
  exact h
theorem exO3 : F_opened [d0, .int 10, .lst [.str sA, .str sB, .str sC], .lst [.int 8, .int 4, .int 6]] = ret (.int 2) := by
  have h := exOpen (lot := [sA, sB, sC]) (inr 8 4 6 (by decide)) (by decide) risABC vABC
  rw [fndC] at h
  exact h
theorem exS1 : F_secret_of [d0, .int 10, .lst [.int 8, .int 5, .int 5]] = ret (.int 3) := by
  have h := exSec (inr 8 5 5 (by decide))
  rw [secA] at h
  exact h
theorem exS2 : F_secret_of [d0, .int 10, .lst [.int 8, .int 5, .int 6]] = ret .non := by
  have h := exSec (inr 8 5 6 (by decide))
  rw [secB] at h
  exact h
abbrev l855 : D := .lst [.int 8, .int 5, .int 5]
abbrev resD : D := .lst [l855, .int 3, .non, .int 3, .non, .int 2]
theorem exSame : F__law_same [resD, resD] = ret (.bl true) := L_same (by
  show [l855, D.int 3, .non, .int 3, .non, .int 2].length ≤ 1000 ∧ ∀ d ∈ [l855, D.int 3, .non, .int 3, .non, .int 2], pl 19 d
  refine ⟨by show 6 ≤ 1000; decide, fun y hy => ?_⟩
  rcases List.mem_cons.mp hy with rfl | hy
  · exact pl_ints (n := 17) (d := l855) (ns := [8, 5, 5]) rfl (by decide)
  rcases List.mem_cons.mp hy with rfl | hy
  · trivial
  rcases List.mem_cons.mp hy with rfl | hy
  · trivial
  rcases List.mem_cons.mp hy with rfl | hy
  · trivial
  rcases List.mem_cons.mp hy with rfl | hy
  · trivial
  rcases List.mem_cons.mp hy with rfl | hy
  · trivial
  cases hy)
theorem chkL6 {a b c d e f : D} : chkL [a, b, c, d, e, f] = ret (.lst [a, b, c, d, e, f]) := chkL_of (sz (show 6 ≤ 1000000 by decide))
theorem ext3 {a b c d e f : D} : stExtend [a, b, c] [.lst [d, e, f]] = some ([a, b, c, d, e, f], .non) := stExtend_ok (a := [a, b, c]) (e := [d, e, f]) (sz (show 6 ≤ 1000000 by decide))
theorem fin {e : SEnv} (h : InvT e) : LBT_1 e = ret (.rt (.bl true)) := by
  obtain ⟨a0, a2, a3, a4, a5, a6, a7, a8, a9, a10, a11, a12, a13, a14, a15, a16, a17, a18, a19, a20, a21, a22, a23, a24, a25, rfl⟩ := h
  unfold LBT_1
  simp only [fDef, fDefF, ofF, sSeq, sIf, sNext, sDrop, sRet, sRetF, sRetO, sSetC, sSetA, sPar, cV, cO, fTst, fBlt, fCall, fCallF, fCons, fNil, fName, fC, fOp, fUn, fAndV, fOrV, fNotV, fAndT, fOrT, fNotT, fIf, fTup_eq, fLst_eq, fNew_eq, chkL0, chkL1, chkL2, chkL3, chkL4, chkT1, chkT2, chkT3, chkN0, chkN1, fL, fLcL, fSeq, fStar, fIt, fStrs, fSl, fPart, sFor, sAsgT, bnd_ret, ofO_some, al, cl, Sl.al, Sl.cl, startS, wipeD, hSet, gSet, List.map_cons, List.map_nil, List.length_cons, List.length_nil, List.cons_append, List.nil_append, List.getElem?_cons_zero, List.getElem?_cons_succ, List.replicate, List.set_cons_zero, List.set_cons_succ, eqD_int, eqD_str, neD_int, eqD_bl, neD_bl, geD_int, gtD_int, ltD_int, addD_int, subD_int, Nat.reduceSub, Nat.reduceAdd, Nat.reduceLT, decide_true, decide_false, if_true, if_false, Bool.false_eq_true, Option.some.injEq, reduceIte, and_self, true_and, and_true]
  show LBT_2 [a0, .val .strm, a2, a3, a4, a5, a6, .val d0, a8, a9, a10, a11, a12, a13, a14, a15, a16, a17, a18, a19, a20, a21, a22, a23, a24, a25] = _
  generalize hd : d0 = d
  have h1 := exDeal
  have h2 := exO1
  have h3 := exO2
  have h4 := exO3
  have h5 := exS1
  have h6 := exS2
  rw [hd] at h1 h2 h3 h4 h5 h6
  unfold LBT_2
  simp only [fDef, fDefF, ofF, sSeq, sIf, sNext, sDrop, sRet, sRetF, sRetO, sSetC, sSetA, sPar, cV, cO, fTst, fBlt, fCall, fCallF, fCons, fNil, fName, fC, fOp, fUn, fAndV, fOrV, fNotV, fAndT, fOrT, fNotT, fIf, fTup_eq, fLst_eq, fNew_eq, chkL0, chkL1, chkL2, chkL3, chkL4, chkT1, chkT2, chkT3, chkN0, chkN1, fL, fLcL, fSeq, fStar, fIt, fStrs, fSl, fPart, sFor, sAsgT, bnd_ret, ofO_some, al, cl, Sl.al, Sl.cl, startS, wipeD, hSet, gSet, List.map_cons, List.map_nil, List.length_cons, List.length_nil, List.cons_append, List.nil_append, List.getElem?_cons_zero, List.getElem?_cons_succ, List.replicate, List.set_cons_zero, List.set_cons_succ, eqD_int, eqD_str, neD_int, eqD_bl, neD_bl, geD_int, gtD_int, ltD_int, addD_int, subD_int, Nat.reduceSub, Nat.reduceAdd, Nat.reduceLT, decide_true, decide_false, if_true, if_false, Bool.false_eq_true, Option.some.injEq, reduceIte, and_self, true_and, and_true, h1, h2, h3, chkN3]
  unfold LBT_3 sMut
  simp only [fDef, fDefF, ofF, sSeq, sIf, sNext, sDrop, sRet, sRetF, sRetO, sSetC, sSetA, sPar, cV, cO, fTst, fBlt, fCall, fCallF, fCons, fNil, fName, fC, fOp, fUn, fAndV, fOrV, fNotV, fAndT, fOrT, fNotT, fIf, fTup_eq, fLst_eq, fNew_eq, chkL0, chkL1, chkL2, chkL3, chkL4, chkT1, chkT2, chkT3, chkN0, chkN1, fL, fLcL, fSeq, fStar, fIt, fStrs, fSl, fPart, sFor, sAsgT, bnd_ret, ofO_some, al, cl, Sl.al, Sl.cl, startS, wipeD, hSet, gSet, List.map_cons, List.map_nil, List.length_cons, List.length_nil, List.cons_append, List.nil_append, List.getElem?_cons_zero, List.getElem?_cons_succ, List.replicate, List.set_cons_zero, List.set_cons_succ, eqD_int, eqD_str, neD_int, eqD_bl, neD_bl, geD_int, gtD_int, ltD_int, addD_int, subD_int, Nat.reduceSub, Nat.reduceAdd, Nat.reduceLT, decide_true, decide_false, if_true, if_false, Bool.false_eq_true, Option.some.injEq, reduceIte, and_self, true_and, and_true, h4, h5, h6, ext3]
  unfold LBT_4
  simp only [fDef, fDefF, ofF, sSeq, sIf, sNext, sDrop, sRet, sRetF, sRetO, sSetC, sSetA, sPar, cV, cO, fTst, fBlt, fCall, fCallF, fCons, fNil, fName, fC, fOp, fUn, fAndV, fOrV, fNotV, fAndT, fOrT, fNotT, fIf, fTup_eq, fLst_eq, fNew_eq, chkL0, chkL1, chkL2, chkL3, chkL4, chkT1, chkT2, chkT3, chkN0, chkN1, fL, fLcL, fSeq, fStar, fIt, fStrs, fSl, fPart, sFor, sAsgT, bnd_ret, ofO_some, al, cl, Sl.al, Sl.cl, startS, wipeD, hSet, gSet, List.map_cons, List.map_nil, List.length_cons, List.length_nil, List.cons_append, List.nil_append, List.getElem?_cons_zero, List.getElem?_cons_succ, List.replicate, List.set_cons_zero, List.set_cons_succ, eqD_int, eqD_str, neD_int, eqD_bl, neD_bl, geD_int, gtD_int, ltD_int, addD_int, subD_int, Nat.reduceSub, Nat.reduceAdd, Nat.reduceLT, decide_true, decide_false, if_true, if_false, Bool.false_eq_true, Option.some.injEq, reduceIte, and_self, true_and, and_true, chkL6, exSame]
theorem pure_law : ∀ ns : List Int, ns.length ≤ 63 → ∃ st', B_law (env0 26) (some ⟨ns, 0, 0, 19⟩) = some (.ok (.rt (.bl true)), st') := by
  intro ns hn
  obtain ⟨rj, erj, lrj⟩ := rngK 10 (by omega)
  have erj' : rng1 [.int 10] = some rj := erj
  have h : Ok 50000 (B_law (env0 26)) (fun r => r = .rt (.bl true)) := by
    rw [B_law_eq]
    unfold LBT LBT_0
    refine Ok.mono (Ok.seq (n := 50000) (k := 0) (P := InvT) ?_ fun e' he' => ?_) (Nat.le_refl _) fun _ q => q
    · have := tbs rj (env0 26) ⟨_, _, _, _, _, _, _, _, _, _, _, _, _, _, _, _, _, _, _, _, _, _, _, _, _, rfl⟩
      rw [lrj] at this
      simp only [fDef, fDefF, ofF, sSeq, sIf, sNext, sDrop, sRet, sRetF, sRetO, sSetC, sSetA, sPar, cV, cO, fTst, fBlt, fCall, fCallF, fCons, fNil, fName, fC, fOp, fUn, fAndV, fOrV, fNotV, fAndT, fOrT, fNotT, fIf, fTup_eq, fLst_eq, fNew_eq, chkL0, chkL1, chkL2, chkL3, chkL4, chkT1, chkT2, chkT3, chkN0, chkN1, fL, fLcL, fSeq, fStar, fIt, fStrs, fSl, fPart, sFor, sAsgT, bnd_ret, ofO_some, al, cl, Sl.al, Sl.cl, startS, wipeD, hSet, gSet, List.map_cons, List.map_nil, List.length_cons, List.length_nil, List.cons_append, List.nil_append, List.getElem?_cons_zero, List.getElem?_cons_succ, List.replicate, List.set_cons_zero, List.set_cons_succ, eqD_int, eqD_str, neD_int, eqD_bl, neD_bl, geD_int, gtD_int, ltD_int, addD_int, subD_int, Nat.reduceSub, Nat.reduceAdd, Nat.reduceLT, decide_true, decide_false, if_true, if_false, Bool.false_eq_true, Option.some.injEq, reduceIte, and_self, true_and, and_true, erj']
      exact this
    · rw [fin he']
      exact Ok.ret 0 rfl
  obtain ⟨a, s', e, _, _, rfl⟩ := h ⟨ns, 0, 0, 19⟩ ⟨show (0 : Int) ≤ 0 by decide, show (0 : Int) ≤ 0 by decide, show (0 : Int) ≤ 19 by decide, show (19 : Int) < 2147483648 by decide⟩ (show (0 : Int) + ((50000 : Nat) : Int) ≤ 1099511627776 by decide)
  exact ⟨_, e⟩
end K75

namespace K75
open PySem PySem.Spec PyProof.Rows L2 VS
theorem ok_law {P : Program} {w : World} {K : PySem.W.Frag} {mg : Str → Option Value} {base : Heap} {fa : Addr} {fd : FuncData} (T : Tx K mg) (F : Fun K "law" "law" s_law fa fd) : LawOk P w K mg base (L2.CX P w) fa fd ["script"] (spLaw K 63) := by
  refine law_fn (k := 45) ⟨rfl, by decide, by decide⟩ F sc_law (fun vs H Q E h => by obtain ⟨a, ns, rfl, _⟩ := h; rfl) fun cdv up s H vs Q E hr h => ?_
  obtain ⟨t, ht⟩ := ess_law (P := P) (w := w) (base := base) (up := up) (H := H) (E := E) T hr
  exact ⟨_, pss_cons (ps_set (i := 1) sc_law.nd rfl (by first | exact Or.inl rfl | exact Or.inr rfl) (pe_call (ok__law_stream T) (hr.mono (by decide)) rfl T.m__law_stream T.F__law_stream.kp (b__law_stream T) .nil (passes_call (takes_of rfl rfl rfl rfl) fun _ _ _ _ h => h) (pa_cons (pe_var (by rfl) (by first | exact Or.inl rfl | exact Or.inr (Or.inl rfl))) pa_nil)) (by rfl) (by first | exact .inl rfl | exact .inr rfl)) ht.pss, read_law (by decide) ht.rs pure_law h⟩
def DefIn (K : PySem.W.Frag) (x : Str) (st : Stmt) : Prop := ∃ (f : Addr) (fd : FuncData), PySem.W.nsIn K mainGlobals x = some (some (.ref f)) ∧ Fun K x x st f fd
theorem all_mk {P : Program} {w : World} {K : PySem.W.Frag} {h : Heap} {mg : Str → Option Value} {fa : Addr} (X : K.In h) (G : h.Ns mainGlobals mg) (hfa : mg "law" = some (.ref fa)) (d_law : DefIn K "law" s_law)
    (d_is_list : DefIn K "is_list" s_is_list)
    (d_is_whole : DefIn K "is_whole" s_is_whole)
    (d_is_number : DefIn K "is_number" s_is_number)
    (d_is_row : DefIn K "is_row" s_is_row)
    (d_is_name : DefIn K "is_name" s_is_name)
    (d_is_index : DefIn K "is_index" s_is_index)
    (d_is_rising : DefIn K "is_rising" s_is_rising)
    (d_wrong_part : DefIn K "wrong_part" s_wrong_part)
    (d_check_formula : DefIn K "check_formula" s_check_formula)
    (d_check_names : DefIn K "check_names" s_check_names)
    (d_places_of : DefIn K "places_of" s_places_of)
    (d_wanted_of : DefIn K "wanted_of" s_wanted_of)
    (d_check_modulus : DefIn K "check_modulus" s_check_modulus)
    (d_check_secret : DefIn K "check_secret" s_check_secret)
    (d_are_below : DefIn K "are_below" s_are_below)
    (d_dealt_out : DefIn K "dealt_out" s_dealt_out)
    (d_deal : DefIn K "deal" s_deal)
    (d_check_shares : DefIn K "check_shares" s_check_shares)
    (d_parted : DefIn K "parted" s_parted)
    (d_dealt_from : DefIn K "dealt_from" s_dealt_from)
    (d_secret_of : DefIn K "secret_of" s_secret_of)
    (d_found_by : DefIn K "found_by" s_found_by)
    (d_opened : DefIn K "opened" s_opened)
    (d__law_stream : DefIn K "_law_stream" s__law_stream)
    (d__law_draw : DefIn K "_law_draw" s__law_draw)
    (d__law_pick : DefIn K "_law_pick" s__law_pick)
    (d__law_mixed : DefIn K "_law_mixed" s__law_mixed)
    (d__law_same : DefIn K "_law_same" s__law_same)
    (d__law_names : DefIn K "_law_names" s__law_names)
    (d__law_loose : DefIn K "_law_loose" s__law_loose)
    (d__law_spoilt : DefIn K "_law_spoilt" s__law_spoilt)
    (d__law_places : DefIn K "_law_places" s__law_places)
    (d__law_formula : DefIn K "_law_formula" s__law_formula)
    (d__law_opens : DefIn K "_law_opens" s__law_opens)
    (d__law_wanted : DefIn K "_law_wanted" s__law_wanted)
    (d__law_dealt : DefIn K "_law_dealt" s__law_dealt)
    (d__law_parted : DefIn K "_law_parted" s__law_parted)
    (d__law_secret : DefIn K "_law_secret" s__law_secret)
    (d__law_lot : DefIn K "_law_lot" s__law_lot)
    (d__law_copied : DefIn K "_law_copied" s__law_copied)
    (d__law_found : DefIn K "_law_found" s__law_found)
    (z_abs : PySem.W.nsIn K mainGlobals "abs" = some none)
    (z_all : PySem.W.nsIn K mainGlobals "all" = some none)
    (z_any : PySem.W.nsIn K mainGlobals "any" = some none)
    (z_bool : PySem.W.nsIn K mainGlobals "bool" = some none)
    (z_dict : PySem.W.nsIn K mainGlobals "dict" = some none)
    (z_enumerate : PySem.W.nsIn K mainGlobals "enumerate" = some none)
    (z_int : PySem.W.nsIn K mainGlobals "int" = some none)
    (z_isinstance : PySem.W.nsIn K mainGlobals "isinstance" = some none)
    (z_len : PySem.W.nsIn K mainGlobals "len" = some none)
    (z_list : PySem.W.nsIn K mainGlobals "list" = some none)
    (z_max : PySem.W.nsIn K mainGlobals "max" = some none)
    (z_min : PySem.W.nsIn K mainGlobals "min" = some none)
    (z_range : PySem.W.nsIn K mainGlobals "range" = some none)
    (z_repr : PySem.W.nsIn K mainGlobals "repr" = some none)
    (z_sorted : PySem.W.nsIn K mainGlobals "sorted" = some none)
    (z_str : PySem.W.nsIn K mainGlobals "str" = some none)
    (z_sum : PySem.W.nsIn K mainGlobals "sum" = some none)
    (z_tuple : PySem.W.nsIn K mainGlobals "tuple" = some none)
    (z_zip : PySem.W.nsIn K mainGlobals "zip" = some none)
    (y_LETTERS : ∃ tk, PySem.W.nsIn K mainGlobals "LETTERS" = some (some (.str (Str.ofString "abcdefghijklmnopqrstuvwxyz") tk)))
    : ∃ fd : FuncData, (∀ (s : Shared) (v : Value), BindsTo s fd ⟨[v], []⟩ [("script", v)]) ∧ ∀ base : Heap, K.In base → base.Ns mainGlobals mg → LawOk P w K mg base (L2.CX P w) fa fd ["script"] (spLaw K 63) := by
  obtain ⟨f_is_list, e_is_list, n_is_list, F_is_list⟩ := d_is_list
  obtain ⟨f_is_whole, e_is_whole, n_is_whole, F_is_whole⟩ := d_is_whole
  obtain ⟨f_is_number, e_is_number, n_is_number, F_is_number⟩ := d_is_number
  obtain ⟨f_is_row, e_is_row, n_is_row, F_is_row⟩ := d_is_row
  obtain ⟨f_is_name, e_is_name, n_is_name, F_is_name⟩ := d_is_name
  obtain ⟨f_is_index, e_is_index, n_is_index, F_is_index⟩ := d_is_index
  obtain ⟨f_is_rising, e_is_rising, n_is_rising, F_is_rising⟩ := d_is_rising
  obtain ⟨f_wrong_part, e_wrong_part, n_wrong_part, F_wrong_part⟩ := d_wrong_part
  obtain ⟨f_check_formula, e_check_formula, n_check_formula, F_check_formula⟩ := d_check_formula
  obtain ⟨f_check_names, e_check_names, n_check_names, F_check_names⟩ := d_check_names
  obtain ⟨f_places_of, e_places_of, n_places_of, F_places_of⟩ := d_places_of
  obtain ⟨f_wanted_of, e_wanted_of, n_wanted_of, F_wanted_of⟩ := d_wanted_of
  obtain ⟨f_check_modulus, e_check_modulus, n_check_modulus, F_check_modulus⟩ := d_check_modulus
  obtain ⟨f_check_secret, e_check_secret, n_check_secret, F_check_secret⟩ := d_check_secret
  obtain ⟨f_are_below, e_are_below, n_are_below, F_are_below⟩ := d_are_below
  obtain ⟨f_dealt_out, e_dealt_out, n_dealt_out, F_dealt_out⟩ := d_dealt_out
  obtain ⟨f_deal, e_deal, n_deal, F_deal⟩ := d_deal
  obtain ⟨f_check_shares, e_check_shares, n_check_shares, F_check_shares⟩ := d_check_shares
  obtain ⟨f_parted, e_parted, n_parted, F_parted⟩ := d_parted
  obtain ⟨f_dealt_from, e_dealt_from, n_dealt_from, F_dealt_from⟩ := d_dealt_from
  obtain ⟨f_secret_of, e_secret_of, n_secret_of, F_secret_of⟩ := d_secret_of
  obtain ⟨f_found_by, e_found_by, n_found_by, F_found_by⟩ := d_found_by
  obtain ⟨f_opened, e_opened, n_opened, F_opened⟩ := d_opened
  obtain ⟨f__law_stream, e__law_stream, n__law_stream, F__law_stream⟩ := d__law_stream
  obtain ⟨f__law_draw, e__law_draw, n__law_draw, F__law_draw⟩ := d__law_draw
  obtain ⟨f__law_pick, e__law_pick, n__law_pick, F__law_pick⟩ := d__law_pick
  obtain ⟨f__law_mixed, e__law_mixed, n__law_mixed, F__law_mixed⟩ := d__law_mixed
  obtain ⟨f__law_same, e__law_same, n__law_same, F__law_same⟩ := d__law_same
  obtain ⟨f__law_names, e__law_names, n__law_names, F__law_names⟩ := d__law_names
  obtain ⟨f__law_loose, e__law_loose, n__law_loose, F__law_loose⟩ := d__law_loose
  obtain ⟨f__law_spoilt, e__law_spoilt, n__law_spoilt, F__law_spoilt⟩ := d__law_spoilt
  obtain ⟨f__law_places, e__law_places, n__law_places, F__law_places⟩ := d__law_places
  obtain ⟨f__law_formula, e__law_formula, n__law_formula, F__law_formula⟩ := d__law_formula
  obtain ⟨f__law_opens, e__law_opens, n__law_opens, F__law_opens⟩ := d__law_opens
  obtain ⟨f__law_wanted, e__law_wanted, n__law_wanted, F__law_wanted⟩ := d__law_wanted
  obtain ⟨f__law_dealt, e__law_dealt, n__law_dealt, F__law_dealt⟩ := d__law_dealt
  obtain ⟨f__law_parted, e__law_parted, n__law_parted, F__law_parted⟩ := d__law_parted
  obtain ⟨f__law_secret, e__law_secret, n__law_secret, F__law_secret⟩ := d__law_secret
  obtain ⟨f__law_lot, e__law_lot, n__law_lot, F__law_lot⟩ := d__law_lot
  obtain ⟨f__law_copied, e__law_copied, n__law_copied, F__law_copied⟩ := d__law_copied
  obtain ⟨f__law_found, e__law_found, n__law_found, F__law_found⟩ := d__law_found
  obtain ⟨t_LETTERS, y_LETTERS⟩ := y_LETTERS
  have T : Tx K mg := {
    a_is_list := f_is_list, fd_is_list := e_is_list, F_is_list := F_is_list, m_is_list := PySem.W.mg_of X G n_is_list,
    a_is_whole := f_is_whole, fd_is_whole := e_is_whole, F_is_whole := F_is_whole, m_is_whole := PySem.W.mg_of X G n_is_whole,
    a_is_number := f_is_number, fd_is_number := e_is_number, F_is_number := F_is_number, m_is_number := PySem.W.mg_of X G n_is_number,
    a_is_row := f_is_row, fd_is_row := e_is_row, F_is_row := F_is_row, m_is_row := PySem.W.mg_of X G n_is_row,
    a_is_name := f_is_name, fd_is_name := e_is_name, F_is_name := F_is_name, m_is_name := PySem.W.mg_of X G n_is_name,
    a_is_index := f_is_index, fd_is_index := e_is_index, F_is_index := F_is_index, m_is_index := PySem.W.mg_of X G n_is_index,
    a_is_rising := f_is_rising, fd_is_rising := e_is_rising, F_is_rising := F_is_rising, m_is_rising := PySem.W.mg_of X G n_is_rising,
    a_wrong_part := f_wrong_part, fd_wrong_part := e_wrong_part, F_wrong_part := F_wrong_part, m_wrong_part := PySem.W.mg_of X G n_wrong_part,
    a_check_formula := f_check_formula, fd_check_formula := e_check_formula, F_check_formula := F_check_formula, m_check_formula := PySem.W.mg_of X G n_check_formula,
    a_check_names := f_check_names, fd_check_names := e_check_names, F_check_names := F_check_names, m_check_names := PySem.W.mg_of X G n_check_names,
    a_places_of := f_places_of, fd_places_of := e_places_of, F_places_of := F_places_of, m_places_of := PySem.W.mg_of X G n_places_of,
    a_wanted_of := f_wanted_of, fd_wanted_of := e_wanted_of, F_wanted_of := F_wanted_of, m_wanted_of := PySem.W.mg_of X G n_wanted_of,
    a_check_modulus := f_check_modulus, fd_check_modulus := e_check_modulus, F_check_modulus := F_check_modulus, m_check_modulus := PySem.W.mg_of X G n_check_modulus,
    a_check_secret := f_check_secret, fd_check_secret := e_check_secret, F_check_secret := F_check_secret, m_check_secret := PySem.W.mg_of X G n_check_secret,
    a_are_below := f_are_below, fd_are_below := e_are_below, F_are_below := F_are_below, m_are_below := PySem.W.mg_of X G n_are_below,
    a_dealt_out := f_dealt_out, fd_dealt_out := e_dealt_out, F_dealt_out := F_dealt_out, m_dealt_out := PySem.W.mg_of X G n_dealt_out,
    a_deal := f_deal, fd_deal := e_deal, F_deal := F_deal, m_deal := PySem.W.mg_of X G n_deal,
    a_check_shares := f_check_shares, fd_check_shares := e_check_shares, F_check_shares := F_check_shares, m_check_shares := PySem.W.mg_of X G n_check_shares,
    a_parted := f_parted, fd_parted := e_parted, F_parted := F_parted, m_parted := PySem.W.mg_of X G n_parted,
    a_dealt_from := f_dealt_from, fd_dealt_from := e_dealt_from, F_dealt_from := F_dealt_from, m_dealt_from := PySem.W.mg_of X G n_dealt_from,
    a_secret_of := f_secret_of, fd_secret_of := e_secret_of, F_secret_of := F_secret_of, m_secret_of := PySem.W.mg_of X G n_secret_of,
    a_found_by := f_found_by, fd_found_by := e_found_by, F_found_by := F_found_by, m_found_by := PySem.W.mg_of X G n_found_by,
    a_opened := f_opened, fd_opened := e_opened, F_opened := F_opened, m_opened := PySem.W.mg_of X G n_opened,
    a__law_stream := f__law_stream, fd__law_stream := e__law_stream, F__law_stream := F__law_stream, m__law_stream := PySem.W.mg_of X G n__law_stream,
    a__law_draw := f__law_draw, fd__law_draw := e__law_draw, F__law_draw := F__law_draw, m__law_draw := PySem.W.mg_of X G n__law_draw,
    a__law_pick := f__law_pick, fd__law_pick := e__law_pick, F__law_pick := F__law_pick, m__law_pick := PySem.W.mg_of X G n__law_pick,
    a__law_mixed := f__law_mixed, fd__law_mixed := e__law_mixed, F__law_mixed := F__law_mixed, m__law_mixed := PySem.W.mg_of X G n__law_mixed,
    a__law_same := f__law_same, fd__law_same := e__law_same, F__law_same := F__law_same, m__law_same := PySem.W.mg_of X G n__law_same,
    a__law_names := f__law_names, fd__law_names := e__law_names, F__law_names := F__law_names, m__law_names := PySem.W.mg_of X G n__law_names,
    a__law_loose := f__law_loose, fd__law_loose := e__law_loose, F__law_loose := F__law_loose, m__law_loose := PySem.W.mg_of X G n__law_loose,
    a__law_spoilt := f__law_spoilt, fd__law_spoilt := e__law_spoilt, F__law_spoilt := F__law_spoilt, m__law_spoilt := PySem.W.mg_of X G n__law_spoilt,
    a__law_places := f__law_places, fd__law_places := e__law_places, F__law_places := F__law_places, m__law_places := PySem.W.mg_of X G n__law_places,
    a__law_formula := f__law_formula, fd__law_formula := e__law_formula, F__law_formula := F__law_formula, m__law_formula := PySem.W.mg_of X G n__law_formula,
    a__law_opens := f__law_opens, fd__law_opens := e__law_opens, F__law_opens := F__law_opens, m__law_opens := PySem.W.mg_of X G n__law_opens,
    a__law_wanted := f__law_wanted, fd__law_wanted := e__law_wanted, F__law_wanted := F__law_wanted, m__law_wanted := PySem.W.mg_of X G n__law_wanted,
    a__law_dealt := f__law_dealt, fd__law_dealt := e__law_dealt, F__law_dealt := F__law_dealt, m__law_dealt := PySem.W.mg_of X G n__law_dealt,
    a__law_parted := f__law_parted, fd__law_parted := e__law_parted, F__law_parted := F__law_parted, m__law_parted := PySem.W.mg_of X G n__law_parted,
    a__law_secret := f__law_secret, fd__law_secret := e__law_secret, F__law_secret := F__law_secret, m__law_secret := PySem.W.mg_of X G n__law_secret,
    a__law_lot := f__law_lot, fd__law_lot := e__law_lot, F__law_lot := F__law_lot, m__law_lot := PySem.W.mg_of X G n__law_lot,
    a__law_copied := f__law_copied, fd__law_copied := e__law_copied, F__law_copied := F__law_copied, m__law_copied := PySem.W.mg_of X G n__law_copied,
    a__law_found := f__law_found, fd__law_found := e__law_found, F__law_found := F__law_found, m__law_found := PySem.W.mg_of X G n__law_found,
    n_abs := PySem.W.mg_none_of X G z_abs,
    n_all := PySem.W.mg_none_of X G z_all,
    n_any := PySem.W.mg_none_of X G z_any,
    n_bool := PySem.W.mg_none_of X G z_bool,
    n_dict := PySem.W.mg_none_of X G z_dict,
    n_enumerate := PySem.W.mg_none_of X G z_enumerate,
    n_int := PySem.W.mg_none_of X G z_int,
    n_isinstance := PySem.W.mg_none_of X G z_isinstance,
    n_len := PySem.W.mg_none_of X G z_len,
    n_list := PySem.W.mg_none_of X G z_list,
    n_max := PySem.W.mg_none_of X G z_max,
    n_min := PySem.W.mg_none_of X G z_min,
    n_range := PySem.W.mg_none_of X G z_range,
    n_repr := PySem.W.mg_none_of X G z_repr,
    n_sorted := PySem.W.mg_none_of X G z_sorted,
    n_str := PySem.W.mg_none_of X G z_str,
    n_sum := PySem.W.mg_none_of X G z_sum,
    n_tuple := PySem.W.mg_none_of X G z_tuple,
    n_zip := PySem.W.mg_none_of X G z_zip,
    t_LETTERS := t_LETTERS, g_LETTERS := PySem.W.mg_of X G y_LETTERS }
  obtain ⟨fl, el, nl, Fl⟩ := d_law
  have e := hfa.symm.trans (PySem.W.mg_of X G nl)
  cases e
  refine ⟨el, fun s v => ?_, fun base _ _ => ok_law T Fl⟩
  obtain ⟨oc, od, kV, doc, pm, an, cdv, ct, osl, rfl, lk, hcd⟩ := Fl.ex
  exact .of_eq rfl
end K75
open PySem PySem.W PyProof.Rows
set_option maxRecDepth 100000 in
set_option maxHeartbeats 0 in
open_top head for PySem.Challenge.rw_winninglots_k75_whole_secrets_dealt_and
set_option maxRecDepth 100000 in
set_option maxHeartbeats 0 in
theorem PySem.Challenge.cw_winninglots_k75_whole_secrets_dealt_and_holds : PySem.Challenge.rw_winninglots_k75_whole_secrets_dealt_and.Holds := by
  w_on; o_law; k_head; (case hw => w_witness2)
  k_fill
  refine VS.walk_ofC (l := PySem.Challenge.rw_winninglots_k75_whole_secrets_dealt_and) (n := 63) (x := "script") (CX := fun w => L2.CX PySem.Challenge.pw_winninglots_k75_whole_secrets_dealt_and w) (sp := fun w => VS.spLaw _ 63) rfl (by decide) rfl (fun w h Y => PySem.W.kIn_of Y) ?F (fun _ _ a ns hl _ hS => ⟨a, ns, rfl, hS, hl, fun _ => rfl⟩) (fun w H s e s' z => ?_)
  case F =>
    intro w mg fa h KX G hmg
    refine' K75.all_mk KX G hmg ?d_law ?d_is_list ?d_is_whole ?d_is_number ?d_is_row ?d_is_name ?d_is_index ?d_is_rising ?d_wrong_part ?d_check_formula ?d_check_names ?d_places_of ?d_wanted_of ?d_check_modulus ?d_check_secret ?d_are_below ?d_dealt_out ?d_deal ?d_check_shares ?d_parted ?d_dealt_from ?d_secret_of ?d_found_by ?d_opened ?d__law_stream ?d__law_draw ?d__law_pick ?d__law_mixed ?d__law_same ?d__law_names ?d__law_loose ?d__law_spoilt ?d__law_places ?d__law_formula ?d__law_opens ?d__law_wanted ?d__law_dealt ?d__law_parted ?d__law_secret ?d__law_lot ?d__law_copied ?d__law_found ?z_abs ?z_all ?z_any ?z_bool ?z_dict ?z_enumerate ?z_int ?z_isinstance ?z_len ?z_list ?z_max ?z_min ?z_range ?z_repr ?z_sorted ?z_str ?z_sum ?z_tuple ?z_zip ?y_LETTERS
    (case d_law => exact ⟨_, _, by k_is, L2.fun_mk (by k_is) (by k_is) (by k_is)⟩)
    (case d_is_list => exact ⟨_, _, by k_is, L2.fun_mk (by k_is) (by k_is) (by k_is)⟩)
    (case d_is_whole => exact ⟨_, _, by k_is, L2.fun_mk (by k_is) (by k_is) (by k_is)⟩)
    (case d_is_number => exact ⟨_, _, by k_is, L2.fun_mk (by k_is) (by k_is) (by k_is)⟩)
    (case d_is_row => exact ⟨_, _, by k_is, L2.fun_mk (by k_is) (by k_is) (by k_is)⟩)
    (case d_is_name => exact ⟨_, _, by k_is, L2.fun_mk (by k_is) (by k_is) (by k_is)⟩)
    (case d_is_index => exact ⟨_, _, by k_is, L2.fun_mk (by k_is) (by k_is) (by k_is)⟩)
    (case d_is_rising => exact ⟨_, _, by k_is, L2.fun_mk (by k_is) (by k_is) (by k_is)⟩)
    (case d_wrong_part => exact ⟨_, _, by k_is, L2.fun_mk (by k_is) (by k_is) (by k_is)⟩)
    (case d_check_formula => exact ⟨_, _, by k_is, L2.fun_mk (by k_is) (by k_is) (by k_is)⟩)
    (case d_check_names => exact ⟨_, _, by k_is, L2.fun_mk (by k_is) (by k_is) (by k_is)⟩)
    (case d_places_of => exact ⟨_, _, by k_is, L2.fun_mk (by k_is) (by k_is) (by k_is)⟩)
    (case d_wanted_of => exact ⟨_, _, by k_is, L2.fun_mk (by k_is) (by k_is) (by k_is)⟩)
    (case d_check_modulus => exact ⟨_, _, by k_is, L2.fun_mk (by k_is) (by k_is) (by k_is)⟩)
    (case d_check_secret => exact ⟨_, _, by k_is, L2.fun_mk (by k_is) (by k_is) (by k_is)⟩)
    (case d_are_below => exact ⟨_, _, by k_is, L2.fun_mk (by k_is) (by k_is) (by k_is)⟩)
    (case d_dealt_out => exact ⟨_, _, by k_is, L2.fun_mk (by k_is) (by k_is) (by k_is)⟩)
    (case d_deal => exact ⟨_, _, by k_is, L2.fun_mk (by k_is) (by k_is) (by k_is)⟩)
    (case d_check_shares => exact ⟨_, _, by k_is, L2.fun_mk (by k_is) (by k_is) (by k_is)⟩)
    (case d_parted => exact ⟨_, _, by k_is, L2.fun_mk (by k_is) (by k_is) (by k_is)⟩)
    (case d_dealt_from => exact ⟨_, _, by k_is, L2.fun_mk (by k_is) (by k_is) (by k_is)⟩)
    (case d_secret_of => exact ⟨_, _, by k_is, L2.fun_mk (by k_is) (by k_is) (by k_is)⟩)
    (case d_found_by => exact ⟨_, _, by k_is, L2.fun_mk (by k_is) (by k_is) (by k_is)⟩)
    (case d_opened => exact ⟨_, _, by k_is, L2.fun_mk (by k_is) (by k_is) (by k_is)⟩)
    (case d__law_stream => exact ⟨_, _, by k_is, L2.fun_mk (by k_is) (by k_is) (by k_is)⟩)
    (case d__law_draw => exact ⟨_, _, by k_is, L2.fun_mk (by k_is) (by k_is) (by k_is)⟩)
    (case d__law_pick => exact ⟨_, _, by k_is, L2.fun_mk (by k_is) (by k_is) (by k_is)⟩)
    (case d__law_mixed => exact ⟨_, _, by k_is, L2.fun_mk (by k_is) (by k_is) (by k_is)⟩)
    (case d__law_same => exact ⟨_, _, by k_is, L2.fun_mk (by k_is) (by k_is) (by k_is)⟩)
    (case d__law_names => exact ⟨_, _, by k_is, L2.fun_mk (by k_is) (by k_is) (by k_is)⟩)
    (case d__law_loose => exact ⟨_, _, by k_is, L2.fun_mk (by k_is) (by k_is) (by k_is)⟩)
    (case d__law_spoilt => exact ⟨_, _, by k_is, L2.fun_mk (by k_is) (by k_is) (by k_is)⟩)
    (case d__law_places => exact ⟨_, _, by k_is, L2.fun_mk (by k_is) (by k_is) (by k_is)⟩)
    (case d__law_formula => exact ⟨_, _, by k_is, L2.fun_mk (by k_is) (by k_is) (by k_is)⟩)
    (case d__law_opens => exact ⟨_, _, by k_is, L2.fun_mk (by k_is) (by k_is) (by k_is)⟩)
    (case d__law_wanted => exact ⟨_, _, by k_is, L2.fun_mk (by k_is) (by k_is) (by k_is)⟩)
    (case d__law_dealt => exact ⟨_, _, by k_is, L2.fun_mk (by k_is) (by k_is) (by k_is)⟩)
    (case d__law_parted => exact ⟨_, _, by k_is, L2.fun_mk (by k_is) (by k_is) (by k_is)⟩)
    (case d__law_secret => exact ⟨_, _, by k_is, L2.fun_mk (by k_is) (by k_is) (by k_is)⟩)
    (case d__law_lot => exact ⟨_, _, by k_is, L2.fun_mk (by k_is) (by k_is) (by k_is)⟩)
    (case d__law_copied => exact ⟨_, _, by k_is, L2.fun_mk (by k_is) (by k_is) (by k_is)⟩)
    (case d__law_found => exact ⟨_, _, by k_is, L2.fun_mk (by k_is) (by k_is) (by k_is)⟩)
    (case z_abs => k_is)
    (case z_all => k_is)
    (case z_any => k_is)
    (case z_bool => k_is)
    (case z_dict => k_is)
    (case z_enumerate => k_is)
    (case z_int => k_is)
    (case z_isinstance => k_is)
    (case z_len => k_is)
    (case z_list => k_is)
    (case z_max => k_is)
    (case z_min => k_is)
    (case z_range => k_is)
    (case z_repr => k_is)
    (case z_sorted => k_is)
    (case z_str => k_is)
    (case z_sum => k_is)
    (case z_tuple => k_is)
    (case z_zip => k_is)
    (case y_LETTERS => exact ⟨_, by k_is⟩)
  · obtain ⟨_, _, _, _, _, _, _, _, _, _, _, _, z⟩ := z
    exact z.elim

