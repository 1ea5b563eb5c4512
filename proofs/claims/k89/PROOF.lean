import PyProof.Rows.All
import Wide.All
import OpenK.AllK
import Wide.FinOn
import HandS.ForMost
import HandS.ForExc
import HandS.ExcInit
import HandS.IsInst
import HandS.TupAny
import HandS.Style
import HandS.Zip
import HandS.Deep
import HandS.Conv
import HandS.Rev
import HandS.Codes
import HandS.Strs
import KE.GoesEnum
import HandS.NoneIn
import HandS.Small
import HandS.OwnEq
import HandS.WordsExc
import PySem.Challenge.RW_everyhour_k89_linings_bent
set_option Elab.async false
set_option linter.all false
set_option maxRecDepth 100000
namespace En
open PySem PySem.Spec PyProof.Rows L2
/-! ### values without a heap -/
inductive D where
  | non
  | bl (b : Bool)
  | int (i : Int)
  | str (x : Str)
  | tup (xs : List D)
  | lst (xs : List D)
  | dK (ks : List Key) (vs : List D)
  | dT (ks : List (List Key)) (vs : List D)
  | ins (c : Nat) (fs : List D)
  /-- a tuple of texts that may be asked for its places -/
  | nms (xs : List Str)
/-- the signature: the written part, the classes' addresses, their fields in order -/
structure Sg where
  K : PySem.W.Frag
  cls : Nat → Addr
  flds : Nat → List Str
abbrev MS := Addr → Prop
/-- a list of the written part -/
def KL (K : PySem.W.Frag) (a : Addr) (xs : List V) : Prop :=
  ∃ (o : Obj) (its : Array Value) (n : Nat), K.lookup a = some o ∧ o.cls = .type "list" ∧ o.dict = none ∧ o.data = .seq its n ∧ its.size ≤ sizeLine ∧ Vals xs its.toList
/-- a list that stays as it is -/
def LAt (K : PySem.W.Frag) (M : MS) (H : Hp) (a : Addr) (xs : List V) : Prop := (¬ M a ∧ Rd H a (.lst xs)) ∨ KL K a xs
theorem LAt.seq {K : PySem.W.Frag} {M : MS} {H : Hp} {a : Addr} {xs : List V} (h : LAt K M H a xs) : SqL K H a xs := h.elim (fun h => .inl h.2) .inr
mutual
/-- the value v stands for d in the heap H; M: the objects that may change -/
def Rep (S : Sg) (M : MS) (H : Hp) : D → V → Prop
  | .non, v => v = .non
  | .bl b, v => v = .bl b
  | .int i, v => v = .int i
  | .str x, v => v = .str x
  | .tup ds, v => ∃ a vs, v = .ref a ∧ ¬ M a ∧ H a = some (.tup vs) ∧ RepL S M H ds vs
  | .lst ds, v => ∃ a vs, v = .ref a ∧ LAt S.K M H a vs ∧ RepL S M H ds vs
  | .dK ks ds, v => ∃ a vs, v = .ref a ∧ ¬ M a ∧ Rd H a (.dK (ks.zip vs)) ∧ ks.length = vs.length ∧ RepL S M H ds vs
  | .dT ks ds, v => ∃ a vs, v = .ref a ∧ ¬ M a ∧ Rd H a (.dT (ks.zip vs)) ∧ ks.length = vs.length ∧ RepL S M H ds vs
  | .ins c ds, v => ∃ a dx vs, v = .ref a ∧ ¬ M a ∧ H a = some (.ins (S.cls c) dx ((S.flds c).zip vs)) ∧ (S.flds c).length = vs.length ∧ RepL S M H ds vs
  | .nms xs, v => ∃ a o, v = .ref a ∧ ¬ M a ∧ H a = some (.frz o (.tup (xs.map V.str))) ∧ o.dict = none
def RepL (S : Sg) (M : MS) (H : Hp) : List D → List V → Prop
  | [], vs => vs = []
  | d :: ds, vs => ∃ v r, vs = v :: r ∧ Rep S M H d v ∧ RepL S M H ds r
end
/-- all but what is in ow stays -/
def Kp (ow : List (Option Addr)) (H H' : Hp) : Prop := ∀ a o, some a ∉ ow → H a = some o → H' a = some o
def Grow (H H' : Hp) : Prop := ∀ a o, H a = some o → H' a = some o
theorem Grow.rfl' {H : Hp} : Grow H H := fun _ _ h => h
theorem Grow.trans {H H1 H2 : Hp} (a : Grow H H1) (b : Grow H1 H2) : Grow H H2 := fun c o h => b c o (a c o h)
theorem Grow.upd {H : Hp} {p : Addr} {o : HO} (h : H p = none) : Grow H (upd H p o) := fun a u e => by
  rw [upd_ne (ne_of_none e h)]; exact e
theorem Grow.free {H H' : Hp} (g : Grow H H') {a : Addr} (h : H' a = none) : H a = none := by
  cases q : H a with
  | none => rfl
  | some o => rw [g a o q] at h; cases h
section
variable {S : Sg} {M M' : MS} {H H' : Hp}
theorem Rd.kp {a : Addr} {u : HO} (k : ∀ o, H a = some o → H' a = some o) (h : Rd H a u) : Rd H' a u := by
  rcases h with h | ⟨o, h⟩
  · exact .inl (k _ h)
  · exact .inr ⟨o, k _ h⟩
theorem Rd.there {a : Addr} {u : HO} (h : Rd H a u) : ∃ o, H a = some o := by
  rcases h with h | ⟨o, h⟩
  · exact ⟨_, h⟩
  · exact ⟨_, h⟩
mutual
/-- what stands is kept, what was to be kept does not come to change -/
theorem Rep.move (k : ∀ a o, ¬ M a → H a = some o → H' a = some o ∧ ¬ M' a) : ∀ (d : D) (v : V), Rep S M H d v → Rep S M' H' d v
  | .non, v, h => h
  | .bl _, v, h => h
  | .int _, v, h => h
  | .str _, v, h => h
  | .tup ds, v, h => by
    obtain ⟨a, vs, e, n, r, l⟩ := h
    exact ⟨a, vs, e, (k a _ n r).2, (k a _ n r).1, RepL.move k ds vs l⟩
  | .lst ds, v, h => by
    obtain ⟨a, vs, e, q, l⟩ := h
    refine ⟨a, vs, e, ?_, RepL.move k ds vs l⟩
    rcases q with ⟨n, r⟩ | q
    · obtain ⟨o, ho⟩ := Rd.there r
      exact .inl ⟨(k a o n ho).2, Rd.kp (fun o ho => (k a o n ho).1) r⟩
    · exact .inr q
  | .dK ks ds, v, h => by
    obtain ⟨a, vs, e, n, r, z, l⟩ := h
    obtain ⟨o, ho⟩ := Rd.there r
    exact ⟨a, vs, e, (k a o n ho).2, Rd.kp (fun o ho => (k a o n ho).1) r, z, RepL.move k ds vs l⟩
  | .dT ks ds, v, h => by
    obtain ⟨a, vs, e, n, r, z, l⟩ := h
    obtain ⟨o, ho⟩ := Rd.there r
    exact ⟨a, vs, e, (k a o n ho).2, Rd.kp (fun o ho => (k a o n ho).1) r, z, RepL.move k ds vs l⟩
  | .ins c ds, v, h => by
    obtain ⟨a, dx, vs, e, n, r, z, l⟩ := h
    exact ⟨a, dx, vs, e, (k a _ n r).2, (k a _ n r).1, z, RepL.move k ds vs l⟩
  | .nms xs, v, h => by
    obtain ⟨a, o, e, n, r, z⟩ := h
    exact ⟨a, o, e, (k a _ n r).2, (k a _ n r).1, z⟩
theorem RepL.move (k : ∀ a o, ¬ M a → H a = some o → H' a = some o ∧ ¬ M' a) : ∀ (ds : List D) (vs : List V), RepL S M H ds vs → RepL S M' H' ds vs
  | [], vs, h => h
  | d :: ds, vs, h => by
    obtain ⟨v, r, e, h1, h2⟩ := h
    exact ⟨v, r, e, Rep.move k d v h1, RepL.move k ds r h2⟩
end
theorem Rep.grow {d : D} {v : V} (g : Grow H H') (t : ∀ a, M a → ∃ o, H a = some o) (h : Rep S M H d v) : Rep S M H' d v := Rep.move (fun a o n e => ⟨g a o e, n⟩) d v h
theorem RepL.grow {d : List D} {v : List V} (g : Grow H H') (h : RepL S M H d v) : RepL S M H' d v := RepL.move (fun a o n e => ⟨g a o e, n⟩) d v h
theorem Rep.anti {d : D} {v : V} (g : ∀ a, M' a → M a) (h : Rep S M H d v) : Rep S M' H d v := Rep.move (fun a o n e => ⟨e, fun x => n (g a x)⟩) d v h
theorem RepL.anti {d : List D} {v : List V} (g : ∀ a, M' a → M a) (h : RepL S M H d v) : RepL S M' H d v := RepL.move (fun a o n e => ⟨e, fun x => n (g a x)⟩) d v h
theorem RepL.nil {vs : List V} : RepL S M H [] vs ↔ vs = [] := Iff.rfl
theorem RepL.len : ∀ {ds : List D} {vs : List V}, RepL S M H ds vs → ds.length = vs.length
  | [], vs, h => by
    have h : vs = [] := h
    rw [h]; rfl
  | d :: ds, _, h => by
    obtain ⟨v, r, rfl, _, h2⟩ := h
    simp [RepL.len h2]
theorem RepL.get : ∀ {ds : List D} {vs : List V} {i : Nat} {d : D}, RepL S M H ds vs → ds[i]? = some d → ∃ v, vs[i]? = some v ∧ Rep S M H d v
  | [], _, i, d, _, e => by simp at e
  | x :: ds, _, 0, d, h, e => by
    obtain ⟨v, r, rfl, h1, h2⟩ := h
    simp at e; subst e
    exact ⟨v, rfl, h1⟩
  | x :: ds, _, i + 1, d, h, e => by
    obtain ⟨v, r, rfl, h1, h2⟩ := h
    simp at e
    obtain ⟨w, e1, e2⟩ := RepL.get h2 e
    exact ⟨w, by simpa using e1, e2⟩
theorem RepL.of : ∀ {ds : List D} {vs : List V}, ds.length = vs.length → (∀ (i : Nat) d v, ds[i]? = some d → vs[i]? = some v → Rep S M H d v) → RepL S M H ds vs
  | [], [], _, _ => rfl
  | [], _ :: _, h, _ => by simp at h
  | _ :: _, [], h, _ => by simp at h
  | d :: ds, v :: vs, h, k => ⟨v, vs, rfl, k 0 d v rfl rfl, RepL.of (by simpa using h) fun i d v a b => k (i + 1) d v (by simpa using a) (by simpa using b)⟩
theorem RepL.get2 {ds : List D} {vs : List V} {i : Nat} {d : D} {v : V} (h : RepL S M H ds vs) (e : ds[i]? = some d) (e2 : vs[i]? = some v) : Rep S M H d v := by
  obtain ⟨w, h1, h2⟩ := h.get e
  rw [e2] at h1; cases h1; exact h2
theorem RepL.append : ∀ {ds es : List D} {vs ws : List V}, RepL S M H ds vs → RepL S M H es ws → RepL S M H (ds ++ es) (vs ++ ws)
  | [], _, _, _, h, k => by have h : _ = [] := h; rw [h]; exact k
  | d :: ds, _, _, _, h, k => by
    obtain ⟨v, r, rfl, h1, h2⟩ := h
    exact ⟨v, _, rfl, h1, RepL.append h2 k⟩
theorem RepL.sub {ds es : List D} {vs ws : List V} (h : RepL S M H ds vs) (l : es.length = ws.length) (f : Nat → Nat) (k : ∀ i, i < es.length → es[i]? = ds[f i]? ∧ ws[i]? = vs[f i]?) : RepL S M H es ws :=
  RepL.of l fun i d v a b => by
    have hi : i < es.length := (List.getElem?_eq_some_iff.mp a).1
    obtain ⟨k1, k2⟩ := k i hi
    exact h.get2 (k1 ▸ a) (k2 ▸ b)
theorem RepL.take (n : Nat) : ∀ {n : Nat} {ds : List D} {vs : List V}, RepL S M H ds vs → RepL S M H (ds.take n) (vs.take n)
  | 0, _, _, _ => by simp [RepL]
  | n + 1, [], _, h => by have h : _ = [] := h; simp [h, RepL]
  | n + 1, d :: ds, _, h => by
    obtain ⟨v, r, rfl, h1, h2⟩ := h
    exact ⟨v, _, rfl, h1, RepL.take n h2⟩
theorem RepL.drop : ∀ {n : Nat} {ds : List D} {vs : List V}, RepL S M H ds vs → RepL S M H (ds.drop n) (vs.drop n)
  | 0, _, _, h => h
  | n + 1, [], _, h => by have h : _ = [] := h; simp [h, RepL]
  | n + 1, d :: ds, _, h => by
    obtain ⟨v, r, rfl, h1, h2⟩ := h
    exact RepL.drop (n := n) h2
theorem RepL.reverse : ∀ {ds : List D} {vs : List V}, RepL S M H ds vs → RepL S M H ds.reverse vs.reverse
  | [], _, h => by have h : _ = [] := h; simp [h, RepL]
  | d :: ds, _, h => by
    obtain ⟨v, r, rfl, h1, h2⟩ := h
    simp only [List.reverse_cons]
    exact RepL.append (RepL.reverse h2) ⟨v, [], rfl, h1, rfl⟩
theorem RepL.set : ∀ {ds : List D} {vs : List V} {i : Nat} {d : D} {v : V}, RepL S M H ds vs → Rep S M H d v → RepL S M H (ds.set i d) (vs.set i v)
  | [], _, i, d, v, h, k => by have h : _ = [] := h; simp [h, RepL]
  | x :: ds, _, 0, d, v, h, k => by
    obtain ⟨v0, r, rfl, h1, h2⟩ := h
    exact ⟨v, r, rfl, k, h2⟩
  | x :: ds, _, i + 1, d, v, h, k => by
    obtain ⟨v0, r, rfl, h1, h2⟩ := h
    exact ⟨v0, _, rfl, h1, RepL.set h2 k⟩
end
/-! ### what may change -/
inductive Ob where
  | lst (ds : List D)
  | dK (ks : List Key) (ds : List D)
  | dT (ks : List (List Key)) (ds : List D)
  | ins (c : Nat) (fs : List (Str × D))
def ObRep (S : Sg) (M : MS) (H : Hp) (a : Addr) : Ob → Prop
  | .lst ds => ∃ vs, H a = some (.lst vs) ∧ RepL S M H ds vs
  | .dK ks ds => ∃ vs, H a = some (.dK (ks.zip vs)) ∧ ks.length = vs.length ∧ RepL S M H ds vs
  | .dT ks ds => ∃ vs, H a = some (.dT (ks.zip vs)) ∧ ks.length = vs.length ∧ RepL S M H ds vs
  | .ins c fs => ∃ dx vs, H a = some (.ins (S.cls c) dx ((fs.map (·.1)).zip vs)) ∧ fs.length = vs.length ∧ RepL S M H (fs.map (·.2)) vs
/-- it changes no more -/
def Ob.fr (F : Nat → List Str) : Ob → Option D
  | .lst ds => some (.lst ds)
  | .dK ks ds => some (.dK ks ds)
  | .dT ks ds => some (.dT ks ds)
  | .ins c fs => if fs.map (·.1) = F c then some (.ins c (fs.map (·.2))) else none
inductive Slot where
  | un
  | val (d : D)
  | own (o : Ob)
  | io (o : Ob)
abbrev Env' := List Slot
inductive EV where
  | val (d : D)
  | own (i : Nat)
  | new (o : Ob)
abbrev OW := List (Option Addr)
def Md (B : MS) (ow : OW) : MS := fun a => B a ∨ some a ∈ ow
structure Sim (S : Sg) (M0 B : MS) (ow : OW) (env : Env') (σ : L2.St) (H : Hp) : Prop where
  l1 : env.length = σ.length
  l2 : ow.length = σ.length
  val : ∀ (i : Nat) (d : D), env[i]? = some (.val d) → ∃ v, σ[i]? = some (some v) ∧ Rep S (Md B ow) H d v
  own : ∀ (i : Nat) (o : Ob), env[i]? = some (.own o) → ∃ a, ow[i]? = some (some a) ∧ σ[i]? = some (some (.ref a)) ∧ ObRep S (Md B ow) H a o ∧ ¬ M0 a
  io : ∀ (i : Nat) (o : Ob), env[i]? = some (.io o) → ∃ a, ow[i]? = some (some a) ∧ σ[i]? = some (some (.ref a)) ∧ ObRep S (Md B ow) H a o
  live : ∀ (i : Nat) (a : Addr), ow[i]? = some (some a) → ∃ o, env[i]? = some (.own o) ∨ env[i]? = some (.io o)
  inj : ∀ (i j : Nat) (a : Addr), ow[i]? = some (some a) → ow[j]? = some (some a) → i = j
  dis : ∀ a, B a → some a ∉ ow
  trk : ∀ a, B a → ∃ u, H a = some u
  m0 : ∀ a, M0 a → Md B ow a
/-- a step: what is not ours stays; ours are old ones or new -/
structure Stp (ow : OW) (H : Hp) (ow' : OW) (H' : Hp) : Prop where
  kp : Kp ow H H'
  nwp : ∀ (i : Nat) (a : Addr), ow'[i]? = some (some a) → ow[i]? = some (some a) ∨ H a = none
  gr : ∀ a o, H a = some o → ∃ o', H' a = some o'
theorem Stp.nw {ow ow' : OW} {H H' : Hp} (x : Stp ow H ow' H') : ∀ a, some a ∈ ow' → some a ∈ ow ∨ H a = none := by
  intro a h
  obtain ⟨i, hi, e⟩ := List.getElem_of_mem h
  rcases x.nwp i a (by rw [List.getElem?_eq_getElem hi, e]) with z | z
  · exact .inl (List.mem_of_getElem? z)
  · exact .inr z
theorem Stp.refl {ow : OW} {H : Hp} : Stp ow H ow H := ⟨fun _ _ _ h => h, fun _ _ h => .inl h, fun _ o h => ⟨o, h⟩⟩
theorem Stp.trans {ow ow1 ow2 : OW} {H H1 H2 : Hp} (x : Stp ow H ow1 H1) (y : Stp ow1 H1 ow2 H2) : Stp ow H ow2 H2 := by
  refine ⟨fun a o n e => ?_, fun i a h => ?_, fun a o e => ?_⟩
  · refine y.kp a o (fun h => ?_) (x.kp a o n e)
    rcases x.nw a h with z | z
    · exact n z
    · rw [z] at e; cases e
  · rcases y.nwp i a h with z | z
    · exact x.nwp i a z
    · refine .inr ?_
      cases q : H a with
      | none => rfl
      | some o =>
        obtain ⟨o', q'⟩ := x.gr a o q
        rw [q'] at z; cases z
  · obtain ⟨o1, h1⟩ := x.gr a o e
    exact y.gr a o1 h1
theorem Stp.grow {ow : OW} {H H' : Hp} (g : Grow H H') : Stp ow H ow H' := ⟨fun a o _ e => g a o e, fun _ _ h => .inl h, fun a o h => ⟨o, g a o h⟩⟩
theorem Rep.stp {S : Sg} {B : MS} {ow ow' : OW} {H H' : Hp} {d : D} {v : V} (x : Stp ow H ow' H') (h : Rep S (Md B ow) H d v) : Rep S (Md B ow') H' d v :=
  Rep.move (fun a o n e => ⟨x.kp a o (fun z => n (.inr z)) e, fun z => z.elim (fun z => n (.inl z)) fun z => (x.nw a z).elim (fun z => n (.inr z)) fun z => by rw [z] at e; cases e⟩) d v h
theorem RepL.stp {S : Sg} {B : MS} {ow ow' : OW} {H H' : Hp} {d : List D} {v : List V} (x : Stp ow H ow' H') (h : RepL S (Md B ow) H d v) : RepL S (Md B ow') H' d v :=
  RepL.move (fun a o n e => ⟨x.kp a o (fun z => n (.inr z)) e, fun z => z.elim (fun z => n (.inl z)) fun z => (x.nw a z).elim (fun z => n (.inr z)) fun z => by rw [z] at e; cases e⟩) d v h
def plus (B : MS) (a : Addr) : MS := fun b => B b ∨ b = a
def EVOk (S : Sg) (M0 B : MS) (ow : OW) (env : Env') (σ : L2.St) (H : Hp) : EV → V → Prop
  | .val d, v => Sim S M0 B ow env σ H ∧ Rep S (Md B ow) H d v
  | .own i, v => Sim S M0 B ow env σ H ∧ ∃ a o, v = .ref a ∧ ow[i]? = some (some a) ∧ (env[i]? = some (.own o) ∨ env[i]? = some (.io o))
  | .new o, v => ∃ a, v = .ref a ∧ ¬ Md B ow a ∧ ¬ M0 a ∧ Sim S M0 (plus B a) ow env σ H ∧ ObRep S (Md (plus B a) ow) H a o
/-- a new object is new since H -/
def Nw (H : Hp) : EV → V → Prop
  | .new _, v => ∀ a, v = .ref a → H a = none
  | _, _ => True
theorem Stp.fresh {ow ow1 : OW} {H H1 : Hp} (x : Stp ow H ow1 H1) {a : Addr} (h : H1 a = none) : H a = none := by
  cases q : H a with
  | none => rfl
  | some o =>
    obtain ⟨o', q'⟩ := x.gr a o q
    rw [q'] at h; cases h
theorem Nw.back {ow ow1 : OW} {H H1 : Hp} {e : EV} {v : V} (h : Nw H1 e v) (x : Stp ow H ow1 H1) : Nw H e v := by
  cases e with
  | new o => exact fun a e => x.fresh (h a e)
  | val d => trivial
  | own i => trivial
theorem Nw.at {H : Hp} {o : Ob} {p : Addr} (h : H p = none) : Nw H (.new o) (.ref p) := fun a e => by cases e; exact h
/-- the posts of an exception -/
abbrev Exx := Nat → List D → Prop
def XRep (S : Sg) (M0 : MS) (H : Hp) (c : Nat) (fs : List D) (dx : Addr) : Prop :=
  ∃ l : List (Str × V), H dx = some (.xd l) ∧ (S.flds c).length = fs.length ∧ ∀ (i : Nat) f d, (S.flds c)[i]? = some f → fs[i]? = some d → ∃ v, l.lookup f = some v ∧ Rep S M0 H d v
def XP (S : Sg) (M0 : MS) (E : XK) (ow : OW) (H : Hp) : Exx := fun c fs => ∀ dx H', Kp ow H H' → XRep S M0 H' c fs dx → E (.ref (S.cls c)) (some dx) H'
theorem XP.stp {S : Sg} {M0 : MS} {E : XK} {ow ow' : OW} {H H' : Hp} {c : Nat} {fs : List D} (x : Stp ow H ow' H') (h : XP S M0 E ow H c fs) : XP S M0 E ow' H' c fs :=
  fun dx H2 k r => h dx H2 (fun a o n e => k a o (fun z => (x.nw a z).elim n fun z => by rw [z] at e; cases e) (x.kp a o n e)) r
/-- an expression's meaning -/
structure EF where
  r : Env' → (EV → Env' → Prop) → Exx → Prop
  m : ∀ {env P P' X X'}, (∀ e env', P e env' → P' e env') → (∀ c fs, X c fs → X' c fs) → r env P X → r env P' X'
/-- a test's -/
structure TF where
  r : Env' → (Bool → Env' → Prop) → Exx → Prop
  m : ∀ {env P P' X X'}, (∀ e env', P e env' → P' e env') → (∀ c fs, X c fs → X' c fs) → r env P X → r env P' X'
/-- an argument list's: values alone -/
structure LF where
  r : Env' → (List D → Env' → Prop) → Exx → Prop
  m : ∀ {env P P' X X'}, (∀ e env', P e env' → P' e env') → (∀ c fs, X c fs → X' c fs) → r env P X → r env P' X'
section
variable (S : Sg) (M0 : MS) (E : XK)
def tE (F : EF) : TE := fun σ H Q => ∃ B ow env, Sim S M0 B ow env σ H ∧
  F.r env (fun e env' => ∀ v H' ow', Stp ow H ow' H' → Nw H e v → EVOk S M0 B ow' env' σ H' e v → Q v H') (XP S M0 E ow H)
def tT (F : TF) : TT := fun σ H Q => ∃ B ow env, Sim S M0 B ow env σ H ∧
  F.r env (fun b env' => ∀ H' ow', Stp ow H ow' H' → Sim S M0 B ow' env' σ H' → Q b H') (XP S M0 E ow H)
def tL (F : LF) : TA := fun σ H Q => ∃ B ow env, Sim S M0 B ow env σ H ∧
  F.r env (fun ds env' => ∀ vs H' ow', Stp ow H ow' H' → Sim S M0 B ow' env' σ H' → RepL S (Md B ow') H' ds vs → Q vs H') (XP S M0 E ow H)
end
theorem PE.imp {X : Cx} {e : Expr} {t t' : TE} (h : PE X e t) (k : ∀ σ H Q, t' σ H Q → t σ H Q) : PE X e t' := ⟨fun p s σ H Q I q => h.run p s σ H Q I (k σ H Q q)⟩
theorem PT.imp {X : Cx} {e : Expr} {t t' : TT} (h : PT X e t) (k : ∀ σ H Q, t' σ H Q → t σ H Q) : PT X e t' := ⟨fun p s σ H Q I q => h.run p s σ H Q I (k σ H Q q)⟩
theorem PA.imp {X : Cx} {e : List Expr} {t t' : TA} (h : PA X e t) (k : ∀ σ H Q, t' σ H Q → t σ H Q) : PA X e t' := ⟨fun q p s σ H Q I z => h.run q p s σ H Q I (k σ H Q z)⟩
theorem PS.imp {X : Cx} {e : Stmt} {t t' : TS} (h : PS X e t) (k : ∀ D σ H, t' D σ H → t D σ H) : PS X e t' := ⟨fun p s σ H D I q => h.run p s σ H D I (k D σ H q)⟩
theorem PSs.imp {X : Cx} {e : List Stmt} {t t' : TS} (h : PSs X e t) (k : ∀ D σ H, t' D σ H → t D σ H) : PSs X e t' := ⟨fun p s σ H D I q => h.run p s σ H D I (k D σ H q)⟩
theorem PG.imp {X : Cx} {e : Expr} {t t' : TG} (h : PG X e t) (k : ∀ v σ H Q, t' v σ H Q → t v σ H Q) : PG X e t' := ⟨fun p s σ H v u Q I r q => h.run p s σ H v u Q I r (k v σ H Q q)⟩
section
variable {S : Sg} {M0 B : MS} {ow ow' : OW} {env env' : Env'} {σ : L2.St} {H H' : Hp}
theorem Sim.trkA (h : Sim S M0 B ow env σ H) : ∀ a, Md B ow a → ∃ u, H a = some u := by
  intro a ha
  rcases ha with ha | ha
  · exact h.trk a ha
  · obtain ⟨i, hi, e⟩ := List.getElem_of_mem ha
    have e' : ow[i]? = some (some a) := by rw [List.getElem?_eq_getElem hi, e]
    obtain ⟨o, q⟩ := h.live i a e'
    have fin : ∀ b, ObRep S (Md B ow) H b o → ∃ u, H b = some u := by
      intro b hb
      cases o with
      | lst ds => obtain ⟨vs, h1, _⟩ := hb; exact ⟨_, h1⟩
      | dK ks ds => obtain ⟨vs, h1, _⟩ := hb; exact ⟨_, h1⟩
      | dT ks ds => obtain ⟨vs, h1, _⟩ := hb; exact ⟨_, h1⟩
      | ins c fs => obtain ⟨dx, vs, h1, _⟩ := hb; exact ⟨_, h1⟩
    rcases q with q | q
    · obtain ⟨b, e2, _, hb, _⟩ := h.own i o q
      rw [e'] at e2; cases e2
      exact fin _ hb
    · obtain ⟨b, e2, _, hb⟩ := h.io i o q
      rw [e'] at e2; cases e2
      exact fin _ hb
theorem ObRep.move {M M' : MS} {a : Addr} {o : Ob} (ha : ∀ u, H a = some u → H' a = some u) (k : ∀ b u, ¬ M b → H b = some u → H' b = some u ∧ ¬ M' b) (h : ObRep S M H a o) : ObRep S M' H' a o := by
  cases o with
  | lst ds => obtain ⟨vs, h1, h2⟩ := h; exact ⟨vs, ha _ h1, RepL.move k _ _ h2⟩
  | dK ks ds => obtain ⟨vs, h1, z, h2⟩ := h; exact ⟨vs, ha _ h1, z, RepL.move k _ _ h2⟩
  | dT ks ds => obtain ⟨vs, h1, z, h2⟩ := h; exact ⟨vs, ha _ h1, z, RepL.move k _ _ h2⟩
  | ins c fs => obtain ⟨dx, vs, h1, z, h2⟩ := h; exact ⟨dx, vs, ha _ h1, z, RepL.move k _ _ h2⟩
theorem Sim.grow (h : Sim S M0 B ow env σ H) (g : Grow H H') : Sim S M0 B ow env σ H' where
  l1 := h.l1
  l2 := h.l2
  val := fun i d e => by
    obtain ⟨v, h1, h2⟩ := h.val i d e
    exact ⟨v, h1, Rep.move (fun a o n e => ⟨g a o e, n⟩) _ _ h2⟩
  own := fun i o e => by
    obtain ⟨a, h1, h2, h3, h4⟩ := h.own i o e
    exact ⟨a, h1, h2, h3.move (g a) fun a o n e => ⟨g a o e, n⟩, h4⟩
  io := fun i o e => by
    obtain ⟨a, h1, h2, h3⟩ := h.io i o e
    exact ⟨a, h1, h2, h3.move (g a) fun a o n e => ⟨g a o e, n⟩⟩
  live := h.live
  inj := h.inj
  dis := h.dis
  trk := fun a ha => by obtain ⟨u, e⟩ := h.trk a ha; exact ⟨u, g a u e⟩
  m0 := h.m0
/-- fewer others -/
theorem Sim.anti {B' : MS} (h : Sim S M0 B ow env σ H) (g : ∀ a, B' a → B a) (m : ∀ a, M0 a → Md B' ow a) : Sim S M0 B' ow env σ H where
  l1 := h.l1
  l2 := h.l2
  val := fun i d e => by
    obtain ⟨v, h1, h2⟩ := h.val i d e
    exact ⟨v, h1, h2.anti fun a z => z.imp (g a) id⟩
  own := fun i o e => by
    obtain ⟨a, h1, h2, h3, h4⟩ := h.own i o e
    exact ⟨a, h1, h2, h3.move (fun _ z => z) fun a o n e => ⟨e, fun z => n (z.imp (g a) id)⟩, h4⟩
  io := fun i o e => by
    obtain ⟨a, h1, h2, h3⟩ := h.io i o e
    exact ⟨a, h1, h2, h3.move (fun _ z => z) fun a o n e => ⟨e, fun z => n (z.imp (g a) id)⟩⟩
  live := h.live
  inj := h.inj
  dis := fun a z => h.dis a (g a z)
  trk := fun a ha => h.trk a (g a ha)
  m0 := m
theorem md_plus (a : Addr) : ∀ b, Md B ow b → Md (plus B a) ow b := fun b h => h.imp .inl id
end
/-- a new object is let go -/
def EV.settle (F : Nat → List Str) : EV → Option EV
  | .new o => (o.fr F).map .val
  | e => some e
def Slot.ob : Slot → Option Ob
  | .own o => some o
  | .io o => some o
  | _ => none
/-- its content, to be read at once -/
def EV.rd (F : Nat → List Str) (env : Env') : EV → Option D
  | .val d => some d
  | .own i => (env[i]?).bind fun s => s.ob.bind fun o => o.fr F
  | .new _ => none
/-- a value that may be kept -/
def EV.keep (F : Nat → List Str) : EV → Option D
  | .val d => some d
  | .own _ => none
  | .new o => o.fr F
/-- as Rep, but the object itself may be one that changes -/
def RepT (S : Sg) (M : MS) (H : Hp) : D → V → Prop
  | .lst ds, v => ∃ a vs, v = .ref a ∧ SqL S.K H a vs ∧ RepL S M H ds vs
  | .dK ks ds, v => ∃ a vs, v = .ref a ∧ Rd H a (.dK (ks.zip vs)) ∧ ks.length = vs.length ∧ RepL S M H ds vs
  | .dT ks ds, v => ∃ a vs, v = .ref a ∧ Rd H a (.dT (ks.zip vs)) ∧ ks.length = vs.length ∧ RepL S M H ds vs
  | .ins c ds, v => ∃ a dx vs, v = .ref a ∧ H a = some (.ins (S.cls c) dx ((S.flds c).zip vs)) ∧ (S.flds c).length = vs.length ∧ RepL S M H ds vs
  | d, v => Rep S M H d v
section
variable {S : Sg} {M M' M0 B : MS} {ow ow' : OW} {env env' : Env'} {σ : L2.St} {H H' : Hp}
theorem Rep.top {d : D} {v : V} (h : Rep S M H d v) : RepT S M H d v := by
  cases d with
  | lst ds => obtain ⟨a, vs, e, q, l⟩ := h; exact ⟨a, vs, e, q.seq, l⟩
  | dK ks ds => obtain ⟨a, vs, e, _, q, z, l⟩ := h; exact ⟨a, vs, e, q, z, l⟩
  | dT ks ds => obtain ⟨a, vs, e, _, q, z, l⟩ := h; exact ⟨a, vs, e, q, z, l⟩
  | ins c ds => obtain ⟨a, dx, vs, e, _, q, z, l⟩ := h; exact ⟨a, dx, vs, e, q, z, l⟩
  | non => exact h
  | bl b => exact h
  | int i => exact h
  | str x => exact h
  | tup ds => exact h
  | nms xs => exact h
theorem ObRep.top {a : Addr} {o : Ob} {d : D} (h : ObRep S M H a o) (e : o.fr S.flds = some d) : RepT S M H d (.ref a) := by
  cases o with
  | lst ds => cases e; obtain ⟨vs, h1, h2⟩ := h; exact ⟨a, vs, rfl, .inl (.inl h1), h2⟩
  | dK ks ds => cases e; obtain ⟨vs, h1, z, h2⟩ := h; exact ⟨a, vs, rfl, .inl h1, z, h2⟩
  | dT ks ds => cases e; obtain ⟨vs, h1, z, h2⟩ := h; exact ⟨a, vs, rfl, .inl h1, z, h2⟩
  | ins c fs =>
    have e : (if fs.map (·.1) = S.flds c then some (D.ins c (fs.map (·.2))) else none) = some d := e
    split at e
    · rename_i hf
      cases e
      obtain ⟨dx, vs, h1, z, h2⟩ := h
      refine ⟨a, dx, vs, rfl, by rw [← hf]; exact h1, by rw [← hf, List.length_map]; exact z, h2⟩
    · cases e
theorem ObRep.rep {a : Addr} {o : Ob} {d : D} (h : ObRep S M H a o) (n : ¬ M a) (e : o.fr S.flds = some d) : Rep S M H d (.ref a) := by
  cases o with
  | lst ds => cases e; obtain ⟨vs, h1, h2⟩ := h; exact ⟨a, vs, rfl, .inl ⟨n, .inl h1⟩, h2⟩
  | dK ks ds => cases e; obtain ⟨vs, h1, z, h2⟩ := h; exact ⟨a, vs, rfl, n, .inl h1, z, h2⟩
  | dT ks ds => cases e; obtain ⟨vs, h1, z, h2⟩ := h; exact ⟨a, vs, rfl, n, .inl h1, z, h2⟩
  | ins c fs =>
    have e : (if fs.map (·.1) = S.flds c then some (D.ins c (fs.map (·.2))) else none) = some d := e
    split at e
    · rename_i hf
      cases e
      obtain ⟨dx, vs, h1, z, h2⟩ := h
      refine ⟨a, dx, vs, rfl, n, by rw [← hf]; exact h1, by rw [← hf, List.length_map]; exact z, h2⟩
    · cases e
theorem ObRep.anti {a : Addr} {o : Ob} (g : ∀ a, M' a → M a) (h : ObRep S M H a o) : ObRep S M' H a o := h.move (fun _ z => z) fun a o n e => ⟨e, fun z => n (g a z)⟩
theorem EVOk.m0 {o : Ob} {v : V} (h : EVOk S M0 B ow env σ H (.new o) v) : ∀ a, M0 a → Md B ow a := by
  obtain ⟨a, rfl, n, n0, s, r⟩ := h
  intro b hb
  rcases s.m0 b hb with (z | z) | z
  · exact .inl z
  · subst z; exact absurd hb n0
  · exact .inr z
theorem EVOk.unplus {o : Ob} {v : V} {d : D} (h : EVOk S M0 B ow env σ H (.new o) v) (e : o.fr S.flds = some d) : EVOk S M0 B ow env σ H (.val d) v := by
  have m := h.m0
  obtain ⟨a, rfl, n, n0, s, r⟩ := h
  refine ⟨s.anti (fun _ z => .inl z) m, ?_⟩
  exact (r.anti (M' := Md B ow) (md_plus a)).rep n e
theorem EVOk.settle {e e' : EV} {v : V} (h : EVOk S M0 B ow env σ H e v) (q : e.settle S.flds = some e') : EVOk S M0 B ow env σ H e' v := by
  cases e with
  | val d => cases q; exact h
  | own i => cases q; exact h
  | new o =>
    have q : (o.fr S.flds).map EV.val = some e' := q
    cases hf : o.fr S.flds with
    | none => rw [hf] at q; cases q
    | some d => rw [hf] at q; cases q; exact h.unplus hf
theorem EVOk.keep {e : EV} {d : D} {v : V} (h : EVOk S M0 B ow env σ H e v) (q : e.keep S.flds = some d) : Sim S M0 B ow env σ H ∧ Rep S (Md B ow) H d v := by
  cases e with
  | val d => cases q; exact h
  | own i => cases q
  | new o => exact h.unplus q
def EV.old : EV → Prop
  | .new _ => False
  | _ => True
theorem EV.settle_old {F : Nat → List Str} {e e' : EV} (q : e.settle F = some e') : e'.old := by
  cases e with
  | val d => cases q; trivial
  | own i => cases q; trivial
  | new o =>
    have q : (o.fr F).map EV.val = some e' := q
    cases hf : o.fr F with
    | none => rw [hf] at q; cases q
    | some d => rw [hf] at q; cases q; trivial
theorem EVOk.sim {e : EV} {v : V} (h : EVOk S M0 B ow env σ H e v) (o : e.old) : Sim S M0 B ow env σ H := by
  cases e with
  | val d => exact h.1
  | own i => exact h.1
  | new o' => exact o.elim
theorem Sim.slot {i : Nat} {s : Slot} {o : Ob} (h : Sim S M0 B ow env σ H) (e : env[i]? = some s) (q : s.ob = some o) : ∃ a, ow[i]? = some (some a) ∧ σ[i]? = some (some (.ref a)) ∧ ObRep S (Md B ow) H a o := by
  cases s with
  | un => cases q
  | val d => cases q
  | own o' => cases q; obtain ⟨a, h1, h2, h3, _⟩ := h.own i o e; exact ⟨a, h1, h2, h3⟩
  | io o' => cases q; exact h.io i o e
/-- read later: the content as it is then -/
theorem EVOk.rd {e : EV} {v : V} {d : D} {ow2 : OW} {env2 : Env'} {H2 : Hp} (h : EVOk S M0 B ow env σ H e v) (st : Stp ow H ow2 H2) (s2 : Sim S M0 B ow2 env2 σ H2) (q : e.rd S.flds env2 = some d) : RepT S (Md B ow2) H2 d v := by
  cases e with
  | val d' => cases q; exact (Rep.stp st h.2).top
  | own i =>
    obtain ⟨s, a, o, rfl, ha, ho⟩ := h
    have hs : σ[i]? = some (some (.ref a)) := by
      rcases ho with ho | ho
      · obtain ⟨b, h1, h2, _⟩ := s.own i o ho; rw [ha] at h1; cases h1; exact h2
      · obtain ⟨b, h1, h2, _⟩ := s.io i o ho; rw [ha] at h1; cases h1; exact h2
    have q : ((env2[i]?).bind fun s => s.ob.bind fun o => o.fr S.flds) = some d := q
    cases he : env2[i]? with
    | none => rw [he] at q; cases q
    | some sl =>
      rw [he] at q
      have q : (sl.ob.bind fun o => o.fr S.flds) = some d := q
      cases hb : sl.ob with
      | none => rw [hb] at q; cases q
      | some o2 =>
        rw [hb] at q
        obtain ⟨b, h1, h2, h3⟩ := s2.slot he hb
        rw [hs] at h2; cases h2
        exact h3.top q
  | new o => cases q
end
end En
set_option Elab.async false
set_option linter.all false
set_option maxRecDepth 100000
namespace En
open PySem PySem.Spec PyProof.Rows L2
/-- the context of a body (or of a comprehension's block) -/
structure Cz (X : Cx) (S : Sg) (E : XK) : Prop where
  k : X.K = S.K
  calm : X.calm = true
  nd : X.N.Nodup
  hx : Passes (L2.CX X.prog X.w) X E
  hu : X.A.units + 100 < cLine
theorem Cz.blk {X : Cx} {S : Sg} {E : XK} (z : Cz X S E) (s : Shared) (H : Hp) (scope : Scope) (cenv : Env) (fp : List Addr) : Cz (X.blk s H scope cenv fp) S E0 :=
  ⟨z.k, z.calm, z.nd, passL, z.hu⟩
section
variable {X : Cx} {S : Sg} {M0 : MS} {E : XK}
/-! ### names, constants -/
def varF (i : Nat) : EF where
  r := fun env P _ => match env[i]? with
    | some (.val d) => P (.val d) env
    | some (.own _) => P (.own i) env
    | some (.io _) => P (.own i) env
    | _ => False
  m := fun hp _ h => by
    split at h
    · exact hp _ _ h
    · exact hp _ _ h
    · exact hp _ _ h
    · exact h.elim
theorem r_var {i : Nat} {x : Str} {pos : Pos} (hN : X.N[i]? = some x := by rfl) (hv : Vis X.env.scope x := by first | exact Or.inl rfl | exact Or.inr (Or.inl rfl) | exact Or.inr (Or.inr rfl)) (hd : (x == ("__debug__" : Str)) = false := by decide)
    (hcd : (x == ("__classdict__" : Str)) = false := by decide) : PE X (.Name x pos) (tE S M0 E (varF i)) := by
  refine PE.imp (pe_var hN hv hd hcd) fun σ H Q h => ?_
  obtain ⟨B, ow, env, s, h⟩ := h
  have h : (match env[i]? with
    | some (.val d) => _
    | some (.own _) => _
    | some (.io _) => _
    | _ => False) := h
  split at h
  · rename_i d e
    obtain ⟨v, h1, h2⟩ := s.val i d e
    exact ⟨v, h1, h v H ow .refl trivial ⟨s, h2⟩⟩
  · rename_i o e
    obtain ⟨a, h1, h2, h3, h4⟩ := s.own i o e
    exact ⟨_, h2, h _ H ow .refl trivial ⟨s, a, o, rfl, h1, .inl e⟩⟩
  · rename_i o e
    obtain ⟨a, h1, h2, h3⟩ := s.io i o e
    exact ⟨_, h2, h _ H ow .refl trivial ⟨s, a, o, rfl, h1, .inr e⟩⟩
  · exact h.elim
def litF (d : D) : EF where
  r := fun env P _ => P (.val d) env
  m := fun hp _ h => hp _ _ h
theorem lit_of {e : Expr} {v : V} {d : D} (h : PE X e (tC v)) (hd : ∀ M H, Rep S M H d v) : PE X e (tE S M0 E (litF d)) :=
  PE.imp h fun σ H Q h => by
    obtain ⟨B, ow, env, s, h⟩ := h
    exact h v H ow .refl trivial ⟨s, hd _ _⟩
theorem r_int {i : Int} {j pos} : PE X (.Constant (.int i) j pos) (tE S M0 E (litF (.int i))) := lit_of pe_int fun _ _ => rfl
theorem r_bl {b : Bool} {j pos} : PE X (.Constant (.bool b) j pos) (tE S M0 E (litF (.bl b))) := lit_of pe_bl fun _ _ => rfl
theorem r_non {j pos} : PE X (.Constant .none j pos) (tE S M0 E (litF .non)) := lit_of pe_non fun _ _ => rfl
theorem r_str {x : Str} {j pos} : PE X (.Constant (.str x) j pos) (tE S M0 E (litF (.str x))) := lit_of pe_str fun _ _ => rfl
/-- a module's constant: an int or a text -/
theorem r_gint {x : Str} {i : Int} {t : Tok} {pos : Pos} (hm : X.mg x = some (.int i t)) (hg : Gl X x := by rfl) (hd : (x == ("__debug__" : Str)) = false := by decide) : PE X (.Name x pos) (tE S M0 E (litF (.int i))) :=
  lit_of (pe_glob (v := .int i) hg hm ⟨t, rfl⟩ hd) fun _ _ => rfl
theorem r_gstr {x : Str} {i : Str} {t : Tok} {pos : Pos} (hm : X.mg x = some (.str i t)) (hg : Gl X x := by rfl) (hd : (x == ("__debug__" : Str)) = false := by decide) : PE X (.Name x pos) (tE S M0 E (litF (.str i))) :=
  lit_of (pe_glob (v := .str i) hg hm ⟨t, rfl⟩ hd) fun _ _ => rfl
/-! ### two operands -/
/-- an operation by values -/
def OpS (X : Cx) (S : Sg) (f : Value → Value → Sem Value) (g : D → D → Option D) : Prop :=
  OpR X f fun x y H Q => ∃ M d e c, RepT S M H d x ∧ RepT S M H e y ∧ g d e = some c ∧ (∀ a, M a → ∃ u, H a = some u) ∧ ∀ v H', Grow H H' → Rep S M H' c v → Q v H'
def binF (F : Nat → List Str) (g : D → D → Option D) (f f2 : EF) : EF where
  r := fun env P X => f.r env (fun e env1 => ∃ e', e.settle F = some e' ∧ f2.r env1 (fun e2 env2 => ∃ e2', e2.settle F = some e2' ∧ ∃ d d2 c, e'.rd F env2 = some d ∧ e2'.rd F env2 = some d2 ∧ g d d2 = some c ∧ P (.val c) env2) X) X
  m := fun hp hx h => f.m (fun e env1 ⟨e', q, h⟩ => ⟨e', q, f2.m (fun e2 env2 ⟨e2', q2, d, d2, c, h1, h2, h3, h4⟩ => ⟨e2', q2, d, d2, c, h1, h2, h3, hp _ _ h4⟩) hx h⟩) hx h
theorem bin_of {g : D → D → Option D} {f f2 : EF} {R : R2}
    (hR : ∀ x y H Q, (∃ M d e c, RepT S M H d x ∧ RepT S M H e y ∧ g d e = some c ∧ (∀ a, M a → ∃ u, H a = some u) ∧ ∀ v H', Grow H H' → Rep S M H' c v → Q v H') → R x y H Q)
    {σ : L2.St} {H : Hp} {Q : VK} (h : tE S M0 E (binF S.flds g f f2) σ H Q) : tOp R (tE S M0 E f) (tE S M0 E f2) σ H Q := by
  obtain ⟨B, ow, env, s, h⟩ := h
  refine ⟨B, ow, env, s, f.m (fun e1 env1 h1 v H1 ow1 st1 nw1 ok1 => ?_) (fun _ _ h => h) h⟩
  obtain ⟨e', q, h1⟩ := h1
  have ok1' := ok1.settle q
  have s1 := ok1'.sim (EV.settle_old q)
  refine ⟨B, ow1, env1, s1, f2.m (fun e2 env2 h2 u H2 ow2 st2 nw2 ok2 => ?_) (fun _ _ h => h.stp st1) h1⟩
  obtain ⟨e2', q2, d, d2, c, k1, k2, k3, k4⟩ := h2
  have ok2' := ok2.settle q2
  have s2 := ok2'.sim (EV.settle_old q2)
  refine hR _ _ _ _ ⟨Md B ow2, d, d2, c, ok1'.rd st2 s2 k1, ok2'.rd .refl s2 k2, k3, s2.trkA, fun w H' g r => ?_⟩
  exact k4 w H' ow2 ((st1.trans st2).trans (.grow g)) trivial ⟨s2.grow g, r⟩
variable {a b c : Expr} {f f2 f3 : EF} {pos : Pos}
theorem r_bin {op : Operator} {g : D → D → Option D} (ho : OpS X S (binaryOp op) g) (ha : PE X a (tE S M0 E f)) (hb : PE X b (tE S M0 E f2)) : PE X (.BinOp a op b pos) (tE S M0 E (binF S.flds g f f2)) :=
  PE.imp (pe_op ho ha hb) fun σ H Q h => bin_of (fun _ _ _ _ z => z) h
theorem r_cmp {op : CmpOp} {g : D → D → Option D} (ho : OpS X S (compareOp op) g) (ha : PE X a (tE S M0 E f)) (hb : PE X b (tE S M0 E f2)) (hm : behindInMarks op b = false := by first | exact nomark _ | rfl) : PE X (.Compare a [op] [b] pos) (tE S M0 E (binF S.flds g f f2)) :=
  PE.imp (pe_cmpR ho ha hb hm) fun σ H Q h => bin_of (fun _ _ _ _ z => z) h
/-! ### ops on values -/
def addD : D → D → Option D
  | .int i, .int j => some (.int (i + j))
  | .str x, .str y => if x.length + y.length ≤ sizeLine then some (.str (x ++ y)) else none
  | .tup xs, .tup ys => if xs.length + ys.length ≤ sizeLine then some (.tup (xs ++ ys)) else none
  | .lst xs, .lst ys => if xs.length + ys.length ≤ sizeLine then some (.lst (xs ++ ys)) else none
  | _, _ => none
theorem RepT.lst {M : MS} {H : Hp} {ds : List D} {v : V} (h : RepT S M H (.lst ds) v) : ∃ a vs, v = .ref a ∧ SqL S.K H a vs ∧ RepL S M H ds vs := h
theorem RepT.tup {M : MS} {H : Hp} {ds : List D} {v : V} (h : RepT S M H (.tup ds) v) : ∃ a vs, v = .ref a ∧ ¬ M a ∧ H a = some (.tup vs) ∧ RepL S M H ds vs := h
theorem cat_sql (hk : X.K = S.K) : OpR X (binaryOp .Add) (fun x y H Q => ∃ l b xs zs, x = .ref l ∧ y = .ref b ∧ SqL S.K H l xs ∧ SqL S.K H b zs ∧ xs.length + zs.length ≤ sizeLine ∧ ∀ p, H p = none → Q (.ref p) (upd H p (.lst (xs ++ zs)))) := by
  intro pins s σ H x y v u Q I rx ry h
  obtain ⟨l, b, xs, zs, rfl, rfl, hH, hB, hz, q⟩ := h
  cases rx
  cases ry
  rw [← hk] at hH hB
  obtain ⟨its, r, ⟨o, n, e, c1, c2, c3⟩, z⟩ := I.list hH
  obtain ⟨its2, r2, ⟨o2, n2, e2, c12, c22, c32⟩, z2⟩ := I.list hB
  have hl := r.length
  have hl2 := r2.length
  obtain ⟨oc, od, oda, osl⟩ := o
  obtain ⟨oc2, od2, oda2, osl2⟩ := o2
  simp only at c1 c2 c3 c12 c22 c32
  subst c1 c2 c3 c12 c22 c32
  have ea : its.toArray ++ its2.toArray = (its ++ its2).toArray := by simp
  refine concat_meets ⟨_, e, rfl⟩ ⟨_, e2, rfl⟩ noFill_list_add seq_list_add PySem.F.slot_list_add PySem.F.entry_list_add (PySem.F.args_list_add_2 _ _) (list_addW l b its.toArray its2.toArray n n2 none none osl osl2 (by simp; omega)) ⟨e, e2, ?_⟩
  rw [ea]
  have fr : H s.heap.objs.size = none := I.hok.fresh (Nat.le_refl _)
  refine ⟨.ref _, _, I.laid (t' := s.toks) (o := .lst (xs ++ zs)) (fun b ob q => Heap.get?_push_of_some _ q) (Nat.le_refl _) ?_, rfl, q _ fr⟩
  exact ⟨by rw [List.length_append]; exact hz, its ++ its2, 0, r.append r2, Heap.get?_push_size _ rfl⟩
theorem op_addD (hk : X.K = S.K) : OpS X S (binaryOp .Add) addD := by
  intro pins s σ H x y v u Q I rx ry h
  obtain ⟨M, d, e, c, hd, he, hg, ht, k⟩ := h
  unfold addD at hg
  split at hg
  · cases hg; cases hd; cases he
    exact op_add pins s σ H _ _ v u Q I rx ry ⟨_, _, rfl, rfl, k _ H .rfl' rfl⟩
  · split at hg
    · rename_i hz
      cases hg; cases hd; cases he
      exact op_add_str pins s σ H _ _ v u Q I rx ry ⟨_, _, rfl, rfl, hz, k _ H .rfl' rfl⟩
    · cases hg
  · rename_i xs ys
    split at hg
    · rename_i hz
      cases hg
      obtain ⟨a, vs, rfl, na, ra, la⟩ := hd.tup
      obtain ⟨b, ws, rfl, nb, rb, lb⟩ := he.tup
      have e1 := la.len
      have e2 := lb.len
      refine op_catA pins s σ H _ _ v u Q I rx ry ⟨a, b, vs, ws, rfl, rfl, .of ra, .of rb, by omega, fun z => ?_, fun _ z => ?_, fun z1 z2 p hp => ?_⟩
      · subst z
        have : xs = [] := List.eq_nil_of_length_eq_zero (by simpa using e1)
        subst this
        exact k _ H .rfl' ⟨b, ws, rfl, nb, rb, lb⟩
      · subst z
        have : ys = [] := List.eq_nil_of_length_eq_zero (by simpa using e2)
        subst this
        exact k _ H .rfl' ⟨a, vs, rfl, na, ra, by simpa using la⟩
      · have g : Grow H (upd H p (.tup (vs ++ ws))) := .upd hp
        refine k _ _ g ⟨p, _, rfl, fun z => ?_, upd_same, (la.append lb).grow g⟩
        obtain ⟨u, hu⟩ := ht p z
        rw [hp] at hu; cases hu
    · cases hg
  · split at hg
    · rename_i xs ys hz
      cases hg
      obtain ⟨a, vs, rfl, ra, la⟩ := hd.lst
      obtain ⟨b, ws, rfl, rb, lb⟩ := he.lst
      have e1 := la.len
      have e2 := lb.len
      refine cat_sql hk pins s σ H _ _ v u Q I rx ry ⟨a, b, vs, ws, rfl, rfl, ra, rb, by omega, fun p hp => ?_⟩
      have g : Grow H (upd H p (.lst (vs ++ ws))) := .upd hp
      refine k _ _ g ⟨p, _, rfl, .inl ⟨fun z => ?_, .inl upd_same⟩, (la.append lb).grow g⟩
      obtain ⟨u, hu⟩ := ht p z
      rw [hp] at hu; cases hu
    · cases hg
  · cases hg
/-- ints alone -/
def intD (C : Int → Int → Bool) (g : Int → Int → Int) : D → D → Option D
  | .int i, .int j => if C i j then some (.int (g i j)) else none
  | _, _ => none
theorem op_intD {f : Value → Value → Sem Value} {C : Int → Int → Bool} {C' : Int → Int → Prop} {g : Int → Int → Int} (ho : OpR X f (rI C' fun i j => .int (g i j))) (hc : ∀ i j, C i j = true → C' i j) : OpS X S f (intD C g) := by
  intro pins s σ H x y v u Q I rx ry h
  obtain ⟨M, d, e, c, hd, he, hg, ht, k⟩ := h
  unfold intD at hg
  split at hg
  · split at hg
    · rename_i hz
      cases hg; cases hd; cases he
      exact ho pins s σ H _ _ v u Q I rx ry ⟨_, _, rfl, rfl, hc _ _ hz, k _ H .rfl' rfl⟩
    · cases hg
  · cases hg
abbrev subD : D → D → Option D := intD (fun _ _ => true) (· - ·)
theorem op_subD : OpS X S (binaryOp .Sub) subD := by
  refine op_intD (C' := fun _ _ => True) (fun pins s σ H x y v u Q I rx ry h => ?_) fun _ _ _ => trivial
  obtain ⟨i, j, e1, e2, _, q⟩ := h
  exact op_sub pins s σ H x y v u Q I rx ry ⟨i, j, e1, e2, q⟩
def cmul (i j : Int) : Bool := (decide (-(2 ^ 64) < i) && decide (i < 2 ^ 64)) || (decide (-(2 ^ 64) < j) && decide (j < 2 ^ 64))
abbrev mulD : D → D → Option D := intD cmul (· * ·)
theorem op_mulD : OpS X S (binaryOp .Mult) mulD := op_intD op_mul fun i j h => by
  unfold cmul at h
  simp only [Bool.or_eq_true, Bool.and_eq_true, decide_eq_true_eq] at h
  exact h
abbrev divD : D → D → Option D := intD (fun _ j => decide (0 < j) && decide (j < 1073741824)) (· / ·)
theorem op_divD : OpS X S (binaryOp .FloorDiv) divD := op_intD op_fdiv fun i j h => by
  simp only [Bool.and_eq_true, decide_eq_true_eq] at h
  exact h
abbrev modD : D → D → Option D := intD (fun _ j => decide (0 < j)) (· % ·)
theorem op_modD : OpS X S (binaryOp .Mod) modD := op_intD op_mod fun i j h => by simpa using h
abbrev powD : D → D → Option D := intD (fun i j => decide (0 ≤ j) && decide (j ≤ 1000000) && decide (i.natAbs < 2 ^ 64)) (fun i j => i ^ j.toNat)
theorem op_powD : OpS X S (binaryOp .Pow) powD := op_intD op_pow fun i j h => by
  simp only [Bool.and_eq_true, decide_eq_true_eq] at h
  exact ⟨h.1.1, h.1.2, h.2⟩
def cmpD (g : Int → Int → Bool) : D → D → Option D
  | .int i, .int j => some (.bl (g i j))
  | _, _ => none
theorem op_cmpD {f : Value → Value → Sem Value} {g : Int → Int → Bool} (ho : OpR X f (rI0 fun i j => .bl (g i j))) : OpS X S f (cmpD g) := by
  intro pins s σ H x y v u Q I rx ry h
  obtain ⟨M, d, e, c, hd, he, hg, ht, k⟩ := h
  unfold cmpD at hg
  split at hg
  · cases hg; cases hd; cases he
    exact ho pins s σ H _ _ v u Q I rx ry ⟨_, _, rfl, rfl, k _ H .rfl' rfl⟩
  · cases hg
abbrev ltD : D → D → Option D := cmpD fun i j => decide (i < j)
abbrev leD : D → D → Option D := cmpD fun i j => decide (i ≤ j)
abbrev gtD : D → D → Option D := cmpD fun i j => decide (j < i)
abbrev geD : D → D → Option D := cmpD fun i j => decide (j ≤ i)
theorem op_ltD : OpS X S (compareOp .Lt) ltD := op_cmpD op_lt
theorem op_leD : OpS X S (compareOp .LtE) leD := op_cmpD op_le
theorem op_gtD : OpS X S (compareOp .Gt) gtD := op_cmpD op_gt
theorem op_geD : OpS X S (compareOp .GtE) geD := op_cmpD op_ge
/-! ### is -/
def isD : D → D → Option D
  | .non, .non => some (.bl true)
  | _, .non => some (.bl false)
  | .bl a, .bl b => some (.bl (a == b))
  | _, .bl _ => some (.bl false)
  | _, _ => none
def isNotD (d e : D) : Option D := match isD d e with
  | some (.bl b) => some (.bl (!b))
  | _ => none
theorem Rep.nonne {M : MS} {H : Hp} {d : D} {v : V} (h : RepT S M H d v) (n : d ≠ .non) : v ≠ .non := by
  cases d with
  | non => exact absurd rfl n
  | bl b => cases h; exact fun z => nomatch z
  | int i => cases h; exact fun z => nomatch z
  | str x => cases h; exact fun z => nomatch z
  | tup ds => obtain ⟨a, _, rfl, _⟩ := h; exact fun z => nomatch z
  | lst ds => obtain ⟨a, _, rfl, _⟩ := h; exact fun z => nomatch z
  | dK ks ds => obtain ⟨a, _, rfl, _⟩ := h; exact fun z => nomatch z
  | dT ks ds => obtain ⟨a, _, rfl, _⟩ := h; exact fun z => nomatch z
  | ins c ds => obtain ⟨a, _, _, rfl, _⟩ := h; exact fun z => nomatch z
  | nms xs => obtain ⟨a, _, rfl, _⟩ := h; exact fun z => nomatch z
theorem Rep.blne {M : MS} {H : Hp} {d : D} {v : V} {b : Bool} (h : RepT S M H d v) (n : ∀ b, d ≠ .bl b) : v ≠ .bl b := by
  cases d with
  | bl b => exact absurd rfl (n b)
  | non => cases h; exact fun z => nomatch z
  | int i => cases h; exact fun z => nomatch z
  | str x => cases h; exact fun z => nomatch z
  | tup ds => obtain ⟨a, _, rfl, _⟩ := h; exact fun z => nomatch z
  | lst ds => obtain ⟨a, _, rfl, _⟩ := h; exact fun z => nomatch z
  | dK ks ds => obtain ⟨a, _, rfl, _⟩ := h; exact fun z => nomatch z
  | dT ks ds => obtain ⟨a, _, rfl, _⟩ := h; exact fun z => nomatch z
  | ins c ds => obtain ⟨a, _, _, rfl, _⟩ := h; exact fun z => nomatch z
  | nms xs => obtain ⟨a, _, rfl, _⟩ := h; exact fun z => nomatch z
theorem relV_bl {x : V} {v : Value} (b : Bool) (r : RelV x v) : (v == Value.bool b) = decide (x = .bl b) := by
  cases x with
  | non => cases r; rfl
  | bl c => cases r; cases b <;> cases c <;> rfl
  | int _ => obtain ⟨t, rfl⟩ := r; rfl
  | str _ => obtain ⟨t, rfl⟩ := r; rfl
  | byt _ => obtain ⟨t, rfl⟩ := r; rfl
  | flt _ => obtain ⟨t, rfl⟩ := r; rfl
  | ref _ => cases r; rfl
  | ty _ => cases r; rfl
theorem plain_bl {x : V} {v : Value} (b : Bool) (r : RelV x v) : plainIs v (Value.bool b) = true := by
  cases x with
  | non => cases r; rfl
  | bl c => cases r; rfl
  | int _ => obtain ⟨t, rfl⟩ := r; rfl
  | str _ => obtain ⟨t, rfl⟩ := r; rfl
  | byt _ => obtain ⟨t, rfl⟩ := r; rfl
  | flt _ => obtain ⟨t, rfl⟩ := r; rfl
  | ref _ => cases r; rfl
  | ty _ => cases r; rfl
theorem plain_non {x : V} {v : Value} (r : RelV x v) : plainIs v Value.none = true := by
  cases x with
  | non => cases r; rfl
  | bl c => cases r; rfl
  | int _ => obtain ⟨t, rfl⟩ := r; rfl
  | str _ => obtain ⟨t, rfl⟩ := r; rfl
  | byt _ => obtain ⟨t, rfl⟩ := r; rfl
  | flt _ => obtain ⟨t, rfl⟩ := r; rfl
  | ref _ => cases r; rfl
  | ty _ => cases r; rfl
theorem isD_run {M : MS} {H : Hp} {d e c : D} {x y : V} {v u : Value} (hd : RepT S M H d x) (he : RepT S M H e y) (rx : RelV x v) (ry : RelV y u) (hg : isD d e = some c) : plainIs v u = true ∧ c = .bl (v == u) := by
  unfold isD at hg
  split at hg
  · cases hg; cases hd; cases he; cases rx; cases ry
    exact ⟨rfl, rfl⟩
  · rename_i n
    cases hg; cases he; cases ry
    exact ⟨plain_non rx, by rw [rx.none_iff, decide_eq_false (Rep.nonne hd n)]⟩
  · cases hg; cases hd; cases he; cases ry
    refine ⟨plain_bl _ rx, ?_⟩
    rw [relV_bl _ rx]
    rename_i a b
    cases a <;> cases b <;> rfl
  · rename_i n
    cases hg; cases he; cases ry
    exact ⟨plain_bl _ rx, by rw [relV_bl _ rx, decide_eq_false (Rep.blne hd fun b z => n b z)]⟩
  · cases hg
theorem op_isD : OpS X S (compareOp .Is) isD := by
  intro pins s σ H x y v u Q I rx ry h
  obtain ⟨M, d, e, c, hd, he, hg, ht, k⟩ := h
  obtain ⟨h1, rfl⟩ := isD_run hd he rx ry hg
  exact wpAny_is_plain h1 ⟨.bl _, H, I, rfl, k _ H .rfl' rfl⟩
theorem op_isNotD : OpS X S (compareOp .IsNot) isNotD := by
  intro pins s σ H x y v u Q I rx ry h
  obtain ⟨M, d, e, c, hd, he, hg, ht, k⟩ := h
  unfold isNotD at hg
  split at hg
  · rename_i b hb
    cases hg
    obtain ⟨h1, h2⟩ := isD_run hd he rx ry hb
    cases h2
    exact wpAny_isNot_plain h1 ⟨.bl _, H, I, rfl, k _ H .rfl' rfl⟩
  · cases hg
/-! ### ==, in -/
mutual
def D.py : D → PyData
  | .non => .none
  | .bl b => .bool b
  | .int i => .int i
  | .str x => .str x
  | .tup ds => .tuple (D.pyL ds)
  | .lst ds => .list (D.pyL ds)
  | .dK _ _ => .dict []
  | .dT _ _ => .dict []
  | .ins _ _ => .dict []
  | .nms xs => .tuple (xs.map PyData.str)
def D.pyL : List D → List PyData
  | [] => []
  | d :: ds => D.py d :: D.pyL ds
end
mutual
/-- data of at most this depth -/
def okN : D → Nat → Bool
  | .non, _ => true
  | .bl _, _ => true
  | .int _, _ => true
  | .str x, _ => PyData.strOk x
  | .tup ds, n + 1 => okL ds n
  | .lst ds, n + 1 => okL ds n
  | .nms xs, n + 1 => xs.all PyData.strOk
  | _, _ => false
def okL : List D → Nat → Bool
  | [], _ => true
  | d :: ds, n => okN d n && okL ds n
end
theorem strs_lay : ∀ xs : List Str, xs.all PyData.strOk = true → PyData.canLayAll0 (xs.map PyData.str) = true
  | [], _ => by simp [PyData.canLayAll0]
  | x :: xs, h => by
    rw [List.all_cons, Bool.and_eq_true] at h
    simp [PyData.canLayAll0, PyData.canLay0, h.1, strs_lay xs h.2]
theorem strs_depth : ∀ xs : List Str, PyData.depthAll (xs.map PyData.str) = 0
  | [] => by simp [PyData.depthAll]
  | x :: xs => by simp [PyData.depthAll, PyData.depth, strs_depth xs]
theorem strs_dp (K : PySem.W.Frag) (H : Hp) : ∀ xs : List Str, DpAll K H (xs.map V.str) (xs.map PyData.str)
  | [] => .nil
  | x :: xs => .cons (.str x) (strs_dp K H xs)
mutual
theorem okN_py : ∀ (d : D) (n : Nat), okN d n = true → d.py.canLay0 = true ∧ d.py.depth ≤ n
  | .non, n, _ => by simp [D.py, PyData.canLay0, PyData.depth]
  | .bl _, n, _ => by simp [D.py, PyData.canLay0, PyData.depth]
  | .int _, n, _ => by simp [D.py, PyData.canLay0, PyData.depth]
  | .str x, n, h => by
    have h : PyData.strOk x = true := by simpa [okN] using h
    simp [D.py, PyData.canLay0, PyData.depth, h]
  | .tup ds, 0, h => by simp [okN] at h
  | .tup ds, n + 1, h => by
    have h : okL ds n = true := by simpa [okN] using h
    have := okL_py ds n h
    simp [D.py, PyData.canLay0, PyData.depth, this.1, this.2]
  | .lst ds, 0, h => by simp [okN] at h
  | .lst ds, n + 1, h => by
    have h : okL ds n = true := by simpa [okN] using h
    have := okL_py ds n h
    simp [D.py, PyData.canLay0, PyData.depth, this.1, this.2]
  | .dK _ _, n, h => by simp [okN] at h
  | .dT _ _, n, h => by simp [okN] at h
  | .ins _ _, n, h => by simp [okN] at h
  | .nms xs, 0, h => by simp [okN] at h
  | .nms xs, n + 1, h => by
    have h : xs.all PyData.strOk = true := by simpa [okN] using h
    have h1 := strs_lay xs h
    have h2 := strs_depth xs
    simp [D.py, PyData.canLay0, PyData.depth, h1, h2]
theorem okL_py : ∀ (ds : List D) (n : Nat), okL ds n = true → PyData.canLayAll0 (D.pyL ds) = true ∧ PyData.depthAll (D.pyL ds) ≤ n
  | [], n, _ => by simp [D.pyL, PyData.canLayAll0, PyData.depthAll]
  | d :: ds, n, h => by
    have h : okN d n = true ∧ okL ds n = true := by simpa [okL] using h
    have h1 := okN_py d n h.1
    have h2 := okL_py ds n h.2
    simp [D.pyL, PyData.canLayAll0, PyData.depthAll, h1.1, h2.1]
    omega
end
mutual
theorem Rep.dp {M : MS} {H : Hp} : ∀ (d : D) (n : Nat) (v : V), okN d n = true → RepT S M H d v → Dp S.K H v d.py
  | .non, _, v, _, h => by cases h; exact .non
  | .bl _, _, v, _, h => by cases h; exact .bl _
  | .int _, _, v, _, h => by cases h; exact .int _
  | .str _, _, v, _, h => by cases h; exact .str _
  | .tup ds, 0, v, o, h => by simp [okN] at o
  | .tup ds, n + 1, v, o, h => by
    obtain ⟨a, vs, rfl, _, r, l⟩ := h
    have o : okL ds n = true := by simpa [okN] using o
    exact .tup (.of r) (RepL.dp ds n vs o l)
  | .lst ds, 0, v, o, h => by simp [okN] at o
  | .lst ds, n + 1, v, o, h => by
    obtain ⟨a, vs, rfl, r, l⟩ := h
    have o : okL ds n = true := by simpa [okN] using o
    exact .lst r (RepL.dp ds n vs o l)
  | .dK _ _, _, v, o, h => by simp [okN] at o
  | .dT _ _, _, v, o, h => by simp [okN] at o
  | .ins _ _, _, v, o, h => by simp [okN] at o
  | .nms xs, 0, v, o, h => by simp [okN] at o
  | .nms xs, n + 1, v, o, h => by
    obtain ⟨a, ob, rfl, _, r, _⟩ := h
    exact .tup (.inl (.inr ⟨ob, r⟩)) (strs_dp _ _ xs)
theorem RepL.dp {M : MS} {H : Hp} : ∀ (ds : List D) (n : Nat) (vs : List V), okL ds n = true → RepL S M H ds vs → DpAll S.K H vs (D.pyL ds)
  | [], _, vs, _, h => by cases h; exact .nil
  | d :: ds, n, vs, o, h => by
    obtain ⟨v, r, rfl, h1, h2⟩ := h
    have o : okN d n = true ∧ okL ds n = true := by simpa [okL] using o
    exact .cons (Rep.dp d n v o.1 h1.top) (RepL.dp ds n r o.2 h2)
end
theorem shaped_of {d : D} (h : okN d 60 = true) : SeqAt.shaped d.py = true := by
  obtain ⟨h1, h2⟩ := okN_py d 60 h
  show (d.py.canLay0 && decide (d.py.depth ≤ 64)) = true
  rw [h1, Bool.true_and]
  exact decide_eq_true (by omega)
def scalB : D → D → Bool
  | .non, .non => true
  | .non, .int _ => true
  | .int _, .non => true
  | .non, .bl _ => true
  | .bl _, .non => true
  | .non, .str _ => true
  | .str _, .non => true
  | .int _, .int _ => true
  | .bl _, .bl _ => true
  | .str _, .str _ => true
  | .int _, .str _ => true
  | .str _, .int _ => true
  | .bl _, .str _ => true
  | .str _, .bl _ => true
  | _, _ => false
def eqB (d e : D) : Bool := PyData.eqv d.py e.py
def eqOk (d e : D) : Bool := scalB d e || (okN d 60 && okN e 60)
def eqD (d e : D) : Option D := if eqOk d e then some (.bl (eqB d e)) else none
def neD (d e : D) : Option D := if eqOk d e then some (.bl (!eqB d e)) else none
theorem scal_run {M : MS} {H : Hp} {d e : D} {x y : V} (hd : RepT S M H d x) (he : RepT S M H e y) (h : scalB d e = true) : scal x y = true ∧ eqB d e = decide (x = y) := by
  unfold scalB at h
  split at h <;> first
    | (cases hd; cases he; refine ⟨rfl, ?_⟩; simp [eqB, D.py, PyData.eqv]; done)
    | (cases hd; cases he; refine ⟨rfl, ?_⟩; simp [eqB, D.py, PyData.eqv, Bool.beq_eq_decide_eq]; done)
    | cases h
theorem op_eqDD (hk : X.K = S.K) (hu : X.A.units + 100 < cLine) : OpS X S (compareOp .Eq) eqD := by
  intro pins s σ H x y v u Q I rx ry h
  obtain ⟨M, d, e, c, hd, he, hg, ht, k⟩ := h
  unfold eqD at hg
  split at hg
  · rename_i ho
    cases hg
    unfold eqOk at ho
    rw [Bool.or_eq_true] at ho
    rcases ho with ho | ho
    · obtain ⟨h1, h2⟩ := scal_run hd he ho
      refine op_eq pins s σ H _ _ v u Q I rx ry ⟨h1, ?_⟩
      rw [← h2]
      exact k _ H .rfl' rfl
    · rw [Bool.and_eq_true] at ho
      refine op_eqD (by omega) pins s σ H _ _ v u Q I rx ry ⟨d.py, e.py, ?_, ?_, shaped_of ho.1, shaped_of ho.2, k _ H .rfl' rfl⟩
      · rw [hk]; exact Rep.dp d 60 x ho.1 hd
      · rw [hk]; exact Rep.dp e 60 y ho.2 he
  · cases hg
theorem op_neDD (hk : X.K = S.K) (hu : X.A.units + 100 < cLine) : OpS X S (compareOp .NotEq) neD := by
  intro pins s σ H x y v u Q I rx ry h
  obtain ⟨M, d, e, c, hd, he, hg, ht, k⟩ := h
  unfold neD at hg
  split at hg
  · rename_i ho
    cases hg
    unfold eqOk at ho
    rw [Bool.or_eq_true] at ho
    rcases ho with ho | ho
    · obtain ⟨h1, h2⟩ := scal_run hd he ho
      refine op_ne pins s σ H _ _ v u Q I rx ry ⟨h1, ?_⟩
      rw [← h2]
      exact k _ H .rfl' rfl
    · rw [Bool.and_eq_true] at ho
      refine op_neD (by omega) pins s σ H _ _ v u Q I rx ry ⟨d.py, e.py, ?_, ?_, shaped_of ho.1, shaped_of ho.2, k _ H .rfl' rfl⟩
      · rw [hk]; exact Rep.dp d 60 x ho.1 hd
      · rw [hk]; exact Rep.dp e 60 y ho.2 he
  · cases hg
def flatD : D → Bool
  | .non => true
  | .bl _ => true
  | .int _ => true
  | .str _ => true
  | _ => false
def keyD? : D → Option Key
  | .int i => some (.inl i)
  | .str x => some (.inr x)
  | _ => none
def keysD? : List D → Option (List Key)
  | [] => some []
  | d :: ds => match keyD? d, keysD? ds with
    | some k, some ks => some (k :: ks)
    | _, _ => none
def keyT? : D → Option (List Key)
  | .tup ds => keysD? ds
  | _ => none
def getK {κ : Type} [DecidableEq κ] : List κ → List D → κ → Option D
  | k :: ks, d :: ds, j => if k = j then some d else getK ks ds j
  | _, _, _ => none
def inB : D → D → Option Bool
  | d, .tup ds => if flatD d && ds.all flatD then some (ds.any fun z => eqB z d) else none
  | d, .lst ds => if flatD d && ds.all flatD then some (ds.any fun z => eqB z d) else none
  | d, .nms xs => if flatD d then some (xs.any fun z => eqB (.str z) d) else none
  | .str x, .str z => if x.length = 1 then some (decide (x.cps[0]! ∈ z.cps.toList)) else none
  | d, .dK ks ds => (keyD? d).map fun k => (getK ks ds k).isSome
  | d, .dT ks ds => (keyT? d).map fun k => (getK ks ds k).isSome
  | _, _ => none
def inD (d e : D) : Option D := (inB d e).map .bl
def notInD (d e : D) : Option D := (inB d e).map fun b => .bl (!b)
theorem flat_v {M : MS} {H : Hp} {d : D} {v : V} (h : RepT S M H d v) (f : flatD d = true) : flatV v = true := by
  cases d with
  | non => cases h; rfl
  | bl b => cases h; rfl
  | int i => cases h; rfl
  | str x => cases h; rfl
  | _ => cases f
theorem eqv_flat {M : MS} {H : Hp} {d e : D} {x y : V} (hd : RepT S M H d x) (he : RepT S M H e y) (fd : flatD d = true) (fe : flatD e = true) : eqV x y = eqB d e := by
  cases d with
  | non => cases hd; cases e with
    | non => cases he; rfl
    | bl b => cases he; rfl
    | int i => cases he; rfl
    | str z => cases he; rfl
    | _ => cases fe
  | bl a => cases hd; cases e with
    | non => cases he; rfl
    | bl b => cases he; rfl
    | int i => cases he; rfl
    | str z => cases he; rfl
    | _ => cases fe
  | int a => cases hd; cases e with
    | non => cases he; rfl
    | bl b => cases he; rfl
    | int i => cases he; rfl
    | str z => cases he; rfl
    | _ => cases fe
  | str a => cases hd; cases e with
    | non => cases he; rfl
    | bl b => cases he; rfl
    | int i => cases he; rfl
    | str z => cases he; rfl
    | _ => cases fe
  | _ => cases fd
theorem any_flat {M : MS} {H : Hp} {d : D} {x : V} (hd : RepT S M H d x) (fd : flatD d = true) : ∀ {ds : List D} {vs : List V}, RepL S M H ds vs → ds.all flatD = true → vs.all flatV = true ∧ inV x vs = ds.any fun z => eqB z d
  | [], _, h, _ => by cases h; exact ⟨rfl, rfl⟩
  | e :: ds, _, h, f => by
    obtain ⟨v, r, rfl, h1, h2⟩ := h
    rw [List.all_cons, Bool.and_eq_true] at f
    obtain ⟨k1, k2⟩ := any_flat hd fd h2 f.2
    refine ⟨by rw [List.all_cons, flat_v h1.top f.1, k1]; rfl, ?_⟩
    show (eqV v x || inV x r) = _
    rw [List.any_cons, k2, eqv_flat h1.top hd f.1 fd]
theorem any_strs {M : MS} {H : Hp} {d : D} {x : V} (hd : RepT S M H d x) (fd : flatD d = true) : ∀ xs : List Str, (xs.map V.str).all flatV = true ∧ inV x (xs.map V.str) = xs.any fun z => eqB (.str z) d
  | [] => ⟨rfl, rfl⟩
  | z :: xs => by
    obtain ⟨k1, k2⟩ := any_strs hd fd xs
    refine ⟨by rw [List.map_cons, List.all_cons, k1]; rfl, ?_⟩
    show (eqV (.str z) x || inV x (xs.map V.str)) = _
    rw [List.any_cons, k2, eqv_flat (S := S) (M := M) (H := H) (d := .str z) (x := .str z) rfl hd rfl fd]
theorem key_v {M : MS} {H : Hp} {d : D} {v : V} {k : Key} (h : RepT S M H d v) (e : keyD? d = some k) : v = kV k := by
  cases d with
  | int i => cases e; cases h; rfl
  | str x => cases e; cases h; rfl
  | _ => cases e
theorem keys_v {M : MS} {H : Hp} : ∀ {ds : List D} {vs : List V} {ks : List Key}, RepL S M H ds vs → keysD? ds = some ks → vs = ks.map kV
  | [], _, _, h, e => by cases h; cases e; rfl
  | d :: ds, _, ks, h, e => by
    obtain ⟨v, r, rfl, h1, h2⟩ := h
    unfold keysD? at e
    split at e
    · rename_i k ks' e1 e2
      cases e
      rw [List.map_cons, key_v h1.top e1, keys_v h2 e2]
    · cases e
theorem keyT_v {M : MS} {H : Hp} {d : D} {v : V} {ks : List Key} (h : RepT S M H d v) (e : keyT? d = some ks) : ∃ a, v = .ref a ∧ H a = some (.tup (ks.map kV)) := by
  cases d with
  | tup ds =>
    obtain ⟨a, vs, rfl, _, r, l⟩ := h
    exact ⟨a, rfl, by rw [← keys_v l e]; exact r⟩
  | _ => cases e
theorem get_v {κ : Type} [DecidableEq κ] {M : MS} {H : Hp} : ∀ {ks : List κ} {ds : List D} {vs : List V} (k : κ), ks.length = vs.length → RepL S M H ds vs →
    (∀ d, getK ks ds k = some d → ∃ v, valV (ks.zip vs) k = some v ∧ Rep S M H d v) ∧ (getK ks ds k = none → valV (ks.zip vs) k = none)
  | [], ds, vs, k, _, _ => ⟨fun d h => (by unfold getK at h; cases h), fun _ => rfl⟩
  | j :: ks, [], vs, k, z, l => by
    cases l; cases z
  | j :: ks, d :: ds, _, k, z, l => by
    obtain ⟨v, r, rfl, h1, h2⟩ := l
    by_cases hj : j = k
    · refine ⟨fun d' h => ?_, fun h => ?_⟩
      · unfold getK at h
        rw [if_pos hj] at h
        cases h
        exact ⟨v, valV_pos hj, h1⟩
      · unfold getK at h
        rw [if_pos hj] at h
        cases h
    · obtain ⟨k1, k2⟩ := get_v (ks := ks) (ds := ds) (vs := r) k (by simpa using z) h2
      refine ⟨fun d' h => ?_, fun h => ?_⟩
      · unfold getK at h
        rw [if_neg hj] at h
        obtain ⟨w, e, q⟩ := k1 d' h
        exact ⟨w, by rw [List.zip_cons_cons, valV_neg (by exact hj)]; exact e, q⟩
      · unfold getK at h
        rw [if_neg hj] at h
        rw [List.zip_cons_cons, valV_neg (by exact hj)]
        exact k2 h
theorem dget_k {M : MS} {H : Hp} {d : D} {y : V} {k : Key} {ks : List Key} {ds : List D} {x : V} (hd : RepT S M H d y) (e : keyD? d = some k) (he : RepT S M H (.dK ks ds) x) :
    ∃ a o, x = .ref a ∧ DGet H a y o ∧ o.isSome = (getK ks ds k).isSome ∧ ∀ d', getK ks ds k = some d' → ∃ v, o = some v ∧ Rep S M H d' v := by
  obtain ⟨a, vs, rfl, r, z, l⟩ := he
  obtain ⟨k1, k2⟩ := get_v k z l
  refine ⟨a, valV (ks.zip vs) k, rfl, .inl ⟨ks.zip vs, k, r, key_v hd e, rfl⟩, ?_, k1⟩
  cases q : getK ks ds k with
  | none => rw [k2 q]; rfl
  | some d' => obtain ⟨v, h1, _⟩ := k1 d' q; rw [h1]; rfl
theorem dget_t {M : MS} {H : Hp} {d : D} {y : V} {k : List Key} {ks : List (List Key)} {ds : List D} {x : V} (hd : RepT S M H d y) (e : keyT? d = some k) (he : RepT S M H (.dT ks ds) x) :
    ∃ a o, x = .ref a ∧ DGet H a y o ∧ o.isSome = (getK ks ds k).isSome ∧ ∀ d', getK ks ds k = some d' → ∃ v, o = some v ∧ Rep S M H d' v := by
  obtain ⟨a, vs, rfl, r, z, l⟩ := he
  obtain ⟨k1, k2⟩ := get_v k z l
  obtain ⟨b, rfl, rb⟩ := keyT_v hd e
  refine ⟨a, valV (ks.zip vs) k, rfl, .inr ⟨ks.zip vs, k, b, r, rfl, rb, rfl⟩, ?_, k1⟩
  cases q : getK ks ds k with
  | none => rw [k2 q]; rfl
  | some d' => obtain ⟨v, h1, _⟩ := k1 d' q; rw [h1]; rfl
end
end En
set_option Elab.async false
set_option linter.all false
set_option maxRecDepth 100000
namespace En
open PySem PySem.Spec PyProof.Rows L2
section
variable {X : Cx} {S : Sg} {M0 : MS} {E : XK}
theorem str_one {x : Str} (h : x.length = 1) : x = ⟨#[x.cps[0]!]⟩ := by
  obtain ⟨a⟩ := x
  have h : a.size = 1 := h
  have : a = #[a[0]!] := by
    apply Array.ext
    · simp [h]
    · intro i h1 h2
      have : i = 0 := by omega
      subst this
      simp [h]
  exact congrArg Str.mk this
theorem in_run {M : MS} {H : Hp} {d e : D} {x y : V} {b : Bool} (hk : X.K = S.K) (hd : RepT S M H d x) (he : RepT S M H e y) (hg : inB d e = some b) :
    (rIn X.K false x y H (fun v H' => v = .bl b ∧ H' = H) ∧ rIn X.K true x y H (fun v H' => v = .bl (!b) ∧ H' = H)) ∨
    (∃ (c : Nat) (z : Str), x = .str ⟨#[c]⟩ ∧ y = .str z ∧ b = decide (c ∈ z.cps.toList)) ∨
    ∃ a o, y = .ref a ∧ DGet H a x o ∧ o.isSome = b := by
  unfold inB at hg
  split at hg
  · split at hg
    · rename_i ds hc
      rw [Bool.and_eq_true] at hc
      cases hg
      obtain ⟨a, vs, rfl, _, r, l⟩ := he.tup
      obtain ⟨k1, k2⟩ := any_flat hd hc.1 l hc.2
      exact .inl ⟨⟨a, vs, rfl, .inr (.of r), flat_v hd hc.1, k1, by rw [k2]; exact ⟨rfl, rfl⟩⟩, ⟨a, vs, rfl, .inr (.of r), flat_v hd hc.1, k1, by rw [k2]; exact ⟨rfl, rfl⟩⟩⟩
    · cases hg
  · split at hg
    · rename_i ds hc
      rw [Bool.and_eq_true] at hc
      cases hg
      obtain ⟨a, vs, rfl, r, l⟩ := he.lst
      obtain ⟨k1, k2⟩ := any_flat hd hc.1 l hc.2
      rw [← hk] at r
      exact .inl ⟨⟨a, vs, rfl, .inl r, flat_v hd hc.1, k1, by rw [k2]; exact ⟨rfl, rfl⟩⟩, ⟨a, vs, rfl, .inl r, flat_v hd hc.1, k1, by rw [k2]; exact ⟨rfl, rfl⟩⟩⟩
    · cases hg
  · split at hg
    · rename_i xs fd
      cases hg
      obtain ⟨a, ob, rfl, _, r, _⟩ := he
      obtain ⟨k1, k2⟩ := any_strs hd fd xs
      have sq : SqT X.K H a (xs.map V.str) := .inl (.inr ⟨ob, r⟩)
      exact .inl ⟨⟨a, _, rfl, .inr sq, flat_v hd fd, k1, by rw [k2]; exact ⟨rfl, rfl⟩⟩, ⟨a, _, rfl, .inr sq, flat_v hd fd, k1, by rw [k2]; exact ⟨rfl, rfl⟩⟩⟩
    · cases hg
  · split at hg
    · rename_i x' z hx
      cases hg; cases hd; cases he
      exact .inr (.inl ⟨x'.cps[0]!, z, by rw [← str_one hx], rfl, rfl⟩)
    · cases hg
  · obtain ⟨k, h1, rfl⟩ := Option.map_eq_some_iff.mp hg
    obtain ⟨a, o, rfl, g, q, _⟩ := dget_k hd h1 he
    exact .inr (.inr ⟨a, o, rfl, g, q⟩)
  · obtain ⟨k, h1, rfl⟩ := Option.map_eq_some_iff.mp hg
    obtain ⟨a, o, rfl, g, q, _⟩ := dget_t hd h1 he
    exact .inr (.inr ⟨a, o, rfl, g, q⟩)
  · cases hg
theorem op_inDD (hk : X.K = S.K) (hu : X.A.units + 100 < cLine) : OpS X S (compareOp .In) inD := by
  intro pins s σ H x y v u Q I rx ry h
  obtain ⟨M, d, e, c, hd, he, hg, ht, k⟩ := h
  obtain ⟨b, hb, rfl⟩ := Option.map_eq_some_iff.mp hg
  have q : Q (.bl b) H := k _ H .rfl' rfl
  rcases in_run hk hd he hb with ⟨h1, _⟩ | ⟨c, z, rfl, rfl, rfl⟩ | ⟨a, o, rfl, g, rfl⟩
  · obtain ⟨p, xs, h2, h3, h4, h5, h6, _⟩ := h1
    refine op_in_seq pins s σ H x y v u Q I rx ry ⟨p, xs, h2, h3, h4, h5, ?_⟩
    rw [h6]; exact q
  · exact op_in_sign pins s σ H _ _ v u Q I rx ry ⟨c, z, rfl, rfl, q⟩
  · cases ry
    exact d_in (by omega) I g rx fun s' I' => ⟨.bl _, H, I', rfl, q⟩
theorem op_notInDD (hk : X.K = S.K) (hu : X.A.units + 100 < cLine) : OpS X S (compareOp .NotIn) notInD := by
  intro pins s σ H x y v u Q I rx ry h
  obtain ⟨M, d, e, c, hd, he, hg, ht, k⟩ := h
  obtain ⟨b, hb, rfl⟩ := Option.map_eq_some_iff.mp hg
  have q : Q (.bl (!b)) H := k _ H .rfl' rfl
  rcases in_run hk hd he hb with ⟨_, h1⟩ | ⟨c, z, rfl, rfl, rfl⟩ | ⟨a, o, rfl, g, rfl⟩
  · obtain ⟨p, xs, h2, h3, h4, h5, h6, _⟩ := h1
    refine op_notIn_seq pins s σ H x y v u Q I rx ry ⟨p, xs, h2, h3, h4, h5, ?_⟩
    rw [h6]; exact q
  · exact op_notIn_sign pins s σ H _ _ v u Q I rx ry ⟨c, z, rfl, rfl, q⟩
  · cases ry
    exact d_notIn (by omega) I g rx fun s' I' => ⟨.bl _, H, I', rfl, q⟩
/-! ### one operand, read -/
def unF (F : Nat → List Str) (g : D → Option D) (f : EF) : EF where
  r := fun env P X => f.r env (fun e env1 => ∃ e', e.settle F = some e' ∧ ∃ d c, e'.rd F env1 = some d ∧ g d = some c ∧ P (.val c) env1) X
  m := fun hp hx h => f.m (fun e env1 ⟨e', q, d, c, h1, h2, h3⟩ => ⟨e', q, d, c, h1, h2, hp _ _ h3⟩) hx h
/-- .. and a new object comes -/
def unNF (F : Nat → List Str) (g : D → Option Ob) (f : EF) : EF where
  r := fun env P X => f.r env (fun e env1 => ∃ e', e.settle F = some e' ∧ ∃ d c, e'.rd F env1 = some d ∧ g d = some c ∧ P (.new c) env1) X
  m := fun hp hx h => f.m (fun e env1 ⟨e', q, d, c, h1, h2, h3⟩ => ⟨e', q, d, c, h1, h2, hp _ _ h3⟩) hx h
theorem un_of {g : D → Option D} {f : EF} {T : V → Hp → VK → Prop}
    (hT : ∀ x H Q, (∃ M d c, RepT S M H d x ∧ g d = some c ∧ (∀ a, M a → ∃ u, H a = some u) ∧ ∀ v H', Grow H H' → Rep S M H' c v → Q v H') → T x H Q)
    {σ : L2.St} {H : Hp} {Q : VK} (h : tE S M0 E (unF S.flds g f) σ H Q) : tE S M0 E f σ H fun x H1 => T x H1 Q := by
  obtain ⟨B, ow, env, s, h⟩ := h
  refine ⟨B, ow, env, s, f.m (fun e1 env1 h1 v H1 ow1 st1 nw1 ok1 => ?_) (fun _ _ h => h) h⟩
  obtain ⟨e', q, d, c, h1, h2, h3⟩ := h1
  have ok1' := ok1.settle q
  have s1 := ok1'.sim (EV.settle_old q)
  exact hT _ _ _ ⟨Md B ow1, d, c, ok1'.rd .refl s1 h1, h2, s1.trkA, fun w H' g r => h3 w H' ow1 (st1.trans (.grow g)) trivial ⟨s1.grow g, r⟩⟩
/-- a new object at a free place is ours to change -/
theorem new_ok {B : MS} {ow : OW} {env : Env'} {σ : L2.St} {H : Hp} {p : Addr} {ho : HO} {o : Ob} (s : Sim S M0 B ow env σ H) (hp : H p = none) (r : ∀ M, (∀ b, M b → Md B ow b ∨ b = p) → ObRep S M (upd H p ho) p o) :
    EVOk S M0 B ow env σ (upd H p ho) (.new o) (.ref p) := by
  have np : ¬ Md B ow p := fun z => by
    obtain ⟨u, hu⟩ := s.trkA p z
    rw [hp] at hu; cases hu
  have g : Grow H (upd H p ho) := .upd hp
  have s' := s.grow g
  have no : some p ∉ ow := fun z => np (.inr z)
  have mv : ∀ a o, ¬ Md B ow a → H a = some o → (upd H p ho) a = some o ∧ ¬ Md (plus B p) ow a := fun a o n e => ⟨g a o e, fun z => by
    rcases z with (z | z) | z
    · exact n (.inl z)
    · subst z; rw [hp] at e; cases e
    · exact n (.inr z)⟩
  refine ⟨p, rfl, np, fun z => np (s.m0 p z), ?_, r _ fun b z => ?_⟩
  · exact {
      l1 := s.l1
      l2 := s.l2
      val := fun i d e => by
        obtain ⟨v, h1, h2⟩ := s.val i d e
        exact ⟨v, h1, Rep.move mv _ _ h2⟩
      own := fun i o e => by
        obtain ⟨a, h1, h2, h3, h4⟩ := s.own i o e
        exact ⟨a, h1, h2, h3.move (g a) mv, h4⟩
      io := fun i o e => by
        obtain ⟨a, h1, h2, h3⟩ := s.io i o e
        exact ⟨a, h1, h2, h3.move (g a) mv⟩
      live := s.live
      inj := s.inj
      dis := fun a z => by
        rcases z with z | z
        · exact s.dis a z
        · subst z; exact no
      trk := fun a z => by
        rcases z with z | z
        · obtain ⟨u, hu⟩ := s.trk a z; exact ⟨u, g a u hu⟩
        · subst z; exact ⟨_, upd_same⟩
      m0 := fun a z => md_plus p a (s.m0 a z) }
  · rcases z with (z | z) | z
    · exact .inl (.inl z)
    · exact .inr z
    · exact .inl (.inr z)
/-- the items of a new object -/
theorem items_new {B : MS} {ow : OW} {env : Env'} {σ : L2.St} {H : Hp} {p : Addr} {ho : HO} {ds : List D} {vs : List V} (s : Sim S M0 B ow env σ H) (hp : H p = none) (l : RepL S (Md B ow) H ds vs) {M : MS} (hM : ∀ b, M b → Md B ow b ∨ b = p) : RepL S M (upd H p ho) ds vs :=
  RepL.move (fun a o n e => ⟨Grow.upd hp a o e, fun z => by
    rcases hM a z with z | z
    · exact n z
    · subst z; rw [hp] at e; cases e⟩) _ _ l
def CallS (X : Cx) (S : Sg) (f : Value) (g : D → Option D) : Prop :=
  CallR X f fun xs H Q => ∃ x M d c, xs = [x] ∧ RepT S M H d x ∧ g d = some c ∧ (∀ a, M a → ∃ u, H a = some u) ∧ ∀ v H', Grow H H' → Rep S M H' c v → Q v H'
variable {a b c e : Expr} {f f2 f3 : EF} {pos p : Pos} {x : Str} {bi T : String} {g : D → Option D}
theorem r_callB1 (hc : CallS X S (.builtin bi) g) (hm : X.mg x = none) (hv : bootBuiltins x = some (.builtin bi)) (ha : PE X e (tE S M0 E f)) (hg : Gl X x := by rfl) (hn : x ≠ "__name__" := by decide) (hdb : (x == ("__debug__" : Str)) = false := by decide)
    (he : starEach [e] X.env = (false, eval e X.env) :: starEach [] X.env := by rfl) (hpl : (backTo pos (starEach [] X.env)).any (·.1) = false := by rfl) : PE X (.Call (.Name x p) [e] [] pos) (tE S M0 E (unF S.flds g f)) :=
  PE.imp (pe_callB hc hg hm hv (pa_cons ha pa_nil he) hn hdb he hpl) fun σ H Q h => by
    refine un_of (T := fun x H Q => ∃ x' M d c, [x] = [x'] ∧ RepT S M H d x' ∧ g d = some c ∧ (∀ a, M a → ∃ u, H a = some u) ∧ ∀ v H', Grow H H' → Rep S M H' c v → Q v H') (fun x H Q ⟨M, d, c, h⟩ => ⟨x, M, d, c, rfl, h⟩) h
theorem r_callT1 (hc : CallS X S (.type T) g) (hm : X.mg x = none) (hv : bootBuiltins x = some (.type T)) (ha : PE X e (tE S M0 E f)) (hg : Gl X x := by rfl) (hn : x ≠ "__name__" := by decide) (hdb : (x == ("__debug__" : Str)) = false := by decide)
    (he : starEach [e] X.env = (false, eval e X.env) :: starEach [] X.env := by rfl) (hpl : (backTo pos (starEach [] X.env)).any (·.1) = false := by rfl) : PE X (.Call (.Name x p) [e] [] pos) (tE S M0 E (unF S.flds g f)) :=
  PE.imp (pe_callTy hc hg hm hv (pa_cons ha pa_nil he) hn hdb he hpl) fun σ H Q h => by
    refine un_of (T := fun x H Q => ∃ x' M d c, [x] = [x'] ∧ RepT S M H d x' ∧ g d = some c ∧ (∀ a, M a → ∃ u, H a = some u) ∧ ∀ v H', Grow H H' → Rep S M H' c v → Q v H') (fun x H Q ⟨M, d, c, h⟩ => ⟨x, M, d, c, rfl, h⟩) h
/-! ### len, int, str, all, any, tuple -/
def lenD : D → Option D
  | .str x => if x.length ≤ sizeLine then some (.int x.length) else none
  | .tup ds => some (.int ds.length)
  | .lst ds => some (.int ds.length)
  | .nms xs => some (.int xs.length)
  | _ => none
theorem c_len (hk : X.K = S.K) : CallS X S (.builtin "len") lenD := by
  intro pins s σ H xs us Q I r h
  obtain ⟨x, M, d, c, rfl, hd, hg, ht, k⟩ := h
  refine call_len pins s σ H _ us Q I r ?_
  unfold lenD at hg
  split at hg
  · split at hg
    · rename_i z
      cases hg; cases hd
      exact ⟨_, _, rfl, ⟨z, rfl⟩, k _ H .rfl' rfl⟩
    · cases hg
  · cases hg
    obtain ⟨a, vs, rfl, _, ra, l⟩ := hd.tup
    exact ⟨_, _, rfl, .inr ⟨vs, .of ra, rfl⟩, k _ H .rfl' (by rw [l.len]; rfl)⟩
  · cases hg
    obtain ⟨a, vs, rfl, ra, l⟩ := hd.lst
    rw [← hk] at ra
    exact ⟨_, _, rfl, .inl ⟨vs, ra, rfl⟩, k _ H .rfl' (by rw [l.len]; rfl)⟩
  · cases hg
    obtain ⟨a, ob, rfl, _, r, _⟩ := hd
    exact ⟨_, _, rfl, .inr ⟨_, .inl (.inr ⟨ob, r⟩), rfl⟩, k _ H .rfl' (by rw [List.length_map]; rfl)⟩
  · cases hg
def intOfD : D → Option D
  | .int i => some (.int i)
  | .bl b => some (.int (if b then 1 else 0))
  | _ => none
theorem c_int : CallS X S (.type "int") intOfD := by
  intro pins s σ H xs us Q I r h
  obtain ⟨x, M, d, c, rfl, hd, hg, ht, k⟩ := h
  refine call_int1 pins s σ H _ us Q I r ?_
  unfold intOfD at hg
  split at hg
  · cases hg; cases hd
    exact .inl ⟨_, rfl, k _ H .rfl' rfl⟩
  · cases hg; cases hd
    exact .inr ⟨_, rfl, k _ H .rfl' rfl⟩
  · cases hg
def strOfD : D → Option D
  | .int i => if i.natAbs.log2 < 1920 then some (.str (toString i)) else none
  | _ => none
theorem c_str : CallS X S (.type "str") strOfD := by
  intro pins s σ H xs us Q I r h
  obtain ⟨x, M, d, c, rfl, hd, hg, ht, k⟩ := h
  unfold strOfD at hg
  split at hg
  · split at hg
    · rename_i z
      cases hg; cases hd
      exact call_str_int pins s σ H _ us Q I r ⟨_, rfl, z, k _ H .rfl' rfl⟩
    · cases hg
  · cases hg
def blsD? : List D → Option (List Bool)
  | [] => some []
  | .bl b :: ds => (blsD? ds).map (b :: ·)
  | _ => none
def allD : D → Option D
  | .lst ds => (blsD? ds).map fun bs => .bl (bs.all id)
  | _ => none
def anyD : D → Option D
  | .lst ds => (blsD? ds).map fun bs => .bl (bs.any id)
  | _ => none
theorem bls_v {M : MS} {H : Hp} : ∀ {ds : List D} {vs : List V} {bs : List Bool}, RepL S M H ds vs → blsD? ds = some bs → vs = bs.map V.bl
  | [], _, _, h, e => by cases h; cases e; rfl
  | .bl b :: ds, _, bs, h, e => by
    obtain ⟨v, r, rfl, h1, h2⟩ := h
    obtain ⟨bs', e1, rfl⟩ := Option.map_eq_some_iff.mp (show (blsD? ds).map (b :: ·) = some bs from e)
    cases h1
    rw [bls_v h2 e1]; rfl
  | .non :: _, _, _, _, e => by cases e
  | .int _ :: _, _, _, _, e => by cases e
  | .str _ :: _, _, _, _, e => by cases e
  | .tup _ :: _, _, _, _, e => by cases e
  | .lst _ :: _, _, _, _, e => by cases e
  | .dK _ _ :: _, _, _, _, e => by cases e
  | .dT _ _ :: _, _, _, _, e => by cases e
  | .ins _ _ :: _, _, _, _, e => by cases e
  | .nms _ :: _, _, _, _, e => by cases e
theorem c_all (hk : X.K = S.K) (hc : X.calm = true) : CallS X S (.builtin "all") allD := by
  intro pins s σ H xs us Q I r h
  obtain ⟨x, M, d, c, rfl, hd, hg, ht, k⟩ := h
  unfold allD at hg
  split at hg
  · obtain ⟨bs, e1, rfl⟩ := Option.map_eq_some_iff.mp hg
    obtain ⟨a, vs, rfl, ra, l⟩ := hd.lst
    rw [← hk, bls_v l e1] at ra
    exact cr_all hc pins s σ H _ us Q I r ⟨a, bs, rfl, ra, k _ H .rfl' rfl⟩
  · cases hg
theorem c_any (hk : X.K = S.K) (hc : X.calm = true) : CallS X S (.builtin "any") anyD := by
  intro pins s σ H xs us Q I r h
  obtain ⟨x, M, d, c, rfl, hd, hg, ht, k⟩ := h
  unfold anyD at hg
  split at hg
  · obtain ⟨bs, e1, rfl⟩ := Option.map_eq_some_iff.mp hg
    obtain ⟨a, vs, rfl, ra, l⟩ := hd.lst
    rw [← hk, bls_v l e1] at ra
    exact cr_any hc pins s σ H _ us Q I r ⟨a, bs, rfl, ra, k _ H .rfl' rfl⟩
  · cases hg
def tupOfD : D → Option D
  | .lst ds => some (.tup ds)
  | .tup ds => some (.tup ds)
  | .nms xs => some (.nms xs)
  | _ => none
theorem c_tup (hk : X.K = S.K) : CallS X S (.type "tuple") tupOfD := by
  intro pins s σ H xs us Q I r h
  obtain ⟨x, M, d, c, rfl, hd, hg, ht, k⟩ := h
  refine call_tuple_of pins s σ H _ us Q I r ?_
  unfold tupOfD at hg
  split at hg
  · cases hg
    obtain ⟨a, vs, rfl, ra, l⟩ := hd.lst
    rw [← hk] at ra
    refine ⟨a, vs, rfl, .inl ⟨ra, fun p hp => ?_⟩⟩
    refine k _ _ (.upd hp) ⟨p, vs, rfl, fun z => ?_, upd_same, l.grow (.upd hp)⟩
    obtain ⟨u, hu⟩ := ht p z
    rw [hp] at hu; cases hu
  · cases hg
    obtain ⟨a, vs, rfl, na, ra, l⟩ := hd.tup
    exact ⟨a, vs, rfl, .inr ⟨.of ra, k _ H .rfl' ⟨a, vs, rfl, na, ra, l⟩⟩⟩
  · cases hg
    obtain ⟨a, ob, rfl, na, r, z⟩ := hd
    exact ⟨a, _, rfl, .inr ⟨.inl (.inr ⟨ob, r⟩), k _ H .rfl' ⟨a, ob, rfl, na, r, z⟩⟩⟩
  · cases hg
/-- list(x): a new one -/
def lstOfD : D → Option Ob
  | .lst ds => some (.lst ds)
  | .tup ds => some (.lst ds)
  | .nms xs => some (.lst (xs.map .str))
  | _ => none
theorem strs_rep {M : MS} {H : Hp} : ∀ xs : List Str, RepL S M H (xs.map D.str) (xs.map V.str)
  | [] => rfl
  | x :: xs => ⟨_, _, rfl, rfl, strs_rep xs⟩
theorem r_list (hk : X.K = S.K) (hm : X.mg "list" = none) (ha : PE X e (tE S M0 E f)) (hg : Gl X "list" := by rfl)
    (he : starEach [e] X.env = (false, eval e X.env) :: starEach [] X.env := by rfl) (hpl : (backTo pos (starEach [] X.env)).any (·.1) = false := by rfl) : PE X (.Call (.Name "list" p) [e] [] pos) (tE S M0 E (unNF S.flds lstOfD f)) :=
  PE.imp (pe_callTy call_list_of hg hm PyProof.Rows.boot_list (pa_cons ha pa_nil he) (by decide) (by decide) he hpl) fun σ H Q h => by
    obtain ⟨B, ow, env, s, h⟩ := h
    refine ⟨B, ow, env, s, f.m (fun e1 env1 h1 v H1 ow1 st1 nw1 ok1 => ?_) (fun _ _ h => h) h⟩
    obtain ⟨e', q, d, c, h1, h2, h3⟩ := h1
    have ok1' := ok1.settle q
    have s1 := ok1'.sim (EV.settle_old q)
    have r := ok1'.rd .refl s1 h1
    have fin : ∀ ds vs, c = .lst ds → RepL S (Md B ow1) H1 ds vs → ∀ l, H1 l = none → Q (.ref l) (upd H1 l (.lst vs)) := fun ds vs ec l p hp => by
      subst ec
      exact h3 _ _ ow1 (st1.trans (.grow (.upd hp))) (.at (st1.fresh hp)) (new_ok s1 hp fun M hM => ⟨vs, upd_same, items_new s1 hp l hM⟩)
    unfold lstOfD at h2
    split at h2
    · cases h2
      obtain ⟨a, vs, rfl, ra, l⟩ := r.lst
      rw [← hk] at ra
      exact ⟨a, vs, rfl, .inl ra, fin _ _ rfl l⟩
    · cases h2
      obtain ⟨a, vs, rfl, na, ra, l⟩ := r.tup
      exact ⟨a, vs, rfl, .inr (.of ra), fin _ _ rfl l⟩
    · cases h2
      obtain ⟨a, ob, rfl, na, ra, z⟩ := r
      exact ⟨a, _, rfl, .inr (.inl (.inr ⟨ob, ra⟩)), fin _ _ rfl (strs_rep _)⟩
    · cases h2
/-- -x -/
def negD : D → Option D
  | .int i => some (.int (-i))
  | _ => none
theorem r_neg (ha : PE X a (tE S M0 E f)) : PE X (.UnaryOp .USub a pos) (tE S M0 E (unF S.flds negD f)) :=
  PE.imp (pe_un un_neg ha) fun σ H Q h => un_of (T := rU fun i => .int (-i)) (fun x H Q ⟨M, d, c, hd, hg, ht, k⟩ => by
    unfold negD at hg
    split at hg
    · cases hg; cases hd
      exact ⟨_, rfl, k _ H .rfl' rfl⟩
    · cases hg) h
/-! ### subscripts -/
def ixD : D → D → Option D
  | .lst ds, .int i => atI ds i
  | .tup ds, .int i => atI ds i
  | .nms xs, .int i => (atI xs i).map .str
  | .str z, .int i => if z.length ≤ sizeLine then (atI z.cps.toList i).map fun c => .str ⟨#[c]⟩ else none
  | _, _ => none
theorem at_v {M : MS} {H : Hp} {ds : List D} {vs : List V} {i : Int} {d : D} (l : RepL S M H ds vs) (h : atI ds i = some d) : ∃ v, atI vs i = some v ∧ Rep S M H d v := by
  unfold atI at h ⊢
  rw [← l.len]
  cases q : ixN ds.length i with
  | none => rw [q] at h; cases h
  | some j =>
    rw [q] at h
    exact l.get h
theorem r_ix (hk : X.K = S.K) (ha : PE X a (tE S M0 E f)) (hb : PE X b (tE S M0 E f2)) (hs : PlainIx b := by intro _ _; rfl) : PE X (.Subscript a b pos) (tE S M0 E (binF S.flds ixD f f2)) :=
  PE.imp (pe_ix ix_seq ha hb hs) fun σ H Q h => bin_of (fun x y H Q ⟨M, d, e, c, hd, he, hg, ht, k⟩ => by
    unfold ixD at hg
    split at hg
    · obtain ⟨a, vs, rfl, ra, l⟩ := hd.lst
      cases he
      rw [← hk] at ra
      obtain ⟨v, e1, e2⟩ := at_v l hg
      exact .inl ⟨a, vs, _, v, rfl, rfl, ra, e1, k _ H .rfl' e2⟩
    · obtain ⟨a, vs, rfl, na, ra, l⟩ := hd.tup
      cases he
      obtain ⟨v, e1, e2⟩ := at_v l hg
      exact .inr (.inl ⟨a, vs, _, v, rfl, rfl, .of ra, e1, k _ H .rfl' e2⟩)
    · obtain ⟨x', e1, rfl⟩ := Option.map_eq_some_iff.mp hg
      obtain ⟨a, ob, rfl, na, ra, z⟩ := hd
      cases he
      refine .inr (.inl ⟨a, _, _, .str x', rfl, rfl, .inl (.inr ⟨ob, ra⟩), ?_, k _ H .rfl' rfl⟩)
      unfold atI at e1 ⊢
      rw [List.length_map]
      obtain ⟨j, h1, h2⟩ := Option.bind_eq_some_iff.mp e1
      rw [h1]
      show (List.map V.str _)[j]? = _
      rw [List.getElem?_map, h2]; rfl
    · split at hg
      · rename_i z
        obtain ⟨c', e1, rfl⟩ := Option.map_eq_some_iff.mp hg
        cases hd; cases he
        exact .inr (.inr ⟨_, _, c', rfl, rfl, z, e1, k _ H .rfl' rfl⟩)
      · cases hg
    · cases hg) h
/-- d[k] -/
def dgetD : D → D → Option D
  | .dK ks ds, k => (keyD? k).bind fun k => getK ks ds k
  | .dT ks ds, k => (keyT? k).bind fun k => getK ks ds k
  | _, _ => none
theorem r_dget (hu : X.A.units + 100 < cLine) (ha : PE X a (tE S M0 E f)) (hb : PE X b (tE S M0 E f2)) (hs : NoSl b := by intro _ _; rfl) : PE X (.Subscript a b pos) (tE S M0 E (binF S.flds dgetD f f2)) :=
  PE.imp (pe_dget (by omega) ha hb hs) fun σ H Q h => bin_of (R := fun x y H2 Q => ∃ a v, x = .ref a ∧ DGet H2 a y (some v) ∧ Q v H2) (fun x y H Q ⟨M, d, e, c, hd, he, hg, ht, k⟩ => by
    unfold dgetD at hg
    split at hg
    · obtain ⟨ky, h1, h2⟩ := Option.bind_eq_some_iff.mp hg
      obtain ⟨a, o, rfl, g, _, q⟩ := dget_k he h1 hd
      obtain ⟨v, rfl, r⟩ := q _ h2
      exact ⟨a, v, rfl, g, k _ H .rfl' r⟩
    · obtain ⟨ky, h1, h2⟩ := Option.bind_eq_some_iff.mp hg
      obtain ⟨a, o, rfl, g, _, q⟩ := dget_t he h1 hd
      obtain ⟨v, rfl, r⟩ := q _ h2
      exact ⟨a, v, rfl, g, k _ H .rfl' r⟩
    · cases hg) h
end
end En
set_option Elab.async false
set_option linter.all false
set_option maxRecDepth 100000
namespace En
open PySem PySem.Spec PyProof.Rows L2
section
variable {X : Cx} {S : Sg} {M0 : MS} {E : XK}
variable {a b c e : Expr} {es : List Expr} {f f2 f3 : EF} {pos p : Pos} {x : Str} {bi T : String} {l : LF}
/-! ### argument lists, displays -/
def nilL : LF where
  r := fun env P _ => P [] env
  m := fun hp _ h => hp _ _ h
def consL (F : Nat → List Str) (f : EF) (l : LF) : LF where
  r := fun env P X => f.r env (fun e env1 => ∃ d, e.keep F = some d ∧ l.r env1 (fun ds env2 => P (d :: ds) env2) X) X
  m := fun hp hx h => f.m (fun e env1 ⟨d, h1, h2⟩ => ⟨d, h1, l.m (fun ds env2 h => hp _ _ h) hx h2⟩) hx h
theorem r_pnil : PA X [] (tL S M0 E nilL) := PA.imp pa_nil fun σ H Q h => by
  obtain ⟨B, ow, env, s, h⟩ := h
  exact h [] H ow .refl s rfl
theorem r_pcons (ha : PE X e (tE S M0 E f)) (hr : PA X es (tL S M0 E l)) (hs : starEach (e :: es) X.env = (false, eval e X.env) :: starEach es X.env := by rfl) : PA X (e :: es) (tL S M0 E (consL S.flds f l)) :=
  PA.imp (pa_cons ha hr hs) fun σ H Q h => by
    obtain ⟨B, ow, env, s, h⟩ := h
    refine ⟨B, ow, env, s, f.m (fun e1 env1 h1 v H1 ow1 st1 nw1 ok1 => ?_) (fun _ _ h => h) h⟩
    obtain ⟨d, q, h1⟩ := h1
    obtain ⟨s1, r1⟩ := ok1.keep q
    refine ⟨B, ow1, env1, s1, l.m (fun ds env2 h2 vs H2 ow2 st2 s2 r2 => ?_) (fun _ _ h => h.stp st1) h1⟩
    exact h2 _ H2 ow2 (st1.trans st2) s2 ⟨v, vs, rfl, Rep.stp st2 r1, r2⟩
def tupF (l : LF) : EF where
  r := fun env P X => l.r env (fun ds env1 => ds.length ≤ 100 ∧ P (.val (.tup ds)) env1) X
  m := fun hp hx h => l.m (fun ds env1 h => ⟨h.1, hp _ _ h.2⟩) hx h
def lstF (l : LF) : EF where
  r := fun env P X => l.r env (fun ds env1 => ds.length ≤ 100 ∧ P (.new (.lst ds)) env1) X
  m := fun hp hx h => l.m (fun ds env1 h => ⟨h.1, hp _ _ h.2⟩) hx h
theorem line100 {n : Nat} (h : n ≤ 100) : n ≤ sizeLine := by rw [sizeLine_eq]; omega
theorem fresh_nm {M : MS} {H : Hp} {p : Addr} (t : ∀ a, M a → ∃ u, H a = some u) (hp : H p = none) : ¬ M p := fun z => by
  obtain ⟨u, hu⟩ := t p z
  rw [hp] at hu; cases hu
theorem r_tup {k : Nat} (h : PA X es (tL S M0 E l)) : PE X (.Tuple es k pos) (tE S M0 E (tupF l)) :=
  PE.imp (pe_tup h) fun σ H Q h => by
    obtain ⟨B, ow, env, s, h⟩ := h
    refine ⟨B, ow, env, s, l.m (fun ds env1 h1 vs H1 ow1 st1 s1 r1 => ?_) (fun _ _ h => h) h⟩
    refine ⟨by rw [← r1.len]; exact line100 h1.1, fun p hp => ?_⟩
    exact h1.2 _ _ ow1 (st1.trans (.grow (.upd hp))) trivial ⟨s1.grow (.upd hp), p, vs, rfl, fresh_nm s1.trkA hp, upd_same, r1.grow (.upd hp)⟩
theorem r_lst (h : PA X es (tL S M0 E l)) : PE X (.List es pos) (tE S M0 E (lstF l)) :=
  PE.imp (pe_lst h) fun σ H Q h => by
    obtain ⟨B, ow, env, s, h⟩ := h
    refine ⟨B, ow, env, s, l.m (fun ds env1 h1 vs H1 ow1 st1 s1 r1 => ?_) (fun _ _ h => h) h⟩
    refine ⟨by rw [← r1.len]; exact line100 h1.1, fun p hp => ?_⟩
    exact h1.2 _ _ ow1 (st1.trans (.grow (.upd hp))) (.at (st1.fresh hp)) (new_ok s1 hp fun M hM => ⟨vs, upd_same, items_new s1 hp r1 hM⟩)
/-- {} with int and text keys, with tuples as keys -/
def dnewK : EF where
  r := fun env P _ => P (.new (.dK [] [])) env
  m := fun hp _ h => hp _ _ h
def dnewT : EF where
  r := fun env P _ => P (.new (.dT [] [])) env
  m := fun hp _ h => hp _ _ h
theorem r_dnewK : PE X (.Dict [] [] pos) (tE S M0 E dnewK) := PE.imp pe_dnewK fun σ H Q h p hp => by
  obtain ⟨B, ow, env, s, h⟩ := h
  exact h _ _ ow (.grow (.upd hp)) (.at hp) (new_ok s hp fun M hM => ⟨[], upd_same, rfl, rfl⟩)
theorem r_dnewT : PE X (.Dict [] [] pos) (tE S M0 E dnewT) := PE.imp pe_dnewT fun σ H Q h p hp => by
  obtain ⟨B, ow, env, s, h⟩ := h
  exact h _ _ ow (.grow (.upd hp)) (.at hp) (new_ok s hp fun M hM => ⟨[], upd_same, rfl, rfl⟩)
/-! ### tests -/
def truD : D → Option Bool
  | .non => some false
  | .bl b => some b
  | .int i => some (i != 0)
  | .str x => if x.length ≤ sizeLine then some ((x.length : Int) != 0) else none
  | .tup ds => some (!ds.isEmpty)
  | .lst ds => some (!ds.isEmpty)
  | .nms xs => some (!xs.isEmpty)
  | _ => none
def truF (F : Nat → List Str) (f : EF) : TF where
  r := fun env P X => f.r env (fun e env1 => ∃ e', e.settle F = some e' ∧ ∃ d b, e'.rd F env1 = some d ∧ truD d = some b ∧ P b env1) X
  m := fun hp hx h => f.m (fun e env1 ⟨e', q, d, c, h1, h2, h3⟩ => ⟨e', q, d, c, h1, h2, hp _ _ h3⟩) hx h
theorem tru_v {M : MS} {H : Hp} {d : D} {v : V} {k : Bool} (hk : X.K = S.K) (h : RepT S M H d v) (e : truD d = some k) : TruV X.K v H k := by
  unfold truD at e
  split at e
  · cases e; cases h; rfl
  · cases e; cases h; rfl
  · cases e; cases h; rfl
  · split at e
    · rename_i z
      cases e; cases h; exact ⟨z, rfl⟩
    · cases e
  · cases e
    obtain ⟨a, vs, rfl, _, r, l⟩ := h.tup
    refine .inr (.inl ⟨vs, .of r, ?_⟩)
    have := l.len
    rename_i ds _
    cases ds <;> cases vs <;> first | rfl | (simp at this)
  · cases e
    obtain ⟨a, vs, rfl, r, l⟩ := h.lst
    rw [← hk] at r
    refine .inl ⟨vs, r, ?_⟩
    have := l.len
    rename_i ds
    cases ds <;> cases vs <;> first | rfl | (simp at this)
  · cases e
    obtain ⟨a, ob, rfl, na, ra, z⟩ := h
    rename_i xs
    refine .inr (.inl ⟨_, .inl (.inr ⟨ob, ra⟩), ?_⟩)
    cases xs <;> rfl
  · cases e
theorem t_val (hk : X.K = S.K) (ha : PE X a (tE S M0 E f)) (he : ∀ whole, isTrue a X.env whole = (do let v ← whole; standAt a.pos; holding [v] (truthy v)) := by intro _; rfl) : PT X a (tT S M0 E (truF S.flds f)) :=
  PT.imp (pt_truth ha he) fun σ H Q h => by
    obtain ⟨B, ow, env, s, h⟩ := h
    refine ⟨B, ow, env, s, f.m (fun e1 env1 h1 v H1 ow1 st1 nw1 ok1 => ?_) (fun _ _ h => h) h⟩
    obtain ⟨e', q, d, k, k1, k2, k3⟩ := h1
    have ok1' := ok1.settle q
    have s1 := ok1'.sim (EV.settle_old q)
    exact ⟨k, tru_v hk (ok1'.rd .refl s1 k1) k2, k3 H1 ow1 st1 s1⟩
/-- a bool's value as a test -/
def blF (F : Nat → List Str) (f : EF) : TF where
  r := fun env P X => f.r env (fun e env1 => ∃ b, e = .val (.bl b) ∧ P b env1) X
  m := fun hp hx h => f.m (fun e env1 ⟨b, q, h⟩ => ⟨b, q, hp _ _ h⟩) hx h
theorem bl_of {f : EF} {F : Nat → List Str} {σ : L2.St} {H : Hp} {Q : Bool → Hp → Prop} (h : tT S M0 E (blF F f) σ H Q) : tE S M0 E f σ H fun x H1 => ∃ k, x = .bl k ∧ Q k H1 := by
  obtain ⟨B, ow, env, s, h⟩ := h
  refine ⟨B, ow, env, s, f.m (fun e1 env1 h1 v H1 ow1 st1 nw1 ok1 => ?_) (fun _ _ h => h) h⟩
  obtain ⟨k, rfl, h2⟩ := h1
  obtain ⟨s1, r⟩ := ok1
  cases r
  exact ⟨k, rfl, h2 H1 ow1 st1 s1⟩
theorem t_bl (ha : PE X a (tE S M0 E f)) (he : ∀ whole, isTrue a X.env whole = (do let v ← whole; standAt a.pos; holding [v] (truthy v)) := by intro _; rfl) : PT X a (tT S M0 E (blF S.flds f)) :=
  PT.imp (pt_val ha he) fun σ H Q h => bl_of h
theorem t_cmp {op : CmpOp} {g : D → D → Option D} (ho : OpS X S (compareOp op) g) (ha : PE X a (tE S M0 E f)) (hb : PE X b (tE S M0 E f2)) (hm : behindInMarks op b = false := by first | exact nomark _ | rfl) : PT X (.Compare a [op] [b] pos) (tT S M0 E (blF S.flds (binF S.flds g f f2))) :=
  PT.imp (pt_cmpR ho ha hb hm) fun σ H Q h => by
    have h2 := bl_of h
    exact bin_of (fun _ _ _ _ z => z) h2
variable {t t2 : TF} {rest : List Expr}
def notT (t : TF) : TF where
  r := fun env P X => t.r env (fun b env1 => P (!b) env1) X
  m := fun hp hx h => t.m (fun b env1 h => hp _ _ h) hx h
theorem t_not (ha : PT X a (tT S M0 E t)) : PT X (.UnaryOp .Not a pos) (tT S M0 E (notT t)) :=
  PT.imp (pt_not ha) fun σ H Q h => by
    obtain ⟨B, ow, env, s, h⟩ := h
    exact ⟨B, ow, env, s, h⟩
def andT (t u : TF) : TF where
  r := fun env P X => t.r env (fun b env1 => if b = true then u.r env1 P X else P false env1) X
  m := fun hp hx h => t.m (fun b env1 h => by
    split at h
    · rename_i z; rw [if_pos z]; exact u.m hp hx h
    · rename_i z; rw [if_neg z]; exact hp _ _ h) hx h
def orT (t u : TF) : TF where
  r := fun env P X => t.r env (fun b env1 => if b = true then P true env1 else u.r env1 P X) X
  m := fun hp hx h => t.m (fun b env1 h => by
    split at h
    · rename_i z; rw [if_pos z]; exact hp _ _ h
    · rename_i z; rw [if_neg z]; exact u.m hp hx h) hx h
theorem PW.imp {X : Cx} {e : Expr} {t t' : TT} (h : PW X e t) (k : ∀ σ H Q, t' σ H Q → t σ H Q) : PW X e t' := ⟨fun w p s σ H Q I q => h.run w p s σ H Q I (k σ H Q q)⟩
theorem w_and1 (ha : PT X a (tT S M0 E t)) : PW X (.BoolOp .And [a] pos) (tT S M0 E t) := pw_and1 ha
theorem w_or1 (ha : PT X a (tT S M0 E t)) : PW X (.BoolOp .Or [a] pos) (tT S M0 E t) := pw_or1 ha
theorem w_and (ha : PT X a (tT S M0 E t)) (hb : PW X (.BoolOp .And (b :: rest) pos) (tT S M0 E t2)) : PW X (.BoolOp .And (a :: b :: rest) pos) (tT S M0 E (andT t t2)) :=
  PW.imp (pw_and ha hb) fun σ H Q h => by
    obtain ⟨B, ow, env, s, h⟩ := h
    refine ⟨B, ow, env, s, t.m (fun k env1 h1 H1 ow1 st1 s1 => ?_) (fun _ _ h => h) h⟩
    cases k with
    | true =>
      rw [if_pos rfl] at h1 ⊢
      exact ⟨B, ow1, env1, s1, t2.m (fun k env2 h2 H2 ow2 st2 s2 => h2 H2 ow2 (st1.trans st2) s2) (fun _ _ h => h.stp st1) h1⟩
    | false =>
      rw [if_neg Bool.false_ne_true] at h1 ⊢
      exact h1 H1 ow1 st1 s1
theorem w_or (ha : PT X a (tT S M0 E t)) (hb : PW X (.BoolOp .Or (b :: rest) pos) (tT S M0 E t2)) : PW X (.BoolOp .Or (a :: b :: rest) pos) (tT S M0 E (orT t t2)) :=
  PW.imp (pw_or ha hb) fun σ H Q h => by
    obtain ⟨B, ow, env, s, h⟩ := h
    refine ⟨B, ow, env, s, t.m (fun k env1 h1 H1 ow1 st1 s1 => ?_) (fun _ _ h => h) h⟩
    cases k with
    | false =>
      rw [if_neg Bool.false_ne_true] at h1 ⊢
      exact ⟨B, ow1, env1, s1, t2.m (fun k env2 h2 H2 ow2 st2 s2 => h2 H2 ow2 (st1.trans st2) s2) (fun _ _ h => h.stp st1) h1⟩
    | true =>
      rw [if_pos rfl] at h1 ⊢
      exact h1 H1 ow1 st1 s1
/-- and, or, not as values: bools ahead -/
def andF (f g : EF) : EF where
  r := fun env P X => f.r env (fun e env1 => ∃ b, e = .val (.bl b) ∧ if b = true then g.r env1 P X else P (.val (.bl false)) env1) X
  m := fun hp hx h => f.m (fun e env1 ⟨b, q, h⟩ => ⟨b, q, by
    split at h
    · rename_i z; rw [if_pos z]; exact g.m hp hx h
    · rename_i z; rw [if_neg z]; exact hp _ _ h⟩) hx h
def orF (f g : EF) : EF where
  r := fun env P X => f.r env (fun e env1 => ∃ b, e = .val (.bl b) ∧ if b = true then P (.val (.bl true)) env1 else g.r env1 P X) X
  m := fun hp hx h => f.m (fun e env1 ⟨b, q, h⟩ => ⟨b, q, by
    split at h
    · rename_i z; rw [if_pos z]; exact hp _ _ h
    · rename_i z; rw [if_neg z]; exact g.m hp hx h⟩) hx h
def notF (f : EF) : EF where
  r := fun env P X => f.r env (fun e env1 => ∃ b, e = .val (.bl b) ∧ P (.val (.bl (!b))) env1) X
  m := fun hp hx h => f.m (fun e env1 ⟨b, q, h⟩ => ⟨b, q, hp _ _ h⟩) hx h
theorem r_one {op} (h : PE X a (tE S M0 E f)) : PE X (.BoolOp op [a] pos) (tE S M0 E f) := pe_one h
theorem r_and (ha : PE X a (tE S M0 E f)) (hb : PE X (.BoolOp .And (b :: rest) pos) (tE S M0 E f2)) : PE X (.BoolOp .And (a :: b :: rest) pos) (tE S M0 E (andF f f2)) :=
  PE.imp (pe_and ha hb) fun σ H Q h => by
    obtain ⟨B, ow, env, s, h⟩ := h
    refine ⟨B, ow, env, s, f.m (fun e1 env1 h1 v H1 ow1 st1 nw1 ok1 => ?_) (fun _ _ h => h) h⟩
    obtain ⟨k, rfl, h1⟩ := h1
    obtain ⟨s1, r1⟩ := ok1
    cases r1
    refine ⟨k, rfl, ?_⟩
    cases k with
    | true =>
      rw [if_pos rfl] at h1 ⊢
      exact ⟨B, ow1, env1, s1, f2.m (fun k env2 h2 v2 H2 ow2 st2 n2 s2 => h2 v2 H2 ow2 (st1.trans st2) (n2.back st1) s2) (fun _ _ h => h.stp st1) h1⟩
    | false =>
      rw [if_neg Bool.false_ne_true] at h1 ⊢
      exact h1 _ H1 ow1 st1 trivial ⟨s1, rfl⟩
theorem r_or (ha : PE X a (tE S M0 E f)) (hb : PE X (.BoolOp .Or (b :: rest) pos) (tE S M0 E f2)) : PE X (.BoolOp .Or (a :: b :: rest) pos) (tE S M0 E (orF f f2)) :=
  PE.imp (pe_or ha hb) fun σ H Q h => by
    obtain ⟨B, ow, env, s, h⟩ := h
    refine ⟨B, ow, env, s, f.m (fun e1 env1 h1 v H1 ow1 st1 nw1 ok1 => ?_) (fun _ _ h => h) h⟩
    obtain ⟨k, rfl, h1⟩ := h1
    obtain ⟨s1, r1⟩ := ok1
    cases r1
    refine ⟨k, rfl, ?_⟩
    cases k with
    | false =>
      rw [if_neg Bool.false_ne_true] at h1 ⊢
      exact ⟨B, ow1, env1, s1, f2.m (fun k env2 h2 v2 H2 ow2 st2 n2 s2 => h2 v2 H2 ow2 (st1.trans st2) (n2.back st1) s2) (fun _ _ h => h.stp st1) h1⟩
    | true =>
      rw [if_pos rfl] at h1 ⊢
      exact h1 _ H1 ow1 st1 trivial ⟨s1, rfl⟩
theorem r_not (ha : PE X a (tE S M0 E f)) : PE X (.UnaryOp .Not a pos) (tE S M0 E (notF f)) :=
  PE.imp (pe_not ha) fun σ H Q h => by
    obtain ⟨B, ow, env, s, h⟩ := h
    refine ⟨B, ow, env, s, f.m (fun e1 env1 h1 v H1 ow1 st1 nw1 ok1 => ?_) (fun _ _ h => h) h⟩
    obtain ⟨k, rfl, h1⟩ := h1
    obtain ⟨s1, r1⟩ := ok1
    cases r1
    exact ⟨k, rfl, h1 _ H1 ow1 st1 trivial ⟨s1, rfl⟩⟩
def iteF' (t : TF) (f g : EF) : EF where
  r := fun env P X => t.r env (fun b env1 => if b = true then f.r env1 P X else g.r env1 P X) X
  m := fun hp hx h => t.m (fun b env1 h => by
    split at h
    · rename_i z; rw [if_pos z]; exact f.m hp hx h
    · rename_i z; rw [if_neg z]; exact g.m hp hx h) hx h
theorem r_ite (hc : PT X c (tT S M0 E t)) (ha : PE X a (tE S M0 E f)) (hb : PE X b (tE S M0 E f2)) : PE X (.IfExp c a b pos) (tE S M0 E (iteF' t f f2)) :=
  PE.imp (pe_ifExp hc ha hb) fun σ H Q h => by
    obtain ⟨B, ow, env, s, h⟩ := h
    refine ⟨B, ow, env, s, t.m (fun k env1 h1 H1 ow1 st1 s1 => ?_) (fun _ _ h => h) h⟩
    cases k with
    | true =>
      rw [if_pos rfl] at h1 ⊢
      exact ⟨B, ow1, env1, s1, f.m (fun k env2 h2 v2 H2 ow2 st2 n2 s2 => h2 v2 H2 ow2 (st1.trans st2) (n2.back st1) s2) (fun _ _ h => h.stp st1) h1⟩
    | false =>
      rw [if_neg Bool.false_ne_true] at h1 ⊢
      exact ⟨B, ow1, env1, s1, f2.m (fun k env2 h2 v2 H2 ow2 st2 n2 s2 => h2 v2 H2 ow2 (st1.trans st2) (n2.back st1) s2) (fun _ _ h => h.stp st1) h1⟩
/-- a op b op' c, of ints -/
def chainF (F : Nat → List Str) (g g' : D → D → Option D) (f f2 f3 : EF) : EF where
  r := fun env P X => f.r env (fun e env1 => ∃ i, e = .val (.int i) ∧ f2.r env1 (fun e2 env2 => ∃ j, e2 = .val (.int j) ∧ ∃ b, g (.int i) (.int j) = some (.bl b) ∧
    if b = true then f3.r env2 (fun e3 env3 => ∃ k, e3 = .val (.int k) ∧ ∃ c, g' (.int j) (.int k) = some (.bl c) ∧ P (.val (.bl c)) env3) X else P (.val (.bl false)) env2) X) X
  m := fun hp hx h => f.m (fun e env1 ⟨i, q, h⟩ => ⟨i, q, f2.m (fun e2 env2 ⟨j, q2, b, h1, h2⟩ => ⟨j, q2, b, h1, by
    split at h2
    · rename_i z; rw [if_pos z]; exact f3.m (fun e3 env3 ⟨k, q3, c, h3, h4⟩ => ⟨k, q3, c, h3, hp _ _ h4⟩) hx h2
    · rename_i z; rw [if_neg z]; exact hp _ _ h2⟩) hx h⟩) hx h
abbrev OpT (S : Sg) (g : D → D → Option D) : R2 := fun x y H Q => ∃ M d e c, RepT S M H d x ∧ RepT S M H e y ∧ g d e = some c ∧ (∀ a, M a → ∃ u, H a = some u) ∧ ∀ v H', Grow H H' → Rep S M H' c v → Q v H'
theorem chain_of {g g' : D → D → Option D} {σ : L2.St} {H : Hp} {Q : VK} (h : tE S M0 E (chainF S.flds g g' f f2 f3) σ H Q) : tChain (OpT S g) (OpT S g') (tE S M0 E f) (tE S M0 E f2) (tE S M0 E f3) σ H Q := by
  obtain ⟨B, ow, env, s, h⟩ := h
  refine ⟨B, ow, env, s, f.m (fun e1 env1 h1 v H1 ow1 st1 nw1 ok1 => ?_) (fun _ _ h => h) h⟩
  obtain ⟨i, rfl, h1⟩ := h1
  obtain ⟨s1, r1⟩ := ok1
  cases r1
  refine ⟨B, ow1, env1, s1, f2.m (fun e2 env2 h2 v2 H2 ow2 st2 nw2 ok2 => ?_) (fun _ _ h => h.stp st1) h1⟩
  obtain ⟨j, rfl, b, hg, h2⟩ := h2
  obtain ⟨s2, r2⟩ := ok2
  cases r2
  refine ⟨fun _ => False, .int i, .int j, .bl b, rfl, rfl, hg, fun _ z => z.elim, fun w H3 g3 r3 => ?_⟩
  cases r3
  refine ⟨b, rfl, ?_⟩
  have st3 := (st1.trans st2).trans (Stp.grow g3)
  cases b with
  | true =>
    rw [if_pos rfl] at h2 ⊢
    refine ⟨B, ow2, env2, s2.grow g3, f3.m (fun e3 env3 h3 v3 H4 ow4 st4 nw4 ok4 => ?_) (fun _ _ h => h.stp st3) h2⟩
    obtain ⟨k, rfl, c, hg', h3⟩ := h3
    obtain ⟨s4, r4⟩ := ok4
    cases r4
    refine ⟨fun _ => False, .int j, .int k, .bl c, rfl, rfl, hg', fun _ z => z.elim, fun w H5 g5 r5 => ?_⟩
    cases r5
    exact h3 _ H5 ow4 ((st3.trans st4).trans (.grow g5)) trivial ⟨s4.grow g5, rfl⟩
  | false =>
    rw [if_neg Bool.false_ne_true] at h2 ⊢
    exact h2 _ H3 ow2 st3 trivial ⟨s2.grow g3, rfl⟩
theorem r_chain {op op' : CmpOp} {g g' : D → D → Option D} (ho : OpS X S (compareOp op) g) (ho' : OpS X S (compareOp op') g') (ha : PE X a (tE S M0 E f)) (hb : PE X b (tE S M0 E f2)) (hc : PE X c (tE S M0 E f3)) (hm : lastMarks [op, op'] [b, c] = false := by with_unfolding_all rfl) :
    PE X (.Compare a [op, op'] [b, c] pos) (tE S M0 E (chainF S.flds g g' f f2 f3)) := PE.imp (pe_chain ho ho' ha hb hc hm) fun σ H Q h => chain_of h
theorem t_chain {op op' : CmpOp} {g g' : D → D → Option D} (ho : OpS X S (compareOp op) g) (ho' : OpS X S (compareOp op') g') (ha : PE X a (tE S M0 E f)) (hb : PE X b (tE S M0 E f2)) (hc : PE X c (tE S M0 E f3)) (hm : lastMarks [op, op'] [b, c] = false := by with_unfolding_all rfl) :
    PT X (.Compare a [op, op'] [b, c] pos) (tT S M0 E (blF S.flds (chainF S.flds g g' f f2 f3))) := PT.imp (pt_chain ho ho' ha hb hc hm) fun σ H Q h => by
  have h2 := chain_of (bl_of h)
  refine h2
/-! ### fields, isinstance -/
inductive BT where
  | non | bool | int | str | list | tuple | dict
  deriving DecidableEq
def BT.nm : BT → String
  | .non => "NoneType" | .bool => "bool" | .int => "int" | .str => "str" | .list => "list" | .tuple => "tuple" | .dict => "dict"
inductive Tq where
  | b (t : BT)
  | c (k : Nat)
  deriving DecidableEq
def Tq.v (S : Sg) : Tq → Value
  | .b t => .type t.nm
  | .c k => .ref (S.cls k)
def Tq.vv (S : Sg) : Tq → V
  | .b t => .ty t.nm
  | .c k => .ref (S.cls k)
def isOne : Tq → Tq → Bool
  | .b t, .b u => t == u || (t == .bool && u == .int)
  | .c i, .c j => i == j
  | _, _ => false
structure ClsX (S : Sg) (c : Nat) : Prop where
  cl : Cls S.K (S.cls c)
  nf : ∀ f ∈ S.flds c, NoAttr S.K (S.cls c) f
  ha : PySem.W.findIn S.K (.ref (S.cls c)) "__class__" = some (some (.builtin "object.__class__"))
  hn : PySem.W.specialIn S.K (.builtin "object.__class__") "__get__" = some (some (.builtin "getset_descriptor.__get__"))
  htk : PySem.W.takesIn S.K (.builtin "object.__class__") = some true
  hm : PySem.W.mroIn S.K (S.cls c) (.type "object") = some true
  k1 : ∀ t : BT, PySem.W.kitOne S.K (.ref (S.cls c)) (.type t.nm) = some false
  k2 : ∀ t : BT, PySem.W.kitOne S.K (.type t.nm) (.ref (S.cls c)) = some false
structure SgOk (S : Sg) (ics : List Nat) : Prop where
  c : ∀ k ∈ ics, ClsX S k
  k3 : ∀ k ∈ ics, ∀ j ∈ ics, k ≠ j → PySem.W.kitOne S.K (.ref (S.cls k)) (.ref (S.cls j)) = some false
theorem kit_bb (K : PySem.W.Frag) (t u : BT) : PySem.W.kitOne K (.type t.nm) (.type u.nm) = some (isOne (.b t) (.b u)) := by
  cases t <;> cases u <;> rfl
def Tq.ok (ics : List Nat) : Tq → Prop
  | .b _ => True
  | .c k => k ∈ ics
theorem kit_one {ics : List Nat} (ok : SgOk S ics) {t u : Tq} (ht : t.ok ics) (hu : u.ok ics) : PySem.W.kitOne S.K (t.v S) (u.v S) = some (isOne t u) := by
  cases t with
  | b t => cases u with
    | b u => exact kit_bb _ t u
    | c k => exact (ok.c k hu).k2 t
  | c k => cases u with
    | b u => exact (ok.c k ht).k1 u
    | c j =>
      by_cases h : k = j
      · subst h
        show PySem.W.kitOne S.K (.ref (S.cls k)) (.ref (S.cls k)) = some (k == k)
        unfold PySem.W.kitOne
        rw [if_pos (by simp)]
        simp
      · show _ = some (k == j)
        rw [show (k == j) = false from by simpa using h]
        exact ok.k3 k ht j hu h
theorem kit_any {ics : List Nat} (ok : SgOk S ics) {t : Tq} (ht : t.ok ics) : ∀ {us : List Tq}, (∀ u ∈ us, u.ok ics) → PySem.W.kitAny S.K (t.v S) (us.map (Tq.v S)) = some (us.any (isOne t))
  | [], _ => rfl
  | u :: us, h => by
    show (match PySem.W.kitOne S.K (t.v S) (u.v S) with | some true => some true | some false => PySem.W.kitAny S.K (t.v S) (us.map (Tq.v S)) | none => none) = _
    rw [kit_one ok ht (h u List.mem_cons_self), List.any_cons, kit_any ok ht fun u hu => h u (List.mem_cons_of_mem _ hu)]
    cases isOne t u <;> rfl
def tqD (ics : List Nat) : D → Option Tq
  | .non => some (.b .non)
  | .bl _ => some (.b .bool)
  | .int _ => some (.b .int)
  | .str _ => some (.b .str)
  | .tup _ => some (.b .tuple)
  | .nms _ => some (.b .tuple)
  | .lst _ => some (.b .list)
  | .dK _ _ => some (.b .dict)
  | .dT _ _ => none
  | .ins c _ => if c ∈ ics then some (.c c) else none
theorem tq_v {ics : List Nat} {M : MS} {H : Hp} {d : D} {v : V} {t : Tq} (hk : X.K = S.K) (ok : SgOk S ics) (h : RepT S M H d v) (e : tqD ics d = some t) : t.ok ics ∧ TyX X.K H v (t.v S) := by
  unfold tqD at e
  split at e
  · cases e; cases h; exact ⟨trivial, .base .non⟩
  · cases e; cases h; exact ⟨trivial, .base (.bl _)⟩
  · cases e; cases h; exact ⟨trivial, .base (.int _)⟩
  · cases e; cases h; exact ⟨trivial, .base (.str _)⟩
  · cases e; obtain ⟨a, vs, rfl, _, r, _⟩ := h.tup; exact ⟨trivial, .base (.tup r)⟩
  · cases e; obtain ⟨a, ob, rfl, _, r, _⟩ := h; exact ⟨trivial, .fTuple r⟩
  · cases e
    obtain ⟨a, vs, rfl, r, _⟩ := h.lst
    refine ⟨trivial, ?_⟩
    rcases r with (r | ⟨o, r⟩) | ⟨o, its, n, h1, h2, _⟩
    · exact .base (.lst r)
    · exact .base (.frz r)
    · rw [← hk] at h1; exact .kList h1 h2
  · cases e
    obtain ⟨a, vs, rfl, r, _⟩ := h
    refine ⟨trivial, ?_⟩
    rcases r with r | ⟨o, r⟩
    · exact .base (.dK r)
    · exact .fDict r
  · cases e
  · split at e
    · rename_i hc
      cases e
      obtain ⟨a, dx, vs, rfl, r, _⟩ := h
      have q := ok.c _ hc
      rw [hk]
      exact ⟨hc, .base (.ins r q.cl q.ha q.hn q.htk q.hm)⟩
    · cases e
def isiD (ics : List Nat) (us : List Tq) (d : D) : Option D := (tqD ics d).map fun t => .bl (us.any (isOne t))
theorem pe_ty {u : Tq} {x : Str} {pos : Pos} (hg : Gl X x) (hm : (∃ t, u = .b t ∧ X.mg x = none ∧ bootBuiltins x = some (.type t.nm)) ∨ ∃ k, u = .c k ∧ X.mg x = some (.ref (S.cls k))) (hn : x ≠ "__name__" := by decide) (hd : (x == ("__debug__" : Str)) = false := by decide) :
    PE X (.Name x pos) (tC (u.vv S)) := by
  rcases hm with ⟨t, rfl, h1, h2⟩ | ⟨k, rfl, h1⟩
  · exact pe_bltn hg h1 h2 rfl hn hd
  · exact pe_glob hg h1 rfl hd
theorem clsV_of (u : Tq) : ClsV (u.vv S) (u.v S) := by
  cases u with
  | b t => exact .ty _
  | c k => exact .own _
/-- isinstance(e, T) -/
theorem r_isi {ics : List Nat} {u : Tq} {p2 : Pos} (hk : X.K = S.K) (ok : SgOk S ics) (hu : u.ok ics) (hm : X.mg "isinstance" = none) (hT : PE X (.Name x p2) (tC (u.vv S))) (ha : PE X e (tE S M0 E f)) (hg : Gl X "isinstance" := by rfl)
    (he : starEach [e, .Name x p2] X.env = (false, eval e X.env) :: starEach [.Name x p2] X.env := by rfl) (he2 : starEach [.Name x p2] X.env = (false, eval (.Name x p2) X.env) :: starEach [] X.env := by rfl)
    (hpl : (backTo pos (starEach [.Name x p2] X.env)).any (·.1) = false := by rfl) : PE X (.Call (.Name "isinstance" p) [e, .Name x p2] [] pos) (tE S M0 E (unF S.flds (isiD ics [u]) f)) :=
  PE.imp (pe_callB call_isi hg hm (by decide +kernel) (pa_cons ha (pa_cons hT pa_nil he2) he) (by decide) (by decide) he hpl) fun σ H Q h =>
    un_of (T := fun x H Q => rIsi X.K [x, u.vv S] H Q) (fun x H Q ⟨M, d, c, hd, hg, ht, k⟩ => by
      obtain ⟨t, h1, rfl⟩ := Option.map_eq_some_iff.mp hg
      obtain ⟨k1, k2⟩ := tq_v hk ok hd h1
      refine ⟨x, u.vv S, t.v S, u.v S, isOne t u, rfl, clsV_of u, k2, by rw [hk]; exact kit_one ok k1 hu, k _ H .rfl' ?_⟩
      show V.bl (isOne t u) = V.bl (isOne t u || false)
      rw [Bool.or_false]) h
/-- isinstance(e, (T, U)) -/
theorem r_isi2 {ics : List Nat} {u u' : Tq} {x' : Str} {p2 p3 p4 : Pos} {kk : Nat} (hk : X.K = S.K) (ok : SgOk S ics) (hu : u.ok ics) (hu' : u'.ok ics) (hm : X.mg "isinstance" = none) (hT : PE X (.Name x p2) (tC (u.vv S))) (hT' : PE X (.Name x' p3) (tC (u'.vv S))) (ha : PE X e (tE S M0 E f)) (hg : Gl X "isinstance" := by rfl)
    (he : starEach [e, .Tuple [.Name x p2, .Name x' p3] kk p4] X.env = (false, eval e X.env) :: starEach [.Tuple [.Name x p2, .Name x' p3] kk p4] X.env := by rfl) (he2 : starEach [.Tuple [.Name x p2, .Name x' p3] kk p4] X.env = (false, eval (.Tuple [.Name x p2, .Name x' p3] kk p4) X.env) :: starEach [] X.env := by rfl)
    (he3 : starEach [.Name x p2, .Name x' p3] X.env = (false, eval (.Name x p2) X.env) :: starEach [.Name x' p3] X.env := by rfl) (he4 : starEach [.Name x' p3] X.env = (false, eval (.Name x' p3) X.env) :: starEach [] X.env := by rfl)
    (hpl : (backTo pos (starEach [.Tuple [.Name x p2, .Name x' p3] kk p4] X.env)).any (·.1) = false := by rfl) : PE X (.Call (.Name "isinstance" p) [e, .Tuple [.Name x p2, .Name x' p3] kk p4] [] pos) (tE S M0 E (unF S.flds (isiD ics [u, u']) f)) :=
  PE.imp (pe_callB call_isiT hg hm (by decide +kernel) (pa_cons ha (pa_cons (pe_tup (pa_cons hT (pa_cons hT' pa_nil he4) he3)) pa_nil he2) he) (by decide) (by decide) he hpl) fun σ H Q h =>
    un_of (T := fun x H Q => (2 : Nat) ≤ sizeLine ∧ ∀ p, H p = none → rIsiT X.K [x, .ref p] (upd H p (.tup [u.vv S, u'.vv S])) Q) (fun x H Q ⟨M, d, c, hd, hg, ht, k⟩ => by
      obtain ⟨t, h1, rfl⟩ := Option.map_eq_some_iff.mp hg
      refine ⟨by rw [sizeLine_eq]; omega, fun p hp => ?_⟩
      have hd' : RepT S M (upd H p (.tup [u.vv S, u'.vv S])) d x := by
        have gw : Grow H (upd H p (.tup [u.vv S, u'.vv S])) := .upd hp
        cases d with
        | lst ds => obtain ⟨a, vs, e, q, l⟩ := hd; exact ⟨a, vs, e, q.imp (Rd.kp fun o h => gw a o h) fun z => z, l.grow gw⟩
        | dK ks ds => obtain ⟨a, vs, e, q, z, l⟩ := hd; exact ⟨a, vs, e, Rd.kp (fun o h => gw a o h) q, z, l.grow gw⟩
        | dT ks ds => obtain ⟨a, vs, e, q, z, l⟩ := hd; exact ⟨a, vs, e, Rd.kp (fun o h => gw a o h) q, z, l.grow gw⟩
        | ins c ds => obtain ⟨a, dx, vs, e, q, z, l⟩ := hd; exact ⟨a, dx, vs, e, gw _ _ q, z, l.grow gw⟩
        | tup ds => obtain ⟨a, vs, e, n, q, l⟩ := hd; exact ⟨a, vs, e, n, gw _ _ q, l.grow gw⟩
        | non => exact hd
        | bl b => exact hd
        | int i => exact hd
        | str z => exact hd
        | nms xs => obtain ⟨a, ob, e, n, q, z⟩ := hd; exact ⟨a, ob, e, n, gw _ _ q, z⟩
      obtain ⟨k1, k2⟩ := tq_v hk ok hd' h1
      refine ⟨x, p, _, t.v S, [u.v S, u'.v S], _, rfl, upd_same, .cons (clsV_of u) (.cons (clsV_of u') .nil), k2, ?_, k _ _ (.upd hp) rfl⟩
      rw [hk]
      exact kit_any ok k1 (us := [u, u']) fun w hw => by
        rcases List.mem_cons.mp hw with rfl | hw
        · exact hu
        · rcases List.mem_cons.mp hw with rfl | hw
          · exact hu'
          · cases hw) h
/-- o.f of an instance -/
def fldD (F : Nat → List Str) (ics : List Nat) (nm : Str) : D → Option D
  | .ins c ds => if c ∈ ics then ((F c).zip ds).lookup nm else none
  | _ => none
theorem lookup_zip {M : MS} {H : Hp} {nm : Str} {d : D} : ∀ {ns : List Str} {ds : List D} {vs : List V}, RepL S M H ds vs → (ns.zip ds).lookup nm = some d → nm ∈ ns ∧ ∃ v, (ns.zip vs).lookup nm = some v ∧ Rep S M H d v
  | [], ds, vs, l, h => by cases h
  | n :: ns, [], vs, l, h => by cases h
  | n :: ns, e :: ds, _, l, h => by
    obtain ⟨v, r, rfl, h1, h2⟩ := l
    rw [List.zip_cons_cons, List.lookup_cons] at h
    cases q : nm == n with
    | true =>
      rw [q] at h
      cases h
      exact ⟨by rw [beq_iff_eq.mp q]; exact List.mem_cons_self, v, by rw [List.zip_cons_cons, List.lookup_cons, q], h1⟩
    | false =>
      rw [q] at h
      obtain ⟨k0, w, k1, k2⟩ := lookup_zip h2 h
      exact ⟨List.mem_cons_of_mem _ k0, w, by rw [List.zip_cons_cons, List.lookup_cons, q]; exact k1, k2⟩
theorem r_fld {ics : List Nat} {nm : Str} (hk : X.K = S.K) (ok : SgOk S ics) (ha : PE X e (tE S M0 E f)) (hb : attributeBase e nm X.env (eval e X.env) = eval e X.env := by rfl) : PE X (.Attribute e nm pos) (tE S M0 E (unF S.flds (fldD S.flds ics nm) f)) :=
  PE.imp (pe_fld ha hb) fun σ H Q h => un_of (T := fun x H1 Q => ∃ a C dx fs v, x = .ref a ∧ H1 a = some (.ins C dx fs) ∧ Cls X.K C ∧ NoAttr X.K C nm ∧ fs.lookup nm = some v ∧ Q v H1) (fun x H Q ⟨M, d, c, hd, hg, ht, k⟩ => by
    unfold fldD at hg
    split at hg
    · split at hg
      · rename_i hc
        obtain ⟨a, dx, vs, rfl, r, z, l⟩ := hd
        obtain ⟨m, v, h1, h2⟩ := lookup_zip l hg
        have q := ok.c _ hc
        rw [hk]
        exact ⟨a, _, dx, _, v, rfl, r, q.cl, q.nf nm m, h1, k v H .rfl' h2⟩
      · cases hg
    · cases hg) h
end
end En
set_option Elab.async false
set_option linter.all false
set_option maxRecDepth 100000
namespace En
open PySem PySem.Spec PyProof.Rows L2
section
open HT
variable {prog : Program} {w : World} {A : Around} {E : Value → Shared → Prop} {s : Shared}
theorem pick_rev (xs : Array Value) : ((List.range xs.size).filterMap fun (m : Nat) => xs[((xs.size : Int) - 1 + (m : Int) * (-1)).toNat]?).toArray = xs.toList.reverse.toArray := by
  congr 1
  apply List.ext_getElem?
  intro i
  have h : ∀ l : List Nat, (∀ m ∈ l, m < xs.size) → l.filterMap (fun (m : Nat) => xs[((xs.size : Int) - 1 + (m : Int) * (-1)).toNat]?) = l.map fun m => xs.toList.getD (xs.size - 1 - m) .none := by
    intro l
    induction l with
    | nil => intro _; rfl
    | cons m l ih =>
      intro hl
      have hm : m < xs.size := hl m List.mem_cons_self
      have e1 : ((xs.size : Int) - 1 + (m : Int) * (-1)).toNat = xs.size - 1 - m := by omega
      have h2 : xs.size - 1 - m < xs.size := by omega
      rw [List.filterMap_cons, e1, Array.getElem?_eq_getElem h2, List.map_cons, ih fun k hk => hl k (List.mem_cons_of_mem _ hk)]
      simp only [List.getD_eq_getElem?_getD, Array.getElem?_toList, Array.getElem?_eq_getElem h2, Option.getD_some]
  rw [h _ fun m hm => List.mem_range.mp hm]
  by_cases hi : i < xs.size
  · rw [List.getElem?_map, List.getElem?_range hi, List.getElem?_reverse (by simpa using hi)]
    have h2 : xs.size - 1 - i < xs.size := by omega
    simp [h2]
  · rw [List.getElem?_eq_none (by simpa using hi), List.getElem?_eq_none (by simpa using hi)]
theorem getItem_tuple_rev {t sl : Addr} {items : Array Value} {vl vu vs : Value} {Q : Value → Shared → Prop} (ht : IsTup s.heap t items) (hs : s.heap.IsSliceOf sl vl vu vs) (pl : IsPart vl none) (pu : IsPart vu none) (ps : IsPart vs (some (-1)))
    (h : Q (.ref s.heap.objs.size) { s with heap := s.heap.push { cls := .type "tuple", data := .seq items.toList.reverse.toArray } })
    (hsz : items.size ≤ sizeLine) : wpAny (model prog w) A (getItem (.ref t) (.ref sl)) Q E s := by
  have htake : sizeOk (.seq items.toList.reverse.toArray) := by
    show items.toList.reverse.toArray.size ≤ sizeLine
    rw [List.size_toArray, List.length_reverse, Array.length_toList]
    exact hsz
  obtain ⟨os, hos, hcs, hds⟩ := id hs
  have hTs : s.TypeIs (.ref sl) "slice" := ⟨os, hos, hcs⟩
  unfold getItem
  try with_reducible refine wpAny_holding ?_
  first | refine wpAny_bind (wpAny_pure ?_) | skip
  refine wpAny_bind (wpAny_sequenceKey ht.typeIs (by decide) ?_)
  refine wpAny_bind (wpAny_callSpecial?_slot (name := Str.ofString "__getitem__") ht.typeIs PyProof.Rows.slot_tuple_getitem
    (wpAny_call_entry PyProof.Rows.slot_tuple_getitem ht.typeIs entry_tuple_getitem ?_ (args_tuple_getitem _ _)))
  show wpAny _ _ (Builtin.Tuple.tupleItemsOf (.ref t) >>= _) _ _ s
  refine wpAny_bind (tupleItemsOf_ ht ?_)
  refine wpAny_bind (wpAny_typeOf hTs ?_)
  rw [if_pos (by decide)]
  have hap : ∀ {Q : Int × Int × Nat → Shared → Prop} {E : Value → Shared → Prop}, Q ((items.size : Int) - 1, -1, items.size) s → wpAny (model prog w) (A.in1) (Builtin.Slice.sliceApplied (.ref sl) (pure (items.size : Int))) Q E s := by
    intro Q E h
    unfold Builtin.Slice.sliceApplied Builtin.Slice.sliceFields
    refine wpAny_bind (wpAny_bind (wpAny_field hos hds (x := vl) rfl (wpAny_bind (wpAny_field hos hds (x := vu) rfl (wpAny_bind (wpAny_field hos hds (x := vs) rfl (wpAny_pure ?_)))))))
    refine wpAny_bind (slicePart_ ps ?_)
    show wpAny _ _ (if ((-1 : Int) == 0) = true then _ else _) _ _ s
    rw [if_neg (by decide)]
    refine wpAny_bind (slicePart_ pl (wpAny_bind (slicePart_ pu (wpAny_bind (wpAny_pure ?_)))))
    show wpAny _ _ (match Builtin.Slice.sliceAdjust none none (-1) (items.size : Int) with | (lo, hi) => pure (lo, (-1 : Int), Builtin.Slice.slicePlaces lo hi (-1))) _ _ s
    have ea : Builtin.Slice.sliceAdjust none none (-1) (items.size : Int) = ((items.size : Int) - 1, -1) := rfl
    rw [ea]
    show wpAny _ _ (pure ((items.size : Int) - 1, (-1 : Int), Builtin.Slice.slicePlaces ((items.size : Int) - 1) (-1) (-1))) _ _ s
    have ep : Builtin.Slice.slicePlaces ((items.size : Int) - 1) (-1) (-1) = items.size := by
      unfold Builtin.Slice.slicePlaces
      rw [if_neg (by decide)]
      split
      · have : -(-1 : Int) = 1 := by decide
        rw [this, Int.ediv_one]; omega
      · omega
    rw [ep]
    exact wpAny_pure h
  refine wpAny_bind (hap ?_)
  have hno : ¬ (((items.size : Int) - 1 == 0 && (-1 : Int) == 1 && items.size == items.size) = true) := by
    intro q
    rw [Bool.and_eq_true, Bool.and_eq_true] at q
    exact absurd q.1.2 (by decide)
  show wpAny _ _ (if ((items.size : Int) - 1 == 0 && (-1 : Int) == 1 && items.size == items.size) = true then _ else _) _ _ s
  rw [if_neg hno, pick_rev]
  first
    | exact wpAny_bind (m := Builtin.Tuple.tupleExact _) (wpAny_newObj_type (wpAny_pure ⟨_, rfl, wpAny_pure h⟩) htake)
    | exact wpAny_bind (m := Builtin.Tuple.tupleExact _) (wpAny_newObj_type (wpAny_bind (wpAny_pure (wpAny_pure ⟨_, rfl, wpAny_pure h⟩))) htake)
    | exact wpAny_bind (wpAny_bind (m := Builtin.Tuple.tupleExact _) (wpAny_newObj_type (wpAny_pure (wpAny_pure ⟨_, rfl, wpAny_pure h⟩)) htake))
    | exact wpAny_bind (wpAny_bind (m := Builtin.Tuple.tupleExact _) (wpAny_newObj_type (wpAny_pure ⟨_, rfl, wpAny_pure h⟩) htake))
end
section
variable {X : Cx} {S : Sg} {M0 : MS} {E : XK}
variable {a b c e : Expr} {es : List Expr} {f f2 f3 : EF} {pos p : Pos} {x : Str} {bi T : String} {l : LF}
/-- e[::-1] of a list or a tuple -/
def revD : D → Option D
  | .lst ds => some (.lst ds.reverse)
  | .tup ds => some (.tup ds.reverse)
  | _ => none
theorem pe_revS {te : TE} {k : Nat} {p1 p2 p3 pos : Pos} (he : PE X e te) : PE X (.Subscript e (.Slice none none (some (.UnaryOp .USub (.Constant (.int 1) k p1) p2)) p3) pos)
    (fun σ H Q => te σ H fun x H1 => (∃ a xs, x = .ref a ∧ SqL X.K H1 a xs ∧ ∀ p, H1 p = none → Q (.ref p) (upd H1 p (.lst xs.reverse))) ∨ ∃ a xs, x = .ref a ∧ SqT X.K H1 a xs ∧ ∀ p, H1 p = none → Q (.ref p) (upd H1 p (.tup xs.reverse))) := by
  refine ⟨fun pins s σ H Q I h => ?_⟩
  refine Subscript_ (thn (he.run pins s σ H _ I h) fun v s1 ⟨x, H1, I1, r1, q1⟩ => ?_)
  have hst : PO X (some (.UnaryOp .USub (.Constant (.int 1) k p1) p2)) (tPart (tUn (rU fun i => .int (-i)) (tC (.int 1)))) := po_some (pe_un un_neg pe_int)
  refine wpAny_Slice (thn (po_none.run pins s1 σ H1 (fun o H2 => o = none ∧ H2 = H1) I1 ⟨rfl, rfl⟩) fun vl s2 ⟨l, H2, I2, pl, el, e2⟩ => ?_)
  subst el e2
  refine thn (po_none.run pins s2 σ H2 (fun o H3 => o = none ∧ H3 = H2) I2 ⟨rfl, rfl⟩) fun vu s3 ⟨u, H3, I3, pu, eu, e3⟩ => ?_
  subst eu e3
  refine thn (hst.run pins s3 σ H3 (fun o H4 => o = some (-1) ∧ H4 = H3) I3 ⟨1, rfl, -1, rfl, rfl, rfl⟩) fun vs s4 ⟨o, H4, I4, ps, eo, e4⟩ => ?_
  subst eo e4
  have I5 : Inv X pins σ H4 { s4 with heap := s4.heap.push { cls := .type "slice", data := .fields #[vl, vu, vs] } } := I4.kept (t' := s4.toks) fun b ob q => Heap.get?_push_of_some _ q
  rcases q1 with ⟨a, xs, rfl, hx, q⟩ | ⟨a, xs, rfl, hx, q⟩
  · cases r1
    obtain ⟨its, r, ht, hz⟩ := I5.list hx
    have hlen := r.length
    show wpAny (model X.prog X.w) X.A (subscriptTail e (.Slice none none (some (.UnaryOp .USub (.Constant (.int 1) k p1) p2)) p3) (.ref a) (.ref s4.heap.objs.size)) (EP X pins σ Q) X.xe { s4 with heap := s4.heap.push { cls := .type "slice", data := .fields #[vl, vu, vs] } }
    refine tail_any (ops := [.ref a, .ref s4.heap.objs.size]) ht.isList.typeIs (PySem.slot_list_getitem.lookup) ?_ (by with_unfolding_all rfl)
    refine wpAny_getItem_list_slice ht.isList (Heap.IsSliceOf.new _ vl vu vs) pl pu ps (by decide) ?_ (by rw [List.size_toArray]; omega)
    rw [PySem.W.krv_pick]
    refine ⟨.ref _, _, I5.laid (t' := s4.toks) (o := .lst xs.reverse) (fun b ob q => Heap.get?_push_of_some _ q) (Nat.le_refl _) ?_, rfl, q _ (I5.hok.fresh (Nat.le_refl _))⟩
    exact ⟨by rw [List.length_reverse]; exact hz, _, 0, r.reverse, Heap.get?_push_size _ rfl⟩
  · cases r1
    obtain ⟨its, r, ht, hz⟩ := I5.tuple hx
    have hlen := r.length
    show wpAny (model X.prog X.w) X.A (subscriptTail e (.Slice none none (some (.UnaryOp .USub (.Constant (.int 1) k p1) p2)) p3) (.ref a) (.ref s4.heap.objs.size)) (EP X pins σ Q) X.xe { s4 with heap := s4.heap.push { cls := .type "slice", data := .fields #[vl, vu, vs] } }
    refine tail_any (ops := [.ref a, .ref s4.heap.objs.size]) ht.typeIs (PyProof.Rows.slot_tuple_getitem.lookup) ?_ (by with_unfolding_all rfl)
    refine getItem_tuple_rev ht (Heap.IsSliceOf.new _ vl vu vs) pl pu ps ?_ (by rw [List.size_toArray]; omega)
    refine ⟨.ref _, _, I5.laid (t' := s4.toks) (o := .tup xs.reverse) (fun b ob q => Heap.get?_push_of_some _ q) (Nat.le_refl _) ?_, rfl, q _ (I5.hok.fresh (Nat.le_refl _))⟩
    exact ⟨by rw [List.length_reverse]; exact hz, its.reverse, r.reverse, IsTup.new _ _⟩
theorem r_rev {k : Nat} {p1 p2 p3 : Pos} (hk : X.K = S.K) (ha : PE X e (tE S M0 E f)) : PE X (.Subscript e (.Slice none none (some (.UnaryOp .USub (.Constant (.int 1) k p1) p2)) p3) pos) (tE S M0 E (unF S.flds revD f)) :=
  PE.imp (pe_revS ha) fun σ H Q h => un_of (T := fun x H1 Q => (∃ a xs, x = .ref a ∧ SqL X.K H1 a xs ∧ ∀ p, H1 p = none → Q (.ref p) (upd H1 p (.lst xs.reverse))) ∨ ∃ a xs, x = .ref a ∧ SqT X.K H1 a xs ∧ ∀ p, H1 p = none → Q (.ref p) (upd H1 p (.tup xs.reverse))) (fun x H Q ⟨M, d, c, hd, hg, ht, k⟩ => by
    unfold revD at hg
    split at hg
    · cases hg
      obtain ⟨a, vs, rfl, r, l⟩ := hd.lst
      rw [← hk] at r
      exact .inl ⟨a, vs, rfl, r, fun p hp => k _ _ (.upd hp) ⟨p, _, rfl, .inl ⟨fresh_nm ht hp, .inl upd_same⟩, l.reverse.grow (.upd hp)⟩⟩
    · cases hg
      obtain ⟨a, vs, rfl, n, r, l⟩ := hd.tup
      exact .inr ⟨a, vs, rfl, .of r, fun p hp => k _ _ (.upd hp) ⟨p, _, rfl, fresh_nm ht hp, upd_same, l.reverse.grow (.upd hp)⟩⟩
    · cases hg) h
/-! ### slices -/
structure OF where
  r : Env' → (Option Int → Env' → Prop) → Exx → Prop
  m : ∀ {env P P' X X'}, (∀ e env', P e env' → P' e env') → (∀ c fs, X c fs → X' c fs) → r env P X → r env P' X'
def tO (S : Sg) (M0 : MS) (E : XK) (F : OF) : TO := fun σ H Q => ∃ B ow env, Sim S M0 B ow env σ H ∧
  F.r env (fun b env' => ∀ H' ow', Stp ow H ow' H' → Sim S M0 B ow' env' σ H' → Q b H') (XP S M0 E ow H)
def noO : OF where
  r := fun env P _ => P none env
  m := fun hp _ h => hp _ _ h
def someO (f : EF) : OF where
  r := fun env P X => f.r env (fun e env1 => ∃ i, e = .val (.int i) ∧ P (some i) env1) X
  m := fun hp hx h => f.m (fun e env1 ⟨i, q, h⟩ => ⟨i, q, hp _ _ h⟩) hx h
theorem PO.imp {X : Cx} {e : Option Expr} {t t' : TO} (h : PO X e t) (k : ∀ σ H Q, t' σ H Q → t σ H Q) : PO X e t' := ⟨fun p s σ H Q I q => h.run p s σ H Q I (k σ H Q q)⟩
theorem r_ono : PO X none (tO S M0 E noO) := PO.imp po_none fun σ H Q h => by
  obtain ⟨B, ow, env, s, h⟩ := h
  exact h H ow .refl s
theorem r_osome (h : PE X e (tE S M0 E f)) : PO X (some e) (tO S M0 E (someO f)) := PO.imp (po_some h) fun σ H Q h => by
  obtain ⟨B, ow, env, s, h⟩ := h
  refine ⟨B, ow, env, s, f.m (fun e1 env1 h1 v H1 ow1 st1 nw1 ok1 => ?_) (fun _ _ h => h) h⟩
  obtain ⟨i, rfl, h1⟩ := h1
  obtain ⟨s1, r1⟩ := ok1
  cases r1
  exact ⟨i, rfl, h1 H1 ow1 st1 s1⟩
def cutD (ds : List D) (lo hi : Option Int) : List D := (ds.drop (HT.sIx ds.length 0 lo)).take (HT.sIx ds.length ds.length hi - HT.sIx ds.length 0 lo)
def slD : D → Option Int → Option Int → Option D
  | .lst ds, lo, hi => some (.lst (cutD ds lo hi))
  | .tup ds, lo, hi => some (.tup (cutD ds lo hi))
  | .nms xs, lo, hi => if HT.sIx xs.length 0 lo = 0 ∧ HT.sIx xs.length xs.length hi = xs.length then some (.nms xs) else some (.tup (cutD (xs.map .str) lo hi))
  | .str z, lo, hi => if z.length ≤ sizeLine then some (.str (Txt.slice z lo hi)) else none
  | _, _, _ => none
def slF (F : Nat → List Str) (f : EF) (lo hi : OF) : EF where
  r := fun env P X => f.r env (fun e env1 => ∃ e', e.settle F = some e' ∧ lo.r env1 (fun i env2 => hi.r env2 (fun j env3 => ∃ d c, e'.rd F env3 = some d ∧ slD d i j = some c ∧ P (.val c) env3) X) X) X
  m := fun hp hx h => f.m (fun e env1 ⟨e', q, h⟩ => ⟨e', q, lo.m (fun i env2 h => hi.m (fun j env3 ⟨d, c, h1, h2, h3⟩ => ⟨d, c, h1, h2, hp _ _ h3⟩) hx h) hx h⟩) hx h
theorem cut_v {M : MS} {H : Hp} {ds : List D} {vs : List V} (lo hi : Option Int) (l : RepL S M H ds vs) : RepL S M H (cutD ds lo hi) (cutV vs lo hi) := by
  unfold cutD cutV
  rw [← l.len]
  exact RepL.take 0 l.drop
theorem r_sl {lo hi : Option Expr} {ol oh : OF} {p2 : Pos} (hk : X.K = S.K) (ha : PE X e (tE S M0 E f)) (hl : PO X lo (tO S M0 E ol)) (hh : PO X hi (tO S M0 E oh)) : PE X (.Subscript e (.Slice lo hi none p2) pos) (tE S M0 E (slF S.flds f ol oh)) :=
  PE.imp (pe_slice (sl_list.or (sl_tupA.or C8.sl_txt)) ha hl hh) fun σ H Q h => by
    obtain ⟨B, ow, env, s, h⟩ := h
    refine ⟨B, ow, env, s, f.m (fun e1 env1 h1 v H1 ow1 st1 nw1 ok1 => ?_) (fun _ _ h => h) h⟩
    obtain ⟨e', q, h1⟩ := h1
    have ok1' := ok1.settle q
    have s1 := ok1'.sim (EV.settle_old q)
    refine ⟨B, ow1, env1, s1, ol.m (fun i env2 h2 H2 ow2 st2 s2 => ?_) (fun _ _ h => h.stp st1) h1⟩
    refine ⟨B, ow2, env2, s2, oh.m (fun j env3 h3 H3 ow3 st3 s3 => ?_) (fun _ _ h => h.stp (st1.trans st2)) h2⟩
    obtain ⟨d, c, k1, k2, k3⟩ := h3
    have st := (st1.trans st2).trans st3
    have hd := ok1'.rd (st2.trans st3) s3 k1
    have fin : ∀ w H', Grow H3 H' → Rep S (Md B ow3) H' c w → Q w H' := fun w H' g r => k3 w H' ow3 (st.trans (.grow g)) trivial ⟨s3.grow g, r⟩
    unfold slD at k2
    split at k2
    · cases k2
      obtain ⟨a, vs, rfl, r, l⟩ := hd.lst
      rw [← hk] at r
      exact .inl ⟨a, vs, rfl, r, fun p hp => fin _ _ (.upd hp) ⟨p, _, rfl, .inl ⟨fresh_nm s3.trkA hp, .inl upd_same⟩, (cut_v i j l).grow (.upd hp)⟩⟩
    · cases k2
      obtain ⟨a, vs, rfl, n, r, l⟩ := hd.tup
      refine .inr (.inl ⟨a, vs, rfl, .of r, fun hw => ?_, fun hw p hp => fin _ _ (.upd hp) ⟨p, _, rfl, fresh_nm s3.trkA hp, upd_same, (cut_v i j l).grow (.upd hp)⟩⟩)
      refine fin _ H3 .rfl' ⟨a, vs, rfl, n, r, ?_⟩
      rename_i ds
      have : cutD ds i j = ds := by
        unfold cutD
        rw [l.len, hw.1, hw.2, List.drop_zero, Nat.sub_zero, ← l.len, List.take_length]
      rw [this]
      exact l
    · skip
      obtain ⟨a, ob, rfl, n, r, z⟩ := hd
      refine .inr (.inl ⟨a, _, rfl, .inl (.inr ⟨ob, r⟩), fun hw => ?_, fun hw p hp => ?_⟩)
      · rw [List.length_map] at hw
        rw [if_pos hw] at k2
        cases k2
        exact fin _ H3 .rfl' ⟨a, ob, rfl, n, r, z⟩
      · rw [List.length_map] at hw
        rw [if_neg hw] at k2
        cases k2
        exact fin _ _ (.upd hp) ⟨p, _, rfl, fresh_nm s3.trkA hp, upd_same, (cut_v _ _ (strs_rep _)).grow (.upd hp)⟩
    · split at k2
      · rename_i hz
        cases k2; cases hd
        exact .inr (.inr ⟨_, rfl, hz, fin _ H3 .rfl' rfl⟩)
      · cases k2
    · cases k2
end
end En
set_option Elab.async false
set_option linter.all false
set_option maxRecDepth 100000
namespace En
open PySem PySem.Spec PyProof.Rows L2
section
variable {X : Cx} {S : Sg} {M0 B : MS} {E : XK} {ow : OW} {env : Env'} {σ : L2.St} {H : Hp}
def Slot.put : Slot → Ob → Slot
  | .own _, o => .own o
  | .io _, o => .io o
  | s, _ => s
theorem RepL.upd_at {M : MS} {a : Addr} {ho : HO} {ds : List D} {vs : List V} (ha : M a) (l : RepL S M H ds vs) : RepL S M (upd H a ho) ds vs :=
  RepL.move (fun b o n e => ⟨by rw [upd_ne (fun z => n (by rw [z]; exact ha))]; exact e, n⟩) _ _ l
theorem Rep.upd_at {M : MS} {a : Addr} {ho : HO} {ds : D} {vs : V} (ha : M a) (l : Rep S M H ds vs) : Rep S M (upd H a ho) ds vs :=
  Rep.move (fun b o n e => ⟨by rw [upd_ne (fun z => n (by rw [z]; exact ha))]; exact e, n⟩) _ _ l
/-- one of ours changes -/
theorem Sim.put {i : Nat} {sl : Slot} {o o' : Ob} {a : Addr} {ho : HO} (s : Sim S M0 B ow env σ H) (e : env[i]? = some sl) (q : sl.ob = some o) (ha : ow[i]? = some (some a)) (r : ObRep S (Md B ow) (upd H a ho) a o') :
    Sim S M0 B ow (env.set i (sl.put o')) σ (upd H a ho) ∧ Stp ow H ow (upd H a ho) := by
  have hm : some a ∈ ow := List.mem_of_getElem? ha
  have mv : ∀ b o, ¬ Md B ow b → H b = some o → (upd H a ho) b = some o ∧ ¬ Md B ow b := fun b o n e => ⟨by rw [upd_ne (fun z => n (.inr (by rw [z]; exact hm)))]; exact e, n⟩
  have hi : i < env.length := (List.getElem?_eq_some_iff.mp e).1
  refine ⟨?_, fun b o n e => by rw [upd_ne (fun z => n (by rw [z]; exact hm))]; exact e, fun _ _ h => .inl h, fun b o e => by
    by_cases h : b = a
    · exact ⟨ho, by rw [h]; exact upd_same⟩
    · exact ⟨o, by rw [upd_ne h]; exact e⟩⟩
  have nval : ∀ d, sl.put o' ≠ .val d := fun d z => by cases sl <;> cases q <;> cases z
  have other : ∀ {j : Nat} {b : Addr}, j ≠ i → ow[j]? = some (some b) → b ≠ a := fun {j b} hj hb z => hj (s.inj j i a (by rw [← z]; exact hb) ha)
  exact {
    l1 := by rw [List.length_set]; exact s.l1
    l2 := s.l2
    val := fun j d ej => by
      by_cases hj : j = i
      · subst hj
        rw [List.getElem?_set_self hi] at ej
        exact absurd (Option.some.inj ej) (nval d)
      · rw [List.getElem?_set_ne (Ne.symm hj)] at ej
        obtain ⟨v, h1, h2⟩ := s.val j d ej
        exact ⟨v, h1, Rep.move mv _ _ h2⟩
    own := fun j oj ej => by
      by_cases hj : j = i
      · subst hj
        rw [List.getElem?_set_self hi] at ej
        cases sl with
        | own o0 =>
          cases ej
          obtain ⟨b, h1, h2, h3, h4⟩ := s.own j o0 e
          rw [ha] at h1; cases h1
          exact ⟨a, ha, h2, r, h4⟩
        | io o0 => cases ej
        | un => cases q
        | val d => cases q
      · rw [List.getElem?_set_ne (Ne.symm hj)] at ej
        obtain ⟨b, h1, h2, h3, h4⟩ := s.own j oj ej
        exact ⟨b, h1, h2, h3.move (fun u z => by rw [upd_ne (other hj h1)]; exact z) mv, h4⟩
    io := fun j oj ej => by
      by_cases hj : j = i
      · subst hj
        rw [List.getElem?_set_self hi] at ej
        cases sl with
        | io o0 =>
          cases ej
          obtain ⟨b, h1, h2, h3⟩ := s.io j o0 e
          rw [ha] at h1; cases h1
          exact ⟨a, ha, h2, r⟩
        | own o0 => cases ej
        | un => cases q
        | val d => cases q
      · rw [List.getElem?_set_ne (Ne.symm hj)] at ej
        obtain ⟨b, h1, h2, h3⟩ := s.io j oj ej
        exact ⟨b, h1, h2, h3.move (fun u z => by rw [upd_ne (other hj h1)]; exact z) mv⟩
    live := fun j b hb => by
      obtain ⟨oj, h⟩ := s.live j b hb
      by_cases hj : j = i
      · subst hj
        rw [List.getElem?_set_self hi]
        cases sl with
        | own o0 => exact ⟨o', .inl rfl⟩
        | io o0 => exact ⟨o', .inr rfl⟩
        | un => cases q
        | val d => cases q
      · rw [List.getElem?_set_ne (Ne.symm hj)]
        exact ⟨oj, h⟩
    inj := s.inj
    dis := s.dis
    trk := fun b hb => by
      have nb : b ≠ a := fun z => s.dis b hb (by rw [z]; exact hm)
      rw [upd_ne nb]
      exact s.trk b hb
    m0 := s.m0 }
variable {a b c e o : Expr} {es : List Expr} {f f2 f3 : EF} {pos p : Pos} {x y : Str} {bi T : String} {l : LF}
/-! ### join, index -/
def strsD? : List D → Option (List Str)
  | [] => some []
  | .str x :: ds => (strsD? ds).map (x :: ·)
  | _ => none
theorem strs_v {M : MS} {H : Hp} : ∀ {ds : List D} {vs : List V} {bs : List Str}, RepL S M H ds vs → strsD? ds = some bs → vs = bs.map V.str
  | [], _, _, h, e => by cases h; cases e; rfl
  | .str b :: ds, _, bs, h, e => by
    obtain ⟨v, r, rfl, h1, h2⟩ := h
    obtain ⟨bs', e1, rfl⟩ := Option.map_eq_some_iff.mp (show (strsD? ds).map (b :: ·) = some bs from e)
    cases h1
    rw [strs_v h2 e1]; rfl
  | .non :: _, _, _, _, e => by cases e
  | .int _ :: _, _, _, _, e => by cases e
  | .bl _ :: _, _, _, _, e => by cases e
  | .tup _ :: _, _, _, _, e => by cases e
  | .lst _ :: _, _, _, _, e => by cases e
  | .dK _ _ :: _, _, _, _, e => by cases e
  | .dT _ _ :: _, _, _, _, e => by cases e
  | .ins _ _ :: _, _, _, _, e => by cases e
  | .nms _ :: _, _, _, _, e => by cases e
def joinD (z : Str) : D → Option D
  | .lst ds => (strsD? ds).bind fun xs => if (xs.map (·.length)).sum + xs.length * z.length ≤ 16777216 then some (.str (Txt.join z xs)) else none
  | _ => none
theorem r_join {z : Str} {k : Nat} {p1 apos : Pos} (hk : X.K = S.K) (ha : PE X e (tE S M0 E f)) (hs : starEach [e] X.env = [(false, eval e X.env)] := by rfl) (hbase : attributeBase (.Constant (.str z) k p1) "join" X.env (eval (.Constant (.str z) k p1) X.env) = eval (.Constant (.str z) k p1) X.env := by rfl) (hline : (apos.endLine == pos.line) = true := by rfl) :
    PE X (.Call (.Attribute (.Constant (.str z) k p1) "join" apos) [e] [] pos) (tE S M0 E (unF S.flds (joinD z) f)) :=
  PE.imp (pe_join pe_str ha hs hbase hline) fun σ H Q h => ⟨⟨_, rfl⟩, un_of (T := fun y H2 Q => ∃ a p, ∃ ys : List Str, V.str z = .str a ∧ [y] = [.ref p] ∧ (SqL X.K H2 p (ys.map V.str) ∨ SqT X.K H2 p (ys.map V.str)) ∧ (ys.map (·.length)).sum + ys.length * a.length ≤ 16777216 ∧ Q (.str (Txt.join a ys)) H2) (fun x H Q ⟨M, d, c, hd, hg, ht, k⟩ => by
    unfold joinD at hg
    split at hg
    · obtain ⟨xs, h1, h2⟩ := Option.bind_eq_some_iff.mp hg
      split at h2
      · rename_i hz
        cases h2
        obtain ⟨a, vs, rfl, r, l⟩ := hd.lst
        rw [← hk, strs_v l h1] at r
        exact ⟨z, a, xs, rfl, rfl, .inl r, hz, k _ H .rfl' rfl⟩
      · cases h2
    · cases hg) h⟩
def idxB (p : D → Bool) : List D → Nat → Option Nat
  | [], _ => none
  | d :: ds, n => if p d then some n else idxB p ds (n + 1)
theorem idxB_spec {p : D → Bool} : ∀ {ds : List D} {n j : Nat}, idxB p ds n = some j → n ≤ j ∧ (∃ d, ds[j - n]? = some d ∧ p d = true) ∧ ∀ m d, m < j - n → ds[m]? = some d → p d = false
  | [], n, j, h => by cases h
  | d :: ds, n, j, h => by
    unfold idxB at h
    split at h
    · rename_i hp
      cases h
      refine ⟨Nat.le_refl _, ⟨d, by simp, hp⟩, fun m d' hm _ => by omega⟩
    · rename_i hp
      obtain ⟨h1, ⟨d', h2, h3⟩, h4⟩ := idxB_spec h
      have e : j - n = (j - (n + 1)) + 1 := by omega
      refine ⟨by omega, ⟨d', by rw [e]; simpa using h2, h3⟩, fun m d'' hm hd => ?_⟩
      cases m with
      | zero => simp at hd; subst hd; simpa using hp
      | succ m => exact h4 m d'' (by omega) (by simpa using hd)
def idxD : D → D → Option D
  | .nms xs, .str z => (idxB (fun d => eqB d (.str z)) (xs.map .str) 0).map fun j : Nat => D.int (j : Int)
  | .lst ds, d => if flatD d && ds.all flatD then (idxB (fun z => eqB z d) ds 0).map fun j : Nat => D.int (j : Int) else none
  | _, _ => none
theorem eqB_str (x z : Str) : eqB (.str x) (.str z) = (x == z) := by simp [eqB, D.py, PyData.eqv]
def idxF (F : Nat → List Str) (f f2 : EF) : EF where
  r := fun env P X => f.r env (fun e env1 => ∃ d, e.keep F = some d ∧ f2.r env1 (fun e2 env2 => ∃ e2', e2.settle F = some e2' ∧ ∃ d2 c, e2'.rd F env2 = some d2 ∧ idxD d d2 = some c ∧ P (.val c) env2) X ∧ ((∃ xs, d = .nms xs) ∨ ∃ ds, d = .lst ds)) X
  m := fun hp hx h => f.m (fun e env1 ⟨d, q, h, z⟩ => ⟨d, q, f2.m (fun e2 env2 ⟨e2', q2, d2, c, h2, h3, h4⟩ => ⟨e2', q2, d2, c, h2, h3, hp _ _ h4⟩) hx h, z⟩) hx h
theorem mt_idx (hk : X.K = S.K) {M : MS} {H : Hp} {pins : List (Addr × Obj)} {s : Shared} {x y : V} {u w : Value} {d d2 c : D} {Q : VK} (I : Inv X pins σ H s) (rx : RelV x u) (ry : RelV y w) (hd : RepT S M H d x) (hd2 : RepT S M H d2 y) (hg : idxD d d2 = some c) (k : ∀ j, c = .int j → Q (.int j) H) :
    (∃ xs, d = .nms xs) ∧ wpAny (model X.prog X.w) X.A (call (.builtin "tuple.index") [u, w]) (EP X pins σ Q) X.xe s ∨ (∃ ds, d = .lst ds) ∧ wpAny (model X.prog X.w) X.A (call (.builtin "list.index") [u, w]) (EP X pins σ Q) X.xe s := by
  unfold idxD at hg
  split at hg
  · rename_i xs z
    left
    obtain ⟨j, h1, rfl⟩ := Option.map_eq_some_iff.mp hg
    obtain ⟨_, ⟨d', h2, h3⟩, h4⟩ := idxB_spec h1
    rw [Nat.sub_zero] at h2 h4
    rw [List.getElem?_map] at h2
    obtain ⟨z', h5, rfl⟩ := Option.map_eq_some_iff.mp h2
    rw [eqB_str] at h3
    obtain ⟨a, ob, rfl, _, r, _⟩ := hd
    cases hd2
    refine ⟨⟨xs, rfl⟩, mt_tup_index pins s σ H _ _ u [w] Q I rx (.cons ry .nil) ⟨a, xs, z, j, rfl, rfl, .inl (.inr ⟨ob, r⟩), by rw [h5, beq_iff_eq.mp h3], fun m hm hx => ?_, k _ rfl⟩⟩
    have := h4 m (.str z) hm (by rw [List.getElem?_map, hx]; rfl)
    rw [eqB_str] at this
    simp at this
  · rename_i ds
    split at hg
    · rename_i hf
      right
      rw [Bool.and_eq_true] at hf
      obtain ⟨j, h1, rfl⟩ := Option.map_eq_some_iff.mp hg
      obtain ⟨_, ⟨d', h2, h3⟩, h4⟩ := idxB_spec h1
      rw [Nat.sub_zero] at h2 h4
      obtain ⟨a, vs, rfl, r, l⟩ := hd.lst
      obtain ⟨v', e1, e2⟩ := l.get h2
      have hall := hf.2
      rw [List.all_eq_true] at hall
      have fl : ∀ m d, ds[m]? = some d → flatD d = true := fun m d h => hall d (List.mem_of_getElem? h)
      rw [← hk] at r
      refine ⟨⟨ds, rfl⟩, mt_index pins s σ H _ _ u [w] Q I rx (.cons ry .nil) ⟨a, vs, y, j, v', rfl, rfl, r, flat_v hd2 hf.1, (any_flat hd2 hf.1 l hf.2).1, e1, ?_, fun m v2 hm hv => ?_, k _ rfl⟩⟩
      · rw [eqv_flat e2.top hd2 (fl _ _ h2) hf.1]; exact h3
      · have hml : m < ds.length := by
          have := (List.getElem?_eq_some_iff.mp hv).1
          rw [l.len]; exact this
        have hdm : ds[m]? = some ds[m] := List.getElem?_eq_getElem hml
        rw [eqv_flat (l.get2 hdm hv).top hd2 (fl _ _ hdm) hf.1]
        exact h4 m _ hm hdm
    · cases hg
  · cases hg
theorem r_idx {apos : Pos} (hk : X.K = S.K) (ho : PE X o (tE S M0 E f)) (ha : PE X e (tE S M0 E f2))
    (hbase : attributeBase o "index" X.env (eval o X.env) = eval o X.env := by rfl)
    (hfew : ((backTo pos (starEach [e] X.env)).all (fun x => !x.1) && (backToKw pos (keywordEach [] X.env)).all (fun x => x.1.isSome)
      && decide ([e].length + ([] : List Keyword).length + (if ([] : List Keyword).isEmpty then 0 else 1) < 30)) = true := by rfl)
    (hline : (apos.endLine == pos.line) = true := by rfl) (hs : starEach [e] X.env = (false, eval e X.env) :: starEach [] X.env := by rfl) (hplain : (backTo pos (starEach [] X.env)).any (·.1) = false := by rfl) :
    PE X (.Call (.Attribute o "index" apos) [e] [] pos) (tE S M0 E (idxF S.flds f f2)) := by
  refine ⟨fun pins s σ H Q I h => ?_⟩
  obtain ⟨B, ow, env, sm, h⟩ := h
  refine wpAny_Call_method_late hbase hfew hline rfl (thn (ho.run pins s σ H (fun x H1 => ∃ ow1 env1 d, Stp ow H ow1 H1 ∧ Sim S M0 B ow1 env1 σ H1 ∧ Rep S (Md B ow1) H1 d x ∧ ((∃ xs, d = .nms xs) ∨ ∃ ds, d = .lst ds) ∧
    f2.r env1 (fun e2 env2 => ∃ e2', e2.settle S.flds = some e2' ∧ ∃ d2 c, e2'.rd S.flds env2 = some d2 ∧ idxD d d2 = some c ∧ ∀ v H' ow', Stp ow H ow' H' → Nw H (.val c) v → EVOk S M0 B ow' env2 σ H' (.val c) v → Q v H') (XP S M0 E ow H)) I
    ⟨B, ow, env, sm, f.m (fun e1 env1 h1 v H1 ow1 st1 nw1 ok1 => by
      obtain ⟨d, q, h1, z⟩ := h1
      obtain ⟨k1, k2⟩ := ok1.keep q
      exact ⟨ow1, env1, d, st1, k1, k2, z, h1⟩) (fun _ _ h => h) h⟩) fun v s1 ⟨x, H1, I1, r1, ow1, env1, d, st1, sm1, hd, hz, h1⟩ => ?_)
  have hA := (pa_cons (X := X) ha pa_nil hs).run pos pins s1 σ H1 (fun ys H2 => ∃ y ow2 env2 e2', ys = [y] ∧ Stp ow1 H1 ow2 H2 ∧ EVOk S M0 B ow2 env2 σ H2 e2' y ∧ e2'.old ∧
    ∃ d2 c, e2'.rd S.flds env2 = some d2 ∧ idxD d d2 = some c ∧ ∀ v H' ow', Stp ow H ow' H' → Nw H (.val c) v → EVOk S M0 B ow' env2 σ H' (.val c) v → Q v H') I1
    ⟨B, ow1, env1, sm1, f2.m (fun e2 env2 h2 u H2 ow2 st2 nw2 ok2 => by
      obtain ⟨e2', q2, h2⟩ := h2
      exact ⟨u, ow2, env2, e2', rfl, st2, ok2.settle q2, EV.settle_old q2, h2⟩) (fun _ _ h => h.stp st1) h1⟩
  have fin : ∀ us s2, (∃ ys H2, Inv X pins σ H2 s2 ∧ Vals ys us ∧ ∃ y ow2 env2 e2', ys = [y] ∧ Stp ow1 H1 ow2 H2 ∧ EVOk S M0 B ow2 env2 σ H2 e2' y ∧ e2'.old ∧
      ∃ d2 c, e2'.rd S.flds env2 = some d2 ∧ idxD d d2 = some c ∧ ∀ v H' ow', Stp ow H ow' H' → Nw H (.val c) v → EVOk S M0 B ow' env2 σ H' (.val c) v → Q v H') →
      ∃ w, us = [w] ∧ ((∃ xs, d = .nms xs) ∧ wpAny (model X.prog X.w) X.A (call (.builtin "tuple.index") [v, w]) (EP X pins σ Q) X.xe s2 ∨ (∃ ds, d = .lst ds) ∧ wpAny (model X.prog X.w) X.A (call (.builtin "list.index") [v, w]) (EP X pins σ Q) X.xe s2) := by
    rintro us s2 ⟨ys, H2, I2, rv, y, ow2, env2, e2', rfl, st2, ok2, old, d2, c, k1, k2, k3⟩
    obtain ⟨w, rfl, rw'⟩ := rv.one
    have sm2 := ok2.sim old
    refine ⟨w, rfl, mt_idx hk I2 r1 rw' (Rep.stp st2 hd).top (ok2.rd .refl sm2 k1) k2 fun j ej => ?_⟩
    subst ej
    exact k3 _ H2 ow2 (st1.trans st2) trivial ⟨sm2, rfl⟩
  rcases hz with ⟨xs, rfl⟩ | ⟨ds, rfl⟩
  · obtain ⟨a, ob, rfl, _, r, hdn⟩ := hd
    cases r1
    obtain ⟨he, _, _, _, ⟨o', ho', hc', _⟩⟩ := I1.hok a _ r
    rw [he] at ho'; cases ho'
    refine ⟨"tuple", "tuple.index", PySem.F.plainAttrs_tuple, PySem.F.slot_tuple_index, PySem.F.type_tuple_index, ⟨ob, he, hc'⟩, fun b e => ?_, ?_⟩
    · cases e; exact ⟨ob, he, hdn⟩
    rw [hs] at hA ⊢
    refine Calls.callWith_builtin (by show (false || (backTo pos (starEach [] X.env)).any (·.1)) = false; rw [hplain] <;> rfl) (Calls.evalArgs_plain ?_)
    refine thn hA fun us s2 h2 => ?_
    obtain ⟨w, rfl, hw⟩ := fin us s2 h2
    rcases hw with ⟨_, hw⟩ | ⟨⟨ds, z⟩, _⟩
    · exact hw
    · cases z
  · obtain ⟨a, vs, rfl, r, _⟩ := hd
    cases r1
    have r' := r.seq
    rw [← hk] at r'
    obtain ⟨its, _, ⟨ob, n, e1, e2, e3, e4⟩, _⟩ := I1.list r'
    refine ⟨"list", "list.index", PySem.F.plainAttrs_list, PySem.F.slot_list_index, PySem.F.type_list_index, ⟨ob, e1, e2⟩, fun b e => ?_, ?_⟩
    · cases e; exact ⟨ob, e1, e3⟩
    rw [hs] at hA ⊢
    refine Calls.callWith_builtin (by show (false || (backTo pos (starEach [] X.env)).any (·.1)) = false; rw [hplain] <;> rfl) (Calls.evalArgs_plain ?_)
    refine thn hA fun us s2 h2 => ?_
    obtain ⟨w, rfl, hw⟩ := fin us s2 h2
    rcases hw with ⟨⟨ds, z⟩, _⟩ | ⟨_, hw⟩
    · cases z
    · exact hw
/-- tuple(x) whose items are texts -/
def tupN : D → Option D
  | .lst ds => (strsD? ds).map .nms
  | .nms xs => some (.nms xs)
  | _ => none
/-! ### two ints -/
def maxD : D → D → Option D
  | .int i, .int j => some (.int (if j > i then j else i))
  | _, _ => none
def minD : D → D → Option D
  | .int i, .int j => some (.int (if j < i then j else i))
  | _, _ => none
theorem two_of {g : D → D → Option D} {R : List V → Hp → VK → Prop}
    (hR : ∀ x y H Q, (∃ M d e c, RepT S M H d x ∧ RepT S M H e y ∧ g d e = some c ∧ (∀ a, M a → ∃ u, H a = some u) ∧ ∀ v H', Grow H H' → Rep S M H' c v → Q v H') → R [x, y] H Q)
    {σ : L2.St} {H : Hp} {Q : VK} (h : tE S M0 E (binF S.flds g f f2) σ H Q) : tCB R (tCons (tE S M0 E f) (tCons (tE S M0 E f2) tNil)) σ H Q := bin_of (R := fun x y H Q => R [x, y] H Q) hR h
theorem r_max (hc : X.calm = true) (hm : X.mg "max" = none) (ha : PE X a (tE S M0 E f)) (hb : PE X b (tE S M0 E f2)) (hg : Gl X "max" := by rfl) (he : starEach [a, b] X.env = (false, eval a X.env) :: starEach [b] X.env := by rfl) (he2 : starEach [b] X.env = (false, eval b X.env) :: starEach [] X.env := by rfl)
    (hpl : (backTo pos (starEach [b] X.env)).any (·.1) = false := by rfl) : PE X (.Call (.Name "max" p) [a, b] [] pos) (tE S M0 E (binF S.flds maxD f f2)) :=
  PE.imp (pe_callB (call_max2 hc) hg hm (by decide +kernel) (pa_cons ha (pa_cons hb pa_nil he2) he) (by decide) (by decide) he hpl) fun σ H Q h => two_of (fun x y H Q ⟨M, d, e, c, hd, he, hg, ht, k⟩ => by
    unfold maxD at hg
    split at hg
    · cases hg; cases hd; cases he
      exact ⟨_, _, rfl, k _ H .rfl' rfl⟩
    · cases hg) h
theorem r_min (hc : X.calm = true) (hm : X.mg "min" = none) (ha : PE X a (tE S M0 E f)) (hb : PE X b (tE S M0 E f2)) (hg : Gl X "min" := by rfl) (he : starEach [a, b] X.env = (false, eval a X.env) :: starEach [b] X.env := by rfl) (he2 : starEach [b] X.env = (false, eval b X.env) :: starEach [] X.env := by rfl)
    (hpl : (backTo pos (starEach [b] X.env)).any (·.1) = false := by rfl) : PE X (.Call (.Name "min" p) [a, b] [] pos) (tE S M0 E (binF S.flds minD f f2)) :=
  PE.imp (pe_callB (call_min2 hc) hg hm (by decide +kernel) (pa_cons ha (pa_cons hb pa_nil he2) he) (by decide) (by decide) he hpl) fun σ H Q h => two_of (fun x y H Q ⟨M, d, e, c, hd, he, hg, ht, k⟩ => by
    unfold minD at hg
    split at hg
    · cases hg; cases hd; cases he
      exact ⟨_, _, rfl, k _ H .rfl' rfl⟩
    · cases hg) h
end
end En
set_option Elab.async false
set_option linter.all false
set_option maxRecDepth 100000
namespace En
open PySem PySem.Spec PyProof.Rows L2
section
variable {X : Cx} {S : Sg} {M0 B : MS} {E : XK} {ow ow0 : OW} {env : Env'} {σ : L2.St} {H H0 : Hp}
def Slot.isIo : Slot → Bool
  | .io _ => true
  | _ => false
theorem mem_set {i : Nat} {x : Option Addr} {b : Addr} (h : some b ∈ ow.set i x) : some b ∈ ow ∨ x = some b := by
  rcases List.mem_or_eq_of_mem_set h with z | z
  · exact .inl z
  · exact .inr z.symm
theorem md_set {i : Nat} : ∀ b, Md B (ow.set i none) b → Md B ow b := fun b h => h.elim .inl fun z => .inr ((mem_set z).elim (fun z => z) fun z => by cases z)
theorem Stp.setNone {i : Nat} (st : Stp ow0 H0 ow H) : Stp ow0 H0 (ow.set i none) H := ⟨st.kp, fun j a h => by
  by_cases hj : i = j
  · subst hj
    by_cases hi : i < ow.length
    · rw [List.getElem?_set_self hi] at h; cases h
    · rw [List.getElem?_eq_none (by simpa using hi)] at h; cases h
  · rw [List.getElem?_set_ne hj] at h; exact st.nwp j a h, st.gr⟩
theorem Stp.setNew {i : Nat} {a : Addr} (st : Stp ow0 H0 ow H) (hf : H0 a = none) : Stp ow0 H0 (ow.set i (some a)) H := ⟨st.kp, fun j b h => by
  by_cases hj : i = j
  · subst hj
    by_cases hi : i < ow.length
    · rw [List.getElem?_set_self hi] at h; cases h; exact .inr hf
    · rw [List.getElem?_eq_none (by simpa using hi)] at h; cases h
  · rw [List.getElem?_set_ne hj] at h; exact st.nwp j b h, st.gr⟩
theorem Sim.m0i {i : Nat} {sl : Slot} {a : Addr} (s : Sim S M0 B ow env σ H) (e : env[i]? = some sl) (n : sl.isIo = false) (ha : ow[i]? = some (some a)) : ¬ M0 a := by
  obtain ⟨o, q⟩ := s.live i a ha
  rcases q with q | q
  · obtain ⟨b, h1, _, _, h4⟩ := s.own i o q
    rw [ha] at h1; cases h1; exact h4
  · rw [e] at q; cases q; cases n
/-- a slot is stored: a value, or nothing -/
theorem Sim.setV {i : Nat} {w : Option V} {sl sl' : Slot} (s : Sim S M0 B ow env σ H) (e : env[i]? = some sl) (n : sl.isIo = false) (h : sl' = .un ∨ ∃ d v, sl' = .val d ∧ w = some v ∧ Rep S (Md B (ow.set i none)) H d v) :
    Sim S M0 B (ow.set i none) (env.set i sl') (σ.set i w) H := by
  have hi : i < env.length := (List.getElem?_eq_some_iff.mp e).1
  have hi2 : i < σ.length := by rw [← s.l1]; exact hi
  have hi3 : i < ow.length := by rw [s.l2]; exact hi2
  have mv : ∀ b o, ¬ Md B ow b → H b = some o → H b = some o ∧ ¬ Md B (ow.set i none) b := fun b o n e => ⟨e, fun z => n (md_set b z)⟩
  exact {
    l1 := by rw [List.length_set, List.length_set]; exact s.l1
    l2 := by rw [List.length_set, List.length_set]; exact s.l2
    val := fun j d ej => by
      by_cases hj : i = j
      · subst hj
        rw [List.getElem?_set_self hi] at ej
        rw [List.getElem?_set_self hi2]
        rcases h with rfl | ⟨d', v, rfl, rfl, r⟩
        · cases ej
        · cases ej; exact ⟨v, rfl, r⟩
      · rw [List.getElem?_set_ne hj] at ej
        rw [List.getElem?_set_ne hj]
        obtain ⟨v, h1, h2⟩ := s.val j d ej
        exact ⟨v, h1, Rep.move mv _ _ h2⟩
    own := fun j o ej => by
      by_cases hj : i = j
      · subst hj
        rw [List.getElem?_set_self hi] at ej
        rcases h with rfl | ⟨d', v, rfl, rfl, r⟩ <;> cases ej
      · rw [List.getElem?_set_ne hj] at ej
        rw [List.getElem?_set_ne hj, List.getElem?_set_ne hj]
        obtain ⟨a, h1, h2, h3, h4⟩ := s.own j o ej
        exact ⟨a, h1, h2, h3.move (fun _ z => z) mv, h4⟩
    io := fun j o ej => by
      by_cases hj : i = j
      · subst hj
        rw [List.getElem?_set_self hi] at ej
        rcases h with rfl | ⟨d', v, rfl, rfl, r⟩ <;> cases ej
      · rw [List.getElem?_set_ne hj] at ej
        rw [List.getElem?_set_ne hj, List.getElem?_set_ne hj]
        obtain ⟨a, h1, h2, h3⟩ := s.io j o ej
        exact ⟨a, h1, h2, h3.move (fun _ z => z) mv⟩
    live := fun j a ha => by
      by_cases hj : i = j
      · subst hj
        rw [List.getElem?_set_self hi3] at ha; cases ha
      · rw [List.getElem?_set_ne hj] at ha
        rw [List.getElem?_set_ne hj]
        exact s.live j a ha
    inj := fun j k a h1 h2 => by
      by_cases hj : i = j
      · subst hj
        rw [List.getElem?_set_self hi3] at h1; cases h1
      · by_cases hk : i = k
        · subst hk
          rw [List.getElem?_set_self hi3] at h2; cases h2
        · rw [List.getElem?_set_ne hj] at h1
          rw [List.getElem?_set_ne hk] at h2
          exact s.inj j k a h1 h2
    dis := fun a ha z => (mem_set z).elim (s.dis a ha) fun z => by cases z
    trk := s.trk
    m0 := fun a ha => by
      rcases s.m0 a ha with z | z
      · exact .inl z
      · obtain ⟨j, hj, ej⟩ := List.getElem_of_mem z
        have ej' : ow[j]? = some (some a) := by rw [List.getElem?_eq_getElem hj, ej]
        by_cases hij : i = j
        · subst hij
          exact absurd ha (s.m0i e n ej')
        · refine .inr (List.mem_of_getElem? (i := j) ?_)
          rw [List.getElem?_set_ne hij]; exact ej' }
/-- a slot takes a new object -/
theorem Sim.setNew {i : Nat} {sl : Slot} {a : Addr} {o : Ob} (s : Sim S M0 (plus B a) ow env σ H) (na : ¬ Md B ow a) (n0 : ¬ M0 a) (r : ObRep S (Md (plus B a) ow) H a o) (e : env[i]? = some sl) (n : sl.isIo = false) :
    Sim S M0 B (ow.set i (some a)) (env.set i (.own o)) (σ.set i (some (.ref a))) H := by
  have hi : i < env.length := (List.getElem?_eq_some_iff.mp e).1
  have hi2 : i < σ.length := by rw [← s.l1]; exact hi
  have hi3 : i < ow.length := by rw [s.l2]; exact hi2
  have sub : ∀ b, Md B (ow.set i (some a)) b → Md (plus B a) ow b := fun b z => by
    rcases z with z | z
    · exact .inl (.inl z)
    · rcases mem_set z with z | z
      · exact .inr z
      · cases z; exact .inl (.inr rfl)
  have mv : ∀ b o, ¬ Md (plus B a) ow b → H b = some o → H b = some o ∧ ¬ Md B (ow.set i (some a)) b := fun b o n e => ⟨e, fun z => n (sub b z)⟩
  have no : ∀ j, ow[j]? ≠ some (some a) := fun j z => na (.inr (List.mem_of_getElem? z))
  exact {
    l1 := by rw [List.length_set, List.length_set]; exact s.l1
    l2 := by rw [List.length_set, List.length_set]; exact s.l2
    val := fun j d ej => by
      by_cases hj : i = j
      · subst hj
        rw [List.getElem?_set_self hi] at ej
        cases ej
      · rw [List.getElem?_set_ne hj] at ej
        rw [List.getElem?_set_ne hj]
        obtain ⟨v, h1, h2⟩ := s.val j d ej
        exact ⟨v, h1, Rep.move mv _ _ h2⟩
    own := fun j o' ej => by
      by_cases hj : i = j
      · subst hj
        rw [List.getElem?_set_self hi] at ej
        cases ej
        rw [List.getElem?_set_self hi3, List.getElem?_set_self hi2]
        exact ⟨a, rfl, rfl, r.move (fun _ z => z) mv, n0⟩
      · rw [List.getElem?_set_ne hj] at ej
        rw [List.getElem?_set_ne hj, List.getElem?_set_ne hj]
        obtain ⟨b, h1, h2, h3, h4⟩ := s.own j o' ej
        exact ⟨b, h1, h2, h3.move (fun _ z => z) mv, h4⟩
    io := fun j o' ej => by
      by_cases hj : i = j
      · subst hj
        rw [List.getElem?_set_self hi] at ej
        cases ej
      · rw [List.getElem?_set_ne hj] at ej
        rw [List.getElem?_set_ne hj, List.getElem?_set_ne hj]
        obtain ⟨b, h1, h2, h3⟩ := s.io j o' ej
        exact ⟨b, h1, h2, h3.move (fun _ z => z) mv⟩
    live := fun j b hb => by
      by_cases hj : i = j
      · subst hj
        rw [List.getElem?_set_self hi]
        exact ⟨o, .inl rfl⟩
      · rw [List.getElem?_set_ne hj] at hb
        rw [List.getElem?_set_ne hj]
        exact s.live j b hb
    inj := fun j k b h1 h2 => by
      by_cases hj : i = j
      · subst hj
        by_cases hk : i = k
        · exact hk
        · rw [List.getElem?_set_self hi3] at h1; cases h1
          rw [List.getElem?_set_ne hk] at h2
          exact absurd h2 (no k)
      · rw [List.getElem?_set_ne hj] at h1
        by_cases hk : i = k
        · subst hk
          rw [List.getElem?_set_self hi3] at h2; cases h2
          exact absurd h1 (no j)
        · rw [List.getElem?_set_ne hk] at h2
          exact s.inj j k b h1 h2
    dis := fun b hb z => by
      rcases mem_set z with z | z
      · exact s.dis b (.inl hb) z
      · cases z; exact na (.inl hb)
    trk := fun b hb => s.trk b (.inl hb)
    m0 := fun b hb => by
      rcases s.m0 b hb with (z | z) | z
      · exact .inl z
      · subst z; exact absurd hb n0
      · obtain ⟨j, hj, ej⟩ := List.getElem_of_mem z
        have ej' : ow[j]? = some (some b) := by rw [List.getElem?_eq_getElem hj, ej]
        by_cases hij : i = j
        · subst hij
          exact absurd hb (s.m0i e n ej')
        · refine .inr (List.mem_of_getElem? (i := j) ?_)
          rw [List.getElem?_set_ne hij]; exact ej' }
theorem EVOk.simA {e : EV} {v : V} (h : EVOk S M0 B ow env σ H e v) : Sim S M0 B ow env σ H := by
  cases e with
  | val d => exact h.1
  | own i => exact h.1
  | new o =>
    have m := h.m0
    obtain ⟨a, rfl, n, n0, s, r⟩ := h
    exact s.anti (fun _ z => .inl z) m
/-- a value is stored in a slot -/
def putE (i : Nat) (e : EV) (env : Env') : Option Env' := match env[i]? with
  | none => none
  | some sl => if sl.isIo then none else match e with
    | .val d => some (env.set i (.val d))
    | .new o => some (env.set i (.own o))
    | .own _ => none
theorem EVOk.put {e : EV} {v : V} {i : Nat} {env' : Env'} (h : EVOk S M0 B ow env σ H e v) (st : Stp ow0 H0 ow H) (nw : Nw H0 e v) (q : putE i e env = some env') : ∃ ow', Stp ow0 H0 ow' H ∧ Sim S M0 B ow' env' (σ.set i (some v)) H := by
  unfold putE at q
  split at q
  · cases q
  · rename_i sl he
    split at q
    · cases q
    · rename_i n
      have n : sl.isIo = false := by simpa using n
      cases e with
      | val d =>
        cases q
        exact ⟨_, st.setNone, h.1.setV he n (.inr ⟨d, v, rfl, rfl, h.2.anti md_set⟩)⟩
      | new o =>
        cases q
        obtain ⟨a, rfl, na, n0, s, r⟩ := h
        exact ⟨_, st.setNew (nw a rfl), s.setNew na n0 r he n⟩
      | own j => cases q
/-- a variable's value, to be kept: one's own object is let go -/
def kvF (F : Nat → List Str) (i : Nat) : EF where
  r := fun env P _ => match env[i]? with
    | some (.val d) => P (.val d) env
    | some (.own o) => ∃ d, o.fr F = some d ∧ P (.val d) (env.set i (.val d))
    | _ => False
  m := fun hp _ h => by
    split at h
    · exact hp _ _ h
    · obtain ⟨d, h1, h2⟩ := h; exact ⟨d, h1, hp _ _ h2⟩
    · exact h.elim
theorem Sim.frz {i : Nat} {o : Ob} {d : D} (s : Sim S M0 B ow env σ H) (e : env[i]? = some (.own o)) (q : o.fr S.flds = some d) : ∃ a, σ[i]? = some (some (.ref a)) ∧ Rep S (Md B (ow.set i none)) H d (.ref a) ∧ Sim S M0 B (ow.set i none) (env.set i (.val d)) σ H := by
  obtain ⟨a, h1, h2, h3, h4⟩ := s.own i o e
  have na : ¬ Md B (ow.set i none) a := fun z => by
    rcases z with z | z
    · exact s.dis a z (List.mem_of_getElem? h1)
    · obtain ⟨j, hj, ej⟩ := List.getElem_of_mem z
      have ej' : (ow.set i none)[j]? = some (some a) := by rw [List.getElem?_eq_getElem hj, ej]
      by_cases hij : i = j
      · subst hij
        rw [List.getElem?_set_self (List.getElem?_eq_some_iff.mp h1).1] at ej'; cases ej'
      · rw [List.getElem?_set_ne hij] at ej'
        exact hij (s.inj i j a h1 ej')
  have r : Rep S (Md B (ow.set i none)) H d (.ref a) := (h3.anti (M' := Md B (ow.set i none)) md_set).rep na q
  refine ⟨a, h2, r, ?_⟩
  have := s.setV (w := some (.ref a)) (sl' := .val d) e rfl (.inr ⟨d, .ref a, rfl, rfl, r⟩)
  have hs : σ.set i (some (.ref a)) = σ := by
    apply List.ext_getElem?
    intro j
    by_cases hj : i = j
    · subst hj
      rw [h2, List.getElem?_set_self (List.getElem?_eq_some_iff.mp h2).1]
    · rw [List.getElem?_set_ne hj]
  rw [hs] at this
  exact this
theorem r_kv {i : Nat} {x : Str} {pos : Pos} (hN : X.N[i]? = some x := by rfl) (hv : Vis X.env.scope x := by first | exact Or.inl rfl | exact Or.inr (Or.inl rfl) | exact Or.inr (Or.inr rfl)) (hd : (x == ("__debug__" : Str)) = false := by decide)
    (hcd : (x == ("__classdict__" : Str)) = false := by decide) : PE X (.Name x pos) (tE S M0 E (kvF S.flds i)) := by
  refine PE.imp (pe_var hN hv hd hcd) fun σ H Q h => ?_
  obtain ⟨B, ow, env, s, h⟩ := h
  have h : (match env[i]? with
    | some (.val d) => _
    | some (.own o) => _
    | _ => False) := h
  split at h
  · rename_i d e
    obtain ⟨v, h1, h2⟩ := s.val i d e
    exact ⟨v, h1, h v H ow .refl trivial ⟨s, h2⟩⟩
  · rename_i o e
    obtain ⟨d, h1, h2⟩ := h
    obtain ⟨a, k1, k2, k3⟩ := s.frz e h1
    exact ⟨_, k1, h2 _ H _ (Stp.refl.setNone) trivial ⟨k3, k2⟩⟩
  · exact h.elim
/-! ### methods of one's own lists -/
def Slot.lst? : Slot → Option (List D)
  | .own (.lst ds) => some ds
  | .io (.lst ds) => some ds
  | _ => none
theorem lst_ob {sl : Slot} {ds : List D} (h : sl.lst? = some ds) : sl.ob = some (.lst ds) := by
  cases sl with
  | own o => cases o <;> cases h; rfl
  | io o => cases o <;> cases h; rfl
  | un => cases h
  | val d => cases h
/-- v.append(e) -/
def appF (F : Nat → List Str) (i : Nat) (f : EF) : EF where
  r := fun env P X => (∃ sl, env[i]? = some sl ∧ (∃ ds, sl.lst? = some ds)) ∧ f.r env (fun e env1 => ∃ d, e.keep F = some d ∧ ∃ sl ds, env1[i]? = some sl ∧ sl.lst? = some ds ∧ ds.length < 100000 ∧ P (.val .non) (env1.set i (sl.put (.lst (ds ++ [d]))))) X
  m := fun hp hx h => ⟨h.1, f.m (fun e env1 ⟨d, h1, sl, ds, h2, h3, h4, h5⟩ => ⟨d, h1, sl, ds, h2, h3, h4, hp _ _ h5⟩) hx h.2⟩
variable {e : Expr} {es : List Expr} {f f2 : EF} {pos p apos : Pos} {x : Str} {l : LF}
theorem line5 {n : Nat} (h : n < 100000) : n < sizeLine := by rw [sizeLine_eq]; omega
theorem slot_fix {i : Nat} {sl : Slot} {o : Ob} {a : Addr} (s : Sim S M0 B ow env σ H) (e : env[i]? = some sl) (q : sl.ob = some o) (h : σ[i]? = some (some (.ref a))) : ow[i]? = some (some a) ∧ ObRep S (Md B ow) H a o := by
  obtain ⟨b, h1, h2, h3⟩ := s.slot e q
  rw [h] at h2; cases h2
  exact ⟨h1, h3⟩
theorem r_app {i : Nat} (hN : X.N[i]? = some x := by rfl) (ha : PE X e (tE S M0 E f)) (hv : Vis X.env.scope x := by first | exact Or.inl rfl | exact Or.inr (Or.inl rfl) | exact Or.inr (Or.inr rfl)) (hd : (x == ("__debug__" : Str)) = false := by decide)
    (hcd : (x == ("__classdict__" : Str)) = false := by decide)
    (hbase : attributeBase (.Name x p) "append" X.env (eval (.Name x p) X.env) = eval (.Name x p) X.env := by rfl)
    (hfew : ((backTo pos (starEach [e] X.env)).all (fun x => !x.1) && (backToKw pos (keywordEach [] X.env)).all (fun x => x.1.isSome)
      && decide ([e].length + ([] : List Keyword).length + (if ([] : List Keyword).isEmpty then 0 else 1) < 30)) = true := by rfl)
    (hline : (apos.endLine == pos.line) = true := by rfl) (hs : starEach [e] X.env = (false, eval e X.env) :: starEach [] X.env := by rfl) (hplain : (backTo pos (starEach [] X.env)).any (·.1) = false := by rfl) :
    PE X (.Call (.Attribute (.Name x p) "append" apos) [e] [] pos) (tE S M0 E (appF S.flds i f)) :=
  PE.imp (pe_bm PySem.F.plainAttrs_list PySem.F.slot_list_append PySem.F.type_list_append (r := rAppend) (fun pins s σ H x xs v us Q => mt_append pins s σ H x xs v us Q) (pe_var hN hv hd hcd) (pa_cons ha pa_nil hs) hbase hfew hline hs hplain) fun σ H Q h => by
    obtain ⟨B, ow, env, s, ⟨sl, h1, ds, h2⟩, h3⟩ := h
    obtain ⟨a, k1, k2, k3⟩ := s.slot h1 (lst_ob h2)
    obtain ⟨vs, k4, k5⟩ := k3
    refine ⟨_, k2, .inl ⟨rfl, vs, SqL.of k4⟩, ?_⟩
    refine ⟨B, ow, env, s, f.m (fun e1 env1 g v H1 ow1 st1 nw1 ok1 => ?_) (fun _ _ h => h) h3⟩
    obtain ⟨d, q, sl1, ds1, g1, g2, g3, g4⟩ := g
    obtain ⟨s1, r1⟩ := ok1.keep q
    obtain ⟨b1, b2⟩ := slot_fix s1 g1 (lst_ob g2) k2
    obtain ⟨vs1, b3, b4⟩ := b2
    have hm : Md B ow1 a := .inr (List.mem_of_getElem? b1)
    refine ⟨a, vs1, v, rfl, rfl, b3, by rw [← b4.len]; exact line5 g3, ?_⟩
    obtain ⟨p1, p2⟩ := s1.put (o' := .lst (ds1 ++ [d])) (ho := .lst (vs1 ++ [v])) g1 (lst_ob g2) b1 ⟨_, upd_same, (b4.upd_at hm).append ⟨v, [], rfl, r1.upd_at hm, rfl⟩⟩
    exact g4 _ _ ow1 (st1.trans p2) trivial ⟨p1, rfl⟩
theorem RepL.dropLast {M : MS} {ds : List D} {vs : List V} (h : RepL S M H ds vs) : RepL S M H ds.dropLast vs.dropLast := by
  rw [List.dropLast_eq_take, List.dropLast_eq_take, h.len]; exact RepL.take 0 h
/-- v.pop() -/
def popF (i : Nat) : EF where
  r := fun env P X => ∃ sl ds d, env[i]? = some sl ∧ sl.lst? = some ds ∧ ds[ds.length - 1]? = some d ∧ P (.val d) (env.set i (sl.put (.lst ds.dropLast)))
  m := fun hp hx ⟨sl, ds, d, h1, h2, h3, h4⟩ => ⟨sl, ds, d, h1, h2, h3, hp _ _ h4⟩
theorem r_pop {i : Nat} (hN : X.N[i]? = some x := by rfl) (hv : Vis X.env.scope x := by first | exact Or.inl rfl | exact Or.inr (Or.inl rfl) | exact Or.inr (Or.inr rfl)) (hd : (x == ("__debug__" : Str)) = false := by decide)
    (hcd : (x == ("__classdict__" : Str)) = false := by decide)
    (hbase : attributeBase (.Name x p) "pop" X.env (eval (.Name x p) X.env) = eval (.Name x p) X.env := by rfl)
    (hline : (apos.endLine == pos.line) = true := by rfl) : PE X (.Call (.Attribute (.Name x p) "pop" apos) [] [] pos) (tE S M0 E (popF i)) :=
  PE.imp (pe_bm0 PySem.F.plainAttrs_list PySem.F.slot_list_pop PySem.F.type_list_pop (r := rPop) (fun pins s σ H x xs v us Q => mt_pop pins s σ H x xs v us Q) (pe_var hN hv hd hcd) hbase hline) fun σ H Q h => by
    obtain ⟨B, ow, env, s, sl, ds, d, h1, h2, h3, h4⟩ := h
    obtain ⟨a, k1, k2, k3⟩ := s.slot h1 (lst_ob h2)
    obtain ⟨vs, k4, k5⟩ := k3
    have hm : Md B ow a := .inr (List.mem_of_getElem? k1)
    obtain ⟨v, e1, r1⟩ := k5.get h3
    refine ⟨_, k2, .inl ⟨rfl, vs, SqL.of k4⟩, a, vs, v, rfl, rfl, k4, by rw [← k5.len]; exact e1, ?_⟩
    obtain ⟨p1, p2⟩ := s.put (o' := .lst ds.dropLast) (ho := .lst vs.dropLast) h1 (lst_ob h2) k1 ⟨_, upd_same, (k5.upd_at hm).dropLast⟩
    exact h4 _ _ ow p2 trivial ⟨p1, r1.upd_at hm⟩
end
end En
set_option Elab.async false
set_option linter.all false
set_option maxRecDepth 100000
namespace En
open PySem PySem.Spec PyProof.Rows L2
open PySem.Sem (wp)
open AutoSeq1 (wpAny_loadPart')
set_option maxHeartbeats 1000000 in
theorem meets_enum_newT (l : Addr) (items : Array Value) (n : Nat) (dct : Option Addr) (sl : Array (Option Value)) :
    Meets (Builtin.«enumerate.__new__» ⟨[.type "enumerate", .ref l], []⟩) (fun _ R s => s.heap.get? l = some { cls := .type "tuple", dict := dct, data := .seq items n, slots := sl } ∧
      R (.ok (.ret (.ref (s.heap.push { cls := .type "tuple_iterator", data := .fields #[.ref l, .int 0 0] }).objs.size)))
        { s with heap := (s.heap.push { cls := .type "tuple_iterator", data := .fields #[.ref l, .int 0 0] }).push { cls := .type "enumerate", data := .fields #[.none, .bool false, .ref s.heap.objs.size, rawInt 0, .none, .none] } }) :=
  .of_wp fun prog w A R s h => by
    obtain ⟨hp, g, d, tk, os⟩ := s; obtain ⟨hl, h⟩ := h
    have hsub := sub_enumerate
    have hL : Heap.IsTuple (Shared.heap ⟨hp, g, d, tk, os⟩) l items := ⟨_, hl, rfl, n, rfl⟩
    wp_walk using wpAny_loadPart' hl
    refine wpAny_stack_any fun st => wpAny_pure ?_
    split
    · rename_i c _ _ _ _ _
      cases (c == Value.type "enumerate")
      · wp_walk using wpAny_loadPart' hl, wpAny_pyIter_tuple hL
        exact ⟨_, rfl, h⟩
      · wp_walk using wpAny_loadPart' hl, wpAny_pyIter_tuple hL
        exact ⟨_, rfl, h⟩
    · wp_walk using wpAny_loadPart' hl, wpAny_pyIter_tuple hL
      exact ⟨_, rfl, h⟩
section
variable {prog : Program} {w : World} {A : Around} {E : Value → Shared → Prop} {s : Shared}
theorem call_enum_tup {l : Addr} {items : Array Value} {Q : Value → Shared → Prop} (hL : s.heap.IsTuple l items)
    (h : ∀ h', IsEnum h' (s.heap.objs.size + 1) s.heap.objs.size 0 .none → h'.IsTupleIter s.heap.objs.size l 0 → h'.objs.size = s.heap.objs.size + 2 →
      (∀ b o, s.heap.get? b = some o → h'.get? b = some o) → Q (.ref (s.heap.objs.size + 1)) { s with heap := h' }) :
    wpAny (model prog w) A (call (.type "enumerate") [.ref l]) Q E s := by
  obtain ⟨⟨c, dct, dt, sl⟩, hl, hc, n, hd⟩ := hL
  replace hc : c = .type "tuple" := hc
  replace hd : dt = .seq items n := hd
  subst hc hd
  refine callType_new F.called_enumerate (by decide) (F.typeCall_enumerate_1 _) (F.newCall_enumerate_1 _) (fun obj => F.args_object_init_2 obj _) F.entry_enumerate_new
    (meets_enum_newT l items n dct sl) ⟨hl, ?_⟩
  have hz : (s.heap.push { cls := .type "tuple_iterator", data := .fields #[.ref l, .int 0 0] }).objs.size = s.heap.objs.size + 1 := Heap.size_push ..
  show _ ∧ _
  rw [hz]
  have he : IsEnum ((s.heap.push { cls := .type "tuple_iterator", data := .fields #[.ref l, .int 0 0] }).push
      { cls := .type "enumerate", data := .fields #[.none, .bool false, .ref s.heap.objs.size, rawInt 0, .none, .none] }) (s.heap.objs.size + 1) s.heap.objs.size 0 .none := by
    have := Heap.get?_push_size (s.heap.push { cls := .type "tuple_iterator", data := .fields #[.ref l, .int 0 0] })
      (o := { cls := .type "enumerate", data := .fields #[.none, .bool false, .ref s.heap.objs.size, rawInt 0, .none, .none] }) rfl
    rw [hz] at this; exact this
  refine ⟨⟨_, he, rfl⟩, h _ he ⟨_, Heap.get?_push_of_some _ (Heap.get?_push_size _ rfl), rfl, rfl⟩ (by rw [Heap.size_push, hz]) fun b o x => Heap.get?_push_of_some _ (Heap.get?_push_of_some _ x)⟩
end
/-- the tuple at a, each item in a new pair -/
def IteT (K : PySem.W.Frag) (a : Addr) : It :=
  ⟨fun i H => ∃ (xs : List V) (x : V), SqT K H a xs ∧ xs[i]? = some x, fun i H v H' => ∃ T x, v = .ref T ∧ H T = none ∧ H' = upd H T (.tup [.int (i : Nat), x]) ∧ ∀ xs, SqT K H a xs → xs[i]? = some x, fun i H => ∃ xs : List V, SqT K H a xs ∧ xs.length = i⟩
theorem turn_enumT {P : Program} {w : World} {K : PySem.W.Frag} {elts : List Expr} {kk : Nat} {tpos : Pos} (a e it : Addr) :
    Turn P w K (.Tuple elts kk tpos) (IteT K a) [e, it] e (fun i h => (∃ old, IsEnum h e it ((i : Nat) : Int) old) ∧ h.IsTupleIter it a i ∧ e ≠ it ∧ a ≠ it ∧ e ≠ a) where
  mem := by simp
  obj := fun i h st b hb => by
    obtain ⟨⟨old, he⟩, ⟨o, ho, hc, hd⟩, _⟩ := st
    have e' : b = e ∨ b = it := by simpa using hb
    rcases e' with z | z
    · rw [z]; exact ⟨_, he, fun v q => nomatch q⟩
    · rw [z]; exact ⟨o, ho, fun v q => by rw [hd] at q; cases q⟩
  keep := fun i h h' st k => let ⟨⟨old, he⟩, hi, hne⟩ := st; ⟨⟨old, k e (by simp) _ he⟩, hi.at fun o q => k it (by simp) o q, hne⟩
  item := by
    intro X hP hw hK hc i pins s σ H E I hf st hg
    subst hP hw hK
    obtain ⟨⟨old, he⟩, hit, hne, hai, hea⟩ := st
    obtain ⟨xs, x, hq, hx⟩ := hg
    obtain ⟨its, rv, p, hz⟩ := I.tuple hq
    obtain ⟨u, hu, ru⟩ := rv.get hx
    have hel : e < s.heap.objs.size := Heap.lt_size he
    have hil : it < s.heap.objs.size := by obtain ⟨_, q, _⟩ := hit; exact Heap.lt_size q
    have hlt : i < its.toArray.size := by
      have := (List.getElem?_eq_some_iff.mp hu).1
      simpa using this
    refine wpAny_pyNext_enum_itemC (Draws.tuple (A := X.A.in1) (I.ok.hd hc) it a hai its.toArray) he ⟨hit, p⟩ hlt hne (by simp [hne, hea]) fun x' h' tk hx' ho hst' hT hsz hk => ?_
    have ex : x' = u := by
      have : its.toArray[i]? = some x' := hx'
      rw [List.getElem?_toArray, hu] at this
      exact (Option.some.inj this).symm
    subst ex
    refine ⟨_, rfl, wpAny_letOwnedTupleGo_enum (s := { s with heap := h', toks := tk + 1 }) ho fun h'' he' sb => ?_⟩
    have hT2 : h''.get? s.heap.objs.size = some { cls := .type "tuple", data := .seq #[.int i tk, x'] } := (sb.2 _ (Nat.ne_of_gt hel)).trans hT
    have new : ObjOk X.prog X.w (upd H s.heap.objs.size (.tup [.int (i : Nat), x])) h'' s.heap.objs.size (.tup [.int (i : Nat), x]) :=
      ⟨by show 2 ≤ sizeLine; decide, [.int i tk, x'], .cons ⟨_, rfl⟩ (.cons ru .nil), ⟨_, hT2, rfl, _, rfl⟩⟩
    have I1 : Inv X pins σ (upd H s.heap.objs.size (.tup [.int (i : Nat), x])) { s with heap := h'', toks := tk + 1 } :=
      I.turnedNew (ch := [e, it]) (fun b ob hb q => (sb.2 b (fun z => hb (by simp [z]))).trans (hk b ob (fun z => hb (by simp [z])) (fun z => hb (by simp [z])) q)) hf (Nat.le_refl _) new
    refine ⟨.ref s.heap.objs.size, _, I1, rfl, ⟨_, x, rfl, I.hok.fresh (Nat.le_refl _), rfl, fun ys hy => by rw [I.tuple_inj hy hq]; exact hx⟩, ⟨⟨x', ?_⟩, hst'.1.at fun o q => (sb.2 it (Ne.symm hne)).trans q, hne, hai, hea⟩, fun b hb => ?_⟩
    · have e1 : ((i + 1 : Nat) : Int) = (i : Int) + 1 := by omega
      rw [e1]; exact he'
    · have hb' : b < s.heap.objs.size := by
        have e' : b = e ∨ b = it := by simpa using hb
        rcases e' with z | z
        · rw [z]; exact hel
        · rw [z]; exact hil
      rw [upd_ne (Nat.ne_of_lt hb')]
      exact (hf b hb).1
  done := by
    intro X hP hw hK hc i pins s σ H E I hf st hg
    subst hP hw hK
    obtain ⟨⟨old, he⟩, hit, hne, hai, hea⟩ := st
    obtain ⟨xs, hq, hx⟩ := hg
    obtain ⟨its, rv, p, hz⟩ := I.tuple hq
    obtain ⟨f0, f1, f2, f3, f4, f5⟩ := hf it (by simp)
    have hl := rv.length
    have hi : i = its.toArray.size := by simp; omega
    rw [hi] at hit
    exact wpAny_pyNext_enum_endD (Draws.tuple (A := X.A.in1) (I.ok.hd hc) it a hai its.toArray) he ⟨hit, p⟩ fun h' eb => ⟨rfl, I.turned (t' := s.toks) (fun b o hb q => eb b o hb q) f0 f1 f3 f4 f5⟩
  self := fun A i s Q E st h => let ⟨⟨_, he⟩, _⟩ := st; wpAny_pyIter_enum he h
def iEnumT (K : PySem.W.Frag) (ta : TA) : TI := fun σ H R => ta σ H fun vs H1 => ∃ a xs, vs = [.ref a] ∧ ((SqL K H1 a xs ∧ R (Ite K a) H1) ∨ (SqT K H1 a xs ∧ R (IteT K a) H1))
theorem pi_enumT {X : Cx} {e : Expr} {ta : TA} {p pos tpos : Pos} {elts : List Expr} {kk : Nat} (hg : Gl X "enumerate") (hm : X.mg "enumerate" = none) (ha : PA X [e] ta) (hs : starEach [e] X.env = [(false, eval e X.env)] := by rfl) :
    PI X (.Tuple elts kk tpos) (.Call (.Name "enumerate" p) [e] [] pos) (iEnumT X.K ta) := by
  refine ⟨fun pins s σ H R I h => ?_⟩
  refine Call_ (ld_blt I hg hm boot_enumerate (PyProof.Rows.callWith_type1 (thn (ha.run pos pins s σ H _ I h) fun us s1 ⟨vs, H1, I1, r1, q1⟩ => ?_) hs rfl))
  obtain ⟨a, xs, ex, q⟩ := q1
  subst ex
  cases r1 with
  | cons r rr =>
    cases rr
    cases r
    have fp : ∀ b ∈ [s1.heap.objs.size + 1, s1.heap.objs.size], FpOk X pins H1 b := fun b hb => by
      have e' : b = s1.heap.objs.size + 1 ∨ b = s1.heap.objs.size := by simpa using hb
      have hle : s1.heap.objs.size ≤ b := by
        rcases e' with z | z
        · rw [z]; exact Nat.le_add_right _ _
        · rw [z]; exact Nat.le_refl _
      exact I1.fpOk hle (I1.hok.fresh hle)
    rcases q with ⟨hq, q⟩ | ⟨hq, q⟩
    · obtain ⟨its, rv, p', hz⟩ := I1.list hq
      refine call_enumerate_list p'.isList fun h' he hit hsz hk => wpAny_pyIter_enum he ?_
      have I2 : Inv X pins σ H1 { s1 with heap := h' } := I1.kept (t' := s1.toks) hk
      exact ⟨s1.heap.objs.size + 1, [s1.heap.objs.size + 1, s1.heap.objs.size], _, _, H1, rfl, I2, turn_enum a (s1.heap.objs.size + 1) s1.heap.objs.size, ⟨⟨.none, he⟩, hit, Nat.succ_ne_self _⟩, fp, q⟩
    · obtain ⟨its, rv, p', hz⟩ := I1.tuple hq
      have hlt : a < s1.heap.objs.size := p'.lt
      refine call_enum_tup p' fun h' he hit hsz hk => wpAny_pyIter_enum he ?_
      have I2 : Inv X pins σ H1 { s1 with heap := h' } := I1.kept (t' := s1.toks) hk
      exact ⟨s1.heap.objs.size + 1, [s1.heap.objs.size + 1, s1.heap.objs.size], _, _, H1, rfl, I2, turn_enumT a (s1.heap.objs.size + 1) s1.heap.objs.size, ⟨⟨.none, he⟩, hit, Nat.succ_ne_self _, Nat.ne_of_lt hlt, Nat.ne_of_gt (Nat.lt_succ_of_lt hlt)⟩, fp, q⟩
end En
set_option Elab.async false
set_option linter.all false
set_option maxRecDepth 100000
namespace En
open PySem PySem.Spec PyProof.Rows L2
section
variable {X : Cx} {S : Sg} {M0 B : MS} {E : XK} {ow ow0 : OW} {env : Env'} {σ : L2.St} {H H0 : Hp}
variable {a b c e : Expr} {es : List Expr} {f f2 f3 : EF} {t t2 : TF} {pos p apos : Pos} {x : Str} {l : LF} {tg : Expr}
/-! ### tuple(list of texts), told as such -/
theorem strs_len : ∀ {ds : List D} {xs : List Str}, strsD? ds = some xs → ds.length = xs.length
  | [], _, h => by cases h; rfl
  | .str b :: ds, _, h => by
    obtain ⟨bs', e1, rfl⟩ := Option.map_eq_some_iff.mp (show (strsD? ds).map (b :: ·) = some _ from h)
    simp [strs_len e1]
  | .non :: _, _, e => by cases e
  | .int _ :: _, _, e => by cases e
  | .bl _ :: _, _, e => by cases e
  | .tup _ :: _, _, e => by cases e
  | .lst _ :: _, _, e => by cases e
  | .dK _ _ :: _, _, e => by cases e
  | .dT _ _ :: _, _, e => by cases e
  | .ins _ _ :: _, _, e => by cases e
  | .nms _ :: _, _, e => by cases e
theorem c_tupN (hk : X.K = S.K) : CallS X S (.type "tuple") tupN := by
  intro pins s σ H xs us Q I r h
  obtain ⟨x, M, d, c, rfl, hd, hg, ht, k⟩ := h
  unfold tupN at hg
  split at hg
  · obtain ⟨ys, h1, rfl⟩ := Option.map_eq_some_iff.mp hg
    obtain ⟨a, vs, rfl, ra, l⟩ := hd.lst
    rw [strs_v l h1] at ra
    rw [← hk] at ra
    obtain ⟨u, rfl, rx⟩ := vals1 r
    cases rx
    obtain ⟨its, r', pl, hz⟩ := I.list ra
    have hlen := r'.length
    refine call_tuple_list pl.isList (fun h' kp => ?_) (by simp only [List.size_toArray] <;> omega)
    have I1 : Inv X pins σ H { s with heap := h' } := I.kept (t' := s.toks) kp
    have I2 : Inv X pins σ (upd H h'.objs.size (.frz { cls := .type "tuple", data := .seq its.toArray } (.tup (ys.map V.str)))) { s with heap := h'.push { cls := .type "tuple", data := .seq its.toArray } } :=
      I1.laid (t' := s.toks) (fun b o e => Heap.get?_push_of_some _ e) (Nat.le_refl _) (show ObjOk X.prog X.w _ _ _ (.frz _ (.tup _)) from ⟨Heap.get?_push_size _ rfl, hz, its, r', IsTup.new _ _⟩)
    have hp := I1.hok.fresh (Nat.le_refl _)
    exact ⟨.ref h'.objs.size, _, I2, rfl, k _ _ (.upd hp) ⟨_, _, rfl, fresh_nm ht hp, upd_same, rfl⟩⟩
  · cases hg
    refine call_tuple_of pins s σ H _ us Q I r ?_
    obtain ⟨a, ob, rfl, na, r, z⟩ := hd
    exact ⟨a, _, rfl, .inr ⟨.inl (.inr ⟨ob, r⟩), k _ H .rfl' ⟨a, ob, rfl, na, r, z⟩⟩⟩
  · cases hg
/-! ### patterns -/
inductive Pat where
  | nm (i : Nat)
  | tp (ps : List Pat)
def tupL? : D → Option (List D)
  | .tup ds => some ds
  | .nms xs => some (xs.map .str)
  | .lst ds => some ds
  | _ => none
mutual
def Pat.put : Pat → D → Env' → Option Env'
  | .nm i, d, env => putE i (.val d) env
  | .tp ps, d, env => match tupL? d with
    | some ds => Pat.putL ps ds env
    | none => none
def Pat.putL : List Pat → List D → Env' → Option Env'
  | [], [], env => some env
  | p :: ps, d :: ds, env => (p.put d env).bind fun env1 => Pat.putL ps ds env1
  | _, _, _ => none
end
theorem putL_len : ∀ {ps : List Pat} {ds : List D} {env env' : Env'}, Pat.putL ps ds env = some env' → ds.length = ps.length
  | [], [], _, _, _ => rfl
  | p :: ps, d :: ds, env, env', h => by
    obtain ⟨env1, _, h2⟩ := Option.bind_eq_some_iff.mp (show (p.put d env).bind (fun env1 => Pat.putL ps ds env1) = some env' from h)
    simp [putL_len h2]
  | [], d :: ds, _, _, h => by cases h
  | p :: ps, [], _, _, h => by cases h
theorem wipe_get {σ : L2.St} : ∀ (vs : List Nat) (j : Nat), (wipe σ vs)[j]? = if j ∈ vs then (σ[j]?).map fun _ => none else σ[j]?
  | [], j => by simp [wipe]
  | v :: vs, j => by
    unfold wipe
    by_cases hj : v = j
    · subst hj
      rw [if_pos List.mem_cons_self]
      by_cases hv : v < σ.length
      · rw [List.getElem?_set_self (by rw [wipe_length]; exact hv), List.getElem?_eq_getElem hv]; rfl
      · rw [List.getElem?_eq_none (by rw [List.length_set, wipe_length]; omega), List.getElem?_eq_none (by omega)]; rfl
    · rw [List.getElem?_set_ne hj, wipe_get vs j]
      by_cases hm : j ∈ vs
      · rw [if_pos hm, if_pos (List.mem_cons_of_mem _ hm)]
      · rw [if_neg hm, if_neg (by simp [hm, Ne.symm hj])]
theorem wipe_set {σ : L2.St} {vs : List Nat} {i : Nat} {w : Option V} (h : i ∈ vs) : wipe (σ.set i w) vs = wipe σ vs := by
  apply List.ext_getElem?
  intro j
  rw [wipe_get, wipe_get]
  by_cases hj : j ∈ vs
  · rw [if_pos hj, if_pos hj]
    by_cases hij : i = j
    · subst hij
      by_cases hi : i < σ.length
      · rw [List.getElem?_set_self hi, List.getElem?_eq_getElem hi]; rfl
      · rw [List.getElem?_eq_none (by simpa using hi), List.getElem?_eq_none (by omega)]
    · rw [List.getElem?_set_ne hij]
  · rw [if_neg hj, if_neg hj]
    rw [List.getElem?_set_ne (fun z => hj (by rw [← z]; exact h))]
theorem wipe_idem {σ : L2.St} {vs : List Nat} : wipe (wipe σ vs) vs = wipe σ vs := by
  apply List.ext_getElem?
  intro j
  rw [wipe_get, wipe_get]
  by_cases hj : j ∈ vs
  · rw [if_pos hj, if_pos hj]; cases σ[j]? <;> rfl
  · rw [if_neg hj, if_neg hj]
def tGp (S : Sg) (M0 : MS) (p : Pat) (vs : List Nat) : TG := fun v σ H Q => ∃ B ow env d env', Sim S M0 B ow env σ H ∧ Rep S (Md B ow) H d v ∧ p.put d env = some env' ∧
  ∀ σ' ow', Stp ow H ow' H → Sim S M0 B ow' env' σ' H → wipe σ' vs = wipe σ vs → Q σ' H
def tGps (S : Sg) (M0 : MS) (ps : List Pat) (vs : List Nat) : TGs := fun us σ H Q => ∃ B ow env ds env', Sim S M0 B ow env σ H ∧ RepL S (Md B ow) H ds us ∧ Pat.putL ps ds env = some env' ∧
  ∀ σ' ow', Stp ow H ow' H → Sim S M0 B ow' env' σ' H → wipe σ' vs = wipe σ vs → Q σ' H
theorem PGs.imp' {X : Cx} {e : List Expr} {t t' : TGs} (h : PGs X e t) (k : ∀ v σ H Q, t' v σ H Q → t v σ H Q) : PGs X e t' := ⟨fun p s σ H v u Q I r q => h.run p s σ H v u Q I r (k v σ H Q q)⟩
theorem g_nm {i : Nat} {vs : List Nat} (z : X.N.Nodup) (hi : X.N[i]? = some x := by rfl) (hm : i ∈ vs := by decide) (hx : Loc X.env.scope x := by first | exact Or.inl rfl | exact Or.inr rfl) (hf : X.fn x = true ∨ X.env.scope.names.lookup x = some .local := by first | exact .inl rfl | exact .inr rfl) : PG X (.Name x pos) (tGp S M0 (.nm i) vs) :=
  PG.imp (pg_name z hi hx hf) fun v σ H Q h => by
    obtain ⟨B, ow, env, d, env', s, r, q, k⟩ := h
    have q : putE i (.val d) env = some env' := by simpa [Pat.put] using q
    obtain ⟨ow', st, s'⟩ := EVOk.put (v := v) (e := .val d) ⟨s, r⟩ .refl trivial q
    exact k _ ow' st s' (wipe_set hm)
theorem g_nil {vs : List Nat} : PGs X [] (tGps S M0 [] vs) := PGs.imp' pgs_nil fun us σ H Q h => by
  obtain ⟨B, ow, env, ds, env', s, r, q, k⟩ := h
  cases ds with
  | nil =>
    cases r
    have q : some env = some env' := by simpa [Pat.putL] using q
    cases q
    exact ⟨rfl, k σ ow .refl s rfl⟩
  | cons d ds => simp [Pat.putL] at q
theorem g_cons {p : Pat} {ps : List Pat} {vs : List Nat} (h1 : PG X e (tGp S M0 p vs)) (h2 : PGs X es (tGps S M0 ps vs)) (hs : (assignEach (e :: es) X.env).map (·.2) = assign e X.env :: (assignEach es X.env).map (·.2) := by rfl) : PGs X (e :: es) (tGps S M0 (p :: ps) vs) :=
  PGs.imp' (pgs_cons h1 h2 hs) fun us σ H Q h => by
    obtain ⟨B, ow, env, ds, env', s, r, q, k⟩ := h
    cases ds with
    | nil => simp [Pat.putL] at q
    | cons d ds =>
      obtain ⟨v, vr, rfl, r1, r2⟩ := r
      obtain ⟨env1, q1, q2⟩ := Option.bind_eq_some_iff.mp (show (p.put d env).bind (fun env1 => Pat.putL ps ds env1) = some env' from q)
      refine ⟨v, vr, rfl, B, ow, env, d, env1, s, r1, q1, fun σ1 ow1 st1 s1 w1 => ?_⟩
      exact ⟨B, ow1, env1, ds, env', s1, RepL.stp st1 r2, q2, fun σ2 ow2 st2 s2 w2 => k σ2 ow2 (st1.trans st2) s2 (w2.trans w1)⟩
theorem pg_any {K : PySem.W.Frag} {kk : Nat} {t : TGs} {n : Nat} (hK : X.K = K) (hc : X.calm = true) (h : PGs X es t)
    (hn : (assignEach es X.env).length = n := by rfl) (hst : (assignEach es X.env).findIdx? (·.1) = none := by rfl) : PG X (.Tuple es kk pos) (fun v σ H Q => gTup K n t v σ H Q ∨ gUnl K n t v σ H Q) := by
  subst hK
  refine ⟨fun pins s σ H v u Q I r hw => ?_⟩
  rcases hw with hw | hw
  · exact (pg_tup hc h hn hst).run pins s σ H v u Q I r hw
  · exact (pg_unl hc h hn hst).run pins s σ H v u Q I r hw
theorem g_tup {ps : List Pat} {vs : List Nat} {kk n : Nat} (hk : X.K = S.K) (hc : X.calm = true) (h : PGs X es (tGps S M0 ps vs)) (hpn : ps.length = n := by rfl) (hn : (assignEach es X.env).length = n := by rfl) (hst : (assignEach es X.env).findIdx? (·.1) = none := by rfl) :
    PG X (.Tuple es kk pos) (tGp S M0 (.tp ps) vs) :=
  PG.imp (pg_any hk hc h hn hst) fun v σ H Q h => by
    obtain ⟨B, ow, env, d, env', s, r, q, k⟩ := h
    cases hd : tupL? d with
    | none => simp [Pat.put, hd] at q
    | some ds =>
      have q : Pat.putL ps ds env = some env' := by simpa [Pat.put, hd] using q
      have hl := putL_len q
      unfold tupL? at hd
      split at hd
      · cases hd
        obtain ⟨a, us, rfl, _, ra, l⟩ := r
        exact .inl ⟨a, us, rfl, .of ra, by rw [← l.len, hl, hpn], B, ow, env, _, env', s, l, q, k⟩
      · cases hd
        obtain ⟨a, ob, rfl, _, ra, _⟩ := r
        exact .inl ⟨a, _, rfl, .inl (.inr ⟨ob, ra⟩), by rw [← hpn, ← hl, List.length_map, List.length_map], B, ow, env, _, env', s, strs_rep _, q, k⟩
      · cases hd
        obtain ⟨a, us, rfl, ra, l⟩ := r
        exact .inr ⟨a, us, rfl, ra.seq, by rw [← l.len, hl, hpn], B, ow, env, _, env', s, l, q, k⟩
      · cases hd
/-! ### statements -/
structure Pst where
  nx : Env' → Prop
  rt : EV → Env' → Prop
  bk : Env' → Prop
  ct : Env' → Prop
structure Pst.Le (P P' : Pst) : Prop where
  nx : ∀ e, P.nx e → P'.nx e
  rt : ∀ v e, P.rt v e → P'.rt v e
  bk : ∀ e, P.bk e → P'.bk e
  ct : ∀ e, P.ct e → P'.ct e
theorem Pst.Le.rfl' {P : Pst} : P.Le P := ⟨fun _ h => h, fun _ _ h => h, fun _ h => h, fun _ h => h⟩
structure SF where
  r : Env' → Pst → Exx → Prop
  m : ∀ {env P P' X X'}, Pst.Le P P' → (∀ c fs, X c fs → X' c fs) → r env P X → r env P' X'
def pst (S : Sg) (M0 B : MS) (ow : OW) (H : Hp) (D : Ends) : Pst where
  nx := fun env' => ∀ σ' H' ow', Stp ow H ow' H' → Sim S M0 B ow' env' σ' H' → D.nx σ' H'
  rt := fun e env' => ∀ v σ' H' ow', Stp ow H ow' H' → Nw H e v → EVOk S M0 B ow' env' σ' H' e v → D.rt v H'
  bk := fun env' => ∀ σ' H' ow', Stp ow H ow' H' → Sim S M0 B ow' env' σ' H' → D.bk σ' H'
  ct := fun env' => ∀ σ' H' ow', Stp ow H ow' H' → Sim S M0 B ow' env' σ' H' → D.ct σ' H'
theorem pst_le {ow1 : OW} {H1 : Hp} {D : Ends} (st : Stp ow H ow1 H1) : (pst S M0 B ow H D).Le (pst S M0 B ow1 H1 D) where
  nx := fun _ h σ' H' ow' st' s => h σ' H' ow' (st.trans st') s
  rt := fun _ _ h v σ' H' ow' st' nw s => h v σ' H' ow' (st.trans st') (nw.back st) s
  bk := fun _ h σ' H' ow' st' s => h σ' H' ow' (st.trans st') s
  ct := fun _ h σ' H' ow' st' s => h σ' H' ow' (st.trans st') s
def tS (S : Sg) (M0 : MS) (E : XK) (F : SF) : TS := fun D σ H => ∃ B ow env, Sim S M0 B ow env σ H ∧ F.r env (pst S M0 B ow H D) (XP S M0 E ow H)
variable {st : Stmt} {rest : List Stmt} {sf sg : SF}
def skipS : SF where
  r := fun env P _ => P.nx env
  m := fun hp _ h => hp.nx _ h
def seqS (a b : SF) : SF where
  r := fun env P X => a.r env { P with nx := fun env1 => b.r env1 P X } X
  m := fun {env P P' X X'} hp hx h => a.m (P := { P with nx := fun env1 => b.r env1 P X }) (P' := { P' with nx := fun env1 => b.r env1 P' X' }) ⟨fun _ h => b.m hp hx h, hp.rt, hp.bk, hp.ct⟩ hx h
theorem s_nil : PSs X [] (tS S M0 E skipS) := PSs.imp pss_nil fun D σ H h => by
  obtain ⟨B, ow, env, s, h⟩ := h
  exact h σ H ow .refl s
theorem s_one (h : PS X st (tS S M0 E sf)) : PSs X [st] (tS S M0 E sf) := pss_one h
theorem s_cons (h1 : PS X st (tS S M0 E sf)) (h2 : PSs X rest (tS S M0 E sg)) : PSs X (st :: rest) (tS S M0 E (seqS sf sg)) :=
  PSs.imp (pss_cons h1 h2) fun D σ H h => by
    obtain ⟨B, ow, env, s, h⟩ := h
    refine ⟨B, ow, env, s, sf.m (P := { pst S M0 B ow H D with nx := fun env1 => sg.r env1 (pst S M0 B ow H D) (XP S M0 E ow H) }) ⟨fun env1 h σ' H' ow' st s' => ?_, fun _ _ h => h, fun _ h => h, fun _ h => h⟩ (fun _ _ h => h) h⟩
    exact ⟨B, ow', env1, s', sg.m (pst_le st) (fun _ _ h => h.stp st) h⟩
def passS := skipS
theorem s_pass : PS X (.Pass pos) (tS S M0 E skipS) := PS.imp ps_pass fun D σ H h => by
  obtain ⟨B, ow, env, s, h⟩ := h
  exact h σ H ow .refl s
def brkS : SF where
  r := fun env P _ => P.bk env
  m := fun hp _ h => hp.bk _ h
def cntS : SF where
  r := fun env P _ => P.ct env
  m := fun hp _ h => hp.ct _ h
theorem s_brk : PS X (.Break pos) (tS S M0 E brkS) := PS.imp ps_break fun D σ H h => by
  obtain ⟨B, ow, env, s, h⟩ := h
  exact h σ H ow .refl s
theorem s_cnt : PS X (.Continue pos) (tS S M0 E cntS) := PS.imp ps_continue fun D σ H h => by
  obtain ⟨B, ow, env, s, h⟩ := h
  exact h σ H ow .refl s
/-- code that is not come to -/
def nevS : SF where
  r := fun _ _ _ => False
  m := fun _ _ h => h
theorem s_nev : PS X st (tS S M0 E nevS) := PS.imp ps_never fun D σ H h => by
  obtain ⟨B, ow, env, s, h⟩ := h
  exact h
def retS (f : EF) : SF where
  r := fun env P X => f.r env P.rt X
  m := fun hp hx h => f.m hp.rt hx h
theorem s_ret (h : PE X e (tE S M0 E f)) : PS X (.Return (some e) pos) (tS S M0 E (retS f)) := PS.imp (ps_ret h) fun D σ H h => by
  obtain ⟨B, ow, env, s, h⟩ := h
  exact ⟨B, ow, env, s, f.m (fun e env1 h v H1 ow1 st1 nw1 ok1 => h v σ H1 ow1 st1 nw1 ok1) (fun _ _ h => h) h⟩
def dropS (f : EF) : SF where
  r := fun env P X => f.r env (fun _ env1 => P.nx env1) X
  m := fun hp hx h => f.m (fun _ _ h => hp.nx _ h) hx h
theorem s_expr (h : PE X e (tE S M0 E f)) (hs : swapsWith e none pos.line X.env = pure false := by rfl) : PS X (.Expr e pos) (tS S M0 E (dropS f)) := PS.imp (ps_expr h hs) fun D σ H h => by
  obtain ⟨B, ow, env, s, h⟩ := h
  exact ⟨B, ow, env, s, f.m (fun e env1 h v H1 ow1 st1 nw1 ok1 => h σ H1 ow1 st1 ok1.simA) (fun _ _ h => h) h⟩
def ifS (t : TF) (a b : SF) : SF where
  r := fun env P X => t.r env (fun k env1 => if k = true then a.r env1 P X else b.r env1 P X) X
  m := fun hp hx h => t.m (fun k _ h => by
    split at h
    · rename_i z; rw [if_pos z]; exact a.m hp hx h
    · rename_i z; rw [if_neg z]; exact b.m hp hx h) hx h
theorem s_if {c : Expr} {a b : List Stmt} (hc : PT X c (tT S M0 E t)) (ha : PSs X a (tS S M0 E sf)) (hb : PSs X b (tS S M0 E sg)) : PS X (.If c a b pos) (tS S M0 E (ifS t sf sg)) :=
  PS.imp (ps_if hc ha hb) fun D σ H h => by
    obtain ⟨B, ow, env, s, h⟩ := h
    refine ⟨B, ow, env, s, t.m (fun k env1 h1 H1 ow1 st1 s1 => ?_) (fun _ _ h => h) h⟩
    cases k with
    | true =>
      rw [if_pos rfl] at h1 ⊢
      exact ⟨B, ow1, env1, s1, sf.m (pst_le st1) (fun _ _ h => h.stp st1) h1⟩
    | false =>
      rw [if_neg Bool.false_ne_true] at h1 ⊢
      exact ⟨B, ow1, env1, s1, sg.m (pst_le st1) (fun _ _ h => h.stp st1) h1⟩
/-- name = e -/
def asgS (i : Nat) (f : EF) : SF where
  r := fun env P X => f.r env (fun e env1 => ∃ env2, putE i e env1 = some env2 ∧ P.nx env2) X
  m := fun hp hx h => f.m (fun _ _ ⟨env2, h1, h2⟩ => ⟨env2, h1, hp.nx _ h2⟩) hx h
theorem s_set {i : Nat} {pos' : Pos} (z : X.N.Nodup) (he : PE X e (tE S M0 E f)) (hi : X.N[i]? = some x := by rfl) (hx : Loc X.env.scope x := by first | exact Or.inl rfl | exact Or.inr rfl) (hs : swapsWith e (some (.Name x pos')) pos.line X.env = pure false := by rfl) (hf : X.fn x = true ∨ X.env.scope.names.lookup x = some .local := by first | exact .inl rfl | exact .inr rfl) :
    PS X (.Assign [.Name x pos'] e pos) (tS S M0 E (asgS i f)) := PS.imp (ps_set z hi hx he hs hf) fun D σ H h => by
  obtain ⟨B, ow, env, s, h⟩ := h
  refine ⟨B, ow, env, s, f.m (fun e env1 h v H1 ow1 st1 nw1 ok1 => ?_) (fun _ _ h => h) h⟩
  obtain ⟨env2, h1, h2⟩ := h
  obtain ⟨ow', st', s'⟩ := ok1.put st1 nw1 h1
  exact h2 _ H1 ow' st' s'
/-- pattern = e -/
def patS (F : Nat → List Str) (p : Pat) (f : EF) : SF where
  r := fun env P X => f.r env (fun e env1 => ∃ d, e.keep F = some d ∧ ∃ env2, p.put d env1 = some env2 ∧ P.nx env2) X
  m := fun hp hx h => f.m (fun _ _ ⟨d, h0, env2, h1, h2⟩ => ⟨d, h0, env2, h1, hp.nx _ h2⟩) hx h
theorem s_pat {p : Pat} {vs : List Nat} (he : PE X e (tE S M0 E f)) (hg : PG X tg (tGp S M0 p vs)) (hs : swapsWithSole [tg] e pos.line X.env = pure false := by rfl) (hw : swappedStores [tg] e X.env = pure none := by rfl)
    (h1 : (assignEach [tg] X.env).map (·.2) = [assign tg X.env] := by rfl) : PS X (.Assign [tg] e pos) (tS S M0 E (patS S.flds p f)) := PS.imp (ps_asg he hg hs hw h1) fun D σ H h => by
  obtain ⟨B, ow, env, s, h⟩ := h
  refine ⟨B, ow, env, s, f.m (fun e env1 h v H1 ow1 st1 nw1 ok1 => ?_) (fun _ _ h => h) h⟩
  obtain ⟨d, q, env2, h1, h2⟩ := h
  obtain ⟨s1, r1⟩ := ok1.keep q
  exact ⟨B, ow1, env1, d, env2, s1, r1, h1, fun σ' ow' st' s' _ => h2 σ' H1 ow' (st1.trans st') s'⟩
end
end En
set_option Elab.async false
set_option linter.all false
set_option maxRecDepth 100000
namespace En
open PySem PySem.Spec PyProof.Rows L2
section
variable {X : Cx} {S : Sg} {M0 B : MS} {E : XK} {ow ow0 : OW} {env : Env'} {σ : L2.St} {H H0 : Hp}
variable {a b c e e2 : Expr} {es : List Expr} {f f2 f3 : EF} {t t2 : TF} {pos p apos tpos : Pos} {x : Str} {l : LF} {tg iter : Expr} {kk : Nat} {elts : List Expr}
/-! ### sources -/
def SrcOk (S : Sg) (M : MS) (H : Hp) (J : It) (ds : List D) : Prop :=
  ∀ (M2 : MS) (H2 : Hp), (∀ a o, ¬ M a → H a = some o → H2 a = some o ∧ ¬ M2 a) → (∀ a, M2 a → ∃ u, H2 a = some u) → ∀ i : Nat,
    (∀ d, ds[i]? = some d → J.go i H2 ∧ ∀ x H3, J.yld i H2 x H3 → Grow H2 H3 ∧ Rep S M2 H3 d x) ∧ (ds.length = i → J.stop i H2)
def tI (S : Sg) (M0 : MS) (E : XK) (F : LF) : TI := fun σ H R => ∃ B ow env, Sim S M0 B ow env σ H ∧
  F.r env (fun ds env' => ∀ J H' ow', Stp ow H ow' H' → Sim S M0 B ow' env' σ H' → SrcOk S (Md B ow') H' J ds → R J H') (XP S M0 E ow H)
theorem PI.imp {X : Cx} {tg e : Expr} {t t' : TI} (h : PI X tg e t) (k : ∀ σ H Q, t' σ H Q → t σ H Q) : PI X tg e t' := ⟨fun p s σ H Q I q => h.run p s σ H Q I (k σ H Q q)⟩
theorem pi_seqA {K : PySem.W.Frag} {l : Expr} {tl : TE} (hk : X.K = K) (hl : PE X l tl) : PI X tg l (fun σ H R => tl σ H fun x H1 => (∃ a xs, x = .ref a ∧ ((SqL K H1 a xs ∧ R (Itl K a) H1) ∨ (SqT K H1 a xs ∧ R (Itt K a) H1))) ∨ ∃ z, x = .str z ∧ R (Its z) H1) := by
  subst hk
  refine ⟨fun pins s σ H R I h => ?_⟩
  refine thn (hl.run pins s σ H _ I h) fun v s1 ⟨x, H1, I1, r1, q1⟩ => ?_
  rcases q1 with ⟨a, xs, e, q⟩ | ⟨z, e, q⟩
  · subst e
    cases r1
    have fin : ∀ b ∈ [s1.heap.objs.size], FpOk X pins H1 b := fun b hb => by
      have e : b = s1.heap.objs.size := by simpa using hb
      subst e
      exact I1.fpOk (Nat.le_refl _) (I1.hok.fresh (Nat.le_refl _))
    rcases q with ⟨hq, q⟩ | ⟨hq, q⟩
    · obtain ⟨its, rv, p, hz⟩ := I1.list hq
      exact wpAny_pyIter_list p.isList ⟨s1.heap.objs.size, [s1.heap.objs.size], _, _, H1, rfl, I1.kept (t' := s1.toks) fun b o e => Heap.get?_push_of_some _ e, turn_list a _, ⟨_, Heap.get?_push_size _ rfl, rfl, rfl⟩, fin, q⟩
    · obtain ⟨its, rv, p, hz⟩ := I1.tuple hq
      exact wpAny_pyIter_tuple (show s1.heap.IsTuple a its.toArray from p) ⟨s1.heap.objs.size, [s1.heap.objs.size], _, _, H1, rfl, I1.kept (t' := s1.toks) fun b o e => Heap.get?_push_of_some _ e, turn_tuple a _, ⟨_, Heap.get?_push_size _ rfl, rfl, rfl⟩, fin, q⟩
  · subst e
    obtain ⟨t, rfl⟩ := r1
    cases ha : z.cps.all (· < 128)
    · exact wpAny_pyIter_wide ha (pi_one (tk := s1.toks) I1 _ (turn_str _ z t "str_iterator" (.inr rfl)) ⟨_, Heap.get?_push_size _ rfl, rfl, rfl⟩ q)
    · exact wpAny_pyIter_ascii ha (pi_one (tk := s1.toks) I1 _ (turn_str _ z t "str_ascii_iterator" (.inl rfl)) ⟨_, Heap.get?_push_size _ rfl, rfl, rfl⟩ q)
/-- what one walks -/
def iterL? : D → Option (List D)
  | .str z => some (z.cps.toList.map fun c => .str ⟨#[c]⟩)
  | d => tupL? d
theorem src_s {M : MS} (z : Str) : SrcOk S M H (Its z) (z.cps.toList.map fun c => .str ⟨#[c]⟩) := fun M2 H2 k tr i => by
  refine ⟨fun d hd => ?_, fun hi => ?_⟩
  · rw [List.getElem?_map] at hd
    obtain ⟨c, h1, rfl⟩ := Option.map_eq_some_iff.mp hd
    have hi := (List.getElem?_eq_some_iff.mp h1).1
    have hc : z.cps[i]? = some c := by simpa using h1
    refine ⟨(by simpa using hi : i < z.cps.size), fun x H3 ⟨e1, c', e2, e3⟩ => ?_⟩
    subst e1 e3
    rw [hc] at e2; cases e2
    exact ⟨.rfl', rfl⟩
  · rw [List.length_map, Array.length_toList] at hi
    exact Nat.le_of_eq hi
theorem LAt.move {K : PySem.W.Frag} {M M2 : MS} {H2 : Hp} {a : Addr} {xs : List V} (k : ∀ a o, ¬ M a → H a = some o → H2 a = some o ∧ ¬ M2 a) (h : LAt K M H a xs) : LAt K M2 H2 a xs := by
  rcases h with ⟨n, r⟩ | h
  · obtain ⟨o, ho⟩ := Rd.there r
    exact .inl ⟨(k a o n ho).2, Rd.kp (fun o ho => (k a o n ho).1) r⟩
  · exact .inr h
theorem src_l {M : MS} {a : Addr} {ds : List D} {vs : List V} (h : LAt S.K M H a vs) (l : RepL S M H ds vs) (inj : ∀ {H2 : Hp} {xs ys : List V}, SqL S.K H2 a xs → SqL S.K H2 a ys → xs = ys) : SrcOk S M H (Itl S.K a) ds := fun M2 H2 k tr i => by
  have h2 := LAt.move k h
  have l2 := RepL.move k _ _ l
  refine ⟨fun d hd => ?_, fun hi => ⟨vs, h2.seq, by rw [← l2.len, hi]; exact Nat.le_refl _⟩⟩
  obtain ⟨v, e1, e2⟩ := l2.get hd
  exact ⟨⟨vs, v, h2.seq, e1⟩, fun x H3 ⟨e3, y⟩ => by
    subst e3
    have := y vs h2.seq
    rw [e1] at this; cases this
    exact ⟨.rfl', e2⟩⟩
theorem src_t {M : MS} {a : Addr} {ds : List D} {vs : List V} (n : ¬ M a) (h : ∀ H2 : Hp, (∀ o, H a = some o → H2 a = some o) → SqT S.K H2 a vs) (ht : ∃ o, H a = some o) (l : RepL S M H ds vs) : SrcOk S M H (Itt S.K a) ds := fun M2 H2 k tr i => by
  have h2 := h H2 fun o e => (k a o n e).1
  have l2 := RepL.move k _ _ l
  refine ⟨fun d hd => ?_, fun hi => ⟨vs, h2, by rw [← l2.len, hi]; exact Nat.le_refl _⟩⟩
  obtain ⟨v, e1, e2⟩ := l2.get hd
  exact ⟨⟨vs, v, h2, e1⟩, fun x H3 ⟨e3, y⟩ => by
    subst e3
    have := y vs h2
    rw [e1] at this; cases this
    exact ⟨.rfl', e2⟩⟩
def seqI (F : Nat → List Str) (f : EF) : LF where
  r := fun env P X => f.r env (fun e env1 => ∃ d, e.keep F = some d ∧ ∃ ds, iterL? d = some ds ∧ P ds env1) X
  m := fun hp hx h => f.m (fun _ _ ⟨d, h1, ds, h2, h3⟩ => ⟨d, h1, ds, h2, hp _ _ h3⟩) hx h
/-- what a sequence holds -/
theorem seq_v {M : MS} {H : Hp} {d : D} {ds : List D} {v : V} (r : Rep S M H d v) (h : tupL? d = some ds) : ∃ a vs, v = .ref a ∧ RepL S M H ds vs ∧ (LAt S.K M H a vs ∨ (¬ M a ∧ (∃ o, H a = some o) ∧ ∀ H2 : Hp, (∀ o, H a = some o → H2 a = some o) → SqT S.K H2 a vs)) := by
  unfold tupL? at h
  split at h
  · cases h
    obtain ⟨a, us, rfl, n, ra, l⟩ := r
    exact ⟨a, us, rfl, l, .inr ⟨n, ⟨_, ra⟩, fun H2 k => .of (k _ ra)⟩⟩
  · cases h
    obtain ⟨a, ob, rfl, n, ra, _⟩ := r
    exact ⟨a, _, rfl, strs_rep _, .inr ⟨n, ⟨_, ra⟩, fun H2 k => .inl (.inr ⟨ob, k _ ra⟩)⟩⟩
  · cases h
    obtain ⟨a, us, rfl, ra, l⟩ := r
    exact ⟨a, us, rfl, l, .inl ra⟩
  · cases h
theorem i_seq (hk : X.K = S.K) (he : PE X e (tE S M0 E f)) : PI X tg e (tI S M0 E (seqI S.flds f)) := PI.imp (pi_seqA hk he) fun σ H R h => by
  obtain ⟨B, ow, env, s, h⟩ := h
  refine ⟨B, ow, env, s, f.m (fun e1 env1 h1 v H1 ow1 st1 nw1 ok1 => ?_) (fun _ _ h => h) h⟩
  obtain ⟨d, q, ds, h1, h2⟩ := h1
  obtain ⟨s1, r1⟩ := ok1.keep q
  by_cases hz : ∃ z, d = .str z
  · obtain ⟨z, rfl⟩ := hz
    cases h1
    cases r1
    exact .inr ⟨z, rfl, h2 _ H1 ow1 st1 s1 (src_s z)⟩
  have h1 : tupL? d = some ds := by
    cases d <;> first | exact h1 | exact absurd ⟨_, rfl⟩ hz
  obtain ⟨a, vs, rfl, l, hs⟩ := seq_v r1 h1
  refine .inl ?_
  rcases hs with hs | ⟨n, ⟨o, ho⟩, hs⟩
  · refine ⟨a, vs, rfl, .inl ⟨hs.seq, h2 _ H1 ow1 st1 s1 ?_⟩⟩
    refine fun M2 H2 k tr i => ?_
    have h2 := LAt.move k hs
    have l2 := RepL.move k _ _ l
    refine ⟨fun d hd => ?_, fun hi => ⟨vs, h2.seq, by rw [← l2.len, hi]; exact Nat.le_refl _⟩⟩
    obtain ⟨v, e1, e2⟩ := l2.get hd
    exact ⟨⟨vs, v, h2.seq, e1⟩, fun x H3 ⟨e3, y⟩ => by
      subst e3
      have := y vs h2.seq
      rw [e1] at this; cases this
      exact ⟨.rfl', e2⟩⟩
  · exact ⟨a, vs, rfl, .inr ⟨hs H1 fun _ h => h, h2 _ H1 ow1 st1 s1 (src_t n hs ⟨o, ho⟩ l)⟩⟩
/-- lo, lo + 1, .. -/
def intsD (lo : Int) (n : Nat) : List D := (List.range n).map fun i : Nat => D.int (lo + (i : Int))
theorem src_r (M : MS) (lo : Int) (n : Nat) : SrcOk S M H (Itr lo n) (intsD lo n) := fun M2 H2 k tr i => by
  refine ⟨fun d hd => ?_, fun hi => ?_⟩
  · unfold intsD at hd
    rw [List.getElem?_map] at hd
    obtain ⟨j, h1, rfl⟩ := Option.map_eq_some_iff.mp hd
    have hi := (List.getElem?_eq_some_iff.mp h1).1
    rw [List.length_range] at hi
    rw [List.getElem?_range hi] at h1
    cases h1
    exact ⟨hi, fun x H3 ⟨e1, e2⟩ => by subst e1; exact ⟨.rfl', e2⟩⟩
  · simp [intsD] at hi
    exact Nat.le_of_eq hi
def rngI (f : EF) : LF where
  r := fun env P X => f.r env (fun e env1 => ∃ n, e = .val (.int n) ∧ (-1000000 ≤ n ∧ n ≤ 1000000) ∧ P (intsD 0 n.toNat) env1) X
  m := fun hp hx h => f.m (fun _ _ ⟨n, h1, h2, h3⟩ => ⟨n, h1, h2, hp _ _ h3⟩) hx h
def rngI2 (f f2 : EF) : LF where
  r := fun env P X => f.r env (fun e env1 => ∃ i, e = .val (.int i) ∧ (-1000000 ≤ i ∧ i ≤ 1000000) ∧ f2.r env1 (fun e2 env2 => ∃ n, e2 = .val (.int n) ∧ (-1000000 ≤ n ∧ n ≤ 1000000) ∧ P (intsD i (n - i).toNat) env2) X) X
  m := fun hp hx h => f.m (fun _ _ ⟨i, h1, h2, h3⟩ => ⟨i, h1, h2, f2.m (fun _ _ ⟨n, h4, h5, h6⟩ => ⟨n, h4, h5, hp _ _ h6⟩) hx h3⟩) hx h
theorem i_rng (hm : X.mg "range" = none) (ha : PE X a (tE S M0 E f)) (hg : Gl X "range" := by rfl) (hs : starEach [a] X.env = [(false, eval a X.env)] := by rfl) : PI X tg (.Call (.Name "range" p) [a] [] pos) (tI S M0 E (rngI f)) :=
  PI.imp (pi_range1 hg hm (pa_cons ha pa_nil hs) hs) fun σ H R h => by
    obtain ⟨B, ow, env, s, h⟩ := h
    refine ⟨B, ow, env, s, f.m (fun e1 env1 h1 v H1 ow1 st1 nw1 ok1 => ?_) (fun _ _ h => h) h⟩
    obtain ⟨n, rfl, h2, h3⟩ := h1
    obtain ⟨s1, r1⟩ := ok1
    cases r1
    exact ⟨n, rfl, by omega, by omega, h3 _ H1 ow1 st1 s1 (src_r _ _ _)⟩
theorem i_rng2 (hm : X.mg "range" = none) (ha : PE X a (tE S M0 E f)) (hb : PE X b (tE S M0 E f2)) (hg : Gl X "range" := by rfl) (hs : starEach [a, b] X.env = [(false, eval a X.env), (false, eval b X.env)] := by rfl) (hs2 : starEach [b] X.env = [(false, eval b X.env)] := by rfl)
    (he : starEach [a, b] X.env = (false, eval a X.env) :: starEach [b] X.env := by rfl) (he2 : starEach [b] X.env = (false, eval b X.env) :: starEach [] X.env := by rfl) : PI X tg (.Call (.Name "range" p) [a, b] [] pos) (tI S M0 E (rngI2 f f2)) :=
  PI.imp (pi_range2 hg hm (pa_cons ha (pa_cons hb pa_nil he2) he) hs hs2) fun σ H R h => by
    obtain ⟨B, ow, env, s, h⟩ := h
    refine ⟨B, ow, env, s, f.m (fun e1 env1 h1 v H1 ow1 st1 nw1 ok1 => ?_) (fun _ _ h => h) h⟩
    obtain ⟨i, rfl, h2, h3⟩ := h1
    obtain ⟨s1, r1⟩ := ok1
    cases r1
    refine ⟨B, ow1, env1, s1, f2.m (fun e2 env2 h4 v H2 ow2 st2 nw2 ok2 => ?_) (fun _ _ h => h.stp st1) h3⟩
    obtain ⟨n, rfl, h5, h6⟩ := h4
    obtain ⟨s2, r2⟩ := ok2
    cases r2
    exact ⟨i, n, rfl, ⟨by omega, by omega, by omega, by omega⟩, h6 _ H2 ow2 (st1.trans st2) s2 (src_r _ _ _)⟩
/-- the items in pairs with their places -/
def enumD (ds : List D) : List D := ds.zipIdx.map fun q => D.tup [.int ((q.2 : Nat) : Int), q.1]
theorem enumD_get {ds : List D} {i : Nat} {d : D} (h : (enumD ds)[i]? = some d) : ∃ z, ds[i]? = some z ∧ d = .tup [.int (i : Int), z] := by
  unfold enumD at h
  rw [List.getElem?_map, List.getElem?_zipIdx] at h
  cases q : ds[i]? with
  | none => rw [q] at h; cases h
  | some z => rw [q] at h; simp at h; exact ⟨z, rfl, h.symm⟩
theorem enumD_len (ds : List D) : (enumD ds).length = ds.length := by simp [enumD]
def enumI (F : Nat → List Str) (f : EF) : LF where
  r := fun env P X => f.r env (fun e env1 => ∃ d, e.keep F = some d ∧ ∃ ds, tupL? d = some ds ∧ P (enumD ds) env1) X
  m := fun hp hx h => f.m (fun _ _ ⟨d, h1, ds, h2, h3⟩ => ⟨d, h1, ds, h2, hp _ _ h3⟩) hx h
theorem pair_rep {M2 : MS} {H2 : Hp} {T : Addr} {d : D} {v : V} {i : Int} (tr : ∀ a, M2 a → ∃ u, H2 a = some u) (hT : H2 T = none) (r : Rep S M2 H2 d v) : Rep S M2 (upd H2 T (.tup [.int i, v])) (.tup [.int i, d]) (.ref T) :=
  ⟨T, _, rfl, fresh_nm tr hT, upd_same, ⟨_, _, rfl, rfl, ⟨_, _, rfl, Rep.move (fun a o n e => ⟨Grow.upd hT a o e, n⟩) _ _ r, rfl⟩⟩⟩
theorem i_enum (hk : X.K = S.K) (hm : X.mg "enumerate" = none) (ha : PE X a (tE S M0 E f)) (hg : Gl X "enumerate" := by rfl) (hs : starEach [a] X.env = [(false, eval a X.env)] := by rfl) : PI X (.Tuple elts kk tpos) (.Call (.Name "enumerate" p) [a] [] pos) (tI S M0 E (enumI S.flds f)) :=
  PI.imp (pi_enumT hg hm (pa_cons ha pa_nil hs) hs) fun σ H R h => by
    obtain ⟨B, ow, env, s, h⟩ := h
    refine ⟨B, ow, env, s, f.m (fun e1 env1 h1 v H1 ow1 st1 nw1 ok1 => ?_) (fun _ _ h => h) h⟩
    obtain ⟨d, q, ds, h1, h2⟩ := h1
    obtain ⟨s1, r1⟩ := ok1.keep q
    obtain ⟨a, vs, rfl, l, hs⟩ := seq_v r1 h1
    rw [hk]
    rcases hs with hs | ⟨n, ⟨o, ho⟩, hs⟩
    · refine ⟨a, vs, rfl, .inl ⟨hs.seq, h2 _ H1 ow1 st1 s1 fun M2 H2 k tr i => ?_⟩⟩
      have g2 := LAt.move k hs
      have l2 := RepL.move k _ _ l
      refine ⟨fun d hd => ?_, fun hi => ⟨vs, g2.seq, by rw [← l2.len, ← enumD_len, hi]; exact Nat.le_refl _⟩⟩
      obtain ⟨z, hz, rfl⟩ := enumD_get hd
      obtain ⟨v, e1, e2⟩ := l2.get hz
      exact ⟨⟨vs, v, g2.seq, e1⟩, fun x H3 ⟨T, w, ex, hT, e3, y⟩ => by
        subst ex e3
        have := y vs g2.seq
        rw [e1] at this; cases this
        exact ⟨.upd hT, pair_rep tr hT e2⟩⟩
    · refine ⟨a, vs, rfl, .inr ⟨hs H1 fun _ h => h, h2 _ H1 ow1 st1 s1 fun M2 H2 k tr i => ?_⟩⟩
      have g2 := hs H2 fun o e => (k a o n e).1
      have l2 := RepL.move k _ _ l
      refine ⟨fun d hd => ?_, fun hi => ⟨vs, g2, by rw [← l2.len, ← enumD_len, hi]⟩⟩
      obtain ⟨z, hz, rfl⟩ := enumD_get hd
      obtain ⟨v, e1, e2⟩ := l2.get hz
      exact ⟨⟨vs, v, g2, e1⟩, fun x H3 ⟨T, w, ex, hT, e3, y⟩ => by
        subst ex e3
        have := y vs g2
        rw [e1] at this; cases this
        exact ⟨.upd hT, pair_rep tr hT e2⟩⟩
/-! ### for -/
def forL (p : Pat) (body : SF) (P : Pst) (X : Exx) : List D → Env' → Prop
  | [], env => P.nx env
  | d :: ds, env => ∃ env1, p.put d env = some env1 ∧ body.r env1 { P with nx := forL p body P X ds, ct := forL p body P X ds, bk := P.nx } X
theorem forL_m {p : Pat} {body : SF} {P P' : Pst} {X X' : Exx} (hp : P.Le P') (hx : ∀ c fs, X c fs → X' c fs) : ∀ {ds : List D} {env : Env'}, forL p body P X ds env → forL p body P' X' ds env
  | [], _, h => hp.nx _ h
  | d :: ds, _, ⟨env1, h1, h2⟩ => ⟨env1, h1, body.m (P := { P with nx := forL p body P X ds, ct := forL p body P X ds, bk := P.nx }) (P' := { P' with nx := forL p body P' X' ds, ct := forL p body P' X' ds, bk := P'.nx })
      ⟨fun _ h => forL_m hp hx h, hp.rt, hp.nx, fun _ h => forL_m hp hx h⟩ hx h2⟩
def forS (it : LF) (p : Pat) (body : SF) : SF where
  r := fun env P X => it.r env (fun ds env1 => forL p body P X ds env1) X
  m := fun hp hx h => it.m (fun _ _ h => forL_m hp hx h) hx h
theorem s_for {it : LF} {p : Pat} {vs : List Nat} {body : List Stmt} {sb : SF} (hc : X.calm = true) (hp : PassesOwn (model X.prog X.w) X.A X.env X.xe) (hi : PI X tg iter (tI S M0 E it)) (hg : PG X tg (tGp S M0 p vs)) (hb : PSs X body (tS S M0 E sb))
    (hs : ∀ x, foldedSetIterable iter X.env x = pure x := by intro _; rfl) : PS X (.For tg iter body [] pos) (tS S M0 E (forS it p sb)) := PS.imp (ps_for hp hc hi hg hb hs) fun D σ H h => by
  obtain ⟨B, ow, env, s, h⟩ := h
  refine ⟨B, ow, env, s, it.m (fun ds env1 h1 J H1 ow1 st1 s1 src => ?_) (fun _ _ h => h) h⟩
  let W : Nat → Nat → L2.St → Hp → Prop := fun i m σ2 H2 => ∃ ow2 env2, m = ds.length - i ∧ i ≤ ds.length ∧ Stp ow1 H1 ow2 H2 ∧ Sim S M0 B ow2 env2 σ2 H2 ∧ forL p sb (pst S M0 B ow H D) (XP S M0 E ow H) (ds.drop i) env2
  refine ⟨W, ⟨_, ow1, env1, rfl, Nat.zero_le _, .refl, s1, h1⟩, ?_⟩
  rintro i m σ2 H2 ⟨ow2, env2, rfl, hi, st2, s2, h2⟩
  have mv : ∀ a o, ¬ Md B ow1 a → H1 a = some o → H2 a = some o ∧ ¬ Md B ow2 a := fun a o n e => ⟨st2.kp a o (fun z => n (.inr z)) e, fun z => z.elim (fun z => n (.inl z)) fun z => (st2.nw a z).elim (fun z => n (.inr z)) fun z => by rw [z] at e; cases e⟩
  obtain ⟨k1, k2⟩ := src (Md B ow2) H2 mv s2.trkA i
  by_cases hlt : i < ds.length
  · right
    have hd : ds[i]? = some ds[i] := List.getElem?_eq_getElem hlt
    obtain ⟨g1, g2⟩ := k1 _ hd
    rw [List.drop_eq_getElem_cons hlt] at h2
    obtain ⟨env3, h3, h4⟩ := h2
    refine ⟨g1, fun σ' H' => ∃ ow' env', Stp ow1 H1 ow' H' ∧ Sim S M0 B ow' env' σ' H' ∧ forL p sb (pst S M0 B ow H D) (XP S M0 E ow H) (ds.drop (i + 1)) env', fun σ' H' ⟨ow', env', z1, z2, z3⟩ => ⟨ds.length - (i + 1), by omega, ow', env', rfl, hlt, z1, z2, z3⟩, fun x H' y => ?_⟩
    obtain ⟨gr, r⟩ := g2 x H' y
    refine ⟨B, ow2, env2, ds[i], env3, s2.grow gr, r, h3, fun σ3 ow3 st3 s3 _ => ?_⟩
    have st : Stp ow1 H1 ow3 H' := (st2.trans (.grow gr)).trans st3
    have sto : Stp ow H ow3 H' := st1.trans st
    refine ⟨B, ow3, env3, s3, sb.m ⟨fun env4 h σ' H' ow' st' s' => ?_, fun e env4 h v σ' H' ow' st' nw s' => ?_, fun env4 h σ' H' ow' st' s' => ?_, fun env4 h σ' H' ow' st' s' => ?_⟩ (fun _ _ h => h.stp sto) h4⟩
    · exact ⟨ow', env4, st.trans st', s', h⟩
    · exact h v σ' H' ow' (sto.trans st') (nw.back sto) s'
    · exact h σ' H' ow' (sto.trans st') s'
    · exact ⟨ow', env4, st.trans st', s', h⟩
  · have e : i = ds.length := by omega
    subst e
    rw [List.drop_length] at h2
    exact .inl ⟨k2 rfl, h2 σ2 H2 ow2 (st1.trans st2) s2⟩
/-! ### while -/
def whileN (t : TF) (body : SF) (P : Pst) (X : Exx) : Nat → Env' → Prop
  | 0, _ => False
  | n + 1, env => t.r env (fun k env1 => if k = true then body.r env1 { P with nx := whileN t body P X n, ct := whileN t body P X n, bk := P.nx } X else P.nx env1) X
theorem whileN_m {t : TF} {body : SF} {P P' : Pst} {X X' : Exx} (hp : P.Le P') (hx : ∀ c fs, X c fs → X' c fs) : ∀ {n : Nat} {env : Env'}, whileN t body P X n env → whileN t body P' X' n env
  | 0, _, h => h
  | n + 1, _, h => t.m (fun k env1 h => by
      split at h
      · rename_i z; rw [if_pos z]
        exact body.m (P := { P with nx := whileN t body P X n, ct := whileN t body P X n, bk := P.nx }) (P' := { P' with nx := whileN t body P' X' n, ct := whileN t body P' X' n, bk := P'.nx })
          ⟨fun _ h => whileN_m hp hx h, hp.rt, hp.nx, fun _ h => whileN_m hp hx h⟩ hx h
      · rename_i z; rw [if_neg z]; exact hp.nx _ h) hx h
def whileS (t : TF) (body : SF) : SF where
  r := fun env P X => ∃ n, whileN t body P X n env
  m := fun hp hx ⟨n, h⟩ => ⟨n, whileN_m hp hx h⟩
theorem s_while {c : Expr} {body : List Stmt} {sb : SF} (hp : PassesOwn (model X.prog X.w) X.A X.env X.xe) (hc : PT X c (tT S M0 E t)) (hb : PSs X body (tS S M0 E sb)) : PS X (.While c body [] pos) (tS S M0 E (whileS t sb)) := PS.imp (ps_while hp hc hb) fun D σ H h => by
  obtain ⟨B, ow, env, s, n, h⟩ := h
  refine ⟨fun m σ2 H2 => ∃ ow2 env2, Stp ow H ow2 H2 ∧ Sim S M0 B ow2 env2 σ2 H2 ∧ whileN t sb (pst S M0 B ow H D) (XP S M0 E ow H) m env2, ⟨n, ow, env, .refl, s, h⟩, ?_⟩
  rintro m σ2 H2 ⟨ow2, env2, st2, s2, h2⟩
  cases m with
  | zero => exact h2.elim
  | succ m =>
    refine ⟨B, ow2, env2, s2, t.m (fun k env3 h3 H3 ow3 st3 s3 => ?_) (fun _ _ h => h.stp st2) h2⟩
    have st := st2.trans st3
    cases k with
    | false =>
      rw [if_neg Bool.false_ne_true] at h3
      show D.nx σ2 H3
      exact h3 σ2 H3 ow3 st s3
    | true =>
      rw [if_pos rfl] at h3
      show ∃ N : L2.St → Hp → Prop, _
      refine ⟨fun σ' H' => ∃ ow' env', Stp ow H ow' H' ∧ Sim S M0 B ow' env' σ' H' ∧ whileN t sb (pst S M0 B ow H D) (XP S M0 E ow H) m env', fun σ' H' z => ⟨m, Nat.lt_succ_self m, z⟩, ?_⟩
      refine ⟨B, ow3, env3, s3, sb.m ⟨fun env4 h σ' H' ow' st' s' => ?_, fun e env4 h v σ' H' ow' st' nw s' => ?_, fun env4 h σ' H' ow' st' s' => ?_, fun env4 h σ' H' ow' st' s' => ?_⟩ (fun _ _ h => h.stp st) h3⟩
      · exact ⟨ow', env4, st.trans st', s', h⟩
      · exact h v σ' H' ow' (st.trans st') (nw.back st) s'
      · exact h σ' H' ow' (st.trans st') s'
      · exact ⟨ow', env4, st.trans st', s', h⟩
end
end En
set_option Elab.async false
set_option linter.all false
set_option maxRecDepth 100000
namespace En
open PySem PySem.Spec PyProof.Rows L2
section
variable {X : Cx} {S : Sg} {M0 B : MS} {E : XK} {ow ow0 : OW} {env env1 : Env'} {σ : L2.St} {H H0 : Hp}
variable {a b c e e2 elt : Expr} {es ifs : List Expr} {f f2 f3 : EF} {t t2 : TF} {pos p apos tpos : Pos} {x : Str} {l it : LF} {tg iter : Expr} {kk : Nat} {elts : List Expr}
/-! ### comprehensions -/
def wipeE (env : Env') : List Nat → Env'
  | [] => env
  | v :: vs => (wipeE env vs).set v .un
def Slot.plain : Slot → Bool
  | .un => true
  | .val _ => true
  | _ => false
def okW (env : Env') (vs : List Nat) : Bool := vs.all fun v => match env[v]? with
  | some s => s.plain
  | none => true
def restE (env env1 : Env') : List Nat → Env'
  | [] => env
  | v :: vs => match env1[v]? with
    | some s => (restE env env1 vs).set v s
    | none => restE env env1 vs
theorem wipeE_len : ∀ vs : List Nat, (wipeE env vs).length = env.length
  | [] => rfl
  | v :: vs => by unfold wipeE; rw [List.length_set, wipeE_len vs]
theorem wipeE_get : ∀ (vs : List Nat) (j : Nat), (wipeE env vs)[j]? = if j ∈ vs then (env[j]?).map fun _ => Slot.un else env[j]?
  | [], j => by simp [wipeE]
  | v :: vs, j => by
    unfold wipeE
    by_cases hj : v = j
    · subst hj
      rw [if_pos List.mem_cons_self]
      by_cases hv : v < env.length
      · rw [List.getElem?_set_self (by rw [wipeE_len]; exact hv), List.getElem?_eq_getElem hv]; rfl
      · rw [List.getElem?_eq_none (by rw [List.length_set, wipeE_len]; omega), List.getElem?_eq_none (by omega)]; rfl
    · rw [List.getElem?_set_ne hj, wipeE_get vs j]
      by_cases hm : j ∈ vs
      · rw [if_pos hm, if_pos (List.mem_cons_of_mem _ hm)]
      · rw [if_neg hm, if_neg (by simp [hm, Ne.symm hj])]
theorem restE_len : ∀ vs : List Nat, (restE env env1 vs).length = env.length
  | [] => rfl
  | v :: vs => by
    unfold restE
    split
    · rw [List.length_set, restE_len vs]
    · exact restE_len vs
theorem restE_get (hl : env.length = env1.length) : ∀ (vs : List Nat) (j : Nat), (restE env env1 vs)[j]? = if j ∈ vs then env1[j]? else env[j]?
  | [], j => by simp [restE]
  | v :: vs, j => by
    unfold restE
    by_cases hj : v = j
    · subst hj
      rw [if_pos List.mem_cons_self]
      cases q : env1[v]? with
      | none =>
        rw [List.getElem?_eq_none_iff] at q
        exact List.getElem?_eq_none (by rw [restE_len]; omega)
      | some s =>
        have := (List.getElem?_eq_some_iff.mp q).1
        exact List.getElem?_set_self (by rw [restE_len]; omega)
    · have g : (restE env env1 vs)[j]? = if j ∈ v :: vs then env1[j]? else env[j]? := by
        rw [restE_get hl vs j]
        by_cases hm : j ∈ vs
        · rw [if_pos hm, if_pos (List.mem_cons_of_mem _ hm)]
        · rw [if_neg hm, if_neg (by simp [hm, Ne.symm hj])]
      split
      · rw [List.getElem?_set_ne hj]; exact g
      · exact g
theorem okW_of {vs : List Nat} {v : Nat} {s : Slot} (h : okW env vs = true) (hv : v ∈ vs) (e : env[v]? = some s) : s.plain = true := by
  unfold okW at h
  rw [List.all_eq_true] at h
  have := h v hv
  rw [e] at this
  exact this
theorem okW_wipe (vs : List Nat) : okW (wipeE env vs) vs = true := by
  unfold okW
  rw [List.all_eq_true]
  intro v hv
  rw [wipeE_get, if_pos hv]
  cases env[v]? <;> rfl
theorem Sim.wipe {vs : List Nat} (s : Sim S M0 B ow env σ H) (h : okW env vs = true) : Sim S M0 B ow (wipeE env vs) (L2.wipe σ vs) H where
  l1 := by rw [wipeE_len, wipe_length]; exact s.l1
  l2 := by rw [wipe_length]; exact s.l2
  val := fun i d e => by
    rw [wipeE_get] at e
    rw [wipe_get]
    by_cases hi : i ∈ vs
    · rw [if_pos hi] at e
      cases q : env[i]? <;> rw [q] at e <;> cases e
    · rw [if_neg hi] at e ⊢
      exact s.val i d e
  own := fun i o e => by
    rw [wipeE_get] at e
    rw [wipe_get]
    by_cases hi : i ∈ vs
    · rw [if_pos hi] at e
      cases q : env[i]? <;> rw [q] at e <;> cases e
    · rw [if_neg hi] at e ⊢
      exact s.own i o e
  io := fun i o e => by
    rw [wipeE_get] at e
    rw [wipe_get]
    by_cases hi : i ∈ vs
    · rw [if_pos hi] at e
      cases q : env[i]? <;> rw [q] at e <;> cases e
    · rw [if_neg hi] at e ⊢
      exact s.io i o e
  live := fun i a ha => by
    obtain ⟨o, q⟩ := s.live i a ha
    have hi : i ∉ vs := fun hi => by
      rcases q with q | q
      · cases okW_of h hi q
      · cases okW_of h hi q
    rw [wipeE_get, if_neg hi]
    exact ⟨o, q⟩
  inj := s.inj
  dis := s.dis
  trk := s.trk
  m0 := s.m0
theorem Sim.rest {vs : List Nat} {σ1 : L2.St} (s : Sim S M0 B ow env σ1 H) (hw : okW env vs = true) (h1 : okW env1 vs = true) (hl : env1.length = env.length) (hs : ∀ j, j ∉ vs → σ1[j]? = σ[j]?) (hsl : σ1.length = σ.length)
    (hv : ∀ j d, j ∈ vs → env1[j]? = some (.val d) → ∃ v, σ[j]? = some (some v) ∧ Rep S (Md B ow) H d v) : Sim S M0 B ow (restE env env1 vs) σ H where
  l1 := by rw [restE_len, s.l1, hsl]
  l2 := by rw [s.l2, hsl]
  val := fun i d e => by
    rw [restE_get hl.symm] at e
    by_cases hi : i ∈ vs
    · rw [if_pos hi] at e
      exact hv i d hi e
    · rw [if_neg hi] at e
      rw [← hs i hi]
      exact s.val i d e
  own := fun i o e => by
    rw [restE_get hl.symm] at e
    by_cases hi : i ∈ vs
    · rw [if_pos hi] at e
      cases okW_of h1 hi e
    · rw [if_neg hi] at e
      rw [← hs i hi]
      exact s.own i o e
  io := fun i o e => by
    rw [restE_get hl.symm] at e
    by_cases hi : i ∈ vs
    · rw [if_pos hi] at e
      cases okW_of h1 hi e
    · rw [if_neg hi] at e
      rw [← hs i hi]
      exact s.io i o e
  live := fun i a ha => by
    obtain ⟨o, q⟩ := s.live i a ha
    have hi : i ∉ vs := fun hi => by
      rcases q with q | q
      · cases okW_of hw hi q
      · cases okW_of hw hi q
    rw [restE_get hl.symm, if_neg hi]
    exact ⟨o, q⟩
  inj := s.inj
  dis := s.dis
  trk := s.trk
  m0 := s.m0
def X0 : Exx := fun _ _ => False
def yesT : TF where
  r := fun env P _ => P true env
  m := fun hp _ h => hp _ _ h
theorem t_none : PTs X [] (tT S M0 E yesT) := ⟨fun pins s σ H Q I h => by
  obtain ⟨B, ow, env, sm, h⟩ := h
  exact pts_nil.run pins s σ H Q I (h H ow .refl sm)⟩
theorem t_some (h : PT X c (tT S M0 E t)) : PTs X [c] (tT S M0 E t) := pts_one h
def compL (F : Nat → List Str) (p : Pat) (t : TF) (f : EF) (vs : List Nat) (P : List D → Env' → Prop) : List D → List D → Env' → Prop
  | [], acc, env => P acc env
  | d :: ds, acc, env => ∃ env2, p.put d env = some env2 ∧ t.r env2 (fun b env3 => if b = true then f.r env3 (fun e env4 => ∃ d', e.keep F = some d' ∧ acc.length < 100000 ∧ okW env4 vs = true ∧ compL F p t f vs P ds (acc ++ [d']) (wipeE env4 vs)) X0
      else okW env3 vs = true ∧ compL F p t f vs P ds acc (wipeE env3 vs)) X0
theorem compL_m {F : Nat → List Str} {p : Pat} {t : TF} {f : EF} {vs : List Nat} {P P' : List D → Env' → Prop} (hp : ∀ a e, P a e → P' a e) : ∀ {ds acc : List D} {env : Env'}, compL F p t f vs P ds acc env → compL F p t f vs P' ds acc env
  | [], _, _, h => hp _ _ h
  | d :: ds, acc, env, ⟨env2, h1, h2⟩ => ⟨env2, h1, t.m (fun b env3 h => by
      split at h
      · rename_i z; rw [if_pos z]
        exact f.m (fun e env4 ⟨d', q1, q2, q3, q4⟩ => ⟨d', q1, q2, q3, compL_m hp q4⟩) (fun _ _ h => h) h
      · rename_i z; rw [if_neg z]; exact ⟨h.1, compL_m hp h.2⟩) (fun _ _ h => h) h2⟩
def lcF (F : Nat → List Str) (it : LF) (p : Pat) (t : TF) (f : EF) (vs : List Nat) : EF where
  r := fun env P X => it.r env (fun ds env1 => okW env1 vs = true ∧ compL F p t f vs (fun acc envW => P (.new (.lst acc)) (restE envW env1 vs)) ds [] (wipeE env1 vs)) X
  m := fun hp hx h => it.m (fun ds env1 h => ⟨h.1, compL_m (fun _ _ h => hp _ _ h) h.2⟩) hx h
/-- another's object changes -/
theorem Sim.other {a : Addr} {ho : HO} (s : Sim S M0 B ow env σ H) (ha : B a) : Sim S M0 B ow env σ (upd H a ho) := by
  have hm : Md B ow a := .inl ha
  have mv : ∀ b o, ¬ Md B ow b → H b = some o → (upd H a ho) b = some o ∧ ¬ Md B ow b := fun b o n e => ⟨by rw [upd_ne (fun z => n (by rw [z]; exact hm))]; exact e, n⟩
  have nw : ∀ {i : Nat} {b : Addr}, ow[i]? = some (some b) → b ≠ a := fun h z => s.dis a ha (by rw [← z]; exact List.mem_of_getElem? h)
  exact {
    l1 := s.l1
    l2 := s.l2
    val := fun i d e => by
      obtain ⟨v, h1, h2⟩ := s.val i d e
      exact ⟨v, h1, Rep.move mv _ _ h2⟩
    own := fun i o e => by
      obtain ⟨b, h1, h2, h3, h4⟩ := s.own i o e
      exact ⟨b, h1, h2, h3.move (fun u z => by rw [upd_ne (nw h1)]; exact z) mv, h4⟩
    io := fun i o e => by
      obtain ⟨b, h1, h2, h3⟩ := s.io i o e
      exact ⟨b, h1, h2, h3.move (fun u z => by rw [upd_ne (nw h1)]; exact z) mv⟩
    live := s.live
    inj := s.inj
    dis := s.dis
    trk := fun b hb => by
      by_cases hz : b = a
      · exact ⟨_, by rw [hz]; exact upd_same⟩
      · rw [upd_ne hz]; exact s.trk b hb
    m0 := s.m0 }
theorem lc_of {p : Pat} {vs : List Nat} {Q : VK} (h : tE S M0 E (lcF S.flds it p t f vs) σ H Q) : tLc (tI S M0 E it) (tGp S M0 p vs) (tT S M0 E0 t) (tE S M0 E0 f) vs σ H Q := by
  obtain ⟨B, ow, env, s, h⟩ := h
  refine ⟨B, ow, env, s, it.m (fun ds env1 h1 J H1 ow1 st1 s1 src Dl hD => ?_) (fun _ _ h => h) h⟩
  obtain ⟨hok, h1⟩ := h1
  have nD : ¬ Md B ow1 Dl := fun z => by
    obtain ⟨u, hu⟩ := s1.trkA Dl z
    rw [hD] at hu; cases hu
  have nD0 : ¬ M0 Dl := fun z => nD (s1.m0 Dl z)
  have gr1 : Grow H1 (upd H1 Dl (.lst [])) := .upd hD
  let Pv : List D → Env' → Prop := fun acc envW => ∀ v H' ow', Stp ow H ow' H' → Nw H (.new (.lst acc)) v → EVOk S M0 B ow' (restE envW env1 vs) σ H' (.new (.lst acc)) v → Q v H'
  let W : Nat → Nat → Hp → Prop := fun i m H2 => ∃ ow2 envW acc us, m = ds.length - i ∧ i ≤ ds.length ∧ Stp ow1 H1 ow2 H2 ∧ Sim S M0 (plus B Dl) ow2 envW (L2.wipe σ vs) H2 ∧ okW envW vs = true ∧ envW.length = env1.length ∧ H2 Dl = some (.lst us) ∧ RepL S (Md (plus B Dl) ow2) H2 acc us ∧
    compL S.flds p t f vs Pv (ds.drop i) acc envW
  have sD : Sim S M0 (plus B Dl) ow1 (wipeE env1 vs) (L2.wipe σ vs) (upd H1 Dl (.lst [])) := by
    have := new_ok (ho := .lst []) (o := .lst []) (s1.wipe hok) hD fun M hM => ⟨[], upd_same, rfl⟩
    obtain ⟨p, ep, _, _, z, _⟩ := this
    cases ep
    exact z
  refine ⟨W, ⟨_, ow1, wipeE env1 vs, [], [], rfl, Nat.zero_le _, .grow gr1, sD, okW_wipe vs, wipeE_len vs, upd_same, rfl, h1⟩, ?_⟩
  rintro i m H2 ⟨ow2, envW, acc, us, rfl, hi, st2, s2, hoW, hlW, hD2, rl, h2⟩
  have mv : ∀ a o, ¬ Md B ow1 a → H1 a = some o → H2 a = some o ∧ ¬ Md (plus B Dl) ow2 a := fun a o n e => ⟨st2.kp a o (fun z => n (.inr z)) e, fun z => by
    rcases z with (z | z) | z
    · exact n (.inl z)
    · subst z; rw [hD] at e; cases e
    · rcases st2.nw a z with z | z
      · exact n (.inr z)
      · rw [z] at e; cases e⟩
  obtain ⟨k1, k2⟩ := src (Md (plus B Dl) ow2) H2 mv s2.trkA i
  have noD : ∀ {ow3 : OW} {env3 : Env'} {σ3 : L2.St} {H3 : Hp}, Sim S M0 (plus B Dl) ow3 env3 σ3 H3 → some Dl ∉ ow3 := fun s3 => s3.dis Dl (.inr rfl)
  by_cases hlt : i < ds.length
  · right
    have hd : ds[i]? = some ds[i] := List.getElem?_eq_getElem hlt
    obtain ⟨g1, g2⟩ := k1 _ hd
    rw [List.drop_eq_getElem_cons hlt] at h2
    obtain ⟨env3, h3, h4⟩ := h2
    refine ⟨g1, fun H' => ∃ ow' envW' acc' us', Stp ow1 H1 ow' H' ∧ Sim S M0 (plus B Dl) ow' envW' (L2.wipe σ vs) H' ∧ okW envW' vs = true ∧ envW'.length = env1.length ∧ H' Dl = some (.lst us') ∧ RepL S (Md (plus B Dl) ow') H' acc' us' ∧ compL S.flds p t f vs Pv (ds.drop (i + 1)) acc' envW',
      fun H' ⟨ow', envW', acc', us', z⟩ => ⟨ds.length - (i + 1), by omega, ow', envW', acc', us', rfl, hlt, z⟩, fun x H' y => ?_⟩
    obtain ⟨gr, r⟩ := g2 x H' y
    have wid : ∀ σ', L2.wipe σ' vs = L2.wipe (L2.wipe σ vs) vs → L2.wipe σ' vs = L2.wipe σ vs := fun σ' z => z.trans wipe_idem
    refine ⟨plus B Dl, ow2, envW, ds[i], env3, s2.grow gr, r, h3, fun σ3 ow3 st3 s3 w3' => ?_⟩
    have w3 := wid σ3 w3'
    refine ⟨w3, ?_⟩
    have st : Stp ow1 H1 ow3 H' := (st2.trans (.grow gr)).trans st3
    refine ⟨plus B Dl, ow3, env3, s3, t.m (fun k env4 h H4 ow4 st4 s4 => ?_) (fun _ _ z => z.elim) h4⟩
    have st4' := st.trans st4
    have len4 : ∀ {envx : Env'} {owx : OW} {Hx : Hp}, Sim S M0 (plus B Dl) owx envx σ3 Hx → (wipeE envx vs).length = env1.length := fun sx => by
      rw [wipeE_len, sx.l1, ← hlW, s2.l1, ← wipe_length σ3 vs, w3]
    have hD4 : H4 Dl = some (.lst us) := st4.kp Dl _ (noD s3) (gr Dl _ hD2)
    have rl4 : RepL S (Md (plus B Dl) ow4) H4 acc us := RepL.stp (((Stp.grow gr).trans st3).trans st4) rl
    cases k with
    | false =>
      rw [if_neg Bool.false_ne_true] at h
      have s4' := s4.wipe h.1
      rw [w3] at s4'
      show ∃ ow' envW' acc' us', _
      exact ⟨ow4, wipeE env4 vs, acc, us, st4', s4', okW_wipe vs, len4 s4, hD4, rl4, h.2⟩
    | true =>
      rw [if_pos rfl] at h
      show tE S M0 E0 f σ3 H4 _
      refine ⟨plus B Dl, ow4, env4, s4, f.m (fun e env5 h v H5 ow5 st5 nw5 ok5 => ?_) (fun _ _ z => z.elim) h⟩
      obtain ⟨d', q1, q2, q3, q4⟩ := h
      obtain ⟨s5, r5⟩ := ok5.keep q1
      have hD5 : H5 Dl = some (.lst us) := st5.kp Dl _ (noD s4) hD4
      have rl5 := RepL.stp st5 rl4
      refine ⟨us, hD5, by rw [← rl5.len]; exact line5 q2, ?_⟩
      have hm : Md (plus B Dl) ow5 Dl := .inl (.inr rfl)
      have s5w := s5.wipe q3
      rw [w3] at s5w
      refine ⟨ow5, wipeE env5 vs, acc ++ [d'], us ++ [v], ?_, ?_, okW_wipe vs, len4 s5, upd_same, (rl5.upd_at hm).append ⟨v, [], rfl, r5.upd_at hm, rfl⟩, q4⟩
      · have stz := st4'.trans st5
        refine ⟨fun a o n e => ?_, stz.nwp, fun a o e => ?_⟩
        · rw [upd_ne (fun z => by rw [z, hD] at e; cases e)]; exact stz.kp a o n e
        · by_cases hz : a = Dl
          · exact ⟨_, by rw [hz]; exact upd_same⟩
          · rw [upd_ne hz]; exact stz.gr a o e
      · exact s5w.other (.inr rfl)
  · have e : i = ds.length := by omega
    subst e
    rw [List.drop_length] at h2
    refine .inl ⟨k2 rfl, ?_⟩
    have h2 : Pv acc envW := h2
    refine h2 _ H2 ow2 (st1.trans st2) (.at (st1.fresh hD)) ⟨Dl, rfl, fun z => ?_, nD0, ?_, us, hD2, rl⟩
    · rcases z with z | z
      · exact nD (.inl z)
      · exact noD s2 z
    · refine s2.rest hoW hok hlW.symm (fun j hj => ?_) (wipe_length _ _) (fun j d hj ej => ?_)
      · rw [wipe_get, if_neg hj]
      · obtain ⟨v, e1, e2⟩ := s1.val j d ej
        exact ⟨v, e1, Rep.move mv _ _ e2⟩
theorem r_lc {scope : Scope} {own : List (Str × Nat)} {p : Pat} (hk : X.K = S.K) (hc : X.calm = true) (hN : X.N.Nodup) (hi : PI X tg iter (tI S M0 E it)) (ok : BlkOk X.N X.env.scope scope own)
    (hg : ∀ (s : Shared) (H : Hp) (C : Addr) (cl : List (Str × Addr)) (fp : List Addr), PG (X.blk s H scope (compEnvC scope cl C X.env) fp) tg (tGp S M0 p (own.map (·.2)))) (ht : ∀ (s : Shared) (H : Hp) (C : Addr) (cl : List (Str × Addr)) (fp : List Addr), PTs (X.blk s H scope (compEnvC scope cl C X.env) fp) ifs (tT S M0 E0 t))
    (he : ∀ (s : Shared) (H : Hp) (C : Addr) (cl : List (Str × Addr)) (fp : List Addr), PE (X.blk s H scope (compEnvC scope cl C X.env) fp) elt (tE S M0 E0 f)) (hs : ∀ x, foldedSetIterable iter X.env x = pure x := by intro _; rfl) :
    PE X (.ListComp elt [⟨tg, iter, ifs, 0⟩] scope pos) (tE S M0 E (lcF S.flds it p t f (own.map (·.2)))) := PE.imp (pe_lc hc hN hi ok hg ht he hs) fun σ H Q h => lc_of h
/-- name = [..] on one line, the name a local -/
theorem s_setLc {i : Nat} {y : Str} {py spos : Pos} {scope : Scope} {own : List (Str × Nat)} {p : Pat} (hk : X.K = S.K) (hc : X.calm = true) (hN : X.N.Nodup) (hi : PI X tg iter (tI S M0 E it)) (ok : BlkOk X.N X.env.scope scope own)
    (hg : ∀ (s : Shared) (H : Hp) (C : Addr) (cl : List (Str × Addr)) (fp : List Addr), PG (X.blk s H scope (compEnvC scope cl C X.env) fp) tg (tGp S M0 p (own.map (·.2)))) (ht : ∀ (s : Shared) (H : Hp) (C : Addr) (cl : List (Str × Addr)) (fp : List Addr), PTs (X.blk s H scope (compEnvC scope cl C X.env) fp) ifs (tT S M0 E0 t))
    (he : ∀ (s : Shared) (H : Hp) (C : Addr) (cl : List (Str × Addr)) (fp : List Addr), PE (X.blk s H scope (compEnvC scope cl C X.env) fp) elt (tE S M0 E0 f))
    (hy : X.N[i]? = some y := by rfl) (hyl : X.env.scope.names.lookup y = some .local := by rfl) (hfn : X.env.scope.kind = .function := by rfl) (hl : (py.line == pos.line) = true := by rfl)
    (hany : (scope.names.any fun (n, k) => n == y && (k == .local || k == .cell)) = false := by rfl) (hs : ∀ x, foldedSetIterable iter X.env x = pure x := by intro _; rfl) :
    PS X (.Assign [.Name y py] (.ListComp elt [⟨tg, iter, ifs, 0⟩] scope pos) spos) (tS S M0 E (asgS i (lcF S.flds it p t f (own.map (·.2))))) :=
  PS.imp (ps_setLc (te := tE S M0 E0 f) hc hN hy hyl (sw_true hfn hyl hl hany) hi ok hg ht he hs) fun D σ H h => by
    obtain ⟨B, ow, env, s, h⟩ := h
    have h : (lcF S.flds it p t f (own.map (·.2))).r env (fun e env1 => ∃ env2, putE i e env1 = some env2 ∧ (pst S M0 B ow H D).nx env2) (XP S M0 E ow H) := h
    refine lc_of (E := E) ⟨B, ow, env, s, (lcF S.flds it p t f (own.map (·.2))).m (fun e env1 h v H1 ow1 st1 nw1 ok1 => ?_) (fun _ _ h => h) h⟩
    obtain ⟨env2, h1, h2⟩ := h
    obtain ⟨ow', st', s'⟩ := ok1.put st1 nw1 h1
    exact h2 _ H1 ow' st' s'
end
end En
set_option Elab.async false
set_option linter.all false
set_option maxRecDepth 100000
namespace En
open PySem PySem.Spec PyProof.Rows L2
section
variable {X : Cx} {S : Sg} {M0 B : MS} {E : XK} {ow ow0 ow1 : OW} {env env1 : Env'} {σ : L2.St} {H H0 H1 : Hp}
variable {a b c e e2 elt o i : Expr} {es ifs : List Expr} {f f2 f3 : EF} {t t2 : TF} {pos p apos tpos pos' : Pos} {x y z : Str} {l it : LF} {tg iter : Expr} {kk : Nat} {elts : List Expr}
/-! ### several at once -/
structure LE where
  r : Env' → (List EV → Env' → Prop) → Exx → Prop
  m : ∀ {env P P' X X'}, (∀ e env', P e env' → P' e env') → (∀ c fs, X c fs → X' c fs) → r env P X → r env P' X'
def EVs (S : Sg) (M0 : MS) (H0 : Hp) (σ : L2.St) (H : Hp) (ow : OW) (env : Env') (M : MS) : MS → List EV → List V → Prop
  | B, [], vs => vs = [] ∧ Sim S M0 B ow env σ H ∧ ∀ b, Md B ow b ↔ M b
  | B, .val d :: es, vs => ∃ v r, vs = v :: r ∧ Rep S M H d v ∧ EVs S M0 H0 σ H ow env M B es r
  | B, .new o :: es, vs => ∃ a r, vs = .ref a :: r ∧ H0 a = none ∧ ¬ Md B ow a ∧ ¬ M0 a ∧ ObRep S M H a o ∧ EVs S M0 H0 σ H ow env M (plus B a) es r
  | _, .own _ :: _, _ => False
theorem EVs.back (st : Stp ow0 H0 ow1 H1) {M : MS} : ∀ {es : List EV} {B : MS} {vs : List V}, EVs S M0 H1 σ H ow env M B es vs → EVs S M0 H0 σ H ow env M B es vs
  | [], _, _, h => h
  | .val d :: es, _, _, ⟨v, r, e, h1, h2⟩ => ⟨v, r, e, h1, EVs.back st h2⟩
  | .new o :: es, _, _, ⟨a, r, e, h0, h1, h2, h3, h4⟩ => ⟨a, r, e, st.fresh h0, h1, h2, h3, EVs.back st h4⟩
  | .own _ :: _, _, _, h => h.elim
theorem EVs.sub {M : MS} : ∀ {es : List EV} {B : MS} {vs : List V}, EVs S M0 H0 σ H ow env M B es vs → ∀ b, M b → Md B ow b ∨ H0 b = none
  | [], _, _, h, b, hb => .inl ((h.2.2 b).mpr hb)
  | .val d :: es, _, _, ⟨v, r, e, h1, h2⟩, b, hb => EVs.sub h2 b hb
  | .new o :: es, _, _, ⟨a, r, e, h0, h1, h2, h3, h4⟩, b, hb => by
    rcases EVs.sub h4 b hb with (z | z) | z
    · rcases z with z | z
      · exact .inl (.inl z)
      · subst z; exact .inr h0
    · exact .inl (.inr z)
    · exact .inr z
  | .own _ :: _, _, _, h, _, _ => h.elim
def tP (S : Sg) (M0 : MS) (E : XK) (F : LE) : TA := fun σ H Q => ∃ B ow env, Sim S M0 B ow env σ H ∧
  F.r env (fun es env' => ∀ vs H' ow' M, Stp ow H ow' H' → EVs S M0 H σ H' ow' env' M B es vs → Q vs H') (XP S M0 E ow H)
def nilP : LE where
  r := fun env P _ => P [] env
  m := fun hp _ h => hp _ _ h
def EV.isOwn : EV → Bool
  | .own _ => true
  | _ => false
def consP (f : EF) (l : LE) : LE where
  r := fun env P X => f.r env (fun e env1 => e.isOwn = false ∧ l.r env1 (fun es env2 => P (e :: es) env2) X) X
  m := fun hp hx h => f.m (fun e env1 h => ⟨h.1, l.m (fun _ _ h => hp _ _ h) hx h.2⟩) hx h
variable {lp : LE}
theorem p_nil : PA X [] (tP S M0 E nilP) := PA.imp pa_nil fun σ H Q h => by
  obtain ⟨B, ow, env, s, h⟩ := h
  exact h [] H ow (Md B ow) .refl ⟨rfl, s, fun _ => Iff.rfl⟩
theorem p_cons (ha : PE X e (tE S M0 E f)) (hr : PA X es (tP S M0 E lp)) (hs : starEach (e :: es) X.env = (false, eval e X.env) :: starEach es X.env := by rfl) : PA X (e :: es) (tP S M0 E (consP f lp)) :=
  PA.imp (pa_cons ha hr hs) fun σ H Q h => by
    obtain ⟨B, ow, env, s, h⟩ := h
    refine ⟨B, ow, env, s, f.m (fun e1 env1 h1 v H1 ow1 st1 nw1 ok1 => ?_) (fun _ _ h => h) h⟩
    obtain ⟨q, h1⟩ := h1
    cases e1 with
    | own j => cases q
    | val d =>
      obtain ⟨s1, r1⟩ := ok1
      refine ⟨B, ow1, env1, s1, lp.m (fun es env2 h2 vs H2 ow2 M st2 k => ?_) (fun _ _ h => h.stp st1) h1⟩
      refine h2 (v :: vs) H2 ow2 M (st1.trans st2) ⟨v, vs, rfl, ?_, k.back st1⟩
      refine Rep.move (fun a o n e => ⟨st2.kp a o (fun z => n (.inr z)) e, fun z => ?_⟩) _ _ r1
      rcases k.sub a z with (z | z) | z
      · exact n (.inl z)
      · rcases st2.nw a z with z | z
        · exact n (.inr z)
        · rw [z] at e; cases e
      · rw [z] at e; cases e
    | new o =>
      obtain ⟨a, rfl, na, n0, s1, r1⟩ := ok1
      refine ⟨plus B a, ow1, env1, s1, lp.m (fun es env2 h2 vs H2 ow2 M st2 k => ?_) (fun _ _ h => h.stp st1) h1⟩
      have ha1 : ∃ u, H1 a = some u := s1.trk a (.inr rfl)
      obtain ⟨u, hu⟩ := ha1
      have no1 : some a ∉ ow1 := fun z => na (.inr z)
      refine h2 (.ref a :: vs) H2 ow2 M (st1.trans st2) ⟨a, vs, rfl, nw1 a rfl, fun z => ?_, n0, ?_, k.back st1⟩
      · rcases z with z | z
        · exact na (.inl z)
        · rcases st2.nw a z with z | z
          · exact no1 z
          · rw [z] at hu; cases hu
      · refine r1.move (fun w hw => st2.kp a w no1 hw) (fun b o n e => ⟨st2.kp b o (fun z => n (.inr z)) e, fun z => ?_⟩)
        rcases k.sub b z with (z | z) | z
        · exact n (.inl z)
        · rcases st2.nw b z with z | z
          · exact n (.inr z)
          · rw [z] at e; cases e
        · rw [z] at e; cases e
def putEs : List Nat → List EV → Env' → Option Env'
  | [], [], env => some env
  | i :: is, e :: es, env => (putEs is es env).bind (putE i e)
  | _, _, _ => none
def setAll (σ : L2.St) : List Nat → List V → L2.St
  | i :: is, v :: vs => (setAll σ is vs).set i (some v)
  | _, _ => σ
theorem EVs.put {M : MS} : ∀ {es : List EV} {is : List Nat} {B : MS} {vs : List V} {env' : Env'}, EVs S M0 H0 σ H ow env M B es vs → Stp ow0 H0 ow H → putEs is es env = some env' →
    ∃ ow', Stp ow0 H0 ow' H ∧ Sim S M0 B ow' env' (setAll σ is vs) H ∧ ∀ b, Md B ow' b → M b
  | [], [], B, vs, env', h, st, q => by
    cases q
    obtain ⟨rfl, s, m⟩ := h
    exact ⟨ow, st, s, fun b hb => (m b).mp hb⟩
  | [], _ :: _, _, _, _, _, _, q => by cases q
  | _ :: _, [], _, _, _, _, _, q => by cases q
  | e :: es, i :: is, B, vs, env', h, st, q => by
    obtain ⟨env1, q1, q2⟩ := Option.bind_eq_some_iff.mp (show (putEs is es env).bind (putE i e) = some env' from q)
    cases e with
    | own j => exact h.elim
    | val d =>
      obtain ⟨v, r, rfl, h1, h2⟩ := h
      obtain ⟨ow1, st1, s1, sub⟩ := EVs.put h2 st q1
      unfold putE at q2
      split at q2
      · cases q2
      · rename_i sl he
        split at q2
        · cases q2
        · rename_i n
          cases q2
          exact ⟨_, st1.setNone, s1.setV he (by simpa using n) (.inr ⟨d, v, rfl, rfl, h1.anti fun b z => sub b (md_set b z)⟩), fun b z => sub b (md_set b z)⟩
    | new o =>
      obtain ⟨a, r, rfl, h0, na, n0, h1, h2⟩ := h
      obtain ⟨ow1, st1, s1, sub⟩ := EVs.put h2 st q1
      unfold putE at q2
      split at q2
      · cases q2
      · rename_i sl he
        split at q2
        · cases q2
        · rename_i n
          cases q2
          refine ⟨_, st1.setNew h0, s1.setNew (fun z => ?_) n0 (h1.anti sub) he (by simpa using n), fun b z => sub b ?_⟩
          · rcases z with z | z
            · exact na (.inl z)
            · exact s1.dis a (.inr rfl) z
          · rcases z with z | z
            · exact .inl (.inl z)
            · rcases mem_set z with z | z
              · exact .inr z
              · cases z; exact .inl (.inr rfl)
def parS (is : List Nat) (l : LE) : SF where
  r := fun env P X => l.r env (fun es env1 => ∃ env2, putEs is es env1 = some env2 ∧ P.nx env2) X
  m := fun hp hx h => l.m (fun _ _ ⟨env2, h1, h2⟩ => ⟨env2, h1, hp.nx _ h2⟩) hx h
theorem putEs_len : ∀ {is : List Nat} {es : List EV} {env env' : Env'}, putEs is es env = some env' → es.length = is.length
  | [], [], _, _, _ => rfl
  | i :: is, e :: es, env, env', h => by
    obtain ⟨env1, h1, _⟩ := Option.bind_eq_some_iff.mp (show (putEs is es env).bind (putE i e) = some env' from h)
    simp [putEs_len h1]
  | [], _ :: _, _, _, h => by cases h
  | _ :: _, [], _, _, h => by cases h
theorem EVs.len {M : MS} : ∀ {es : List EV} {B : MS} {vs : List V}, EVs S M0 H0 σ H ow env M B es vs → vs.length = es.length
  | [], _, _, h => by rw [h.1]; rfl
  | .val d :: es, _, _, ⟨v, r, e, h1, h2⟩ => by rw [e]; simp [EVs.len h2]
  | .new o :: es, _, _, ⟨a, r, e, h0, h1, h2, h3, h4⟩ => by rw [e]; simp [EVs.len h4]
  | .own _ :: _, _, _, h => h.elim
theorem s_par {i j : Nat} {a b : Expr} {px py pt : Pos} {kt k2 pt2} (hc : X.calm = true) (hN : X.N.Nodup) (ha : PA X [a, b] (tP S M0 E lp))
    (hw : swappedStores [.Tuple [.Name x px, .Name y py] kt pt] (.Tuple [a, b] k2 pt2) X.env = pure (some [x, y]) := by rfl)
    (hij : i ≠ j := by decide) (hi : X.N[i]? = some x := by rfl) (hj : X.N[j]? = some y := by rfl) 
    (hx : X.env.scope.names.lookup x = some .local := by rfl) (hy : X.env.scope.names.lookup y = some .local := by rfl)
    (hs : swapsWithSole [.Tuple [.Name x px, .Name y py] kt pt] (.Tuple [a, b] k2 pt2) pos.line X.env = pure false := by rfl) :
    PS X (.Assign [.Tuple [.Name x px, .Name y py] kt pt] (.Tuple [a, b] k2 pt2) pos) (tS S M0 E (parS [i, j] lp)) := PS.imp (ps_par hc hN hi hj hij hx hy ha hw hs) fun D σ H h => by
  obtain ⟨B, ow, env, s, h⟩ := h
  refine ⟨B, ow, env, s, lp.m (fun es env1 h1 vs H1 ow1 M st1 k => ?_) (fun _ _ h => h) h⟩
  obtain ⟨env2, q, h2⟩ := h1
  have hl := k.len
  rw [putEs_len q] at hl
  obtain ⟨ow2, st2, s2, _⟩ := k.put st1 q
  match vs, hl with
  | [v, w], _ =>
    refine ⟨v, w, rfl, ?_⟩
    rw [List.set_comm _ _ hij]
    exact h2 _ H1 ow2 st2 s2
theorem s_par3 {i j k : Nat} {a b c : Expr} {px py pz pt : Pos} {kt k2 pt2} (hc : X.calm = true) (hN : X.N.Nodup) (ha : PA X [a, b, c] (tP S M0 E lp))
    (hw : swappedStores [.Tuple [.Name x px, .Name y py, .Name z pz] kt pt] (.Tuple [a, b, c] k2 pt2) X.env = pure (some [x, y, z]) := by rfl)
    (hij : i ≠ j := by decide) (hik : i ≠ k := by decide) (hjk : j ≠ k := by decide) (hi : X.N[i]? = some x := by rfl) (hj : X.N[j]? = some y := by rfl) (hk : X.N[k]? = some z := by rfl)
    (hx : X.env.scope.names.lookup x = some .local := by rfl) (hy : X.env.scope.names.lookup y = some .local := by rfl) (hz : X.env.scope.names.lookup z = some .local := by rfl)
    (hs : swapsWithSole [.Tuple [.Name x px, .Name y py, .Name z pz] kt pt] (.Tuple [a, b, c] k2 pt2) pos.line X.env = pure false := by rfl) :
    PS X (.Assign [.Tuple [.Name x px, .Name y py, .Name z pz] kt pt] (.Tuple [a, b, c] k2 pt2) pos) (tS S M0 E (parS [i, j, k] lp)) := PS.imp (ps_par3 hc hN hi hj hk hij hik hjk hx hy hz ha hw hs) fun D σ H h => by
  obtain ⟨B, ow, env, s, h⟩ := h
  refine ⟨B, ow, env, s, lp.m (fun es env1 h1 vs H1 ow1 M st1 kk1 => ?_) (fun _ _ h => h) h⟩
  obtain ⟨env2, q, h2⟩ := h1
  have hl := kk1.len
  rw [putEs_len q] at hl
  obtain ⟨ow2, st2, s2, _⟩ := kk1.put st1 q
  match vs, hl with
  | [u, v, w], _ =>
    refine ⟨u, v, w, rfl, ?_⟩
    have e : ((σ.set i (some u)).set j (some v)).set k (some w) = ((σ.set k (some w)).set j (some v)).set i (some u) := by
      rw [List.set_comm _ _ hij, List.set_comm _ _ hik, List.set_comm _ _ hjk]
    rw [e]
    exact h2 _ H1 ow2 st2 s2
/-! ### stores into one's own lists and dicts -/
def putD {κ : Type} [DecidableEq κ] (ks : List κ) (ds : List D) (k : κ) (d : D) : List κ × List D :=
  if (ks.any fun j => decide (j = k)) = true then (ks, List.zipWith (fun j x => if j = k then d else x) ks ds) else (ks ++ [k], ds ++ [d])
theorem zipWith_rep {κ : Type} [DecidableEq κ] {M : MS} {k : κ} {d : D} {v : V} (r : Rep S M H d v) : ∀ {ks : List κ} {ds : List D} {vs : List V}, RepL S M H ds vs → RepL S M H (List.zipWith (fun j x => if j = k then d else x) ks ds) (List.zipWith (fun j x => if j = k then v else x) ks vs)
  | [], _, _, _ => by simp [RepL]
  | j :: ks, [], _, h => by cases h; simp [RepL]
  | j :: ks, x :: ds, _, h => by
    obtain ⟨w, rr, rfl, h1, h2⟩ := h
    refine ⟨_, _, rfl, ?_, zipWith_rep r h2⟩
    show Rep S M H (if j = k then d else x) (if j = k then v else w)
    by_cases hj : j = k
    · rw [if_pos hj, if_pos hj]; exact r
    · rw [if_neg hj, if_neg hj]; exact h1
theorem put_zip {κ : Type} [DecidableEq κ] {k : κ} {v : V} : ∀ {ks : List κ} {vs : List V}, ks.length = vs.length → (ks.zip vs).map (fun kv => if kv.1 = k then (kv.1, v) else kv) = ks.zip (List.zipWith (fun j x => if j = k then v else x) ks vs)
  | [], _, _ => by simp
  | j :: ks, [], h => by simp at h
  | j :: ks, x :: vs, h => by
    rw [List.zip_cons_cons, List.map_cons, List.zipWith_cons_cons, List.zip_cons_cons, put_zip (by simpa using h)]
    congr 1
    by_cases hj : j = k
    · simp [hj]
    · simp [hj]
theorem any_zip {κ : Type} [DecidableEq κ] {k : κ} : ∀ {ks : List κ} {vs : List V}, ks.length = vs.length → ((ks.zip vs).any fun kv => decide (kv.1 = k)) = ks.any fun j => decide (j = k)
  | [], _, _ => by simp
  | j :: ks, [], h => by simp at h
  | j :: ks, x :: vs, h => by
    rw [List.zip_cons_cons, List.any_cons, List.any_cons, any_zip (by simpa using h)]
theorem putD_v {κ : Type} [DecidableEq κ] {M : MS} {ks : List κ} {ds : List D} {vs : List V} {k : κ} {d : D} {v : V} (l : RepL S M H ds vs) (r : Rep S M H d v) (z : ks.length = vs.length) :
    ∃ vs', putK (ks.zip vs) k v = (putD ks ds k d).1.zip vs' ∧ (putD ks ds k d).1.length = vs'.length ∧ RepL S M H (putD ks ds k d).2 vs' := by
  unfold putK putD
  rw [any_zip z]
  by_cases ha : (ks.any fun j => decide (j = k)) = true
  · rw [if_pos ha, if_pos ha]
    exact ⟨_, put_zip z, by simp [z], zipWith_rep r l⟩
  · rw [if_neg ha, if_neg ha]
    refine ⟨vs ++ [v], ?_, by simp [z], l.append ⟨v, [], rfl, r, rfl⟩⟩
    rw [List.zip_append z]; rfl
def putOb : Ob → D → D → Option Ob
  | .dK ks ds, k, d => (keyD? k).bind fun k => if ds.length < 100000 then some (.dK (putD ks ds k d).1 (putD ks ds k d).2) else none
  | .dT ks ds, k, d => (keyT? k).bind fun k => if ds.length < 100000 then some (.dT (putD ks ds k d).1 (putD ks ds k d).2) else none
  | .lst ds, .int i, d => (ixN ds.length i).map fun j => .lst (ds.set j d)
  | _, _, _ => none
structure GF where
  r : D → Env' → (Env' → Prop) → Exx → Prop
  m : ∀ {d env P P' X X'}, (∀ env', P env' → P' env') → (∀ c fs, X c fs → X' c fs) → r d env P X → r d env P' X'
structure GFs where
  r : List D → Env' → (Env' → Prop) → Exx → Prop
  m : ∀ {d env P P' X X'}, (∀ env', P env' → P' env') → (∀ c fs, X c fs → X' c fs) → r d env P X → r d env P' X'
def tG (S : Sg) (M0 : MS) (E : XK) (g : GF) : TG := fun v σ H Q => ∃ B ow env d, Sim S M0 B ow env σ H ∧ Rep S (Md B ow) H d v ∧ g.r d env (fun env' => ∀ σ' H' ow', Stp ow H ow' H' → Sim S M0 B ow' env' σ' H' → Q σ' H') (XP S M0 E ow H)
def tGs (S : Sg) (M0 : MS) (E : XK) (g : GFs) : TGs := fun vs σ H Q => ∃ B ow env ds, Sim S M0 B ow env σ H ∧ RepL S (Md B ow) H ds vs ∧ g.r ds env (fun env' => ∀ σ' H' ow', Stp ow H ow' H' → Sim S M0 B ow' env' σ' H' → Q σ' H') (XP S M0 E ow H)
def patG (p : Pat) : GF where
  r := fun d env P _ => ∃ env', p.put d env = some env' ∧ P env'
  m := fun hp _ ⟨e, h1, h2⟩ => ⟨e, h1, hp _ h2⟩
theorem g_pat {p : Pat} {vs : List Nat} (h : PG X tg (tGp S M0 p vs)) : PG X tg (tG S M0 E (patG p)) := PG.imp h fun v σ H Q h => by
  obtain ⟨B, ow, env, d, s, r, env', h1, h2⟩ := h
  exact ⟨B, ow, env, d, env', s, r, h1, fun σ' ow' st s' _ => h2 σ' H ow' st s'⟩
def subG (F : Nat → List Str) (i : Nat) (f : EF) : GF where
  r := fun d env P X => (∃ sl o, env[i]? = some sl ∧ sl.ob = some o) ∧ f.r env (fun e env1 => ∃ e', e.settle F = some e' ∧ ∃ k, e'.rd F env1 = some k ∧ ∃ sl o o', env1[i]? = some sl ∧ sl.ob = some o ∧ putOb o k d = some o' ∧ P (env1.set i (sl.put o'))) X
  m := fun hp hx h => ⟨h.1, f.m (fun e env1 ⟨e', q, k, h1, sl, o, o', h2, h3, h4, h5⟩ => ⟨e', q, k, h1, sl, o, o', h2, h3, h4, hp _ h5⟩) hx h.2⟩
def rSetA : TSet := fun o i v H Q => rSetD o i v H Q ∨ rSetL o i v H Q
theorem set_any (hu : X.A.units + 1 < cLine) : PSet X rSetA := by
  intro pins s σ H o i v ov iv u Q I ro ri rv h
  rcases h with h | h
  · exact set_dict hu pins s σ H o i v ov iv u Q I ro ri rv h
  · exact set_list pins s σ H o i v ov iv u Q I ro ri rv h
theorem g_sub {j : Nat} {p2 : Pos} {i : Expr} (hu : X.A.units + 100 < cLine) (hi : PE X i (tE S M0 E f)) (hN : X.N[j]? = some x := by rfl) (hv : Vis X.env.scope x := by first | exact Or.inl rfl | exact Or.inr (Or.inl rfl) | exact Or.inr (Or.inr rfl)) (hd : (x == ("__debug__" : Str)) = false := by decide)
    (hcd : (x == ("__classdict__" : Str)) = false := by decide)
    (ha : ∀ v, assign (.Subscript (.Name x p2) i pos) X.env v = (do
      let ov ← holding [v] (eval (.Name x p2) X.env)
      let iv ← holding [v, ov] (eval i X.env)
      standAt pos
      holding [v, ov, iv] (setItem ov iv v)
      release [v, ov, iv] []) := by intro _; rfl) : PG X (.Subscript (.Name x p2) i pos) (tG S M0 E (subG S.flds j f)) :=
  PG.imp (pg_sub (pe_var hN hv hd hcd) hi (set_any (by omega)) ha) fun v σ H Q h => by
    obtain ⟨B, ow, env, d, s, r, ⟨sl0, o0, h1, h2⟩, h3⟩ := h
    obtain ⟨a, k1, k2, k3⟩ := s.slot h1 h2
    refine ⟨_, k2, B, ow, env, s, f.m (fun e1 env1 g w H1 ow1 st1 nw1 ok1 => ?_) (fun _ _ h => h) h3⟩
    obtain ⟨e', q, k, g1, sl, o, o', g2, g3, g4, g5⟩ := g
    have ok1' := ok1.settle q
    have s1 := ok1'.sim (EV.settle_old q)
    have rk := ok1'.rd .refl s1 g1
    obtain ⟨b1, b2⟩ := slot_fix s1 g2 g3 k2
    have hm : Md B ow1 a := .inr (List.mem_of_getElem? b1)
    have r1 := Rep.stp st1 r
    have fin : ∀ ho, ObRep S (Md B ow1) (upd H1 a ho) a o' → Q σ (upd H1 a ho) := fun ho ob => by
      obtain ⟨p1, p2⟩ := s1.put (o' := o') (ho := ho) g2 g3 b1 ob
      exact g5 σ _ ow1 (st1.trans p2) p1
    unfold putOb at g4
    split at g4
    · obtain ⟨kk, e1, e2⟩ := Option.bind_eq_some_iff.mp g4
      split at e2
      · rename_i hz
        cases e2
        obtain ⟨vs, c1, c2, c3⟩ := b2
        obtain ⟨vs', d1, d2, d3⟩ := putD_v (k := kk) c3 r1 c2
        refine .inl ⟨a, _, rfl, .inl ⟨_, kk, c1, key_v rk e1, ?_, rfl⟩, fin _ ⟨vs', ?_, d2, d3.upd_at hm⟩⟩
        · rw [List.length_zip, c2, Nat.min_self, ← c3.len]; exact line5 hz
        · rw [upd_same, d1]
      · cases e2
    · obtain ⟨kk, e1, e2⟩ := Option.bind_eq_some_iff.mp g4
      split at e2
      · rename_i hz
        cases e2
        obtain ⟨vs, c1, c2, c3⟩ := b2
        obtain ⟨vs', d1, d2, d3⟩ := putD_v (k := kk) c3 r1 c2
        obtain ⟨b, rfl, rb⟩ := keyT_v rk e1
        refine .inl ⟨a, _, rfl, .inr ⟨_, kk, b, c1, rfl, rb, ?_, rfl⟩, fin _ ⟨vs', ?_, d2, d3.upd_at hm⟩⟩
        · rw [List.length_zip, c2, Nat.min_self, ← c3.len]; exact line5 hz
        · rw [upd_same, d1]
      · cases e2
    · obtain ⟨jj, e1, rfl⟩ := Option.map_eq_some_iff.mp g4
      obtain ⟨vs, c1, c2⟩ := b2
      cases rk
      refine .inr ⟨a, vs, _, jj, rfl, rfl, c1, by rw [← c2.len]; exact e1, fin _ ⟨_, upd_same, (c2.upd_at hm).set (r1.upd_at hm)⟩⟩
    · cases g4
def nilG : GFs where
  r := fun ds env P _ => ds = [] ∧ P env
  m := fun hp _ h => ⟨h.1, hp _ h.2⟩
def consG (g : GF) (gs : GFs) : GFs where
  r := fun ds env P X => ∃ d r, ds = d :: r ∧ g.r d env (fun env1 => gs.r r env1 P X) X
  m := fun hp hx ⟨d, r, e, h⟩ => ⟨d, r, e, g.m (fun _ h => gs.m hp hx h) hx h⟩
def tupG (n : Nat) (gs : GFs) : GF where
  r := fun d env P X => ∃ ds, d = .tup ds ∧ ds.length = n ∧ gs.r ds env P X
  m := fun hp hx ⟨ds, e, n, h⟩ => ⟨ds, e, n, gs.m hp hx h⟩
theorem gs_nil : PGs X [] (tGs S M0 E nilG) := PGs.imp' pgs_nil fun vs σ H Q h => by
  obtain ⟨B, ow, env, ds, s, r, e, h⟩ := h
  subst e
  cases r
  exact ⟨rfl, h σ H ow .refl s⟩
theorem gs_cons {g : GF} {gs : GFs} (h1 : PG X e (tG S M0 E g)) (h2 : PGs X es (tGs S M0 E gs)) (hs : (assignEach (e :: es) X.env).map (·.2) = assign e X.env :: (assignEach es X.env).map (·.2) := by rfl) : PGs X (e :: es) (tGs S M0 E (consG g gs)) :=
  PGs.imp' (pgs_cons h1 h2 hs) fun vs σ H Q h => by
    obtain ⟨B, ow, env, ds, s, r, d, dr, e, h⟩ := h
    subst e
    obtain ⟨v, vr, rfl, r1, r2⟩ := r
    refine ⟨v, vr, rfl, B, ow, env, d, s, r1, g.m (fun env1 h σ1 H1 ow1 st1 s1 => ?_) (fun _ _ h => h) h⟩
    exact ⟨B, ow1, env1, dr, s1, RepL.stp st1 r2, gs.m (fun env2 h σ2 H2 ow2 st2 s2 => h σ2 H2 ow2 (st1.trans st2) s2) (fun _ _ h => h.stp st1) h⟩
theorem g_tupG {gs : GFs} {kk n : Nat} (hk : X.K = S.K) (hc : X.calm = true) (h : PGs X es (tGs S M0 E gs)) (hn : (assignEach es X.env).length = n := by rfl) (hst : (assignEach es X.env).findIdx? (·.1) = none := by rfl) : PG X (.Tuple es kk pos) (tG S M0 E (tupG n gs)) :=
  PG.imp (pg_tup hc h hn hst) fun v σ H Q h => by
    obtain ⟨B, ow, env, d, s, r, ds, rfl, hl, h⟩ := h
    obtain ⟨a, us, rfl, _, ra, l⟩ := r
    exact ⟨a, us, rfl, .of ra, by rw [← l.len, hl], B, ow, env, ds, s, l, h⟩
/-- target = e -/
def tgtS (F : Nat → List Str) (g : GF) (f : EF) : SF where
  r := fun env P X => f.r env (fun e env1 => ∃ d, e.keep F = some d ∧ g.r d env1 P.nx X) X
  m := fun hp hx h => f.m (fun _ _ ⟨d, h0, h1⟩ => ⟨d, h0, g.m hp.nx hx h1⟩) hx h
theorem s_tgt {g : GF} (he : PE X e (tE S M0 E f)) (hg : PG X tg (tG S M0 E g)) (hs : swapsWithSole [tg] e pos.line X.env = pure false := by rfl) (hw : swappedStores [tg] e X.env = pure none := by rfl)
    (h1 : (assignEach [tg] X.env).map (·.2) = [assign tg X.env] := by rfl) : PS X (.Assign [tg] e pos) (tS S M0 E (tgtS S.flds g f)) := PS.imp (ps_asg he hg hs hw h1) fun D σ H h => by
  obtain ⟨B, ow, env, s, h⟩ := h
  refine ⟨B, ow, env, s, f.m (fun e env1 h v H1 ow1 st1 nw1 ok1 => ?_) (fun _ _ h => h) h⟩
  obtain ⟨d, q, h1⟩ := h
  obtain ⟨s1, r1⟩ := ok1.keep q
  exact ⟨B, ow1, env1, d, s1, r1, g.m (fun env2 h σ' H' ow' st' s' => h σ' H' ow' (st1.trans st') s') (fun _ _ h => h.stp st1) h1⟩
/-! ### dict displays -/
def dispR (F : Nat → List Str) : List (EF × EF) → (List (D × D) → Env' → Prop) → Exx → Env' → Prop
  | [], P, _, env => P [] env
  | q :: r, P, X, env => q.1.r env (fun ek env1 => ∃ dk, ek.keep F = some dk ∧ q.2.r env1 (fun ev env2 => ∃ dv, ev.keep F = some dv ∧ dispR F r (fun ps env3 => P ((dk, dv) :: ps) env3) X env2) X) X
theorem dispR_m {F : Nat → List Str} : ∀ {fs : List (EF × EF)} {P P' : List (D × D) → Env' → Prop} {X X' : Exx} {env : Env'}, (∀ a e, P a e → P' a e) → (∀ c fs, X c fs → X' c fs) → dispR F fs P X env → dispR F fs P' X' env
  | [], _, _, _, _, _, hp, _, h => hp _ _ h
  | q :: r, _, _, _, _, _, hp, hx, h => q.1.m (fun _ _ ⟨dk, h1, h2⟩ => ⟨dk, h1, q.2.m (fun _ _ ⟨dv, h3, h4⟩ => ⟨dv, h3, dispR_m (fun _ _ h => hp _ _ h) hx h4⟩) hx h2⟩) hx h
def RepP (S : Sg) (M : MS) (H : Hp) : List (D × D) → List (V × V) → Prop
  | [], vs => vs = []
  | q :: r, vs => ∃ v w t, vs = (v, w) :: t ∧ Rep S M H q.1 v ∧ Rep S M H q.2 w ∧ RepP S M H r t
theorem pairs_of : ∀ {fs : List (EF × EF)} {P : List (D × D) → Env' → Prop} {B : MS} {ow : OW} {env : Env'} {H : Hp} {Q : List (V × V) → Hp → Prop}, Sim S M0 B ow env σ H → dispR S.flds fs P (XP S M0 E ow H) env →
    (∀ ps env', P ps env' → ∀ vs H' ow', Stp ow H ow' H' → Sim S M0 B ow' env' σ H' → RepP S (Md B ow') H' ps vs → Q vs H') → tPairs (fs.map fun q => (tE S M0 E q.1, tE S M0 E q.2)) σ H Q
  | [], P, B, ow, env, H, Q, s, h, k => k [] env h [] H ow .refl s rfl
  | q :: r, P, B, ow, env, H, Q, s, h, k => by
    refine ⟨B, ow, env, s, q.1.m (fun ek env1 h1 v H1 ow1 st1 nw1 ok1 => ?_) (fun _ _ h => h) h⟩
    obtain ⟨dk, q1, h1⟩ := h1
    obtain ⟨s1, r1⟩ := ok1.keep q1
    refine ⟨B, ow1, env1, s1, q.2.m (fun ev env2 h2 w H2 ow2 st2 nw2 ok2 => ?_) (fun _ _ h => h.stp st1) h1⟩
    obtain ⟨dv, q2, h2⟩ := h2
    obtain ⟨s2, r2⟩ := ok2.keep q2
    refine pairs_of (P := fun ps env3 => P ((dk, dv) :: ps) env3) s2 (dispR_m (fun _ _ h => h) (fun _ _ h => h.stp (st1.trans st2)) h2) fun ps env3 h3 vs H3 ow3 st3 s3 r3 => ?_
    exact k _ env3 h3 _ H3 ow3 ((st1.trans st2).trans st3) s3 ⟨v, w, vs, rfl, Rep.stp (st2.trans st3) r1, Rep.stp st3 r2, r3⟩
theorem repP_keys {M : MS} : ∀ {ps : List (D × D)} {vs : List (V × V)} {ks : List Key}, RepP S M H ps vs → keysD? (ps.map (·.1)) = some ks → ∃ ws, vs = (ks.zip ws).map (fun kv => (kV kv.1, kv.2)) ∧ ks.length = ws.length ∧ RepL S M H (ps.map (·.2)) ws
  | [], _, _, h, e => by cases h; cases e; exact ⟨[], rfl, rfl, rfl⟩
  | q :: r, _, ks, h, e => by
    obtain ⟨v, w, t, rfl, h1, h2, h3⟩ := h
    have e : keysD? (q.1 :: r.map (·.1)) = some ks := e
    unfold keysD? at e
    split at e
    · rename_i k ks' e1 e2
      cases e
      obtain ⟨ws, rfl, z, l⟩ := repP_keys h3 e2
      refine ⟨w :: ws, ?_, by simp [z], ⟨w, ws, rfl, h2, l⟩⟩
      rw [List.zip_cons_cons, List.map_cons, key_v h1.top e1]
    · cases e
theorem merge_nodup : ∀ (ks : List Key) (ws : List V) (acc : List (Key × V)), ks.Nodup → (∀ k ∈ ks, (acc.any fun kv => decide (kv.1 = k)) = false) → mergeK acc (ks.zip ws) = acc ++ ks.zip ws
  | [], ws, acc, _, _ => by simp [mergeK]
  | k :: ks, [], acc, _, _ => by simp [mergeK]
  | k :: ks, w :: ws, acc, n, h => by
    rw [List.nodup_cons] at n
    have e : mergeK acc ((k, w) :: ks.zip ws) = mergeK (putK acc k w) (ks.zip ws) := rfl
    rw [List.zip_cons_cons, e]
    have hp : putK acc k w = acc ++ [(k, w)] := by
      unfold putK
      rw [if_neg (by rw [h k List.mem_cons_self]; decide)]
    rw [hp, merge_nodup ks ws _ n.2 (fun j hj => ?_), List.append_assoc]; rfl
    rw [List.any_append, h j (List.mem_cons_of_mem _ hj)]
    have : k ≠ j := fun z => n.1 (by rw [z]; exact hj)
    simp [this]
def dispF (F : Nat → List Str) (fs : List (EF × EF)) : EF where
  r := fun env P X => dispR F fs (fun ps env1 => ∃ ks, keysD? (ps.map (·.1)) = some ks ∧ ks.Nodup ∧ ks.length ≤ 15 ∧ P (.new (.dK ks (ps.map (·.2)))) env1) X env
  m := fun hp hx h => dispR_m (fun _ _ ⟨ks, h1, h2, h3, h4⟩ => ⟨ks, h1, h2, h3, hp _ _ h4⟩) hx h
theorem r_disp {fs : List (EF × EF)} {keys : List (Option Expr)} {values : List Expr} (h : PPs X pos keys values (fs.map fun q => (tE S M0 E q.1, tE S M0 E q.2))) (hall : keys.all (·.isSome) = true := by rfl) (hl : keys.length = values.length := by rfl) (h0 : keys ≠ [] := by exact List.cons_ne_nil _ _)
    (h15 : keys.length ≤ 15 := by decide) : PE X (.Dict keys values pos) (tE S M0 E (dispF S.flds fs)) := PE.imp (pe_disp h hall hl h0 h15) fun σ H Q h p hp => by
  obtain ⟨B, ow, env, s, h⟩ := h
  have np : ¬ Md B ow p := fresh_nm s.trkA hp
  have ok := new_ok (ho := .dK []) (o := .dK [] []) s hp fun M hM => ⟨[], upd_same, rfl, rfl⟩
  obtain ⟨p', ep, _, n0, s1, _⟩ := ok
  cases ep
  have g : Stp ow H ow (upd H p (.dK [])) := .grow (.upd hp)
  refine pairs_of s1 (dispR_m (fun _ _ h => h) (fun _ _ h => h.stp g) h) fun ps env1 h1 vs H1 ow1 st1 s2 r => ?_
  obtain ⟨ks, e1, e2, e3, h1⟩ := h1
  obtain ⟨ws, rfl, z, l⟩ := repP_keys r e1
  have npo : some p ∉ ow := fun z => np (.inr z)
  have hp1 : H1 p = some (.dK []) := st1.kp p _ npo upd_same
  refine ⟨hp1, ks.zip ws, rfl, by rw [List.length_zip]; omega, ?_⟩
  rw [merge_nodup ks ws [] e2 (fun _ _ => rfl), List.nil_append]
  have hm : Md (plus B p) ow1 p := .inl (.inr rfl)
  have sto : Stp ow H ow1 (upd H1 p (.dK (ks.zip ws))) := by
    have stz := g.trans st1
    refine ⟨fun a o n e => ?_, stz.nwp, fun a o e => ?_⟩
    · rw [upd_ne (fun z => by rw [z, hp] at e; cases e)]; exact stz.kp a o n e
    · by_cases hz : a = p
      · exact ⟨_, by rw [hz]; exact upd_same⟩
      · rw [upd_ne hz]; exact stz.gr a o e
  refine h1 _ _ ow1 sto (.at hp) ⟨p, rfl, fun z => ?_, n0, s2.other (.inr rfl), ws, upd_same, z, l.upd_at hm⟩
  rcases z with z | z
  · exact np (.inl z)
  · exact s2.dis p (.inr rfl) z
end
end En
set_option Elab.async false
set_option linter.all false
set_option maxRecDepth 100000
namespace En
open PySem PySem.Spec PyProof.Rows L2
section
variable {X : Cx} {S : Sg} {M0 B : MS} {E : XK} {ow ow0 ow1 : OW} {env env1 : Env'} {σ : L2.St} {H H0 H1 : Hp}
variable {a b c e e2 elt : Expr} {es ifs : List Expr} {f f2 f3 : EF} {t t2 : TF} {pos p apos tpos pos' : Pos} {x y z : Str}
/-! ### arguments: values, or one's own objects -/
inductive AV where
  | val (d : D)
  | ref (j : Nat)
structure LA where
  r : Env' → (List AV → Env' → Prop) → Exx → Prop
  m : ∀ {env P P' X X'}, (∀ e env', P e env' → P' e env') → (∀ c fs, X c fs → X' c fs) → r env P X → r env P' X'
def EV.av (F : Nat → List Str) : EV → Option AV
  | .val d => some (.val d)
  | .new o => (o.fr F).map .val
  | .own j => some (.ref j)
def ArgsOk (S : Sg) (M : MS) (H : Hp) (σ : L2.St) : List AV → List V → Prop
  | [], vs => vs = []
  | .val d :: r, vs => ∃ v t, vs = v :: t ∧ Rep S M H d v ∧ ArgsOk S M H σ r t
  | .ref j :: r, vs => ∃ v t, vs = v :: t ∧ σ[j]? = some (some v) ∧ ArgsOk S M H σ r t
def tAg (S : Sg) (M0 : MS) (E : XK) (F : LA) : TA := fun σ H Q => ∃ B ow env, Sim S M0 B ow env σ H ∧
  F.r env (fun as env' => ∀ vs H' ow', Stp ow H ow' H' → Sim S M0 B ow' env' σ H' → ArgsOk S (Md B ow') H' σ as vs → Q vs H') (XP S M0 E ow H)
def nilA : LA where
  r := fun env P _ => P [] env
  m := fun hp _ h => hp _ _ h
def consA (F : Nat → List Str) (f : EF) (l : LA) : LA where
  r := fun env P X => f.r env (fun e env1 => ∃ a, e.av F = some a ∧ l.r env1 (fun as env2 => P (a :: as) env2) X) X
  m := fun hp hx h => f.m (fun e env1 ⟨a, h1, h2⟩ => ⟨a, h1, l.m (fun _ _ h => hp _ _ h) hx h2⟩) hx h
variable {la : LA}
theorem a_nil : PA X [] (tAg S M0 E nilA) := PA.imp pa_nil fun σ H Q h => by
  obtain ⟨B, ow, env, s, h⟩ := h
  exact h [] H ow .refl s rfl
theorem a_cons (ha : PE X e (tE S M0 E f)) (hr : PA X es (tAg S M0 E la)) (hs : starEach (e :: es) X.env = (false, eval e X.env) :: starEach es X.env := by rfl) : PA X (e :: es) (tAg S M0 E (consA S.flds f la)) :=
  PA.imp (pa_cons ha hr hs) fun σ H Q h => by
    obtain ⟨B, ow, env, s, h⟩ := h
    refine ⟨B, ow, env, s, f.m (fun e1 env1 h1 v H1 ow1 st1 nw1 ok1 => ?_) (fun _ _ h => h) h⟩
    obtain ⟨a, q, h1⟩ := h1
    have ok1' := ok1.simA
    refine ⟨B, ow1, env1, ok1', la.m (fun as env2 h2 vs H2 ow2 st2 s2 r2 => ?_) (fun _ _ h => h.stp st1) h1⟩
    refine h2 _ H2 ow2 (st1.trans st2) s2 ?_
    cases e1 with
    | val d => cases q; exact ⟨v, vs, rfl, Rep.stp st2 ok1.2, r2⟩
    | new o =>
      obtain ⟨d, hd, rfl⟩ := Option.map_eq_some_iff.mp (show (o.fr S.flds).map AV.val = some a from q)
      exact ⟨v, vs, rfl, Rep.stp st2 (ok1.unplus hd).2, r2⟩
    | own j =>
      cases q
      obtain ⟨s1, b, ob, rfl, h3, h4⟩ := ok1
      refine ⟨_, vs, rfl, ?_, r2⟩
      rcases h4 with h4 | h4
      · obtain ⟨b', e1, e2, _⟩ := s1.own j ob h4; rw [h3] at e1; cases e1; exact e2
      · obtain ⟨b', e1, e2, _⟩ := s1.io j ob h4; rw [h3] at e1; cases e1; exact e2
theorem ArgsOk.len {M : MS} : ∀ {as : List AV} {vs : List V}, ArgsOk S M H σ as vs → vs.length = as.length
  | [], _, h => by rw [show _ = [] from h]; rfl
  | .val d :: r, _, ⟨v, t, e, _, h⟩ => by rw [e]; simp [h.len]
  | .ref j :: r, _, ⟨v, t, e, _, h⟩ => by rw [e]; simp [h.len]
theorem ArgsOk.val {M : MS} : ∀ {as : List AV} {vs : List V} {i : Nat} {d : D}, ArgsOk S M H σ as vs → as[i]? = some (.val d) → ∃ v, vs[i]? = some v ∧ Rep S M H d v
  | .val d :: r, _, 0, d', ⟨v, t, e, h1, h⟩, q => by simp at q; subst q; rw [e]; exact ⟨v, rfl, h1⟩
  | .ref j :: r, _, 0, d', ⟨v, t, e, h1, h⟩, q => by simp at q
  | .val d :: r, _, i + 1, d', ⟨v, t, e, h1, h⟩, q => by
    obtain ⟨w, h2, h3⟩ := h.val (i := i) (by simpa using q)
    rw [e]; exact ⟨w, by simpa using h2, h3⟩
  | .ref j :: r, _, i + 1, d', ⟨v, t, e, h1, h⟩, q => by
    obtain ⟨w, h2, h3⟩ := h.val (i := i) (by simpa using q)
    rw [e]; exact ⟨w, by simpa using h2, h3⟩
theorem ArgsOk.ref {M : MS} : ∀ {as : List AV} {vs : List V} {i : Nat} {j : Nat}, ArgsOk S M H σ as vs → as[i]? = some (.ref j) → ∃ v, vs[i]? = some v ∧ σ[j]? = some (some v)
  | .val d :: r, _, 0, d', ⟨v, t, e, h1, h⟩, q => by simp at q
  | .ref j :: r, _, 0, d', ⟨v, t, e, h1, h⟩, q => by simp at q; subst q; rw [e]; exact ⟨v, rfl, h1⟩
  | .val d :: r, _, i + 1, d', ⟨v, t, e, h1, h⟩, q => by
    obtain ⟨w, h2, h3⟩ := h.ref (i := i) (by simpa using q)
    rw [e]; exact ⟨w, by simpa using h2, h3⟩
  | .ref j :: r, _, i + 1, d', ⟨v, t, e, h1, h⟩, q => by
    obtain ⟨w, h2, h3⟩ := h.ref (i := i) (by simpa using q)
    rw [e]; exact ⟨w, by simpa using h2, h3⟩
/-- what the callee is given -/
def slotOf (env : Env') : AV → Slot
  | .val d => .val d
  | .ref j => match (env[j]?).bind Slot.ob with
    | some o => .io o
    | none => .un
def awOf (ow : OW) : AV → Option Addr
  | .val _ => none
  | .ref j => (ow[j]?).join
/-- the changed ones come back -/
def backE : List AV → List Slot → Env' → Option Env'
  | [], _, env => some env
  | .val _ :: as, os, env => backE as os.tail env
  | .ref j :: as, .io o :: os, env => match env[j]? with
    | some sl => backE as os (env.set j (sl.put o))
    | none => none
  | _, _, _ => none
def refs : List AV → List Nat
  | [] => []
  | .val _ :: r => refs r
  | .ref j :: r => j :: refs r
theorem mem_refs : ∀ {as : List AV} {i j : Nat}, as[i]? = some (.ref j) → j ∈ refs as
  | .val d :: r, 0, j, q => by simp at q
  | .ref k :: r, 0, j, q => by simp at q; subst q; exact List.mem_cons_self
  | .val d :: r, i + 1, j, q => mem_refs (as := r) (i := i) (by simpa using q)
  | .ref k :: r, i + 1, j, q => List.mem_cons_of_mem _ (mem_refs (as := r) (i := i) (by simpa using q))
theorem of_refs : ∀ {as : List AV} {j : Nat}, j ∈ refs as → ∃ i : Nat, as[i]? = some (.ref j)
  | .val d :: r, j, q => by obtain ⟨i, h⟩ := of_refs (as := r) q; exact ⟨i + 1, by simpa using h⟩
  | .ref k :: r, j, q => by
    rcases List.mem_cons.mp q with rfl | q
    · exact ⟨0, rfl⟩
    · obtain ⟨i, h⟩ := of_refs (as := r) q; exact ⟨i + 1, by simpa using h⟩
theorem refs_inj : ∀ {as : List AV} {i k j : Nat}, (refs as).Nodup → as[i]? = some (.ref j) → as[k]? = some (.ref j) → i = k
  | .val d :: r, 0, k, j, n, h1, h2 => by simp at h1
  | .val d :: r, i + 1, 0, j, n, h1, h2 => by simp at h2
  | .val d :: r, i + 1, k + 1, j, n, h1, h2 => by rw [refs_inj (as := r) (i := i) (k := k) n (by simpa using h1) (by simpa using h2)]
  | .ref m :: r, 0, 0, j, n, h1, h2 => rfl
  | .ref m :: r, 0, k + 1, j, n, h1, h2 => by
    simp at h1; subst h1
    have n : (m :: refs r).Nodup := n
    rw [List.nodup_cons] at n
    exact absurd (mem_refs (as := r) (i := k) (by simpa using h2)) n.1
  | .ref m :: r, i + 1, 0, j, n, h1, h2 => by
    simp at h2; subst h2
    have n : (m :: refs r).Nodup := n
    rw [List.nodup_cons] at n
    exact absurd (mem_refs (as := r) (i := i) (by simpa using h1)) n.1
  | .ref m :: r, i + 1, k + 1, j, n, h1, h2 => by
    have n : (m :: refs r).Nodup := n
    rw [List.nodup_cons] at n
    rw [refs_inj (as := r) (i := i) (k := k) n.2 (by simpa using h1) (by simpa using h2)]
theorem backE_get : ∀ {as : List AV} {os : List Slot} {env env2 : Env'}, (refs as).Nodup → backE as os env = some env2 → env2.length = env.length ∧ (∀ j : Nat, j ∉ refs as → env2[j]? = env[j]?) ∧
    ∀ (i j : Nat), as[i]? = some (.ref j) → ∃ sl o, env[j]? = some sl ∧ os[i]? = some (.io o) ∧ env2[j]? = some (sl.put o)
  | [], os, env, env2, n, h => by
    cases h
    exact ⟨rfl, fun _ _ => rfl, fun i j q => by simp at q⟩
  | .val d :: as, os, env, env2, n, h => by
    obtain ⟨h1, h2, h3⟩ := backE_get (as := as) (os := os.tail) n h
    refine ⟨h1, h2, fun i j q => ?_⟩
    cases i with
    | zero => simp at q
    | succ i =>
      obtain ⟨sl, o, g1, g2, g3⟩ := h3 i j (by simpa using q)
      refine ⟨sl, o, g1, ?_, g3⟩
      cases os with
      | nil => simp at g2
      | cons s os => simpa using g2
  | .ref k :: as, os, env, env2, n, h => by
    have n : (k :: refs as).Nodup := n
    rw [List.nodup_cons] at n
    match os, h with
    | .io o :: os, h =>
      have h : (match env[k]? with
        | some sl => backE as os (env.set k (sl.put o))
        | none => none) = some env2 := h
      cases q : env[k]? with
      | none => rw [q] at h; cases h
      | some sl =>
        rw [q] at h
        have hk := (List.getElem?_eq_some_iff.mp q).1
        obtain ⟨h1, h2, h3⟩ := backE_get (as := as) (os := os) n.2 h
        refine ⟨by rw [h1, List.length_set], fun j hj => ?_, fun i j e => ?_⟩
        · have hj : j ∉ k :: refs as := hj
          rw [List.mem_cons, not_or] at hj
          rw [h2 j hj.2, List.getElem?_set_ne (Ne.symm hj.1)]
        · cases i with
          | zero =>
            simp at e; subst e
            exact ⟨sl, o, q, rfl, by rw [h2 _ n.1, List.getElem?_set_self hk]⟩
          | succ i =>
            have e' : as[i]? = some (.ref j) := by simpa using e
            obtain ⟨sl', o', g1, g2, g3⟩ := h3 i j e'
            have hne : k ≠ j := fun z => n.1 (by rw [z]; exact mem_refs e')
            rw [List.getElem?_set_ne hne] at g1
            exact ⟨sl', o', g1, by simpa using g2, g3⟩
    | [], h => cases h
    | .un :: _, h => cases h
    | .val _ :: _, h => cases h
    | .own _ :: _, h => cases h
/-- what a call gives back: M the mutable objects behind it -/
def Outs (S : Sg) (M : MS) (H' : Hp) (aw : OW) (outs : List Slot) : Prop := ∀ (i : Nat) (a : Addr), aw[i]? = some (some a) → ∃ o, outs[i]? = some (.io o) ∧ ObRep S M H' a o
def Res (S : Sg) (B : MS) (aw : OW) (H : Hp) (outs : List Slot) (v : V) (H' : Hp) : EV → Prop
  | .val d => Rep S (Md B aw) H' d v ∧ Outs S (Md B aw) H' aw outs
  | .new o => ∃ a, v = .ref a ∧ H a = none ∧ ObRep S (Md (plus B a) aw) H' a o ∧ Outs S (Md (plus B a) aw) H' aw outs
  | .own _ => False
def Dom (H H' : Hp) : Prop := ∀ a o, H a = some o → ∃ o', H' a = some o'
/-- a function's promise -/
def spD (S : Sg) (FS : EF) (n : Nat) : Sp := fun vs H Q E => ∃ B aw as, vs.length = n ∧ Sim S (Md B aw) B aw as (vs.map some) H ∧ (∀ (i : Nat) (o : Ob), as[i]? ≠ some (.own o)) ∧
  FS.r as (fun e outs => ∀ v H', Kp aw H H' → Dom H H' → Res S B aw H outs v H' e → Q v H') (XP S (Md B aw) E aw H)
/-- the caller's side, behind a call -/
theorem after_call {aw : OW} {B2 : MS} {as : List AV} {outs : List Slot} {env2 : Env'} {H' : Hp} (s : Sim S M0 B ow1 env1 σ H1) (n : (refs as).Nodup) (kp : Kp aw H1 H') (dm : Dom H1 H')
    (haw : ∀ a, some a ∈ aw → Md B ow1 a) (hno : ∀ (j : Nat) (b : Addr), j ∉ refs as → ow1[j]? = some (some b) → some b ∉ aw) (hB : ∀ b, B b → B2 b) (hB2 : ∀ b, B2 b → B b ∨ H1 b = none) (tr : ∀ b, B2 b → ∃ u, H' b = some u)
    (ho : ∀ (i j : Nat) (a : Addr), as[i]? = some (.ref j) → ow1[j]? = some (some a) → ∃ o, outs[i]? = some (.io o) ∧ ObRep S (Md B2 ow1) H' a o) (he : backE as outs env1 = some env2) :
    Sim S M0 B2 ow1 env2 σ H' := by
  obtain ⟨g1, g2, g3⟩ := backE_get n he
  have mv : ∀ a o, ¬ Md B ow1 a → H1 a = some o → H' a = some o ∧ ¬ Md B2 ow1 a := fun a o n e => ⟨kp a o (fun z => n (haw a z)) e, fun z => by
    rcases z with z | z
    · rcases hB2 a z with z | z
      · exact n (.inl z)
      · rw [z] at e; cases e
    · exact n (.inr z)⟩
  have plainp : ∀ (sl : Slot) (o : Ob) d, sl.put o = .val d → sl = .val d := fun sl o d e => by cases sl <;> first | exact e | cases e
  exact {
    l1 := by rw [g1]; exact s.l1
    l2 := s.l2
    val := fun j d ej => by
      by_cases hj : j ∈ refs as
      · obtain ⟨i, hi⟩ := of_refs hj
        obtain ⟨sl, o, q1, q2, q3⟩ := g3 i j hi
        rw [q3] at ej
        have := plainp sl o d (Option.some.inj ej)
        rw [this] at q1
        obtain ⟨v, h1, h2⟩ := s.val j d q1
        exact ⟨v, h1, Rep.move mv _ _ h2⟩
      · rw [g2 j hj] at ej
        obtain ⟨v, h1, h2⟩ := s.val j d ej
        exact ⟨v, h1, Rep.move mv _ _ h2⟩
    own := fun j o ej => by
      by_cases hj : j ∈ refs as
      · obtain ⟨i, hi⟩ := of_refs hj
        obtain ⟨sl, o', q1, q2, q3⟩ := g3 i j hi
        rw [q3] at ej
        cases sl with
        | own o0 =>
          cases ej
          obtain ⟨b, h1, h2, h3, h4⟩ := s.own j o0 q1
          obtain ⟨o2, r1, r2⟩ := ho i j b hi h1
          rw [q2] at r1; cases r1
          exact ⟨b, h1, h2, r2, h4⟩
        | un => cases ej
        | val d => cases ej
        | io o => cases ej
      · rw [g2 j hj] at ej
        obtain ⟨b, h1, h2, h3, h4⟩ := s.own j o ej
        exact ⟨b, h1, h2, h3.move (fun u z => kp b u (hno j b hj h1) z) mv, h4⟩
    io := fun j o ej => by
      by_cases hj : j ∈ refs as
      · obtain ⟨i, hi⟩ := of_refs hj
        obtain ⟨sl, o', q1, q2, q3⟩ := g3 i j hi
        rw [q3] at ej
        cases sl with
        | io o0 =>
          cases ej
          obtain ⟨b, h1, h2, h3⟩ := s.io j o0 q1
          obtain ⟨o2, r1, r2⟩ := ho i j b hi h1
          rw [q2] at r1; cases r1
          exact ⟨b, h1, h2, r2⟩
        | un => cases ej
        | val d => cases ej
        | own o => cases ej
      · rw [g2 j hj] at ej
        obtain ⟨b, h1, h2, h3⟩ := s.io j o ej
        exact ⟨b, h1, h2, h3.move (fun u z => kp b u (hno j b hj h1) z) mv⟩
    live := fun j a ha => by
      obtain ⟨o, q⟩ := s.live j a ha
      by_cases hj : j ∈ refs as
      · obtain ⟨i, hi⟩ := of_refs hj
        obtain ⟨sl, o', q1, q2, q3⟩ := g3 i j hi
        rw [q3]
        rcases q with q | q
        · rw [q] at q1; cases q1; exact ⟨o', .inl rfl⟩
        · rw [q] at q1; cases q1; exact ⟨o', .inr rfl⟩
      · rw [g2 j hj]; exact ⟨o, q⟩
    inj := s.inj
    dis := fun a ha z => by
      rcases hB2 a ha with q | q
      · exact s.dis a q z
      · obtain ⟨u, hu⟩ := s.trkA a (.inr z)
        rw [q] at hu; cases hu
    trk := tr
    m0 := fun a ha => (s.m0 a ha).imp (hB a) id }
/-- a function's promise, used -/
def runF (FS : EF) (as : List Slot) (P : EV → List Slot → Prop) (X : Exx) : Prop := FS.r as P X
def callF (FS : EF) (n : Nat) (l : LA) : EF where
  r := fun env P X => l.r env (fun as env1 => as.length = n ∧ (refs as).Nodup ∧ runF FS (as.map (slotOf env1)) (fun e outs => e.isOwn = false ∧ ∃ env2, backE as outs env1 = some env2 ∧ P e env2) X) X
  m := fun hp hx h => l.m (fun as env1 ⟨h1, h2, h3⟩ => ⟨h1, h2, FS.m (fun e outs ⟨q, env2, h4, h5⟩ => ⟨q, env2, h4, hp _ _ h5⟩) hx h3⟩) hx h
/-- the callee's entry -/
theorem aw_sub {as : List AV} (a : Addr) (h : some a ∈ as.map (awOf ow1)) : ∃ i j : Nat, as[i]? = some (.ref j) ∧ ow1[j]? = some (some a) := by
  obtain ⟨av, h1, h2⟩ := List.mem_map.mp h
  obtain ⟨i, hi, e⟩ := List.getElem_of_mem h1
  cases av with
  | val d => cases h2
  | ref j =>
    refine ⟨i, j, by rw [List.getElem?_eq_getElem hi, e], ?_⟩
    have h2 : (ow1[j]?).join = some a := h2
    cases q : ow1[j]? with
    | none => rw [q] at h2; cases h2
    | some w => rw [q] at h2; rw [show w = some a from h2]
theorem aw_get {as : List AV} {i : Nat} {a : Addr} (h : (as.map (awOf ow1))[i]? = some (some a)) : ∃ j : Nat, as[i]? = some (.ref j) ∧ ow1[j]? = some (some a) := by
  rw [List.getElem?_map] at h
  obtain ⟨av, h1, h2⟩ := Option.map_eq_some_iff.mp h
  cases av with
  | val d => cases h2
  | ref j =>
    refine ⟨j, h1, ?_⟩
    have h2 : (ow1[j]?).join = some a := h2
    cases q : ow1[j]? with
    | none => rw [q] at h2; cases h2
    | some w => rw [q] at h2; rw [show w = some a from h2]
/-- those of the caller's that are not handed over -/
def Bc (B : MS) (ow1 aw : OW) : MS := fun a => Md B ow1 a ∧ some a ∉ aw
theorem md_bc {aw : OW} (h : ∀ a, some a ∈ aw → Md B ow1 a) : Md (Bc B ow1 aw) aw = Md B ow1 := by
  funext a
  apply propext
  constructor
  · rintro (z | z)
    · exact z.1
    · exact h a z
  · intro z
    by_cases q : some a ∈ aw
    · exact .inr q
    · exact .inl ⟨z, q⟩
theorem md_bcp {aw : OW} {x : Addr} (h : ∀ a, some a ∈ aw → Md B ow1 a) : Md (plus (Bc B ow1 aw) x) aw = Md (plus B x) ow1 := by
  have := md_bc h
  funext a
  apply propext
  have h1 : Md (Bc B ow1 aw) aw a ↔ Md B ow1 a := by rw [this]
  constructor
  · rintro ((z | z) | z)
    · rcases h1.mp (.inl z) with z | z
      · exact .inl (.inl z)
      · exact .inr z
    · exact .inl (.inr z)
    · rcases h1.mp (.inr z) with z | z
      · exact .inl (.inl z)
      · exact .inr z
  · rintro ((z | z) | z)
    · rcases h1.mpr (.inl z) with z | z
      · exact .inl (.inl z)
      · exact .inr z
    · exact .inl (.inr z)
    · rcases h1.mpr (.inr z) with z | z
      · exact .inl (.inl z)
      · exact .inr z
theorem arg_aw {as : List AV} : ∀ a, some a ∈ as.map (awOf ow1) → Md B ow1 a := fun a h => by
  obtain ⟨i, j, _, h2⟩ := aw_sub a h
  exact .inr (List.mem_of_getElem? h2)
theorem Sim.callee {as : List AV} {vs : List V} (s : Sim S M0 B ow1 env1 σ H1) (n : (refs as).Nodup) (ok : ArgsOk S (Md B ow1) H1 σ as vs) :
    Sim S (Md (Bc B ow1 (as.map (awOf ow1))) (as.map (awOf ow1))) (Bc B ow1 (as.map (awOf ow1))) (as.map (awOf ow1)) (as.map (slotOf env1)) (vs.map some) H1 ∧ ∀ (i : Nat) (o : Ob), (as.map (slotOf env1))[i]? ≠ some (.own o) := by
  have hM := md_bc (B := B) (ow1 := ow1) (aw := as.map (awOf ow1)) arg_aw
  have slot_io : ∀ {i : Nat} {o : Ob}, (as.map (slotOf env1))[i]? = some (.io o) → ∃ j sl, as[i]? = some (.ref j) ∧ env1[j]? = some sl ∧ sl.ob = some o := fun {i o} h => by
    rw [List.getElem?_map] at h
    obtain ⟨av, h1, h2⟩ := Option.map_eq_some_iff.mp h
    cases av with
    | val d => cases h2
    | ref j =>
      have h2 : (match (env1[j]?).bind Slot.ob with | some o => Slot.io o | none => .un) = .io o := h2
      cases q : (env1[j]?).bind Slot.ob with
      | none => rw [q] at h2; cases h2
      | some o' =>
        rw [q] at h2; cases h2
        obtain ⟨sl, q1, q2⟩ := Option.bind_eq_some_iff.mp q
        exact ⟨j, sl, h1, q1, q2⟩
  have noown : ∀ (i : Nat) (o : Ob), (as.map (slotOf env1))[i]? ≠ some (.own o) := fun i o h => by
    rw [List.getElem?_map] at h
    obtain ⟨av, h1, h2⟩ := Option.map_eq_some_iff.mp h
    cases av with
    | val d => cases h2
    | ref j =>
      have h2 : (match (env1[j]?).bind Slot.ob with | some o => Slot.io o | none => .un) = .own o := h2
      split at h2 <;> cases h2
  refine ⟨{
    l1 := by rw [List.length_map, List.length_map, ok.len]
    l2 := by rw [List.length_map, List.length_map, ok.len]
    val := fun i d h => by
      rw [hM]
      rw [List.getElem?_map] at h
      obtain ⟨av, h1, h2⟩ := Option.map_eq_some_iff.mp h
      cases av with
      | val d' =>
        cases h2
        obtain ⟨v, g1, g2⟩ := ok.val h1
        exact ⟨v, by rw [List.getElem?_map, g1]; rfl, g2⟩
      | ref j =>
        have h2 : (match (env1[j]?).bind Slot.ob with | some o => Slot.io o | none => .un) = .val d := h2
        split at h2 <;> cases h2
    own := fun i o h => absurd h (noown i o)
    io := fun i o h => by
      rw [hM]
      obtain ⟨j, sl, h1, h2, h3⟩ := slot_io h
      obtain ⟨a, g1, g2, g3⟩ := s.slot h2 h3
      obtain ⟨v, k1, k2⟩ := ok.ref h1
      rw [g2] at k2; cases k2
      refine ⟨a, ?_, by rw [List.getElem?_map, k1]; rfl, g3⟩
      rw [List.getElem?_map, h1]
      show some ((ow1[j]?).join) = _
      rw [g1]; rfl
    live := fun i a h => by
      obtain ⟨j, h1, h2⟩ := aw_get h
      obtain ⟨o, q⟩ := s.live j a h2
      refine ⟨o, .inr ?_⟩
      rw [List.getElem?_map, h1]
      show some (match (env1[j]?).bind Slot.ob with | some o => Slot.io o | none => .un) = _
      rcases q with q | q <;> rw [q] <;> rfl
    inj := fun i k a h1 h2 => by
      obtain ⟨j, g1, g2⟩ := aw_get h1
      obtain ⟨j', g3, g4⟩ := aw_get h2
      have := s.inj j j' a g2 g4
      subst this
      exact refs_inj n g1 g3
    dis := fun a h => h.2
    trk := fun a h => s.trkA a h.1
    m0 := fun a h => h }, noown⟩
theorem dom_kp {aw : OW} {H' : Hp} (dm : Dom H1 H') {a : Addr} (h : ∃ u, H1 a = some u) : ∃ u, H' a = some u := by
  obtain ⟨u, hu⟩ := h
  exact dm a u hu
theorem ObRep.there {M : MS} {a : Addr} {o : Ob} (h : ObRep S M H a o) : ∃ u, H a = some u := by
  cases o with
  | lst ds => obtain ⟨vs, h1, _⟩ := h; exact ⟨_, h1⟩
  | dK ks ds => obtain ⟨vs, h1, _⟩ := h; exact ⟨_, h1⟩
  | dT ks ds => obtain ⟨vs, h1, _⟩ := h; exact ⟨_, h1⟩
  | ins c fs => obtain ⟨dx, vs, h1, _⟩ := h; exact ⟨_, h1⟩
theorem call_of {FS : EF} {n : Nat} {la : LA} (h : tE S M0 E (callF FS n la) σ H Q) : tCall (spD S FS n) [] E (tAg S M0 E la) σ H Q := by
  obtain ⟨B, ow, env, s, h⟩ := h
  refine ⟨B, ow, env, s, la.m (fun as env1 h1 vs H1 ow1 st1 s1 ok => ?_) (fun _ _ h => h) h⟩
  obtain ⟨hn, hnd, h1⟩ := h1
  obtain ⟨c1, c2⟩ := s1.callee hnd ok
  have hM := md_bc (B := B) (ow1 := ow1) (aw := as.map (awOf ow1)) arg_aw
  rw [List.append_nil]
  refine ⟨_, _, _, by rw [ok.len, hn], c1, c2, FS.m (fun e outs g v H' kp dm res => ?_) (fun c fs g dx H' kp r => ?_) h1⟩
  · obtain ⟨q, env2, g1, g2⟩ := g
    have hsub : ∀ a, some a ∈ as.map (awOf ow1) → some a ∈ ow1 := fun a ha => by
      obtain ⟨i, j, _, h2⟩ := aw_sub a ha
      exact List.mem_of_getElem? h2
    have st2 : Stp ow1 H1 ow1 H' := ⟨fun a o n e => kp a o (fun z => n (hsub a z)) e, fun _ _ h => .inl h, dm⟩
    have hno : ∀ (j : Nat) (b : Addr), j ∉ refs as → ow1[j]? = some (some b) → some b ∉ as.map (awOf ow1) := fun j b hj hb z => by
      obtain ⟨i, j', h1, h2⟩ := aw_sub b z
      have := s1.inj j j' b hb h2
      subst this
      exact hj (mem_refs h1)
    have outk : ∀ {M : MS}, Outs S M H' (as.map (awOf ow1)) outs → ∀ (i j : Nat) (a : Addr), as[i]? = some (.ref j) → ow1[j]? = some (some a) → ∃ o, outs[i]? = some (.io o) ∧ ObRep S M H' a o := fun ho i j a h1 h2 => ho i a (by
      rw [List.getElem?_map, h1]
      show some ((ow1[j]?).join) = _
      rw [h2]; rfl)
    cases e with
    | own j => cases q
    | val d =>
      obtain ⟨r1, r2⟩ := res
      rw [hM] at r1 r2
      have s2 := after_call s1 hnd kp dm (arg_aw (B := B)) hno (B2 := B) (fun _ h => h) (fun _ h => .inl h) (fun b hb => dom_kp (aw := as.map (awOf ow1)) dm (s1.trk b hb)) (outk r2) g1
      exact g2 v H' ow1 (st1.trans st2) trivial ⟨s2, r1⟩
    | new o =>
      obtain ⟨a, rfl, ha, r1, r2⟩ := res
      rw [md_bcp arg_aw] at r1 r2
      have s2 := after_call s1 hnd kp dm (arg_aw (B := B)) hno (B2 := plus B a) (fun _ h => .inl h) (fun b hb => hb.imp id fun z => by rw [z]; exact ha) (fun b hb => by
        rcases hb with hb | hb
        · exact dom_kp (aw := as.map (awOf ow1)) dm (s1.trk b hb)
        · rw [hb]; exact r1.there) (outk r2) g1
      have na : ¬ Md B ow1 a := fun z => by
        obtain ⟨u, hu⟩ := s1.trkA a z
        rw [ha] at hu; cases hu
      exact g2 _ H' ow1 (st1.trans st2) (.at (st1.fresh ha)) ⟨a, rfl, na, fun z => na (s1.m0 a z), s2, r1⟩
  · refine XP.stp st1 g dx H' (fun a o n e => kp a o (fun z => n ?_) e) ?_
    · obtain ⟨i, j, _, h2⟩ := aw_sub a z
      exact List.mem_of_getElem? h2
    · rw [hM] at r
      obtain ⟨l, r1, r2, r3⟩ := r
      refine ⟨l, r1, r2, fun i f d e1 e2 => ?_⟩
      obtain ⟨v, k1, k2⟩ := r3 i f d e1 e2
      exact ⟨v, k1, k2.anti fun a ha => s1.m0 a ha⟩
variable {FS : EF} {CX : CXT} {k n : Nat} {g : Addr} {fd : FuncData} {ps : List Str}
theorem r_call (F : FnOk X.prog X.w X.K X.mg X.base CX k g fd ps (spD S FS n)) (hr : Room k X.A) (hm : X.mg x = some (.ref g)) (hk : PySem.W.keepIn X.K (.ref g) = true) (hb : Binds X.K fd ps []) (hx : Passes CX X E)
    (ha : PA X (e :: es) (tAg S M0 E la)) (hg : Gl X x := by rfl) (hdb : (x == ("__debug__" : Str)) = false := by decide) (he : starEach (e :: es) X.env = (false, eval e X.env) :: starEach es X.env := by rfl) (hpl : (backTo pos (starEach es X.env)).any (·.1) = false := by rfl) :
    PE X (.Call (.Name x p) (e :: es) [] pos) (tE S M0 E (callF FS n la)) :=
  PE.imp (pe_call (dvs := []) F hr hg hm hk hb .nil hx ha hdb he hpl) fun σ H Q h => call_of h
end
end En
set_option Elab.async false
set_option linter.all false
set_option maxRecDepth 100000
namespace En
open PySem PySem.Spec PyProof.Rows L2
section
variable {X : Cx} {S : Sg} {M0 B : MS} {E : XK} {ow ow0 ow1 : OW} {env env1 : Env'} {σ : L2.St} {H H0 H1 : Hp}
variable {a b c e e2 elt value : Expr} {es ifs : List Expr} {f f2 f3 : EF} {t t2 : TF} {pos p apos tpos pos' : Pos} {x y z : Str} {la : LA} {sb : SF}
/-! ### a def's body -/
def retE (env : Env') : EV → Option EV
  | .own i => match env[i]? with
    | some (.own o) => some (.new o)
    | _ => none
  | e => some e
/-- m names, n parameters; no exception -/
def bodyF (m n : Nat) (sb : SF) : EF where
  r := fun as P _ => sb.r (as ++ List.replicate (m - n) .un) ⟨fun env => P (.val .non) env, fun e env => ∃ e', retE env e = some e' ∧ P e' env, fun _ => False, fun _ => False⟩ X0
  m := fun {env P P' X X'} hp hx h => sb.m (P := ⟨fun env => P (.val .non) env, fun e env => ∃ e', retE env e = some e' ∧ P e' env, fun _ => False, fun _ => False⟩) (P' := ⟨fun env => P' (.val .non) env, fun e env => ∃ e', retE env e = some e' ∧ P' e' env, fun _ => False, fun _ => False⟩)
    ⟨fun _ h => hp _ _ h, fun _ _ ⟨e', h1, h2⟩ => ⟨e', h1, hp _ _ h2⟩, fun _ h => h, fun _ h => h⟩ (fun _ _ h => h) h
theorem get_app {α : Type} {xs : List α} {n : Nat} {u v : α} {i : Nat} (h : (xs ++ List.replicate n u)[i]? = some v) (hv : v ≠ u) : xs[i]? = some v := by
  rw [List.getElem?_append] at h
  split at h
  · exact h
  · rw [List.getElem?_replicate] at h
    split at h
    · cases h; exact absurd rfl hv
    · cases h
theorem app_get {α : Type} {xs : List α} {n : Nat} {u v : α} {i : Nat} (h : xs[i]? = some v) : (xs ++ List.replicate n u)[i]? = some v := by
  rw [List.getElem?_append_left (List.getElem?_eq_some_iff.mp h).1]; exact h
theorem mem_app {aw : OW} {n : Nat} {a : Addr} : some a ∈ aw ++ List.replicate n none ↔ some a ∈ aw := by
  rw [List.mem_append]
  constructor
  · rintro (h | h)
    · exact h
    · cases (List.mem_replicate.mp h).2
  · exact .inl
theorem md_app {aw : OW} {n : Nat} : Md B (aw ++ List.replicate n none) = Md B aw := by
  funext a
  apply propext
  constructor
  · rintro (h | h)
    · exact .inl h
    · exact .inr (mem_app.mp h)
  · rintro (h | h)
    · exact .inl h
    · exact .inr (mem_app.mpr h)
theorem Sim.ext {aw : OW} {as : List Slot} {vs : List V} {n : Nat} (s : Sim S M0 B aw as (vs.map some) H) : Sim S M0 B (aw ++ List.replicate n none) (as ++ List.replicate n .un) (vs.map some ++ List.replicate n none) H where
  l1 := by rw [List.length_append, List.length_append, s.l1, List.length_replicate, List.length_replicate]
  l2 := by rw [List.length_append, List.length_append, s.l2, List.length_replicate, List.length_replicate]
  val := fun i d h => by
    rw [md_app]
    obtain ⟨v, h1, h2⟩ := s.val i d (get_app h fun z => by cases z)
    exact ⟨v, app_get h1, h2⟩
  own := fun i d h => by
    rw [md_app]
    obtain ⟨a, h1, h2, h3⟩ := s.own i d (get_app h fun z => by cases z)
    exact ⟨a, app_get h1, app_get h2, h3⟩
  io := fun i d h => by
    rw [md_app]
    obtain ⟨a, h1, h2, h3⟩ := s.io i d (get_app h fun z => by cases z)
    exact ⟨a, app_get h1, app_get h2, h3⟩
  live := fun i a h => by
    obtain ⟨o, q⟩ := s.live i a (get_app h fun z => by cases z)
    exact ⟨o, q.imp app_get app_get⟩
  inj := fun i j a h1 h2 => s.inj i j a (get_app h1 fun z => by cases z) (get_app h2 fun z => by cases z)
  dis := fun a h z => s.dis a h (mem_app.mp z)
  trk := s.trk
  m0 := fun a h => by rw [md_app]; exact s.m0 a h
/-- what stands at a body's end -/
theorem outs_of {aw ow' : OW} {as : List Slot} {vs : List V} {n : Nat} {env' : Env'} {σ' : L2.St} {H' : Hp} {B2 : MS} (s : Sim S (Md B aw) B aw as (vs.map some) H) (st : Stp (aw ++ List.replicate n none) H ow' H') (s' : Sim S (Md B aw) B2 ow' env' σ' H') (hB : ∀ b, B2 b → B b ∨ H b = none) :
    Outs S (Md B2 ow') H' aw env' := fun i a h => by
  obtain ⟨u, hu⟩ := s.trkA a (.inr (List.mem_of_getElem? h))
  have h0 : Md B aw a := .inr (List.mem_of_getElem? h)
  have h1 : some a ∈ ow' := by
    rcases s'.m0 a h0 with z | z
    · rcases hB a z with z | z
      · exact absurd (List.mem_of_getElem? h) (s.dis a z)
      · rw [z] at hu; cases hu
    · exact z
  obtain ⟨k, hk, ek⟩ := List.getElem_of_mem h1
  have ek' : ow'[k]? = some (some a) := by rw [List.getElem?_eq_getElem hk, ek]
  have hki : k = i := by
    rcases st.nwp k a ek' with z | z
    · exact s.inj k i a (get_app z fun z => by cases z) h
    · rw [z] at hu; cases hu
  subst hki
  obtain ⟨o, q⟩ := s'.live k a ek'
  rcases q with q | q
  · obtain ⟨b, e1, _, _, e4⟩ := s'.own k o q
    rw [ek'] at e1; cases e1
    exact absurd h0 e4
  · obtain ⟨b, e1, _, e3⟩ := s'.io k o q
    rw [ek'] at e1; cases e1
    exact ⟨o, q, e3⟩
theorem Outs.anti {M M' : MS} {aw : OW} {outs : List Slot} (h : Outs S M H aw outs) (g : ∀ a, M' a → M a) : Outs S M' H aw outs := fun i a q => by
  obtain ⟨o, h1, h2⟩ := h i a q
  exact ⟨o, h1, h2.anti g⟩
theorem body_run {m n : Nat} {vs : List V} {Q : VK} {N : List Str} (hm : N.length = m) (h : spD S (bodyF m n sb) n vs H Q E) : ∃ M, tS S M L2.E0 sb { nx := fun _ H' => Q .non H', rt := Q } (L2.start N vs) H := by
  obtain ⟨B, aw, as, hl, s, no, h⟩ := h
  refine ⟨Md B aw, B, aw ++ List.replicate (m - n) none, as ++ List.replicate (m - n) .un, ?_, ?_⟩
  · show Sim S (Md B aw) B _ _ (vs.map some ++ List.replicate (N.length - vs.length) none) H
    rw [hm, hl]
    exact s.ext
  have dom : ∀ {ow' : OW} {H' : Hp}, Stp (aw ++ List.replicate (m - n) none) H ow' H' → Kp aw H H' ∧ Dom H H' := fun st => ⟨fun a o n e => st.kp a o (fun z => n (mem_app.mp z)) e, st.gr⟩
  refine sb.m ⟨fun env h σ' H' ow' st s' => ?_, fun e env h v σ' H' ow' st nw s' => ?_, fun _ (h : False) => h.elim, fun _ (h : False) => h.elim⟩ (fun _ _ (h : False) => h.elim) h
  · obtain ⟨k1, k2⟩ := dom st
    exact h .non H' k1 k2 ⟨rfl, (outs_of s st s' fun _ h => .inl h).anti s'.m0⟩
  · obtain ⟨k1, k2⟩ := dom st
    obtain ⟨e', q, h⟩ := h
    cases e with
    | val d =>
      cases q
      exact h v H' k1 k2 ⟨s'.2.anti s'.1.m0, (outs_of s st s'.1 fun _ h => .inl h).anti s'.1.m0⟩
    | new o =>
      cases q
      obtain ⟨a, rfl, na, n0, s2, r⟩ := s'
      have ha := nw a rfl
      have sub : ∀ b, Md (plus B a) aw b → Md (plus B a) ow' b := fun b z => by
        rcases z with (z | z) | z
        · exact .inl (.inl z)
        · exact .inl (.inr z)
        · exact s2.m0 b (.inr z)
      exact h _ H' k1 k2 ⟨a, rfl, ha, r.anti sub, (outs_of s st s2 fun b hb => hb.imp (fun z => z) fun z => by rw [z]; exact ha).anti sub⟩
    | own i =>
      have q : (match env[i]? with | some (.own o) => some (EV.new o) | _ => none) = some e' := q
      split at q
      · rename_i o ho
        cases q
        obtain ⟨s2, a, o', rfl, h1, h2⟩ := s'
        obtain ⟨b, g1, g2, g3, g4⟩ := s2.own i o ho
        rw [h1] at g1; cases g1
        have ha : H a = none := by
          rcases st.nwp i a h1 with z | z
          · exact absurd (.inr (List.mem_of_getElem? (get_app z fun z => by cases z))) g4
          · exact z
        have sub : ∀ b, Md (plus B a) aw b → Md B ow' b := fun b z => by
          rcases z with (z | z) | z
          · exact .inl z
          · rw [z]; exact .inr (List.mem_of_getElem? h1)
          · exact s2.m0 b (.inr z)
        exact h _ H' k1 k2 ⟨a, rfl, ha, g3.anti sub, (outs_of s st s2 fun _ h => .inl h).anti sub⟩
      · cases q
theorem spD_len {FS : EF} {n : Nat} : ∀ vs H Q E, spD S FS n vs H Q E → vs.length = n := fun vs H Q E h => by
  obtain ⟨_, _, _, h, _⟩ := h
  exact h
/-- a def, by its body -/
theorem fn_D {P : Program} {w : World} {mg : Str → Option Value} {base : Heap} {qual : Str} {st : Stmt} {g : Addr} {fd : FuncData} {N ps : List Str} {k : Nat} (F : Fun S.K x qual st g fd) (Sc : FnScope N ps (defScope st))
    (hb : ∀ (M : MS) (cdv : Value) (A : Around) (outer : List Env) (s : Shared) (H : Hp) (E : XK), Room k (A.deeper (envOfC qual (defScope st) s.heap.objs.size g cdv)) → PSs (cxOf (L2.CX P w) P w S.K mg base N qual (defScope st) g cdv A outer s H E) (defBody st) (tS S M L2.E0 sb)) :
    FnOk P w S.K mg base (L2.CX P w) (k + 1) g fd ps (spD S (bodyF N.length ps.length sb) ps.length) :=
  F.okX Sc spD_len fun cdv A outer s H vs Q E hr hsp => by
    obtain ⟨M, hM⟩ := body_run rfl hsp
    exact ⟨_, hb M cdv A outer s H E hr, hM⟩
/-- what is not promised anything of -/
def nevF : EF where
  r := fun _ _ _ => False
  m := fun _ _ h => h
theorem fn_nev {P : Program} {w : World} {K : PySem.W.Frag} {mg : Str → Option Value} {base : Heap} {CX : CXT} {k : Nat} {g : Addr} {fd : FuncData} {ps : List Str} : FnOk P w K mg base CX k g fd ps (spD S nevF ps.length) :=
  ⟨spD_len, fun A outer s H args us vs Q E _ _ _ _ h => by
    obtain ⟨_, _, _, _, _, _, h⟩ := h
    exact h.elim⟩
/-! ### o.f = e -/
def putFs (nm : Str) (d : D) : List (Str × D) → List (Str × D)
  | [] => [(nm, d)]
  | q :: r => if q.1 = nm then (q.1, d) :: r else q :: putFs nm d r
theorem putFs_v {M : MS} {nm : Str} {d : D} {v : V} (r : Rep S M H d v) : ∀ {fs : List (Str × D)} {vs : List V}, RepL S M H (fs.map (·.2)) vs → ∃ vs', putF nm v ((fs.map (·.1)).zip vs) = ((putFs nm d fs).map (·.1)).zip vs' ∧ (putFs nm d fs).length = vs'.length ∧ RepL S M H ((putFs nm d fs).map (·.2)) vs'
  | [], vs, h => by cases h; exact ⟨[v], rfl, rfl, ⟨v, [], rfl, r, rfl⟩⟩
  | q :: fs, _, h => by
    obtain ⟨w, t, rfl, h1, h2⟩ := h
    by_cases hq : q.1 = nm
    · refine ⟨v :: t, ?_, ?_, ?_⟩
      · show (if q.1 = nm then (q.1, v) :: _ else _) = ((if q.1 = nm then (q.1, d) :: fs else _).map (·.1)).zip _
        rw [if_pos hq, if_pos hq]; rfl
      · have := h2.len
        rw [List.length_map] at this
        show (if q.1 = nm then (q.1, d) :: fs else _).length = _
        rw [if_pos hq]; simp [this]
      · show RepL S M H ((if q.1 = nm then (q.1, d) :: fs else _).map (·.2)) _
        rw [if_pos hq]
        exact ⟨v, t, rfl, r, h2⟩
    · obtain ⟨vs', e1, e2, e3⟩ := putFs_v (nm := nm) r h2
      refine ⟨w :: vs', ?_, ?_, ?_⟩
      · show (if q.1 = nm then _ else (q.1, w) :: putF nm v _) = ((if q.1 = nm then _ else q :: putFs nm d fs).map (·.1)).zip _
        rw [if_neg hq, if_neg hq]
        show (q.1, w) :: putF nm v ((fs.map (·.1)).zip t) = _
        rw [e1]; rfl
      · show (if q.1 = nm then _ else q :: putFs nm d fs).length = _
        rw [if_neg hq]; simp [e2]
      · show RepL S M H ((if q.1 = nm then _ else q :: putFs nm d fs).map (·.2)) _
        rw [if_neg hq]
        exact ⟨w, vs', rfl, h1, e3⟩
def setF (F : Nat → List Str) (ics : List Nat) (i : Nat) (nm : Str) (f : EF) : SF where
  r := fun env P X => f.r env (fun e env1 => ∃ d, e.keep F = some d ∧ ∃ sl c fs, env1[i]? = some sl ∧ sl.ob = some (.ins c fs) ∧ c ∈ ics ∧ nm ∈ F c ∧ fs.length < 1000 ∧ P.nx (env1.set i (sl.put (.ins c (putFs nm d fs))))) X
  m := fun hp hx h => f.m (fun _ _ ⟨d, h0, sl, c, fs, h1, h2, h3, h4, h5, h6⟩ => ⟨d, h0, sl, c, fs, h1, h2, h3, h4, h5, hp.nx _ h6⟩) hx h
theorem s_fld {i : Nat} {ics : List Nat} {nm : Str} (hk : X.K = S.K) (ok : SgOk S ics) (he : PE X value (tE S M0 E f)) (hN : X.N[i]? = some x := by rfl) (hs : swapsWith value (some (.Attribute (.Name x p) nm pos')) pos.line X.env = pure false := by rfl)
    (hv : Vis X.env.scope x := by first | exact Or.inl rfl | exact Or.inr (Or.inl rfl) | exact Or.inr (Or.inr rfl)) (hd : (x == ("__debug__" : Str)) = false := by decide) (hcd : (x == ("__classdict__" : Str)) = false := by decide) :
    PS X (.Assign [.Attribute (.Name x p) nm pos'] value pos) (tS S M0 E (setF S.flds ics i nm f)) := PS.imp (ps_fld (pe_var hN hv hd hcd) he hs) fun D σ H h => by
  obtain ⟨B, ow, env, s, h⟩ := h
  refine ⟨B, ow, env, s, f.m (fun e env1 h v H1 ow1 st1 nw1 ok1 => ?_) (fun _ _ h => h) h⟩
  obtain ⟨d, q, sl, c, fs, h1, h2, h3, h4, h5, h6⟩ := h
  obtain ⟨s1, r1⟩ := ok1.keep q
  obtain ⟨a, k1, k2, dx, vs, k3, k4, k5⟩ := s1.slot h1 h2
  have q := ok.c _ h3
  have hm : Md B ow1 a := .inr (List.mem_of_getElem? k1)
  obtain ⟨vs', e1, e2, e3⟩ := putFs_v (nm := nm) r1 k5
  rw [hk]
  refine ⟨_, k2, a, _, dx, _, rfl, k3, q.cl, q.nf nm h4, by rw [List.length_zip, List.length_map, k4, Nat.min_self, ← k4]; exact h5, ?_⟩
  rw [e1]
  obtain ⟨p1, p2⟩ := s1.put (o' := .ins c (putFs nm d fs)) (ho := .ins (S.cls c) dx _) h1 h2 k1 ⟨dx, vs', upd_same, e2, e3.upd_at hm⟩
  exact h6 σ _ ow1 (st1.trans p2) p1
/-! ### C(..) -/
def mkF (c : Nat) (FS : EF) (n : Nat) (l : LA) : EF where
  r := fun env P X => l.r env (fun as env1 => as.length + 1 = n ∧ (refs as).Nodup ∧ runF FS (.io (.ins c []) :: as.map (slotOf env1)) (fun e outs => e = .val .non ∧ ∃ o os, outs = .io o :: os ∧ ∃ env2, backE as os env1 = some env2 ∧ P (.new o) env2) X) X
  m := fun hp hx h => l.m (fun as env1 ⟨h1, h2, h3⟩ => ⟨h1, h2, FS.m (fun e outs ⟨q, o, os, h4, env2, h5, h6⟩ => ⟨q, o, os, h4, env2, h5, hp _ _ h6⟩) hx h3⟩) hx h
def rm (B : MS) (x : Addr) : MS := fun b => B b ∧ b ≠ x
theorem md_rm {aw : OW} {x : Addr} (hx : B x) : Md (rm B x) (some x :: aw) = Md B aw := by
  funext b
  apply propext
  constructor
  · rintro (z | z)
    · exact .inl z.1
    · rcases List.mem_cons.mp z with z | z
      · cases z; exact .inl hx
      · exact .inr z
  · rintro (z | z)
    · by_cases hb : b = x
      · rw [hb]; exact .inr List.mem_cons_self
      · exact .inl ⟨z, hb⟩
    · exact .inr (List.mem_cons_of_mem _ z)
theorem Sim.cons {aw : OW} {as : List Slot} {vs : List V} {x : Addr} {o : Ob} (s : Sim S (Md B aw) B aw as (vs.map some) H) (hx : B x) (r : ObRep S (Md B aw) H x o) :
    Sim S (Md (rm B x) (some x :: aw)) (rm B x) (some x :: aw) (.io o :: as) ((V.ref x :: vs).map some) H := by
  have hM := md_rm (aw := aw) hx
  have nx : some x ∉ aw := s.dis x hx
  exact {
    l1 := by simp [s.l1]
    l2 := by simp [s.l2]
    val := fun i d h => by
      rw [hM]
      cases i with
      | zero => cases h
      | succ i => exact s.val i d (by simpa using h)
    own := fun i o h => by
      cases i with
      | zero => cases h
      | succ i =>
        obtain ⟨a, h1, h2, h3, h4⟩ := s.own i o (by simpa using h)
        exact absurd (.inr (List.mem_of_getElem? h1)) h4
    io := fun i o' h => by
      rw [hM]
      cases i with
      | zero => cases h; exact ⟨x, rfl, rfl, r⟩
      | succ i => exact s.io i o' (by simpa using h)
    live := fun i a h => by
      cases i with
      | zero => cases h; exact ⟨o, .inr rfl⟩
      | succ i =>
        obtain ⟨o', q⟩ := s.live i a (by simpa using h)
        exact ⟨o', q⟩
    inj := fun i j a h1 h2 => by
      cases i with
      | zero =>
        cases j with
        | zero => rfl
        | succ j => cases h1; exact absurd (List.mem_of_getElem? (i := j) (by simpa using h2)) nx
      | succ i =>
        cases j with
        | zero => cases h2; exact absurd (List.mem_of_getElem? (i := i) (by simpa using h1)) nx
        | succ j => rw [s.inj i j a (by simpa using h1) (by simpa using h2)]
    dis := fun a h z => by
      rcases List.mem_cons.mp z with z | z
      · cases z; exact h.2 rfl
      · exact s.dis a h.1 z
    trk := fun a h => s.trk a h.1
    m0 := fun a h => h }
theorem make_of {c : Nat} {FS : EF} {n : Nat} {la : LA} (h : tE S M0 E (mkF c FS n la) σ H Q) : tMake (S.cls c) (spD S FS n) [] E (tAg S M0 E la) σ H Q := by
  obtain ⟨B, ow, env, s, h⟩ := h
  refine ⟨B, ow, env, s, la.m (fun as env1 h1 vs H1 ow1 st1 s1 ok x dx hx hdx hne => ?_) (fun _ _ h => h) h⟩
  obtain ⟨hn, hnd, h1⟩ := h1
  have g0 : Grow H1 (upd H1 dx (.own x)) := .upd hdx
  have hx2 : (upd H1 dx (.own x)) x = none := by rw [upd_ne (Ne.symm hne)]; exact hx
  obtain ⟨p', ep, np, n0, s2, ob⟩ := new_ok (ho := .ins (S.cls c) dx []) (o := .ins c []) (s1.grow g0) hx2 fun M hM => ⟨dx, [], upd_same, rfl, rfl⟩
  cases ep
  generalize hHx : upd (upd H1 dx (.own x)) x (.ins (S.cls c) dx []) = Hx at *
  have gx : Grow H1 Hx := by rw [← hHx]; exact g0.trans (.upd hx2)
  have hHxx : Hx x = some (.ins (S.cls c) dx []) := by rw [← hHx]; exact upd_same
  have ok2 : ArgsOk S (Md (plus B x) ow1) Hx σ as vs := by
    clear h1 hn hnd
    have mv : ∀ d v, Rep S (Md B ow1) H1 d v → Rep S (Md (plus B x) ow1) Hx d v := fun d v r => Rep.move (fun a o n e => ⟨gx a o e, fun z => by
      rcases z with (z | z) | z
      · exact n (.inl z)
      · rw [z, hx] at e; cases e
      · exact n (.inr z)⟩) _ _ r
    induction as generalizing vs with
    | nil => exact ok
    | cons a as ih =>
      cases a with
      | val d => obtain ⟨v, t, e, h1, h2⟩ := ok; exact ⟨v, t, e, mv _ _ h1, ih _ h2⟩
      | ref j => obtain ⟨v, t, e, h1, h2⟩ := ok; exact ⟨v, t, e, h1, ih _ h2⟩
  obtain ⟨c1, c2⟩ := s2.callee hnd ok2
  have hM := md_bc (B := plus B x) (ow1 := ow1) (aw := as.map (awOf ow1)) arg_aw
  have nxo : some x ∉ ow1 := s2.dis x (.inr rfl)
  have nxa : some x ∉ as.map (awOf ow1) := fun z => by
    obtain ⟨i, j, _, h2⟩ := aw_sub x z
    exact nxo (List.mem_of_getElem? h2)
  have hbx : Bc (plus B x) ow1 (as.map (awOf ow1)) x := ⟨.inl (.inr rfl), nxa⟩
  have c3 := c1.cons hbx (by rw [hM]; exact ob)
  have hM2 := md_rm (aw := as.map (awOf ow1)) hbx
  rw [hM] at hM2
  rw [List.append_nil]
  have nxH : ¬ Md B ow1 x := fun z => by
    obtain ⟨u, hu⟩ := s1.trkA x z
    rw [hx] at hu; cases hu
  refine ⟨_, _, _, by rw [List.length_cons, ok.len, hn], c3, fun i o q => ?_, FS.m (fun e outs g v H' kp dm res => ?_) (fun c fs g dx' H' kp r => ?_) h1⟩
  · cases i with
    | zero => cases q
    | succ i => exact c2 i o (by simpa using q)
  · obtain ⟨rfl, o, os, rfl, env2, g1, g2⟩ := g
    obtain ⟨r1, r2⟩ := res
    cases r1
    refine ⟨rfl, ?_⟩
    rw [hM2] at r2
    obtain ⟨o', q1, q2⟩ := r2 0 x rfl
    cases q1
    have hno : ∀ (j : Nat) (b : Addr), j ∉ refs as → ow1[j]? = some (some b) → some b ∉ (some x :: as.map (awOf ow1)) := fun j b hj hb z => by
      rcases List.mem_cons.mp z with z | z
      · cases z; exact nxo (List.mem_of_getElem? hb)
      · obtain ⟨i, j', h1, h2⟩ := aw_sub b z
        have := s1.inj j j' b hb h2
        subst this
        exact hj (mem_refs h1)
    have s3 := after_call s2 hnd kp dm (fun a ha => by
      rcases List.mem_cons.mp ha with z | z
      · cases z; exact .inl (.inr rfl)
      · exact arg_aw a z) hno (B2 := plus B x) (fun _ h => h) (fun _ h => .inl h) (fun b hb => dom_kp (aw := as.map (awOf ow1)) dm (s2.trk b hb)) (fun i j a h1 h2 => by
        obtain ⟨o'', q3, q4⟩ := r2 (i + 1) a (by
          rw [List.getElem?_cons_succ, List.getElem?_map, h1]
          show some ((ow1[j]?).join) = _
          rw [h2]; rfl)
        exact ⟨o'', by simpa using q3, q4⟩) g1
    have st2 : Stp ow1 H1 ow1 H' := ⟨fun a o n e => kp a o (fun z => by
      rcases List.mem_cons.mp z with z | z
      · cases z; rw [hx] at e; cases e
      · obtain ⟨i, j, _, h2⟩ := aw_sub a z
        exact n (List.mem_of_getElem? h2)) (gx a o e), fun _ _ h => .inl h, fun a o e => dm a o (gx a o e)⟩
    exact g2 _ H' ow1 (st1.trans st2) (.at (st1.fresh hx)) ⟨x, rfl, nxH, fun z => nxH (s1.m0 x z), s3, q2⟩
  · refine XP.stp st1 g dx' H' (fun a o n e => kp a o (fun z => ?_) (gx a o e)) ?_
    · rcases List.mem_cons.mp z with z | z
      · cases z; rw [hx] at e; cases e
      · obtain ⟨i, j, _, h2⟩ := aw_sub a z
        exact n (List.mem_of_getElem? h2)
    · rw [hM2] at r
      obtain ⟨l, r1, r2, r3⟩ := r
      refine ⟨l, r1, r2, fun i f d e1 e2 => ?_⟩
      obtain ⟨v, k1, k2⟩ := r3 i f d e1 e2
      exact ⟨v, k1, k2.anti fun a ha => (s1.m0 a ha).elim (fun z => .inl (.inl z)) .inr⟩
variable {FS : EF} {CX : CXT} {k n cn : Nat} {g : Addr} {fd : FuncData} {ps : List Str}
theorem r_make (M : Mk X.K (S.cls cn) g) (F : FnOk X.prog X.w X.K X.mg X.base CX k g fd ps (spD S FS n)) (hr : Room (k + 1) X.A) (hm : X.mg x = some (.ref (S.cls cn))) (hb : Binds X.K fd ps []) (hx : Passes CX X E)
    (ha : PA X (e :: es) (tAg S M0 E la)) (hg : Gl X x := by rfl) (hdb : (x == ("__debug__" : Str)) = false := by decide) (he : starEach (e :: es) X.env = (false, eval e X.env) :: starEach es X.env := by rfl) (hpl : (backTo pos (starEach es X.env)).any (·.1) = false := by rfl) :
    PE X (.Call (.Name x p) (e :: es) [] pos) (tE S M0 E (mkF cn FS n la)) :=
  PE.imp (pe_make (dvs := []) M F hr hg hm hb .nil hx ha hdb he hpl) fun σ H Q h => make_of h
end
end En
set_option Elab.async false
set_option linter.all false
set_option maxRecDepth 100000
namespace En
open PySem PySem.Spec PyProof.Rows L2
section
variable {X : Cx} {S : Sg} {M0 B : MS} {E : XK} {ow ow0 ow1 : OW} {env env1 : Env'} {σ : L2.St} {H H0 H1 : Hp}
variable {a b : Expr} {f f2 : EF} {pos : Pos}
theorem looks_ref {M : Model} {h : Heap} {a : Addr} {T : String} (x : ∃ o, h.get? a = some o ∧ o.cls = .type T) : PySem.W.Looks M h (typeOf (.ref a)) (.type T) := fun A Q E s k q => by
  obtain ⟨o, h1, h2⟩ := x
  exact wpAny_typeOf (⟨o, k a o h1, h2⟩ : s.TypeIs (.ref a) T) q
theorem looks_of {pins : List (Addr × Obj)} {s : Shared} {x : V} {u t : Value} (I : Inv X pins σ H s) (rx : RelV x u) (ty : TyX X.K H x t) (hb : ∀ y, x ≠ .byt y) (hf : ∀ y, x ≠ .flt y) : PySem.W.Looks (model X.prog X.w) s.heap (typeOf u) t := by
  cases ty with
  | base b =>
    cases b with
    | non => cases (show u = Value.none from rx); exact fun A Q E s k q => wpAny_typeOf (typeIs_none s) q
    | bl y => cases (show u = Value.bool y from rx); exact fun A Q E s k q => wpAny_typeOf (PySem.typeIs_bool s y) q
    | int i => obtain ⟨t, q⟩ := (show ∃ t, u = Value.int i t from rx); cases q; exact fun A Q E s k q => wpAny_typeOf (typeIs_int s i t) q
    | str y => obtain ⟨t, q⟩ := (show ∃ t, u = Value.str y t from rx); cases q; exact fun A Q E s k q => wpAny_typeOf (typeIs_str s y t) q
    | flt y => exact absurd rfl (hf y)
    | @lst a xs ea =>
      cases (show u = Value.ref a from rx)
      obtain ⟨_, _, n, _, h1⟩ := (show ObjOk X.prog X.w H s.heap a (.lst xs) from I.hok a _ ea)
      exact looks_ref ⟨_, h1, rfl⟩
    | @frz a ob xs ea =>
      cases (show u = Value.ref a from rx)
      obtain ⟨_, _, _, n, _, h1⟩ := (show ObjOk X.prog X.w H s.heap a (.frz ob (.lst xs)) from I.hok a _ ea)
      exact looks_ref ⟨_, h1, rfl⟩
    | @tup a xs ea =>
      cases (show u = Value.ref a from rx)
      obtain ⟨_, _, _, o, h1, h2, _⟩ := (show ObjOk X.prog X.w H s.heap a (.tup xs) from I.hok a _ ea)
      exact looks_ref ⟨o, h1, h2⟩
    | @dK a kvs ea =>
      cases (show u = Value.ref a from rx)
      obtain ⟨_, _, vs, _, o, es, ep, h1, h2, _⟩ := (show ObjOk X.prog X.w H s.heap a (.dK kvs) from I.hok a _ ea)
      exact looks_ref ⟨o, h1, h2.1⟩
    | @dT a kvs ea =>
      cases (show u = Value.ref a from rx)
      obtain ⟨_, _, xs, _, o, es, ep, h1, h2, _⟩ := (show ObjOk X.prog X.w H s.heap a (.dT kvs) from I.hok a _ ea)
      exact looks_ref ⟨o, h1, h2.1⟩
    | @ins a C dx fs ea cl ha hn htk hm =>
      cases (show u = Value.ref a from rx)
      obtain ⟨mA, O, _⟩ := ins_get I.hok ea
      obtain ⟨od, J, _⟩ := O.look
      exact J.type
  | byt y => exact absurd rfl (hb y)
  | @set a S n ea =>
    cases (show u = Value.ref a from rx)
    obtain ⟨o, _, _, _, e, ex, _⟩ := I.hok a _ ea
    exact looks_ref ⟨o, e, ex.1⟩
  | @kList a o e c =>
    cases (show u = Value.ref a from rx)
    exact looks_ref ⟨o, I.kIn a o e, c⟩
  | @kTuple a o e c =>
    cases (show u = Value.ref a from rx)
    exact looks_ref ⟨o, I.kIn a o e, c⟩
  | @kDict a o e c =>
    cases (show u = Value.ref a from rx)
    exact looks_ref ⟨o, I.kIn a o e, c⟩
  | @fTuple a ob xs ea =>
    cases (show u = Value.ref a from rx)
    obtain ⟨_, _, _, _, o, h1, h2, _⟩ := (show ObjOk X.prog X.w H s.heap a (.frz ob (.tup xs)) from I.hok a _ ea)
    exact looks_ref ⟨o, h1, h2⟩
  | @fDict a ob kvs ea =>
    cases (show u = Value.ref a from rx)
    obtain ⟨_, _, _, vs, _, o, es, ep, h1, h2, _⟩ := (show ObjOk X.prog X.w H s.heap a (.frz ob (.dK kvs)) from I.hok a _ ea)
    exact looks_ref ⟨o, h1, h2.1⟩
/-- x op y, x an instance whose class says how -/
theorem op_own {CX : CXT} {k : Nat} {C g : Addr} {fd : FuncData} {ps : List Str} {sp : Sp} {op : CmpOp} (hop : compareOp op = richCompare op) (F : FnOk X.prog X.w X.K X.mg X.base CX k g fd ps sp) (hr : Room k X.A)
    (hs : PySem.W.findIn X.K (.ref C) (cmpInfo op).2.1 = some (some (.ref g))) (hf : PySem.W.isFn X.K (.ref g) = true) (hb : Binds X.K fd ps []) (hx : Passes CX X E) :
    OpR X (compareOp op) (fun x y H Q => ∃ a dx fs t, x = .ref a ∧ H a = some (.ins C dx fs) ∧ TyX X.K H y t ∧ (∀ z, y ≠ .byt z) ∧ (∀ z, y ≠ .flt z) ∧ PySem.W.notFirst X.K C t = true ∧ sp [.ref a, y] H (fun v H' => ∃ b, v = .bl b ∧ Q (.bl b) H') E) := by
  intro pins s σ H x y u v Q I rx ry h
  obtain ⟨a, dx, fs, t, rfl, ha, ty, n1, n2, nf, q⟩ := h
  cases rx
  have hl := looks_of I ry ty n1 n2
  obtain ⟨mA, J, _⟩ := ins_get I.hok ha
  obtain ⟨od, J, _⟩ := J.look
  obtain ⟨m, hF⟩ := I.fr
  rw [hop]
  refine PySem.W.cmp_K (op := op) (tb := t) hr.units0 hF I.ok.mod.kin J hl nf hs hf ?_
  refine wpAny_mono (run_fn (dvs := []) (vs := [.ref a, y]) (us := [.ref a, v]) F hr hb .nil hx I (.cons rfl (.cons ry .nil)) (by rw [List.append_nil]; exact q)) (fun w s' z => ?_) fun _ _ z => z
  obtain ⟨vv, H', I', rv, b, rfl, qb⟩ := z
  cases rv
  exact ⟨.bl b, H', I', rfl, qb⟩
theorem two_noown {d d2 : D} : ∀ (i : Nat) (o : Ob), [Slot.val d, Slot.val d2][i]? ≠ some (.own o) := fun i o h => by
  match i, h with
  | 0, h => cases h
  | 1, h => cases h
  | i + 2, h => cases h
/-- == and != by the class's own method; nf: what the other's type is -/
def cmpF (F : Nat → List Str) (ics : List Nat) (c : Nat) (FS : EF) (f f2 : EF) : EF where
  r := fun env P X => f.r env (fun e env1 => ∃ d1, e.keep F = some d1 ∧ (∃ ds, d1 = .ins c ds) ∧ f2.r env1 (fun e2 env2 => ∃ d2, e2.keep F = some d2 ∧ (tqD ics d2).isSome = true ∧ runF FS [.val d1, .val d2] (fun e3 _ => ∃ b, e3 = .val (.bl b) ∧ P (.val (.bl b)) env2) X) X) X
  m := fun hp hx h => f.m (fun e env1 ⟨d1, h1, hi, h2⟩ => ⟨d1, h1, hi, f2.m (fun e2 env2 ⟨d2, h3, h4, h5⟩ => ⟨d2, h3, h4, FS.m (fun e3 _ ⟨b, h6, h7⟩ => ⟨b, h6, hp _ _ h7⟩) hx h5⟩) hx h2⟩) hx h
theorem r_own {CX : CXT} {k : Nat} {c : Nat} {g : Addr} {fd : FuncData} {ps : List Str} {op : CmpOp} {ics : List Nat} {FS : EF} (hk : X.K = S.K) (ok : SgOk S ics) (hop : compareOp op = richCompare op) (F : FnOk X.prog X.w X.K X.mg X.base CX k g fd ps (spD S FS 2)) (hr : Room k X.A)
    (hs : PySem.W.findIn X.K (.ref (S.cls c)) (cmpInfo op).2.1 = some (some (.ref g))) (hf : PySem.W.isFn X.K (.ref g) = true) (hb : Binds X.K fd ps []) (hx : Passes CX X E) (nfb : ∀ t : Tq, t.ok ics → PySem.W.notFirst X.K (S.cls c) (t.v S) = true)
    (ha : PE X a (tE S M0 E f)) (hb' : PE X b (tE S M0 E f2)) (hm : behindInMarks op b = false := by first | exact nomark _ | rfl) : PE X (.Compare a [op] [b] pos) (tE S M0 E (cmpF S.flds ics c FS f f2)) :=
  PE.imp (pe_cmpR (op_own hop F hr hs hf hb hx) ha hb' hm) fun σ H Q h => by
    obtain ⟨B, ow, env, s, h⟩ := h
    refine ⟨B, ow, env, s, f.m (fun e1 env1 h1 v H1 ow1 st1 nw1 ok1 => ?_) (fun _ _ h => h) h⟩
    obtain ⟨d1, q1, ⟨ds, rfl⟩, h1⟩ := h1
    obtain ⟨s1, r1⟩ := ok1.keep q1
    refine ⟨B, ow1, env1, s1, f2.m (fun e2 env2 h2 u H2 ow2 st2 nw2 ok2 => ?_) (fun _ _ h => h.stp st1) h1⟩
    obtain ⟨d2, q2, q3, h2⟩ := h2
    obtain ⟨s2, r2⟩ := ok2.keep q2
    have r1' := Rep.stp st2 r1
    obtain ⟨x, dx, vs, rfl, nx, hx1, hl, rl⟩ := id r1'
    obtain ⟨t, ht⟩ := Option.isSome_iff_exists.mp q3
    obtain ⟨k1, k2⟩ := tq_v hk ok r2.top ht
    have nby : ∀ z, u ≠ .byt z := fun z e => by subst e; cases d2 <;> first | (cases r2; done) | (obtain ⟨a, _, e, _⟩ := r2; cases e; done) | (obtain ⟨a, _, _, e, _⟩ := r2; cases e; done) | skip
    have nfl : ∀ z, u ≠ .flt z := fun z e => by subst e; cases d2 <;> first | (cases r2; done) | (obtain ⟨a, _, e, _⟩ := r2; cases e; done) | (obtain ⟨a, _, _, e, _⟩ := r2; cases e; done) | skip
    refine ⟨x, dx, _, t.v S, rfl, hx1, k2, nby, nfl, nfb t k1, ?_⟩
    refine ⟨Md B ow2, [none, none], [.val (.ins c ds), .val d2], rfl, {
      l1 := rfl
      l2 := rfl
      val := fun i d h => by
        have e : Md (Md B ow2) [none, none] = Md B ow2 := by
          funext b; apply propext
          exact ⟨fun z => z.elim (fun z => z) fun z => by simp at z, fun z => .inl z⟩
        rw [e]
        match i, h with
        | 0, h => cases h; exact ⟨_, rfl, r1'⟩
        | 1, h => cases h; exact ⟨_, rfl, r2⟩
        | i + 2, h => cases h
      own := fun i o h => by
        match i, h with
        | 0, h => cases h
        | 1, h => cases h
        | i + 2, h => cases h
      io := fun i o h => by
        match i, h with
        | 0, h => cases h
        | 1, h => cases h
        | i + 2, h => cases h
      live := fun i o h => by
        match i, h with
        | 0, h => cases h
        | 1, h => cases h
        | i + 2, h => cases h
      inj := fun i j o h h2 => by
        match i, h with
        | 0, h => cases h
        | 1, h => cases h
        | i + 2, h => cases h
      dis := fun a h z => by simp at z
      trk := fun a h => s2.trkA a h
      m0 := fun a h => h }, two_noown, FS.m (fun e3 outs g v H' kp dm res => ?_) (fun cc fs g dx' H' kp r => ?_) h2⟩
    · obtain ⟨b, rfl, g⟩ := g
      obtain ⟨rb, _⟩ := res
      cases rb
      refine ⟨b, rfl, ?_⟩
      have gr : Grow H2 H' := fun a o e => kp a o (by simp) e
      exact g _ H' ow2 ((st1.trans st2).trans (.grow gr)) trivial ⟨s2.grow gr, rfl⟩
    · refine XP.stp (st1.trans st2) g dx' H' (fun a o n e => kp a o (by simp) e) ?_
      obtain ⟨l, r1, r2, r3⟩ := r
      refine ⟨l, r1, r2, fun i f d e1 e2 => ?_⟩
      obtain ⟨v, k1, k2⟩ := r3 i f d e1 e2
      exact ⟨v, k1, k2.anti fun a ha => .inl (s2.m0 a ha)⟩
end
end En
set_option Elab.async false
set_option linter.all false
set_option maxRecDepth 100000
namespace En
open PySem PySem.Spec PyProof.Rows L2
/-! ### the context of a body, what a name stands for -/
structure Bd (X : Cx) (S : Sg) (k : Nat) : Prop where
  q : X.K = S.K
  c : X.calm = true
  n : X.N.Nodup
  r : Room k X.A
theorem Bd.u {X : Cx} {S : Sg} {k : Nat} (z : Bd X S k) : X.A.units + 100 < cLine := by
  have := z.r.un
  omega
theorem Bd.blk {X : Cx} {S : Sg} {k : Nat} (z : Bd X S k) (s : Shared) (H : Hp) (scope : Scope) (cenv : Env) (fp : List Addr) : Bd (X.blk s H scope cenv fp) S k := ⟨z.q, z.c, z.n, z.r⟩
structure FnC (P : Program) (w : World) (S : Sg) (mg : Str → Option Value) (base : Heap) (k : Nat) (x : Str) (FS : EF) (n : Nat) : Prop where
  ex : ∃ (f : Addr) (fd : FuncData) (ps : List Str), FnOk P w S.K mg base (L2.CX P w) k f fd ps (spD S FS n) ∧ mg x = some (.ref f) ∧ PySem.W.keepIn S.K (.ref f) = true ∧ Binds S.K fd ps []
/-- .. by its address -/
structure FnA (P : Program) (w : World) (S : Sg) (mg : Str → Option Value) (base : Heap) (k : Nat) (f : Addr) (fd : FuncData) (ps : List Str) (FS : EF) (n : Nat) : Prop where
  fn : FnOk P w S.K mg base (L2.CX P w) k f fd ps (spD S FS n)
  kp : PySem.W.keepIn S.K (.ref f) = true
  bd : Binds S.K fd ps []
section
variable {P : Program} {w : World} {S : Sg} {mg : Str → Option Value} {base : Heap} {x qual : Str} {st : Stmt} {g : Addr} {fd : FuncData} {N ps : List Str} {k n : Nat} {sb : SF} {FS : EF}
theorem FnA.c {f : Addr} (h : FnA P w S mg base k f fd ps FS n) (hm : mg x = some (.ref f)) : FnC P w S mg base k x FS n := by
  exact ⟨f, fd, ps, h.fn, hm, h.kp, h.bd⟩
/-- a def of the text -/
theorem fn_A (F : Fun S.K x qual st g fd) (hb : Binds S.K fd ps []) (Sc : FnScope N ps (defScope st))
    (body : ∀ (M : MS) (cdv : Value) (A : Around) (outer : List Env) (s : Shared) (H : Hp) (E : XK), Bd (cxOf (L2.CX P w) P w S.K mg base N qual (defScope st) g cdv A outer s H E) S k →
      PSs (cxOf (L2.CX P w) P w S.K mg base N qual (defScope st) g cdv A outer s H E) (defBody st) (tS S M L2.E0 sb)) : FnA P w S mg base (k + 1) g fd ps (bodyF N.length ps.length sb) ps.length :=
  ⟨fn_D F Sc fun M cdv A outer s H E hr => body M cdv A outer s H E ⟨rfl, rfl, Sc.nd, hr⟩, F.kp, hb⟩
theorem fn_N (F : Fun S.K x qual st g fd) (hb : Binds S.K fd ps []) : FnA P w S mg base k g fd ps nevF ps.length := ⟨fn_nev, F.kp, hb⟩
end
section
variable {X : Cx} {S : Sg} {M0 : MS} {k j n : Nat} {x : Str} {FS : EF} {la : LA} {p pos : Pos} {e : Expr} {es : List Expr}
theorem r_c (z : Bd X S k) (c : FnC X.prog X.w S X.mg X.base j x FS n) (ha : PA X (e :: es) (tAg S M0 L2.E0 la)) (hj : j ≤ k := by decide) (hg : Gl X x := by rfl) (hdb : (x == ("__debug__" : Str)) = false := by decide) (he : starEach (e :: es) X.env = (false, eval e X.env) :: starEach es X.env := by rfl) (hpl : (backTo pos (starEach es X.env)).any (·.1) = false := by rfl) :
    PE X (.Call (.Name x p) (e :: es) [] pos) (tE S M0 L2.E0 (callF FS n la)) := by
  obtain ⟨f, fd, ps, h1, h2, h3, h4⟩ := c.ex
  rw [← z.q] at h1 h3 h4
  exact r_call h1 (z.r.mono hj) h2 h3 h4 passL ha hg hdb he hpl
/-- a class that may be made -/
structure MkC (P : Program) (w : World) (S : Sg) (mg : Str → Option Value) (base : Heap) (k : Nat) (x : Str) (cn : Nat) (FS : EF) (n : Nat) : Prop where
  ex : ∃ (f : Addr) (fd : FuncData) (ps : List Str), Mk S.K (S.cls cn) f ∧ FnOk P w S.K mg base (L2.CX P w) k f fd ps (spD S FS n) ∧ mg x = some (.ref (S.cls cn)) ∧ Binds S.K fd ps []
theorem FnA.mkc {P : Program} {w : World} {mg : Str → Option Value} {base : Heap} {f : Addr} {fd : FuncData} {ps : List Str} {cn : Nat} (h : FnA P w S mg base k f fd ps FS n) (M : Mk S.K (S.cls cn) f) (hm : mg x = some (.ref (S.cls cn))) : MkC P w S mg base k x cn FS n := by
  exact ⟨f, fd, ps, M, h.fn, hm, h.bd⟩
theorem r_mk {cn : Nat} (z : Bd X S k) (c : MkC X.prog X.w S X.mg X.base j x cn FS n) (ha : PA X (e :: es) (tAg S M0 L2.E0 la)) (hj : j + 1 ≤ k := by decide) (hg : Gl X x := by rfl) (hdb : (x == ("__debug__" : Str)) = false := by decide) (he : starEach (e :: es) X.env = (false, eval e X.env) :: starEach es X.env := by rfl) (hpl : (backTo pos (starEach es X.env)).any (·.1) = false := by rfl) :
    PE X (.Call (.Name x p) (e :: es) [] pos) (tE S M0 L2.E0 (mkF cn FS n la)) := by
  obtain ⟨f, fd, ps, h0, h1, h2, h4⟩ := c.ex
  rw [← z.q] at h0 h1 h4
  exact r_make h0 h1 (z.r.mono hj) h2 h4 passL ha hg hdb he hpl
end
/-- a class's own == and != -/
structure EqC (P : Program) (w : World) (S : Sg) (mg : Str → Option Value) (base : Heap) (k : Nat) (cn : Nat) (nm : Str) (FS : EF) : Prop where
  ex : ∃ (f : Addr) (fd : FuncData) (ps : List Str), FnOk P w S.K mg base (L2.CX P w) k f fd ps (spD S FS 2) ∧ Binds S.K fd ps [] ∧ PySem.W.findIn S.K (.ref (S.cls cn)) nm = some (some (.ref f)) ∧ PySem.W.isFn S.K (.ref f) = true
theorem FnA.eq {P : Program} {w : World} {S : Sg} {mg : Str → Option Value} {base : Heap} {k : Nat} {f : Addr} {fd : FuncData} {ps : List Str} {cn : Nat} {nm : Str} {FS : EF} (h : FnA P w S mg base k f fd ps FS 2) (h1 : PySem.W.findIn S.K (.ref (S.cls cn)) nm = some (some (.ref f))) (h2 : PySem.W.isFn S.K (.ref f) = true) : EqC P w S mg base k cn nm FS := by
  exact ⟨f, fd, ps, h.fn, h.bd, h1, h2⟩
section
variable {X : Cx} {S : Sg} {M0 : MS} {k j cn : Nat} {FS : EF} {pos : Pos} {a b : Expr} {f f2 : EF} {ics : List Nat}
theorem r_eqO (z : Bd X S k) (ok : SgOk S ics) (nfb : ∀ t : Tq, t.ok ics → PySem.W.notFirst S.K (S.cls cn) (t.v S) = true) (c : EqC X.prog X.w S X.mg X.base j cn "__eq__" FS) (ha : PE X a (tE S M0 L2.E0 f)) (hb : PE X b (tE S M0 L2.E0 f2)) (hj : j ≤ k := by decide) (hm : behindInMarks .Eq b = false := by first | exact nomark _ | rfl) :
    PE X (.Compare a [.Eq] [b] pos) (tE S M0 L2.E0 (cmpF S.flds ics cn FS f f2)) := by
  obtain ⟨g, fd, ps, h1, h2, h3, h4⟩ := c.ex
  rw [← z.q] at h1 h2 h3 h4
  exact r_own z.q ok rfl h1 (z.r.mono hj) h3 h4 h2 passL (by rw [z.q]; exact nfb) ha hb hm
theorem r_neO (z : Bd X S k) (ok : SgOk S ics) (nfb : ∀ t : Tq, t.ok ics → PySem.W.notFirst S.K (S.cls cn) (t.v S) = true) (c : EqC X.prog X.w S X.mg X.base j cn "__ne__" FS) (ha : PE X a (tE S M0 L2.E0 f)) (hb : PE X b (tE S M0 L2.E0 f2)) (hj : j ≤ k := by decide) (hm : behindInMarks .NotEq b = false := by first | exact nomark _ | rfl) :
    PE X (.Compare a [.NotEq] [b] pos) (tE S M0 L2.E0 (cmpF S.flds ics cn FS f f2)) := by
  obtain ⟨g, fd, ps, h1, h2, h3, h4⟩ := c.ex
  rw [← z.q] at h1 h2 h3 h4
  exact r_own z.q ok rfl h1 (z.r.mono hj) h3 h4 h2 passL (by rw [z.q]; exact nfb) ha hb hm
end
/-! ### the end -/
theorem one_noown {d : D} : ∀ (i : Nat) (o : Ob), [Slot.val d][i]? ≠ some (.own o) := fun i o h => by
  match i, h with
  | 0, h => cases h
  | i + 1, h => cases h
/-- as walk_of, the loose names told -/
theorem walk_X {l : PySem.W.OpenLaw} {n k : Nat} {q : Program} {loose : List Str} {XP : (Str → Option Value) → Heap → Prop} {YP : World → Heap → Prop} {d : DefRec} {K : Params → PySem.W.Frag} {x : Str}
    (hn : l.most = some n) (hn2 : n ≤ sizeLine) (hdf : d.params.defaults = []) (hr : Room k callerA)
    (hY : ∀ (w : World) (h : Heap), YP w h → (K w.params).In h)
    (F : ∀ (w : World) (mg : Str → Option Value) (fa : Addr) (h : Heap), XP mg h → (K w.params).In h → h.Ns mainGlobals mg → mg d.name = some (.ref fa) →
      ∃ (S : Sg) (FS : EF) (fd : FuncData), S.K = K w.params ∧ (∀ (s : Shared) (u : Value), BindsTo s fd ⟨[u], []⟩ [(x, u)]) ∧ (∀ ns : List Int, ns.length ≤ n → FS.r [.val (.lst (ns.map D.int))] (fun e _ => e = .val (.bl true)) X0) ∧
        ∀ base : Heap, (K w.params).In base → base.Ns mainGlobals mg → FnOk l.prog w S.K mg base (L2.CX l.prog w) k fa fd [x] (spD S FS 1)) :
    PySem.W.WalkO q loose XP YP l.row.toRowW d [] (fun f vs => PySem.call f vs) := by
  refine Att.attach_call hn hdf fun w s₀ s₁ mg mb fa o pm cd doc a vs ns G Y ho hd hcd hmg hobj hints hlen hg => ?_
  have KX := hY w _ Y
  obtain ⟨S, FS, fd, hK, hb, hsp, hF⟩ := F w mg fa _ G.X KX G.T.g hmg
  rw [hK] at hF
  refine law_call KX G.T.g G.T.b G.T.builtins G.T.nolimit hg hobj hints (Nat.le_trans hlen hn2) hr hF hb (fun H hO hS => ?_) fun H e s' hc => ?_
  · rw [← hK] at hS
    have e0 : Md (fun _ => False) [none] = fun _ => False := by
      funext b; apply propext
      exact ⟨fun z => z.elim (fun z => z) fun z => by simp at z, fun z => z.elim⟩
    have intsR : ∀ ns : List Int, RepL S (Md (fun _ => False) [none]) H (ns.map D.int) (ns.map V.int) := fun ns => by
      induction ns with
      | nil => rfl
      | cons n ns ih => exact ⟨_, _, rfl, rfl, ih⟩
    refine ⟨fun _ => False, [none], [.val (.lst (ns.map D.int))], rfl, {
      l1 := rfl
      l2 := rfl
      val := fun i d h => by
        match i, h with
        | 0, h =>
          cases h
          refine ⟨_, rfl, a, _, rfl, ?_, intsR ns⟩
          rcases hS with z | z
          · exact .inl ⟨fun z => by rw [e0] at z; exact z, z⟩
          · exact .inr z
        | i + 1, h => cases h
      own := fun i o h => by
        match i, h with
        | 0, h => cases h
        | i + 1, h => cases h
      io := fun i o h => by
        match i, h with
        | 0, h => cases h
        | i + 1, h => cases h
      live := fun i o h => by
        match i, h with
        | 0, h => cases h
        | i + 1, h => cases h
      inj := fun i j o h h2 => by
        match i, h with
        | 0, h => cases h
        | i + 1, h => cases h
      dis := fun a h z => h
      trk := fun a h => h.elim
      m0 := fun a h => h }, one_noown, ?_⟩
    refine FS.m (fun e outs g v H' kp dm res => ?_) (fun _ _ z => z.elim) (hsp ns hlen)
    subst g
    exact res.1
  · obtain ⟨_, _, _, _, _, _, _, _, _, _, _, _, z⟩ := hc
    exact z.elim
end En
set_option Elab.async false
set_option linter.all false
set_option maxRecDepth 100000
namespace En
open PySem PySem.Spec PyProof.Rows L2
theorem bt_len : bootBuiltins "len" = some (.builtin "len") := by decide +kernel
theorem bt_all : bootBuiltins "all" = some (.builtin "all") := by decide +kernel
theorem bt_any : bootBuiltins "any" = some (.builtin "any") := by decide +kernel
theorem bt_int : bootBuiltins "int" = some (.type "int") := by decide +kernel
theorem bt_str : bootBuiltins "str" = some (.type "str") := by decide +kernel
theorem bt_bool : bootBuiltins "bool" = some (.type "bool") := by decide +kernel
theorem bt_list : bootBuiltins "list" = some (.type "list") := by decide +kernel
theorem bt_tuple : bootBuiltins "tuple" = some (.type "tuple") := by decide +kernel
theorem bt_dict : bootBuiltins "dict" = some (.type "dict") := by decide +kernel
theorem meta_bt (t : BT) : PySem.W.kitMeta t.nm = true := by cases t <;> decide +kernel
theorem kit_ct {K : PySem.W.Frag} {C : Addr} {t : BT} (hs : PySem.W.subIn K (.ref C) (.type t.nm) = some false) : PySem.W.kitOne K (.ref C) (.type t.nm) = some false := by
  unfold PySem.W.kitOne
  rw [if_neg (show ¬ ((Value.ref C == Value.type t.nm) = true) from Bool.false_ne_true)]
  show (if PySem.W.kitMeta t.nm = true then PySem.W.subIn K (.ref C) (.type t.nm) else none) = _
  rw [if_pos (meta_bt t), hs]
theorem kit_tc {K : PySem.W.Frag} {C : Addr} {t : BT} (hs : PySem.W.subIn K (.type t.nm) (.ref C) = some false) (hc : PySem.W.isClsIn K C = true) (ht : PySem.W.typeIn K (.ref C) = some (.type "type")) : PySem.W.kitOne K (.type t.nm) (.ref C) = some false := by
  unfold PySem.W.kitOne
  rw [if_neg (show ¬ ((Value.type t.nm == Value.ref C) = true) from Bool.false_ne_true)]
  have hc : (PySem.W.clsIn K C).isSome = true := hc
  show (if ((PySem.W.clsIn K C).isSome && PySem.W.typeIn K (.ref C) == some (.type "type")) = true then PySem.W.subIn K (.type t.nm) (.ref C) else none) = _
  rw [hc, ht, if_pos (by rfl), hs]
theorem kit_cc {K : PySem.W.Frag} {C D : Addr} (hn : (Value.ref C == Value.ref D) = false) (hs : PySem.W.subIn K (.ref C) (.ref D) = some false) (hc : PySem.W.isClsIn K D = true) (ht : PySem.W.typeIn K (.ref D) = some (.type "type")) : PySem.W.kitOne K (.ref C) (.ref D) = some false := by
  unfold PySem.W.kitOne
  rw [if_neg (by rw [hn]; exact Bool.false_ne_true)]
  have hc : (PySem.W.clsIn K D).isSome = true := hc
  show (if ((PySem.W.clsIn K D).isSome && PySem.W.typeIn K (.ref D) == some (.type "type")) = true then PySem.W.subIn K (.ref C) (.ref D) else none) = _
  rw [hc, ht, if_pos (by rfl), hs]
/-- a look at the names of a def's scope -/
def scK (N P : List Str) (sc : Scope) : Bool :=
  (match sc.kind with | .function => true | _ => false) && !sc.isCoroutine && !sc.isGenerator && decide N.Nodup && decide (N.take P.length = P) && P.all (fun x => match sc.names.lookup x with | some .local => true | some .cell => true | _ => false) && sc.names.all (fun y => match y.2 with | .free => false | _ => true)
theorem fnScope_K {N P : List Str} {sc : Scope} (h : scK N P sc = true) : FnScope N P sc := by
  unfold scK at h
  simp only [Bool.and_eq_true, Bool.not_eq_true', decide_eq_true_eq, List.all_eq_true] at h
  obtain ⟨⟨⟨⟨⟨⟨h1, h2⟩, h3⟩, h4⟩, h5⟩, h6⟩, h7⟩ := h
  refine ⟨?_, h2, h3, h4, h5, fun x hx => ?_, fun y hy e => ?_⟩
  · split at h1
    · assumption
    · cases h1
  · have q := h6 x hx
    split at q
    · exact .inl (by assumption)
    · exact .inr (by assumption)
    · cases q
  · have q := h7 y hy
    rw [e] at q
    cases q
section
variable {X : Cx} {S : Sg} {k : Nat}
theorem onG {tg : Expr} {g : TG} (z : Bd X S k) (h : Bd X S k → PG X tg g) : PG X tg g := h z
theorem onT {cs : List Expr} {t : TT} (z : Bd X S k) (h : Bd X S k → PTs X cs t) : PTs X cs t := h z
theorem onE {e : Expr} {t : TE} (z : Bd X S k) (h : Bd X S k → PE X e t) : PE X e t := h z
end
section
variable {X : Cx} {S : Sg} {M0 B : MS} {E : XK} {ow ow0 ow1 : OW} {env env1 : Env'} {σ : L2.St} {H H0 H1 H2 : Hp}
theorem EVs.grow {M : MS} (g : Grow H H2) : ∀ {es : List EV} {B : MS} {vs : List V}, EVs S M0 H0 σ H ow env M B es vs → EVs S M0 H0 σ H2 ow env M B es vs
  | [], _, _, h => ⟨h.1, h.2.1.grow g, h.2.2⟩
  | .val d :: es, _, _, ⟨v, r, e, h1, h2⟩ => ⟨v, r, e, Rep.move (fun a o n e => ⟨g a o e, n⟩) _ _ h1, EVs.grow g h2⟩
  | .new o :: es, _, _, ⟨a, r, e, h0, h1, h2, h3, h4⟩ => ⟨a, r, e, h0, h1, h2, h3.move (fun u z => g a u z) fun b u n e => ⟨g b u e, n⟩, EVs.grow g h4⟩
  | .own _ :: _, _, _, h => h.elim
variable {a b c : Expr} {lp : LE} {pos : Pos} {x y z : Str} {i j k : Nat}
/-- the pair is made, then taken apart -/
theorem s_parT {px py pt : Pos} {kt k2 pt2} (hc : X.calm = true) (hN : X.N.Nodup) (ha : PA X [a, b] (tP S M0 E lp)) (hi : X.N[i]? = some x := by rfl) (hj : X.N[j]? = some y := by rfl)
    (hx : Loc X.env.scope x := by first | exact Or.inl rfl | exact Or.inr rfl) (hy : Loc X.env.scope y := by first | exact Or.inl rfl | exact Or.inr rfl)
    (fx : X.fn x = true ∨ X.env.scope.names.lookup x = some .local := by first | exact .inl rfl | exact .inr rfl) (fy : X.fn y = true ∨ X.env.scope.names.lookup y = some .local := by first | exact .inl rfl | exact .inr rfl) (hij : i ≠ j := by decide)
    (hs : swapsWithSole [.Tuple [.Name x px, .Name y py] kt pt] (.Tuple [a, b] k2 pt2) pos.line X.env = pure false := by rfl) (hw : swappedStores [.Tuple [.Name x px, .Name y py] kt pt] (.Tuple [a, b] k2 pt2) X.env = pure none := by rfl)
    (h1 : (assignEach [.Tuple [.Name x px, .Name y py] kt pt] X.env).map (·.2) = [assign (.Tuple [.Name x px, .Name y py] kt pt) X.env] := by rfl)
    (hn : (assignEach [.Name x px, .Name y py] X.env).length = 2 := by rfl) (hst : (assignEach [.Name x px, .Name y py] X.env).findIdx? (·.1) = none := by rfl)
    (hs1 : (assignEach [.Name x px, .Name y py] X.env).map (·.2) = assign (.Name x px) X.env :: (assignEach [.Name y py] X.env).map (·.2) := by rfl) (hs2 : (assignEach [.Name y py] X.env).map (·.2) = assign (.Name y py) X.env :: (assignEach [] X.env).map (·.2) := by rfl) :
    PS X (.Assign [.Tuple [.Name x px, .Name y py] kt pt] (.Tuple [a, b] k2 pt2) pos) (tS S M0 E (parS [i, j] lp)) :=
  PS.imp (ps_asg (pe_tup ha) (pg_tup hc (pgs_cons (pg_name hN hi hx fx) (pgs_cons (pg_name hN hj hy fy) pgs_nil hs2) hs1) hn hst) hs hw h1) fun D σ H h => by
    obtain ⟨B, ow, env, s, h⟩ := h
    refine ⟨B, ow, env, s, lp.m (fun es env1 h1 vs H1 ow1 M st1 kk1 => ?_) (fun _ _ h => h) h⟩
    obtain ⟨env2, q, h2⟩ := h1
    have hl := kk1.len
    rw [putEs_len q] at hl
    refine ⟨by rw [hl]; exact line100 (by simp), fun p hp => ?_⟩
    have gr : Grow H1 (upd H1 p (.tup vs)) := .upd hp
    obtain ⟨ow2, st2, s2, _⟩ := (kk1.grow gr).put (st1.trans (.grow gr)) q
    refine ⟨p, vs, rfl, .of upd_same, by rw [hl]; rfl, ?_⟩
    match vs, hl, s2, st2 with
    | [v, w], _, s2, st2 =>
      refine ⟨v, [w], rfl, w, [], rfl, rfl, ?_⟩
      rw [List.set_comm _ _ hij]
      exact h2 _ _ ow2 st2 s2
/-- three -/
theorem s_parT3 {px py pz pt : Pos} {kt k2 pt2} (hc : X.calm = true) (hN : X.N.Nodup) (ha : PA X [a, b, c] (tP S M0 E lp)) (hi : X.N[i]? = some x := by rfl) (hj : X.N[j]? = some y := by rfl) (hk : X.N[k]? = some z := by rfl)
    (hx : Loc X.env.scope x := by first | exact Or.inl rfl | exact Or.inr rfl) (hy : Loc X.env.scope y := by first | exact Or.inl rfl | exact Or.inr rfl) (hz : Loc X.env.scope z := by first | exact Or.inl rfl | exact Or.inr rfl)
    (fx : X.fn x = true ∨ X.env.scope.names.lookup x = some .local := by first | exact .inl rfl | exact .inr rfl) (fy : X.fn y = true ∨ X.env.scope.names.lookup y = some .local := by first | exact .inl rfl | exact .inr rfl) (fz : X.fn z = true ∨ X.env.scope.names.lookup z = some .local := by first | exact .inl rfl | exact .inr rfl) (hij : i ≠ j := by decide) (hik : i ≠ k := by decide) (hjk : j ≠ k := by decide)
    (hs : swapsWithSole [.Tuple [.Name x px, .Name y py, .Name z pz] kt pt] (.Tuple [a, b, c] k2 pt2) pos.line X.env = pure false := by rfl) (hw : swappedStores [.Tuple [.Name x px, .Name y py, .Name z pz] kt pt] (.Tuple [a, b, c] k2 pt2) X.env = pure none := by rfl)
    (h1 : (assignEach [.Tuple [.Name x px, .Name y py, .Name z pz] kt pt] X.env).map (·.2) = [assign (.Tuple [.Name x px, .Name y py, .Name z pz] kt pt) X.env] := by rfl)
    (hn : (assignEach [.Name x px, .Name y py, .Name z pz] X.env).length = 3 := by rfl) (hst : (assignEach [.Name x px, .Name y py, .Name z pz] X.env).findIdx? (·.1) = none := by rfl)
    (hs1 : (assignEach [.Name x px, .Name y py, .Name z pz] X.env).map (·.2) = assign (.Name x px) X.env :: (assignEach [.Name y py, .Name z pz] X.env).map (·.2) := by rfl) (hs2 : (assignEach [.Name y py, .Name z pz] X.env).map (·.2) = assign (.Name y py) X.env :: (assignEach [.Name z pz] X.env).map (·.2) := by rfl) (hs3 : (assignEach [.Name z pz] X.env).map (·.2) = assign (.Name z pz) X.env :: (assignEach [] X.env).map (·.2) := by rfl) :
    PS X (.Assign [.Tuple [.Name x px, .Name y py, .Name z pz] kt pt] (.Tuple [a, b, c] k2 pt2) pos) (tS S M0 E (parS [i, j, k] lp)) :=
  PS.imp (ps_asg (pe_tup ha) (pg_tup hc (pgs_cons (pg_name hN hi hx fx) (pgs_cons (pg_name hN hj hy fy) (pgs_cons (pg_name hN hk hz fz) pgs_nil hs3) hs2) hs1) hn hst) hs hw h1) fun D σ H h => by
    obtain ⟨B, ow, env, s, h⟩ := h
    refine ⟨B, ow, env, s, lp.m (fun es env1 h1 vs H1 ow1 M st1 kk1 => ?_) (fun _ _ h => h) h⟩
    obtain ⟨env2, q, h2⟩ := h1
    have hl := kk1.len
    rw [putEs_len q] at hl
    refine ⟨by rw [hl]; exact line100 (by simp), fun p hp => ?_⟩
    have gr : Grow H1 (upd H1 p (.tup vs)) := .upd hp
    obtain ⟨ow2, st2, s2, _⟩ := (kk1.grow gr).put (st1.trans (.grow gr)) q
    refine ⟨p, vs, rfl, .of upd_same, by rw [hl]; rfl, ?_⟩
    match vs, hl, s2, st2 with
    | [u, v, w], _, s2, st2 =>
      refine ⟨u, [v, w], rfl, v, [w], rfl, w, [], rfl, rfl, ?_⟩
      have e : ((σ.set i (some u)).set j (some v)).set k (some w) = ((σ.set k (some w)).set j (some v)).set i (some u) := by
        rw [List.set_comm _ _ hij, List.set_comm _ _ hik, List.set_comm _ _ hjk]
      rw [e]
      exact h2 _ _ ow2 st2 s2
end
end En
set_option Elab.async false
set_option linter.all false
set_option maxRecDepth 100000
namespace En
open PySem PySem.Spec PyProof.Rows L2
/-! ### the meanings, read -/
section
variable {env : Env'} {P : EV → Env' → Prop} {PT : Bool → Env' → Prop} {PL : List D → Env' → Prop} {PA : List AV → Env' → Prop} {PE : List EV → Env' → Prop} {PO : Option Int → Env' → Prop} {PG : Env' → Prop} {X : Exx} {Ps : Pst} {F : Nat → List Str} {f g f2 f3 : EF} {t u : TF} {l : LF} {la : LA} {le : LE} {a b : SF} {o oh : OF} {i n m : Nat} {FS : EF} {gf : GF} {gs : GFs} {d : D} {ds : List D}
@[simp] theorem varF_v (h : env[i]? = some (.val d)) : (varF i).r env P X = P (.val d) env := by show (match env[i]? with | some (.val d) => _ | some (.own _) => _ | some (.io _) => _ | _ => False) = _; rw [h]
@[simp] theorem varF_o {ob : Ob} (h : env[i]? = some (.own ob)) : (varF i).r env P X = P (.own i) env := by show (match env[i]? with | some (.val d) => _ | some (.own _) => _ | some (.io _) => _ | _ => False) = _; rw [h]
@[simp] theorem varF_i {ob : Ob} (h : env[i]? = some (.io ob)) : (varF i).r env P X = P (.own i) env := by show (match env[i]? with | some (.val d) => _ | some (.own _) => _ | some (.io _) => _ | _ => False) = _; rw [h]
@[simp] theorem kvF_v (h : env[i]? = some (.val d)) : (kvF F i).r env P X = P (.val d) env := by show (match env[i]? with | some (.val d) => _ | some (.own _) => _ | _ => False) = _; rw [h]
@[simp] theorem kvF_o {ob : Ob} (h : env[i]? = some (.own ob)) : (kvF F i).r env P X = ∃ d, ob.fr F = some d ∧ P (.val d) (env.set i (.val d)) := by show (match env[i]? with | some (.val d) => _ | some (.own _) => _ | _ => False) = _; rw [h]
@[simp] theorem litF_r : (litF d).r env P X = P (.val d) env := rfl
@[simp] theorem binF_r {op : D → D → Option D} : (binF F op f f2).r env P X = f.r env (fun e env1 => ∃ e', e.settle F = some e' ∧ f2.r env1 (fun e2 env2 => ∃ e2', e2.settle F = some e2' ∧ ∃ d d2 c, e'.rd F env2 = some d ∧ e2'.rd F env2 = some d2 ∧ op d d2 = some c ∧ P (.val c) env2) X) X := rfl
@[simp] theorem unF_r {op : D → Option D} : (unF F op f).r env P X = f.r env (fun e env1 => ∃ e', e.settle F = some e' ∧ ∃ d c, e'.rd F env1 = some d ∧ op d = some c ∧ P (.val c) env1) X := rfl
@[simp] theorem unNF_r {op : D → Option Ob} : (unNF F op f).r env P X = f.r env (fun e env1 => ∃ e', e.settle F = some e' ∧ ∃ d c, e'.rd F env1 = some d ∧ op d = some c ∧ P (.new c) env1) X := rfl
@[simp] theorem nilL_r : nilL.r env PL X = PL [] env := rfl
@[simp] theorem consL_r : (consL F f l).r env PL X = f.r env (fun e env1 => ∃ d, e.keep F = some d ∧ l.r env1 (fun ds env2 => PL (d :: ds) env2) X) X := rfl
@[simp] theorem tupF_r : (tupF l).r env P X = l.r env (fun ds env1 => ds.length ≤ 100 ∧ P (.val (.tup ds)) env1) X := rfl
@[simp] theorem lstF_r : (lstF l).r env P X = l.r env (fun ds env1 => ds.length ≤ 100 ∧ P (.new (.lst ds)) env1) X := rfl
@[simp] theorem dnewK_r : dnewK.r env P X = P (.new (.dK [] [])) env := rfl
@[simp] theorem dnewT_r : dnewT.r env P X = P (.new (.dT [] [])) env := rfl
@[simp] theorem truF_r : (truF F f).r env PT X = f.r env (fun e env1 => ∃ e', e.settle F = some e' ∧ ∃ d b, e'.rd F env1 = some d ∧ truD d = some b ∧ PT b env1) X := rfl
@[simp] theorem blF_r : (blF F f).r env PT X = f.r env (fun e env1 => ∃ b, e = .val (.bl b) ∧ PT b env1) X := rfl
@[simp] theorem notT_r : (notT t).r env PT X = t.r env (fun b env1 => PT (!b) env1) X := rfl
@[simp] theorem andT_r : (andT t u).r env PT X = t.r env (fun b env1 => if b = true then u.r env1 PT X else PT false env1) X := rfl
@[simp] theorem orT_r : (orT t u).r env PT X = t.r env (fun b env1 => if b = true then PT true env1 else u.r env1 PT X) X := rfl
@[simp] theorem andF_r : (andF f g).r env P X = f.r env (fun e env1 => ∃ b, e = .val (.bl b) ∧ if b = true then g.r env1 P X else P (.val (.bl false)) env1) X := rfl
@[simp] theorem orF_r : (orF f g).r env P X = f.r env (fun e env1 => ∃ b, e = .val (.bl b) ∧ if b = true then P (.val (.bl true)) env1 else g.r env1 P X) X := rfl
@[simp] theorem notF_r : (notF f).r env P X = f.r env (fun e env1 => ∃ b, e = .val (.bl b) ∧ P (.val (.bl (!b))) env1) X := rfl
@[simp] theorem iteF_r : (iteF' t f g).r env P X = t.r env (fun b env1 => if b = true then f.r env1 P X else g.r env1 P X) X := rfl
@[simp] theorem chainF_r {op op' : D → D → Option D} : (chainF F op op' f f2 f3).r env P X = f.r env (fun e env1 => ∃ i, e = .val (.int i) ∧ f2.r env1 (fun e2 env2 => ∃ j, e2 = .val (.int j) ∧ ∃ b, op (.int i) (.int j) = some (.bl b) ∧
    if b = true then f3.r env2 (fun e3 env3 => ∃ k, e3 = .val (.int k) ∧ ∃ c, op' (.int j) (.int k) = some (.bl c) ∧ P (.val (.bl c)) env3) X else P (.val (.bl false)) env2) X) X := rfl
@[simp] theorem noO_r : noO.r env PO X = PO none env := rfl
@[simp] theorem someO_r : (someO f).r env PO X = f.r env (fun e env1 => ∃ i, e = .val (.int i) ∧ PO (some i) env1) X := rfl
@[simp] theorem slF_r : (slF F f o oh).r env P X = f.r env (fun e env1 => ∃ e', e.settle F = some e' ∧ o.r env1 (fun i env2 => oh.r env2 (fun j env3 => ∃ d c, e'.rd F env3 = some d ∧ slD d i j = some c ∧ P (.val c) env3) X) X) X := rfl
@[simp] theorem idxF_r : (idxF F f f2).r env P X = f.r env (fun e env1 => ∃ d, e.keep F = some d ∧ f2.r env1 (fun e2 env2 => ∃ e2', e2.settle F = some e2' ∧ ∃ d2 c, e2'.rd F env2 = some d2 ∧ idxD d d2 = some c ∧ P (.val c) env2) X ∧ ((∃ xs, d = .nms xs) ∨ ∃ ds, d = .lst ds)) X := rfl
@[simp] theorem appF_r : (appF F i f).r env P X = ((∃ sl, env[i]? = some sl ∧ (∃ ds, sl.lst? = some ds)) ∧ f.r env (fun e env1 => ∃ d, e.keep F = some d ∧ ∃ sl ds, env1[i]? = some sl ∧ sl.lst? = some ds ∧ ds.length < 100000 ∧ P (.val .non) (env1.set i (sl.put (.lst (ds ++ [d]))))) X) := rfl
@[simp] theorem popF_r : (popF i).r env P X = ∃ sl ds d, env[i]? = some sl ∧ sl.lst? = some ds ∧ ds[ds.length - 1]? = some d ∧ P (.val d) (env.set i (sl.put (.lst ds.dropLast))) := rfl
@[simp] theorem skipS_r : skipS.r env Ps X = Ps.nx env := rfl
@[simp] theorem seqS_r : (seqS a b).r env Ps X = a.r env { Ps with nx := fun env1 => b.r env1 Ps X } X := rfl
@[simp] theorem brkS_r : brkS.r env Ps X = Ps.bk env := rfl
@[simp] theorem cntS_r : cntS.r env Ps X = Ps.ct env := rfl
@[simp] theorem nevS_r : nevS.r env Ps X = False := rfl
@[simp] theorem retS_r : (retS f).r env Ps X = f.r env Ps.rt X := rfl
@[simp] theorem dropS_r : (dropS f).r env Ps X = f.r env (fun _ env1 => Ps.nx env1) X := rfl
@[simp] theorem ifS_r : (ifS t a b).r env Ps X = t.r env (fun k env1 => if k = true then a.r env1 Ps X else b.r env1 Ps X) X := rfl
@[simp] theorem asgS_r : (asgS i f).r env Ps X = f.r env (fun e env1 => ∃ env2, putE i e env1 = some env2 ∧ Ps.nx env2) X := rfl
@[simp] theorem patS_r {p : Pat} : (patS F p f).r env Ps X = f.r env (fun e env1 => ∃ d, e.keep F = some d ∧ ∃ env2, p.put d env1 = some env2 ∧ Ps.nx env2) X := rfl
theorem forS_r {p : Pat} : (forS l p a).r env Ps X = l.r env (fun ds env1 => forL p a Ps X ds env1) X := rfl
theorem whileS_r : (whileS t a).r env Ps X = ∃ n, whileN t a Ps X n env := rfl
@[simp] theorem seqI_r : (seqI F f).r env PL X = f.r env (fun e env1 => ∃ d, e.keep F = some d ∧ ∃ ds, iterL? d = some ds ∧ PL ds env1) X := rfl
@[simp] theorem enumI_r : (enumI F f).r env PL X = f.r env (fun e env1 => ∃ d, e.keep F = some d ∧ ∃ ds, tupL? d = some ds ∧ PL (enumD ds) env1) X := rfl
@[simp] theorem rngI_r : (rngI f).r env PL X = f.r env (fun e env1 => ∃ n, e = .val (.int n) ∧ (-1000000 ≤ n ∧ n ≤ 1000000) ∧ PL (intsD 0 n.toNat) env1) X := rfl
theorem lcF_r {it : LF} {p : Pat} {vs : List Nat} : (lcF F it p t f vs).r env P X = it.r env (fun ds env1 => okW env1 vs = true ∧ compL F p t f vs (fun acc envW => P (.new (.lst acc)) (restE envW env1 vs)) ds [] (wipeE env1 vs)) X := rfl
@[simp] theorem yesT_r : yesT.r env PT X = PT true env := rfl
@[simp] theorem nilP_r : nilP.r env PE X = PE [] env := rfl
@[simp] theorem consP_r : (consP f le).r env PE X = f.r env (fun e env1 => e.isOwn = false ∧ le.r env1 (fun es env2 => PE (e :: es) env2) X) X := rfl
@[simp] theorem parS_r {is : List Nat} : (parS is le).r env Ps X = le.r env (fun es env1 => ∃ env2, putEs is es env1 = some env2 ∧ Ps.nx env2) X := rfl
@[simp] theorem tgtS_r : (tgtS F gf f).r env Ps X = f.r env (fun e env1 => ∃ d, e.keep F = some d ∧ gf.r d env1 Ps.nx X) X := rfl
@[simp] theorem subG_r : (subG F i f).r d env PG X = ((∃ sl o, env[i]? = some sl ∧ sl.ob = some o) ∧ f.r env (fun e env1 => ∃ e', e.settle F = some e' ∧ ∃ k, e'.rd F env1 = some k ∧ ∃ sl o o', env1[i]? = some sl ∧ sl.ob = some o ∧ putOb o k d = some o' ∧ PG (env1.set i (sl.put o'))) X) := rfl
@[simp] theorem tupG_r : (tupG n gs).r d env PG X = ∃ ds, d = .tup ds ∧ ds.length = n ∧ gs.r ds env PG X := rfl
@[simp] theorem nilG_r : nilG.r ds env PG X = (ds = [] ∧ PG env) := rfl
@[simp] theorem consG_r : (consG gf gs).r ds env PG X = ∃ d r, ds = d :: r ∧ gf.r d env (fun env1 => gs.r r env1 PG X) X := rfl
@[simp] theorem dispF_r {fs : List (EF × EF)} : (dispF F fs).r env P X = dispR F fs (fun ps env1 => ∃ ks, keysD? (ps.map (·.1)) = some ks ∧ ks.Nodup ∧ ks.length ≤ 15 ∧ P (.new (.dK ks (ps.map (·.2)))) env1) X env := rfl
@[simp] theorem nilA_r : nilA.r env PA X = PA [] env := rfl
@[simp] theorem consA_r : (consA F f la).r env PA X = f.r env (fun e env1 => ∃ a, e.av F = some a ∧ la.r env1 (fun as env2 => PA (a :: as) env2) X) X := rfl
@[simp] theorem callF_r : (callF FS n la).r env P X = la.r env (fun as env1 => as.length = n ∧ (refs as).Nodup ∧ runF FS (as.map (slotOf env1)) (fun e outs => e.isOwn = false ∧ ∃ env2, backE as outs env1 = some env2 ∧ P e env2) X) X := rfl
@[simp] theorem mkF_r {c : Nat} : (mkF c FS n la).r env P X = la.r env (fun as env1 => as.length + 1 = n ∧ (refs as).Nodup ∧ runF FS (.io (.ins c []) :: as.map (slotOf env1)) (fun e outs => e = .val .non ∧ ∃ o os, outs = .io o :: os ∧ ∃ env2, backE as os env1 = some env2 ∧ P (.new o) env2) X) X := rfl
@[simp] theorem setF_r {ics : List Nat} {nm : Str} : (setF F ics i nm f).r env Ps X = f.r env (fun e env1 => ∃ d, e.keep F = some d ∧ ∃ sl c fs, env1[i]? = some sl ∧ sl.ob = some (.ins c fs) ∧ c ∈ ics ∧ nm ∈ F c ∧ fs.length < 1000 ∧ Ps.nx (env1.set i (sl.put (.ins c (putFs nm d fs))))) X := rfl
@[simp] theorem cmpF_r {ics : List Nat} {c : Nat} : (cmpF F ics c FS f f2).r env P X = f.r env (fun e env1 => ∃ d1, e.keep F = some d1 ∧ (∃ ds, d1 = .ins c ds) ∧ f2.r env1 (fun e2 env2 => ∃ d2, e2.keep F = some d2 ∧ (tqD ics d2).isSome = true ∧ runF FS [.val d1, .val d2] (fun e3 _ => ∃ b, e3 = .val (.bl b) ∧ P (.val (.bl b)) env2) X) X) X := rfl
theorem bodyF_r : (bodyF m n a).r env P X = a.r (env ++ List.replicate (m - n) .un) ⟨fun env => P (.val .non) env, fun e env => ∃ e', retE env e = some e' ∧ P e' env, fun _ => False, fun _ => False⟩ X0 := rfl
end
/-! values of the small functions on closed shapes -/
section
variable {F : Nat → List Str} {env : Env'} {d : D} {o : Ob} {i : Nat}
@[simp] theorem settle_v : (EV.val d).settle F = some (.val d) := rfl
@[simp] theorem settle_o : (EV.own i).settle F = some (.own i) := rfl
@[simp] theorem settle_n : (EV.new o).settle F = (o.fr F).map .val := rfl
@[simp] theorem rd_v : (EV.val d).rd F env = some d := rfl
@[simp] theorem rd_o : (EV.own i).rd F env = (env[i]?).bind fun s => s.ob.bind fun o => o.fr F := rfl
@[simp] theorem keep_v : (EV.val d).keep F = some d := rfl
@[simp] theorem keep_o : (EV.own i).keep F = none := rfl
@[simp] theorem keep_n : (EV.new o).keep F = o.fr F := rfl
@[simp] theorem av_v : (EV.val d).av F = some (.val d) := rfl
@[simp] theorem av_o : (EV.own i).av F = some (.ref i) := rfl
@[simp] theorem av_n : (EV.new o).av F = (o.fr F).map .val := rfl
@[simp] theorem fr_l {ds : List D} : (Ob.lst ds).fr F = some (.lst ds) := rfl
@[simp] theorem fr_k {ks : List Key} {ds : List D} : (Ob.dK ks ds).fr F = some (.dK ks ds) := rfl
@[simp] theorem fr_t {ks : List (List Key)} {ds : List D} : (Ob.dT ks ds).fr F = some (.dT ks ds) := rfl
@[simp] theorem fr_i {c : Nat} {fs : List (Str × D)} : (Ob.ins c fs).fr F = if fs.map (·.1) = F c then some (.ins c (fs.map (·.2))) else none := rfl
@[simp] theorem ob_own : (Slot.own o).ob = some o := rfl
@[simp] theorem ob_io : (Slot.io o).ob = some o := rfl
@[simp] theorem put_own {o' : Ob} : (Slot.own o).put o' = .own o' := rfl
@[simp] theorem put_io {o' : Ob} : (Slot.io o).put o' = .io o' := rfl
@[simp] theorem lst_own {ds : List D} : (Slot.own (.lst ds)).lst? = some ds := rfl
@[simp] theorem lst_io {ds : List D} : (Slot.io (.lst ds)).lst? = some ds := rfl
@[simp] theorem isOwn_v : (EV.val d).isOwn = false := rfl
@[simp] theorem isOwn_n : (EV.new o).isOwn = false := rfl
@[simp] theorem slotOf_v : slotOf env (.val d) = .val d := rfl
@[simp] theorem slotOf_r : slotOf env (.ref i) = match (env[i]?).bind Slot.ob with | some o => .io o | none => .un := rfl
@[simp] theorem refs_n : refs [] = [] := rfl
@[simp] theorem refs_v {r : List AV} : refs (.val d :: r) = refs r := rfl
@[simp] theorem refs_r {r : List AV} : refs (.ref i :: r) = i :: refs r := rfl
@[simp] theorem backE_n {os : List Slot} : backE [] os env = some env := rfl
@[simp] theorem backE_v {r : List AV} {os : List Slot} : backE (.val d :: r) os env = backE r os.tail env := rfl
@[simp] theorem backE_r {r : List AV} {os : List Slot} : backE (.ref i :: r) (.io o :: os) env = match env[i]? with | some sl => backE r os (env.set i (sl.put o)) | none => none := rfl
@[simp] theorem retE_v : retE env (.val d) = some (.val d) := rfl
@[simp] theorem retE_n : retE env (.new o) = some (.new o) := rfl
@[simp] theorem retE_o : retE env (.own i) = match env[i]? with | some (.own o) => some (.new o) | _ => none := rfl
@[simp] theorem putE_r {e : EV} : putE i e env = match env[i]? with
  | none => none
  | some sl => if sl.isIo then none else match e with
    | .val d => some (env.set i (.val d))
    | .new o => some (env.set i (.own o))
    | .own _ => none := rfl
@[simp] theorem isIo_u : Slot.un.isIo = false := rfl
@[simp] theorem isIo_v : (Slot.val d).isIo = false := rfl
@[simp] theorem isIo_o : (Slot.own o).isIo = false := rfl
@[simp] theorem isIo_i : (Slot.io o).isIo = true := rfl
@[simp] theorem putEs_n : putEs [] [] env = some env := rfl
@[simp] theorem putEs_c {is : List Nat} {e : EV} {es : List EV} : putEs (i :: is) (e :: es) env = (putEs is es env).bind (putE i e) := rfl
@[simp] theorem pput_nm : (Pat.nm i).put d env = putE i (.val d) env := by simp [Pat.put]
@[simp] theorem pput_tp {ps : List Pat} {ds : List D} : (Pat.tp ps).put (.tup ds) env = Pat.putL ps ds env := by simp [Pat.put, tupL?]
@[simp] theorem pput_tl {ps : List Pat} {ds : List D} : (Pat.tp ps).put (.lst ds) env = Pat.putL ps ds env := by simp [Pat.put, tupL?]
@[simp] theorem pputL_n : Pat.putL [] [] env = some env := by simp [Pat.putL]
@[simp] theorem pputL_c {p : Pat} {ps : List Pat} {ds : List D} : Pat.putL (p :: ps) (d :: ds) env = (p.put d env).bind fun env1 => Pat.putL ps ds env1 := by simp [Pat.putL]
@[simp] theorem tupL_t {ds : List D} : tupL? (.tup ds) = some ds := rfl
@[simp] theorem tupL_l {ds : List D} : tupL? (.lst ds) = some ds := rfl
@[simp] theorem tupL_n {xs : List Str} : tupL? (.nms xs) = some (xs.map .str) := rfl
@[simp] theorem wipeE_n : wipeE env [] = env := rfl
@[simp] theorem wipeE_c {vs : List Nat} : wipeE env (i :: vs) = (wipeE env vs).set i .un := rfl
@[simp] theorem restE_n {env1 : Env'} : restE env env1 [] = env := rfl
@[simp] theorem restE_c {env1 : Env'} {vs : List Nat} : restE env env1 (i :: vs) = match env1[i]? with | some s => (restE env env1 vs).set i s | none => restE env env1 vs := rfl
@[simp] theorem okW_n : okW env [] = true := rfl
@[simp] theorem okW_c {vs : List Nat} : okW env (i :: vs) = ((match env[i]? with | some s => s.plain | none => true) && okW env vs) := rfl
@[simp] theorem plain_u : Slot.un.plain = true := rfl
@[simp] theorem plain_v : (Slot.val d).plain = true := rfl
end
/-! ### loops, by an invariant -/
theorem forL_inv {p : Pat} {body : SF} {P : Pst} {X : Exx} (ds : List D) {env : Env'} (I : Nat → Env' → Prop) (h0 : I 0 env)
    (step : ∀ k d env, ds[k]? = some d → I k env → ∃ env1, p.put d env = some env1 ∧ body.r env1 { P with nx := I (k + 1), ct := I (k + 1), bk := P.nx } X) (hend : ∀ env, I ds.length env → P.nx env) : forL p body P X ds env := by
  have key : ∀ (n k : Nat) env, ds.length = k + n → I k env → forL p body P X (ds.drop k) env := by
    intro n
    induction n with
    | zero =>
      intro k env h hi
      have hk : k = ds.length := by omega
      subst hk
      rw [List.drop_length]
      exact hend env hi
    | succ n ih =>
      intro k env h hi
      have hlt : k < ds.length := by omega
      rw [List.drop_eq_getElem_cons hlt]
      obtain ⟨env1, h1, h2⟩ := step k ds[k] env (List.getElem?_eq_getElem hlt) hi
      refine ⟨env1, h1, body.m (P := { P with nx := I (k + 1), ct := I (k + 1), bk := P.nx }) ⟨fun e h => ih (k + 1) e (by omega) h, fun _ _ h => h, fun _ h => h, fun e h => ih (k + 1) e (by omega) h⟩ (fun _ _ h => h) h2⟩
  exact key ds.length 0 env (by omega) h0
theorem compL_inv {F : Nat → List Str} {p : Pat} {t : TF} {f : EF} {vs : List Nat} {P : List D → Env' → Prop} (ds : List D) {env : Env'} (I : Nat → List D → Env' → Prop) (h0 : I 0 [] env)
    (step : ∀ k d acc env, ds[k]? = some d → I k acc env → ∃ env2, p.put d env = some env2 ∧ t.r env2 (fun b env3 => if b = true then f.r env3 (fun e env4 => ∃ d', e.keep F = some d' ∧ acc.length < 100000 ∧ okW env4 vs = true ∧ I (k + 1) (acc ++ [d']) (wipeE env4 vs)) X0
      else okW env3 vs = true ∧ I (k + 1) acc (wipeE env3 vs)) X0) (hend : ∀ acc env, I ds.length acc env → P acc env) : compL F p t f vs P ds [] env := by
  have key : ∀ (n k : Nat) acc env, ds.length = k + n → I k acc env → compL F p t f vs P (ds.drop k) acc env := by
    intro n
    induction n with
    | zero =>
      intro k acc env h hi
      have hk : k = ds.length := by omega
      subst hk
      rw [List.drop_length]
      exact hend acc env hi
    | succ n ih =>
      intro k acc env h hi
      have hlt : k < ds.length := by omega
      rw [List.drop_eq_getElem_cons hlt]
      obtain ⟨env2, h1, h2⟩ := step k ds[k] acc env (List.getElem?_eq_getElem hlt) hi
      refine ⟨env2, h1, t.m (fun b env3 h => ?_) (fun _ _ h => h) h2⟩
      split at h
      · rename_i hb
        rw [if_pos hb]
        exact f.m (fun e env4 ⟨d', q1, q2, q3, q4⟩ => ⟨d', q1, q2, q3, ih (k + 1) _ _ (by omega) q4⟩) (fun _ _ h => h) h
      · rename_i hb
        rw [if_neg hb]
        exact ⟨h.1, ih (k + 1) _ _ (by omega) h.2⟩
  exact key ds.length 0 [] env (by omega) h0
theorem while_inv {t : TF} {body : SF} {P : Pst} {X : Exx} {env : Env'} (I : Nat → Env' → Prop) (n : Nat) (h0 : I n env)
    (step : ∀ k env, I k env → t.r env (fun b env1 => if b = true then body.r env1 { P with nx := fun e => ∃ j, j < k ∧ I j e, ct := fun e => ∃ j, j < k ∧ I j e, bk := P.nx } X else P.nx env1) X) : ∃ n, whileN t body P X n env := by
  refine ⟨n + 1, ?_⟩
  have key : ∀ (m k : Nat) env, k < m → I k env → whileN t body P X m env := by
    intro m
    induction m with
    | zero => intro k env h; omega
    | succ m ih =>
      intro k env h hi
      refine t.m (fun b env1 h1 => ?_) (fun _ _ h => h) (step k env hi)
      split at h1
      · rename_i hb
        rw [if_pos hb]
        have go : ∀ e, (∃ j, j < k ∧ I j e) → whileN t body P X m e := fun e ⟨j, hj, hi⟩ => ih j e (by omega) hi
        exact body.m (P := { P with nx := fun e => ∃ j, j < k ∧ I j e, ct := fun e => ∃ j, j < k ∧ I j e, bk := P.nx }) ⟨go, fun _ _ h => h, fun _ h => h, go⟩ (fun _ _ h => h) h1
      · rename_i hb
        rw [if_neg hb]
        exact h1
  exact key (n + 1) n env (Nat.lt_succ_self n) h0
end En
set_option Elab.async false
set_option linter.all false
set_option maxRecDepth 100000
namespace En
open PySem PySem.Spec PyProof.Rows L2
/-! ### what a plain expression is worth -/
def Ev (f : EF) (env : Env') (e : EV) (env' : Env') : Prop := ∀ P X, P e env' → f.r env P X
def EvT (f : TF) (env : Env') (e : Bool) (env' : Env') : Prop := ∀ P X, P e env' → f.r env P X
def EvL (f : LF) (env : Env') (e : List D) (env' : Env') : Prop := ∀ P X, P e env' → f.r env P X
def EvA (f : LA) (env : Env') (e : List AV) (env' : Env') : Prop := ∀ P X, P e env' → f.r env P X
def EvP (f : LE) (env : Env') (e : List EV) (env' : Env') : Prop := ∀ P X, P e env' → f.r env P X
def EvO (f : OF) (env : Env') (e : Option Int) (env' : Env') : Prop := ∀ P X, P e env' → f.r env P X
section
variable {F : Nat → List Str} {f f2 f3 g : EF} {t u : TF} {l : LF} {la : LA} {le : LE} {o oh : OF} {env env1 env2 env3 : Env'} {e e1 e1' e2 e2' : EV} {d d2 d3 c c' : D} {ds : List D} {b b2 : Bool} {i j k : Nat} {ob : Ob} {a : AV} {as : List AV} {es : List EV} {lo hi : Option Int} {P : EV → Env' → Prop} {X : Exx}
theorem ev_lit : Ev (litF d) env (.val d) env := fun _ _ h => h
theorem ev_var (h : env[i]? = some (.val d)) : Ev (varF i) env (.val d) env := fun P X k => by rw [varF_v h]; exact k
theorem ev_varo (h : env[i]? = some (.own ob)) : Ev (varF i) env (.own i) env := fun P X k => by rw [varF_o h]; exact k
theorem ev_vari (h : env[i]? = some (.io ob)) : Ev (varF i) env (.own i) env := fun P X k => by rw [varF_i h]; exact k
theorem ev_kv (h : env[i]? = some (.val d)) : Ev (kvF F i) env (.val d) env := fun P X k => by rw [kvF_v h]; exact k
theorem ev_kvo (h : env[i]? = some (.own ob)) (h2 : ob.fr F = some d) : Ev (kvF F i) env (.val d) (env.set i (.val d)) := fun P X k => by rw [kvF_o h]; exact ⟨d, h2, k⟩
theorem ev_bin {op : D → D → Option D} (h1 : Ev f env e1 env1) (s1 : e1.settle F = some e1') (h2 : Ev f2 env1 e2 env2) (s2 : e2.settle F = some e2') (r1 : e1'.rd F env2 = some d) (r2 : e2'.rd F env2 = some d2) (ho : op d d2 = some c) : Ev (binF F op f f2) env (.val c) env2 :=
  fun P X k => h1 _ _ ⟨e1', s1, h2 _ _ ⟨e2', s2, d, d2, c, r1, r2, ho, k⟩⟩
theorem ev_un {op : D → Option D} (h1 : Ev f env e1 env1) (s1 : e1.settle F = some e1') (r1 : e1'.rd F env1 = some d) (ho : op d = some c) : Ev (unF F op f) env (.val c) env1 :=
  fun P X k => h1 _ _ ⟨e1', s1, d, c, r1, ho, k⟩
theorem ev_unN {op : D → Option Ob} (h1 : Ev f env e1 env1) (s1 : e1.settle F = some e1') (r1 : e1'.rd F env1 = some d) (ho : op d = some ob) : Ev (unNF F op f) env (.new ob) env1 :=
  fun P X k => h1 _ _ ⟨e1', s1, d, ob, r1, ho, k⟩
theorem evl_nil : EvL nilL env [] env := fun _ _ h => h
theorem evl_cons (h1 : Ev f env e1 env1) (k1 : e1.keep F = some d) (h2 : EvL l env1 ds env2) : EvL (consL F f l) env (d :: ds) env2 := fun P X k => h1 _ _ ⟨d, k1, h2 _ _ k⟩
theorem ev_tup (h : EvL l env ds env1) (hz : ds.length ≤ 100) : Ev (tupF l) env (.val (.tup ds)) env1 := fun P X k => h _ _ ⟨hz, k⟩
theorem ev_lst (h : EvL l env ds env1) (hz : ds.length ≤ 100) : Ev (lstF l) env (.new (.lst ds)) env1 := fun P X k => h _ _ ⟨hz, k⟩
theorem ev_dK : Ev dnewK env (.new (.dK [] [])) env := fun _ _ h => h
theorem evt_tru (h1 : Ev f env e1 env1) (s1 : e1.settle F = some e1') (r1 : e1'.rd F env1 = some d) (ho : truD d = some b) : EvT (truF F f) env b env1 := fun P X k => h1 _ _ ⟨e1', s1, d, b, r1, ho, k⟩
theorem evt_bl (h1 : Ev f env (.val (.bl b)) env1) : EvT (blF F f) env b env1 := fun P X k => h1 _ _ ⟨b, rfl, k⟩
theorem evt_not (h : EvT t env b env1) : EvT (notT t) env (!b) env1 := fun P X k => h _ _ k
theorem evt_and (h : EvT t env b env) (h2 : b = true → EvT u env b2 env) : EvT (andT t u) env (b && b2) env := fun P X k => h _ _ (by
  cases b with
  | true => exact (if_pos rfl : (if true = true then u.r env P X else P false env) = _) ▸ h2 rfl _ _ k
  | false => exact k)
theorem evt_or (h : EvT t env b env) (h2 : b = false → EvT u env b2 env) : EvT (orT t u) env (b || b2) env := fun P X k => h _ _ (by
  cases b with
  | true => exact k
  | false => exact h2 rfl _ _ k)
theorem ev_and (h : Ev f env (.val (.bl b)) env) (h2 : b = true → Ev g env (.val (.bl b2)) env) : Ev (andF f g) env (.val (.bl (b && b2))) env := fun P X k => h _ _ ⟨b, rfl, by
  cases b with
  | true => exact h2 rfl _ _ k
  | false => exact k⟩
theorem ev_or (h : Ev f env (.val (.bl b)) env) (h2 : b = false → Ev g env (.val (.bl b2)) env) : Ev (orF f g) env (.val (.bl (b || b2))) env := fun P X k => h _ _ ⟨b, rfl, by
  cases b with
  | true => exact k
  | false => exact h2 rfl _ _ k⟩
theorem ev_not (h : Ev f env (.val (.bl b)) env1) : Ev (notF f) env (.val (.bl (!b))) env1 := fun P X k => h _ _ ⟨b, rfl, k⟩
theorem ev_chain {op op' : D → D → Option D} {x y z : Int} (h1 : Ev f env (.val (.int x)) env1) (h2 : Ev f2 env1 (.val (.int y)) env2) (o1 : op (.int x) (.int y) = some (.bl b)) (h3 : Ev f3 env2 (.val (.int z)) env2) (o2 : op' (.int y) (.int z) = some (.bl b2)) : Ev (chainF F op op' f f2 f3) env (.val (.bl (b && b2))) env2 :=
  fun P X k => h1 _ _ ⟨x, rfl, h2 _ _ ⟨y, rfl, b, o1, by
    cases b with
    | true => exact h3 _ _ ⟨z, rfl, b2, o2, k⟩
    | false => exact k⟩⟩
theorem evo_no : EvO noO env none env := fun _ _ h => h
theorem evo_some {x : Int} (h : Ev f env (.val (.int x)) env1) : EvO (someO f) env (some x) env1 := fun P X k => h _ _ ⟨x, rfl, k⟩
theorem ev_sl (h1 : Ev f env e1 env1) (s1 : e1.settle F = some e1') (h2 : EvO o env1 lo env2) (h3 : EvO oh env2 hi env3) (r1 : e1'.rd F env3 = some d) (ho : slD d lo hi = some c) : Ev (slF F f o oh) env (.val c) env3 :=
  fun P X k => h1 _ _ ⟨e1', s1, h2 _ _ (h3 _ _ ⟨d, c, r1, ho, k⟩)⟩
theorem ev_idx (h1 : Ev f env e1 env1) (k1 : e1.keep F = some d) (h2 : Ev f2 env1 e2 env2) (s2 : e2.settle F = some e2') (r2 : e2'.rd F env2 = some d2) (ho : idxD d d2 = some c) (hz : (∃ xs, d = .nms xs) ∨ ∃ ds, d = .lst ds) : Ev (idxF F f f2) env (.val c) env2 :=
  fun P X k => h1 _ _ ⟨d, k1, h2 _ _ ⟨e2', s2, d2, c, r2, ho, k⟩, hz⟩
theorem eva_nil : EvA nilA env [] env := fun _ _ h => h
theorem eva_cons (h1 : Ev f env e1 env1) (k1 : e1.av F = some a) (h2 : EvA la env1 as env2) : EvA (consA F f la) env (a :: as) env2 := fun P X k => h1 _ _ ⟨a, k1, h2 _ _ k⟩
theorem evp_nil : EvP nilP env [] env := fun _ _ h => h
theorem evp_cons (h1 : Ev f env e1 env1) (k1 : e1.isOwn = false) (h2 : EvP le env1 es env2) : EvP (consP f le) env (e1 :: es) env2 := fun P X k => h1 _ _ ⟨k1, h2 _ _ k⟩
theorem eva_seq (h1 : Ev f env e1 env1) (k1 : e1.keep F = some d) (ht : iterL? d = some ds) : EvL (seqI F f) env ds env1 := fun P X k => h1 _ _ ⟨d, k1, ds, ht, k⟩
theorem evl_enum (h1 : Ev f env e1 env1) (k1 : e1.keep F = some d) (ht : tupL? d = some ds) : EvL (enumI F f) env (enumD ds) env1 := fun P X k => h1 _ _ ⟨d, k1, ds, ht, k⟩
theorem evl_rng {n : Int} (h1 : Ev f env (.val (.int n)) env1) (hz : -1000000 ≤ n ∧ n ≤ 1000000) : EvL (rngI f) env (intsD 0 n.toNat) env1 := fun P X k => h1 _ _ ⟨n, rfl, hz, k⟩
/-! .. in its place -/
theorem call_i {FS : EF} {n : Nat} (h : EvA la env as env1) (hn : as.length = n) (hd : (refs as).Nodup) (k : runF FS (as.map (slotOf env1)) (fun e outs => e.isOwn = false ∧ ∃ env2, backE as outs env1 = some env2 ∧ P e env2) X) : (callF FS n la).r env P X := h _ _ ⟨hn, hd, k⟩
theorem mk_i {FS : EF} {n c : Nat} (h : EvA la env as env1) (hn : as.length + 1 = n) (hd : (refs as).Nodup) (k : runF FS (.io (.ins c []) :: as.map (slotOf env1)) (fun e outs => e = .val .non ∧ ∃ o os, outs = .io o :: os ∧ ∃ env2, backE as os env1 = some env2 ∧ P (.new o) env2) X) : (mkF c FS n la).r env P X := h _ _ ⟨hn, hd, k⟩
theorem backE_vals : ∀ {as : List AV} {outs env : List Slot}, refs as = [] → backE as outs env = some env
  | [], _, _, _ => rfl
  | .val d :: as, outs, env, h => backE_vals (as := as) (outs := outs.tail) h
  | .ref j :: as, _, _, h => by cases h
/-- a call whose result is told -/
theorem ev_call {FS : EF} {n : Nat} {e : EV} (h : EvA la env as env1) (hn : as.length = n) (hd : (refs as).Nodup) (hr : refs as = []) (ho : e.isOwn = false) (k : ∀ P X, (∀ outs, P e outs) → runF FS (as.map (slotOf env1)) P X) : Ev (callF FS n la) env e env1 := fun P X kk => call_i h hn hd (k _ _ fun outs => ⟨ho, env1, backE_vals hr, kk⟩)
variable {Ps : Pst} {sa sb : SF}
theorem seq_i (h : sa.r env { Ps with nx := fun env1 => sb.r env1 Ps X } X) : (seqS sa sb).r env Ps X := h
theorem asg_i (h : Ev f env e env1) (hp : putE i e env1 = some env2) (k : Ps.nx env2) : (asgS i f).r env Ps X := h _ _ ⟨env2, hp, k⟩
theorem asg_c (h : f.r env (fun e env1 => ∃ env2, putE i e env1 = some env2 ∧ Ps.nx env2) X) : (asgS i f).r env Ps X := h
theorem pat_i {p : Pat} (h : Ev f env e env1) (hk : e.keep F = some d) (hp : p.put d env1 = some env2) (k : Ps.nx env2) : (patS F p f).r env Ps X := h _ _ ⟨d, hk, env2, hp, k⟩
theorem ret_i (h : Ev f env e env1) (k : Ps.rt e env1) : (retS f).r env Ps X := h _ _ k
theorem drop_i (h : Ev f env e env1) (k : Ps.nx env1) : (dropS f).r env Ps X := h _ _ k
theorem if_i (h : EvT t env b env1) (k1 : b = true → sa.r env1 Ps X) (k2 : b = false → sb.r env1 Ps X) : (ifS t sa sb).r env Ps X := h _ _ (by
  cases b with
  | true => exact (if_pos rfl : (if true = true then sa.r env1 Ps X else sb.r env1 Ps X) = _) ▸ k1 rfl
  | false => exact k2 rfl)
theorem par_i {is : List Nat} (h : EvP le env es env1) (hp : putEs is es env1 = some env2) (k : Ps.nx env2) : (parS is le).r env Ps X := h _ _ ⟨env2, hp, k⟩
theorem app_i (h0 : ∃ sl, env[i]? = some sl ∧ ∃ ds, sl.lst? = some ds) (h : Ev f env e env1) (hk : e.keep F = some d) {sl : Slot} (h1 : env1[i]? = some sl) (h2 : sl.lst? = some ds) (hz : ds.length < 100000) : Ev (appF F i f) env (.val .non) (env1.set i (sl.put (.lst (ds ++ [d])))) := fun P X k => ⟨h0, h _ _ ⟨d, hk, sl, ds, h1, h2, hz, k⟩⟩
theorem tgt_i {gf : GF} (h : Ev f env e env1) (hk : e.keep F = some d) (k : gf.r d env1 Ps.nx X) : (tgtS F gf f).r env Ps X := h _ _ ⟨d, hk, k⟩
theorem sub_i {Q : Env' → Prop} {sl : Slot} {ob ob' ob2 : Ob} {kd : D} (h0 : env[i]? = some sl) (h0' : sl.ob = some ob) (h : Ev f env e env1) (hs : e.settle F = some e1') (hr : e1'.rd F env1 = some kd) {sl1 : Slot} (h1 : env1[i]? = some sl1) (h2 : sl1.ob = some ob') (hp : putOb ob' kd d = some ob2) (k : Q (env1.set i (sl1.put ob2))) : (subG F i f).r d env Q X :=
  ⟨⟨sl, ob, h0, h0'⟩, h _ _ ⟨e1', hs, kd, hr, sl1, ob', ob2, h1, h2, hp, k⟩⟩
theorem set_i {ics : List Nat} {nm : Str} {cn : Nat} {fs : List (Str × D)} {sl : Slot} (h : Ev f env e env1) (hk : e.keep F = some d) (h1 : env1[i]? = some sl) (h2 : sl.ob = some (.ins cn fs)) (h3 : cn ∈ ics) (h4 : nm ∈ F cn) (h5 : fs.length < 1000) (k : Ps.nx (env1.set i (sl.put (.ins cn (putFs nm d fs))))) : (setF F ics i nm f).r env Ps X := h _ _ ⟨d, hk, sl, cn, fs, h1, h2, h3, h4, h5, k⟩
theorem for_i {p : Pat} (h : EvL l env ds env1) (k : forL p sa Ps X ds env1) : (forS l p sa).r env Ps X := h _ _ k
theorem body_i {m n : Nat} {as : List Slot} (h : sa.r (as ++ List.replicate (m - n) .un) ⟨fun env => P (.val .non) env, fun e env => ∃ e', retE env e = some e' ∧ P e' env, fun _ => False, fun _ => False⟩ X0) : runF (bodyF m n sa) as P X := h
theorem lc_i {it : LF} {p : Pat} {vs : List Nat} (h : EvL it env ds env1) (ho : okW env1 vs = true) (k : compL F p t f vs (fun acc envW => P (.new (.lst acc)) (restE envW env1 vs)) ds [] (wipeE env1 vs)) : (lcF F it p t f vs).r env P X := h _ _ ⟨ho, k⟩
end
/-- a comprehension whose every turn is plain -/
def lcD (g : D → Option D) (q : D → Option Bool) : List D → Option (List D)
  | [] => some []
  | d :: ds => match q d with
    | some true => match g d, lcD g q ds with
      | some x, some r => some (x :: r)
      | _, _ => none
    | some false => lcD g q ds
    | none => none
theorem lc_plain {F : Nat → List Str} {p : Pat} {t : TF} {f : EF} {vs : List Nat} {env : Env'} {P : List D → Env' → Prop} (g : D → Option D) (q : D → Option Bool)
    (hp : ∀ d, (q d).isSome = true → ∃ env2, p.put d env = some env2 ∧ (∀ b, q d = some b → EvT t env2 b env2) ∧ (q d = some true → ∀ x, g d = some x → ∃ e, Ev f env2 e env2 ∧ e.keep F = some x) ∧ okW env2 vs = true ∧ wipeE env2 vs = env) :
    ∀ (ds acc : List D) {r : List D}, lcD g q ds = some r → acc.length + ds.length < 100000 → P (acc ++ r) env → compL F p t f vs P ds acc env
  | [], acc, r, h, hz, k => by cases h; rw [List.append_nil] at k; exact k
  | d :: ds, acc, r, h, hz, k => by
    unfold lcD at h
    split at h
    · rename_i hq
      obtain ⟨env2, h1, h2, h3, h4, h5⟩ := hp d (by rw [hq]; rfl)
      split at h
      · rename_i x r' hg hr
        cases h
        obtain ⟨e, e1, e2⟩ := h3 hq x hg
        refine ⟨env2, h1, h2 true hq _ _ ?_⟩
        rw [if_pos rfl]
        refine e1 _ _ ⟨x, e2, by simp at hz; omega, h4, ?_⟩
        rw [h5]
        exact lc_plain g q hp ds (acc ++ [x]) hr (by simp at hz ⊢; omega) (by rw [List.append_assoc]; exact k)
      · cases h
    · rename_i hq
      obtain ⟨env2, h1, h2, h3, h4, h5⟩ := hp d (by rw [hq]; rfl)
      refine ⟨env2, h1, h2 false hq _ _ ?_⟩
      rw [if_neg Bool.false_ne_true]
      refine ⟨h4, ?_⟩
      rw [h5]
      exact lc_plain g q hp ds acc h (by simp at hz; omega) k
    · cases h
section
theorem mul_l {i j : Int} (h1 : -18446744073709551616 < i) (h2 : i < 18446744073709551616) : mulD (.int i) (.int j) = some (.int (i * j)) := by
  have : cmul i j = true := by
    unfold cmul
    simp only [Bool.or_eq_true, Bool.and_eq_true, decide_eq_true_eq]
    exact .inl ⟨h1, h2⟩
  show (if cmul i j then some (D.int (i * j)) else none) = _
  rw [this]; rfl
theorem mul_r {i j : Int} (h1 : -18446744073709551616 < j) (h2 : j < 18446744073709551616) : mulD (.int i) (.int j) = some (.int (i * j)) := by
  have : cmul i j = true := by
    unfold cmul
    simp only [Bool.or_eq_true, Bool.and_eq_true, decide_eq_true_eq]
    exact .inr ⟨h1, h2⟩
  show (if cmul i j then some (D.int (i * j)) else none) = _
  rw [this]; rfl
theorem mod_ok {i j : Int} (h : 0 < j) : modD (.int i) (.int j) = some (.int (i % j)) := by
  show (if decide (0 < j) then some (D.int (i % j)) else none) = _
  rw [decide_eq_true h]; rfl
theorem div_ok {i j : Int} (h : 0 < j) (h2 : j < 1073741824) : divD (.int i) (.int j) = some (.int (i / j)) := by
  show (if (decide (0 < j) && decide (j < 1073741824)) then some (D.int (i / j)) else none) = _
  rw [decide_eq_true h, decide_eq_true h2]; rfl
theorem eqB_int (i j : Int) : eqB (.int i) (.int j) = decide (i = j) := by simp [eqB, D.py, PyData.eqv, Bool.beq_eq_decide_eq]
theorem ix_l {ds : List D} {j : Nat} {d : D} (h : ds[j]? = some d) : ixD (.lst ds) (.int (j : Int)) = some d := by
  have hj := (List.getElem?_eq_some_iff.mp h).1
  show atI ds (j : Int) = _
  unfold atI
  rw [show ixN ds.length (j : Int) = some j from by unfold ixN; simp; omega]; exact h
theorem ix_t {ds : List D} {j : Nat} {d : D} (h : ds[j]? = some d) : ixD (.tup ds) (.int (j : Int)) = some d := ix_l h
end
end En
namespace En
open PySem PySem.Spec PyProof.Rows L2
theorem seq_cut {sa sb : SF} {env : Env'} {Ps : Pst} {X : Exx} (Q : Env' → Prop) (h : sa.r env { Ps with nx := Q } X) (k : ∀ env1, Q env1 → sb.r env1 Ps X) : (seqS sa sb).r env Ps X :=
  sa.m (P := { Ps with nx := Q }) (P' := { Ps with nx := fun env1 => sb.r env1 Ps X }) ⟨k, fun _ _ h => h, fun _ h => h, fun _ h => h⟩ (fun _ _ h => h) h
theorem ix_int {cs : List Int} {a : Int} (h0 : 0 ≤ a) (h : a < cs.length) : ∃ v, v ∈ cs ∧ ixD (.lst (cs.map D.int)) (.int a) = some (.int v) := by
  have hj : a.toNat < cs.length := by omega
  refine ⟨cs[a.toNat], List.getElem_mem hj, ?_⟩
  have := ix_l (ds := cs.map D.int) (j := a.toNat) (d := .int cs[a.toNat]) (by rw [List.getElem?_map, List.getElem?_eq_getElem hj]; rfl)
  rwa [Int.toNat_of_nonneg h0] at this
end En
namespace En
open PySem PySem.Spec PyProof.Rows L2
section
variable {F : Nat → List Str} {f f2 g : EF} {t u : TF} {l : LF} {la : LA} {le : LE} {env env1 env2 : Env'} {e e1 e1' : EV} {d : D} {P : EV → Env' → Prop} {PT : Bool → Env' → Prop} {PL : List D → Env' → Prop} {X : Exx} {Ps : Pst} {sa sb : SF}
theorem ret_c (h : f.r env Ps.rt X) : (retS f).r env Ps X := h
theorem drop_c (h : f.r env (fun _ env1 => Ps.nx env1) X) : (dropS f).r env Ps X := h
theorem bin_r {op : D → D → Option D} (h1 : Ev f env e1 env1) (s1 : e1.settle F = some e1') (k : f2.r env1 (fun e2 env2 => ∃ e2', e2.settle F = some e2' ∧ ∃ d d2 c, e1'.rd F env2 = some d ∧ e2'.rd F env2 = some d2 ∧ op d d2 = some c ∧ P (.val c) env2) X) : (binF F op f f2).r env P X := h1 _ _ ⟨e1', s1, k⟩
theorem bin_l {op : D → D → Option D} (k : f.r env (fun e env1 => ∃ e', e.settle F = some e' ∧ f2.r env1 (fun e2 env2 => ∃ e2', e2.settle F = some e2' ∧ ∃ d d2 c, e'.rd F env2 = some d ∧ e2'.rd F env2 = some d2 ∧ op d d2 = some c ∧ P (.val c) env2) X) X) : (binF F op f f2).r env P X := k
theorem un_c {op : D → Option D} (k : f.r env (fun e env1 => ∃ e', e.settle F = some e' ∧ ∃ d c, e'.rd F env1 = some d ∧ op d = some c ∧ P (.val c) env1) X) : (unF F op f).r env P X := k
theorem if_c (h : t.r env (fun k env1 => if k = true then sa.r env1 Ps X else sb.r env1 Ps X) X) : (ifS t sa sb).r env Ps X := h
theorem tru_c (k : f.r env (fun e env1 => ∃ e', e.settle F = some e' ∧ ∃ d b, e'.rd F env1 = some d ∧ truD d = some b ∧ PT b env1) X) : (truF F f).r env PT X := k
theorem not_c (k : t.r env (fun b env1 => PT (!b) env1) X) : (notT t).r env PT X := k
theorem par_c {is : List Nat} (h : le.r env (fun es env1 => ∃ env2, putEs is es env1 = some env2 ∧ Ps.nx env2) X) : (parS is le).r env Ps X := h
theorem consP_c {PP : List EV → Env' → Prop} (h : f.r env (fun e env1 => e.isOwn = false ∧ le.r env1 (fun es env2 => PP (e :: es) env2) X) X) : (consP f le).r env PP X := h
theorem consL_c (h : f.r env (fun e env1 => ∃ d, e.keep F = some d ∧ l.r env1 (fun ds env2 => PL (d :: ds) env2) X) X) : (consL F f l).r env PL X := h
theorem consA_c {PA : List AV → Env' → Prop} (h : f.r env (fun e env1 => ∃ a, e.av F = some a ∧ la.r env1 (fun as env2 => PA (a :: as) env2) X) X) : (consA F f la).r env PA X := h
theorem consA_e {PA : List AV → Env' → Prop} {a : AV} (h : Ev f env e env1) (h2 : e.av F = some a) (k : la.r env1 (fun as env2 => PA (a :: as) env2) X) : (consA F f la).r env PA X := h _ _ ⟨a, h2, k⟩
theorem call_c {FS : EF} {n : Nat} (h : la.r env (fun as env1 => as.length = n ∧ (refs as).Nodup ∧ runF FS (as.map (slotOf env1)) (fun e outs => e.isOwn = false ∧ ∃ env2, backE as outs env1 = some env2 ∧ P e env2) X) X) : (callF FS n la).r env P X := h
theorem seqI_c (h : f.r env (fun e env1 => ∃ d, e.keep F = some d ∧ ∃ ds, iterL? d = some ds ∧ PL ds env1) X) : (seqI F f).r env PL X := h
theorem for_c {l : LF} {p : Pat} (h : l.r env (fun ds env1 => forL p sa Ps X ds env1) X) : (forS l p sa).r env Ps X := h
theorem rng_c (h : f.r env (fun e env1 => ∃ n, e = .val (.int n) ∧ (-1000000 ≤ n ∧ n ≤ 1000000) ∧ PL (intsD 0 n.toNat) env1) X) : (rngI f).r env PL X := h
theorem app_c {i : Nat} (h0 : ∃ sl, env[i]? = some sl ∧ ∃ ds, sl.lst? = some ds) (h : f.r env (fun e env1 => ∃ d, e.keep F = some d ∧ ∃ sl ds, env1[i]? = some sl ∧ sl.lst? = some ds ∧ ds.length < 100000 ∧ P (.val .non) (env1.set i (sl.put (.lst (ds ++ [d]))))) X) : (appF F i f).r env P X := ⟨h0, h⟩
theorem tgt_c {gf : GF} (h : f.r env (fun e env1 => ∃ d, e.keep F = some d ∧ gf.r d env1 Ps.nx X) X) : (tgtS F gf f).r env Ps X := h
end
theorem intsD_get {lo : Int} {n k : Nat} {d : D} (h : (intsD lo n)[k]? = some d) : k < n ∧ d = .int (lo + (k : Int)) := by
  unfold intsD at h
  rw [List.getElem?_map] at h
  obtain ⟨j, h1, rfl⟩ := Option.map_eq_some_iff.mp h
  have hi := (List.getElem?_eq_some_iff.mp h1).1
  rw [List.length_range] at hi
  rw [List.getElem?_range hi] at h1
  cases h1
  exact ⟨hi, rfl⟩
theorem intsD_len (lo : Int) (n : Nat) : (intsD lo n).length = n := by simp [intsD]
/-- the text of these code points -/
abbrev St (l : List Nat) : Str := ⟨l.toArray⟩
theorem ix_st {l : List Nat} {r : Int} (hz : l.length ≤ 1000) (h0 : 0 ≤ r) (h1 : r < l.length) : ∃ c, c ∈ l ∧ ixD (.str (St l)) (.int r) = some (.str (St [c])) := by
  have hj : r.toNat < l.length := by omega
  refine ⟨l[r.toNat], List.getElem_mem hj, ?_⟩
  show (if (St l).length ≤ sizeLine then (atI (St l).cps.toList r).map fun c => D.str ⟨#[c]⟩ else none) = _
  have hs : (St l).length ≤ sizeLine := by
    rw [sizeLine_eq]
    show l.toArray.size ≤ _
    simp; omega
  rw [if_pos hs]
  unfold atI ixN
  simp only [List.toList_toArray]
  rw [if_pos h0, if_pos h1]
  show Option.map _ (l[r.toNat]?) = _
  rw [List.getElem?_eq_getElem hj]; rfl
theorem len_st {l : List Nat} (hz : l.length ≤ 1000) : lenD (.str (St l)) = some (.int l.length) := by
  show (if (St l).length ≤ sizeLine then some (D.int (St l).length) else none) = _
  have e : (St l).length = l.length := by show l.toArray.size = _; simp
  rw [e, if_pos (by rw [sizeLine_eq]; omega)]
theorem join_one : ∀ cs : List Nat, TL.joinL [] (cs.map fun c => [c]) = cs
  | [] => rfl
  | [c] => rfl
  | c :: d :: r => by
    have ih := join_one (d :: r)
    show [c] ++ ([] ++ TL.joinL [] ((d :: r).map fun c => [c])) = _
    rw [ih]; rfl
theorem strsD_one : ∀ cs : List Nat, strsD? (cs.map fun c => D.str (St [c])) = some (cs.map fun c => St [c])
  | [] => rfl
  | c :: r => by
    show (strsD? (r.map fun c => D.str (St [c]))).map (St [c] :: ·) = _
    rw [strsD_one r]; rfl
theorem join_st {cs : List Nat} (hz : cs.length ≤ 1000) : joinD "" (.lst (cs.map fun c => .str (St [c]))) = some (.str (St cs)) := by
  show (strsD? _).bind _ = _
  rw [strsD_one]
  have e : (("" : Str) : Str) = SX.S [] := by decide +kernel
  have hs : ((cs.map fun c => St [c]).map (·.length)).sum + (cs.map fun c => St [c]).length * ("" : Str).length ≤ 16777216 := by
    have h1 : ((cs.map fun c => St [c]).map (·.length)).sum = cs.length := by
      clear hz
      induction cs with
      | nil => rfl
      | cons c r ih =>
        rw [List.map_cons, List.map_cons, List.sum_cons, ih, List.length_cons]
        show 1 + _ = _
        omega
    have h2 : ("" : Str).length = 0 := by decide +kernel
    rw [h1, h2]; omega
  show (if _ then some (D.str (Txt.join "" (cs.map fun c => St [c]))) else none) = _
  rw [if_pos hs, e]
  have := SX.join_S [] (cs.map fun c => [c])
  rw [join_one, List.map_map] at this
  exact congrArg (fun x => some (D.str x)) this
theorem add_st {a b : List Nat} (h : a.length + b.length ≤ 1000) : addD (.str (St a)) (.str (St b)) = some (.str (St (a ++ b))) := by
  show (if (St a).length + (St b).length ≤ sizeLine then some (D.str (St a ++ St b)) else none) = _
  have e : ∀ l : List Nat, (St l).length = l.length := fun l => by show l.toArray.size = _; simp
  rw [e, e, if_pos (by rw [sizeLine_eq]; omega)]
  show some (D.str ⟨a.toArray ++ b.toArray⟩) = _
  simp
end En
namespace En
open PySem PySem.Spec PyProof.Rows L2
theorem yes_i {env : Env'} {X : Exx} {A B : Env' → Prop} (h : A env) : yesT.r env (fun b env3 => if b = true then A env3 else B env3) X := by
  show (if true = true then A env else B env)
  rw [if_pos rfl]; exact h
end En
namespace En
open PySem PySem.Spec PyProof.Rows L2
section
variable {F : Nat → List Str} {f g : EF} {t : TF} {env : Env'} {P : EV → Env' → Prop} {PT : Bool → Env' → Prop} {X : Exx} {i : Nat} {ds : List D} {s : Slot}
theorem ite_c (h : t.r env (fun b env1 => if b = true then f.r env1 P X else g.r env1 P X) X) : (iteF' t f g).r env P X := h
theorem bl_c (h : f.r env (fun e env1 => ∃ b, e = .val (.bl b) ∧ PT b env1) X) : (blF F f).r env PT X := h
theorem ev_kvB (h : env[i]? = some s) (hs : s = .own (.lst ds) ∨ s = .val (.lst ds)) : Ev (kvF F i) env (.val (.lst ds)) (env.set i (.val (.lst ds))) := by
  rcases hs with rfl | rfl
  · exact ev_kvo h rfl
  · have : env.set i (.val (.lst ds)) = env := by
      apply List.ext_getElem?
      intro j
      by_cases hj : i = j
      · subst hj
        rw [h, List.getElem?_set_self (List.getElem?_eq_some_iff.mp h).1]
      · rw [List.getElem?_set_ne hj]
    rw [this]; exact ev_kv h
end
end En
namespace En
open PySem PySem.Spec PyProof.Rows L2
section
variable {F : Nat → List Str} {f g : EF} {t : TF} {env env1 : Env'} {P : EV → Env' → Prop} {PT : Bool → Env' → Prop} {X : Exx} {b : Bool}
theorem or_i (h : Ev f env (.val (.bl b)) env1) (k1 : b = true → P (.val (.bl true)) env1) (k2 : b = false → g.r env1 P X) : (orF f g).r env P X := h _ _ ⟨b, rfl, by
  cases b with
  | true => exact k1 rfl
  | false => exact k2 rfl⟩
theorem and_i (h : Ev f env (.val (.bl b)) env1) (k1 : b = true → g.r env1 P X) (k2 : b = false → P (.val (.bl false)) env1) : (andF f g).r env P X := h _ _ ⟨b, rfl, by
  cases b with
  | true => exact k1 rfl
  | false => exact k2 rfl⟩
end
end En
set_option Elab.async false
set_option linter.all false
set_option maxRecDepth 100000
namespace En
open PySem PySem.Spec PyProof.Rows L2
section
variable {F : Nat → List Str} {f g : EF} {t u : TF} {it : LF} {p : Pat} {vs : List Nat} {env env1 : Env'} {PT : Bool → Env' → Prop} {X : Exx} {b : Bool} {ds : List D}
theorem orT_i (h : EvT t env b env1) (k1 : b = true → PT true env1) (k2 : b = false → u.r env1 PT X) : (orT t u).r env PT X := h _ _ (by
  cases b with
  | true => exact k1 rfl
  | false => exact k2 rfl)
theorem andT_i (h : EvT t env b env1) (k1 : b = true → u.r env1 PT X) (k2 : b = false → PT false env1) : (andT t u).r env PT X := h _ _ (by
  cases b with
  | true => exact k1 rfl
  | false => exact k2 rfl)
theorem skip_i {Ps : Pst} (h : Ps.nx env) : skipS.r env Ps X := h
/-- a comprehension without a test whose element is plain -/
theorem compL_map {P : List D → Env' → Prop} (g : D → D) : ∀ (ds acc : List D), (∀ d ∈ ds, ∃ env2 e, p.put d env = some env2 ∧ Ev f env2 e env2 ∧ e.keep F = some (g d) ∧ okW env2 vs = true ∧ wipeE env2 vs = env) → acc.length + ds.length < 100000 → P (acc ++ ds.map g) env → compL F p yesT f vs P ds acc env
  | [], acc, _, _, k => by rwa [List.map_nil, List.append_nil] at k
  | d :: ds, acc, hp, hz, k => by
    obtain ⟨env2, e, h1, h2, h3, h4, h5⟩ := hp d List.mem_cons_self
    refine ⟨env2, h1, yes_i (h2 _ _ ⟨g d, h3, by simp at hz; omega, h4, ?_⟩)⟩
    rw [h5]
    exact compL_map g ds _ (fun x hx => hp x (List.mem_cons_of_mem _ hx)) (by simp at hz ⊢; omega) (by rw [List.append_assoc]; exact k)
/-- .. with a test -/
theorem compL_filt {P : List D → Env' → Prop} (q : D → Bool) (g : D → D) : ∀ (ds acc : List D), (∀ d ∈ ds, ∃ env2 e, p.put d env = some env2 ∧ EvT t env2 (q d) env2 ∧ (q d = true → Ev f env2 e env2 ∧ e.keep F = some (g d)) ∧ okW env2 vs = true ∧ wipeE env2 vs = env) → acc.length + ds.length < 100000 → P (acc ++ (ds.filter q).map g) env → compL F p t f vs P ds acc env
  | [], acc, _, _, k => by
    have k : P acc env := by simpa using k
    exact k
  | d :: ds, acc, hp, hz, k => by
    obtain ⟨env2, e, h1, h2, h3, h4, h5⟩ := hp d List.mem_cons_self
    refine ⟨env2, h1, h2 _ _ ?_⟩
    rw [List.filter_cons] at k
    cases hq : q d with
    | true =>
      rw [if_pos rfl]
      rw [if_pos hq] at k
      obtain ⟨h6, h7⟩ := h3 hq
      refine h6 _ _ ⟨g d, h7, by simp at hz; omega, h4, ?_⟩
      rw [h5]
      exact compL_filt q g ds _ (fun x hx => hp x (List.mem_cons_of_mem _ hx)) (by simp at hz ⊢; omega) (by rw [List.append_assoc]; exact k)
    | false =>
      rw [if_neg Bool.false_ne_true]
      rw [if_neg (by rw [hq]; exact Bool.false_ne_true)] at k
      refine ⟨h4, ?_⟩
      rw [h5]
      exact compL_filt q g ds _ (fun x hx => hp x (List.mem_cons_of_mem _ hx)) (by simp at hz ⊢; omega) k
theorem ev_lc (g : D → D) (hit : EvL it env ds env1) (hw : okW env1 vs = true) (hz : ds.length < 100000) (hr : restE (wipeE env1 vs) env1 vs = env1)
    (hp : ∀ d ∈ ds, ∃ env2 e, p.put d (wipeE env1 vs) = some env2 ∧ Ev f env2 e env2 ∧ e.keep F = some (g d) ∧ okW env2 vs = true ∧ wipeE env2 vs = wipeE env1 vs) : Ev (lcF F it p yesT f vs) env (.new (.lst (ds.map g))) env1 := fun P X k =>
  lc_i hit hw (compL_map g ds [] hp (by simpa using hz) (by rw [hr]; exact k))
theorem ev_lcq (q : D → Bool) (g : D → D) (hit : EvL it env ds env1) (hw : okW env1 vs = true) (hz : ds.length < 100000) (hr : restE (wipeE env1 vs) env1 vs = env1)
    (hp : ∀ d ∈ ds, ∃ env2 e, p.put d (wipeE env1 vs) = some env2 ∧ EvT t env2 (q d) env2 ∧ (q d = true → Ev f env2 e env2 ∧ e.keep F = some (g d)) ∧ okW env2 vs = true ∧ wipeE env2 vs = wipeE env1 vs) : Ev (lcF F it p t f vs) env (.new (.lst ((ds.filter q).map g))) env1 := fun P X k =>
  lc_i hit hw (compL_filt q g ds [] hp (by simpa using hz) (by rw [hr]; exact k))
theorem bls_map (h : D → Bool) : ∀ ds : List D, blsD? (ds.map fun d => D.bl (h d)) = some (ds.map h)
  | [] => rfl
  | d :: ds => by
    show (blsD? (ds.map fun d => D.bl (h d))).map (h d :: ·) = _
    rw [bls_map h ds]; rfl
theorem all_bls {h : D → Bool} : allD (.lst (ds.map fun d => D.bl (h d))) = some (.bl (ds.all h)) := by
  show (blsD? _).map _ = _
  rw [bls_map]; simp
theorem any_bls {h : D → Bool} : anyD (.lst (ds.map fun d => D.bl (h d))) = some (.bl (ds.any h)) := by
  show (blsD? _).map _ = _
  rw [bls_map]; simp
theorem evl_rngN {n : Nat} (h1 : Ev f env (.val (.int (n : Int))) env1) (hz : n ≤ 1000000) : EvL (rngI f) env (intsD 0 n) env1 := by
  have := evl_rng (n := (n : Int)) h1 ⟨by omega, by omega⟩
  rwa [show ((n : Int)).toNat = n from Int.toNat_natCast n] at this
theorem ite_i {P : EV → Env' → Prop} (h : EvT t env b env1) (k1 : b = true → f.r env1 P X) (k2 : b = false → g.r env1 P X) : (iteF' t f g).r env P X := h _ _ (by
  cases b with
  | true => exact (if_pos rfl : (if true = true then f.r env1 P X else g.r env1 P X) = _) ▸ k1 rfl
  | false => exact k2 rfl)
end
end En
set_option Elab.async false
set_option linter.all false
set_option maxRecDepth 100000
namespace Lw
open PySem PySem.Spec PyProof.Rows L2 En
def top (i : Nat) : Stmt := PySem.Challenge.pw_everyhour_k89_linings_bent.main.body.getD i (.Pass ⟨0, 0, 0, 0⟩)
abbrev st_is_whole : Stmt := top 7
abbrev st_as_tuples : Stmt := top 8
abbrev st_is_index : Stmt := top 9
abbrev st_is_name : Stmt := top 14
abbrev st_need_period : Stmt := top 17
abbrev st_Misalignedu_initu : Stmt := inClass (top 19) 0
abbrev st_Misalignedu_equ : Stmt := inClass (top 19) 1
abbrev st_Misalignedu_neu : Stmt := inClass (top 19) 2
abbrev st_seen_on : Stmt := top 20
abbrev st_differences : Stmt := top 21
abbrev st_steps_at : Stmt := top 22
abbrev st_grown : Stmt := top 23
abbrev st_way_to : Stmt := top 24
abbrev st_round_of : Stmt := top 25
abbrev st_number_of_day : Stmt := top 26
abbrev st_lining : Stmt := top 27
abbrev st_is_log_step : Stmt := top 28
abbrev st_misaligned_holds : Stmt := top 29
abbrev st_DayLogu_initu : Stmt := inClass (top 31) 0
abbrev st_DayLogu_equ : Stmt := inClass (top 31) 1
abbrev st_DayLogu_neu : Stmt := inClass (top 31) 2
abbrev st_is_day : Stmt := top 32
abbrev st__law_pen : Stmt := top 34
abbrev st__law_draw : Stmt := top 35
abbrev st__law_pick : Stmt := top 36
abbrev st__law_is : Stmt := top 37
abbrev st__law_name : Stmt := top 38
abbrev st__law_names : Stmt := top 39
abbrev st__law_drawn_log : Stmt := top 40
abbrev st__law_made_log : Stmt := top 41
abbrev st__law_misaligned_right : Stmt := top 42
abbrev st__law_round : Stmt := top 43
abbrev st__law_bent : Stmt := top 44
abbrev st_law : Stmt := top 45
def FL : Nat → List Str
  | 0 => ["steps"]
  | 1 => ["events", "days"]
  | _ => []
def ICS : List Nat := [0, 1]
abbrev sg (K : PySem.W.Frag) (cl : Nat → Addr) : Sg := ⟨K, cl, FL⟩
abbrev N_Misalignedu_equ : List Str := ["self", "other"]
def B_Misalignedu_equ : SF := (retS (andF (unF FL (isiD ICS [(.c 0)]) (varF 1)) (binF FL eqD (unF FL (fldD FL ICS ("steps" : Str)) (varF 0)) (unF FL (fldD FL ICS ("steps" : Str)) (varF 1)))))
def F_Misalignedu_equ : EF := bodyF 2 2 B_Misalignedu_equ
abbrev N_as_tuples : List Str := ["value", "one"]
def B_as_tuples (FR : EF) : SF := (seqS (ifS (truF FL (unF FL (isiD ICS [(.b .list), (.b .tuple)]) (varF 0))) (retS (unF FL tupOfD (lcF FL (seqI FL (kvF FL 0)) (.nm 1) yesT (callF FR 1 (consA FL (kvF FL 1) nilA)) [1]))) skipS) (retS (varF 0)))
def F_as_tuples : Nat → EF
  | 0 => nevF
  | k + 1 => bodyF 2 1 (B_as_tuples (F_as_tuples k))
abbrev N_Misalignedu_initu : List Str := ["self", "steps"]
def B_Misalignedu_initu : SF := (setF FL ICS 0 ("steps" : Str) (callF (F_as_tuples 6) 1 (consA FL (kvF FL 1) nilA)))
def F_Misalignedu_initu : EF := bodyF 2 2 B_Misalignedu_initu
abbrev N_Misalignedu_neu : List Str := ["self", "other"]
def B_Misalignedu_neu : SF := (retS (notF (cmpF FL ICS 0 F_Misalignedu_equ (kvF FL 0) (kvF FL 1))))
def F_Misalignedu_neu : EF := bodyF 2 2 B_Misalignedu_neu
abbrev N__law_draw : List Str := ["pen", "many", "cell", "digit", "blend"]
def B__law_draw : SF := (seqS (tgtS FL (subG FL 0 (litF (.str "count"))) (binF FL addD (binF FL dgetD (varF 0) (litF (.str "count"))) (litF (.int 1)))) (seqS (ifS (andT (blF FL (binF FL eqD (binF FL dgetD (varF 0) (litF (.str "digits"))) (litF (.int 0)))) (blF FL (binF FL ltD (binF FL dgetD (varF 0) (litF (.str "at"))) (unF FL lenD (binF FL dgetD (varF 0) (litF (.str "cells"))))))) (seqS (asgS 2 (binF FL ixD (binF FL dgetD (varF 0) (litF (.str "cells"))) (binF FL dgetD (varF 0) (litF (.str "at"))))) (seqS (tgtS FL (subG FL 0 (litF (.str "at"))) (binF FL addD (binF FL dgetD (varF 0) (litF (.str "at"))) (litF (.int 1)))) (ifS (blF FL (binF FL geD (varF 2) (binF FL powD (litF (.int 10)) (litF (.int 18))))) (tgtS FL (subG FL 0 (litF (.str "digits"))) (binF FL subD (varF 2) (binF FL powD (litF (.int 10)) (litF (.int 18))))) (tgtS FL (subG FL 0 (litF (.str "fold"))) (binF FL modD (unF FL intOfD (binF FL addD (binF FL mulD (binF FL dgetD (varF 0) (litF (.str "fold"))) (litF (.int 69069))) (varF 2))) (litF (.int 2147483587))))))) skipS) (seqS (ifS (blF FL (binF FL gtD (binF FL dgetD (varF 0) (litF (.str "digits"))) (litF (.int 0)))) (seqS (asgS 3 (binF FL modD (unF FL intOfD (binF FL dgetD (varF 0) (litF (.str "digits")))) (varF 1))) (seqS (tgtS FL (subG FL 0 (litF (.str "digits"))) (binF FL divD (binF FL dgetD (varF 0) (litF (.str "digits"))) (varF 1))) (retS (varF 3)))) skipS) (seqS (asgS 4 (binF FL modD (unF FL intOfD (binF FL addD (binF FL addD (binF FL mulD (binF FL dgetD (varF 0) (litF (.str "fold"))) (litF (.int 48271))) (binF FL mulD (binF FL dgetD (varF 0) (litF (.str "count"))) (litF (.int 7919)))) (litF (.int 13)))) (litF (.int 2147483647)))) (seqS (asgS 4 (binF FL modD (unF FL intOfD (binF FL addD (binF FL addD (binF FL mulD (varF 4) (varF 4)) (binF FL mulD (litF (.int 31)) (varF 4))) (binF FL dgetD (varF 0) (litF (.str "count"))))) (litF (.int 2147483629)))) (seqS (tgtS FL (subG FL 0 (litF (.str "fold"))) (binF FL modD (unF FL intOfD (binF FL addD (binF FL mulD (varF 4) (litF (.int 16807))) (litF (.int 7)))) (litF (.int 2147483647)))) (retS (binF FL modD (unF FL intOfD (binF FL divD (varF 4) (litF (.int 64)))) (varF 1)))))))))
def F__law_draw : EF := bodyF 5 2 B__law_draw
abbrev N__law_pick : List Str := ["pen", "some"]
def B__law_pick : SF := (retS (binF FL ixD (varF 1) (callF F__law_draw 2 (consA FL (varF 0) (consA FL (unF FL lenD (varF 1)) nilA)))))
def F__law_pick : EF := bodyF 2 2 B__law_pick
abbrev N__law_round : List Str := ["pen", "log", "many", "events", "lap", "event", "steps", "at", "day"]
def B__law_round : SF := (seqS (parS [2, 3] (consP (binF FL addD (litF (.int 2)) (callF F__law_draw 2 (consA FL (varF 0) (consA FL (litF (.int 3)) nilA)))) (consP (lstF nilL) nilP))) (seqS (forS (rngI (varF 2)) (.nm 4) (dropS (appF FL 3 (callF F__law_pick 2 (consA FL (varF 0) (consA FL (lcF FL (seqI FL (binF FL ixD (varF 1) (litF (.int 0)))) (.nm 5) (orT (blF FL (binF FL eqD (varF 3) (lstF nilL))) (blF FL (binF FL neD (varF 5) (binF FL ixD (varF 3) (unF FL negD (litF (.int 1))))))) (kvF FL 5) [5]) nilA)))))) (seqS (asgS 6 (lstF nilL)) (seqS (forS (rngI (varF 2)) (.nm 7) (seqS (asgS 8 (callF F__law_draw 2 (consA FL (varF 0) (consA FL (binF FL maxD (litF (.int 1)) (unF FL lenD (binF FL ixD (varF 1) (litF (.int 1))))) nilA)))) (dropS (appF FL 6 (tupF (consL FL (kvF FL 8) (consL FL (binF FL ixD (varF 3) (binF FL subD (varF 7) (litF (.int 1)))) (consL FL (binF FL ixD (varF 3) (varF 7)) nilL)))))))) (retS (unF FL tupOfD (varF 6)))))))
def F__law_round : EF := bodyF 9 2 B__law_round
abbrev N__law_bent : List Str := ["pen", "log", "told", "steps", "at", "day", "one", "other", "news", "some", "own", "first", "last"]
def B__law_bent : SF := (seqS (asgS 3 (iteF' (andT (truF FL (unF FL (isiD ICS [(.c 0)]) (varF 2))) (blF FL (binF FL gtD (callF F__law_draw 2 (consA FL (varF 0) (consA FL (litF (.int 3)) nilA))) (litF (.int 0))))) (unF FL (fldD FL ICS ("steps" : Str)) (varF 2)) (callF F__law_round 2 (consA FL (varF 0) (consA FL (kvF FL 1) nilA))))) (seqS (asgS 4 (callF F__law_draw 2 (consA FL (varF 0) (consA FL (unF FL lenD (varF 3)) nilA)))) (seqS (patS FL (.tp [(.nm 5), (.nm 6), (.nm 7)]) (binF FL ixD (varF 3) (varF 4))) (seqS (asgS 8 (lstF (consL FL (tupF (consL FL (binF FL addD (varF 5) (litF (.int 1))) (consL FL (kvF FL 6) (consL FL (kvF FL 7) nilL)))) (consL FL (tupF (consL FL (litF (.bl true)) (consL FL (kvF FL 6) (consL FL (kvF FL 7) nilL)))) (consL FL (tupF (consL FL (kvF FL 5) (consL FL (kvF FL 7) (consL FL (kvF FL 6) nilL)))) (consL FL (tupF (consL FL (kvF FL 5) (consL FL (kvF FL 6) (consL FL (kvF FL 6) nilL)))) (consL FL (tupF (consL FL (kvF FL 5) (consL FL (kvF FL 6) nilL))) (consL FL (litF .non) (consL FL (tupF (consL FL (kvF FL 5) (consL FL (kvF FL 6) (consL FL (litF (.str "far000001")) nilL)))) (consL FL (tupF (consL FL (unF FL negD (litF (.int 1))) (consL FL (kvF FL 6) (consL FL (kvF FL 7) nilL)))) nilL)))))))))) (seqS (asgS 8 (binF FL addD (varF 8) (lstF (consL FL (tupF (consL FL (unF FL lenD (binF FL ixD (varF 1) (litF (.int 1)))) (consL FL (kvF FL 6) (consL FL (kvF FL 7) nilL)))) (consL FL (tupF (consL FL (kvF FL 5) (consL FL (litF .non) (consL FL (kvF FL 7) nilL)))) (consL FL (tupF (consL FL (unF FL strOfD (varF 5)) (consL FL (kvF FL 6) (consL FL (kvF FL 7) nilL)))) nilL)))))) (seqS (asgS 9 (lstF (consL FL (kvF FL 3) (consL FL (binF FL addD (slF FL (varF 3) (someO (varF 4)) noO) (slF FL (varF 3) noO (someO (varF 4)))) (consL FL (binF FL addD (varF 3) (varF 3)) (consL FL (slF FL (varF 3) (someO (litF (.int 1))) noO) (consL FL (unF FL revD (varF 3)) (consL FL (binF FL addD (binF FL addD (slF FL (varF 3) noO (someO (varF 4))) (tupF (consL FL (callF F__law_pick 2 (consA FL (varF 0) (consA FL (kvF FL 8) nilA))) nilL))) (slF FL (varF 3) (someO (binF FL addD (varF 4) (litF (.int 1)))) noO)) nilL)))))))) (seqS (asgS 9 (binF FL addD (varF 9) (lstF (consL FL (unF FL tupOfD (lcF FL (seqI FL (unF FL revD (varF 3))) (.tp [(.nm 10), (.nm 11), (.nm 12)]) yesT (tupF (consL FL (kvF FL 10) (consL FL (kvF FL 12) (consL FL (kvF FL 11) nilL)))) [10, 11, 12])) (consL FL (tupF nilL) (consL FL (litF .non) (consL FL (unNF FL lstOfD (varF 3)) (consL FL (binF FL addD (binF FL addD (slF FL (varF 3) noO (someO (varF 4))) (tupF (consL FL (callF F__law_pick 2 (consA FL (varF 0) (consA FL (kvF FL 8) nilA))) nilL))) (slF FL (varF 3) (someO (binF FL addD (varF 4) (litF (.int 1)))) noO)) nilL)))))))) (retS (callF F__law_pick 2 (consA FL (varF 0) (consA FL (lstF (consL FL (mkF 0 F_Misalignedu_initu 2 (consA FL (callF F__law_pick 2 (consA FL (varF 0) (consA FL (kvF FL 9) nilA))) nilA)) (consL FL (mkF 0 F_Misalignedu_initu 2 (consA FL (callF F__law_pick 2 (consA FL (varF 0) (consA FL (kvF FL 9) nilA))) nilA)) (consL FL (mkF 0 F_Misalignedu_initu 2 (consA FL (callF F__law_pick 2 (consA FL (varF 0) (consA FL (kvF FL 9) nilA))) nilA)) (consL FL (kvF FL 3) (consL FL (litF .non) nilL)))))) nilA)))))))))))
def F__law_bent : EF := bodyF 13 3 B__law_bent
abbrev N__law_name : List Str := ["pen", "letters", "signs", "long", "lap"]
def B__law_name : SF := (seqS (parS [1, 2] (consP (litF (.str "abcdefghijklmnopqrstuvwxyz")) (consP (litF (.str "abcdefghijklmnopqrstuvwxyz0123456789")) nilP))) (seqS (asgS 3 (binF FL ixD (lstF (consL FL (litF (.int 0)) (consL FL (litF (.int 0)) (consL FL (litF (.int 1)) (consL FL (litF (.int 2)) (consL FL (litF (.int 5)) (consL FL (litF (.int 11)) nilL))))))) (callF F__law_draw 2 (consA FL (varF 0) (consA FL (litF (.int 6)) nilA))))) (retS (binF FL addD (callF F__law_pick 2 (consA FL (varF 0) (consA FL (kvF FL 1) nilA))) (unF FL (joinD "") (lcF FL (rngI (varF 3)) (.nm 4) yesT (callF F__law_pick 2 (consA FL (varF 0) (consA FL (kvF FL 2) nilA))) [4]))))))
def F__law_name : EF := bodyF 5 1 B__law_name
abbrev N__law_names : List Str := ["pen", "many", "found", "lap", "name"]
def B__law_names : SF := (seqS (asgS 2 (lstF nilL)) (seqS (forS (rngI (varF 1)) (.nm 3) (seqS (asgS 4 (callF F__law_name 1 (consA FL (varF 0) nilA))) (seqS (ifS (blF FL (binF FL inD (varF 4) (varF 2))) (asgS 4 (binF FL addD (binF FL addD (litF (.str "z")) (unF FL strOfD (varF 3))) (litF (.str "q")))) skipS) (seqS (whileS (blF FL (binF FL inD (varF 4) (varF 2))) (asgS 4 (binF FL addD (varF 4) (litF (.str "0"))))) (dropS (appF FL 2 (kvF FL 4))))))) (retS (unF FL tupN (varF 2)))))
def F__law_names : EF := bodyF 5 2 B__law_names
abbrev N__law_drawn_log : List Str := ["pen", "many", "period", "events", "minutes", "days", "event", "lap", "move", "day", "minute", "time"]
def B__law_drawn_log : SF := (seqS (asgS 3 (callF F__law_names 2 (consA FL (varF 0) (consA FL (kvF FL 1) nilA)))) (seqS (parS [4, 5] (consP (lcF FL (seqI FL (kvF FL 3)) (.nm 6) yesT (callF F__law_draw 2 (consA FL (varF 0) (consA FL (kvF FL 2) nilA))) [6]) (consP (lstF nilL) nilP))) (seqS (forS (rngI (callF F__law_draw 2 (consA FL (varF 0) (consA FL (litF (.int 6)) nilA)))) (.nm 7) (seqS (parS [8, 9] (consP (binF FL subD (callF F__law_draw 2 (consA FL (varF 0) (consA FL (litF (.int 40)) nilA))) (litF (.int 20))) (consP (lstF nilL) nilP))) (seqS (forS (seqI FL (kvF FL 4)) (.nm 10) (seqS (asgS 11 (binF FL addD (binF FL addD (varF 10) (binF FL mulD (varF 8) (varF 2))) (callF F__law_pick 2 (consA FL (varF 0) (consA FL (lstF (consL FL (litF (.int 0)) (consL FL (litF (.int 0)) (consL FL (litF (.int 0)) (consL FL (litF (.int 0)) (consL FL (litF (.int 1)) (consL FL (litF (.int 2)) nilL))))))) nilA))))) (dropS (appF FL 9 (iteF' (blF FL (binF FL eqD (callF F__law_draw 2 (consA FL (varF 0) (consA FL (litF (.int 4)) nilA))) (litF (.int 0)))) (litF .non) (kvF FL 11)))))) (dropS (appF FL 5 (unF FL tupOfD (varF 9))))))) (retS (tupF (consL FL (kvF FL 3) (consL FL (unF FL tupOfD (varF 5)) nilL)))))))
def F__law_drawn_log : EF := bodyF 12 3 B__law_drawn_log
abbrev N__law_is : List Str := ["told", "due", "at"]
def B__law_is (FR : EF) : SF := (seqS (ifS (truF FL (unF FL (isiD ICS [(.b .tuple)]) (varF 1))) (seqS (ifS (orT (notT (truF FL (unF FL (isiD ICS [(.b .tuple)]) (varF 0)))) (blF FL (binF FL neD (unF FL lenD (varF 0)) (unF FL lenD (varF 1))))) (retS (litF (.bl false))) skipS) (retS (binF FL eqD (lcF FL (rngI (unF FL lenD (varF 1))) (.nm 2) (notT (truF FL (callF FR 2 (consA FL (binF FL ixD (varF 0) (varF 2)) (consA FL (binF FL ixD (varF 1) (varF 2)) nilA))))) (kvF FL 2) [2]) (lstF nilL)))) skipS) (seqS (ifS (blF FL (binF FL isD (varF 1) (litF .non))) (retS (binF FL isD (varF 0) (litF .non))) skipS) (seqS (ifS (blF FL (binF FL isD (varF 1) (litF (.bl true)))) (retS (binF FL isD (varF 0) (litF (.bl true)))) skipS) (seqS (ifS (blF FL (binF FL isD (varF 1) (litF (.bl false)))) (retS (binF FL isD (varF 0) (litF (.bl false)))) skipS) (seqS (ifS (truF FL (unF FL (isiD ICS [(.b .str)]) (varF 1))) (retS (andF (unF FL (isiD ICS [(.b .str)]) (varF 0)) (binF FL eqD (varF 0) (varF 1)))) skipS) (retS (andF (unF FL (isiD ICS [(.b .int)]) (varF 0)) (andF (notF (unF FL (isiD ICS [(.b .bool)]) (varF 0))) (binF FL eqD (varF 0) (varF 1))))))))))
def F__law_is : Nat → EF
  | 0 => nevF
  | k + 1 => bodyF 3 2 (B__law_is (F__law_is k))
abbrev N_is_whole : List Str := ["value"]
def B_is_whole : SF := (retS (andF (unF FL (isiD ICS [(.b .int)]) (varF 0)) (notF (unF FL (isiD ICS [(.b .bool)]) (varF 0)))))
def F_is_whole : EF := bodyF 1 1 B_is_whole
abbrev N_is_day : List Str := ["many", "value", "time"]
def B_is_day : SF := (seqS (ifS (orT (notT (truF FL (unF FL (isiD ICS [(.b .tuple)]) (varF 1)))) (blF FL (binF FL neD (unF FL lenD (varF 1)) (varF 0)))) (retS (litF (.bl false))) skipS) (retS (unF FL allD (lcF FL (seqI FL (kvF FL 1)) (.nm 2) yesT (orF (binF FL isD (varF 2) (litF .non)) (callF F_is_whole 1 (consA FL (kvF FL 2) nilA))) [2]))))
def F_is_day : EF := bodyF 3 2 B_is_day
abbrev N_is_name : List Str := ["value", "sign"]
def B_is_name : SF := (seqS (ifS (orT (notT (truF FL (unF FL (isiD ICS [(.b .str)]) (varF 0)))) (orT (notT (blF FL (chainF FL leD leD (litF (.int 1)) (unF FL lenD (varF 0)) (litF (.int 12))))) (blF FL (binF FL notInD (binF FL ixD (varF 0) (litF (.int 0))) (litF (.str "abcdefghijklmnopqrstuvwxyz")))))) (retS (litF (.bl false))) skipS) (retS (unF FL allD (lcF FL (seqI FL (kvF FL 0)) (.nm 1) yesT (binF FL inD (varF 1) (litF (.str "abcdefghijklmnopqrstuvwxyz0123456789"))) [1]))))
def F_is_name : EF := bodyF 2 1 B_is_name
abbrev N_DayLogu_initu : List Str := ["self", "events", "days", "at", "event", "day"]
def B_DayLogu_initu : SF := (seqS (ifS (orT (notT (truF FL (unF FL (isiD ICS [(.b .list), (.b .tuple)]) (varF 1)))) (notT (truF FL (varF 1)))) nevS skipS) (seqS (forS (enumI FL (kvF FL 1)) (.tp [(.nm 3), (.nm 4)]) (seqS (ifS (notT (truF FL (callF F_is_name 1 (consA FL (kvF FL 4) nilA)))) nevS skipS) (ifS (blF FL (binF FL inD (varF 4) (slF FL (varF 1) noO (someO (varF 3))))) nevS skipS))) (seqS (ifS (notT (truF FL (unF FL (isiD ICS [(.b .list), (.b .tuple)]) (varF 2)))) nevS skipS) (seqS (forS (seqI FL (kvF FL 2)) (.nm 5) (ifS (notT (truF FL (callF F_is_day 2 (consA FL (unF FL lenD (varF 1)) (consA FL (kvF FL 5) nilA))))) nevS skipS)) (seqS (setF FL ICS 0 ("events" : Str) (unF FL tupN (varF 1))) (setF FL ICS 0 ("days" : Str) (unF FL tupOfD (varF 2))))))))
def F_DayLogu_initu : EF := bodyF 6 3 B_DayLogu_initu
abbrev N__law_made_log : List Str := ["log"]
def B__law_made_log : SF := (retS (mkF 1 F_DayLogu_initu 3 (consA FL (binF FL ixD (varF 0) (litF (.int 0))) (consA FL (binF FL ixD (varF 0) (litF (.int 1))) nilA))))
def F__law_made_log : EF := bodyF 1 1 B__law_made_log
abbrev N__law_misaligned_right : List Str := ["log", "period", "told", "total", "step", "event", "first", "second", "at"]
def B__law_misaligned_right : SF := (seqS (ifS (orT (notT (truF FL (unF FL (isiD ICS [(.c 0)]) (varF 2)))) (orT (notT (truF FL (unF FL (isiD ICS [(.b .tuple)]) (unF FL (fldD FL ICS ("steps" : Str)) (varF 2))))) (blF FL (binF FL ltD (unF FL lenD (unF FL (fldD FL ICS ("steps" : Str)) (varF 2))) (litF (.int 2)))))) (retS (litF (.bl false))) skipS) (seqS (asgS 3 (litF (.int 0))) (seqS (forS (seqI FL (unF FL (fldD FL ICS ("steps" : Str)) (varF 2))) (.nm 4) (seqS (ifS (orT (notT (truF FL (unF FL (isiD ICS [(.b .tuple)]) (varF 4)))) (orT (blF FL (binF FL neD (unF FL lenD (varF 4)) (litF (.int 3)))) (orT (truF FL (unF FL (isiD ICS [(.b .bool)]) (binF FL ixD (varF 4) (litF (.int 0))))) (notT (truF FL (unF FL (isiD ICS [(.b .int)]) (binF FL ixD (varF 4) (litF (.int 0))))))))) (retS (litF (.bl false))) skipS) (seqS (ifS (orT (notT (blF FL (chainF FL leD ltD (litF (.int 0)) (binF FL ixD (varF 4) (litF (.int 0))) (unF FL lenD (binF FL ixD (varF 0) (litF (.int 1))))))) (blF FL (binF FL eqD (binF FL ixD (varF 4) (litF (.int 1))) (binF FL ixD (varF 4) (litF (.int 2)))))) (retS (litF (.bl false))) skipS) (seqS (ifS (blF FL (binF FL neD (lcF FL (seqI FL (slF FL (varF 4) (someO (litF (.int 1))) noO)) (.nm 5) (orT (notT (truF FL (unF FL (isiD ICS [(.b .str)]) (varF 5)))) (blF FL (binF FL notInD (varF 5) (binF FL ixD (varF 0) (litF (.int 0)))))) (kvF FL 5) [5]) (lstF nilL))) (retS (litF (.bl false))) skipS) (seqS (patS FL (.tp [(.nm 6), (.nm 7)]) (lcF FL (seqI FL (slF FL (varF 4) (someO (litF (.int 1))) noO)) (.nm 5) yesT (binF FL ixD (binF FL ixD (binF FL ixD (varF 0) (litF (.int 1))) (binF FL ixD (varF 4) (litF (.int 0)))) (idxF FL (binF FL ixD (varF 0) (litF (.int 0))) (varF 5))) [5])) (seqS (ifS (orT (blF FL (binF FL isD (varF 6) (litF .non))) (blF FL (binF FL isD (varF 7) (litF .non)))) (retS (litF (.bl false))) skipS) (asgS 3 (binF FL subD (binF FL addD (varF 3) (varF 7)) (varF 6))))))))) (seqS (ifS (blF FL (binF FL neD (lcF FL (rngI (unF FL lenD (unF FL (fldD FL ICS ("steps" : Str)) (varF 2)))) (.nm 8) (blF FL (binF FL neD (binF FL ixD (binF FL ixD (unF FL (fldD FL ICS ("steps" : Str)) (varF 2)) (binF FL subD (varF 8) (litF (.int 1)))) (litF (.int 2))) (binF FL ixD (binF FL ixD (unF FL (fldD FL ICS ("steps" : Str)) (varF 2)) (varF 8)) (litF (.int 1))))) (kvF FL 8) [8]) (lstF nilL))) (retS (litF (.bl false))) skipS) (retS (binF FL neD (binF FL modD (unF FL intOfD (varF 3)) (varF 1)) (litF (.int 0))))))))
def F__law_misaligned_right : EF := bodyF 9 3 B__law_misaligned_right
abbrev N__law_pen : List Str := ["script", "fold", "cell"]
def B__law_pen : SF := (seqS (asgS 1 (litF (.int 0))) (seqS (forS (seqI FL (kvF FL 0)) (.nm 2) (asgS 1 (binF FL modD (unF FL intOfD (binF FL addD (binF FL mulD (varF 1) (litF (.int 47))) (varF 2))) (litF (.int 1000000007))))) (retS (dispF FL [((litF (.str "cells")), (unNF FL lstOfD (varF 0))), ((litF (.str "at")), (litF (.int 0))), ((litF (.str "digits")), (litF (.int 0))), ((litF (.str "count")), (litF (.int 0))), ((litF (.str "fold")), (kvF FL 1))]))))
def F__law_pen : EF := bodyF 3 1 B__law_pen
abbrev N_seen_on : List Str := ["times", "event", "time"]
def B_seen_on : SF := (retS (lcF FL (enumI FL (kvF FL 0)) (.tp [(.nm 1), (.nm 2)]) (blF FL (binF FL isNotD (varF 2) (litF .non))) (kvF FL 1) [1, 2]))
def F_seen_on : EF := bodyF 3 1 B_seen_on
abbrev N_differences : List Str := ["log", "found", "day", "times", "seen", "other"]
def B_differences : SF := (seqS (asgS 1 (lstF nilL)) (seqS (forS (enumI FL (unF FL (fldD FL ICS ("days" : Str)) (varF 0))) (.tp [(.nm 2), (.nm 3)]) (seqS (asgS 4 (callF F_seen_on 1 (consA FL (kvF FL 3) nilA))) (forS (seqI FL (slF FL (varF 4) (someO (litF (.int 1))) noO)) (.nm 5) (dropS (appF FL 1 (tupF (consL FL (kvF FL 2) (consL FL (binF FL ixD (varF 4) (litF (.int 0))) (consL FL (kvF FL 5) (consL FL (binF FL subD (binF FL ixD (varF 3) (varF 5)) (binF FL ixD (varF 3) (binF FL ixD (varF 4) (litF (.int 0))))) nilL)))))))))) (retS (varF 1))))
def F_differences : EF := bodyF 6 1 B_differences
abbrev N_steps_at : List Str := ["rows", "event", "found", "day", "one", "other", "number"]
def B_steps_at : SF := (seqS (asgS 2 (lstF nilL)) (seqS (forS (seqI FL (kvF FL 0)) (.tp [(.nm 3), (.nm 4), (.nm 5), (.nm 6)]) (seqS (ifS (blF FL (binF FL eqD (varF 4) (varF 1))) (dropS (appF FL 2 (tupF (consL FL (kvF FL 3) (consL FL (kvF FL 5) (consL FL (kvF FL 6) nilL)))))) skipS) (ifS (blF FL (binF FL eqD (varF 5) (varF 1))) (dropS (appF FL 2 (tupF (consL FL (kvF FL 3) (consL FL (kvF FL 4) (consL FL (unF FL negD (varF 6)) nilL)))))) skipS))) (retS (varF 2))))
def F_steps_at : EF := bodyF 7 2 B_steps_at
abbrev N_grown : List Str := ["rows", "period", "rests", "ways", "root", "line", "event", "day", "other", "number", "rest"]
def B_grown : SF := (seqS (asgS 5 (lstF (consL FL (kvF FL 4) nilL))) (seqS (whileS (truF FL (varF 5)) (seqS (asgS 6 (popF 5)) (forS (seqI FL (callF F_steps_at 2 (consA FL (kvF FL 0) (consA FL (kvF FL 6) nilA)))) (.tp [(.nm 7), (.nm 8), (.nm 9)]) (seqS (asgS 10 (binF FL modD (binF FL addD (binF FL dgetD (varF 2) (varF 6)) (varF 9)) (varF 1))) (ifS (blF FL (binF FL notInD (varF 8) (varF 2))) (seqS (tgtS FL (tupG 2 (consG (subG FL 2 (varF 8)) (consG (subG FL 3 (varF 8)) nilG))) (tupF (consL FL (kvF FL 10) (consL FL (tupF (consL FL (kvF FL 7) (consL FL (kvF FL 6) nilL))) nilL)))) (dropS (appF FL 5 (kvF FL 8)))) (ifS (blF FL (binF FL neD (binF FL dgetD (varF 2) (varF 8)) (varF 10))) (retS (tupF (consL FL (kvF FL 7) (consL FL (kvF FL 6) (consL FL (kvF FL 8) nilL))))) skipS)))))) (retS (litF .non))))
def F_grown : EF := bodyF 11 5 B_grown
abbrev N_need_period : List Str := ["period"]
def B_need_period : SF := (ifS (orT (notT (truF FL (callF F_is_whole 1 (consA FL (kvF FL 0) nilA)))) (notT (blF FL (chainF FL leD leD (litF (.int 2)) (varF 0) (litF (.int 1440)))))) nevS skipS)
def F_need_period : EF := bodyF 1 1 B_need_period
abbrev N_number_of_day : List Str := ["times", "period", "rests", "seen"]
def B_number_of_day : SF := (seqS (asgS 3 (callF F_seen_on 1 (consA FL (kvF FL 0) nilA))) (retS (iteF' (truF FL (varF 3)) (binF FL modD (binF FL subD (binF FL dgetD (varF 2) (binF FL ixD (varF 3) (litF (.int 0)))) (binF FL ixD (varF 0) (binF FL ixD (varF 3) (litF (.int 0))))) (varF 1)) (litF (.int 0)))))
def F_number_of_day : EF := bodyF 4 3 B_number_of_day
abbrev N_way_to : List Str := ["ways", "event", "found", "day", "one"]
def B_way_to : SF := (seqS (asgS 2 (lstF nilL)) (seqS (whileS (blF FL (binF FL inD (varF 1) (varF 0))) (seqS (patS FL (.tp [(.nm 3), (.nm 4)]) (binF FL dgetD (varF 0) (varF 1))) (seqS (dropS (appF FL 2 (tupF (consL FL (kvF FL 3) (consL FL (kvF FL 4) (consL FL (kvF FL 1) nilL)))))) (asgS 1 (kvF FL 4))))) (retS (unF FL revD (varF 2)))))
def F_way_to : EF := bodyF 5 2 B_way_to
abbrev N_round_of : List Str := ["log", "ways", "step", "day", "one", "other", "back", "own", "first", "last", "steps"]
def B_round_of : SF := (seqS (patS FL (.tp [(.nm 3), (.nm 4), (.nm 5)]) (kvF FL 2)) (seqS (asgS 6 (lcF FL (seqI FL (unF FL revD (callF F_way_to 2 (consA FL (varF 1) (consA FL (kvF FL 5) nilA))))) (.tp [(.nm 7), (.nm 8), (.nm 9)]) yesT (tupF (consL FL (kvF FL 7) (consL FL (kvF FL 9) (consL FL (kvF FL 8) nilL)))) [7, 8, 9])) (seqS (asgS 10 (binF FL addD (binF FL addD (callF F_way_to 2 (consA FL (varF 1) (consA FL (kvF FL 4) nilA))) (lstF (consL FL (kvF FL 2) nilL))) (varF 6))) (retS (unF FL tupOfD (lcF FL (seqI FL (kvF FL 10)) (.tp [(.nm 7), (.nm 8), (.nm 9)]) yesT (tupF (consL FL (kvF FL 7) (consL FL (binF FL ixD (unF FL (fldD FL ICS ("events" : Str)) (varF 0)) (varF 8)) (consL FL (binF FL ixD (unF FL (fldD FL ICS ("events" : Str)) (varF 0)) (varF 9)) nilL)))) [7, 8, 9]))))))
def F_round_of : EF := bodyF 11 3 B_round_of
abbrev N_lining : List Str := ["log", "period", "rows", "rests", "ways", "times", "seen", "step"]
def B_lining : SF := (seqS (dropS (callF F_need_period 1 (consA FL (kvF FL 1) nilA))) (seqS (parS [2, 3, 4] (consP (callF F_differences 1 (consA FL (kvF FL 0) nilA)) (consP dnewK (consP dnewK nilP)))) (seqS (forS (seqI FL (unF FL (fldD FL ICS ("days" : Str)) (varF 0))) (.nm 5) (seqS (asgS 6 (callF F_seen_on 1 (consA FL (kvF FL 5) nilA))) (ifS (andT (truF FL (varF 6)) (blF FL (binF FL notInD (binF FL ixD (varF 6) (litF (.int 0))) (varF 3)))) (seqS (tgtS FL (subG FL 3 (binF FL ixD (varF 6) (litF (.int 0)))) (binF FL modD (binF FL ixD (varF 5) (binF FL ixD (varF 6) (litF (.int 0)))) (varF 1))) (seqS (asgS 7 (callF F_grown 5 (consA FL (kvF FL 2) (consA FL (kvF FL 1) (consA FL (varF 3) (consA FL (varF 4) (consA FL (binF FL ixD (varF 6) (litF (.int 0))) nilA))))))) (ifS (blF FL (binF FL isNotD (varF 7) (litF .non))) (retS (mkF 0 F_Misalignedu_initu 2 (consA FL (callF F_round_of 3 (consA FL (kvF FL 0) (consA FL (varF 4) (consA FL (kvF FL 7) nilA)))) nilA))) skipS))) skipS))) (retS (unF FL tupOfD (lcF FL (seqI FL (unF FL (fldD FL ICS ("days" : Str)) (varF 0))) (.nm 5) yesT (callF F_number_of_day 3 (consA FL (kvF FL 5) (consA FL (kvF FL 1) (consA FL (varF 3) nilA)))) [5]))))))
def F_lining : EF := bodyF 8 2 B_lining
abbrev N_is_index : List Str := ["value", "many"]
def B_is_index : SF := (retS (andF (callF F_is_whole 1 (consA FL (kvF FL 0) nilA)) (chainF FL leD ltD (litF (.int 0)) (varF 0) (varF 1))))
def F_is_index : EF := bodyF 2 2 B_is_index
abbrev N_is_log_step : List Str := ["log", "value", "event", "day"]
def B_is_log_step : SF := (seqS (ifS (orT (notT (truF FL (unF FL (isiD ICS [(.b .tuple)]) (varF 1)))) (orT (blF FL (binF FL neD (unF FL lenD (varF 1)) (litF (.int 3)))) (notT (truF FL (callF F_is_index 2 (consA FL (binF FL ixD (varF 1) (litF (.int 0))) (consA FL (unF FL lenD (unF FL (fldD FL ICS ("days" : Str)) (varF 0))) nilA))))))) (retS (litF (.bl false))) skipS) (seqS (ifS (orT (notT (truF FL (unF FL allD (lcF FL (seqI FL (slF FL (varF 1) (someO (litF (.int 1))) noO)) (.nm 2) yesT (andF (unF FL (isiD ICS [(.b .str)]) (varF 2)) (binF FL inD (varF 2) (unF FL (fldD FL ICS ("events" : Str)) (varF 0)))) [2])))) (blF FL (binF FL eqD (binF FL ixD (varF 1) (litF (.int 1))) (binF FL ixD (varF 1) (litF (.int 2)))))) (retS (litF (.bl false))) skipS) (seqS (asgS 3 (binF FL ixD (unF FL (fldD FL ICS ("days" : Str)) (varF 0)) (binF FL ixD (varF 1) (litF (.int 0))))) (retS (unF FL allD (lcF FL (seqI FL (slF FL (varF 1) (someO (litF (.int 1))) noO)) (.nm 2) yesT (binF FL isNotD (binF FL ixD (varF 3) (idxF FL (unF FL (fldD FL ICS ("events" : Str)) (varF 0)) (varF 2))) (litF .non)) [2]))))))
def F_is_log_step : EF := bodyF 4 2 B_is_log_step
abbrev N_misaligned_holds : List Str := ["log", "period", "value", "step", "at", "total", "day", "one", "other", "times"]
def B_misaligned_holds : SF := (seqS (dropS (callF F_need_period 1 (consA FL (kvF FL 1) nilA))) (seqS (ifS (orT (notT (truF FL (unF FL (isiD ICS [(.c 0)]) (varF 2)))) (orT (notT (truF FL (unF FL (isiD ICS [(.b .tuple)]) (unF FL (fldD FL ICS ("steps" : Str)) (varF 2))))) (blF FL (binF FL ltD (unF FL lenD (unF FL (fldD FL ICS ("steps" : Str)) (varF 2))) (litF (.int 2)))))) (retS (litF (.bl false))) skipS) (seqS (ifS (notT (truF FL (unF FL allD (lcF FL (seqI FL (unF FL (fldD FL ICS ("steps" : Str)) (varF 2))) (.nm 3) yesT (callF F_is_log_step 2 (consA FL (kvF FL 0) (consA FL (kvF FL 3) nilA))) [3])))) (retS (litF (.bl false))) skipS) (seqS (ifS (truF FL (unF FL anyD (lcF FL (rngI (unF FL lenD (unF FL (fldD FL ICS ("steps" : Str)) (varF 2)))) (.nm 4) yesT (binF FL neD (binF FL ixD (binF FL ixD (unF FL (fldD FL ICS ("steps" : Str)) (varF 2)) (binF FL subD (varF 4) (litF (.int 1)))) (litF (.int 2))) (binF FL ixD (binF FL ixD (unF FL (fldD FL ICS ("steps" : Str)) (varF 2)) (varF 4)) (litF (.int 1)))) [4]))) (retS (litF (.bl false))) skipS) (seqS (asgS 5 (litF (.int 0))) (seqS (forS (seqI FL (unF FL (fldD FL ICS ("steps" : Str)) (varF 2))) (.tp [(.nm 6), (.nm 7), (.nm 8)]) (seqS (asgS 9 (binF FL ixD (unF FL (fldD FL ICS ("days" : Str)) (varF 0)) (varF 6))) (asgS 5 (binF FL subD (binF FL addD (varF 5) (binF FL ixD (varF 9) (idxF FL (unF FL (fldD FL ICS ("events" : Str)) (varF 0)) (varF 8)))) (binF FL ixD (varF 9) (idxF FL (unF FL (fldD FL ICS ("events" : Str)) (varF 0)) (varF 7))))))) (retS (binF FL neD (binF FL modD (varF 5) (varF 1)) (litF (.int 0))))))))))
def F_misaligned_holds : EF := bodyF 10 3 B_misaligned_holds
abbrev N_law : List Str := ["script", "pen", "lap", "period", "log", "made", "told", "turn", "bent", "number", "one"]
def B_law : SF := (seqS (asgS 1 (callF F__law_pen 1 (consA FL (kvF FL 0) nilA))) (seqS (forS (rngI (litF (.int 4))) (.nm 2) (seqS (asgS 3 (binF FL addD (litF (.int 2)) (callF F__law_draw 2 (consA FL (varF 1) (consA FL (litF (.int 6)) nilA))))) (seqS (asgS 4 (callF F__law_drawn_log 3 (consA FL (varF 1) (consA FL (binF FL addD (litF (.int 2)) (callF F__law_draw 2 (consA FL (varF 1) (consA FL (litF (.int 3)) nilA)))) (consA FL (kvF FL 3) nilA))))) (seqS (asgS 5 (callF F__law_made_log 1 (consA FL (kvF FL 4) nilA))) (seqS (asgS 6 (callF F_lining 2 (consA FL (kvF FL 5) (consA FL (kvF FL 3) nilA)))) (forS (rngI (litF (.int 8))) (.nm 7) (seqS (parS [8, 9] (consP (callF F__law_bent 3 (consA FL (varF 1) (consA FL (kvF FL 4) (consA FL (kvF FL 6) nilA)))) (consP (callF F__law_pick 2 (consA FL (varF 1) (consA FL (lstF (consL FL (kvF FL 3) (consL FL (kvF FL 3) (consL FL (binF FL addD (varF 3) (litF (.int 1))) (consL FL (litF (.int 2)) nilL))))) nilA))) nilP))) (ifS (notT (truF FL (callF (F__law_is 3) 2 (consA FL (callF F_misaligned_holds 3 (consA FL (kvF FL 5) (consA FL (kvF FL 9) (consA FL (kvF FL 8) nilA)))) (consA FL (callF F__law_misaligned_right 3 (consA FL (kvF FL 4) (consA FL (kvF FL 9) (consA FL (kvF FL 8) nilA)))) nilA))))) (retS (litF (.bl false))) skipS)))))))) (seqS (asgS 10 (mkF 0 F_Misalignedu_initu 2 (consA FL (lstF (consL FL (lstF (consL FL (litF (.int 0)) (consL FL (litF (.str "a")) (consL FL (litF (.str "b")) nilL)))) (consL FL (lstF (consL FL (litF (.int 1)) (consL FL (litF (.str "b")) (consL FL (litF (.str "a")) nilL)))) nilL))) nilA))) (seqS (ifS (orT (blF FL (binF FL isNotD (cmpF FL ICS 0 F_Misalignedu_equ (kvF FL 10) (mkF 0 F_Misalignedu_initu 2 (consA FL (tupF (consL FL (tupF (consL FL (litF (.int 0)) (consL FL (litF (.str "a")) (consL FL (litF (.str "b")) nilL)))) (consL FL (tupF (consL FL (litF (.int 1)) (consL FL (litF (.str "b")) (consL FL (litF (.str "a")) nilL)))) nilL))) nilA))) (litF (.bl true)))) (blF FL (binF FL isNotD (cmpF FL ICS 0 F_Misalignedu_equ (kvF FL 10) (unF FL (fldD FL ICS ("steps" : Str)) (varF 10))) (litF (.bl false))))) (retS (litF (.bl false))) skipS) (retS (andF (binF FL isD (cmpF FL ICS 0 F_Misalignedu_neu (kvF FL 10) (mkF 0 F_Misalignedu_initu 2 (consA FL (tupF (consL FL (tupF (consL FL (litF (.int 0)) (consL FL (litF (.str "a")) (consL FL (litF (.str "b")) nilL)))) nilL)) nilA))) (litF (.bl true))) (binF FL isD (cmpF FL ICS 0 F_Misalignedu_equ (kvF FL 10) (mkF 0 F_Misalignedu_initu 2 (consA FL (tupF (consL FL (tupF (consL FL (litF (.int 1)) (consL FL (litF (.str "a")) (consL FL (litF (.str "b")) nilL)))) (consL FL (tupF (consL FL (litF (.int 1)) (consL FL (litF (.str "b")) (consL FL (litF (.str "a")) nilL)))) nilL))) nilA))) (litF (.bl false)))))))))
def F_law : EF := bodyF 11 1 B_law
end Lw
set_option Elab.async false
set_option linter.all false
set_option maxRecDepth 100000
set_option maxHeartbeats 4000000
namespace Lw
open PySem PySem.Spec L2 En
local macro_rules | `(tactic| walk_at "op") => `(tactic| first | assumption | rfl | (exact mod_ok (by first | decide | omega)) | (exact mul_r (by first | decide | omega) (by first | decide | omega)) | (exact mul_l (by first | decide | omega) (by first | decide | omega)) | (exact div_ok (by first | decide | omega) (by first | decide | omega)) | assumption)
local macro_rules | `(tactic| walk_at "ev") => `(tactic| first
  | exact ev_lit | exact ev_var rfl | exact ev_kv rfl | exact ev_varo rfl | exact ev_vari rfl | exact ev_kvo rfl rfl
  | (apply ev_bin; walk_at "ev"; rfl; walk_at "ev"; rfl; rfl; rfl; walk_at "op")
  | (apply ev_un; walk_at "ev"; rfl; rfl; walk_at "op")
  | (apply ev_unN; walk_at "ev"; rfl; rfl; walk_at "op")
  | (apply ev_tup; walk_at "evl"; (first | decide | simp))
  | (apply ev_lst; walk_at "evl"; (first | decide | simp))
  | exact ev_dK
  | (apply ev_not; walk_at "ev")
  | (apply ev_and; walk_at "ev"; (intro _; walk_at "ev")) | (apply ev_or; walk_at "ev"; (intro _; walk_at "ev"))
  | (apply ev_chain; walk_at "ev"; walk_at "ev"; rfl; walk_at "ev"; rfl)
  | (apply ev_sl; walk_at "ev"; rfl; walk_at "evo"; walk_at "evo"; rfl; walk_at "op"))
local macro_rules | `(tactic| walk_at "evo") => `(tactic| first | exact evo_no | (apply evo_some; walk_at "ev"))
local macro_rules | `(tactic| walk_at "evl") => `(tactic| first | exact evl_nil | (apply evl_cons; walk_at "ev"; rfl; walk_at "evl") | (apply eva_seq; walk_at "ev"; rfl; rfl) | (apply evl_enum; walk_at "ev"; rfl; rfl) | (apply evl_rng; walk_at "ev"; omega))
local macro_rules | `(tactic| walk_at "eva") => `(tactic| first | exact eva_nil | (apply eva_cons; walk_at "ev"; rfl; walk_at "eva"))
local macro_rules | `(tactic| walk_at "evp") => `(tactic| first | exact evp_nil | (apply evp_cons; walk_at "ev"; rfl; walk_at "evp"))
local macro_rules | `(tactic| walk_at "evt") => `(tactic| first
  | (apply evt_bl; walk_at "ev") | (apply evt_tru; walk_at "ev"; rfl; rfl; walk_at "op") | (apply evt_not; walk_at "evt")
  | (apply evt_and; walk_at "evt"; (intro _; walk_at "evt")) | (apply evt_or; walk_at "evt"; (intro _; walk_at "evt")))
local macro_rules | `(tactic| walk_at "seq") => `(tactic| ((try simp only [skipS_r]); apply seq_i))
local macro_rules | `(tactic| walk_at "asg") => `(tactic| ((try simp only [skipS_r]); apply asg_i; walk_at "ev"; rfl))
local macro_rules | `(tactic| walk_at "if") => `(tactic| ((try simp only [skipS_r]); apply if_i; walk_at "evt"))
local macro_rules | `(tactic| walk_at "ret") => `(tactic| ((try simp only [skipS_r]); apply ret_i; walk_at "ev"))
local macro_rules | `(tactic| walk_at "n") => `(tactic| (try simp only [skipS_r]))
/-- the law's pen -/
def penK : List Key := [.inr "cells", .inr "at", .inr "digits", .inr "count", .inr "fold"]
def penOb (cs : List Int) (a g c f : Int) : Ob := .dK penK [.lst (cs.map .int), .int a, .int g, .int c, .int f]
def PenOk (o : Ob) : Prop := ∃ cs a g c f, o = penOb cs a g c f ∧ 0 ≤ a ∧ 0 ≤ g
theorem pp_at {cs : List Int} {a g c f x : Int} : putOb (penOb cs a g c f) (.str "at") (.int x) = some (penOb cs x g c f) := rfl
theorem pp_digits {cs : List Int} {a g c f x : Int} : putOb (penOb cs a g c f) (.str "digits") (.int x) = some (penOb cs a x c f) := rfl
theorem pp_count {cs : List Int} {a g c f x : Int} : putOb (penOb cs a g c f) (.str "count") (.int x) = some (penOb cs a g x f) := rfl
theorem pp_fold {cs : List Int} {a g c f x : Int} : putOb (penOb cs a g c f) (.str "fold") (.int x) = some (penOb cs a g c x) := rfl
local macro_rules | `(tactic| walk_at "pput") => `(tactic| ((try simp only [skipS_r]); apply tgt_i; walk_at "ev"; rfl; apply sub_i; rfl; rfl; walk_at "ev"; rfl; rfl; rfl; rfl; first | exact pp_at | exact pp_digits | exact pp_count | exact pp_fold))
theorem spec_draw {o : Ob} {m : Int} {P : EV → Env' → Prop} {X : Exx} (ho : PenOk o) (hm : 0 < m) (hm2 : m < 1073741824) (k : ∀ r o' t, 0 ≤ r → r < m → PenOk o' → P (.val (.int r)) (.io o' :: t)) : runF F__law_draw [.io o, .val (.int m)] P X := by
  obtain ⟨cs, a, g, c, f, rfl, ha, hg⟩ := ho
  apply body_i
  walk_at "seq"
  walk_at "pput"
  dsimp only
  apply seq_cut (Q := fun e => ∃ a g c f x, e = [.io (penOb cs a g c f), .val (.int m), x, .un, .un] ∧ 0 ≤ a ∧ 0 ≤ g)
  · walk_at "if"
    · intro hb
      have hb : (eqB (.int g) (.int 0) && decide (a < ((cs.map D.int).length : Int))) = true := hb
      simp [eqB_int] at hb
      obtain ⟨v, _, hv⟩ := ix_int ha hb.2
      walk_at "seq"
      walk_at "asg"
      walk_at "seq"
      walk_at "pput"
      walk_at "if"
      · intro hb2
        have hb2 : decide (((10 : Int) ^ (18 : Int).toNat) ≤ v) = true := hb2
        simp at hb2
        walk_at "pput"
        exact ⟨_, _, _, _, _, rfl, by omega, by show 0 ≤ v - (10 : Int) ^ (18 : Int).toNat; simp; omega⟩
      · intro _
        walk_at "pput"
        exact ⟨_, _, _, _, _, rfl, by omega, hg⟩
    · intro _
      exact ⟨_, _, _, _, _, rfl, ha, hg⟩
  · rintro _ ⟨a, g, c, f, x, rfl, ha, hg⟩
    walk_at "seq"
    walk_at "if"
    · intro hb
      have hb : decide ((0 : Int) < g) = true := hb
      simp at hb
      walk_at "seq"
      walk_at "asg"
      walk_at "seq"
      walk_at "pput"
      walk_at "ret"
      exact ⟨_, rfl, k _ _ _ (Int.emod_nonneg _ (by omega)) (Int.emod_lt_of_pos _ hm) ⟨_, _, _, _, _, rfl, ha, Int.ediv_nonneg hg (by omega)⟩⟩
    · intro _
      walk_at "seq"
      walk_at "asg"
      have h1 := Int.emod_nonneg (f * 48271 + c * 7919 + 13) (by decide : (2147483647 : Int) ≠ 0)
      have h2 := Int.emod_lt_of_pos (f * 48271 + c * 7919 + 13) (by decide : (0 : Int) < 2147483647)
      generalize (f * 48271 + c * 7919 + 13) % 2147483647 = b at *
      walk_at "seq"
      walk_at "asg"
      have h3 := Int.emod_nonneg (b * b + 31 * b + c) (by decide : (2147483629 : Int) ≠ 0)
      generalize (b * b + 31 * b + c) % 2147483629 = b2 at *
      walk_at "seq"
      walk_at "pput"
      walk_at "ret"
      exact ⟨_, rfl, k _ _ _ (Int.emod_nonneg _ (by omega)) (Int.emod_lt_of_pos _ hm) ⟨_, _, _, _, _, rfl, ha, hg⟩⟩
end Lw
set_option Elab.async false
set_option linter.all false
set_option maxRecDepth 100000
set_option maxHeartbeats 4000000
namespace Lw
open PySem PySem.Spec L2 En
local macro_rules | `(tactic| walk_at "op") => `(tactic| first | assumption | rfl | (exact mod_ok (by first | decide | omega)) | (exact mul_r (by first | decide | omega) (by first | decide | omega)) | (exact mul_l (by first | decide | omega) (by first | decide | omega)) | (exact div_ok (by first | decide | omega) (by first | decide | omega)) | assumption)
local macro_rules | `(tactic| walk_at "ev") => `(tactic| first
  | exact ev_lit | exact ev_var rfl | exact ev_kv rfl | exact ev_varo rfl | exact ev_vari rfl | exact ev_kvo rfl rfl
  | (apply ev_bin; walk_at "ev"; rfl; walk_at "ev"; rfl; rfl; rfl; walk_at "op")
  | (apply ev_un; walk_at "ev"; rfl; rfl; walk_at "op")
  | (apply ev_unN; walk_at "ev"; rfl; rfl; walk_at "op")
  | (apply ev_tup; walk_at "evl"; (first | decide | simp))
  | (apply ev_lst; walk_at "evl"; (first | decide | simp))
  | exact ev_dK
  | (apply ev_not; walk_at "ev")
  | (apply ev_and; walk_at "ev"; (intro _; walk_at "ev")) | (apply ev_or; walk_at "ev"; (intro _; walk_at "ev"))
  | (apply ev_chain; walk_at "ev"; walk_at "ev"; rfl; walk_at "ev"; rfl)
  | (apply ev_sl; walk_at "ev"; rfl; walk_at "evo"; walk_at "evo"; rfl; walk_at "op"))
local macro_rules | `(tactic| walk_at "evo") => `(tactic| first | exact evo_no | (apply evo_some; walk_at "ev"))
local macro_rules | `(tactic| walk_at "evl") => `(tactic| first | exact evl_nil | (apply evl_cons; walk_at "ev"; rfl; walk_at "evl") | (apply eva_seq; walk_at "ev"; rfl; rfl) | (apply evl_enum; walk_at "ev"; rfl; rfl) | (apply evl_rng; walk_at "ev"; omega))
local macro_rules | `(tactic| walk_at "eva") => `(tactic| first | exact eva_nil | (apply eva_cons; walk_at "ev"; rfl; walk_at "eva"))
local macro_rules | `(tactic| walk_at "evp") => `(tactic| first | exact evp_nil | (apply evp_cons; walk_at "ev"; rfl; walk_at "evp"))
local macro_rules | `(tactic| walk_at "evt") => `(tactic| first
  | (apply evt_bl; walk_at "ev") | (apply evt_tru; walk_at "ev"; rfl; rfl; walk_at "op") | (apply evt_not; walk_at "evt")
  | (apply evt_and; walk_at "evt"; (intro _; walk_at "evt")) | (apply evt_or; walk_at "evt"; (intro _; walk_at "evt")))
local macro_rules | `(tactic| walk_at "seq") => `(tactic| ((try simp only [skipS_r]); apply seq_i))
local macro_rules | `(tactic| walk_at "asg") => `(tactic| ((try simp only [skipS_r]); apply asg_i; walk_at "ev"; rfl))
local macro_rules | `(tactic| walk_at "if") => `(tactic| ((try simp only [skipS_r]); apply if_i; walk_at "evt"))
local macro_rules | `(tactic| walk_at "ret") => `(tactic| ((try simp only [skipS_r]); apply ret_i; walk_at "ev"))
local macro_rules | `(tactic| walk_at "n") => `(tactic| (try simp only [skipS_r]))
theorem spec_pick {o : Ob} {d : D} {n : Int} {P : EV → Env' → Prop} {X : Exx} (ho : PenOk o) (hl : lenD d = some (.int n)) (hn : 0 < n) (hn2 : n < 1073741824)
    (hx : ∀ r, 0 ≤ r → r < n → ∃ v, ixD d (.int r) = some v ∧ ∀ o' t, PenOk o' → P (.val v) (.io o' :: t)) : runF F__law_pick [.io o, .val d] P X := by
  apply body_i
  apply ret_c
  apply bin_r
  · exact ev_var rfl
  · rfl
  apply call_i
  · apply eva_cons
    · exact ev_vari rfl
    · rfl
    apply eva_cons
    · apply ev_un
      · exact ev_var rfl
      · rfl
      · rfl
      · exact hl
    · rfl
    exact eva_nil
  · rfl
  · simp
  refine spec_draw ho hn hn2 fun r o' t h0 h1 ho' => ?_
  refine ⟨rfl, _, rfl, _, rfl, ?_⟩
  obtain ⟨v, hv, k⟩ := hx r h0 h1
  exact ⟨_, _, _, rfl, rfl, hv, _, rfl, k o' _ ho'⟩
theorem int_map {ns : List Int} {k : Nat} {d : D} (h : (ns.map D.int)[k]? = some d) : ∃ i, ns[k]? = some i ∧ d = .int i := by
  rw [List.getElem?_map] at h
  obtain ⟨i, h1, rfl⟩ := Option.map_eq_some_iff.mp h
  exact ⟨i, h1, rfl⟩
theorem penK_nd : penK.Nodup := by
  have e : penK = [.inr ⟨#[99, 101, 108, 108, 115]⟩, .inr ⟨#[97, 116]⟩, .inr ⟨#[100, 105, 103, 105, 116, 115]⟩, .inr ⟨#[99, 111, 117, 110, 116]⟩, .inr ⟨#[102, 111, 108, 100]⟩] := by
    simp only [penK, Str.ofString_eq_toList]; rfl
  rw [e]; decide
theorem spec_pen {ns : List Int} {P : EV → Env' → Prop} {X : Exx} (hz : ns.length ≤ 63) (k : ∀ o t, PenOk o → P (.new o) t) : runF F__law_pen [.val (.lst (ns.map .int))] P X := by
  apply body_i
  walk_at "seq"
  walk_at "asg"
  walk_at "n"
  apply seq_cut (Q := fun e => ∃ f x, e = [.val (.lst (ns.map .int)), .val (.int f), x] ∧ x.isIo = false)
  · apply for_i
    · walk_at "evl"
    refine forL_inv _ (fun _ e => ∃ f x, e = [.val (.lst (ns.map .int)), .val (.int f), x] ∧ x.isIo = false) ⟨_, _, rfl, rfl⟩ ?_ fun e h => h
    rintro j d e hj ⟨f, x, rfl, hx⟩
    obtain ⟨i, _, rfl⟩ := int_map hj
    refine ⟨[.val (.lst (ns.map .int)), .val (.int f), .val (.int i)], by simp [hx], ?_⟩
    walk_at "asg"
    exact ⟨_, _, rfl, rfl⟩
  · rintro _ ⟨f, x, rfl, hx⟩
    apply ret_c
    refine ⟨_, rfl, ?_⟩
    refine (by walk_at "ev" : Ev _ _ _ _) _ _ ?_
    refine ⟨_, rfl, ?_⟩
    refine ⟨_, rfl, _, rfl, _, rfl, _, rfl, _, rfl, _, rfl, _, rfl, ?_⟩
    refine (ev_kv rfl : Ev (kvF FL 1) _ _ _) _ _ ?_
    refine ⟨_, rfl, penK, rfl, penK_nd, by decide, _, rfl, ?_⟩
    exact k _ _ ⟨ns, 0, 0, 0, f, rfl, by omega, by omega⟩
def LET : List Nat := (List.range 26).map (97 + ·)
def SGN : List Nat := LET ++ (List.range 10).map (48 + ·)
theorem let_eq : ("abcdefghijklmnopqrstuvwxyz" : Str) = St LET := by rw [Str.ofString_eq_toList]; rfl
theorem sgn_eq : ("abcdefghijklmnopqrstuvwxyz0123456789" : Str) = St SGN := by rw [Str.ofString_eq_toList]; rfl
/-- a name's signs -/
def NmOk (cs : List Nat) : Prop := ∃ c r, cs = c :: r ∧ c ∈ LET ∧ (∀ x ∈ r, x ∈ SGN) ∧ r.length ≤ 11
theorem pick_st {o : Ob} {l : List Nat} {P : EV → Env' → Prop} {X : Exx} (ho : PenOk o) (hn : 0 < l.length) (hz : l.length ≤ 1000) (k : ∀ c ∈ l, ∀ o' t, PenOk o' → P (.val (.str (St [c]))) (.io o' :: t)) : runF F__law_pick [.io o, .val (.str (St l))] P X :=
  spec_pick ho (len_st hz) (by omega) (by omega) fun r h0 h1 => by
    obtain ⟨c, hc, e⟩ := ix_st hz h0 h1
    exact ⟨_, e, k c hc⟩
end Lw
set_option Elab.async false
set_option linter.all false
set_option maxRecDepth 100000
set_option maxHeartbeats 4000000
namespace Lw
open PySem PySem.Spec L2 En
local macro_rules | `(tactic| walk_at "op") => `(tactic| first | assumption | rfl | (exact mod_ok (by first | decide | omega)) | (exact mul_r (by first | decide | omega) (by first | decide | omega)) | (exact mul_l (by first | decide | omega) (by first | decide | omega)) | (exact div_ok (by first | decide | omega) (by first | decide | omega)) | assumption)
local macro_rules | `(tactic| walk_at "ev") => `(tactic| first
  | exact ev_lit | exact ev_var rfl | exact ev_kv rfl | exact ev_varo rfl | exact ev_vari rfl | exact ev_kvo rfl rfl
  | (apply ev_bin; walk_at "ev"; rfl; walk_at "ev"; rfl; rfl; rfl; walk_at "op")
  | (apply ev_un; walk_at "ev"; rfl; rfl; walk_at "op")
  | (apply ev_unN; walk_at "ev"; rfl; rfl; walk_at "op")
  | (apply ev_tup; walk_at "evl"; (first | decide | simp))
  | (apply ev_lst; walk_at "evl"; (first | decide | simp))
  | exact ev_dK
  | (apply ev_not; walk_at "ev")
  | (apply ev_and; walk_at "ev"; (intro _; walk_at "ev")) | (apply ev_or; walk_at "ev"; (intro _; walk_at "ev"))
  | (apply ev_chain; walk_at "ev"; walk_at "ev"; rfl; walk_at "ev"; rfl)
  | (apply ev_sl; walk_at "ev"; rfl; walk_at "evo"; walk_at "evo"; rfl; walk_at "op"))
local macro_rules | `(tactic| walk_at "evo") => `(tactic| first | exact evo_no | (apply evo_some; walk_at "ev"))
local macro_rules | `(tactic| walk_at "evl") => `(tactic| first | exact evl_nil | (apply evl_cons; walk_at "ev"; rfl; walk_at "evl") | (apply eva_seq; walk_at "ev"; rfl; rfl) | (apply evl_enum; walk_at "ev"; rfl; rfl) | (apply evl_rng; walk_at "ev"; omega))
local macro_rules | `(tactic| walk_at "eva") => `(tactic| first | exact eva_nil | (apply eva_cons; walk_at "ev"; rfl; walk_at "eva"))
local macro_rules | `(tactic| walk_at "evp") => `(tactic| first | exact evp_nil | (apply evp_cons; walk_at "ev"; rfl; walk_at "evp"))
local macro_rules | `(tactic| walk_at "evt") => `(tactic| first
  | (apply evt_bl; walk_at "ev") | (apply evt_tru; walk_at "ev"; rfl; rfl; walk_at "op") | (apply evt_not; walk_at "evt")
  | (apply evt_and; walk_at "evt"; (intro _; walk_at "evt")) | (apply evt_or; walk_at "evt"; (intro _; walk_at "evt")))
local macro_rules | `(tactic| walk_at "seq") => `(tactic| ((try simp only [skipS_r]); apply seq_i))
local macro_rules | `(tactic| walk_at "asg") => `(tactic| ((try simp only [skipS_r]); apply asg_i; walk_at "ev"; rfl))
local macro_rules | `(tactic| walk_at "if") => `(tactic| ((try simp only [skipS_r]); apply if_i; walk_at "evt"))
local macro_rules | `(tactic| walk_at "ret") => `(tactic| ((try simp only [skipS_r]); apply ret_i; walk_at "ev"))
local macro_rules | `(tactic| walk_at "n") => `(tactic| (try simp only [skipS_r]))
theorem spec_name {o : Ob} {P : EV → Env' → Prop} {X : Exx} (ho : PenOk o) (k : ∀ cs o' t, NmOk cs → PenOk o' → P (.val (.str (St cs))) (.io o' :: t)) : runF F__law_name [.io o] P X := by
  apply body_i
  walk_at "seq"
  apply par_i
  · walk_at "evp"
  · rfl
  simp only [let_eq, sgn_eq]
  walk_at "seq"
  apply asg_c
  apply bin_r
  · walk_at "ev"
  · rfl
  apply call_i
  · walk_at "eva"
  · rfl
  · simp
  refine spec_draw ho (by decide) (by decide) fun r o1 t h0 h1 ho1 => ?_
  refine ⟨rfl, _, rfl, _, rfl, ?_⟩
  have hr : ∃ n : Int, 0 ≤ n ∧ n ≤ 11 ∧ ixD (.lst [.int 0, .int 0, .int 1, .int 2, .int 5, .int 11]) (.int r) = some (.int n) := by
    have : r = 0 ∨ r = 1 ∨ r = 2 ∨ r = 3 ∨ r = 4 ∨ r = 5 := by omega
    rcases this with rfl | rfl | rfl | rfl | rfl | rfl <;> exact ⟨_, by decide, by decide, rfl⟩
  obtain ⟨n, n0, n1, hn⟩ := hr
  refine ⟨_, _, _, rfl, rfl, hn, _, rfl, ?_⟩
  walk_at "n"
  apply ret_c
  apply bin_l
  apply call_i
  · walk_at "eva"
  · rfl
  · simp
  refine pick_st ho1 (by decide) (by decide) fun c hc o2 t2 ho2 => ?_
  refine ⟨rfl, _, rfl, _, rfl, ?_⟩
  apply un_c
  apply lc_i
  · apply evl_rng
    · exact ev_var rfl
    · omega
  · rfl
  refine compL_inv _ (fun j acc e => ∃ cs o3, acc = cs.map (fun c => D.str (St [c])) ∧ cs.length = j ∧ (∀ x ∈ cs, x ∈ SGN) ∧ PenOk o3 ∧ e = [.io o3, .val (.str (St LET)), .val (.str (St SGN)), .val (.int n), .un]) ⟨[], o2, rfl, rfl, (fun _ h => nomatch h), ho2, rfl⟩ ?_ ?_
  · rintro j d acc e hj ⟨cs, o3, rfl, hl, hs, ho3, rfl⟩
    obtain ⟨hj1, rfl⟩ := intsD_get hj
    refine ⟨_, by simp; rfl, ?_⟩
    apply yes_i
    apply call_i
    · walk_at "eva"
    · rfl
    · simp
    refine pick_st ho3 (by decide) (by decide) fun c hc o4 t4 ho4 => ?_
    refine ⟨rfl, _, rfl, _, rfl, by rw [List.length_map]; omega, rfl, cs ++ [c], o4, by simp, by simp [hl], ?_, ho4, rfl⟩
    intro x hx
    rcases List.mem_append.mp hx with hx | hx
    · exact hs x hx
    · rw [List.mem_singleton.mp hx]; exact hc
  · rintro acc e ⟨cs, o3, rfl, hl, hs, ho3, rfl⟩
    rw [intsD_len] at hl
    refine ⟨_, rfl, _, _, rfl, join_st (by omega), _, rfl, _, _, _, rfl, rfl, add_st (by simp; omega), _, rfl, ?_⟩
    exact k _ _ _ ⟨c, cs, rfl, hc, hs, by omega⟩ ho3
end Lw
set_option Elab.async false
set_option linter.all false
set_option maxRecDepth 100000
set_option maxHeartbeats 4000000
namespace Lw
open PySem PySem.Spec L2 En
local macro_rules | `(tactic| walk_at "op") => `(tactic| first | assumption | rfl | (exact mod_ok (by first | decide | omega)) | (exact mul_r (by first | decide | omega) (by first | decide | omega)) | (exact mul_l (by first | decide | omega) (by first | decide | omega)) | (exact div_ok (by first | decide | omega) (by first | decide | omega)) | assumption)
local macro_rules | `(tactic| walk_at "ev") => `(tactic| first
  | exact ev_lit | exact ev_var rfl | exact ev_kv rfl | exact ev_varo rfl | exact ev_vari rfl | exact ev_kvo rfl rfl
  | (apply ev_bin; walk_at "ev"; rfl; walk_at "ev"; rfl; rfl; rfl; walk_at "op")
  | (apply ev_un; walk_at "ev"; rfl; rfl; walk_at "op")
  | (apply ev_unN; walk_at "ev"; rfl; rfl; walk_at "op")
  | (apply ev_tup; walk_at "evl"; (first | decide | simp))
  | (apply ev_lst; walk_at "evl"; (first | decide | simp))
  | exact ev_dK
  | (apply ev_not; walk_at "ev")
  | (apply ev_and; walk_at "ev"; (intro _; walk_at "ev")) | (apply ev_or; walk_at "ev"; (intro _; walk_at "ev"))
  | (apply ev_chain; walk_at "ev"; walk_at "ev"; rfl; walk_at "ev"; rfl)
  | (apply ev_sl; walk_at "ev"; rfl; walk_at "evo"; walk_at "evo"; rfl; walk_at "op"))
local macro_rules | `(tactic| walk_at "evo") => `(tactic| first | exact evo_no | (apply evo_some; walk_at "ev"))
local macro_rules | `(tactic| walk_at "evl") => `(tactic| first | exact evl_nil | (apply evl_cons; walk_at "ev"; rfl; walk_at "evl") | (apply eva_seq; walk_at "ev"; rfl; rfl) | (apply evl_enum; walk_at "ev"; rfl; rfl) | (apply evl_rng; walk_at "ev"; omega))
local macro_rules | `(tactic| walk_at "eva") => `(tactic| first | exact eva_nil | (apply eva_cons; walk_at "ev"; rfl; walk_at "eva"))
local macro_rules | `(tactic| walk_at "evp") => `(tactic| first | exact evp_nil | (apply evp_cons; walk_at "ev"; rfl; walk_at "evp"))
local macro_rules | `(tactic| walk_at "evt") => `(tactic| first
  | (apply evt_bl; walk_at "ev") | (apply evt_tru; walk_at "ev"; rfl; rfl; walk_at "op") | (apply evt_not; walk_at "evt")
  | (apply evt_and; walk_at "evt"; (intro _; walk_at "evt")) | (apply evt_or; walk_at "evt"; (intro _; walk_at "evt")))
local macro_rules | `(tactic| walk_at "seq") => `(tactic| ((try simp only [skipS_r]); apply seq_i))
local macro_rules | `(tactic| walk_at "asg") => `(tactic| ((try simp only [skipS_r]); apply asg_i; walk_at "ev"; rfl))
local macro_rules | `(tactic| walk_at "if") => `(tactic| ((try simp only [skipS_r]); apply if_i; walk_at "evt"))
local macro_rules | `(tactic| walk_at "ret") => `(tactic| ((try simp only [skipS_r]); apply ret_i; walk_at "ev"))
local macro_rules | `(tactic| walk_at "n") => `(tactic| (try simp only [skipS_r]))
theorem zq_eq : ("z" : Str) = St [122] ∧ ("q" : Str) = St [113] ∧ ("0" : Str) = St [48] := by
  refine ⟨?_, ?_, ?_⟩ <;> (rw [Str.ofString_eq_toList]; rfl)
abbrev nmD (css : List (List Nat)) : List D := css.map fun cs => D.str (St cs)
theorem st_inj {a b : List Nat} : (St a == St b) = decide (b = a) := by
  by_cases h : b = a
  · subst h; simp
  · have : St a ≠ St b := fun z => h (by
      have := congrArg (fun s => s.cps.toList) z
      simpa using this.symm)
    simp [h, this]
theorem in_st {cs : List Nat} {css : List (List Nat)} : inD (.str (St cs)) (.lst (nmD css)) = some (.bl (decide (cs ∈ css))) := by
  have h1 : ((nmD css).all flatD) = true := by
    rw [List.all_eq_true]
    intro d hd
    obtain ⟨x, _, rfl⟩ := List.mem_map.mp hd
    rfl
  show (if (flatD (.str (St cs)) && (nmD css).all flatD) then some ((nmD css).any fun z => eqB z (.str (St cs))) else none).map D.bl = _
  rw [h1]
  show some (D.bl ((nmD css).any fun z => eqB z (.str (St cs)))) = _
  congr 2
  induction css with
  | nil => rfl
  | cons x css ih =>
    have h1 : ((nmD css).all flatD) = true := by
      rw [List.all_eq_true]
      intro d hd
      obtain ⟨x, _, rfl⟩ := List.mem_map.mp hd
      rfl
    show (eqB (.str (St x)) (.str (St cs)) || (nmD css).any fun z => eqB z (.str (St cs))) = _
    rw [ih h1, eqB_str, st_inj]
    by_cases h : cs = x <;> simp [h]
theorem str_lap {j : Nat} (h : j < 4) : strOfD (.int (j : Int)) = some (.str (St [48 + j])) := by
  have : j = 0 ∨ j = 1 ∨ j = 2 ∨ j = 3 := by omega
  rcases this with rfl | rfl | rfl | rfl <;> (unfold strOfD; dsimp only; rw [if_pos (by decide), Str.ofString_eq_toList]; rfl)
theorem filt_mono (n : Nat) : ∀ l : List (List Nat), (l.filter fun c => decide (n + 1 ≤ c.length)).length ≤ (l.filter fun c => decide (n ≤ c.length)).length
  | [] => Nat.le_refl _
  | z :: l => by
    have ih := filt_mono n l
    rw [List.filter_cons, List.filter_cons]
    by_cases h1 : n + 1 ≤ z.length
    · rw [if_pos (by simpa using h1), if_pos (by simp; omega), List.length_cons, List.length_cons]; omega
    · rw [if_neg (by simpa using h1)]
      split
      · rw [List.length_cons]; omega
      · exact ih
theorem filt_lt {n : Nat} {x : List Nat} (hx : x.length = n) : ∀ {l : List (List Nat)}, x ∈ l → (l.filter fun c => decide (n + 1 ≤ c.length)).length < (l.filter fun c => decide (n ≤ c.length)).length
  | z :: l, h => by
    rw [List.filter_cons, List.filter_cons]
    rcases List.mem_cons.mp h with rfl | h
    · rw [if_neg (by simp; omega), if_pos (by simp; omega), List.length_cons]
      have := filt_mono n l
      omega
    · have ih := filt_lt hx h
      by_cases h1 : n + 1 ≤ z.length
      · rw [if_pos (by simpa using h1), if_pos (by simp; omega), List.length_cons, List.length_cons]; omega
      · rw [if_neg (by simpa using h1)]
        split
        · rw [List.length_cons]; omega
        · exact ih
theorem dig_sgn {j : Nat} (h : j < 4) : 48 + j ∈ SGN := by
  have : j = 0 ∨ j = 1 ∨ j = 2 ∨ j = 3 := by omega
  rcases this with rfl | rfl | rfl | rfl <;> decide
theorem spec_names {o : Ob} {m : Nat} {P : EV → Env' → Prop} {X : Exx} (ho : PenOk o) (hm : m ≤ 4)
    (k : ∀ (css : List (List Nat)) o' t, css.length = m → css.Nodup → (∀ cs ∈ css, NmOk cs) → PenOk o' → P (.val (.nms (css.map St))) (.io o' :: t)) : runF F__law_names [.io o, .val (.int (m : Int))] P X := by
  apply body_i
  walk_at "seq"
  walk_at "asg"
  walk_at "n"
  apply seq_cut (Q := fun e => ∃ css o' a b, e = [.io o', .val (.int (m : Int)), .own (.lst (nmD css)), a, b] ∧ css.length = m ∧ css.Nodup ∧ (∀ cs ∈ css, NmOk cs) ∧ PenOk o')
  · apply for_i
    · apply evl_rng
      · exact ev_var rfl
      · omega
    refine forL_inv _ (fun j e => ∃ css o' a b, e = [.io o', .val (.int (m : Int)), .own (.lst (nmD css)), a, b] ∧ a.isIo = false ∧ b.isIo = false ∧ css.length = j ∧ css.Nodup ∧ (∀ cs ∈ css, NmOk cs) ∧ PenOk o') ⟨[], o, _, _, rfl, rfl, rfl, rfl, List.nodup_nil, (fun _ h => nomatch h), ho⟩ ?_ ?_
    · rintro j d e hj ⟨css, o1, a, b, rfl, ha, hb, hl, hn, hk, ho1⟩
      obtain ⟨hj1, rfl⟩ := intsD_get hj
      have hj4 : j < 4 := by simp at hj1; omega
      refine ⟨[.io o1, .val (.int (m : Int)), .own (.lst (nmD css)), .val (.int (j : Int)), b], by simp [ha], ?_⟩
      walk_at "seq"
      apply asg_c
      apply call_i
      · walk_at "eva"
      · rfl
      · simp
      refine spec_name ho1 fun cs o2 t hcs ho2 => ?_
      refine ⟨rfl, _, rfl, [.io o2, .val (.int (m : Int)), .own (.lst (nmD css)), .val (.int (j : Int)), .val (.str (St cs))], by simp [hb], ?_⟩
      walk_at "n"
      apply seq_cut (Q := fun e => ∃ nm, e = [.io o2, .val (.int (m : Int)), .own (.lst (nmD css)), .val (.int (j : Int)), .val (.str (St nm))] ∧ NmOk nm ∧ (nm ∈ css → nm.length ≤ 3))
      · apply if_i
        · apply evt_bl
          apply ev_bin
          · exact ev_var rfl
          · rfl
          · exact ev_varo rfl
          · rfl
          · rfl
          · rfl
          · exact in_st
        · intro _
          simp only [zq_eq.1, zq_eq.2.1]
          apply asg_i
          · apply ev_bin
            · apply ev_bin
              · exact ev_lit
              · rfl
              · apply ev_un
                · exact ev_var rfl
                · rfl
                · rfl
                · exact str_lap hj4
              · rfl
              · rfl
              · rfl
              · exact add_st (by simp)
            · rfl
            · exact ev_lit
            · rfl
            · rfl
            · rfl
            · exact add_st (by simp)
          · rfl
          exact ⟨_, rfl, ⟨122, [48 + j, 113], rfl, by decide, by
            intro x hx
            simp at hx
            rcases hx with rfl | rfl
            · exact dig_sgn hj4
            · decide, by simp⟩, fun _ => by simp⟩
        · intro h
          have h : decide (cs ∈ css) = false := h
          simp at h
          exact ⟨cs, rfl, hcs, fun z => absurd z h⟩
      · rintro _ ⟨nm, rfl, hnm, hn3⟩
        walk_at "n"
        apply seq_cut (Q := fun e => ∃ nm, e = [.io o2, .val (.int (m : Int)), .own (.lst (nmD css)), .val (.int (j : Int)), .val (.str (St nm))] ∧ NmOk nm ∧ nm ∉ css)
        · refine while_inv (fun k e => ∃ nm, e = [.io o2, .val (.int (m : Int)), .own (.lst (nmD css)), .val (.int (j : Int)), .val (.str (St nm))] ∧ NmOk nm ∧ (css.filter fun c => decide (nm.length ≤ c.length)).length ≤ k ∧ (nm ∈ css → nm.length + k ≤ 8)) css.length ⟨nm, rfl, hnm, List.length_filter_le _ _, fun z => by have := hn3 z; omega⟩ ?_
          rintro k _ ⟨nm, rfl, hnm, hf, h8⟩
          refine (evt_bl (ev_bin (ev_var rfl) rfl (ev_varo rfl) rfl rfl rfl in_st) : EvT _ _ _ _) _ _ ?_
          by_cases hc : nm ∈ css
          · rw [if_pos (by simpa using hc)]
            simp only [zq_eq.2.2]
            have hz := h8 hc
            obtain ⟨c0, r0, rfl, g1, g2, g3⟩ := hnm
            apply asg_i
            · apply ev_bin
              · exact ev_var rfl
              · rfl
              · exact ev_lit
              · rfl
              · rfl
              · rfl
              · exact add_st (by simp; omega)
            · rfl
            have hlt := filt_lt (n := (c0 :: r0).length) rfl hc
            have hl2 : (c0 :: r0 ++ [48]).length = (c0 :: r0).length + 1 := by simp
            refine ⟨k - 1, by omega, c0 :: r0 ++ [48], rfl, ⟨c0, r0 ++ [48], rfl, g1, ?_, by simp at hz ⊢; omega⟩, by rw [hl2]; omega, fun _ => by rw [hl2]; omega⟩
            intro x hx
            rcases List.mem_append.mp hx with hx | hx
            · exact g2 x hx
            · rw [List.mem_singleton.mp hx]; decide
          · rw [if_neg (by simpa using hc)]
            exact ⟨nm, rfl, hnm, hc⟩
        · rintro _ ⟨nm, rfl, hnm, hc⟩
          apply drop_i
          · apply app_i
            · exact ⟨_, rfl, _, rfl⟩
            · exact ev_kv rfl
            · rfl
            · rfl
            · rfl
            · simp; omega
          refine ⟨css ++ [nm], o2, _, _, by simp; exact ⟨rfl, rfl⟩, rfl, rfl, by simp [hl], ?_, ?_, ho2⟩
          · rw [List.nodup_append]
            refine ⟨hn, by simp, fun a ha b hb => ?_⟩
            rw [List.mem_singleton.mp hb]
            exact fun z => hc (by rw [← z]; exact ha)
          · intro x hx
            rcases List.mem_append.mp hx with hx | hx
            · exact hk x hx
            · rw [List.mem_singleton.mp hx]; exact hnm
    · rintro e ⟨css, o', a, b, rfl, _, _, hl, hn, hk, ho'⟩
      rw [intsD_len] at hl
      exact ⟨css, o', a, b, rfl, by simpa using hl, hn, hk, ho'⟩
  · rintro _ ⟨css, o', a, b, rfl, hl, hn, hk, ho'⟩
    apply ret_i
    · apply ev_un
      · exact ev_varo rfl
      · rfl
      · rfl
      · show (strsD? (nmD css)).map D.nms = _
        have : strsD? (nmD css) = some (css.map St) := by
          clear hl hn hk
          induction css with
          | nil => rfl
          | cons c r ih =>
            show (strsD? (nmD r)).map (St c :: ·) = _
            rw [ih]; rfl
        rw [this]; rfl
    exact ⟨_, rfl, k css _ _ hl hn hk ho'⟩
end Lw
set_option Elab.async false
set_option linter.all false
set_option maxRecDepth 100000
set_option maxHeartbeats 4000000
namespace Lw
open PySem PySem.Spec L2 En
local macro_rules | `(tactic| walk_at "op") => `(tactic| first | assumption | rfl | (exact mod_ok (by first | decide | omega)) | (exact mul_r (by first | decide | omega) (by first | decide | omega)) | (exact mul_l (by first | decide | omega) (by first | decide | omega)) | (exact div_ok (by first | decide | omega) (by first | decide | omega)) | assumption)
local macro_rules | `(tactic| walk_at "ev") => `(tactic| first
  | exact ev_lit | exact ev_var rfl | exact ev_kv rfl | exact ev_varo rfl | exact ev_vari rfl | exact ev_kvo rfl rfl
  | (apply ev_bin; walk_at "ev"; rfl; walk_at "ev"; rfl; rfl; rfl; walk_at "op")
  | (apply ev_un; walk_at "ev"; rfl; rfl; walk_at "op")
  | (apply ev_unN; walk_at "ev"; rfl; rfl; walk_at "op")
  | (apply ev_tup; walk_at "evl"; (first | decide | simp))
  | (apply ev_lst; walk_at "evl"; (first | decide | simp))
  | exact ev_dK
  | (apply ev_not; walk_at "ev")
  | (apply ev_and; walk_at "ev"; (intro _; walk_at "ev")) | (apply ev_or; walk_at "ev"; (intro _; walk_at "ev"))
  | (apply ev_chain; walk_at "ev"; walk_at "ev"; rfl; walk_at "ev"; rfl)
  | (apply ev_sl; walk_at "ev"; rfl; walk_at "evo"; walk_at "evo"; rfl; walk_at "op"))
local macro_rules | `(tactic| walk_at "evo") => `(tactic| first | exact evo_no | (apply evo_some; walk_at "ev"))
local macro_rules | `(tactic| walk_at "evl") => `(tactic| first | exact evl_nil | (apply evl_cons; walk_at "ev"; rfl; walk_at "evl") | (apply eva_seq; walk_at "ev"; rfl; rfl) | (apply evl_enum; walk_at "ev"; rfl; rfl) | (apply evl_rng; walk_at "ev"; omega))
local macro_rules | `(tactic| walk_at "eva") => `(tactic| first | exact eva_nil | (apply eva_cons; walk_at "ev"; rfl; walk_at "eva"))
local macro_rules | `(tactic| walk_at "evp") => `(tactic| first | exact evp_nil | (apply evp_cons; walk_at "ev"; rfl; walk_at "evp"))
local macro_rules | `(tactic| walk_at "evt") => `(tactic| first
  | (apply evt_bl; walk_at "ev") | (apply evt_tru; walk_at "ev"; rfl; rfl; walk_at "op") | (apply evt_not; walk_at "evt")
  | (apply evt_and; walk_at "evt"; (intro _; walk_at "evt")) | (apply evt_or; walk_at "evt"; (intro _; walk_at "evt")))
local macro_rules | `(tactic| walk_at "seq") => `(tactic| ((try simp only [skipS_r]); apply seq_i))
local macro_rules | `(tactic| walk_at "asg") => `(tactic| ((try simp only [skipS_r]); apply asg_i; walk_at "ev"; rfl))
local macro_rules | `(tactic| walk_at "if") => `(tactic| ((try simp only [skipS_r]); apply if_i; walk_at "evt"))
local macro_rules | `(tactic| walk_at "ret") => `(tactic| ((try simp only [skipS_r]); apply ret_i; walk_at "ev"))
local macro_rules | `(tactic| walk_at "n") => `(tactic| (try simp only [skipS_r]))
def tmD : Option Int → D
  | none => .non
  | some i => .int i
abbrev dayD (ts : List (Option Int)) : D := .tup (ts.map tmD)
theorem lstI_len {mns : List Int} : (mns.map D.int).length = mns.length := by simp
theorem spec_drawn_log {o : Ob} {m : Nat} {p : Int} {P : EV → Env' → Prop} {X : Exx} (ho : PenOk o) (hm : m ≤ 4) (hp : 0 < p) (hp2 : p < 1000)
    (k : ∀ (css : List (List Nat)) (dss : List (List (Option Int))) o' t, css.length = m → css.Nodup → (∀ cs ∈ css, NmOk cs) → (∀ ts ∈ dss, ts.length = m) → dss.length ≤ 6 → PenOk o' → P (.val (.tup [.nms (css.map St), .tup (dss.map dayD)])) (.io o' :: t)) :
    runF F__law_drawn_log [.io o, .val (.int (m : Int)), .val (.int p)] P X := by
  apply body_i
  walk_at "seq"
  apply asg_c
  apply call_i
  · walk_at "eva"
  · rfl
  · simp
  refine spec_names ho hm fun css o1 t1 hl hn hk ho1 => ?_
  refine ⟨rfl, _, rfl, [.io o1, .val (.int (m : Int)), .val (.int p), .val (.nms (css.map St)), .un, .un, .un, .un, .un, .un, .un, .un], rfl, ?_⟩
  walk_at "n"
  apply seq_cut (Q := fun e => ∃ (mns : List Int) (o2 : Ob), e = [.io o2, .val (.int (m : Int)), .val (.int p), .val (.nms (css.map St)), .own (.lst (mns.map D.int)), .own (.lst []), .un, .un, .un, .un, .un, .un] ∧ mns.length = m ∧ PenOk o2)
  · apply par_c
    apply consP_c
    apply lc_i
    · walk_at "evl"
    · rfl
    refine compL_inv _ (fun j acc e => ∃ (mns : List Int) (o3 : Ob), acc = mns.map D.int ∧ mns.length = j ∧ PenOk o3 ∧ e = [.io o3, .val (.int (m : Int)), .val (.int p), .val (.nms (css.map St)), .un, .un, .un, .un, .un, .un, .un, .un]) ⟨[], o1, rfl, rfl, ho1, rfl⟩ ?_ ?_
    · rintro j d acc e hj ⟨mns, o3, rfl, hl3, ho3, rfl⟩
      have hj4 : j < m := by
        have := (List.getElem?_eq_some_iff.mp hj).1
        simp at this; omega
      refine ⟨_, by simp; rfl, ?_⟩
      apply yes_i
      apply call_i
      · walk_at "eva"
      · rfl
      · simp
      refine spec_draw ho3 hp (by omega) fun r o4 t4 h0 h1 ho4 => ?_
      exact ⟨rfl, _, rfl, _, rfl, by rw [List.length_map]; omega, rfl, mns ++ [r], o4, by simp, by simp [hl3], ho4, rfl⟩
    · rintro acc e ⟨mns, o3, rfl, hl3, ho3, rfl⟩
      rw [List.length_map, List.length_map] at hl3
      refine ⟨rfl, (by walk_at "evp" : EvP _ _ _ _) _ _ ⟨_, rfl, mns, o3, rfl, by omega, ho3⟩⟩
  rintro _ ⟨mns, o2, rfl, hil, ho2⟩
  walk_at "n"
  apply seq_cut (Q := fun e => ∃ (dss : List (List (Option Int))) (o3 : Ob) (s4 a7 a8 a9 a10 a11 : En.Slot), e = [.io o3, .val (.int (m : Int)), .val (.int p), .val (.nms (css.map St)), s4, .own (.lst (dss.map dayD)), .un, a7, a8, a9, a10, a11] ∧ dss.length ≤ 6 ∧ (∀ ts ∈ dss, ts.length = m) ∧ PenOk o3)
  · apply for_c
    apply rng_c
    apply call_i
    · walk_at "eva"
    · rfl
    · simp
    refine spec_draw ho2 (by decide) (by decide) fun r o3 t3 h0 h1 ho3 => ?_
    refine ⟨rfl, _, rfl, r, rfl, by omega, ?_⟩
    refine forL_inv _ (fun j e => ∃ (dss : List (List (Option Int))) (o3 : Ob) (s4 a7 a8 a9 a10 a11 : En.Slot), e = [.io o3, .val (.int (m : Int)), .val (.int p), .val (.nms (css.map St)), s4, .own (.lst (dss.map dayD)), .un, a7, a8, a9, a10, a11] ∧ dss.length = j ∧ (∀ ts ∈ dss, ts.length = m) ∧ PenOk o3 ∧
      (s4 = .own (.lst (mns.map D.int)) ∨ s4 = .val (.lst (mns.map D.int))) ∧ a7.isIo = false ∧ a8.isIo = false ∧ a9.isIo = false ∧ a10.isIo = false ∧ a11.isIo = false) ⟨[], o3, _, _, _, _, _, _, rfl, rfl, (fun _ h => nomatch h), ho3, .inl rfl, rfl, rfl, rfl, rfl, rfl⟩ ?_ ?_
    · rintro j d e hj ⟨dss, o4, s4, a7, a8, a9, a10, a11, rfl, hdl, hdk, ho4, hs4, h7, h8, h9, h10, h11⟩
      obtain ⟨hj1, rfl⟩ := intsD_get hj
      refine ⟨[.io o4, .val (.int (m : Int)), .val (.int p), .val (.nms (css.map St)), s4, .own (.lst (dss.map dayD)), .un, .val (.int (j : Int)), a8, a9, a10, a11], by simp [h7], ?_⟩
      walk_at "seq"
      apply par_c
      apply consP_c
      apply bin_l
      apply call_i
      · walk_at "eva"
      · rfl
      · simp
      refine spec_draw ho4 (by decide) (by decide) fun mv o5 t5 m0 m1 ho5 => ?_
      refine ⟨rfl, _, rfl, _, rfl, ?_⟩
      refine ⟨_, rfl, _, _, _, rfl, rfl, rfl, rfl, ?_⟩
      refine (by walk_at "evp" : EvP _ _ _ _) _ _ ⟨[.io o5, .val (.int (m : Int)), .val (.int p), .val (.nms (css.map St)), s4, .own (.lst (dss.map dayD)), .un, .val (.int (j : Int)), .val (.int (mv - 20)), .own (.lst []), a10, a11], by simp [h8, h9], ?_⟩
      walk_at "n"
      apply seq_cut (Q := fun e => ∃ (ts : List (Option Int)) (o6 : Ob) (a10 a11 : En.Slot), e = [.io o6, .val (.int (m : Int)), .val (.int p), .val (.nms (css.map St)), .val (.lst (mns.map D.int)), .own (.lst (dss.map dayD)), .un, .val (.int (j : Int)), .val (.int (mv - 20)), .own (.lst (ts.map tmD)), a10, a11] ∧ ts.length = m ∧ PenOk o6 ∧ a10.isIo = false ∧ a11.isIo = false)
      · apply for_i
        · apply eva_seq
          · exact ev_kvB (i := 4) rfl hs4
          · rfl
          · rfl
        refine forL_inv _ (fun i e => ∃ (ts : List (Option Int)) (o6 : Ob) (a10 a11 : En.Slot), e = [.io o6, .val (.int (m : Int)), .val (.int p), .val (.nms (css.map St)), .val (.lst (mns.map D.int)), .own (.lst (dss.map dayD)), .un, .val (.int (j : Int)), .val (.int (mv - 20)), .own (.lst (ts.map tmD)), a10, a11] ∧ ts.length = i ∧ PenOk o6 ∧ a10.isIo = false ∧ a11.isIo = false) ⟨[], o5, _, _, rfl, rfl, ho5, h10, h11⟩ ?_ ?_
        · rintro i d e hi ⟨ts, o6, a10, a11, rfl, hts, ho6, h10, h11⟩
          obtain ⟨mn, hmn, rfl⟩ := int_map hi
          have him : i < m := by
            have := (List.getElem?_eq_some_iff.mp hmn).1
            omega
          refine ⟨[.io o6, .val (.int (m : Int)), .val (.int p), .val (.nms (css.map St)), .val (.lst (mns.map D.int)), .own (.lst (dss.map dayD)), .un, .val (.int (j : Int)), .val (.int (mv - 20)), .own (.lst (ts.map tmD)), .val (.int mn), a11], by simp [h10], ?_⟩
          walk_at "seq"
          apply asg_c
          apply bin_r
          · apply ev_bin
            · exact ev_var rfl
            · rfl
            · apply ev_bin
              · exact ev_var rfl
              · rfl
              · exact ev_var rfl
              · rfl
              · rfl
              · rfl
              · exact mul_r (by omega) (by omega)
            · rfl
            · rfl
            · rfl
            · rfl
          · rfl
          apply call_i
          · walk_at "eva"
          · rfl
          · simp
          refine spec_pick (n := 6) ho6 rfl (by decide) (by decide) fun r r0 r1 => ?_
          have hr : ∃ n : Int, ixD (.lst [.int 0, .int 0, .int 0, .int 0, .int 1, .int 2]) (.int r) = some (.int n) := by
            have : r = 0 ∨ r = 1 ∨ r = 2 ∨ r = 3 ∨ r = 4 ∨ r = 5 := by omega
            rcases this with rfl | rfl | rfl | rfl | rfl | rfl <;> exact ⟨_, rfl⟩
          obtain ⟨n, hn⟩ := hr
          refine ⟨_, hn, fun o7 t7 ho7 => ?_⟩
          refine ⟨rfl, _, rfl, _, rfl, _, _, _, rfl, rfl, rfl, [.io o7, .val (.int (m : Int)), .val (.int p), .val (.nms (css.map St)), .val (.lst (mns.map D.int)), .own (.lst (dss.map dayD)), .un, .val (.int (j : Int)), .val (.int (mv - 20)), .own (.lst (ts.map tmD)), .val (.int mn), .val (.int (mn + (mv - 20) * p + n))], by simp [h11], ?_⟩
          walk_at "n"
          apply drop_c
          apply app_c
          · exact ⟨_, rfl, _, rfl⟩
          apply ite_c
          apply bl_c
          apply bin_l
          apply call_i
          · walk_at "eva"
          · rfl
          · simp
          refine spec_draw ho7 (by decide) (by decide) fun r2 o8 t8 _ _ ho8 => ?_
          refine ⟨rfl, _, rfl, _, rfl, _, rfl, _, _, _, rfl, rfl, rfl, _, rfl, ?_⟩
          split
          · exact ⟨_, rfl, _, _, rfl, rfl, by rw [List.length_map]; omega, ts ++ [none], o8, _, _, by simp [tmD]; exact ⟨rfl, rfl⟩, by simp [hts], ho8, rfl, rfl⟩
          · refine (ev_kv rfl : Ev (kvF FL 11) _ _ _) _ _ ?_
            exact ⟨_, rfl, _, _, rfl, rfl, by rw [List.length_map]; omega, ts ++ [some (mn + (mv - 20) * p + n)], o8, _, _, by simp [tmD]; exact ⟨rfl, rfl⟩, by simp [hts], ho8, rfl, rfl⟩
        · rintro e ⟨ts, o6, a10, a11, rfl, hts, ho6, h10, h11⟩
          rw [List.length_map] at hts
          exact ⟨ts, o6, a10, a11, rfl, by omega, ho6, h10, h11⟩
      · rintro _ ⟨ts, o6, a10, a11, rfl, hts, ho6, h10, h11⟩
        apply drop_i
        · apply app_i
          · exact ⟨_, rfl, _, rfl⟩
          · apply ev_un
            · exact ev_varo rfl
            · rfl
            · rfl
            · rfl
          · rfl
          · rfl
          · rfl
          · rw [List.length_map]; omega
        refine ⟨dss ++ [ts], o6, .val (.lst (mns.map D.int)), .val (.int (j : Int)), .val (.int (mv - 20)), .own (.lst (ts.map tmD)), a10, a11, by simp, by simp [hdl], ?_, ho6, .inr rfl, rfl, rfl, rfl, h10, h11⟩
        intro x hx
        rcases List.mem_append.mp hx with hx | hx
        · exact hdk x hx
        · rw [List.mem_singleton.mp hx]; exact hts
    · rintro e ⟨dss, o4, s4, a7, a8, a9, a10, a11, rfl, hdl, hdk, ho4, _⟩
      rw [intsD_len] at hdl
      exact ⟨dss, o4, s4, a7, a8, a9, a10, a11, rfl, by omega, hdk, ho4⟩
  · rintro _ ⟨dss, o3, s4, a7, a8, a9, a10, a11, rfl, hdl, hdk, ho3⟩
    apply ret_i
    · apply ev_tup
      · apply evl_cons
        · exact ev_kv rfl
        · rfl
        apply evl_cons
        · apply ev_un
          · exact ev_varo rfl
          · rfl
          · rfl
          · rfl
        · rfl
        exact evl_nil
      · simp
    exact ⟨_, rfl, k css dss _ _ hl hn hk hdk hdl ho3⟩
end Lw
set_option Elab.async false
set_option linter.all false
set_option maxRecDepth 100000
set_option maxHeartbeats 4000000
namespace Lw
open PySem PySem.Spec L2 En
local macro_rules | `(tactic| walk_at "op") => `(tactic| first | assumption | rfl | (exact mod_ok (by first | decide | omega)) | (exact mul_r (by first | decide | omega) (by first | decide | omega)) | (exact mul_l (by first | decide | omega) (by first | decide | omega)) | (exact div_ok (by first | decide | omega) (by first | decide | omega)) | assumption)
local macro_rules | `(tactic| walk_at "ev") => `(tactic| first
  | exact ev_lit | exact ev_var rfl | exact ev_kv rfl | exact ev_varo rfl | exact ev_vari rfl | exact ev_kvo rfl rfl
  | (apply ev_bin; walk_at "ev"; rfl; walk_at "ev"; rfl; rfl; rfl; walk_at "op")
  | (apply ev_un; walk_at "ev"; rfl; rfl; walk_at "op")
  | (apply ev_unN; walk_at "ev"; rfl; rfl; walk_at "op")
  | (apply ev_tup; walk_at "evl"; (first | decide | simp))
  | (apply ev_lst; walk_at "evl"; (first | decide | simp))
  | exact ev_dK
  | (apply ev_not; walk_at "ev")
  | (apply ev_and; walk_at "ev"; (intro _; walk_at "ev")) | (apply ev_or; walk_at "ev"; (intro _; walk_at "ev"))
  | (apply ev_chain; walk_at "ev"; walk_at "ev"; rfl; walk_at "ev"; rfl)
  | (apply ev_sl; walk_at "ev"; rfl; walk_at "evo"; walk_at "evo"; rfl; walk_at "op"))
local macro_rules | `(tactic| walk_at "evo") => `(tactic| first | exact evo_no | (apply evo_some; walk_at "ev"))
local macro_rules | `(tactic| walk_at "evl") => `(tactic| first | exact evl_nil | (apply evl_cons; walk_at "ev"; rfl; walk_at "evl") | (apply eva_seq; walk_at "ev"; rfl; rfl) | (apply evl_enum; walk_at "ev"; rfl; rfl) | (apply evl_rng; walk_at "ev"; omega))
local macro_rules | `(tactic| walk_at "eva") => `(tactic| first | exact eva_nil | (apply eva_cons; walk_at "ev"; rfl; walk_at "eva"))
local macro_rules | `(tactic| walk_at "evp") => `(tactic| first | exact evp_nil | (apply evp_cons; walk_at "ev"; rfl; walk_at "evp"))
local macro_rules | `(tactic| walk_at "evt") => `(tactic| first
  | (apply evt_bl; walk_at "ev") | (apply evt_tru; walk_at "ev"; rfl; rfl; walk_at "op") | (apply evt_not; walk_at "evt")
  | (apply evt_and; walk_at "evt"; (intro _; walk_at "evt")) | (apply evt_or; walk_at "evt"; (intro _; walk_at "evt")))
local macro_rules | `(tactic| walk_at "seq") => `(tactic| ((try simp only [skipS_r]); apply seq_i))
local macro_rules | `(tactic| walk_at "asg") => `(tactic| ((try simp only [skipS_r]); apply asg_i; walk_at "ev"; rfl))
local macro_rules | `(tactic| walk_at "if") => `(tactic| ((try simp only [skipS_r]); apply if_i; walk_at "evt"))
local macro_rules | `(tactic| walk_at "ret") => `(tactic| ((try simp only [skipS_r]); apply ret_i; walk_at "ev"))
local macro_rules | `(tactic| walk_at "n") => `(tactic| (try simp only [skipS_r]))
theorem let_sgn : ∀ c ∈ LET, c ∈ SGN := fun c h => List.mem_append_left _ h
theorem in_sign {c : Nat} {l : List Nat} : inB (.str (St [c])) (.str (St l)) = some (decide (c ∈ l)) := by
  show (if (St [c]).length = 1 then some (decide ((St [c]).cps[0]! ∈ (St l).cps.toList)) else none) = _
  rw [if_pos (by rfl)]
  simp
theorem all_true : ∀ n : Nat, allD (.lst (List.replicate n (.bl true))) = some (.bl true) := by
  intro n
  have : blsD? (List.replicate n (D.bl true)) = some (List.replicate n true) := by
    induction n with
    | zero => rfl
    | succ n ih =>
      show (blsD? (List.replicate n (D.bl true))).map (true :: ·) = _
      rw [ih]; rfl
  show (blsD? _).map _ = _
  rw [this]
  simp
theorem spec_is_name {cs : List Nat} {P : EV → Env' → Prop} {X : Exx} (h : NmOk cs) (k : ∀ t, P (.val (.bl true)) t) : runF F_is_name [.val (.str (St cs))] P X := by
  obtain ⟨c, r, rfl, h1, h2, h3⟩ := h
  apply body_i
  walk_at "seq"
  simp only [let_eq, sgn_eq]
  have hix : ixD (.str (St (c :: r))) (.int 0) = some (.str (St [c])) := by
    show (if (St (c :: r)).length ≤ sizeLine then (atI (St (c :: r)).cps.toList 0).map fun c => D.str ⟨#[c]⟩ else none) = _
    rw [if_pos (by rw [sizeLine_eq]; show (c :: r).toArray.size ≤ _; simp; omega)]
    have : atI (c :: r) 0 = some c := by unfold atI ixN; simp
    simp only [List.toList_toArray, this]; rfl
  have hl := len_st (l := c :: r) (by simp; omega)
  have hni : notInD (.str (St [c])) (.str (St LET)) = some (.bl false) := by
    show (inB (.str (St [c])) (.str (St LET))).map (fun b => D.bl (!b)) = _
    rw [in_sign, decide_eq_true h1]; rfl
  walk_at "if"
  · intro h
    have h : (!(true || false) || (!(decide ((1 : Int) ≤ ((c :: r).length : Int)) && decide (((c :: r).length : Int) ≤ 12)) || false)) = true := h
    simp at h
    omega
  · intro _
    walk_at "n"
    apply ret_c
    apply un_c
    apply lc_i
    · walk_at "evl"
    · rfl
    refine compL_inv _ (fun j acc e => acc = List.replicate j (.bl true) ∧ e = [.val (.str (St (c :: r))), .un]) ⟨rfl, rfl⟩ ?_ ?_
    · rintro j d acc e hj ⟨rfl, rfl⟩
      have hj' : ((c :: r).map fun c => D.str (St [c]))[j]? = some d := hj
      rw [List.getElem?_map] at hj'
      obtain ⟨x, hx, rfl⟩ := Option.map_eq_some_iff.mp hj'
      have hxs : x ∈ SGN := by
        rcases List.mem_cons.mp (List.mem_of_getElem? hx) with rfl | hm
        · exact let_sgn _ h1
        · exact h2 x hm
      have hjl := (List.getElem?_eq_some_iff.mp hx).1
      refine ⟨_, by simp; rfl, ?_⟩
      apply yes_i
      refine (ev_bin (ev_var rfl) rfl ev_lit rfl rfl rfl (c := .bl true) ?_ : Ev _ _ _ _) _ _ ⟨_, rfl, by simp at hjl ⊢; omega, rfl, by rw [List.replicate_succ'], rfl⟩
      show (inB (.str (St [x])) (.str (St SGN))).map D.bl = _
      rw [in_sign, decide_eq_true hxs]; rfl
    · rintro acc e ⟨rfl, rfl⟩
      exact ⟨_, rfl, _, _, rfl, all_true _, _, rfl, k _⟩
theorem whole_int {i : Int} {P : EV → Env' → Prop} {X : Exx} (k : ∀ t, P (.val (.bl true)) t) : runF F_is_whole [.val (.int i)] P X := by
  apply body_i
  walk_at "ret"
  exact ⟨_, rfl, k _⟩
theorem whole_non {P : EV → Env' → Prop} {X : Exx} (k : ∀ t, P (.val (.bl false)) t) : runF F_is_whole [.val .non] P X := by
  apply body_i
  walk_at "ret"
  exact ⟨_, rfl, k _⟩
theorem whole_bl {b : Bool} {P : EV → Env' → Prop} {X : Exx} (k : ∀ t, P (.val (.bl false)) t) : runF F_is_whole [.val (.bl b)] P X := by
  apply body_i
  walk_at "ret"
  exact ⟨_, rfl, k _⟩
theorem whole_str {x : Str} {P : EV → Env' → Prop} {X : Exx} (k : ∀ t, P (.val (.bl false)) t) : runF F_is_whole [.val (.str x)] P X := by
  apply body_i
  walk_at "ret"
  exact ⟨_, rfl, k _⟩
theorem spec_is_day {m : Nat} {ts : List (Option Int)} {P : EV → Env' → Prop} {X : Exx} (hm : ts.length = m) (hz : m ≤ 1000) (k : ∀ t, P (.val (.bl true)) t) : runF F_is_day [.val (.int (m : Int)), .val (dayD ts)] P X := by
  apply body_i
  walk_at "seq"
  walk_at "if"
  · intro h
    have h : (!(true || false) || !eqB (.int ((ts.map tmD).length : Int)) (.int (m : Int))) = true := h
    rw [eqB_int, List.length_map, hm] at h
    simp at h
  · intro _
    walk_at "n"
    apply ret_c
    apply un_c
    apply lc_i
    · walk_at "evl"
    · rfl
    refine compL_inv _ (fun j acc e => acc = List.replicate j (.bl true) ∧ e = [.val (.int (m : Int)), .val (dayD ts), .un]) ⟨rfl, rfl⟩ ?_ ?_
    · rintro j d acc e hj ⟨rfl, rfl⟩
      have hj' : (ts.map tmD)[j]? = some d := hj
      rw [List.getElem?_map] at hj'
      obtain ⟨x, hx, rfl⟩ := Option.map_eq_some_iff.mp hj'
      have hjl := (List.getElem?_eq_some_iff.mp hx).1
      refine ⟨_, by simp; rfl, ?_⟩
      apply yes_i
      have fin : (List.replicate j (D.bl true)).length < 100000 := by simp; omega
      cases x with
      | none =>
        apply or_i
        · walk_at "ev"
        · intro _
          exact ⟨_, rfl, fin, rfl, by rw [List.replicate_succ'], rfl⟩
        · intro h
          have h : true = false := h
          cases h
      | some i =>
        apply or_i
        · walk_at "ev"
        · intro h
          have h : false = true := h
          cases h
        intro _
        apply call_i
        · walk_at "eva"
        · rfl
        · simp
        refine whole_int fun t => ?_
        exact ⟨rfl, _, rfl, _, rfl, fin, rfl, by rw [List.replicate_succ'], rfl⟩
    · rintro acc e ⟨rfl, rfl⟩
      exact ⟨_, rfl, _, _, rfl, all_true _, _, rfl, k _⟩
end Lw
set_option Elab.async false
set_option linter.all false
set_option maxRecDepth 100000
set_option maxHeartbeats 4000000
namespace Lw
open PySem PySem.Spec L2 En
local macro_rules | `(tactic| walk_at "op") => `(tactic| first | assumption | rfl | (exact mod_ok (by first | decide | omega)) | (exact mul_r (by first | decide | omega) (by first | decide | omega)) | (exact mul_l (by first | decide | omega) (by first | decide | omega)) | (exact div_ok (by first | decide | omega) (by first | decide | omega)) | assumption)
local macro_rules | `(tactic| walk_at "ev") => `(tactic| first
  | exact ev_lit | exact ev_var rfl | exact ev_kv rfl | exact ev_varo rfl | exact ev_vari rfl | exact ev_kvo rfl rfl
  | (apply ev_bin; walk_at "ev"; rfl; walk_at "ev"; rfl; rfl; rfl; walk_at "op")
  | (apply ev_un; walk_at "ev"; rfl; rfl; walk_at "op")
  | (apply ev_unN; walk_at "ev"; rfl; rfl; walk_at "op")
  | (apply ev_tup; walk_at "evl"; (first | decide | simp))
  | (apply ev_lst; walk_at "evl"; (first | decide | simp))
  | exact ev_dK
  | (apply ev_not; walk_at "ev")
  | (apply ev_and; walk_at "ev"; (intro _; walk_at "ev")) | (apply ev_or; walk_at "ev"; (intro _; walk_at "ev"))
  | (apply ev_chain; walk_at "ev"; walk_at "ev"; rfl; walk_at "ev"; rfl)
  | (apply ev_sl; walk_at "ev"; rfl; walk_at "evo"; walk_at "evo"; rfl; walk_at "op"))
local macro_rules | `(tactic| walk_at "evo") => `(tactic| first | exact evo_no | (apply evo_some; walk_at "ev"))
local macro_rules | `(tactic| walk_at "evl") => `(tactic| first | exact evl_nil | (apply evl_cons; walk_at "ev"; rfl; walk_at "evl") | (apply eva_seq; walk_at "ev"; rfl; rfl) | (apply evl_enum; walk_at "ev"; rfl; rfl) | (apply evl_rng; walk_at "ev"; omega))
local macro_rules | `(tactic| walk_at "eva") => `(tactic| first | exact eva_nil | (apply eva_cons; walk_at "ev"; rfl; walk_at "eva"))
local macro_rules | `(tactic| walk_at "evp") => `(tactic| first | exact evp_nil | (apply evp_cons; walk_at "ev"; rfl; walk_at "evp"))
local macro_rules | `(tactic| walk_at "evt") => `(tactic| first
  | (apply evt_bl; walk_at "ev") | (apply evt_tru; walk_at "ev"; rfl; rfl; walk_at "op") | (apply evt_not; walk_at "evt")
  | (apply evt_and; walk_at "evt"; (intro _; walk_at "evt")) | (apply evt_or; walk_at "evt"; (intro _; walk_at "evt")))
local macro_rules | `(tactic| walk_at "seq") => `(tactic| ((try simp only [skipS_r]); apply seq_i))
local macro_rules | `(tactic| walk_at "asg") => `(tactic| ((try simp only [skipS_r]); apply asg_i; walk_at "ev"; rfl))
local macro_rules | `(tactic| walk_at "if") => `(tactic| ((try simp only [skipS_r]); apply if_i; walk_at "evt"))
local macro_rules | `(tactic| walk_at "ret") => `(tactic| ((try simp only [skipS_r]); apply ret_i; walk_at "ev"))
local macro_rules | `(tactic| walk_at "n") => `(tactic| (try simp only [skipS_r]))
theorem sIx_none (n : Nat) : HT.sIx n 0 none = 0 := rfl
theorem sIx_some {n k : Nat} (h : k ≤ n) : HT.sIx n n (some (k : Int)) = k := by
  rw [HT.sIx_nat]; omega
theorem cut_take {ds : List D} {k : Nat} (h : k ≤ ds.length) : cutD ds none (some (k : Int)) = ds.take k := by
  unfold cutD
  rw [sIx_none, sIx_some h]; simp
theorem in_tup {cs : List Nat} {css : List (List Nat)} : inD (.str (St cs)) (.tup (nmD css)) = some (.bl (decide (cs ∈ css))) := in_st
theorem enum_nms {css : List (List Nat)} {k : Nat} {d : D} (h : (enumD ((css.map St).map D.str))[k]? = some d) : ∃ cs, css[k]? = some cs ∧ d = .tup [.int (k : Int), .str (St cs)] := by
  obtain ⟨z, h1, rfl⟩ := enumD_get h
  rw [List.map_map, List.getElem?_map] at h1
  obtain ⟨cs, h2, rfl⟩ := Option.map_eq_some_iff.mp h1
  exact ⟨cs, h2, rfl⟩
abbrev logD (css : List (List Nat)) (dss : List (List (Option Int))) : List D := [.nms (css.map St), .tup (dss.map dayD)]
theorem not_prev {css : List (List Nat)} (hn : css.Nodup) {k : Nat} {cs : List Nat} (h : css[k]? = some cs) : cs ∉ css.take k := by
  intro hm
  obtain ⟨hkl, e⟩ := List.getElem?_eq_some_iff.mp h
  have h2 : css = css.take k ++ cs :: css.drop (k + 1) := by
    rw [← e, ← List.drop_eq_getElem_cons hkl, List.take_append_drop]
  rw [h2, List.nodup_append] at hn
  exact hn.2.2 cs hm cs List.mem_cons_self rfl
theorem spec_init {css : List (List Nat)} {dss : List (List (Option Int))} {P : EV → Env' → Prop} {X : Exx} (h0 : css ≠ []) (hl : css.length ≤ 1000) (hn : css.Nodup) (hk : ∀ cs ∈ css, NmOk cs) (hd : ∀ ts ∈ dss, ts.length = css.length)
    (k : ∀ t, P (.val .non) (.io (.ins 1 [("events", .nms (css.map St)), ("days", .tup (dss.map dayD))]) :: t)) : runF F_DayLogu_initu [.io (.ins 1 []), .val (.nms (css.map St)), .val (.tup (dss.map dayD))] P X := by
  apply body_i
  walk_at "seq"
  walk_at "if"
  · intro h
    have h : (!(false || (true || false)) || !(!(css.map St).isEmpty)) = true := h
    cases css with
    | nil => exact absurd rfl h0
    | cons a b => simp at h
  intro _
  walk_at "n"
  apply seq_cut (Q := fun e => ∃ (a b : En.Slot), e = [.io (.ins 1 []), .val (.nms (css.map St)), .val (.tup (dss.map dayD)), a, b, .un] ∧ a.isIo = false ∧ b.isIo = false)
  · apply for_i
    · walk_at "evl"
    refine forL_inv _ (fun j e => ∃ (a b : En.Slot), e = [.io (.ins 1 []), .val (.nms (css.map St)), .val (.tup (dss.map dayD)), a, b, .un] ∧ a.isIo = false ∧ b.isIo = false) ⟨_, _, rfl, rfl, rfl⟩ ?_ fun e h => h
    rintro j d e hj ⟨a, b, rfl, ha, hb⟩
    obtain ⟨cs, hc, rfl⟩ := enum_nms hj
    have hjl := (List.getElem?_eq_some_iff.mp hc).1
    refine ⟨[.io (.ins 1 []), .val (.nms (css.map St)), .val (.tup (dss.map dayD)), .val (.int (j : Int)), .val (.str (St cs)), .un], by simp [ha, hb], ?_⟩
    walk_at "seq"
    apply if_c
    apply not_c
    apply tru_c
    apply call_i
    · walk_at "eva"
    · rfl
    · simp
    refine spec_is_name (hk cs (List.mem_of_getElem? hc)) fun t => ?_
    refine ⟨rfl, _, rfl, _, rfl, _, _, rfl, rfl, ?_⟩
    rw [if_neg (by simp)]
    walk_at "n"
    have hsl : slD (.nms (css.map St)) none (some (j : Int)) = some (.tup (nmD (css.take j))) := by
      show (if HT.sIx (css.map St).length 0 none = 0 ∧ HT.sIx (css.map St).length (css.map St).length (some (j : Int)) = (css.map St).length then some (D.nms (css.map St)) else some (.tup (cutD ((css.map St).map D.str) none (some (j : Int))))) = _
      rw [sIx_some (by simp; omega), if_neg (by simp; omega), cut_take (by simp; omega)]
      simp [nmD, List.map_take]; rfl
    have hin : inD (.str (St cs)) (.tup (nmD (css.take j))) = some (.bl false) := by
      rw [in_tup, decide_eq_false (not_prev hn hc)]
    walk_at "if"
    · intro h
      have h : false = true := h
      cases h
    intro _
    exact ⟨_, _, rfl, rfl, rfl⟩
  rintro _ ⟨a, b, rfl, ha, hb⟩
  walk_at "seq"
  walk_at "if"
  · intro h
    have h : (!(false || (true || false))) = true := h
    cases h
  intro _
  walk_at "n"
  apply seq_cut (Q := fun e => ∃ (c : En.Slot), e = [.io (.ins 1 []), .val (.nms (css.map St)), .val (.tup (dss.map dayD)), a, b, c] ∧ c.isIo = false)
  · apply for_i
    · walk_at "evl"
    refine forL_inv _ (fun j e => ∃ (c : En.Slot), e = [.io (.ins 1 []), .val (.nms (css.map St)), .val (.tup (dss.map dayD)), a, b, c] ∧ c.isIo = false) ⟨_, rfl, rfl⟩ ?_ fun e h => h
    rintro j d e hj ⟨c, rfl, hc⟩
    have hj' : (dss.map dayD)[j]? = some d := hj
    rw [List.getElem?_map] at hj'
    obtain ⟨ts, hts, rfl⟩ := Option.map_eq_some_iff.mp hj'
    refine ⟨[.io (.ins 1 []), .val (.nms (css.map St)), .val (.tup (dss.map dayD)), a, b, .val (dayD ts)], by simp [hc], ?_⟩
    apply if_c
    apply not_c
    apply tru_c
    apply call_i
    · walk_at "eva"
    · rfl
    · simp
    have hlen : ts.length = (css.map St).length := by rw [List.length_map]; exact hd ts (List.mem_of_getElem? hts)
    refine spec_is_day (m := (css.map St).length) hlen (by simp; omega) fun t => ?_
    refine ⟨rfl, _, rfl, _, rfl, _, _, rfl, rfl, ?_⟩
    rw [if_neg (by simp)]
    walk_at "n"
    exact ⟨_, rfl, rfl⟩
  rintro _ ⟨c, rfl, hc⟩
  walk_at "seq"
  apply set_i
  · walk_at "ev"
  · rfl
  · rfl
  · rfl
  · decide
  · exact List.mem_cons_self
  · decide
  walk_at "n"
  apply set_i
  · walk_at "ev"
  · rfl
  · rfl
  · rfl
  · decide
  · exact List.mem_cons_of_mem _ List.mem_cons_self
  · simp [putFs]
  exact k _
theorem spec_made {css : List (List Nat)} {dss : List (List (Option Int))} {P : EV → Env' → Prop} {X : Exx} (h0 : css ≠ []) (hl : css.length ≤ 1000) (hn : css.Nodup) (hk : ∀ cs ∈ css, NmOk cs) (hd : ∀ ts ∈ dss, ts.length = css.length)
    (k : ∀ t, P (.new (.ins 1 [("events", .nms (css.map St)), ("days", .tup (dss.map dayD))])) t) : runF F__law_made_log [.val (.tup [.nms (css.map St), .tup (dss.map dayD)])] P X := by
  apply body_i
  apply ret_c
  apply mk_i
  · walk_at "eva"
  · rfl
  · simp
  refine spec_init h0 hl hn hk hd fun t => ?_
  exact ⟨rfl, _, _, rfl, _, rfl, _, rfl, k _⟩
end Lw
set_option Elab.async false
set_option linter.all false
set_option maxRecDepth 100000
set_option maxHeartbeats 4000000
namespace Lw
open PySem PySem.Spec L2 En
local macro_rules | `(tactic| walk_at "op") => `(tactic| first | assumption | rfl | (exact mod_ok (by first | decide | omega)) | (exact mul_r (by first | decide | omega) (by first | decide | omega)) | (exact mul_l (by first | decide | omega) (by first | decide | omega)) | (exact div_ok (by first | decide | omega) (by first | decide | omega)) | assumption)
local macro_rules | `(tactic| walk_at "ev") => `(tactic| first
  | exact ev_lit | exact ev_var rfl | exact ev_kv rfl | exact ev_varo rfl | exact ev_vari rfl | exact ev_kvo rfl rfl
  | (apply ev_bin; walk_at "ev"; rfl; walk_at "ev"; rfl; rfl; rfl; walk_at "op")
  | (apply ev_un; walk_at "ev"; rfl; rfl; walk_at "op")
  | (apply ev_unN; walk_at "ev"; rfl; rfl; walk_at "op")
  | (apply ev_tup; walk_at "evl"; (first | decide | simp))
  | (apply ev_lst; walk_at "evl"; (first | decide | simp))
  | exact ev_dK
  | (apply ev_not; walk_at "ev")
  | (apply ev_and; walk_at "ev"; (intro _; walk_at "ev")) | (apply ev_or; walk_at "ev"; (intro _; walk_at "ev"))
  | (apply ev_chain; walk_at "ev"; walk_at "ev"; rfl; walk_at "ev"; rfl)
  | (apply ev_sl; walk_at "ev"; rfl; walk_at "evo"; walk_at "evo"; rfl; walk_at "op"))
local macro_rules | `(tactic| walk_at "evo") => `(tactic| first | exact evo_no | (apply evo_some; walk_at "ev"))
local macro_rules | `(tactic| walk_at "evl") => `(tactic| first | exact evl_nil | (apply evl_cons; walk_at "ev"; rfl; walk_at "evl") | (apply eva_seq; walk_at "ev"; rfl; rfl) | (apply evl_enum; walk_at "ev"; rfl; rfl) | (apply evl_rng; walk_at "ev"; omega))
local macro_rules | `(tactic| walk_at "eva") => `(tactic| first | exact eva_nil | (apply eva_cons; walk_at "ev"; rfl; walk_at "eva"))
local macro_rules | `(tactic| walk_at "evp") => `(tactic| first | exact evp_nil | (apply evp_cons; walk_at "ev"; rfl; walk_at "evp"))
local macro_rules | `(tactic| walk_at "evt") => `(tactic| first
  | (apply evt_bl; walk_at "ev") | (apply evt_tru; walk_at "ev"; rfl; rfl; walk_at "op") | (apply evt_not; walk_at "evt")
  | (apply evt_and; walk_at "evt"; (intro _; walk_at "evt")) | (apply evt_or; walk_at "evt"; (intro _; walk_at "evt")))
local macro_rules | `(tactic| walk_at "seq") => `(tactic| ((try simp only [skipS_r]); apply seq_i))
local macro_rules | `(tactic| walk_at "asg") => `(tactic| ((try simp only [skipS_r]); apply asg_i; walk_at "ev"; rfl))
local macro_rules | `(tactic| walk_at "if") => `(tactic| ((try simp only [skipS_r]); apply if_i; walk_at "evt"))
local macro_rules | `(tactic| walk_at "ret") => `(tactic| ((try simp only [skipS_r]); apply ret_i; walk_at "ev"))
local macro_rules | `(tactic| walk_at "n") => `(tactic| (try simp only [skipS_r]))
theorem orT_c {t u : TF} {env : Env'} {PT : Bool → Env' → Prop} {X : Exx} (h : t.r env (fun b env1 => if b = true then PT true env1 else u.r env1 PT X) X) : (orT t u).r env PT X := h
theorem andT_c {t u : TF} {env : Env'} {PT : Bool → Env' → Prop} {X : Exx} (h : t.r env (fun b env1 => if b = true then u.r env1 PT X else PT false env1) X) : (andT t u).r env PT X := h
abbrev nI (i : Nat) : D := .int (i : Int)
theorem spec_need {p : Int} {P : EV → Env' → Prop} {X : Exx} (h1 : 2 ≤ p) (h2 : p ≤ 1440) (k : ∀ t, P (.val .non) t) : runF F_need_period [.val (.int p)] P X := by
  apply body_i
  apply if_c
  apply orT_c
  apply not_c
  apply tru_c
  apply call_i
  · walk_at "eva"
  · rfl
  · simp
  refine whole_int fun t => ?_
  refine ⟨rfl, _, rfl, _, rfl, _, _, rfl, rfl, ?_⟩
  rw [if_neg (by simp)]
  refine (by walk_at "evt" : EvT (notT (blF FL (chainF FL leD leD (litF (.int 2)) (varF 0) (litF (.int 1440))))) _ _ _) _ _ ?_
  rw [if_neg (by simp; omega)]
  exact k _
theorem day_get {ts : List (Option Int)} {k : Nat} {d : D} (h : (enumD (ts.map tmD))[k]? = some d) : ∃ x, ts[k]? = some x ∧ d = .tup [.int (k : Int), tmD x] := by
  obtain ⟨z, h1, rfl⟩ := enumD_get h
  rw [List.getElem?_map] at h1
  obtain ⟨x, h2, rfl⟩ := Option.map_eq_some_iff.mp h1
  exact ⟨x, h2, rfl⟩
/-- the seen events of a day -/
def SeenOk (ts : List (Option Int)) (xs : List Nat) : Prop := ∀ i ∈ xs, ∃ v, ts[i]? = some (some v)
theorem spec_seen {ts : List (Option Int)} {P : EV → Env' → Prop} {X : Exx} (hz : ts.length ≤ 1000) (k : ∀ xs t, SeenOk ts xs → xs.length ≤ ts.length → P (.new (.lst (xs.map nI))) t) : runF F_seen_on [.val (dayD ts)] P X := by
  apply body_i
  apply ret_c
  apply lc_i
  · walk_at "evl"
  · rfl
  refine compL_inv _ (fun j acc e => ∃ xs : List Nat, acc = xs.map nI ∧ SeenOk ts xs ∧ xs.length ≤ j ∧ e = [.val (dayD ts), .un, .un]) ⟨[], rfl, (fun _ h => nomatch h), Nat.zero_le _, rfl⟩ ?_ ?_
  · rintro j d acc e hj ⟨xs, rfl, hs, hl, rfl⟩
    obtain ⟨x, hx, rfl⟩ := day_get hj
    have hjl := (List.getElem?_eq_some_iff.mp hx).1
    refine ⟨_, by simp; rfl, ?_⟩
    apply bl_c
    cases x with
    | none =>
      refine (ev_bin (op := isNotD) (ev_var (d := .non) rfl) rfl (ev_lit (d := .non)) rfl rfl rfl (c := .bl false) rfl : Ev _ _ _ _) _ _ ⟨false, rfl, ?_⟩
      rw [if_neg Bool.false_ne_true]
      exact ⟨rfl, xs, rfl, hs, by omega, rfl⟩
    | some v =>
      refine (ev_bin (op := isNotD) (ev_var (d := .int v) rfl) rfl (ev_lit (d := .non)) rfl rfl rfl (c := .bl true) rfl : Ev _ _ _ _) _ _ ⟨true, rfl, ?_⟩
      rw [if_pos rfl]
      refine (ev_kv rfl : Ev (kvF FL 1) _ (.val (nI j)) _) _ _ ⟨_, rfl, by simp; omega, rfl, xs ++ [j], by simp, ?_, by simp; omega, rfl⟩
      intro i hi
      rcases List.mem_append.mp hi with hi | hi
      · exact hs i hi
      · rw [List.mem_singleton.mp hi]; exact ⟨v, hx⟩
  · rintro acc e ⟨xs, rfl, hs, hl, rfl⟩
    rw [enumD_len, List.length_map] at hl
    exact ⟨_, rfl, k xs _ hs hl⟩
end Lw
set_option Elab.async false
set_option linter.all false
set_option maxRecDepth 100000
set_option maxHeartbeats 4000000
namespace Lw
open PySem PySem.Spec L2 En
local macro_rules | `(tactic| walk_at "op") => `(tactic| first | assumption | rfl | (exact mod_ok (by first | decide | omega)) | (exact mul_r (by first | decide | omega) (by first | decide | omega)) | (exact mul_l (by first | decide | omega) (by first | decide | omega)) | (exact div_ok (by first | decide | omega) (by first | decide | omega)) | assumption)
local macro_rules | `(tactic| walk_at "ev") => `(tactic| first
  | exact ev_lit | exact ev_var rfl | exact ev_kv rfl | exact ev_varo rfl | exact ev_vari rfl | exact ev_kvo rfl rfl
  | (apply ev_bin; walk_at "ev"; rfl; walk_at "ev"; rfl; rfl; rfl; walk_at "op")
  | (apply ev_un; walk_at "ev"; rfl; rfl; walk_at "op")
  | (apply ev_unN; walk_at "ev"; rfl; rfl; walk_at "op")
  | (apply ev_tup; walk_at "evl"; (first | decide | simp))
  | (apply ev_lst; walk_at "evl"; (first | decide | simp))
  | exact ev_dK
  | (apply ev_not; walk_at "ev")
  | (apply ev_and; walk_at "ev"; (intro _; walk_at "ev")) | (apply ev_or; walk_at "ev"; (intro _; walk_at "ev"))
  | (apply ev_chain; walk_at "ev"; walk_at "ev"; rfl; walk_at "ev"; rfl)
  | (apply ev_sl; walk_at "ev"; rfl; walk_at "evo"; walk_at "evo"; rfl; walk_at "op"))
local macro_rules | `(tactic| walk_at "evo") => `(tactic| first | exact evo_no | (apply evo_some; walk_at "ev"))
local macro_rules | `(tactic| walk_at "evl") => `(tactic| first | exact evl_nil | (apply evl_cons; walk_at "ev"; rfl; walk_at "evl") | (apply eva_seq; walk_at "ev"; rfl; rfl) | (apply evl_enum; walk_at "ev"; rfl; rfl) | (apply evl_rng; walk_at "ev"; omega))
local macro_rules | `(tactic| walk_at "eva") => `(tactic| first | exact eva_nil | (apply eva_cons; walk_at "ev"; rfl; walk_at "eva"))
local macro_rules | `(tactic| walk_at "evp") => `(tactic| first | exact evp_nil | (apply evp_cons; walk_at "ev"; rfl; walk_at "evp"))
local macro_rules | `(tactic| walk_at "evt") => `(tactic| first
  | (apply evt_bl; walk_at "ev") | (apply evt_tru; walk_at "ev"; rfl; rfl; walk_at "op") | (apply evt_not; walk_at "evt")
  | (apply evt_and; walk_at "evt"; (intro _; walk_at "evt")) | (apply evt_or; walk_at "evt"; (intro _; walk_at "evt")))
local macro_rules | `(tactic| walk_at "seq") => `(tactic| ((try simp only [skipS_r]); apply seq_i))
local macro_rules | `(tactic| walk_at "asg") => `(tactic| ((try simp only [skipS_r]); apply asg_i; walk_at "ev"; rfl))
local macro_rules | `(tactic| walk_at "if") => `(tactic| ((try simp only [skipS_r]); apply if_i; walk_at "evt"))
local macro_rules | `(tactic| walk_at "ret") => `(tactic| ((try simp only [skipS_r]); apply ret_i; walk_at "ev"))
local macro_rules | `(tactic| walk_at "n") => `(tactic| (try simp only [skipS_r]))
abbrev Row := Nat × Nat × Nat × Int
def rowD (r : Row) : D := .tup [nI r.1, nI r.2.1, nI r.2.2.1, .int r.2.2.2]
def RowsOk (dn m : Nat) (rows : List Row) : Prop := ∀ r ∈ rows, r.1 < dn ∧ r.2.1 < m ∧ r.2.2.1 < m
theorem cut_drop1 {ds : List D} : cutD ds (some 1) none = ds.drop 1 := by
  unfold cutD
  have e : HT.sIx ds.length 0 (some 1) = min 1 ds.length := HT.sIx_nat ds.length 0 1
  rw [e, show HT.sIx ds.length ds.length none = ds.length from rfl]
  cases ds with
  | nil => rfl
  | cons d ds => simp
theorem fld_days {css : List (List Nat)} {dss : List (List (Option Int))} : fldD FL ICS ("days" : Str) (.ins 1 (logD css dss)) = some (.tup (dss.map dayD)) := by
  have hne : (("days" : Str) == ("events" : Str)) = false := by rw [Str.ofString_eq_toList, Str.ofString_eq_toList]; decide
  show (if 1 ∈ ICS then (([("events" : Str), "days"]).zip (logD css dss)).lookup ("days" : Str) else none) = _
  rw [if_pos (by decide)]
  simp [List.lookup, hne]
theorem fld_events {css : List (List Nat)} {dss : List (List (Option Int))} : fldD FL ICS ("events" : Str) (.ins 1 (logD css dss)) = some (.nms (css.map St)) := by
  show (if 1 ∈ ICS then (([("events" : Str), "days"]).zip (logD css dss)).lookup ("events" : Str) else none) = _
  rw [if_pos (by decide)]
  simp [List.lookup]
theorem row_len {dn m : Nat} (h : dn ≤ 6) (h2 : m ≤ 4) : dn * m ≤ 24 := Nat.le_trans (Nat.mul_le_mul h h2) (by decide)
theorem spec_diff {css : List (List Nat)} {dss : List (List (Option Int))} {m : Nat} {P : EV → Env' → Prop} {X : Exx} (hm : m ≤ 4) (hd6 : dss.length ≤ 6) (hd : ∀ ts ∈ dss, ts.length = m)
    (k : ∀ rows t, RowsOk dss.length m rows → rows.length ≤ 24 → P (.new (.lst (rows.map rowD))) t) : runF F_differences [.val (.ins 1 (logD css dss))] P X := by
  apply body_i
  walk_at "seq"
  walk_at "asg"
  have hfd := @fld_days css dss
  walk_at "n"
  apply seq_cut (Q := fun e => ∃ (rows : List Row) (c2 c3 c4 c5 : En.Slot), e = [.val (.ins 1 (logD css dss)), .own (.lst (rows.map rowD)), c2, c3, c4, c5] ∧ RowsOk dss.length m rows ∧ rows.length ≤ 24)
  · apply for_i
    · apply evl_enum
      · apply ev_un
        · exact ev_var rfl
        · rfl
        · rfl
        · exact hfd
      · rfl
      · rfl
    refine forL_inv _ (fun j e => ∃ (rows : List Row) (c2 c3 c4 c5 : En.Slot), e = [.val (.ins 1 (logD css dss)), .own (.lst (rows.map rowD)), c2, c3, c4, c5] ∧ RowsOk dss.length m rows ∧ rows.length ≤ j * 4 ∧ c2.isIo = false ∧ c3.isIo = false ∧ c4.isIo = false ∧ c5.isIo = false)
      ⟨[], _, _, _, _, rfl, (fun _ h => nomatch h), Nat.zero_le _, rfl, rfl, rfl, rfl⟩ ?_ ?_
    · rintro j d e hj ⟨rows, c2, c3, c4, c5, rfl, hr, hrl, h2, h3, h4, h5⟩
      obtain ⟨z, hz, rfl⟩ := enumD_get hj
      rw [List.getElem?_map] at hz
      obtain ⟨ts, hts, rfl⟩ := Option.map_eq_some_iff.mp hz
      have hjd := (List.getElem?_eq_some_iff.mp hts).1
      have htl := hd ts (List.mem_of_getElem? hts)
      refine ⟨[.val (.ins 1 (logD css dss)), .own (.lst (rows.map rowD)), .val (nI j), .val (dayD ts), c4, c5], by simp [h2, h3], ?_⟩
      walk_at "seq"
      apply asg_c
      apply call_i
      · walk_at "eva"
      · rfl
      · simp
      refine spec_seen (by omega) fun xs t hs hxl => ?_
      refine ⟨rfl, _, rfl, [.val (.ins 1 (logD css dss)), .own (.lst (rows.map rowD)), .val (nI j), .val (dayD ts), .own (.lst (xs.map nI)), c5], by simp [h4], ?_⟩
      have hsl : slD (.lst (xs.map nI)) (some 1) none = some (.lst ((xs.drop 1).map nI)) := by
        show some (D.lst (cutD (xs.map nI) (some 1) none)) = _
        rw [cut_drop1, List.map_drop]
      walk_at "n"
      apply for_i
      · apply eva_seq
        · apply ev_sl
          · exact ev_varo rfl
          · rfl
          · exact evo_some ev_lit
          · exact evo_no
          · rfl
          · exact hsl
        · rfl
        · rfl
      refine forL_inv _ (fun i e => ∃ (rows2 : List Row) (c5 : En.Slot), e = [.val (.ins 1 (logD css dss)), .own (.lst (rows2.map rowD)), .val (nI j), .val (dayD ts), .own (.lst (xs.map nI)), c5] ∧ RowsOk dss.length m rows2 ∧ rows2.length ≤ j * 4 + i ∧ c5.isIo = false) ⟨rows, c5, rfl, hr, by omega, h5⟩ ?_ ?_
      · rintro i d e hi ⟨rows2, c5, rfl, hr2, hl2, hc5⟩
        rw [List.getElem?_map] at hi
        obtain ⟨other, ho, rfl⟩ := Option.map_eq_some_iff.mp hi
        have hil := (List.getElem?_eq_some_iff.mp ho).1
        rw [List.length_drop] at hil
        cases xs with
        | nil => simp at ho
        | cons x0 xr =>
          obtain ⟨v0, hv0⟩ := hs x0 List.mem_cons_self
          have hom : other ∈ x0 :: xr := List.mem_cons_of_mem _ (by simpa using List.mem_of_getElem? ho)
          obtain ⟨v1, hv1⟩ := hs other hom
          have t0 : ixD (dayD ts) (nI x0) = some (.int v0) := ix_t (by rw [List.getElem?_map, hv0]; rfl)
          have t1 : ixD (dayD ts) (nI other) = some (.int v1) := ix_t (by rw [List.getElem?_map, hv1]; rfl)
          have x0l := (List.getElem?_eq_some_iff.mp hv0).1
          have x1l := (List.getElem?_eq_some_iff.mp hv1).1
          have tx : ixD (.lst ((x0 :: xr).map nI)) (.int 0) = some (nI x0) := ix_l (j := 0) rfl
          refine ⟨[.val (.ins 1 (logD css dss)), .own (.lst (rows2.map rowD)), .val (nI j), .val (dayD ts), .own (.lst ((x0 :: xr).map nI)), .val (nI other)], by simp [hc5], ?_⟩
          apply drop_i
          · apply app_i
            · exact ⟨_, rfl, _, rfl⟩
            · walk_at "ev"
            · rfl
            · rfl
            · rfl
            · rw [List.length_map]; simp at hxl hil; omega
          refine ⟨rows2 ++ [(j, x0, other, v1 - v0)], .val (nI other), by simp [rowD], ?_, by simp; omega, rfl⟩
          intro r hrr
          rcases List.mem_append.mp hrr with hrr | hrr
          · exact hr2 r hrr
          · rw [List.mem_singleton.mp hrr]; exact ⟨hjd, by show x0 < m; omega, by show other < m; omega⟩
      · rintro e ⟨rows2, c5, rfl, hr2, hl2, hc5⟩
        refine ⟨rows2, _, _, _, _, rfl, hr2, ?_, rfl, rfl, rfl, hc5⟩
        simp at hl2
        have : xs.length - 1 ≤ 4 := by omega
        omega
    · rintro e ⟨rows, c2, c3, c4, c5, rfl, hr, hrl, _⟩
      rw [enumD_len, List.length_map] at hrl
      exact ⟨rows, _, _, _, _, rfl, hr, by omega⟩
  · rintro _ ⟨rows, c2, c3, c4, c5, rfl, hr, hrl⟩
    walk_at "ret"
    exact ⟨_, rfl, k rows _ hr hrl⟩
end Lw
set_option Elab.async false
set_option linter.all false
set_option maxRecDepth 100000
set_option maxHeartbeats 4000000
namespace Lw
open PySem PySem.Spec L2 En
local macro_rules | `(tactic| walk_at "op") => `(tactic| first | assumption | rfl | (exact mod_ok (by first | decide | omega)) | (exact mul_r (by first | decide | omega) (by first | decide | omega)) | (exact mul_l (by first | decide | omega) (by first | decide | omega)) | (exact div_ok (by first | decide | omega) (by first | decide | omega)) | assumption)
local macro_rules | `(tactic| walk_at "ev") => `(tactic| first
  | exact ev_lit | exact ev_var rfl | exact ev_kv rfl | exact ev_varo rfl | exact ev_vari rfl | exact ev_kvo rfl rfl
  | (apply ev_bin; walk_at "ev"; rfl; walk_at "ev"; rfl; rfl; rfl; walk_at "op")
  | (apply ev_un; walk_at "ev"; rfl; rfl; walk_at "op")
  | (apply ev_unN; walk_at "ev"; rfl; rfl; walk_at "op")
  | (apply ev_tup; walk_at "evl"; (first | decide | simp))
  | (apply ev_lst; walk_at "evl"; (first | decide | simp))
  | exact ev_dK
  | (apply ev_not; walk_at "ev")
  | (apply ev_and; walk_at "ev"; (intro _; walk_at "ev")) | (apply ev_or; walk_at "ev"; (intro _; walk_at "ev"))
  | (apply ev_chain; walk_at "ev"; walk_at "ev"; rfl; walk_at "ev"; rfl)
  | (apply ev_sl; walk_at "ev"; rfl; walk_at "evo"; walk_at "evo"; rfl; walk_at "op"))
local macro_rules | `(tactic| walk_at "evo") => `(tactic| first | exact evo_no | (apply evo_some; walk_at "ev"))
local macro_rules | `(tactic| walk_at "evl") => `(tactic| first | exact evl_nil | (apply evl_cons; walk_at "ev"; rfl; walk_at "evl") | (apply eva_seq; walk_at "ev"; rfl; rfl) | (apply evl_enum; walk_at "ev"; rfl; rfl) | (apply evl_rng; walk_at "ev"; omega))
local macro_rules | `(tactic| walk_at "eva") => `(tactic| first | exact eva_nil | (apply eva_cons; walk_at "ev"; rfl; walk_at "eva"))
local macro_rules | `(tactic| walk_at "evp") => `(tactic| first | exact evp_nil | (apply evp_cons; walk_at "ev"; rfl; walk_at "evp"))
local macro_rules | `(tactic| walk_at "evt") => `(tactic| first
  | (apply evt_bl; walk_at "ev") | (apply evt_tru; walk_at "ev"; rfl; rfl; walk_at "op") | (apply evt_not; walk_at "evt")
  | (apply evt_and; walk_at "evt"; (intro _; walk_at "evt")) | (apply evt_or; walk_at "evt"; (intro _; walk_at "evt")))
local macro_rules | `(tactic| walk_at "seq") => `(tactic| ((try simp only [skipS_r]); apply seq_i))
local macro_rules | `(tactic| walk_at "asg") => `(tactic| ((try simp only [skipS_r]); apply asg_i; walk_at "ev"; rfl))
local macro_rules | `(tactic| walk_at "if") => `(tactic| ((try simp only [skipS_r]); apply if_i; walk_at "evt"))
local macro_rules | `(tactic| walk_at "ret") => `(tactic| ((try simp only [skipS_r]); apply ret_i; walk_at "ev"))
local macro_rules | `(tactic| walk_at "n") => `(tactic| (try simp only [skipS_r]))
abbrev Stp3 := Nat × Nat × Int
def stepD (s : Stp3) : D := .tup [nI s.1, nI s.2.1, .int s.2.2]
def StepsOk (dn m : Nat) (l : List Stp3) : Prop := ∀ r ∈ l, r.1 < dn ∧ r.2.1 < m
theorem spec_steps {rows : List Row} {dn m e : Nat} {P : EV → Env' → Prop} {X : Exx} (hr : RowsOk dn m rows) (hl : rows.length ≤ 24) (k : ∀ l t, StepsOk dn m l → P (.new (.lst (l.map stepD))) t) : runF F_steps_at [.val (.lst (rows.map rowD)), .val (nI e)] P X := by
  apply body_i
  walk_at "seq"
  walk_at "asg"
  walk_at "n"
  apply seq_cut (Q := fun v => ∃ (l : List Stp3) (c3 c4 c5 c6 : En.Slot), v = [.val (.lst (rows.map rowD)), .val (nI e), .own (.lst (l.map stepD)), c3, c4, c5, c6] ∧ StepsOk dn m l)
  · apply for_i
    · walk_at "evl"
    refine forL_inv _ (fun j v => ∃ (l : List Stp3) (c3 c4 c5 c6 : En.Slot), v = [.val (.lst (rows.map rowD)), .val (nI e), .own (.lst (l.map stepD)), c3, c4, c5, c6] ∧ StepsOk dn m l ∧ l.length ≤ 2 * j ∧ c3.isIo = false ∧ c4.isIo = false ∧ c5.isIo = false ∧ c6.isIo = false)
      ⟨[], _, _, _, _, rfl, (fun _ h => nomatch h), Nat.zero_le _, rfl, rfl, rfl, rfl⟩ ?_ ?_
    · rintro j d v hj ⟨l, c3, c4, c5, c6, rfl, hs, hll, h3, h4, h5, h6⟩
      rw [List.getElem?_map] at hj
      obtain ⟨r, hr1, rfl⟩ := Option.map_eq_some_iff.mp hj
      have hjl := (List.getElem?_eq_some_iff.mp hr1).1
      obtain ⟨q1, q2, q3⟩ := hr r (List.mem_of_getElem? hr1)
      obtain ⟨a, b, c, n⟩ := r
      refine ⟨[.val (.lst (rows.map rowD)), .val (nI e), .own (.lst (l.map stepD)), .val (nI a), .val (nI b), .val (nI c), .val (.int n)], by simp [rowD, h3, h4, h5, h6], ?_⟩
      walk_at "seq"
      have tail : ∀ l2 : List Stp3, StepsOk dn m l2 → l2.length ≤ 2 * j + 1 → (ifS (blF FL (binF FL eqD (varF 5) (varF 1))) (dropS (appF FL 2 (tupF (consL FL (kvF FL 3) (consL FL (kvF FL 4) (consL FL (unF FL negD (varF 6)) nilL)))))) skipS).r [.val (.lst (rows.map rowD)), .val (nI e), .own (.lst (l2.map stepD)), .val (nI a), .val (nI b), .val (nI c), .val (.int n)]
          { nx := fun v => ∃ (l : List Stp3) (c3 c4 c5 c6 : En.Slot), v = [.val (.lst (rows.map rowD)), .val (nI e), .own (.lst (l.map stepD)), c3, c4, c5, c6] ∧ StepsOk dn m l ∧ l.length ≤ 2 * (j + 1) ∧ c3.isIo = false ∧ c4.isIo = false ∧ c5.isIo = false ∧ c6.isIo = false, rt := fun e env => ∃ e', retE env e = some e' ∧ P e' env, bk := fun v => ∃ (l : List Stp3) (c3 c4 c5 c6 : En.Slot), v = [.val (.lst (rows.map rowD)), .val (nI e), .own (.lst (l.map stepD)), c3, c4, c5, c6] ∧ StepsOk dn m l,
            ct := fun v => ∃ (l : List Stp3) (c3 c4 c5 c6 : En.Slot), v = [.val (.lst (rows.map rowD)), .val (nI e), .own (.lst (l.map stepD)), c3, c4, c5, c6] ∧ StepsOk dn m l ∧ l.length ≤ 2 * (j + 1) ∧ c3.isIo = false ∧ c4.isIo = false ∧ c5.isIo = false ∧ c6.isIo = false } X0 := by
        intro l2 hs2 hl2
        walk_at "if"
        · intro _
          apply drop_i
          · apply app_i
            · exact ⟨_, rfl, _, rfl⟩
            · walk_at "ev"
            · rfl
            · rfl
            · rfl
            · rw [List.length_map]; omega
          refine ⟨l2 ++ [(a, b, -n)], _, _, _, _, by simp [stepD]; exact ⟨rfl, rfl, rfl, rfl⟩, ?_, by simp; omega, rfl, rfl, rfl, rfl⟩
          intro r hrr
          rcases List.mem_append.mp hrr with hrr | hrr
          · exact hs2 r hrr
          · rw [List.mem_singleton.mp hrr]; exact ⟨q1, q2⟩
        · intro _
          exact ⟨l2, _, _, _, _, rfl, hs2, by omega, rfl, rfl, rfl, rfl⟩
      walk_at "if"
      · intro _
        apply drop_i
        · apply app_i
          · exact ⟨_, rfl, _, rfl⟩
          · walk_at "ev"
          · rfl
          · rfl
          · rfl
          · rw [List.length_map]; omega
        have := tail (l ++ [(a, c, n)]) (fun r hrr => by
          rcases List.mem_append.mp hrr with hrr | hrr
          · exact hs r hrr
          · rw [List.mem_singleton.mp hrr]; exact ⟨q1, q3⟩) (by simp; omega)
        simpa [stepD] using this
      · intro _
        walk_at "n"
        exact tail l hs (by omega)
    · rintro v ⟨l, c3, c4, c5, c6, rfl, hs, _⟩
      exact ⟨l, _, _, _, _, rfl, hs⟩
  · rintro _ ⟨l, c3, c4, c5, c6, rfl, hs⟩
    walk_at "ret"
    exact ⟨_, rfl, k l _ hs⟩
/-! dicts with whole numbers as keys -/
def asO {α : Type} (f : α → D) (l : List (Nat × α)) : Ob := .dK (l.map fun q => .inl (q.1 : Int)) (l.map fun q => f q.2)
def asD {α : Type} (f : α → D) (l : List (Nat × α)) : D := .dK (l.map fun q => .inl (q.1 : Int)) (l.map fun q => f q.2)
theorem getK_as {α : Type} (f : α → D) (e : Nat) : ∀ l : List (Nat × α), getK (l.map fun q => (Sum.inl (q.1 : Int) : Key)) (l.map fun q => f q.2) (.inl (e : Int)) = (l.lookup e).map f
  | [] => rfl
  | q :: l => by
    show (if (Sum.inl (q.1 : Int) : Key) = .inl (e : Int) then some (f q.2) else getK _ _ _) = _
    by_cases h : e = q.1
    · subst h
      rw [if_pos rfl]
      simp [List.lookup]
    · rw [if_neg (by intro z; simp at z; omega), getK_as f e l]
      have : (e == q.1) = false := by simp [h]
      simp [List.lookup, this]
theorem dget_as {α : Type} {f : α → D} {e : Nat} {l : List (Nat × α)} {a : α} (h : l.lookup e = some a) : dgetD (asD f l) (nI e) = some (f a) := by
  show getK _ _ _ = _
  rw [getK_as, h]; rfl
theorem in_as {α : Type} {f : α → D} {e : Nat} {l : List (Nat × α)} : inD (nI e) (asD f l) = some (.bl (l.lookup e).isSome) := by
  show some (D.bl (getK _ _ _).isSome) = _
  rw [getK_as]; cases l.lookup e <;> rfl
theorem notIn_as {α : Type} {f : α → D} {e : Nat} {l : List (Nat × α)} : notInD (nI e) (asD f l) = some (.bl (!(l.lookup e).isSome)) := by
  show some (D.bl (!(getK _ _ _).isSome)) = _
  rw [getK_as]; cases l.lookup e <;> rfl
theorem lookup_none {α : Type} {e : Nat} : ∀ {l : List (Nat × α)}, l.lookup e = none → ∀ q ∈ l, q.1 ≠ e
  | q :: l, h, r, hr => by
    by_cases hq : (e == q.1) = true
    · simp [List.lookup, hq] at h
    · have hq' : (e == q.1) = false := by simpa using hq
      simp only [List.lookup, hq'] at h
      rcases List.mem_cons.mp hr with rfl | hr
      · intro z; simp [z] at hq
      · exact lookup_none h r hr
theorem put_as {α : Type} {f : α → D} {e : Nat} {l : List (Nat × α)} {a : α} (h : l.lookup e = none) (hz : l.length < 100000) : putOb (asO f l) (nI e) (f a) = some (asO f (l ++ [(e, a)])) := by
  have h1 : ((l.map fun q => (Sum.inl (q.1 : Int) : Key)).any fun j => decide (j = .inl (e : Int))) = false := by
    rw [List.any_eq_false]
    intro k hk
    obtain ⟨q, hq, rfl⟩ := List.mem_map.mp hk
    have := lookup_none h q hq
    simp; omega
  show (if (l.map fun q => f q.2).length < 100000 then some (Ob.dK (putD _ _ _ _).1 (putD _ _ _ _).2) else none) = _
  rw [if_pos (by rw [List.length_map]; exact hz)]
  unfold putD
  rw [h1, if_neg Bool.false_ne_true]
  simp [asO]
end Lw
set_option Elab.async false
set_option linter.all false
set_option maxRecDepth 100000
set_option maxHeartbeats 4000000
namespace Lw
open PySem PySem.Spec L2 En
local macro_rules | `(tactic| walk_at "op") => `(tactic| first | assumption | rfl | (exact mod_ok (by first | decide | omega)) | (exact mul_r (by first | decide | omega) (by first | decide | omega)) | (exact mul_l (by first | decide | omega) (by first | decide | omega)) | (exact div_ok (by first | decide | omega) (by first | decide | omega)) | assumption)
local macro_rules | `(tactic| walk_at "ev") => `(tactic| first
  | exact ev_lit | exact ev_var rfl | exact ev_kv rfl | exact ev_varo rfl | exact ev_vari rfl | exact ev_kvo rfl rfl
  | (apply ev_bin; walk_at "ev"; rfl; walk_at "ev"; rfl; rfl; rfl; walk_at "op")
  | (apply ev_un; walk_at "ev"; rfl; rfl; walk_at "op")
  | (apply ev_unN; walk_at "ev"; rfl; rfl; walk_at "op")
  | (apply ev_tup; walk_at "evl"; (first | decide | simp))
  | (apply ev_lst; walk_at "evl"; (first | decide | simp))
  | exact ev_dK
  | (apply ev_not; walk_at "ev")
  | (apply ev_and; walk_at "ev"; (intro _; walk_at "ev")) | (apply ev_or; walk_at "ev"; (intro _; walk_at "ev"))
  | (apply ev_chain; walk_at "ev"; walk_at "ev"; rfl; walk_at "ev"; rfl)
  | (apply ev_sl; walk_at "ev"; rfl; walk_at "evo"; walk_at "evo"; rfl; walk_at "op"))
local macro_rules | `(tactic| walk_at "evo") => `(tactic| first | exact evo_no | (apply evo_some; walk_at "ev"))
local macro_rules | `(tactic| walk_at "evl") => `(tactic| first | exact evl_nil | (apply evl_cons; walk_at "ev"; rfl; walk_at "evl") | (apply eva_seq; walk_at "ev"; rfl; rfl) | (apply evl_enum; walk_at "ev"; rfl; rfl) | (apply evl_rng; walk_at "ev"; omega))
local macro_rules | `(tactic| walk_at "eva") => `(tactic| first | exact eva_nil | (apply eva_cons; walk_at "ev"; rfl; walk_at "eva"))
local macro_rules | `(tactic| walk_at "evp") => `(tactic| first | exact evp_nil | (apply evp_cons; walk_at "ev"; rfl; walk_at "evp"))
local macro_rules | `(tactic| walk_at "evt") => `(tactic| first
  | (apply evt_bl; walk_at "ev") | (apply evt_tru; walk_at "ev"; rfl; rfl; walk_at "op") | (apply evt_not; walk_at "evt")
  | (apply evt_and; walk_at "evt"; (intro _; walk_at "evt")) | (apply evt_or; walk_at "evt"; (intro _; walk_at "evt")))
local macro_rules | `(tactic| walk_at "seq") => `(tactic| ((try simp only [skipS_r]); apply seq_i))
local macro_rules | `(tactic| walk_at "asg") => `(tactic| ((try simp only [skipS_r]); apply asg_i; walk_at "ev"; rfl))
local macro_rules | `(tactic| walk_at "if") => `(tactic| ((try simp only [skipS_r]); apply if_i; walk_at "evt"))
local macro_rules | `(tactic| walk_at "ret") => `(tactic| ((try simp only [skipS_r]); apply ret_i; walk_at "ev"))
local macro_rules | `(tactic| walk_at "n") => `(tactic| (try simp only [skipS_r]))
def wyD (q : Nat × Nat) : D := .tup [nI q.1, nI q.2]
abbrev Rests := List (Nat × Int)
abbrev Ways := List (Nat × Nat × Nat)
def mu (m : Nat) (r : Rests) : Nat := ((List.range m).filter fun i => (r.lookup i).isNone).length
theorem filt_lt2 {p q : Nat → Bool} (h : ∀ x, q x = true → p x = true) {x : Nat} (hp : p x = true) (hq : q x = false) : ∀ {l : List Nat}, x ∈ l → (l.filter q).length < (l.filter p).length := by
  have mono : ∀ l : List Nat, (l.filter q).length ≤ (l.filter p).length := by
    intro l
    induction l with
    | nil => exact Nat.le_refl _
    | cons z l ih =>
      rw [List.filter_cons, List.filter_cons]
      by_cases hz : q z = true
      · rw [if_pos hz, if_pos (h z hz), List.length_cons, List.length_cons]; omega
      · rw [if_neg hz]
        split
        · rw [List.length_cons]; omega
        · exact ih
  intro l hx
  induction l with
  | nil => cases hx
  | cons z l ih =>
    rw [List.filter_cons, List.filter_cons]
    rcases List.mem_cons.mp hx with rfl | hx
    · rw [if_neg (by rw [hq]; decide), if_pos hp, List.length_cons]
      have := mono l
      omega
    · have := ih hx
      by_cases hz : q z = true
      · rw [if_pos hz, if_pos (h z hz), List.length_cons, List.length_cons]; omega
      · rw [if_neg hz]
        split
        · rw [List.length_cons]; omega
        · exact this
theorem lookup_snoc {α : Type} {e x : Nat} {a : α} : ∀ {l : List (Nat × α)}, (l ++ [(e, a)]).lookup x = match l.lookup x with | some v => some v | none => if x = e then some a else none
  | [] => by
    by_cases h : x = e
    · subst h; simp [List.lookup]
    · have : (x == e) = false := by simpa using h
      simp [List.lookup, this, h]
  | q :: l => by
    by_cases h : (x == q.1) = true
    · simp [List.lookup, h]
    · have h' : (x == q.1) = false := by simpa using h
      simp only [List.cons_append, List.lookup, h']
      exact lookup_snoc
theorem mu_snoc {m e : Nat} {a : Int} {r : Rests} (he : e < m) (h : r.lookup e = none) : mu m (r ++ [(e, a)]) < mu m r := by
  refine filt_lt2 (x := e) (fun x hx => ?_) (by rw [h]; rfl) (by rw [lookup_snoc, h]; simp) (List.mem_range.mpr he)
  rw [lookup_snoc] at hx
  cases hr : r.lookup x with
  | none => rfl
  | some v => rw [hr] at hx; exact hx
theorem mu_le (m : Nat) (r : Rests) : mu m r ≤ m := by
  have := List.length_filter_le (fun i => (r.lookup i).isNone) (List.range m)
  rw [List.length_range] at this
  exact this
/-- each way goes back to an earlier one, or to a root -/
structure GOk (dn m : Nat) (r : Rests) (w : Ways) : Prop where
  sub : ∀ e, r.lookup e = none → w.lookup e = none
  ent : ∀ q ∈ w, q.1 < m ∧ q.2.1 < dn ∧ q.2.2 < m ∧ (r.lookup q.1).isSome = true ∧ (r.lookup q.2.2).isSome = true
  ord : ∀ (i : Nat) q, w[i]? = some q → ∀ (j : Nat) q', w[j]? = some q' → q'.1 = q.2.2 → j < i
  len : r.length + mu m r ≤ 2 * m
  lew : w.length ≤ r.length
theorem GOk.snoc {dn m e d p : Nat} {v : Int} {r : Rests} {w : Ways} (g : GOk dn m r w) (he : e < m) (hd : d < dn) (hp : p < m) (h : r.lookup e = none) (hps : (r.lookup p).isSome = true) : GOk dn m (r ++ [(e, v)]) (w ++ [(e, d, p)]) := by
  have pe : p ≠ e := fun z => by rw [z, h] at hps; cases hps
  have keep : ∀ x, (r.lookup x).isSome = true → ((r ++ [(e, v)]).lookup x).isSome = true := fun x hx => by
    rw [lookup_snoc]
    cases hr : r.lookup x with
    | none => rw [hr] at hx; cases hx
    | some v => rfl
  refine ⟨fun x hx => ?_, fun q hq => ?_, fun i q hi j q' hj hqq => ?_, ?_, by simp; have := g.lew; omega⟩
  · rw [lookup_snoc] at hx ⊢
    cases hr : r.lookup x with
    | some v => rw [hr] at hx; cases hx
    | none =>
      rw [hr] at hx
      rw [g.sub x hr]
      by_cases hxe : x = e
      · simp [hxe] at hx
      · simp [hxe]
  · rcases List.mem_append.mp hq with hq | hq
    · obtain ⟨h1, h2, h3, h4, h5⟩ := g.ent q hq
      exact ⟨h1, h2, h3, keep _ h4, keep _ h5⟩
    · rw [List.mem_singleton.mp hq]
      exact ⟨he, hd, hp, by rw [lookup_snoc, h]; simp, keep _ hps⟩
  · rw [List.getElem?_append] at hi hj
    split at hi
    · rename_i hil
      obtain ⟨_, _, _, _, h5⟩ := g.ent q (List.mem_of_getElem? hi)
      split at hj
      · exact g.ord i q hi j q' hj hqq
      · rename_i hjl
        have : q' = (e, d, p) := by
          have := (List.getElem?_eq_some_iff.mp hj).1
          have hz : j - w.length = 0 := by simp at this; omega
          rw [hz] at hj; simpa using hj.symm
        rw [this] at hqq
        have hqq : e = q.2.2 := hqq
        rw [← hqq, h] at h5; cases h5
    · rename_i hil
      have hq : q = (e, d, p) := by
        have := (List.getElem?_eq_some_iff.mp hi).1
        have hz : i - w.length = 0 := by simp at this; omega
        rw [hz] at hi; simpa using hi.symm
      have hiw : i = w.length := by
        have := (List.getElem?_eq_some_iff.mp hi).1
        simp at this; omega
      split at hj
      · omega
      · rename_i hjl
        have : q' = (e, d, p) := by
          have := (List.getElem?_eq_some_iff.mp hj).1
          have hz : j - w.length = 0 := by simp at this; omega
          rw [hz] at hj; simpa using hj.symm
        rw [this, hq] at hqq
        exact absurd hqq (Ne.symm pe)
  · have := mu_snoc (a := v) he h
    have := g.len
    simp; omega
theorem GOk.root {dn m e : Nat} {v : Int} {r : Rests} {w : Ways} (g : GOk dn m r w) (he : e < m) (h : r.lookup e = none) : GOk dn m (r ++ [(e, v)]) w := by
  have keep : ∀ x, (r.lookup x).isSome = true → ((r ++ [(e, v)]).lookup x).isSome = true := fun x hx => by
    rw [lookup_snoc]
    cases hr : r.lookup x with
    | none => rw [hr] at hx; cases hx
    | some v => rfl
  refine ⟨fun x hx => ?_, fun q hq => ?_, g.ord, ?_, by simp; have := g.lew; omega⟩
  · rw [lookup_snoc] at hx
    cases hr : r.lookup x with
    | some v => rw [hr] at hx; cases hx
    | none => exact g.sub x hr
  · obtain ⟨h1, h2, h3, h4, h5⟩ := g.ent q hq
    exact ⟨h1, h2, h3, keep _ h4, keep _ h5⟩
  · have := mu_snoc (a := v) he h
    have := g.len
    simp; omega
end Lw
set_option Elab.async false
set_option linter.all false
set_option maxRecDepth 100000
set_option maxHeartbeats 4000000
namespace Lw
open PySem PySem.Spec L2 En
local macro_rules | `(tactic| walk_at "op") => `(tactic| first | assumption | rfl | (exact mod_ok (by first | decide | omega)) | (exact mul_r (by first | decide | omega) (by first | decide | omega)) | (exact mul_l (by first | decide | omega) (by first | decide | omega)) | (exact div_ok (by first | decide | omega) (by first | decide | omega)) | assumption)
local macro_rules | `(tactic| walk_at "ev") => `(tactic| first
  | exact ev_lit | exact ev_var rfl | exact ev_kv rfl | exact ev_varo rfl | exact ev_vari rfl | exact ev_kvo rfl rfl
  | (apply ev_bin; walk_at "ev"; rfl; walk_at "ev"; rfl; rfl; rfl; walk_at "op")
  | (apply ev_un; walk_at "ev"; rfl; rfl; walk_at "op")
  | (apply ev_unN; walk_at "ev"; rfl; rfl; walk_at "op")
  | (apply ev_tup; walk_at "evl"; (first | decide | simp))
  | (apply ev_lst; walk_at "evl"; (first | decide | simp))
  | exact ev_dK
  | (apply ev_not; walk_at "ev")
  | (apply ev_and; walk_at "ev"; (intro _; walk_at "ev")) | (apply ev_or; walk_at "ev"; (intro _; walk_at "ev"))
  | (apply ev_chain; walk_at "ev"; walk_at "ev"; rfl; walk_at "ev"; rfl)
  | (apply ev_sl; walk_at "ev"; rfl; walk_at "evo"; walk_at "evo"; rfl; walk_at "op"))
local macro_rules | `(tactic| walk_at "evo") => `(tactic| first | exact evo_no | (apply evo_some; walk_at "ev"))
local macro_rules | `(tactic| walk_at "evl") => `(tactic| first | exact evl_nil | (apply evl_cons; walk_at "ev"; rfl; walk_at "evl") | (apply eva_seq; walk_at "ev"; rfl; rfl) | (apply evl_enum; walk_at "ev"; rfl; rfl) | (apply evl_rng; walk_at "ev"; omega))
local macro_rules | `(tactic| walk_at "eva") => `(tactic| first | exact eva_nil | (apply eva_cons; walk_at "ev"; rfl; walk_at "eva"))
local macro_rules | `(tactic| walk_at "evp") => `(tactic| first | exact evp_nil | (apply evp_cons; walk_at "ev"; rfl; walk_at "evp"))
local macro_rules | `(tactic| walk_at "evt") => `(tactic| first
  | (apply evt_bl; walk_at "ev") | (apply evt_tru; walk_at "ev"; rfl; rfl; walk_at "op") | (apply evt_not; walk_at "evt")
  | (apply evt_and; walk_at "evt"; (intro _; walk_at "evt")) | (apply evt_or; walk_at "evt"; (intro _; walk_at "evt")))
local macro_rules | `(tactic| walk_at "seq") => `(tactic| ((try simp only [skipS_r]); apply seq_i))
local macro_rules | `(tactic| walk_at "asg") => `(tactic| ((try simp only [skipS_r]); apply asg_i; walk_at "ev"; rfl))
local macro_rules | `(tactic| walk_at "if") => `(tactic| ((try simp only [skipS_r]); apply if_i; walk_at "evt"))
local macro_rules | `(tactic| walk_at "ret") => `(tactic| ((try simp only [skipS_r]); apply ret_i; walk_at "ev"))
local macro_rules | `(tactic| walk_at "n") => `(tactic| (try simp only [skipS_r]))
theorem isSome_snoc {r : Rests} {e x : Nat} {v : Int} (hx : (r.lookup x).isSome = true) : ((r ++ [(e, v)]).lookup x).isSome = true := by
  rw [lookup_snoc]
  cases hr : r.lookup x with
  | none => rw [hr] at hx; cases hx
  | some v => rfl
def Mn (a b : Rests) : Prop := ∀ y, (a.lookup y).isSome = true → (b.lookup y).isSome = true
abbrev rO (r : Rests) : Ob := asO D.int r
abbrev wO (w : Ways) : Ob := asO wyD w
abbrev tri (d a b : Nat) : D := .tup [nI d, nI a, nI b]
theorem spec_grown {rows : List Row} {dn m root : Nat} {p : Int} {r0 : Rests} {w : Ways} {P : EV → Env' → Prop} {X : Exx} (hp : 0 < p) (hr : RowsOk dn m rows) (hl : rows.length ≤ 24) (hm : m ≤ 4) (g : GOk dn m r0 w) (hroot : root < m) (hrs : (r0.lookup root).isSome = true)
    (k1 : ∀ r' w' t, GOk dn m r' w' → Mn r0 r' → P (.val .non) (.val (.lst (rows.map rowD)) :: .val (.int p) :: .io (rO r') :: .io (wO w') :: t))
    (k2 : ∀ d a b r' w' t, d < dn → a < m → b < m → GOk dn m r' w' → Mn r0 r' → P (.val (tri d a b)) (.val (.lst (rows.map rowD)) :: .val (.int p) :: .io (rO r') :: .io (wO w') :: t)) :
    runF F_grown [.val (.lst (rows.map rowD)), .val (.int p), .io (rO r0), .io (wO w), .val (nI root)] P X := by
  apply body_i
  walk_at "seq"
  apply asg_i
  · apply ev_lst
    · apply evl_cons
      · exact ev_kv rfl
      · rfl
      exact evl_nil
    · simp
  · rfl
  walk_at "n"
  let I : Nat → Env' → Prop := fun n e => ∃ (r : Rests) (w : Ways) (line : List Nat) (c6 c7 c8 c9 c10 : En.Slot), e = [.val (.lst (rows.map rowD)), .val (.int p), .io (rO r), .io (wO w), .val (nI root), .own (.lst (line.map nI)), c6, c7, c8, c9, c10] ∧ (GOk dn m r w ∧ Mn r0 r) ∧
    (∀ x ∈ line, x < m ∧ (r.lookup x).isSome = true) ∧ 2 * mu m r + line.length ≤ n ∧ n ≤ 9 ∧ c6.isIo = false ∧ c7.isIo = false ∧ c8.isIo = false ∧ c9.isIo = false ∧ c10.isIo = false
  apply seq_cut (Q := fun e => ∃ (r : Rests) (w : Ways) (t : Env'), e = .val (.lst (rows.map rowD)) :: .val (.int p) :: .io (rO r) :: .io (wO w) :: t ∧ (GOk dn m r w ∧ Mn r0 r))
  · refine while_inv I (2 * m + 1) ⟨r0, w, [root], _, _, _, _, _, rfl, ⟨g, fun _ h => h⟩, (fun x hx => by rw [List.mem_singleton.mp hx]; exact ⟨hroot, hrs⟩), by have := mu_le m r0; simp; omega, by omega, rfl, rfl, rfl, rfl, rfl⟩ ?_
    rintro n e ⟨r, w, line, c6, c7, c8, c9, c10, rfl, g, hline, hmu, hn9, h6, h7, h8, h9, h10⟩
    refine (by walk_at "evt" : EvT (truF FL (varF 5)) _ _ _) _ _ ?_
    rcases List.eq_nil_or_concat line with rfl | ⟨l', x, rfl⟩
    · rw [if_neg (by simp)]
      exact ⟨r, w, _, rfl, g⟩
    · rw [if_pos (by simp)]
      rw [List.concat_eq_append] at *
      obtain ⟨hxm, hxs⟩ := hline x (by simp)
      walk_at "seq"
      apply asg_c
      refine ⟨_, _, nI x, rfl, rfl, by simp, ?_⟩
      refine ⟨[.val (.lst (rows.map rowD)), .val (.int p), .io (rO r), .io (wO w), .val (nI root), .own (.lst (l'.map nI)), .val (nI x), c7, c8, c9, c10], by simp [h6], ?_⟩
      walk_at "n"
      apply for_c
      apply seqI_c
      apply call_i
      · walk_at "eva"
      · rfl
      · simp
      refine spec_steps hr hl fun l t hs => ?_
      refine ⟨rfl, _, rfl, _, rfl, _, rfl, ?_⟩
      simp only [List.length_append, List.length_singleton] at hmu
      let J : Env' → Prop := fun e => ∃ (r : Rests) (w : Ways) (line : List Nat) (c7 c8 c9 c10 : En.Slot), e = [.val (.lst (rows.map rowD)), .val (.int p), .io (rO r), .io (wO w), .val (nI root), .own (.lst (line.map nI)), .val (nI x), c7, c8, c9, c10] ∧ (GOk dn m r w ∧ Mn r0 r) ∧
        (∀ x ∈ line, x < m ∧ (r.lookup x).isSome = true) ∧ (r.lookup x).isSome = true ∧ 2 * mu m r + line.length ≤ n - 1 ∧ c7.isIo = false ∧ c8.isIo = false ∧ c9.isIo = false ∧ c10.isIo = false
      refine forL_inv _ (fun _ e => J e) ⟨r, w, l', c7, c8, c9, c10, rfl, g, (fun y hy => hline y (by simp [hy])), hxs, by omega, h7, h8, h9, h10⟩ ?_ ?_
      · rintro j d e hj ⟨r, w, line, c7, c8, c9, c10, rfl, g, hline, hxs, hmu, h7, h8, h9, h10⟩
        rw [List.getElem?_map] at hj
        obtain ⟨s, hs1, rfl⟩ := Option.map_eq_some_iff.mp hj
        obtain ⟨q1, q2⟩ := hs s (List.mem_of_getElem? hs1)
        obtain ⟨dy, ot, nu⟩ := s
        have q1 : dy < dn := q1
        have q2 : ot < m := q2
        obtain ⟨vx, hvx⟩ := Option.isSome_iff_exists.mp hxs
        have hgx : dgetD (asD D.int r) (nI x) = some (.int vx) := dget_as hvx
        refine ⟨[.val (.lst (rows.map rowD)), .val (.int p), .io (rO r), .io (wO w), .val (nI root), .own (.lst (line.map nI)), .val (nI x), .val (nI dy), .val (nI ot), .val (.int nu), c10], by simp [stepD, h7, h8, h9], ?_⟩
        walk_at "seq"
        apply asg_i
        · apply ev_bin
          · apply ev_bin
            · apply ev_bin
              · exact ev_vari rfl
              · rfl
              · exact ev_var rfl
              · rfl
              · exact (rfl : _ = some (asD D.int r))
              · rfl
              · exact hgx
            · rfl
            · exact ev_var rfl
            · rfl
            · rfl
            · rfl
            · rfl
          · rfl
          · exact ev_var rfl
          · rfl
          · rfl
          · rfl
          · exact mod_ok hp
        · simp [h10]; rfl
        walk_at "n"
        have hni : notInD (nI ot) (asD D.int r) = some (.bl (!(r.lookup ot).isSome)) := notIn_as
        apply if_i
        · apply evt_bl
          apply ev_bin
          · exact ev_var rfl
          · rfl
          · exact ev_vari rfl
          · rfl
          · rfl
          · exact (rfl : _ = some (asD D.int r))
          · exact hni
        · intro hb
          have hno : r.lookup ot = none := by
            cases hz : r.lookup ot with
            | none => rfl
            | some v => rw [hz] at hb; cases hb
          have hrl : r.length < 100000 := by have := g.1.len; omega
          have hwl : w.length < 100000 := by have := g.1.lew; have := g.1.len; omega
          walk_at "seq"
          apply tgt_i
          · walk_at "ev"
          · rfl
          refine ⟨_, rfl, rfl, _, _, rfl, ?_⟩
          apply sub_i
          · rfl
          · rfl
          · exact ev_var rfl
          · rfl
          · rfl
          · rfl
          · rfl
          · exact put_as (f := D.int) hno hrl
          refine ⟨_, _, rfl, ?_⟩
          apply sub_i
          · rfl
          · rfl
          · exact ev_var rfl
          · rfl
          · rfl
          · rfl
          · rfl
          · exact put_as (f := wyD) (a := (dy, x)) (g.1.sub ot hno) hwl
          refine ⟨rfl, ?_⟩
          walk_at "n"
          apply drop_i
          · apply app_i
            · exact ⟨_, rfl, _, rfl⟩
            · exact ev_kv rfl
            · rfl
            · rfl
            · rfl
            · rw [List.length_map]; omega
          have hms := mu_snoc (m := m) (a := (vx + nu) % p) q2 hno
          refine ⟨r ++ [(ot, (vx + nu) % p)], w ++ [(ot, dy, x)], line ++ [ot], .val (nI dy), .val (nI ot), .val (.int nu), .val (.int ((vx + nu) % p)), by simp, ⟨g.1.snoc q2 q1 hxm hno hxs, fun y hy => isSome_snoc (g.2 y hy)⟩, ?_, isSome_snoc hxs, by rw [List.length_append, List.length_singleton]; omega, rfl, rfl, rfl, rfl⟩
          intro y hy
          rcases List.mem_append.mp hy with hy | hy
          · exact ⟨(hline y hy).1, isSome_snoc (hline y hy).2⟩
          · rw [List.mem_singleton.mp hy]
            exact ⟨q2, by rw [lookup_snoc, hno]; simp⟩
        · intro hb
          have hso : (r.lookup ot).isSome = true := by
            cases hz : r.lookup ot with
            | none => rw [hz] at hb; cases hb
            | some v => rfl
          obtain ⟨vo, hvo⟩ := Option.isSome_iff_exists.mp hso
          have hgo : dgetD (asD D.int r) (nI ot) = some (.int vo) := dget_as hvo
          walk_at "n"
          apply if_i
          · apply evt_bl
            apply ev_bin
            · apply ev_bin
              · exact ev_vari rfl
              · rfl
              · exact ev_var rfl
              · rfl
              · exact (rfl : _ = some (asD D.int r))
              · rfl
              · exact hgo
            · rfl
            · exact ev_var rfl
            · rfl
            · rfl
            · rfl
            · rfl
          · intro _
            walk_at "ret"
            exact ⟨_, rfl, k2 dy x ot r w _ q1 hxm q2 g.1 g.2⟩
          · intro _
            walk_at "n"
            exact ⟨r, w, line, _, _, _, _, rfl, g, hline, hxs, hmu, rfl, rfl, rfl, rfl⟩
      · rintro e ⟨r, w, line, c7, c8, c9, c10, rfl, g, hline, hxs, hmu, h7, h8, h9, h10⟩
        exact ⟨n - 1, by omega, r, w, line, _, _, _, _, _, rfl, g, hline, hmu, by omega, rfl, h7, h8, h9, h10⟩
  · rintro _ ⟨r, w, t, rfl, g⟩
    apply ret_i
    · exact ev_lit
    exact ⟨_, rfl, k1 r w t g.1 g.2⟩
end Lw
set_option Elab.async false
set_option linter.all false
set_option maxRecDepth 100000
set_option maxHeartbeats 4000000
namespace Lw
open PySem PySem.Spec L2 En
local macro_rules | `(tactic| walk_at "op") => `(tactic| first | assumption | rfl | (exact mod_ok (by first | decide | omega)) | (exact mul_r (by first | decide | omega) (by first | decide | omega)) | (exact mul_l (by first | decide | omega) (by first | decide | omega)) | (exact div_ok (by first | decide | omega) (by first | decide | omega)) | assumption)
local macro_rules | `(tactic| walk_at "ev") => `(tactic| first
  | exact ev_lit | exact ev_var rfl | exact ev_kv rfl | exact ev_varo rfl | exact ev_vari rfl | exact ev_kvo rfl rfl
  | (apply ev_bin; walk_at "ev"; rfl; walk_at "ev"; rfl; rfl; rfl; walk_at "op")
  | (apply ev_un; walk_at "ev"; rfl; rfl; walk_at "op")
  | (apply ev_unN; walk_at "ev"; rfl; rfl; walk_at "op")
  | (apply ev_tup; walk_at "evl"; (first | decide | simp))
  | (apply ev_lst; walk_at "evl"; (first | decide | simp))
  | exact ev_dK
  | (apply ev_not; walk_at "ev")
  | (apply ev_and; walk_at "ev"; (intro _; walk_at "ev")) | (apply ev_or; walk_at "ev"; (intro _; walk_at "ev"))
  | (apply ev_chain; walk_at "ev"; walk_at "ev"; rfl; walk_at "ev"; rfl)
  | (apply ev_sl; walk_at "ev"; rfl; walk_at "evo"; walk_at "evo"; rfl; walk_at "op"))
local macro_rules | `(tactic| walk_at "evo") => `(tactic| first | exact evo_no | (apply evo_some; walk_at "ev"))
local macro_rules | `(tactic| walk_at "evl") => `(tactic| first | exact evl_nil | (apply evl_cons; walk_at "ev"; rfl; walk_at "evl") | (apply eva_seq; walk_at "ev"; rfl; rfl) | (apply evl_enum; walk_at "ev"; rfl; rfl) | (apply evl_rng; walk_at "ev"; omega))
local macro_rules | `(tactic| walk_at "eva") => `(tactic| first | exact eva_nil | (apply eva_cons; walk_at "ev"; rfl; walk_at "eva"))
local macro_rules | `(tactic| walk_at "evp") => `(tactic| first | exact evp_nil | (apply evp_cons; walk_at "ev"; rfl; walk_at "evp"))
local macro_rules | `(tactic| walk_at "evt") => `(tactic| first
  | (apply evt_bl; walk_at "ev") | (apply evt_tru; walk_at "ev"; rfl; rfl; walk_at "op") | (apply evt_not; walk_at "evt")
  | (apply evt_and; walk_at "evt"; (intro _; walk_at "evt")) | (apply evt_or; walk_at "evt"; (intro _; walk_at "evt")))
local macro_rules | `(tactic| walk_at "seq") => `(tactic| ((try simp only [skipS_r]); apply seq_i))
local macro_rules | `(tactic| walk_at "asg") => `(tactic| ((try simp only [skipS_r]); apply asg_i; walk_at "ev"; rfl))
local macro_rules | `(tactic| walk_at "if") => `(tactic| ((try simp only [skipS_r]); apply if_i; walk_at "evt"))
local macro_rules | `(tactic| walk_at "ret") => `(tactic| ((try simp only [skipS_r]); apply ret_i; walk_at "ev"))
local macro_rules | `(tactic| walk_at "n") => `(tactic| (try simp only [skipS_r]))
def t3 (q : Nat × Nat × Nat) : D := tri q.1 q.2.1 q.2.2
def T3Ok (dn m : Nat) (l : List (Nat × Nat × Nat)) : Prop := ∀ q ∈ l, q.1 < dn ∧ q.2.1 < m ∧ q.2.2 < m
theorem lookup_get {α : Type} {e : Nat} {a : α} : ∀ {l : List (Nat × α)}, l.lookup e = some a → ∃ i : Nat, l[i]? = some (e, a)
  | q :: l, h => by
    by_cases hq : (e == q.1) = true
    · simp only [List.lookup, hq] at h
      cases h
      exact ⟨0, by rw [beq_iff_eq.mp hq]; rfl⟩
    · have hq' : (e == q.1) = false := by simpa using hq
      simp only [List.lookup, hq'] at h
      obtain ⟨i, hi⟩ := lookup_get h
      exact ⟨i + 1, by simpa using hi⟩
theorem spec_way {dn m e : Nat} {r : Rests} {w : Ways} {P : EV → Env' → Prop} {X : Exx} (g : GOk dn m r w) (hm : m ≤ 4) (he : e < m) (k : ∀ l t, T3Ok dn m l → l.length ≤ w.length → P (.val (.lst (l.map t3))) (.io (wO w) :: t)) : runF F_way_to [.io (wO w), .val (nI e)] P X := by
  apply body_i
  walk_at "seq"
  walk_at "asg"
  walk_at "n"
  have hwl : w.length ≤ 8 := by have := g.len; have := g.lew; omega
  apply seq_cut (Q := fun v => ∃ (l : List (Nat × Nat × Nat)) (c1 c3 c4 : En.Slot), v = [.io (wO w), c1, .own (.lst (l.map t3)), c3, c4] ∧ T3Ok dn m l ∧ l.length ≤ w.length)
  · refine while_inv (fun n v => ∃ (l : List (Nat × Nat × Nat)) (e : Nat) (c3 c4 : En.Slot), v = [.io (wO w), .val (nI e), .own (.lst (l.map t3)), c3, c4] ∧ T3Ok dn m l ∧ e < m ∧ (∀ (j : Nat) q, w[j]? = some q → q.1 = e → j < n) ∧ l.length + n ≤ w.length ∧ c3.isIo = false ∧ c4.isIo = false) w.length
      ⟨[], e, _, _, rfl, (fun _ h => nomatch h), he, fun j q h _ => (List.getElem?_eq_some_iff.mp h).1, by simp, rfl, rfl⟩ ?_
    rintro n v ⟨l, e, c3, c4, rfl, hl, he, ho, hn, h3, h4⟩
    have hin : inD (nI e) (asD wyD w) = some (.bl (w.lookup e).isSome) := in_as
    have ht : EvT (blF FL (binF FL inD (varF 1) (varF 0))) [.io (wO w), .val (nI e), .own (.lst (l.map t3)), c3, c4] (w.lookup e).isSome [.io (wO w), .val (nI e), .own (.lst (l.map t3)), c3, c4] := by
      apply evt_bl
      apply ev_bin
      · exact ev_var rfl
      · rfl
      · exact ev_vari rfl
      · rfl
      · rfl
      · exact (rfl : _ = some (asD wyD w))
      · exact hin
    refine ht _ _ ?_
    cases hz : w.lookup e with
    | none =>
      rw [if_neg (by simp)]
      exact ⟨l, _, _, _, rfl, hl, by omega⟩
    | some q =>
      obtain ⟨d, p⟩ := q
      rw [if_pos (by simp)]
      obtain ⟨i, hi⟩ := lookup_get hz
      obtain ⟨_, g2, g3, _, _⟩ := g.ent _ (List.mem_of_getElem? hi)
      have hin2 := ho i _ hi rfl
      have hget : dgetD (asD wyD w) (nI e) = some (wyD (d, p)) := dget_as hz
      walk_at "seq"
      apply pat_i
      · apply ev_bin
        · exact ev_vari rfl
        · rfl
        · exact ev_var rfl
        · rfl
        · exact (rfl : _ = some (asD wyD w))
        · rfl
        · exact hget
      · rfl
      · simp [wyD, h3, h4]; rfl
      walk_at "seq"
      apply drop_i
      · apply app_i
        · exact ⟨_, rfl, _, rfl⟩
        · walk_at "ev"
        · rfl
        · rfl
        · rfl
        · rw [List.length_map]; omega
      walk_at "asg"
      refine ⟨i, hin2, l ++ [(d, p, e)], p, .val (nI d), .val (nI p), by simp [t3], ?_, g3, fun j q hj hq => g.ord i _ hi j q hj hq, by simp; omega, rfl, rfl⟩
      intro q hq
      rcases List.mem_append.mp hq with hq | hq
      · exact hl q hq
      · rw [List.mem_singleton.mp hq]; exact ⟨g2, g3, he⟩
  · rintro _ ⟨l, c1, c3, c4, rfl, hl, hn⟩
    apply ret_i
    · apply ev_un
      · exact ev_varo rfl
      · rfl
      · rfl
      · exact (rfl : _ = some (D.lst (l.map t3).reverse))
    refine ⟨_, rfl, ?_⟩
    have := k l.reverse [c1, .own (.lst (l.map t3)), c3, c4] (fun q hq => hl q (by simpa using hq)) (by simpa using hn)
    rwa [List.map_reverse] at this
end Lw
set_option Elab.async false
set_option linter.all false
set_option maxRecDepth 100000
set_option maxHeartbeats 4000000
namespace Lw
open PySem PySem.Spec L2 En
local macro_rules | `(tactic| walk_at "op") => `(tactic| first | assumption | rfl | (exact mod_ok (by first | decide | omega)) | (exact mul_r (by first | decide | omega) (by first | decide | omega)) | (exact mul_l (by first | decide | omega) (by first | decide | omega)) | (exact div_ok (by first | decide | omega) (by first | decide | omega)) | assumption)
local macro_rules | `(tactic| walk_at "ev") => `(tactic| first
  | exact ev_lit | exact ev_var rfl | exact ev_kv rfl | exact ev_varo rfl | exact ev_vari rfl | exact ev_kvo rfl rfl
  | (apply ev_bin; walk_at "ev"; rfl; walk_at "ev"; rfl; rfl; rfl; walk_at "op")
  | (apply ev_un; walk_at "ev"; rfl; rfl; walk_at "op")
  | (apply ev_unN; walk_at "ev"; rfl; rfl; walk_at "op")
  | (apply ev_tup; walk_at "evl"; (first | decide | simp))
  | (apply ev_lst; walk_at "evl"; (first | decide | simp))
  | exact ev_dK
  | (apply ev_not; walk_at "ev")
  | (apply ev_and; walk_at "ev"; (intro _; walk_at "ev")) | (apply ev_or; walk_at "ev"; (intro _; walk_at "ev"))
  | (apply ev_chain; walk_at "ev"; walk_at "ev"; rfl; walk_at "ev"; rfl)
  | (apply ev_sl; walk_at "ev"; rfl; walk_at "evo"; walk_at "evo"; rfl; walk_at "op"))
local macro_rules | `(tactic| walk_at "evo") => `(tactic| first | exact evo_no | (apply evo_some; walk_at "ev"))
local macro_rules | `(tactic| walk_at "evl") => `(tactic| first | exact evl_nil | (apply evl_cons; walk_at "ev"; rfl; walk_at "evl") | (apply eva_seq; walk_at "ev"; rfl; rfl) | (apply evl_enum; walk_at "ev"; rfl; rfl) | (apply evl_rng; walk_at "ev"; omega))
local macro_rules | `(tactic| walk_at "eva") => `(tactic| first | exact eva_nil | (apply eva_cons; walk_at "ev"; rfl; walk_at "eva"))
local macro_rules | `(tactic| walk_at "evp") => `(tactic| first | exact evp_nil | (apply evp_cons; walk_at "ev"; rfl; walk_at "evp"))
local macro_rules | `(tactic| walk_at "evt") => `(tactic| first
  | (apply evt_bl; walk_at "ev") | (apply evt_tru; walk_at "ev"; rfl; rfl; walk_at "op") | (apply evt_not; walk_at "evt")
  | (apply evt_and; walk_at "evt"; (intro _; walk_at "evt")) | (apply evt_or; walk_at "evt"; (intro _; walk_at "evt")))
local macro_rules | `(tactic| walk_at "seq") => `(tactic| ((try simp only [skipS_r]); apply seq_i))
local macro_rules | `(tactic| walk_at "asg") => `(tactic| ((try simp only [skipS_r]); apply asg_i; walk_at "ev"; rfl))
local macro_rules | `(tactic| walk_at "if") => `(tactic| ((try simp only [skipS_r]); apply if_i; walk_at "evt"))
local macro_rules | `(tactic| walk_at "ret") => `(tactic| ((try simp only [skipS_r]); apply ret_i; walk_at "ev"))
local macro_rules | `(tactic| walk_at "n") => `(tactic| (try simp only [skipS_r]))
theorem lc_c {F : Nat → List Str} {it : LF} {p : Pat} {t : TF} {f : EF} {vs : List Nat} {env : Env'} {P : EV → Env' → Prop} {X : Exx} (h : it.r env (fun ds env1 => okW env1 vs = true ∧ compL F p t f vs (fun acc envW => P (.new (.lst acc)) (restE envW env1 vs)) ds [] (wipeE env1 vs)) X) : (lcF F it p t f vs).r env P X := h
/-- a step by names -/
def Trip (css : List (List Nat)) (dn : Nat) (d : D) : Prop := ∃ (day : Nat) (a b : List Nat), d = .tup [nI day, .str (St a), .str (St b)] ∧ day < dn ∧ a ∈ css ∧ b ∈ css
theorem ix_nms {css : List (List Nat)} {a : Nat} (h : a < css.length) : ∃ c, c ∈ css ∧ ixD (.nms (css.map St)) (nI a) = some (.str (St c)) := by
  refine ⟨css[a], List.getElem_mem h, ?_⟩
  show (atI (css.map St) (a : Int)).map D.str = _
  unfold atI
  have e : ixN (css.map St).length (a : Int) = some a := by unfold ixN; simp; omega
  rw [e]
  show Option.map D.str ((css.map St)[a]?) = _
  rw [List.getElem?_map, List.getElem?_eq_getElem h]; rfl
theorem spec_round {css : List (List Nat)} {dss : List (List (Option Int))} {dn m d a b : Nat} {r : Rests} {w : Ways} {P : EV → Env' → Prop} {X : Exx} (g : GOk dn m r w) (hm : m ≤ 4) (hc : css.length = m) (hd : d < dn) (ha : a < m) (hb : b < m)
    (k : ∀ l t, l ≠ [] → l.length ≤ 20 → (∀ x ∈ l, Trip css dn x) → P (.val (.tup l)) (.val (.ins 1 (logD css dss)) :: .io (wO w) :: t)) : runF F_round_of [.val (.ins 1 (logD css dss)), .io (wO w), .val (tri d a b)] P X := by
  have hwl : w.length ≤ 8 := by have := g.len; have := g.lew; omega
  apply body_i
  walk_at "seq"
  apply pat_i
  · exact ev_kv rfl
  · rfl
  · rfl
  walk_at "seq"
  apply asg_c
  apply lc_c
  apply seqI_c
  apply un_c
  apply call_i
  · walk_at "eva"
  · rfl
  · simp
  refine spec_way g hm hb fun l1 t hl1 hn1 => ?_
  refine ⟨rfl, _, rfl, _, rfl, _, _, rfl, rfl, _, rfl, _, rfl, rfl, ?_⟩
  refine compL_inv _ (fun j acc e => ∃ bl : List (Nat × Nat × Nat), acc = bl.map t3 ∧ T3Ok dn m bl ∧ bl.length = j ∧ e = [.val (.ins 1 (logD css dss)), .io (wO w), .val (tri d a b), .val (nI d), .val (nI a), .val (nI b), .un, .un, .un, .un, .un]) ⟨[], rfl, (fun _ h => nomatch h), rfl, rfl⟩ ?_ ?_
  · rintro j x acc e hj ⟨bl, rfl, hbl, hblj, rfl⟩
    have hjl := (List.getElem?_eq_some_iff.mp hj).1
    rw [← List.map_reverse, List.getElem?_map] at hj
    obtain ⟨q, hq, rfl⟩ := Option.map_eq_some_iff.mp hj
    obtain ⟨g1, g2, g3⟩ := hl1 q (by simpa using List.mem_of_getElem? hq)
    obtain ⟨q1, q2, q3⟩ := q
    simp at hjl
    refine ⟨_, by simp [t3]; rfl, ?_⟩
    apply yes_i
    refine (by walk_at "ev" : Ev (tupF (consL FL (kvF FL 7) (consL FL (kvF FL 9) (consL FL (kvF FL 8) nilL)))) _ _ _) _ _ ?_
    refine ⟨_, rfl, by rw [List.length_map]; omega, rfl, bl ++ [(q1, q3, q2)], by simp [t3], ?_, by simp [hblj], rfl⟩
    intro z hz
    rcases List.mem_append.mp hz with hz | hz
    · exact hbl z hz
    · rw [List.mem_singleton.mp hz]; exact ⟨g1, g3, g2⟩
  rintro acc e ⟨bl, rfl, hbl, hblj, rfl⟩
  refine ⟨[.val (.ins 1 (logD css dss)), .io (wO w), .val (tri d a b), .val (nI d), .val (nI a), .val (nI b), .own (.lst (bl.map t3)), .un, .un, .un, .un], rfl, ?_⟩
  simp only [List.length_reverse, List.length_map] at hblj
  walk_at "seq"
  apply asg_c
  apply bin_l
  apply bin_l
  apply call_i
  · walk_at "eva"
  · rfl
  · simp
  refine spec_way g hm ha fun l2 t2 hl2 hn2 => ?_
  refine ⟨rfl, _, rfl, _, rfl, ?_⟩
  refine (by walk_at "ev" : Ev (lstF (consL FL (kvF FL 2) nilL)) _ _ _) _ _ ?_
  have add1 : addD (.lst (l2.map t3)) (.lst [tri d a b]) = some (.lst ((l2 ++ [(d, a, b)]).map t3)) := by
    show (if (l2.map t3).length + 1 ≤ sizeLine then some (D.lst (l2.map t3 ++ [tri d a b])) else none) = _
    rw [if_pos (by rw [sizeLine_eq, List.length_map]; omega)]
    simp [t3]
  have add2 : addD (.lst ((l2 ++ [(d, a, b)]).map t3)) (.lst (bl.map t3)) = some (.lst ((l2 ++ [(d, a, b)] ++ bl).map t3)) := by
    show (if ((l2 ++ [(d, a, b)]).map t3).length + (bl.map t3).length ≤ sizeLine then some (D.lst _) else none) = _
    rw [if_pos (by rw [sizeLine_eq, List.length_map, List.length_map, List.length_append, List.length_singleton]; omega)]
    simp
  refine ⟨_, rfl, _, _, _, rfl, rfl, add1, _, rfl, ?_⟩
  refine (ev_varo rfl : Ev (varF 6) _ _ _) _ _ ?_
  refine ⟨_, rfl, _, _, _, rfl, rfl, add2, _, rfl, ?_⟩
  walk_at "n"
  have hall : T3Ok dn m (l2 ++ [(d, a, b)] ++ bl) := by
    intro z hz
    rcases List.mem_append.mp hz with hz | hz
    · rcases List.mem_append.mp hz with hz | hz
      · exact hl2 z hz
      · rw [List.mem_singleton.mp hz]; exact ⟨hd, ha, hb⟩
    · exact hbl z hz
  have hallne : (l2 ++ [(d, a, b)] ++ bl) ≠ [] := by simp
  have halln : (l2 ++ [(d, a, b)] ++ bl).length ≤ 20 := by simp; omega
  generalize (l2 ++ [(d, a, b)] ++ bl) = al at *
  have hfe := @fld_events css dss
  apply ret_c
  apply un_c
  apply lc_i
  · apply eva_seq
    · exact ev_kv rfl
    · rfl
    · rfl
  · rfl
  refine compL_inv _ (fun j acc e => acc.length = j ∧ (∀ x ∈ acc, Trip css dn x) ∧ e = [.val (.ins 1 (logD css dss)), .io (wO w), .val (tri d a b), .val (nI d), .val (nI a), .val (nI b), .own (.lst (bl.map t3)), .un, .un, .un, .val (.lst (al.map t3))]) ⟨rfl, (fun _ h => nomatch h), rfl⟩ ?_ ?_
  · rintro j x acc e hj ⟨hacc, htr, rfl⟩
    have hjl := (List.getElem?_eq_some_iff.mp hj).1
    rw [List.getElem?_map] at hj
    obtain ⟨q, hq, rfl⟩ := Option.map_eq_some_iff.mp hj
    obtain ⟨g1, g2, g3⟩ := hall q (List.mem_of_getElem? hq)
    obtain ⟨q1, q2, q3⟩ := q
    simp at hjl
    obtain ⟨c2, hc2, hx2⟩ := ix_nms (css := css) (a := q2) (by rw [hc]; exact g2)
    obtain ⟨c3, hc3, hx3⟩ := ix_nms (css := css) (a := q3) (by rw [hc]; exact g3)
    refine ⟨_, by simp [t3]; rfl, ?_⟩
    apply yes_i
    refine (by walk_at "ev" : Ev (tupF (consL FL (kvF FL 7) (consL FL (binF FL ixD (unF FL (fldD FL ICS ("events" : PySem.Str)) (varF 0)) (varF 8)) (consL FL (binF FL ixD (unF FL (fldD FL ICS ("events" : PySem.Str)) (varF 0)) (varF 9)) nilL)))) _ _ _) _ _ ?_
    refine ⟨_, rfl, by omega, rfl, by simp [hacc], ?_, rfl⟩
    intro z hz
    rcases List.mem_append.mp hz with hz | hz
    · exact htr z hz
    · rw [List.mem_singleton.mp hz]; exact ⟨q1, c2, c3, rfl, g1, hc2, hc3⟩
  · rintro acc e ⟨hacc, htr, rfl⟩
    rw [List.length_map] at hacc
    refine ⟨_, rfl, _, _, rfl, rfl, _, rfl, k acc _ (fun z => ?_) (by omega) htr⟩
    subst z
    exact hallne (List.length_eq_zero_iff.mp hacc.symm)
end Lw
set_option Elab.async false
set_option linter.all false
set_option maxRecDepth 100000
set_option maxHeartbeats 4000000
namespace Lw
open PySem PySem.Spec L2 En
local macro_rules | `(tactic| walk_at "op") => `(tactic| first | assumption | rfl | (exact mod_ok (by first | decide | omega)) | (exact mul_r (by first | decide | omega) (by first | decide | omega)) | (exact mul_l (by first | decide | omega) (by first | decide | omega)) | (exact div_ok (by first | decide | omega) (by first | decide | omega)) | assumption)
local macro_rules | `(tactic| walk_at "ev") => `(tactic| first
  | exact ev_lit | exact ev_var rfl | exact ev_kv rfl | exact ev_varo rfl | exact ev_vari rfl | exact ev_kvo rfl rfl
  | (apply ev_bin; walk_at "ev"; rfl; walk_at "ev"; rfl; rfl; rfl; walk_at "op")
  | (apply ev_un; walk_at "ev"; rfl; rfl; walk_at "op")
  | (apply ev_unN; walk_at "ev"; rfl; rfl; walk_at "op")
  | (apply ev_tup; walk_at "evl"; (first | decide | simp))
  | (apply ev_lst; walk_at "evl"; (first | decide | simp))
  | exact ev_dK
  | (apply ev_not; walk_at "ev")
  | (apply ev_and; walk_at "ev"; (intro _; walk_at "ev")) | (apply ev_or; walk_at "ev"; (intro _; walk_at "ev"))
  | (apply ev_chain; walk_at "ev"; walk_at "ev"; rfl; walk_at "ev"; rfl)
  | (apply ev_sl; walk_at "ev"; rfl; walk_at "evo"; walk_at "evo"; rfl; walk_at "op"))
local macro_rules | `(tactic| walk_at "evo") => `(tactic| first | exact evo_no | (apply evo_some; walk_at "ev"))
local macro_rules | `(tactic| walk_at "evl") => `(tactic| first | exact evl_nil | (apply evl_cons; walk_at "ev"; rfl; walk_at "evl") | (apply eva_seq; walk_at "ev"; rfl; rfl) | (apply evl_enum; walk_at "ev"; rfl; rfl) | (apply evl_rng; walk_at "ev"; omega))
local macro_rules | `(tactic| walk_at "eva") => `(tactic| first | exact eva_nil | (apply eva_cons; walk_at "ev"; rfl; walk_at "eva"))
local macro_rules | `(tactic| walk_at "evp") => `(tactic| first | exact evp_nil | (apply evp_cons; walk_at "ev"; rfl; walk_at "evp"))
local macro_rules | `(tactic| walk_at "evt") => `(tactic| first
  | (apply evt_bl; walk_at "ev") | (apply evt_tru; walk_at "ev"; rfl; rfl; walk_at "op") | (apply evt_not; walk_at "evt")
  | (apply evt_and; walk_at "evt"; (intro _; walk_at "evt")) | (apply evt_or; walk_at "evt"; (intro _; walk_at "evt")))
local macro_rules | `(tactic| walk_at "seq") => `(tactic| ((try simp only [skipS_r]); apply seq_i))
local macro_rules | `(tactic| walk_at "asg") => `(tactic| ((try simp only [skipS_r]); apply asg_i; walk_at "ev"; rfl))
local macro_rules | `(tactic| walk_at "if") => `(tactic| ((try simp only [skipS_r]); apply if_i; walk_at "evt"))
local macro_rules | `(tactic| walk_at "ret") => `(tactic| ((try simp only [skipS_r]); apply ret_i; walk_at "ev"))
local macro_rules | `(tactic| walk_at "n") => `(tactic| (try simp only [skipS_r]))
def isSeen (ts : List (Option Int)) (i : Nat) : Bool := match ts[i]? with
  | some (some _) => true
  | _ => false
def seenL (ts : List (Option Int)) : List Nat := (List.range ts.length).filter (isSeen ts)
theorem seenL_ok {ts : List (Option Int)} : SeenOk ts (seenL ts) := fun i hi => by
  have := (List.mem_filter.mp hi).2
  unfold isSeen at this
  split at this
  · rename_i v h; exact ⟨v, h⟩
  · cases this
theorem seenL_len {ts : List (Option Int)} : (seenL ts).length ≤ ts.length := by
  have := List.length_filter_le (isSeen ts) (List.range ts.length)
  rwa [List.length_range] at this
/-- seen_on, told to the sign -/
theorem spec_seenL {ts : List (Option Int)} {P : EV → Env' → Prop} {X : Exx} (hz : ts.length ≤ 1000) (k : ∀ t, P (.new (.lst ((seenL ts).map nI))) t) : runF F_seen_on [.val (dayD ts)] P X := by
  apply body_i
  apply ret_c
  apply lc_i
  · walk_at "evl"
  · rfl
  refine compL_inv _ (fun j acc e => acc = ((List.range j).filter (isSeen ts)).map nI ∧ e = [.val (dayD ts), .un, .un]) ⟨rfl, rfl⟩ ?_ ?_
  · rintro j d acc e hj ⟨rfl, rfl⟩
    obtain ⟨x, hx, rfl⟩ := day_get hj
    have hjl := (List.getElem?_eq_some_iff.mp hx).1
    refine ⟨_, by simp; rfl, ?_⟩
    apply bl_c
    cases x with
    | none =>
      refine (ev_bin (op := isNotD) (ev_var (d := .non) rfl) rfl (ev_lit (d := .non)) rfl rfl rfl (c := .bl false) rfl : Ev _ _ _ _) _ _ ⟨false, rfl, ?_⟩
      rw [if_neg Bool.false_ne_true]
      refine ⟨rfl, ?_, rfl⟩
      have : isSeen ts j = false := by unfold isSeen; rw [hx]
      rw [List.range_succ, List.filter_append]
      simp [this]
    | some v =>
      refine (ev_bin (op := isNotD) (ev_var (d := .int v) rfl) rfl (ev_lit (d := .non)) rfl rfl rfl (c := .bl true) rfl : Ev _ _ _ _) _ _ ⟨true, rfl, ?_⟩
      rw [if_pos rfl]
      have : isSeen ts j = true := by unfold isSeen; rw [hx]
      have hle : ((List.range j).filter (isSeen ts)).length ≤ j := by
        have := List.length_filter_le (isSeen ts) (List.range j)
        rwa [List.length_range] at this
      refine (ev_kv rfl : Ev (kvF FL 1) _ (.val (nI j)) _) _ _ ⟨_, rfl, by rw [List.length_map]; omega, rfl, ?_, rfl⟩
      rw [List.range_succ, List.filter_append]
      simp [this]
  · rintro acc e ⟨rfl, rfl⟩
    rw [enumD_len, List.length_map]
    exact ⟨_, rfl, k _⟩
/-! as_tuples -/
mutual
def tupf : D → D
  | .tup ds => .tup (tupfL ds)
  | .lst ds => .tup (tupfL ds)
  | d => d
def tupfL : List D → List D
  | [] => []
  | d :: ds => tupf d :: tupfL ds
end
mutual
/-- plain data of at most this depth -/
def dpk : Nat → D → Bool
  | 0, _ => false
  | k + 1, .tup ds => dpkL k ds && decide (ds.length ≤ 1000)
  | k + 1, .lst ds => dpkL k ds && decide (ds.length ≤ 1000)
  | _ + 1, .non => true
  | _ + 1, .bl _ => true
  | _ + 1, .int _ => true
  | _ + 1, .str _ => true
  | _ + 1, _ => false
def dpkL : Nat → List D → Bool
  | _, [] => true
  | k, d :: ds => dpk k d && dpkL k ds
end
theorem tupfL_map : ∀ ds : List D, tupfL ds = ds.map tupf
  | [] => by simp [tupfL]
  | d :: ds => by simp [tupfL, tupfL_map ds]
theorem dpkL_mem {k : Nat} : ∀ {ds : List D}, dpkL k ds = true → ∀ d ∈ ds, dpk k d = true
  | d :: ds, h, x, hx => by
    have h : dpk k d = true ∧ dpkL k ds = true := by simpa [dpkL] using h
    rcases List.mem_cons.mp hx with rfl | hx
    · exact h.1
    · exact dpkL_mem h.2 x hx
theorem spec_tuples : ∀ (k : Nat) (d : D) {P : EV → Env' → Prop} {X : Exx}, dpk k d = true → (∀ t, P (.val (tupf d)) t) → runF (F_as_tuples k) [.val d] P X := by
  intro k
  induction k with
  | zero => intro d P X h; simp [dpk] at h
  | succ k ih =>
    intro d P X h kk
    apply body_i
    have seq : ∀ ds : List D, iterL? d = some ds → dpkL k ds = true → ds.length ≤ 1000 → tupf d = .tup (tupfL ds) → isiD ICS [(.b .list), (.b .tuple)] d = some (.bl true) →
        (B_as_tuples (F_as_tuples k)).r [.val d, .un] ⟨fun env => P (.val .non) env, fun e env => ∃ e', retE env e = some e' ∧ P e' env, fun _ => False, fun _ => False⟩ X0 := by
      intro ds hi hd hl ht hty
      unfold B_as_tuples
      walk_at "seq"
      apply if_i (b := true)
      · apply evt_tru
        · apply ev_un
          · exact ev_var rfl
          · rfl
          · rfl
          · exact hty
        · rfl
        · rfl
        · rfl
      · intro _
        apply ret_c
        apply un_c
        apply lc_i
        · apply eva_seq
          · exact ev_kv rfl
          · rfl
          · exact hi
        · rfl
        refine compL_inv _ (fun j acc e => acc = (ds.take j).map tupf ∧ e = [.val d, .un]) ⟨rfl, rfl⟩ ?_ ?_
        · rintro j x acc e hj ⟨rfl, rfl⟩
          have hjl := (List.getElem?_eq_some_iff.mp hj).1
          refine ⟨_, by simp; rfl, ?_⟩
          apply yes_i
          apply call_i
          · walk_at "eva"
          · rfl
          · simp
          refine ih x (dpkL_mem hd x (List.mem_of_getElem? hj)) fun t => ?_
          refine ⟨rfl, _, rfl, _, rfl, by simp; omega, rfl, ?_, rfl⟩
          rw [List.take_add_one, hj]
          simp
        · rintro acc e ⟨rfl, rfl⟩
          rw [List.take_length]
          refine ⟨_, rfl, _, _, rfl, rfl, _, rfl, ?_⟩
          have := kk [.val d, .un]
          rw [ht, tupfL_map] at this
          exact this
      · intro h; cases h
    have atom : tupf d = d → isiD ICS [(.b .list), (.b .tuple)] d = some (.bl false) →
        (B_as_tuples (F_as_tuples k)).r [.val d, .un] ⟨fun env => P (.val .non) env, fun e env => ∃ e', retE env e = some e' ∧ P e' env, fun _ => False, fun _ => False⟩ X0 := by
      intro ht hty
      unfold B_as_tuples
      walk_at "seq"
      apply if_i (b := false)
      · apply evt_tru
        · apply ev_un
          · exact ev_var rfl
          · rfl
          · rfl
          · exact hty
        · rfl
        · rfl
        · rfl
      · intro h; cases h
      · intro _
        walk_at "n"
        walk_at "ret"
        have := kk [.val d, .un]
        rw [ht] at this
        exact ⟨_, rfl, this⟩
    cases d with
    | tup ds =>
      have h : dpkL k ds = true ∧ ds.length ≤ 1000 := by simpa [dpk] using h
      exact seq ds rfl h.1 h.2 (by simp [tupf]) rfl
    | lst ds =>
      have h : dpkL k ds = true ∧ ds.length ≤ 1000 := by simpa [dpk] using h
      exact seq ds rfl h.1 h.2 (by simp [tupf]) rfl
    | non => exact atom (by simp [tupf]) rfl
    | bl b => exact atom (by simp [tupf]) rfl
    | int i => exact atom (by simp [tupf]) rfl
    | str s => exact atom (by simp [tupf]) rfl
    | dK _ _ => simp [dpk] at h
    | dT _ _ => simp [dpk] at h
    | ins _ _ => simp [dpk] at h
    | nms _ => simp [dpk] at h
end Lw
set_option Elab.async false
set_option linter.all false
set_option maxRecDepth 100000
set_option maxHeartbeats 4000000
namespace Lw
open PySem PySem.Spec L2 En
local macro_rules | `(tactic| walk_at "op") => `(tactic| first | assumption | rfl | (exact mod_ok (by first | decide | omega)) | (exact mul_r (by first | decide | omega) (by first | decide | omega)) | (exact mul_l (by first | decide | omega) (by first | decide | omega)) | (exact div_ok (by first | decide | omega) (by first | decide | omega)) | assumption)
local macro_rules | `(tactic| walk_at "ev") => `(tactic| first
  | exact ev_lit | exact ev_var rfl | exact ev_kv rfl | exact ev_varo rfl | exact ev_vari rfl | exact ev_kvo rfl rfl
  | (apply ev_bin; walk_at "ev"; rfl; walk_at "ev"; rfl; rfl; rfl; walk_at "op")
  | (apply ev_un; walk_at "ev"; rfl; rfl; walk_at "op")
  | (apply ev_unN; walk_at "ev"; rfl; rfl; walk_at "op")
  | (apply ev_tup; walk_at "evl"; (first | decide | simp))
  | (apply ev_lst; walk_at "evl"; (first | decide | simp))
  | exact ev_dK
  | (apply ev_not; walk_at "ev")
  | (apply ev_and; walk_at "ev"; (intro _; walk_at "ev")) | (apply ev_or; walk_at "ev"; (intro _; walk_at "ev"))
  | (apply ev_chain; walk_at "ev"; walk_at "ev"; rfl; walk_at "ev"; rfl)
  | (apply ev_sl; walk_at "ev"; rfl; walk_at "evo"; walk_at "evo"; rfl; walk_at "op"))
local macro_rules | `(tactic| walk_at "evo") => `(tactic| first | exact evo_no | (apply evo_some; walk_at "ev"))
local macro_rules | `(tactic| walk_at "evl") => `(tactic| first | exact evl_nil | (apply evl_cons; walk_at "ev"; rfl; walk_at "evl") | (apply eva_seq; walk_at "ev"; rfl; rfl) | (apply evl_enum; walk_at "ev"; rfl; rfl) | (apply evl_rng; walk_at "ev"; omega))
local macro_rules | `(tactic| walk_at "eva") => `(tactic| first | exact eva_nil | (apply eva_cons; walk_at "ev"; rfl; walk_at "eva"))
local macro_rules | `(tactic| walk_at "evp") => `(tactic| first | exact evp_nil | (apply evp_cons; walk_at "ev"; rfl; walk_at "evp"))
local macro_rules | `(tactic| walk_at "evt") => `(tactic| first
  | (apply evt_bl; walk_at "ev") | (apply evt_tru; walk_at "ev"; rfl; rfl; walk_at "op") | (apply evt_not; walk_at "evt")
  | (apply evt_and; walk_at "evt"; (intro _; walk_at "evt")) | (apply evt_or; walk_at "evt"; (intro _; walk_at "evt")))
local macro_rules | `(tactic| walk_at "seq") => `(tactic| ((try simp only [skipS_r]); apply seq_i))
local macro_rules | `(tactic| walk_at "asg") => `(tactic| ((try simp only [skipS_r]); apply asg_i; walk_at "ev"; rfl))
local macro_rules | `(tactic| walk_at "if") => `(tactic| ((try simp only [skipS_r]); apply if_i; walk_at "evt"))
local macro_rules | `(tactic| walk_at "ret") => `(tactic| ((try simp only [skipS_r]); apply ret_i; walk_at "ev"))
local macro_rules | `(tactic| walk_at "n") => `(tactic| (try simp only [skipS_r]))
theorem spec_number {ts : List (Option Int)} {p : Int} {r : Rests} {P : EV → Env' → Prop} {X : Exx} (hp : 0 < p) (hz : ts.length ≤ 1000) (h : ∀ x0 xr, seenL ts = x0 :: xr → (r.lookup x0).isSome = true)
    (k : ∀ v t, P (.val (.int v)) (.val (dayD ts) :: .val (.int p) :: .io (rO r) :: t)) : runF F_number_of_day [.val (dayD ts), .val (.int p), .io (rO r)] P X := by
  apply body_i
  walk_at "seq"
  apply asg_c
  apply call_i
  · walk_at "eva"
  · rfl
  · simp
  refine spec_seenL hz fun t => ?_
  refine ⟨rfl, _, rfl, [.val (dayD ts), .val (.int p), .io (rO r), .own (.lst ((seenL ts).map nI))], rfl, ?_⟩
  walk_at "n"
  apply ret_c
  apply ite_c
  refine (by walk_at "evt" : EvT (truF FL (varF 3)) _ _ _) _ _ ?_
  cases hs : seenL ts with
  | nil =>
    rw [if_neg (by simp)]
    exact ⟨_, rfl, k 0 _⟩
  | cons x0 xr =>
    rw [if_pos (by simp)]
    obtain ⟨v, hv⟩ := Option.isSome_iff_exists.mp (h x0 xr hs)
    obtain ⟨v0, hv0⟩ := seenL_ok x0 (by rw [hs]; exact List.mem_cons_self)
    have t0 : ixD (dayD ts) (nI x0) = some (.int v0) := ix_t (by rw [List.getElem?_map, hv0]; rfl)
    have tx : ixD (.lst ((x0 :: xr).map nI)) (.int 0) = some (nI x0) := ix_l (j := 0) rfl
    have tg : dgetD (asD D.int r) (nI x0) = some (.int v) := dget_as hv
    have ix0 : ∀ (e : Env') , e = [.val (dayD ts), .val (.int p), .io (rO r), .own (.lst ((x0 :: xr).map nI))] → Ev (binF FL ixD (varF 3) (litF (.int 0))) e (.val (nI x0)) e := by
      rintro e rfl
      apply ev_bin
      · exact ev_varo rfl
      · rfl
      · exact ev_lit
      · rfl
      · rfl
      · rfl
      · exact tx
    have hev : Ev (binF FL modD (binF FL subD (binF FL dgetD (varF 2) (binF FL ixD (varF 3) (litF (.int 0)))) (binF FL ixD (varF 0) (binF FL ixD (varF 3) (litF (.int 0))))) (varF 1)) [.val (dayD ts), .val (.int p), .io (rO r), .own (.lst ((x0 :: xr).map nI))] (.val (.int ((v - v0) % p))) [.val (dayD ts), .val (.int p), .io (rO r), .own (.lst ((x0 :: xr).map nI))] := by
      apply ev_bin
      · apply ev_bin
        · apply ev_bin
          · exact ev_vari rfl
          · rfl
          · exact ix0 _ rfl
          · rfl
          · exact (rfl : _ = some (asD D.int r))
          · rfl
          · exact tg
        · rfl
        · apply ev_bin
          · exact ev_var rfl
          · rfl
          · exact ix0 _ rfl
          · rfl
          · rfl
          · rfl
          · exact t0
        · rfl
        · rfl
        · rfl
        · rfl
      · rfl
      · exact ev_var rfl
      · rfl
      · rfl
      · rfl
      · exact mod_ok hp
    exact hev _ _ ⟨_, rfl, k _ _⟩
/-- Misaligned(v): what it holds -/
theorem spec_mis {v : D} {P : EV → Env' → Prop} {X : Exx} (hv : dpk 6 v = true) (k : ∀ t, P (.val .non) (.io (.ins 0 [("steps", tupf v)]) :: t)) : runF F_Misalignedu_initu [.io (.ins 0 []), .val v] P X := by
  apply body_i
  show (setF FL ICS 0 ("steps" : PySem.Str) (callF (F_as_tuples 6) 1 (consA FL (kvF FL 1) nilA))).r _ _ _
  have hc : Ev (callF (F_as_tuples 6) 1 (consA FL (kvF FL 1) nilA)) [.io (.ins 0 []), .val v] (.val (tupf v)) [.io (.ins 0 []), .val v] := by
    apply ev_call
    · walk_at "eva"
    · rfl
    · simp
    · rfl
    · rfl
    · intro P X hP
      exact spec_tuples 6 v hv hP
  apply set_i
  · exact hc
  · rfl
  · rfl
  · rfl
  · decide
  · exact List.mem_cons_self
  · decide
  exact k _
end Lw
set_option Elab.async false
set_option linter.all false
set_option maxRecDepth 100000
set_option maxHeartbeats 4000000
namespace Lw
open PySem PySem.Spec L2 En
local macro_rules | `(tactic| walk_at "op") => `(tactic| first | assumption | rfl | (exact mod_ok (by first | decide | omega)) | (exact mul_r (by first | decide | omega) (by first | decide | omega)) | (exact mul_l (by first | decide | omega) (by first | decide | omega)) | (exact div_ok (by first | decide | omega) (by first | decide | omega)) | assumption)
local macro_rules | `(tactic| walk_at "ev") => `(tactic| first
  | exact ev_lit | exact ev_var rfl | exact ev_kv rfl | exact ev_varo rfl | exact ev_vari rfl | exact ev_kvo rfl rfl
  | (apply ev_bin; walk_at "ev"; rfl; walk_at "ev"; rfl; rfl; rfl; walk_at "op")
  | (apply ev_un; walk_at "ev"; rfl; rfl; walk_at "op")
  | (apply ev_unN; walk_at "ev"; rfl; rfl; walk_at "op")
  | (apply ev_tup; walk_at "evl"; (first | decide | simp))
  | (apply ev_lst; walk_at "evl"; (first | decide | simp))
  | exact ev_dK
  | (apply ev_not; walk_at "ev")
  | (apply ev_and; walk_at "ev"; (intro _; walk_at "ev")) | (apply ev_or; walk_at "ev"; (intro _; walk_at "ev"))
  | (apply ev_chain; walk_at "ev"; walk_at "ev"; rfl; walk_at "ev"; rfl)
  | (apply ev_sl; walk_at "ev"; rfl; walk_at "evo"; walk_at "evo"; rfl; walk_at "op"))
local macro_rules | `(tactic| walk_at "evo") => `(tactic| first | exact evo_no | (apply evo_some; walk_at "ev"))
local macro_rules | `(tactic| walk_at "evl") => `(tactic| first | exact evl_nil | (apply evl_cons; walk_at "ev"; rfl; walk_at "evl") | (apply eva_seq; walk_at "ev"; rfl; rfl) | (apply evl_enum; walk_at "ev"; rfl; rfl) | (apply evl_rng; walk_at "ev"; omega))
local macro_rules | `(tactic| walk_at "eva") => `(tactic| first | exact eva_nil | (apply eva_cons; walk_at "ev"; rfl; walk_at "eva"))
local macro_rules | `(tactic| walk_at "evp") => `(tactic| first | exact evp_nil | (apply evp_cons; walk_at "ev"; rfl; walk_at "evp"))
local macro_rules | `(tactic| walk_at "evt") => `(tactic| first
  | (apply evt_bl; walk_at "ev") | (apply evt_tru; walk_at "ev"; rfl; rfl; walk_at "op") | (apply evt_not; walk_at "evt")
  | (apply evt_and; walk_at "evt"; (intro _; walk_at "evt")) | (apply evt_or; walk_at "evt"; (intro _; walk_at "evt")))
local macro_rules | `(tactic| walk_at "seq") => `(tactic| ((try simp only [skipS_r]); apply seq_i))
local macro_rules | `(tactic| walk_at "asg") => `(tactic| ((try simp only [skipS_r]); apply asg_i; walk_at "ev"; rfl))
local macro_rules | `(tactic| walk_at "if") => `(tactic| ((try simp only [skipS_r]); apply if_i; walk_at "evt"))
local macro_rules | `(tactic| walk_at "ret") => `(tactic| ((try simp only [skipS_r]); apply ret_i; walk_at "ev"))
local macro_rules | `(tactic| walk_at "n") => `(tactic| (try simp only [skipS_r]))
theorem mk_c {FS : EF} {n c : Nat} {la : LA} {env : Env'} {P : EV → Env' → Prop} {X : Exx} (h : la.r env (fun as env1 => as.length + 1 = n ∧ (refs as).Nodup ∧ runF FS (.io (.ins c []) :: as.map (slotOf env1)) (fun e outs => e = .val .non ∧ ∃ o os, outs = .io o :: os ∧ ∃ env2, backE as os env1 = some env2 ∧ P (.new o) env2) X) X) : (mkF c FS n la).r env P X := h
theorem trip_tupf {css : List (List Nat)} {dn : Nat} : ∀ {l : List D}, (∀ x ∈ l, Trip css dn x) → tupfL l = l ∧ dpkL 5 l = true
  | [], _ => ⟨by simp [tupfL], by simp [dpkL]⟩
  | x :: l, h => by
    obtain ⟨i1, i2⟩ := trip_tupf fun y hy => h y (List.mem_cons_of_mem _ hy)
    obtain ⟨d, a, b, rfl, _⟩ := h x List.mem_cons_self
    refine ⟨by simp [tupfL, tupf, i1], ?_⟩
    simp [dpkL, dpk, i2]
theorem spec_lining {css : List (List Nat)} {dss : List (List (Option Int))} {m : Nat} {p : Int} {P : EV → Env' → Prop} {X : Exx} (hm : m ≤ 4) (hc : css.length = m) (hd6 : dss.length ≤ 6) (hd : ∀ ts ∈ dss, ts.length = m) (hp1 : 2 ≤ p) (hp2 : p ≤ 1440)
    (k1 : ∀ (ns : List Int) t, P (.val (.tup (ns.map D.int))) t) (k2 : ∀ l t, l ≠ [] → l.length ≤ 20 → (∀ x ∈ l, Trip css dss.length x) → P (.new (.ins 0 [("steps", .tup l)])) t) :
    runF F_lining [.val (.ins 1 (logD css dss)), .val (.int p)] P X := by
  have hp : 0 < p := by omega
  have hfd := @fld_days css dss
  apply body_i
  walk_at "seq"
  apply drop_c
  apply call_i
  · walk_at "eva"
  · rfl
  · simp
  refine spec_need hp1 hp2 fun t => ?_
  refine ⟨rfl, _, rfl, ?_⟩
  walk_at "seq"
  apply par_c
  apply consP_c
  apply call_i
  · walk_at "eva"
  · rfl
  · simp
  refine spec_diff hm hd6 hd fun rows t2 hrows hrl => ?_
  refine ⟨rfl, _, rfl, rfl, ?_⟩
  refine (by walk_at "evp" : EvP (consP dnewK (consP dnewK nilP)) _ _ _) _ _ ⟨[.val (.ins 1 (logD css dss)), .val (.int p), .own (.lst (rows.map rowD)), .own (rO []), .own (wO []), .un, .un, .un], rfl, ?_⟩
  walk_at "n"
  have c0 : css.length ≤ 4 := by omega
  have g0 : GOk dss.length m [] [] := ⟨fun _ _ => rfl, (fun _ h => nomatch h), (fun i q h => by simp at h), by have := mu_le m []; simp; omega, Nat.le_refl _⟩
  let Know : Rests → Nat → Prop := fun r j => ∀ i ts, i < j → dss[i]? = some ts → ∀ x0 xr, seenL ts = x0 :: xr → (r.lookup x0).isSome = true
  apply seq_cut (Q := fun e => ∃ (r : Rests) (w : Ways) (c2 c5 c6 c7 : En.Slot), e = [.val (.ins 1 (logD css dss)), .val (.int p), c2, .own (rO r), .own (wO w), c5, c6, c7] ∧ Know r dss.length ∧ c5.plain = true)
  · apply for_i
    · apply eva_seq
      · apply ev_un
        · exact ev_var rfl
        · rfl
        · rfl
        · exact hfd
      · rfl
      · rfl
    refine forL_inv _ (fun j e => ∃ (r : Rests) (w : Ways) (c2 c5 c6 c7 : En.Slot), e = [.val (.ins 1 (logD css dss)), .val (.int p), c2, .own (rO r), .own (wO w), c5, c6, c7] ∧ Know r j ∧ GOk dss.length m r w ∧ (c2 = .own (.lst (rows.map rowD)) ∨ c2 = .val (.lst (rows.map rowD))) ∧ c5.plain = true ∧ c6.isIo = false ∧ c7.isIo = false)
      ⟨[], [], _, _, _, _, rfl, (fun i ts h => absurd h (Nat.not_lt_zero _)), g0, .inl rfl, rfl, rfl, rfl⟩ ?_ ?_
    · rintro j d e hj ⟨r, w, c2, c5, c6, c7, rfl, hkn, g, hc2, h5, h6, h7⟩
      rw [List.getElem?_map] at hj
      obtain ⟨ts, hts, rfl⟩ := Option.map_eq_some_iff.mp hj
      have htl := hd ts (List.mem_of_getElem? hts)
      have hjl := (List.getElem?_eq_some_iff.mp hts).1
      have h5i : c5.isIo = false := by cases c5 <;> first | rfl | cases h5
      refine ⟨[.val (.ins 1 (logD css dss)), .val (.int p), c2, .own (rO r), .own (wO w), .val (dayD ts), c6, c7], by simp [h5i], ?_⟩
      walk_at "seq"
      apply asg_c
      apply call_i
      · walk_at "eva"
      · rfl
      · simp
      refine spec_seenL (by omega) fun t => ?_
      refine ⟨rfl, _, rfl, [.val (.ins 1 (logD css dss)), .val (.int p), c2, .own (rO r), .own (wO w), .val (dayD ts), .own (.lst ((seenL ts).map nI)), c7], by simp [h6], ?_⟩
      walk_at "n"
      have know1 : ∀ r' : Rests, Mn r r' → (∀ x0 xr, seenL ts = x0 :: xr → (r'.lookup x0).isSome = true) → Know r' (j + 1) := fun r' hm hx i ts' hi hts' x0 xr hs => by
        by_cases hij : i < j
        · exact hm _ (hkn i ts' hij hts' x0 xr hs)
        · have : i = j := by omega
          subst this
          rw [hts] at hts'; cases hts'
          exact hx x0 xr hs
      apply if_c
      apply andT_c
      refine (by walk_at "evt" : EvT (truF FL (varF 6)) _ _ _) _ _ ?_
      cases hs : seenL ts with
      | nil =>
        rw [if_neg (by simp)]
        rw [if_neg Bool.false_ne_true]
        walk_at "n"
        exact ⟨r, w, c2, _, _, _, rfl, know1 r (fun _ h => h) (fun x0 xr z => by rw [hs] at z; cases z), g, hc2, rfl, rfl, h7⟩
      | cons x0 xr =>
        rw [if_pos (by simp)]
        obtain ⟨v0, hv0⟩ := seenL_ok x0 (by rw [hs]; exact List.mem_cons_self)
        have x0l := (List.getElem?_eq_some_iff.mp hv0).1
        have hx0m : x0 < m := by omega
        have t0 : ixD (dayD ts) (nI x0) = some (.int v0) := ix_t (by rw [List.getElem?_map, hv0]; rfl)
        have tx : ixD (.lst ((x0 :: xr).map nI)) (.int 0) = some (nI x0) := ix_l (j := 0) rfl
        have hni : notInD (nI x0) (asD D.int r) = some (.bl (!(r.lookup x0).isSome)) := notIn_as
        have ix0 : ∀ (e : Env') (c2 : En.Slot) (r : Rests) (w : Ways), e = [.val (.ins 1 (logD css dss)), .val (.int p), c2, .own (rO r), .own (wO w), .val (dayD ts), .own (.lst ((x0 :: xr).map nI)), c7] → Ev (binF FL ixD (varF 6) (litF (.int 0))) e (.val (nI x0)) e := by
          rintro e c2 r w rfl
          apply ev_bin
          · exact ev_varo rfl
          · rfl
          · exact ev_lit
          · rfl
          · rfl
          · rfl
          · exact tx
        have hb : ∀ (e : Env'), e = [.val (.ins 1 (logD css dss)), .val (.int p), c2, .own (rO r), .own (wO w), .val (dayD ts), .own (.lst ((x0 :: xr).map nI)), c7] → EvT (blF FL (binF FL notInD (binF FL ixD (varF 6) (litF (.int 0))) (varF 3))) e (!(r.lookup x0).isSome) e := by
          rintro e rfl
          apply evt_bl
          apply ev_bin
          · exact ix0 _ c2 r w rfl
          · rfl
          · exact ev_varo rfl
          · rfl
          · rfl
          · exact (rfl : _ = some (asD D.int r))
          · exact hni
        refine hb _ rfl _ _ ?_
        cases hz : r.lookup x0 with
        | some v =>
          rw [if_neg (by simp)]
          walk_at "n"
          exact ⟨r, w, c2, _, _, _, rfl, know1 r (fun _ h => h) (fun y0 yr z => by rw [hs] at z; cases z; rw [hz]; rfl), g, hc2, rfl, rfl, h7⟩
        | none =>
          rw [if_pos (by simp)]
          have hrl2 : r.length < 100000 := by have := g.len; omega
          walk_at "seq"
          apply tgt_i
          · apply ev_bin
            · apply ev_bin
              · exact ev_var rfl
              · rfl
              · exact ix0 _ c2 r w rfl
              · rfl
              · rfl
              · rfl
              · exact t0
            · rfl
            · exact ev_var rfl
            · rfl
            · rfl
            · rfl
            · exact mod_ok hp
          · rfl
          apply sub_i
          · rfl
          · rfl
          · exact ix0 _ c2 r w rfl
          · rfl
          · rfl
          · rfl
          · rfl
          · exact put_as (f := D.int) hz hrl2
          walk_at "seq"
          apply asg_c
          apply call_i
          · apply eva_cons
            · exact ev_kvB (i := 2) rfl hc2
            · rfl
            apply eva_cons
            · exact ev_kv rfl
            · rfl
            apply eva_cons
            · exact ev_varo rfl
            · rfl
            apply eva_cons
            · exact ev_varo rfl
            · rfl
            apply eva_cons
            · exact ix0 _ (.val (.lst (rows.map rowD))) (r ++ [(x0, v0 % p)]) w rfl
            · rfl
            exact eva_nil
          · rfl
          · simp
          have hself : ((r ++ [(x0, v0 % p)]).lookup x0).isSome = true := by rw [lookup_snoc, hz]; simp
          refine spec_grown hp hrows hrl hm (g.root hx0m hz) hx0m hself (fun r' w' t g' mn => ?_) (fun da a b r' w' t hda ha hb' g' mn => ?_)
          · refine ⟨rfl, _, rfl, [.val (.ins 1 (logD css dss)), .val (.int p), .val (.lst (rows.map rowD)), .own (rO r'), .own (wO w'), .val (dayD ts), .own (.lst ((x0 :: xr).map nI)), .val .non], by simp [h7], ?_⟩
            walk_at "n"
            walk_at "if"
            · intro h
              have h : false = true := h
              cases h
            · intro _
              walk_at "n"
              exact ⟨r', w', _, _, _, _, rfl, know1 r' (fun y hy => mn y (isSome_snoc hy)) (fun y0 yr z => by rw [hs] at z; cases z; exact mn _ hself), g', .inr rfl, rfl, rfl, rfl⟩
          · refine ⟨rfl, _, rfl, [.val (.ins 1 (logD css dss)), .val (.int p), .val (.lst (rows.map rowD)), .own (rO r'), .own (wO w'), .val (dayD ts), .own (.lst ((x0 :: xr).map nI)), .val (tri da a b)], by simp [h7], ?_⟩
            walk_at "n"
            walk_at "if"
            · intro _
              apply ret_c
              apply mk_c
              apply consA_c
              apply call_i
              · walk_at "eva"
              · rfl
              · simp
              refine spec_round g' hm hc hda ha hb' fun l t5 hl0 hl20 htr => ?_
              obtain ⟨tt1, tt2⟩ := trip_tupf htr
              refine ⟨rfl, _, rfl, _, rfl, rfl, by simp, ?_⟩
              have hdp : dpk 6 (.tup l) = true := by simp [dpk, tt2]; omega
              refine spec_mis hdp fun t6 => ?_
              refine ⟨rfl, _, _, rfl, _, rfl, _, rfl, ?_⟩
              have := k2 l
              have e : tupf (.tup l) = .tup l := by simp [tupf, tt1]
              rw [e]
              exact k2 l _ hl0 hl20 htr
            · intro h
              have h : true = false := h
              cases h
    · rintro e ⟨r, w, c2, c5, c6, c7, rfl, hkn, g, hc2, h5, h6, h7⟩
      rw [List.length_map] at hkn
      exact ⟨r, w, c2, c5, c6, c7, rfl, hkn, h5⟩
  · rintro _ ⟨r, w, c2, c5, c6, c7, rfl, hkn, h5⟩
    apply ret_c
    apply un_c
    apply lc_i
    · apply eva_seq
      · apply ev_un
        · exact ev_var rfl
        · rfl
        · rfl
        · exact hfd
      · rfl
      · rfl
    · simp [h5]
    refine compL_inv _ (fun j acc e => ∃ ns : List Int, acc = ns.map D.int ∧ ns.length = j ∧ e = [.val (.ins 1 (logD css dss)), .val (.int p), c2, .own (rO r), .own (wO w), .un, c6, c7]) ⟨[], rfl, rfl, rfl⟩ ?_ ?_
    · rintro j d acc e hj ⟨ns, rfl, hnl, rfl⟩
      rw [List.getElem?_map] at hj
      obtain ⟨ts, hts, rfl⟩ := Option.map_eq_some_iff.mp hj
      have hjl := (List.getElem?_eq_some_iff.mp hts).1
      have htl := hd ts (List.mem_of_getElem? hts)
      refine ⟨[.val (.ins 1 (logD css dss)), .val (.int p), c2, .own (rO r), .own (wO w), .val (dayD ts), c6, c7], by simp, ?_⟩
      apply yes_i
      apply call_i
      · walk_at "eva"
      · rfl
      · simp
      refine spec_number hp (by omega) (hkn j ts hjl hts) fun v t => ?_
      exact ⟨rfl, _, rfl, _, rfl, by rw [List.length_map]; omega, rfl, ns ++ [v], by simp, by simp [hnl], rfl⟩
    · rintro acc e ⟨ns, rfl, hnl, rfl⟩
      exact ⟨_, rfl, _, _, rfl, rfl, _, rfl, k1 ns _⟩
end Lw
set_option Elab.async false
set_option linter.all false
set_option maxRecDepth 100000
set_option maxHeartbeats 4000000
namespace Lw
open PySem PySem.Spec L2 En
local macro_rules | `(tactic| walk_at "op") => `(tactic| first | assumption | rfl | (exact mod_ok (by first | decide | omega)) | (exact mul_r (by first | decide | omega) (by first | decide | omega)) | (exact mul_l (by first | decide | omega) (by first | decide | omega)) | (exact div_ok (by first | decide | omega) (by first | decide | omega)) | assumption)
local macro_rules | `(tactic| walk_at "ev") => `(tactic| first
  | exact ev_lit | exact ev_var rfl | exact ev_kv rfl | exact ev_varo rfl | exact ev_vari rfl | exact ev_kvo rfl rfl
  | (apply ev_bin; walk_at "ev"; rfl; walk_at "ev"; rfl; rfl; rfl; walk_at "op")
  | (apply ev_un; walk_at "ev"; rfl; rfl; walk_at "op")
  | (apply ev_unN; walk_at "ev"; rfl; rfl; walk_at "op")
  | (apply ev_tup; walk_at "evl"; (first | decide | simp))
  | (apply ev_lst; walk_at "evl"; (first | decide | simp))
  | exact ev_dK
  | (apply ev_not; walk_at "ev")
  | (apply ev_and; walk_at "ev"; (intro _; walk_at "ev")) | (apply ev_or; walk_at "ev"; (intro _; walk_at "ev"))
  | (apply ev_chain; walk_at "ev"; walk_at "ev"; rfl; walk_at "ev"; rfl)
  | (apply ev_sl; walk_at "ev"; rfl; walk_at "evo"; walk_at "evo"; rfl; walk_at "op"))
local macro_rules | `(tactic| walk_at "evo") => `(tactic| first | exact evo_no | (apply evo_some; walk_at "ev"))
local macro_rules | `(tactic| walk_at "evl") => `(tactic| first | exact evl_nil | (apply evl_cons; walk_at "ev"; rfl; walk_at "evl") | (apply eva_seq; walk_at "ev"; rfl; rfl) | (apply evl_enum; walk_at "ev"; rfl; rfl) | (apply evl_rng; walk_at "ev"; omega))
local macro_rules | `(tactic| walk_at "eva") => `(tactic| first | exact eva_nil | (apply eva_cons; walk_at "ev"; rfl; walk_at "eva"))
local macro_rules | `(tactic| walk_at "evp") => `(tactic| first | exact evp_nil | (apply evp_cons; walk_at "ev"; rfl; walk_at "evp"))
local macro_rules | `(tactic| walk_at "evt") => `(tactic| first
  | (apply evt_bl; walk_at "ev") | (apply evt_tru; walk_at "ev"; rfl; rfl; walk_at "op") | (apply evt_not; walk_at "evt")
  | (apply evt_and; walk_at "evt"; (intro _; walk_at "evt")) | (apply evt_or; walk_at "evt"; (intro _; walk_at "evt")))
local macro_rules | `(tactic| walk_at "seq") => `(tactic| ((try simp only [skipS_r]); apply seq_i))
local macro_rules | `(tactic| walk_at "asg") => `(tactic| ((try simp only [skipS_r]); apply asg_i; walk_at "ev"; rfl))
local macro_rules | `(tactic| walk_at "if") => `(tactic| ((try simp only [skipS_r]); apply if_i; walk_at "evt"))
local macro_rules | `(tactic| walk_at "ret") => `(tactic| ((try simp only [skipS_r]); apply ret_i; walk_at "ev"))
local macro_rules | `(tactic| walk_at "n") => `(tactic| (try simp only [skipS_r]))
theorem spec_is {b : Bool} {P : EV → Env' → Prop} {X : Exx} (k : ∀ t, P (.val (.bl true)) t) : runF (F__law_is 3) [.val (.bl b), .val (.bl b)] P X := by
  apply body_i
  unfold B__law_is
  cases b with
  | true =>
    walk_at "seq"
    walk_at "if"
    · intro h
      have h : false = true := h
      cases h
    intro _
    walk_at "seq"
    walk_at "if"
    · intro h
      have h : false = true := h
      cases h
    intro _
    walk_at "seq"
    walk_at "if"
    · intro _
      walk_at "ret"
      exact ⟨_, rfl, k _⟩
    · intro h
      have h : true = false := h
      cases h
  | false =>
    walk_at "seq"
    walk_at "if"
    · intro h
      have h : false = true := h
      cases h
    intro _
    walk_at "seq"
    walk_at "if"
    · intro h
      have h : false = true := h
      cases h
    intro _
    walk_at "seq"
    walk_at "if"
    · intro h
      have h : false = true := h
      cases h
    intro _
    walk_at "seq"
    walk_at "if"
    · intro _
      walk_at "ret"
      exact ⟨_, rfl, k _⟩
    · intro h
      have h : true = false := h
      cases h
end Lw
set_option Elab.async false
set_option linter.all false
set_option maxRecDepth 100000
set_option maxHeartbeats 4000000
namespace Lw
open PySem PySem.Spec L2 En
local macro_rules | `(tactic| walk_at "op") => `(tactic| first | assumption | rfl | (exact mod_ok (by first | decide | omega)) | (exact mul_r (by first | decide | omega) (by first | decide | omega)) | (exact mul_l (by first | decide | omega) (by first | decide | omega)) | (exact div_ok (by first | decide | omega) (by first | decide | omega)) | assumption)
local macro_rules | `(tactic| walk_at "ev") => `(tactic| first
  | exact ev_lit | exact ev_var rfl | exact ev_kv rfl | exact ev_varo rfl | exact ev_vari rfl | exact ev_kvo rfl rfl
  | (apply ev_bin; walk_at "ev"; rfl; walk_at "ev"; rfl; rfl; rfl; walk_at "op")
  | (apply ev_un; walk_at "ev"; rfl; rfl; walk_at "op")
  | (apply ev_unN; walk_at "ev"; rfl; rfl; walk_at "op")
  | (apply ev_tup; walk_at "evl"; (first | decide | simp))
  | (apply ev_lst; walk_at "evl"; (first | decide | simp))
  | exact ev_dK
  | (apply ev_not; walk_at "ev")
  | (apply ev_and; walk_at "ev"; (intro _; walk_at "ev")) | (apply ev_or; walk_at "ev"; (intro _; walk_at "ev"))
  | (apply ev_chain; walk_at "ev"; walk_at "ev"; rfl; walk_at "ev"; rfl)
  | (apply ev_sl; walk_at "ev"; rfl; walk_at "evo"; walk_at "evo"; rfl; walk_at "op"))
local macro_rules | `(tactic| walk_at "evo") => `(tactic| first | exact evo_no | (apply evo_some; walk_at "ev"))
local macro_rules | `(tactic| walk_at "evl") => `(tactic| first | exact evl_nil | (apply evl_cons; walk_at "ev"; rfl; walk_at "evl") | (apply eva_seq; walk_at "ev"; rfl; rfl) | (apply evl_enum; walk_at "ev"; rfl; rfl) | (apply evl_rng; walk_at "ev"; omega))
local macro_rules | `(tactic| walk_at "eva") => `(tactic| first | exact eva_nil | (apply eva_cons; walk_at "ev"; rfl; walk_at "eva"))
local macro_rules | `(tactic| walk_at "evp") => `(tactic| first | exact evp_nil | (apply evp_cons; walk_at "ev"; rfl; walk_at "evp"))
local macro_rules | `(tactic| walk_at "evt") => `(tactic| first
  | (apply evt_bl; walk_at "ev") | (apply evt_tru; walk_at "ev"; rfl; rfl; walk_at "op") | (apply evt_not; walk_at "evt")
  | (apply evt_and; walk_at "evt"; (intro _; walk_at "evt")) | (apply evt_or; walk_at "evt"; (intro _; walk_at "evt")))
local macro_rules | `(tactic| walk_at "seq") => `(tactic| ((try simp only [skipS_r]); apply seq_i))
local macro_rules | `(tactic| walk_at "asg") => `(tactic| ((try simp only [skipS_r]); apply asg_i; walk_at "ev"; rfl))
local macro_rules | `(tactic| walk_at "if") => `(tactic| ((try simp only [skipS_r]); apply if_i; walk_at "evt"))
local macro_rules | `(tactic| walk_at "ret") => `(tactic| ((try simp only [skipS_r]); apply ret_i; walk_at "ev"))
local macro_rules | `(tactic| walk_at "n") => `(tactic| (try simp only [skipS_r]))
theorem sgn_lt : ∀ c ∈ SGN, c < 0x110000 := by decide
theorem nm_strOk {cs : List Nat} (h : NmOk cs) : PyData.strOk (St cs) = true := by
  obtain ⟨c, r, rfl, h1, h2, _⟩ := h
  show (c :: r).toArray.all (· < 0x110000) = true
  rw [Array.all_eq_true_iff_forall_mem]
  intro x hx
  have hx : x ∈ c :: r := by simpa using hx
  rcases List.mem_cons.mp hx with rfl | hx
  · exact decide_eq_true (sgn_lt _ (let_sgn _ h1))
  · exact decide_eq_true (sgn_lt _ (h2 x hx))
/-- is_index(i, n) of a whole number -/
theorem index_int {i : Int} {n : Nat} {P : EV → Env' → Prop} {X : Exx} (k : ∀ t, P (.val (.bl (decide (0 ≤ i) && decide (i < (n : Int))))) t) : runF F_is_index [.val (.int i), .val (.int (n : Int))] P X := by
  apply body_i
  apply ret_c
  have hc : Ev (callF F_is_whole 1 (consA FL (kvF FL 0) nilA)) [.val (.int i), .val (.int (n : Int))] (.val (.bl true)) [.val (.int i), .val (.int (n : Int))] := by
    apply ev_call
    · walk_at "eva"
    · rfl
    · simp
    · rfl
    · rfl
    · intro P X hP
      exact whole_int hP
  apply and_i hc
  · intro _
    refine (by walk_at "ev" : Ev (chainF FL leD ltD (litF (.int 0)) (varF 0) (varF 1)) _ _ _) _ _ ?_
    exact ⟨_, rfl, k _⟩
  · intro h; cases h
end Lw
set_option Elab.async false
set_option linter.all false
set_option maxRecDepth 100000
set_option maxHeartbeats 4000000
namespace Lw
open PySem PySem.Spec L2 En
local macro_rules | `(tactic| walk_at "op") => `(tactic| first | assumption | rfl | (exact mod_ok (by first | decide | omega)) | (exact mul_r (by first | decide | omega) (by first | decide | omega)) | (exact mul_l (by first | decide | omega) (by first | decide | omega)) | (exact div_ok (by first | decide | omega) (by first | decide | omega)) | assumption)
local macro_rules | `(tactic| walk_at "ev") => `(tactic| first
  | exact ev_lit | exact ev_var rfl | exact ev_kv rfl | exact ev_varo rfl | exact ev_vari rfl | exact ev_kvo rfl rfl
  | (apply ev_bin; walk_at "ev"; rfl; walk_at "ev"; rfl; rfl; rfl; walk_at "op")
  | (apply ev_un; walk_at "ev"; rfl; rfl; walk_at "op")
  | (apply ev_unN; walk_at "ev"; rfl; rfl; walk_at "op")
  | (apply ev_tup; walk_at "evl"; (first | decide | simp))
  | (apply ev_lst; walk_at "evl"; (first | decide | simp))
  | exact ev_dK
  | (apply ev_not; walk_at "ev")
  | (apply ev_and; walk_at "ev"; (intro _; walk_at "ev")) | (apply ev_or; walk_at "ev"; (intro _; walk_at "ev"))
  | (apply ev_chain; walk_at "ev"; walk_at "ev"; rfl; walk_at "ev"; rfl)
  | (apply ev_sl; walk_at "ev"; rfl; walk_at "evo"; walk_at "evo"; rfl; walk_at "op"))
local macro_rules | `(tactic| walk_at "evo") => `(tactic| first | exact evo_no | (apply evo_some; walk_at "ev"))
local macro_rules | `(tactic| walk_at "evl") => `(tactic| first | exact evl_nil | (apply evl_cons; walk_at "ev"; rfl; walk_at "evl") | (apply eva_seq; walk_at "ev"; rfl; rfl) | (apply evl_enum; walk_at "ev"; rfl; rfl) | (apply evl_rng; walk_at "ev"; omega))
local macro_rules | `(tactic| walk_at "eva") => `(tactic| first | exact eva_nil | (apply eva_cons; walk_at "ev"; rfl; walk_at "eva"))
local macro_rules | `(tactic| walk_at "evp") => `(tactic| first | exact evp_nil | (apply evp_cons; walk_at "ev"; rfl; walk_at "evp"))
local macro_rules | `(tactic| walk_at "evt") => `(tactic| first
  | (apply evt_bl; walk_at "ev") | (apply evt_tru; walk_at "ev"; rfl; rfl; walk_at "op") | (apply evt_not; walk_at "evt")
  | (apply evt_and; walk_at "evt"; (intro _; walk_at "evt")) | (apply evt_or; walk_at "evt"; (intro _; walk_at "evt")))
local macro_rules | `(tactic| walk_at "seq") => `(tactic| ((try simp only [skipS_r]); apply seq_i))
local macro_rules | `(tactic| walk_at "asg") => `(tactic| ((try simp only [skipS_r]); apply asg_i; walk_at "ev"; rfl))
local macro_rules | `(tactic| walk_at "if") => `(tactic| ((try simp only [skipS_r]); apply if_i; walk_at "evt"))
local macro_rules | `(tactic| walk_at "ret") => `(tactic| ((try simp only [skipS_r]); apply ret_i; walk_at "ev"))
local macro_rules | `(tactic| walk_at "n") => `(tactic| (try simp only [skipS_r]))
abbrev logT (css : List (List Nat)) (dss : List (List (Option Int))) : D := .tup [.nms (css.map St), .tup (dss.map dayD)]
abbrev strsD (es : List (List Nat)) : List D := es.map (fun c => D.str (St c))
theorem ok_strs {n : Nat} : ∀ {es : List (List Nat)}, (∀ c ∈ es, PyData.strOk (St c) = true) → okL (strsD es) n = true
  | [], _ => by simp [okL]
  | c :: es, h => by
    have h1 := h c List.mem_cons_self
    have h2 := ok_strs (n := n) fun c hc => h c (List.mem_cons_of_mem _ hc)
    simp only [List.map_cons, okL, h2, okN, h1, Bool.and_self]
theorem eq_nil {es : List (List Nat)} (h : ∀ c ∈ es, PyData.strOk (St c) = true) : eqD (.lst (strsD es)) (.lst []) = some (.bl es.isEmpty) := by
  have h1 : okN (.lst (strsD es)) 60 = true := by
    show okL (strsD es) 59 = true
    exact ok_strs h
  have h2 : okN (.lst []) 60 = true := rfl
  have h3 : eqOk (.lst (strsD es)) (.lst []) = true := by
    unfold eqOk; rw [h1, h2]; simp
  show (if eqOk (.lst (strsD es)) (.lst []) then some (D.bl (eqB (.lst (strsD es)) (.lst []))) else none) = _
  rw [if_pos h3]
  cases es with
  | nil => rfl
  | cons c es => simp [eqB, D.py, D.pyL, PyData.eqv, PyData.eqvAll]
theorem ix_strs {es : List (List Nat)} {r : Int} (h0 : 0 ≤ r) (h1 : r < es.length) : ∃ c, c ∈ es ∧ ixD (.lst (strsD es)) (.int r) = some (.str (St c)) := by
  have hj : r.toNat < es.length := by omega
  refine ⟨es[r.toNat], List.getElem_mem hj, ?_⟩
  have := ix_l (ds := strsD es) (j := r.toNat) (d := .str (St es[r.toNat])) (by rw [List.getElem?_map, List.getElem?_eq_getElem hj]; rfl)
  rwa [Int.toNat_of_nonneg h0] at this
theorem ix_back {ds : List D} {d : D} (h : ds.getLast? = some d) : ixD (.lst ds) (.int (-1)) = some d := by
  have hne : ds ≠ [] := by intro z; subst z; cases h
  have hl : 0 < ds.length := List.length_pos_iff.mpr hne
  show atI ds (-1) = _
  unfold atI
  have e : ixN ds.length (-1) = some (ds.length - 1) := by
    unfold ixN
    rw [if_neg (by omega), if_pos (by omega)]
    congr 1; omega
  rw [e, List.getLast?_eq_getElem?] at *
  exact h
theorem ix_prev {es : List (List Nat)} {j : Nat} (h : j < es.length) : ∃ c, c ∈ es ∧ ixD (.lst (strsD es)) (.int ((0 + (j : Int)) - 1)) = some (.str (St c)) := by
  cases j with
  | zero =>
    have hne : es ≠ [] := by intro z; subst z; simp at h
    refine ⟨es.getLast hne, List.getLast_mem hne, ?_⟩
    exact ix_back (by rw [List.getLast?_map, List.getLast?_eq_some_getLast hne]; rfl)
  | succ j =>
    have e : (0 + ((j + 1 : Nat) : Int)) - 1 = (j : Int) := by omega
    rw [e]
    exact ix_strs (by omega) (by omega)
theorem strs_get {css : List (List Nat)} {i : Nat} {d : D} (h : ((css.map St).map D.str)[i]? = some d) : ∃ c, css[i]? = some c ∧ d = .str (St c) := by
  rw [List.map_map, List.getElem?_map] at h
  obtain ⟨c, h1, rfl⟩ := Option.map_eq_some_iff.mp h
  exact ⟨c, h1, rfl⟩
theorem ne_str (a b : List Nat) : neD (.str (St a)) (.str (St b)) = some (.bl (!decide (b = a))) := by
  show some (D.bl (!eqB (.str (St a)) (.str (St b)))) = _
  rw [eqB_str, st_inj]
theorem eq_str (a b : List Nat) : eqD (.str (St a)) (.str (St b)) = some (.bl (decide (b = a))) := by
  show some (D.bl (eqB (.str (St a)) (.str (St b)))) = _
  rw [eqB_str, st_inj]
theorem max1_dom (n : Nat) : maxD (.int 1) (.int (n : Int)) = some (.int ((max 1 n : Nat) : Int)) := by
  show some (D.int (if (n : Int) > 1 then (n : Int) else 1)) = _
  congr 2
  split <;> omega
theorem lround_seq1 {o : Ob} {css : List (List Nat)} {dss : List (List (Option Int))} {P : EV → Env' → Prop} {X : Exx} (ho : PenOk o)
    (hn : css.Nodup) (h2 : 2 ≤ css.length) (h4 : css.length ≤ 4) (hk : ∀ cs ∈ css, NmOk cs) (hd : dss.length ≤ 6)
    (k : ∀ l o' t, 2 ≤ l.length → l.length ≤ 4 → (∀ x ∈ l, Trip css (max 1 dss.length) x) → PenOk o' → P (.val (.tup l)) (.io o' :: t)) :
    runF F__law_round [.io o, .val (logT css dss)] P X := by
  apply body_i
  apply seq_cut (Q := fun e => ∃ (m : Nat) (o1 : Ob), e = [.io o1, .val (logT css dss), .val (nI m), .own (.lst []), .un, .un, .un, .un, .un] ∧ 2 ≤ m ∧ m ≤ 4 ∧ PenOk o1)
  · apply par_c
    apply consP_c
    apply bin_r
    · walk_at "ev"
    · rfl
    apply call_i
    · walk_at "eva"
    · rfl
    · simp
    refine spec_draw ho (by decide) (by decide) fun r o1 t1 h0 h1 ho1 => ?_
    refine ⟨rfl, _, rfl, _, rfl, ?_⟩
    refine ⟨_, _, _, rfl, rfl, rfl, rfl, ?_⟩
    refine (by walk_at "evp" : EvP _ _ _ _) _ _ ⟨[.io o1, .val (logT css dss), .val (.int (2 + r)), .own (.lst []), .un, .un, .un, .un, .un], rfl, (2 + r).toNat, o1, ?_, by omega, by omega, ho1⟩
    rw [show nI (2 + r).toNat = .int (2 + r) from by show D.int ((2 + r).toNat : Int) = _; rw [Int.toNat_of_nonneg (by omega)]]
  rintro _ ⟨m, o1, rfl, m2, m4, ho1⟩
  walk_at "n"
  apply seq_cut (Q := fun e => ∃ (es : List (List Nat)) (o2 : Ob) (a4 : En.Slot), e = [.io o2, .val (logT css dss), .val (nI m), .own (.lst (strsD es)), a4, .un, .un, .un, .un] ∧ es.length = m ∧ (∀ c ∈ es, c ∈ css) ∧ PenOk o2 ∧ a4.isIo = false)
  · apply for_c
    apply rng_c
    refine (by walk_at "ev" : Ev (varF 2) _ _ _) _ _ ?_
    refine ⟨_, rfl, by omega, ?_⟩
    refine forL_inv _ (fun j e => ∃ (es : List (List Nat)) (o2 : Ob) (a4 : En.Slot), e = [.io o2, .val (logT css dss), .val (nI m), .own (.lst (strsD es)), a4, .un, .un, .un, .un] ∧ es.length = j ∧ (∀ c ∈ es, c ∈ css) ∧ PenOk o2 ∧ a4.isIo = false) ⟨[], o1, _, rfl, rfl, (fun _ h => nomatch h), ho1, rfl⟩ ?_ ?_
    · rintro j d e hj ⟨es, o2, a4, rfl, hl, hes, ho2, h4'⟩
      obtain ⟨hj1, rfl⟩ := intsD_get hj
      refine ⟨[.io o2, .val (logT css dss), .val (nI m), .own (.lst (strsD es)), .val (.int (0 + (j : Int))), .un, .un, .un, .un], by simp [h4'], ?_⟩
      have hso : ∀ c ∈ es, PyData.strOk (St c) = true := fun c hc => nm_strOk (hk c (hes c hc))
      let p : List Nat → Bool := fun c => decide (es.getLast? ≠ some c)
      have hfl : css.filter p ≠ [] := by
        intro z
        have hall : ∀ c ∈ css, es.getLast? = some c := fun c hc => by
          have := List.filter_eq_nil_iff.mp z c hc
          simpa [p] using this
        match css, hn, h2, hall with
        | a :: b :: r, hn, _, hall =>
          have ha := hall a (by simp)
          have hb := hall b (by simp)
          rw [ha] at hb
          simp at hb
          simp [hb] at hn
      have hfl2 : (css.filter p).length ≤ 4 := Nat.le_trans (List.length_filter_le _ _) h4
      apply drop_c
      apply app_c
      · exact ⟨_, rfl, _, rfl⟩
      apply call_c
      apply consA_e (ev_vari rfl) rfl
      apply consA_c
      apply lc_i
      · apply eva_seq
        · walk_at "ev"
        · rfl
        · rfl
      · rfl
      refine compL_inv _ (fun i acc e => acc = strsD ((css.take i).filter p) ∧ e = [.io o2, .val (logT css dss), .val (nI m), .own (.lst (strsD es)), .val (.int (0 + (j : Int))), .un, .un, .un, .un]) ⟨rfl, rfl⟩ ?_ ?_
      · rintro i d acc e hi ⟨rfl, rfl⟩
        obtain ⟨c, hic, rfl⟩ := strs_get hi
        have hil := (List.getElem?_eq_some_iff.mp hic).1
        refine ⟨[.io o2, .val (logT css dss), .val (nI m), .own (.lst (strsD es)), .val (.int (0 + (j : Int))), .val (.str (St c)), .un, .un, .un], by simp, ?_⟩
        have hpc : EvT (orT (blF FL (binF FL eqD (varF 3) (lstF nilL))) (blF FL (binF FL neD (varF 5) (binF FL ixD (varF 3) (unF FL negD (litF (.int 1))))))) [.io o2, .val (logT css dss), .val (nI m), .own (.lst (strsD es)), .val (.int (0 + (j : Int))), .val (.str (St c)), .un, .un, .un] (p c) [.io o2, .val (logT css dss), .val (nI m), .own (.lst (strsD es)), .val (.int (0 + (j : Int))), .val (.str (St c)), .un, .un, .un] := by
          cases hz : es.getLast? with
          | none =>
            have : es = [] := by simpa using hz
            subst this
            have e1 := eq_nil (es := []) (fun _ h => nomatch h)
            have : p c = (true || false) := by simp [p]
            rw [this]
            apply evt_or
            · walk_at "evt"
            · intro h; cases h
          | some l =>
            have e1 := eq_nil hso
            have hne : es.isEmpty = false := by
              cases es with
              | nil => cases hz
              | cons _ _ => rfl
            rw [hne] at e1
            have e2 := ne_str c l
            have e3 : ixD (.lst (strsD es)) (.int (-1)) = some (.str (St l)) := ix_back (by rw [List.getLast?_map, hz]; rfl)
            have : p c = (false || !decide (l = c)) := by simp [p, hz]
            rw [this]
            walk_at "evt"
        refine hpc _ _ ?_
        rw [List.take_add_one, hic]
        cases hpp : p c with
        | true =>
          rw [if_pos rfl]
          have hle := List.length_filter_le p (css.take i)
          rw [List.length_take] at hle
          refine (ev_kv rfl : Ev (kvF FL 5) _ (.val (.str (St c))) _) _ _ ⟨_, rfl, by rw [List.length_map]; omega, rfl, ?_, rfl⟩
          simp [List.filter_append, hpp]
        | false =>
          rw [if_neg Bool.false_ne_true]
          refine ⟨rfl, ?_, rfl⟩
          simp [List.filter_append, hpp]
      · rintro acc e ⟨rfl, rfl⟩
        rw [List.length_map, List.length_map, List.take_length]
        refine ⟨_, rfl, rfl, by simp, ?_⟩
        have hpos := List.length_pos_iff.mpr hfl
        refine spec_pick (n := ((css.filter p).length : Int)) ho2 (by show some (D.int ((strsD (css.filter p)).length : Int)) = _; rw [List.length_map]) (by omega) (by omega) fun r r0 r1 => ?_
        obtain ⟨c, hc, hix⟩ := ix_strs r0 r1
        refine ⟨_, hix, fun o' t ho' => ?_⟩
        refine ⟨rfl, _, rfl, _, rfl, _, _, rfl, rfl, by rw [List.length_map]; omega, es ++ [c], o', .val (.int (0 + (j : Int))), by simp, by simp [hl], ?_, ho', rfl⟩
        intro x hx
        rcases List.mem_append.mp hx with hx | hx
        · exact hes x hx
        · rw [List.mem_singleton.mp hx]; exact (List.mem_filter.mp hc).1
    · rintro e ⟨es, o2, a4, rfl, hl, hes, ho2, h4'⟩
      refine ⟨es, o2, a4, rfl, ?_, hes, ho2, h4'⟩
      rw [hl]; simp [intsD]
  rintro _ ⟨es, o2, a4, rfl, hl, hes, ho2, h4'⟩
  walk_at "n"
  walk_at "seq"
  walk_at "asg"
  walk_at "n"
  apply seq_cut (Q := fun e => ∃ (l : List D) (o3 : Ob) (a7 a8 : En.Slot), e = [.io o3, .val (logT css dss), .val (nI m), .own (.lst (strsD es)), a4, .un, .own (.lst l), a7, a8] ∧ l.length = m ∧ (∀ x ∈ l, Trip css (max 1 dss.length) x) ∧ PenOk o3)
  · apply for_c
    apply rng_c
    refine (by walk_at "ev" : Ev (varF 2) _ _ _) _ _ ?_
    refine ⟨_, rfl, by omega, ?_⟩
    refine forL_inv _ (fun j e => ∃ (l : List D) (o3 : Ob) (a7 a8 : En.Slot), e = [.io o3, .val (logT css dss), .val (nI m), .own (.lst (strsD es)), a4, .un, .own (.lst l), a7, a8] ∧ l.length = j ∧ (∀ x ∈ l, Trip css (max 1 dss.length) x) ∧ PenOk o3 ∧ a7.isIo = false ∧ a8.isIo = false) ⟨[], o2, _, _, rfl, rfl, (fun _ h => nomatch h), ho2, rfl, rfl⟩ ?_ ?_
    · rintro j d e hj ⟨l, o3, a7, a8, rfl, hll, hlx, ho3, h7, h8⟩
      obtain ⟨hj1, rfl⟩ := intsD_get hj
      have hjm : j < es.length := by simp at hj1; omega
      refine ⟨[.io o3, .val (logT css dss), .val (nI m), .own (.lst (strsD es)), a4, .un, .own (.lst l), .val (.int (0 + (j : Int))), a8], by simp [h7], ?_⟩
      walk_at "seq"
      apply asg_c
      have hmx := max1_dom (dss.map dayD).length
      apply call_i
      · walk_at "eva"
      · rfl
      · simp
      refine spec_draw ho3 (by omega) (by rw [List.length_map]; omega) fun r o4 t r0 r1 ho4 => ?_
      rw [List.length_map] at r1
      refine ⟨rfl, _, rfl, [.io o4, .val (logT css dss), .val (nI m), .own (.lst (strsD es)), a4, .un, .own (.lst l), .val (.int (0 + (j : Int))), .val (.int r)], by simp [h8], ?_⟩
      walk_at "n"
      obtain ⟨c1, hc1, hx1⟩ := ix_prev hjm
      obtain ⟨c2, hc2, hx2⟩ := ix_strs (es := es) (r := 0 + (j : Int)) (by omega) (by omega)
      apply drop_i
      · apply app_i
        · exact ⟨_, rfl, _, rfl⟩
        · walk_at "ev"
        · rfl
        · rfl
        · rfl
        · omega
      refine ⟨l ++ [.tup [.int r, .str (St c1), .str (St c2)]], o4, _, _, rfl, by simp [hll], ?_, ho4, rfl, rfl⟩
      intro x hx
      rcases List.mem_append.mp hx with hx | hx
      · exact hlx x hx
      · rw [List.mem_singleton.mp hx]
        exact ⟨r.toNat, c1, c2, by rw [show nI r.toNat = .int r from by show D.int (r.toNat : Int) = _; rw [Int.toNat_of_nonneg r0]], by omega, hes c1 hc1, hes c2 hc2⟩
    · rintro e ⟨l, o3, a7, a8, rfl, hll, hlx, ho3, h7, h8⟩
      refine ⟨l, o3, a7, a8, rfl, ?_, hlx, ho3⟩
      rw [hll]; simp [intsD]
  rintro _ ⟨l, o3, a7, a8, rfl, hll, hlx, ho3⟩
  walk_at "n"
  apply ret_c
  refine (by walk_at "ev" : Ev (unF FL tupOfD (varF 6)) _ _ _) _ _ ?_
  refine ⟨_, rfl, k l o3 _ (by omega) (by omega) hlx ho3⟩
end Lw
set_option Elab.async false
set_option linter.all false
set_option maxRecDepth 100000
set_option maxHeartbeats 4000000
namespace Lw
open PySem PySem.Spec L2 En
local macro_rules | `(tactic| walk_at "op") => `(tactic| first | assumption | rfl | (exact mod_ok (by first | decide | omega)) | (exact mul_r (by first | decide | omega) (by first | decide | omega)) | (exact mul_l (by first | decide | omega) (by first | decide | omega)) | (exact div_ok (by first | decide | omega) (by first | decide | omega)) | assumption)
local macro_rules | `(tactic| walk_at "ev") => `(tactic| first
  | exact ev_lit | exact ev_var rfl | exact ev_kv rfl | exact ev_varo rfl | exact ev_vari rfl | exact ev_kvo rfl rfl
  | (apply ev_bin; walk_at "ev"; rfl; walk_at "ev"; rfl; rfl; rfl; walk_at "op")
  | (apply ev_un; walk_at "ev"; rfl; rfl; walk_at "op")
  | (apply ev_unN; walk_at "ev"; rfl; rfl; walk_at "op")
  | (apply ev_tup; walk_at "evl"; (first | decide | simp))
  | (apply ev_lst; walk_at "evl"; (first | decide | simp))
  | exact ev_dK
  | (apply ev_not; walk_at "ev")
  | (apply ev_and; walk_at "ev"; (intro _; walk_at "ev")) | (apply ev_or; walk_at "ev"; (intro _; walk_at "ev"))
  | (apply ev_chain; walk_at "ev"; walk_at "ev"; rfl; walk_at "ev"; rfl)
  | (apply ev_sl; walk_at "ev"; rfl; walk_at "evo"; walk_at "evo"; rfl; walk_at "op"))
local macro_rules | `(tactic| walk_at "evo") => `(tactic| first | exact evo_no | (apply evo_some; walk_at "ev"))
local macro_rules | `(tactic| walk_at "evl") => `(tactic| first | exact evl_nil | (apply evl_cons; walk_at "ev"; rfl; walk_at "evl") | (apply eva_seq; walk_at "ev"; rfl; rfl) | (apply evl_enum; walk_at "ev"; rfl; rfl) | (apply evl_rng; walk_at "ev"; omega))
local macro_rules | `(tactic| walk_at "eva") => `(tactic| first | exact eva_nil | (apply eva_cons; walk_at "ev"; rfl; walk_at "eva"))
local macro_rules | `(tactic| walk_at "evp") => `(tactic| first | exact evp_nil | (apply evp_cons; walk_at "ev"; rfl; walk_at "evp"))
local macro_rules | `(tactic| walk_at "evt") => `(tactic| first
  | (apply evt_bl; walk_at "ev") | (apply evt_tru; walk_at "ev"; rfl; rfl; walk_at "op") | (apply evt_not; walk_at "evt")
  | (apply evt_and; walk_at "evt"; (intro _; walk_at "evt")) | (apply evt_or; walk_at "evt"; (intro _; walk_at "evt")))
local macro_rules | `(tactic| walk_at "seq") => `(tactic| ((try simp only [skipS_r]); apply seq_i))
local macro_rules | `(tactic| walk_at "asg") => `(tactic| ((try simp only [skipS_r]); apply asg_i; walk_at "ev"; rfl))
local macro_rules | `(tactic| walk_at "if") => `(tactic| ((try simp only [skipS_r]); apply if_i; walk_at "evt"))
local macro_rules | `(tactic| walk_at "ret") => `(tactic| ((try simp only [skipS_r]); apply ret_i; walk_at "ev"))
local macro_rules | `(tactic| walk_at "n") => `(tactic| (try simp only [skipS_r]))
/-! what any value is as a step -/
def Fst (x : D) : Prop := (∃ i, x = .int i) ∨ (∃ b, x = .bl b) ∨ ∃ s, x = .str s
def NS (x : D) : Prop := x = .non ∨ ∃ c : List Nat, x = .str (St c) ∧ PyData.strOk (St c) = true
def Item (d : D) : Prop := d = .non ∨ (∃ i s, d = .tup [.int i, .str s]) ∨ ∃ x y z, d = .tup [x, y, z] ∧ Fst x ∧ NS y ∧ NS z
/-- the place of an event -/
def plc (css : List (List Nat)) : D → Option Nat
  | .str s => idxB (fun d => eqB d (.str s)) ((css.map St).map .str) 0
  | _ => none
def tmA (ts : List (Option Int)) (k : Nat) : Option Int := (ts[k]?).bind id
/-- what a step adds; none if it is no right one -/
def stepV (css : List (List Nat)) (dss : List (List (Option Int))) : D → Option Int
  | .tup [.int i, y, z] => if 0 ≤ i ∧ i < dss.length then (match plc css y, plc css z with
    | some a, some b => if a = b then none else match tmA (dss.getD i.toNat []) a, tmA (dss.getD i.toNat []) b with
      | some u, some v => some (v - u)
      | _, _ => none
    | _, _ => none) else none
  | _ => none
theorem any_idx {p : D → Bool} : ∀ {ds : List D} {n : Nat}, ds.any p = (idxB p ds n).isSome
  | [], _ => rfl
  | d :: ds, n => by
    rw [List.any_cons, idxB]
    by_cases h : p d = true
    · simp [h]
    · rw [if_neg h, ← any_idx (ds := ds)]
      simp [h]
/-- `e in events` -/
theorem in_plc {css : List (List Nat)} {c : List Nat} : inD (.str (St c)) (.nms (css.map St)) = some (.bl (plc css (.str (St c))).isSome) := by
  show some (D.bl ((css.map St).any fun z => eqB (.str z) (.str (St c)))) = _
  congr 2
  unfold plc
  rw [← any_idx, List.any_map, List.any_map, List.any_map]; rfl
theorem notin_plc {css : List (List Nat)} {c : List Nat} : notInD (.str (St c)) (.nms (css.map St)) = some (.bl (!(plc css (.str (St c))).isSome)) := by
  have := @in_plc css c
  unfold inD at this
  unfold notInD
  cases h : inB (.str (St c)) (.nms (css.map St)) with
  | none => rw [h] at this; cases this
  | some b =>
    rw [h] at this
    have e : b = (plc css (.str (St c))).isSome := by simpa using this
    rw [e]; rfl
theorem idx_plc {css : List (List Nat)} {y : D} {k : Nat} (h : plc css y = some k) : idxD (.nms (css.map St)) y = some (nI k) := by
  cases y with
  | str s =>
    show (idxB (fun d => eqB d (.str s)) ((css.map St).map .str) 0).map _ = _
    have h : idxB (fun d => eqB d (.str s)) ((css.map St).map .str) 0 = some k := h
    rw [h]; rfl
  | _ => cases h
theorem plc_lt {css : List (List Nat)} {y : D} {k : Nat} (h : plc css y = some k) : k < css.length := by
  cases y with
  | str s =>
    have h : idxB (fun d => eqB d (.str s)) ((css.map St).map .str) 0 = some k := h
    obtain ⟨_, ⟨d, h2, _⟩, _⟩ := idxB_spec h
    have := (List.getElem?_eq_some_iff.mp h2).1
    simpa using this
  | _ => cases h
theorem plc_eq {css : List (List Nat)} {y z : List Nat} {a b : Nat} (h : plc css (.str (St y)) = some a) (h2 : plc css (.str (St z)) = some b) : a = b ↔ y = z := by
  have h : idxB (fun d => eqB d (.str (St y))) ((css.map St).map .str) 0 = some a := h
  have h2 : idxB (fun d => eqB d (.str (St z))) ((css.map St).map .str) 0 = some b := h2
  constructor
  · intro e
    subst e
    obtain ⟨_, ⟨d, g1, g2⟩, _⟩ := idxB_spec h
    obtain ⟨_, ⟨d', g3, g4⟩, _⟩ := idxB_spec h2
    rw [g1] at g3; cases g3
    rw [Nat.sub_zero] at g1
    obtain ⟨c, _, rfl⟩ := strs_get g1
    rw [eqB_str, st_inj] at g2 g4
    simp at g2 g4
    rw [g2, g4]
  · intro e
    subst e
    rw [h] at h2
    cases h2; rfl
theorem tm_get {ts : List (Option Int)} {k : Nat} (h : k < ts.length) : ixD (dayD ts) (nI k) = some (tmD (tmA ts k)) := by
  have := ix_t (ds := ts.map tmD) (j := k) (d := tmD ts[k]) (by rw [List.getElem?_map, List.getElem?_eq_getElem h]; rfl)
  rw [this]
  unfold tmA
  rw [List.getElem?_eq_getElem h]; rfl
/-- is it an event? -/
def inEv (css : List (List Nat)) (y : D) : Bool := (plc css y).isSome
theorem is_str {y : D} (h : NS y) : ∃ b, isiD ICS [(.b .str)] y = some (.bl b) ∧ (b = false → y = .non) ∧ (b = true → ∃ c, y = .str (St c)) := by
  rcases h with rfl | ⟨c, rfl, _⟩
  · exact ⟨false, rfl, fun _ => rfl, fun h => nomatch h⟩
  · exact ⟨true, rfl, (fun h => nomatch h), fun _ => ⟨c, rfl⟩⟩
theorem ns_eq {y z : D} (hy : NS y) (hz : NS z) : ∃ b, eqD y z = some (.bl b) ∧ neD y z = some (.bl (!b)) ∧ (b = true ↔ y = z) := by
  rcases hy with rfl | ⟨c, rfl, _⟩ <;> rcases hz with rfl | ⟨c', rfl, _⟩
  · exact ⟨true, rfl, rfl, by simp⟩
  · exact ⟨false, by show some (D.bl (eqB _ _)) = _; simp [eqB, D.py, PyData.eqv], by show some (D.bl (!eqB _ _)) = _; simp [eqB, D.py, PyData.eqv], by simp⟩
  · exact ⟨false, by show some (D.bl (eqB _ _)) = _; simp [eqB, D.py, PyData.eqv], by show some (D.bl (!eqB _ _)) = _; simp [eqB, D.py, PyData.eqv], by simp⟩
  · refine ⟨decide (c' = c), eq_str _ _, ne_str _ _, ?_⟩
    constructor
    · intro h; rw [of_decide_eq_true h]
    · intro h
      have h : St c = St c' := by injection h
      have := congrArg (fun s => s.cps.toList) h
      exact decide_eq_true (by simpa using this.symm)
theorem cut3 {x y z : D} : cutD [x, y, z] (some 1) none = [y, z] := cut_drop1
end Lw
set_option Elab.async false
set_option linter.all false
set_option maxRecDepth 100000
set_option maxHeartbeats 4000000
namespace Lw
open PySem PySem.Spec L2 En
local macro_rules | `(tactic| walk_at "op") => `(tactic| first | assumption | rfl | (exact mod_ok (by first | decide | omega)) | (exact mul_r (by first | decide | omega) (by first | decide | omega)) | (exact mul_l (by first | decide | omega) (by first | decide | omega)) | (exact div_ok (by first | decide | omega) (by first | decide | omega)) | assumption)
local macro_rules | `(tactic| walk_at "ev") => `(tactic| first
  | exact ev_lit | exact ev_var rfl | exact ev_kv rfl | exact ev_varo rfl | exact ev_vari rfl | exact ev_kvo rfl rfl
  | (apply ev_bin; walk_at "ev"; rfl; walk_at "ev"; rfl; rfl; rfl; walk_at "op")
  | (apply ev_un; walk_at "ev"; rfl; rfl; walk_at "op")
  | (apply ev_unN; walk_at "ev"; rfl; rfl; walk_at "op")
  | (apply ev_tup; walk_at "evl"; (first | decide | simp))
  | (apply ev_lst; walk_at "evl"; (first | decide | simp))
  | exact ev_dK
  | (apply ev_not; walk_at "ev")
  | (apply ev_and; walk_at "ev"; (intro _; walk_at "ev")) | (apply ev_or; walk_at "ev"; (intro _; walk_at "ev"))
  | (apply ev_chain; walk_at "ev"; walk_at "ev"; rfl; walk_at "ev"; rfl)
  | (apply ev_sl; walk_at "ev"; rfl; walk_at "evo"; walk_at "evo"; rfl; walk_at "op"))
local macro_rules | `(tactic| walk_at "evo") => `(tactic| first | exact evo_no | (apply evo_some; walk_at "ev"))
local macro_rules | `(tactic| walk_at "evl") => `(tactic| first | exact evl_nil | (apply evl_cons; walk_at "ev"; rfl; walk_at "evl") | (apply eva_seq; walk_at "ev"; rfl; rfl) | (apply evl_enum; walk_at "ev"; rfl; rfl) | (apply evl_rng; walk_at "ev"; omega))
local macro_rules | `(tactic| walk_at "eva") => `(tactic| first | exact eva_nil | (apply eva_cons; walk_at "ev"; rfl; walk_at "eva"))
local macro_rules | `(tactic| walk_at "evp") => `(tactic| first | exact evp_nil | (apply evp_cons; walk_at "ev"; rfl; walk_at "evp"))
local macro_rules | `(tactic| walk_at "evt") => `(tactic| first
  | (apply evt_bl; walk_at "ev") | (apply evt_tru; walk_at "ev"; rfl; rfl; walk_at "op") | (apply evt_not; walk_at "evt")
  | (apply evt_and; walk_at "evt"; (intro _; walk_at "evt")) | (apply evt_or; walk_at "evt"; (intro _; walk_at "evt")))
local macro_rules | `(tactic| walk_at "seq") => `(tactic| ((try simp only [skipS_r]); apply seq_i))
local macro_rules | `(tactic| walk_at "asg") => `(tactic| ((try simp only [skipS_r]); apply asg_i; walk_at "ev"; rfl))
local macro_rules | `(tactic| walk_at "if") => `(tactic| ((try simp only [skipS_r]); apply if_i; walk_at "evt"))
local macro_rules | `(tactic| walk_at "ret") => `(tactic| ((try simp only [skipS_r]); apply ret_i; walk_at "ev"))
local macro_rules | `(tactic| walk_at "n") => `(tactic| (try simp only [skipS_r]))
theorem lst_c {l : LF} {env : Env'} {P : EV → Env' → Prop} {X : Exx} (h : l.r env (fun ds env1 => ds.length ≤ 100 ∧ P (.new (.lst ds)) env1) X) : (lstF l).r env P X := h
theorem tup_c {l : LF} {env : Env'} {P : EV → Env' → Prop} {X : Exx} (h : l.r env (fun ds env1 => ds.length ≤ 100 ∧ P (.val (.tup ds)) env1) X) : (tupF l).r env P X := h
theorem consL_e {F : Nat → List Str} {f : EF} {l : LF} {env env1 : Env'} {e : EV} {d : D} {PL : List D → Env' → Prop} {X : Exx} (h1 : Ev f env e env1) (k1 : e.keep F = some d) (h : l.r env1 (fun ds env2 => PL (d :: ds) env2) X) : (consL F f l).r env PL X := h1 _ _ ⟨d, k1, h⟩
theorem nilL_c {env : Env'} {PL : List D → Env' → Prop} {X : Exx} (h : PL [] env) : nilL.r env PL X := h
theorem nilA_c {env : Env'} {PL : List AV → Env' → Prop} {X : Exx} (h : PL [] env) : nilA.r env PL X := h
theorem add_t {xs ys : List D} (h : xs.length + ys.length ≤ 1000) : addD (.tup xs) (.tup ys) = some (.tup (xs ++ ys)) := by
  show (if xs.length + ys.length ≤ sizeLine then some (D.tup (xs ++ ys)) else none) = _
  rw [if_pos (by rw [sizeLine_eq]; omega)]
theorem add_l {xs ys : List D} (h : xs.length + ys.length ≤ 1000) : addD (.lst xs) (.lst ys) = some (.lst (xs ++ ys)) := by
  show (if xs.length + ys.length ≤ sizeLine then some (D.lst (xs ++ ys)) else none) = _
  rw [if_pos (by rw [sizeLine_eq]; omega)]
theorem cut_mem {ds : List D} {lo hi : Option Int} : ∀ d ∈ cutD ds lo hi, d ∈ ds := fun d h => List.mem_of_mem_drop (List.mem_of_mem_take h)
theorem cut_len {ds : List D} {lo hi : Option Int} : (cutD ds lo hi).length ≤ ds.length := by
  unfold cutD
  rw [List.length_take, List.length_drop]; omega
def SeqOk (v : D) : Prop := v = .non ∨ ∃ l, (v = .tup l ∨ v = .lst l) ∧ l.length ≤ 60 ∧ ∀ d ∈ l, Item d
def Bent (v : D) : Prop := v = .non ∨ (∃ l, v = .tup l) ∨ ∃ x, v = .ins 0 [x] ∧ (x = .non ∨ ∃ l, x = .tup l ∧ l.length ≤ 60 ∧ ∀ d ∈ l, Item d)
theorem item_tupf {d : D} (h : Item d) : tupf d = d ∧ dpk 5 d = true := by
  rcases h with rfl | ⟨x, y, rfl⟩ | ⟨x, y, z, rfl, hx, hy, hz⟩
  · exact ⟨rfl, rfl⟩
  · exact ⟨rfl, rfl⟩
  · have f1 : tupf x = x ∧ dpk 4 x = true := by rcases hx with ⟨_, rfl⟩ | ⟨_, rfl⟩ | ⟨_, rfl⟩ <;> exact ⟨rfl, rfl⟩
    have f2 : ∀ y, NS y → tupf y = y ∧ dpk 4 y = true := by rintro y (rfl | ⟨_, rfl, _⟩) <;> exact ⟨rfl, rfl⟩
    exact ⟨by simp [tupf, tupfL, f1.1, (f2 y hy).1, (f2 z hz).1], by simp [dpk, dpkL, f1.2, (f2 y hy).2, (f2 z hz).2]⟩
theorem items_tupf : ∀ {l : List D}, (∀ d ∈ l, Item d) → tupfL l = l ∧ dpkL 5 l = true
  | [], _ => ⟨by simp [tupfL], by simp [dpkL]⟩
  | d :: l, h => by
    obtain ⟨h1, h2⟩ := item_tupf (h d List.mem_cons_self)
    obtain ⟨h3, h4⟩ := items_tupf fun x hx => h x (List.mem_cons_of_mem _ hx)
    exact ⟨by simp [tupfL, h1, h3], by simp [dpkL, h2, h4]⟩
theorem seq_tupf {v : D} (h : SeqOk v) : dpk 6 v = true ∧ (tupf v = .non ∨ ∃ l, tupf v = .tup l ∧ l.length ≤ 60 ∧ ∀ d ∈ l, Item d) := by
  rcases h with rfl | ⟨l, rfl | rfl, hl, hi⟩
  · exact ⟨rfl, .inl rfl⟩
  all_goals
    obtain ⟨h1, h2⟩ := items_tupf hi
    refine ⟨?_, .inr ⟨l, by simp [tupf, h1], hl, hi⟩⟩
    have : l.length ≤ 1000 := by omega
    simp [dpk, h2, this]
theorem trip_item {css : List (List Nat)} {dn : Nat} (hk : ∀ cs ∈ css, NmOk cs) {d : D} (h : Trip css dn d) : Item d := by
  obtain ⟨x, a, b, rfl, _, h1, h2⟩ := h
  exact .inr (.inr ⟨_, _, _, rfl, .inl ⟨_, rfl⟩, .inr ⟨a, rfl, nm_strOk (hk a h1)⟩, .inr ⟨b, rfl, nm_strOk (hk b h2)⟩⟩)
theorem ix_list {ds : List D} {r : Int} (h0 : 0 ≤ r) (h1 : r < ds.length) : ∃ d, d ∈ ds ∧ ixD (.lst ds) (.int r) = some d := by
  have hj : r.toNat < ds.length := by omega
  refine ⟨ds[r.toNat], List.getElem_mem hj, ?_⟩
  have := ix_l (ds := ds) (j := r.toNat) (List.getElem?_eq_getElem hj)
  rwa [Int.toNat_of_nonneg h0] at this
theorem pick_list {o : Ob} {ds : List D} {P : EV → Env' → Prop} {X : Exx} (ho : PenOk o) (hn : 0 < ds.length) (hz : ds.length ≤ 1000) (k : ∀ d ∈ ds, ∀ o' t, PenOk o' → P (.val d) (.io o' :: t)) : runF F__law_pick [.io o, .val (.lst ds)] P X :=
  spec_pick (n := (ds.length : Int)) ho rfl (by omega) (by omega) fun r h0 h1 => by
    obtain ⟨d, hd, e⟩ := ix_list h0 h1
    exact ⟨d, e, k d hd⟩
theorem st_ok {l : List Nat} (h : ∀ x ∈ l, x < 0x110000) : PyData.strOk (St l) = true := by
  show l.toArray.all (· < 0x110000) = true
  rw [Array.all_eq_true_iff_forall_mem]
  intro x hx
  exact decide_eq_true (h x (by simpa using hx))
theorem str_day {j : Nat} (h : j < 10) : ∃ c : List Nat, strOfD (nI j) = some (.str (St c)) ∧ PyData.strOk (St c) = true := by
  have : j = 0 ∨ j = 1 ∨ j = 2 ∨ j = 3 ∨ j = 4 ∨ j = 5 ∨ j = 6 ∨ j = 7 ∨ j = 8 ∨ j = 9 := by omega
  refine ⟨[48 + j], ?_, ?_⟩
  · rcases this with rfl | rfl | rfl | rfl | rfl | rfl | rfl | rfl | rfl | rfl <;> (unfold strOfD; dsimp only; rw [if_pos (by decide), Str.ofString_eq_toList]; rfl)
  · rcases this with rfl | rfl | rfl | rfl | rfl | rfl | rfl | rfl | rfl | rfl <;> exact st_ok (by decide)
theorem far_eq : ("far000001" : Str) = St [102, 97, 114, 48, 48, 48, 48, 48, 49] := by rw [Str.ofString_eq_toList]; rfl
theorem spec_bent {o : Ob} {css : List (List Nat)} {dss : List (List (Option Int))} {told : D} {P : EV → Env' → Prop} {X : Exx} (ho : PenOk o)
    (hn : css.Nodup) (h2 : 2 ≤ css.length) (h4 : css.length ≤ 4) (hk : ∀ cs ∈ css, NmOk cs) (hd : dss.length ≤ 6)
    (ht : (∃ ns : List Int, told = .tup (ns.map D.int)) ∨ ∃ l, told = .ins 0 [.tup l] ∧ l ≠ [] ∧ l.length ≤ 20 ∧ ∀ x ∈ l, Trip css (max 1 dss.length) x)
    (k : ∀ v o' t, Bent v → PenOk o' → P (.val v) (.io o' :: t)) :
    runF F__law_bent [.io o, .val (logT css dss), .val told] P X := by
  apply body_i
  apply seq_cut (Q := fun e => ∃ l o1, e = [.io o1, .val (logT css dss), .val told, .val (.tup l), .un, .un, .un, .un, .un, .un, .un, .un, .un] ∧ l ≠ [] ∧ l.length ≤ 20 ∧ (∀ x ∈ l, Trip css (max 1 dss.length) x) ∧ PenOk o1)
  · apply asg_c
    apply ite_c
    have hround : ∀ o1, PenOk o1 → (callF F__law_round 2 (consA FL (varF 0) (consA FL (kvF FL 1) nilA))).r [.io o1, .val (logT css dss), .val told, .un, .un, .un, .un, .un, .un, .un, .un, .un, .un] (fun e env1 => ∃ env2, putE 3 e env1 = some env2 ∧ ∃ l o1, env2 = [.io o1, .val (logT css dss), .val told, .val (.tup l), .un, .un, .un, .un, .un, .un, .un, .un, .un] ∧ l ≠ [] ∧ l.length ≤ 20 ∧ (∀ x ∈ l, Trip css (max 1 dss.length) x) ∧ PenOk o1) X0 := by
      intro o1 ho1
      apply call_i
      · walk_at "eva"
      · rfl
      · simp
      refine lround_seq1 ho1 hn h2 h4 hk hd fun l o' t hl2 hl4 hlx ho' => ?_
      exact ⟨rfl, _, rfl, _, rfl, l, o', rfl, by intro z; subst z; simp at hl2, by omega, hlx, ho'⟩
    rcases ht with ⟨ns, rfl⟩ | ⟨l, rfl, hl0, hl20, hlx⟩
    · apply andT_c
      refine (by walk_at "evt" : EvT (truF FL (unF FL (isiD ICS [(.c 0)]) (varF 2))) _ false _) _ _ ?_
      rw [if_neg Bool.false_ne_true, if_neg Bool.false_ne_true]
      exact hround o ho
    · apply andT_c
      refine (by walk_at "evt" : EvT (truF FL (unF FL (isiD ICS [(.c 0)]) (varF 2))) _ true _) _ _ ?_
      rw [if_pos rfl]
      apply bl_c
      apply bin_l
      apply call_i
      · walk_at "eva"
      · rfl
      · simp
      refine spec_draw ho (by decide) (by decide) fun r o1 t1 r0 r1 ho1 => ?_
      refine ⟨rfl, _, rfl, _, rfl, _, rfl, _, _, _, rfl, rfl, rfl, _, rfl, ?_⟩
      split
      · refine (by walk_at "ev" : Ev (unF FL (fldD FL ICS ("steps" : PySem.Str)) (varF 2)) _ _ _) _ _ ?_
        exact ⟨_, rfl, l, o1, rfl, hl0, hl20, hlx, ho1⟩
      · exact hround o1 ho1
  rintro _ ⟨l, o1, rfl, hl0, hl20, hlx, ho1⟩
  walk_at "n"
  have hli : ∀ d ∈ l, Item d := fun d hd => trip_item hk (hlx d hd)
  have hlp := List.length_pos_iff.mpr hl0
  walk_at "seq"
  apply asg_c
  apply call_i
  · walk_at "eva"
  · rfl
  · simp
  refine spec_draw ho1 (by omega) (by omega) fun a o2 t2 a0 a1 ho2 => ?_
  refine ⟨rfl, _, rfl, [.io o2, .val (logT css dss), .val told, .val (.tup l), .val (.int a), .un, .un, .un, .un, .un, .un, .un, .un], rfl, ?_⟩
  walk_at "n"
  obtain ⟨x, hx, hix⟩ := ix_list (ds := l) a0 a1
  have hix : ixD (.tup l) (.int a) = some x := hix
  obtain ⟨day, s1, s2, rfl, hday, hs1, hs2⟩ := hlx x hx
  have hs1 : PyData.strOk (St s1) = true := nm_strOk (hk _ hs1)
  have hs2 : PyData.strOk (St s2) = true := nm_strOk (hk _ hs2)
  walk_at "seq"
  apply pat_i
  · walk_at "ev"
  · rfl
  · rfl
  walk_at "n"
  obtain ⟨cd, hcd, hcd2⟩ := str_day (j := day) (by omega)
  walk_at "seq"
  apply asg_i
  · walk_at "ev"
  · rfl
  walk_at "n"
  apply seq_cut (Q := fun e => ∃ news, e = [.io o2, .val (logT css dss), .val told, .val (.tup l), .val (.int a), .val (nI day), .val (.str (St s1)), .val (.str (St s2)), .val (.lst news), .un, .un, .un, .un] ∧ 0 < news.length ∧ news.length ≤ 1000 ∧ ∀ d ∈ news, Item d)
  · apply asg_i
    · apply ev_bin
      · walk_at "ev"
      · rfl
      · walk_at "ev"
      · rfl
      · rfl
      · rfl
      · apply add_l; show 8 + 3 ≤ 1000; decide
    · rfl
    refine ⟨_, rfl, by simp, by simp, ?_⟩
    have hfar : PyData.strOk ("far000001" : PySem.Str) = true := by rw [far_eq]; exact st_ok (by decide)
    intro d hd
    simp only [List.cons_append, List.nil_append, List.mem_cons, List.not_mem_nil, or_false] at hd
    have n1 : NS (.str (St s1)) := .inr ⟨_, rfl, hs1⟩
    have n2 : NS (.str (St s2)) := .inr ⟨_, rfl, hs2⟩
    rcases hd with rfl | rfl | rfl | rfl | rfl | rfl | rfl | rfl | rfl | rfl | rfl
    · exact .inr (.inr ⟨_, _, _, rfl, .inl ⟨_, rfl⟩, n1, n2⟩)
    · exact .inr (.inr ⟨_, _, _, rfl, .inr (.inl ⟨_, rfl⟩), n1, n2⟩)
    · exact .inr (.inr ⟨_, _, _, rfl, .inl ⟨_, rfl⟩, n2, n1⟩)
    · exact .inr (.inr ⟨_, _, _, rfl, .inl ⟨_, rfl⟩, n1, n1⟩)
    · exact .inr (.inl ⟨_, _, rfl⟩)
    · exact .inl rfl
    · exact .inr (.inr ⟨_, _, _, rfl, .inl ⟨_, rfl⟩, n1, .inr ⟨_, by rw [far_eq], st_ok (by decide)⟩⟩)
    · exact .inr (.inr ⟨_, _, _, rfl, .inl ⟨_, rfl⟩, n1, n2⟩)
    · exact .inr (.inr ⟨_, _, _, rfl, .inl ⟨_, rfl⟩, n1, n2⟩)
    · exact .inr (.inr ⟨_, _, _, rfl, .inl ⟨_, rfl⟩, .inl rfl, n2⟩)
    · exact .inr (.inr ⟨_, _, _, rfl, .inr (.inr ⟨_, rfl⟩), n1, n2⟩)
  rintro _ ⟨news, rfl, hnp, hnz, hni⟩
  walk_at "n"
  have hcut : ∀ lo hi, (∀ d ∈ cutD l lo hi, Item d) ∧ (cutD l lo hi).length ≤ 20 := fun lo hi => ⟨fun d hd => hli d (cut_mem d hd), Nat.le_trans cut_len hl20⟩
  have happ : ∀ {A B : List D}, (∀ d ∈ A, Item d) → (∀ d ∈ B, Item d) → ∀ d ∈ A ++ B, Item d := fun hA hB d hd => (List.mem_append.mp hd).elim (hA d) (hB d)
  apply seq_cut (Q := fun e => ∃ some' o3, e = [.io o3, .val (logT css dss), .val told, .val (.tup l), .val (.int a), .val (nI day), .val (.str (St s1)), .val (.str (St s2)), .val (.lst news), .own (.lst some'), .un, .un, .un] ∧ some'.length = 6 ∧ (∀ d ∈ some', SeqOk d) ∧ PenOk o3)
  · apply asg_c
    apply lst_c
    apply consL_e
    · walk_at "ev"
    · rfl
    apply consL_e
    · apply ev_bin
      · walk_at "ev"
      · rfl
      · walk_at "ev"
      · rfl
      · rfl
      · rfl
      · exact add_t (by have := (hcut (some a) none).2; have := (hcut none (some a)).2; omega)
    · rfl
    apply consL_e
    · apply ev_bin
      · walk_at "ev"
      · rfl
      · walk_at "ev"
      · rfl
      · rfl
      · rfl
      · exact add_t (by omega)
    · rfl
    apply consL_e
    · walk_at "ev"
    · rfl
    apply consL_e
    · walk_at "ev"
    · rfl
    apply consL_c
    apply bin_l
    apply bin_r
    · walk_at "ev"
    · rfl
    apply tup_c
    apply consL_c
    apply call_i
    · walk_at "eva"
    · rfl
    · simp
    refine pick_list ho2 hnp hnz fun d hd o3 t3 ho3 => ?_
    refine ⟨rfl, _, rfl, _, rfl, ?_⟩
    apply nilL_c
    refine ⟨by simp, _, rfl, _, _, _, rfl, rfl, add_t (by have := (hcut none (some a)).2; simp; omega), _, rfl, ?_⟩
    refine (by walk_at "ev" : Ev (slF FL (varF 3) (someO (binF FL addD (varF 4) (litF (.int 1)))) noO) _ _ _) _ _ ?_
    refine ⟨_, rfl, _, _, _, rfl, rfl, add_t (by have := (hcut none (some a)).2; have := (hcut (some (a + 1)) none).2; simp; omega), _, rfl, ?_⟩
    apply nilL_c
    refine ⟨by simp, _, rfl, _, o3, rfl, rfl, ?_, ho3⟩
    intro v hv
    simp only [List.mem_cons, List.not_mem_nil, or_false] at hv
    have one : ∀ x ∈ [d], Item x := fun x hx => by rw [List.mem_singleton.mp hx]; exact hni d hd
    have c1 := hcut (some a) none
    have c2 := hcut none (some a)
    have c3 := hcut (some (a + 1)) none
    have c4 := hcut (some 1) none
    rcases hv with rfl | rfl | rfl | rfl | rfl | rfl
    · exact .inr ⟨_, .inl rfl, by omega, hli⟩
    · exact .inr ⟨_, .inl rfl, by rw [List.length_append]; omega, happ c1.1 c2.1⟩
    · exact .inr ⟨_, .inl rfl, by rw [List.length_append]; omega, happ hli hli⟩
    · exact .inr ⟨_, .inl rfl, by omega, c4.1⟩
    · exact .inr ⟨_, .inl rfl, by rw [List.length_reverse]; omega, fun d hd => hli d (List.mem_reverse.mp hd)⟩
    · exact .inr ⟨_, .inl rfl, by simp; omega, happ (happ c2.1 one) c3.1⟩
  rintro _ ⟨some', o3, rfl, hs6, hsok, ho3⟩
  walk_at "n"
  apply seq_cut (Q := fun e => ∃ some' o3, e = [.io o3, .val (logT css dss), .val told, .val (.tup l), .val (.int a), .val (nI day), .val (.str (St s1)), .val (.str (St s2)), .val (.lst news), .val (.lst some'), .un, .un, .un] ∧ some'.length = 11 ∧ (∀ d ∈ some', SeqOk d) ∧ PenOk o3)
  · apply asg_c
    apply bin_r
    · walk_at "ev"
    · rfl
    apply lst_c
    apply consL_c
    apply un_c
    apply lc_i
    · apply eva_seq
      · walk_at "ev"
      · rfl
      · rfl
    · rfl
    refine compL_inv _ (fun j acc e => acc.length = j ∧ (∀ d ∈ acc, Item d) ∧ e = [.io o3, .val (logT css dss), .val told, .val (.tup l), .val (.int a), .val (nI day), .val (.str (St s1)), .val (.str (St s2)), .val (.lst news), .own (.lst some'), .un, .un, .un]) ⟨rfl, (fun _ h => nomatch h), rfl⟩ ?_ ?_
    · rintro j d acc e hj ⟨hj2, hac, rfl⟩
      have hjl := (List.getElem?_eq_some_iff.mp hj).1
      rw [List.length_reverse] at hjl
      have hdl : d ∈ l := List.mem_reverse.mp (List.mem_of_getElem? hj)
      obtain ⟨dy, u, v, rfl, _, hu, hv⟩ := hlx d hdl
      refine ⟨_, by simp; rfl, ?_⟩
      apply yes_i
      refine (by walk_at "ev" : Ev (tupF (consL FL (kvF FL 10) (consL FL (kvF FL 12) (consL FL (kvF FL 11) nilL)))) _ _ _) _ _ ?_
      refine ⟨_, rfl, by omega, rfl, by simp [hj2], ?_, rfl⟩
      refine happ hac fun z hz => ?_
      rw [List.mem_singleton.mp hz]
      exact .inr (.inr ⟨_, _, _, rfl, .inl ⟨_, rfl⟩, .inr ⟨v, rfl, nm_strOk (hk _ hv)⟩, .inr ⟨u, rfl, nm_strOk (hk _ hu)⟩⟩)
    rintro acc e ⟨hal, hac, rfl⟩
    rw [List.length_reverse] at hal
    refine ⟨_, rfl, _, _, rfl, rfl, _, rfl, ?_⟩
    apply consL_e
    · walk_at "ev"
    · rfl
    apply consL_e
    · walk_at "ev"
    · rfl
    apply consL_e
    · walk_at "ev"
    · rfl
    apply consL_c
    apply bin_l
    apply bin_r
    · walk_at "ev"
    · rfl
    apply tup_c
    apply consL_c
    apply call_i
    · walk_at "eva"
    · rfl
    · simp
    refine pick_list ho3 hnp hnz fun d hd o4 t4 ho4 => ?_
    refine ⟨rfl, _, rfl, _, rfl, ?_⟩
    apply nilL_c
    refine ⟨by simp, _, rfl, _, _, _, rfl, rfl, add_t (by have := (hcut none (some a)).2; simp; omega), _, rfl, ?_⟩
    refine (by walk_at "ev" : Ev (slF FL (varF 3) (someO (binF FL addD (varF 4) (litF (.int 1)))) noO) _ _ _) _ _ ?_
    refine ⟨_, rfl, _, _, _, rfl, rfl, add_t (by have := (hcut none (some a)).2; have := (hcut (some (a + 1)) none).2; simp; omega), _, rfl, ?_⟩
    apply nilL_c
    refine ⟨by simp, _, rfl, _, _, _, rfl, rfl, add_l (by simp; omega), _, rfl, _, o4, rfl, by simp [hs6], ?_, ho4⟩
    intro v hv
    have one : ∀ x ∈ [d], Item x := fun x hx => by rw [List.mem_singleton.mp hx]; exact hni d hd
    have c2 := hcut none (some a)
    have c3 := hcut (some (a + 1)) none
    rcases List.mem_append.mp hv with hv | hv
    · exact hsok v hv
    simp only [List.mem_cons, List.not_mem_nil, or_false] at hv
    rcases hv with rfl | rfl | rfl | rfl | rfl
    · exact .inr ⟨_, .inl rfl, by omega, hac⟩
    · exact .inr ⟨_, .inl rfl, by simp, fun _ h => nomatch h⟩
    · exact .inl rfl
    · exact .inr ⟨_, .inr rfl, by omega, hli⟩
    · exact .inr ⟨_, .inl rfl, by simp; omega, happ (happ c2.1 one) c3.1⟩
  rintro _ ⟨some2, o4, rfl, hs11, hsok2, ho4⟩
  walk_at "n"
  apply ret_c
  apply call_c
  apply consA_e (ev_vari rfl) rfl
  apply consA_c
  apply lst_c
  have mk1 : ∀ (o4 : Ob) (s9 : En.Slot) (PL : List D → Env' → Prop) (l' : LF), PenOk o4 → (s9 = .val (.lst some2)) →
      (∀ v o5, Bent v → PenOk o5 → l'.r [.io o5, .val (logT css dss), .val told, .val (.tup l), .val (.int a), .val (nI day), .val (.str (St s1)), .val (.str (St s2)), .val (.lst news), .val (.lst some2), .un, .un, .un] (fun ds env => PL (v :: ds) env) X0) →
      (consL FL (mkF 0 F_Misalignedu_initu 2 (consA FL (callF F__law_pick 2 (consA FL (varF 0) (consA FL (kvF FL 9) nilA))) nilA)) l').r [.io o4, .val (logT css dss), .val told, .val (.tup l), .val (.int a), .val (nI day), .val (.str (St s1)), .val (.str (St s2)), .val (.lst news), s9, .un, .un, .un] PL X0 := by
    intro o4 s9 PL l' ho4 hs9 kk
    subst hs9
    apply consL_c
    apply mk_c
    apply consA_c
    apply call_i
    · apply eva_cons
      · exact ev_vari rfl
      · rfl
      apply eva_cons
      · exact ev_kv rfl
      · rfl
      exact eva_nil
    · rfl
    · simp
    refine pick_list ho4 (by omega) (by omega) fun d hd o5 t5 ho5 => ?_
    refine ⟨rfl, _, rfl, _, rfl, ?_⟩
    apply nilA_c
    obtain ⟨q1, q2⟩ := seq_tupf (hsok2 d hd)
    refine ⟨rfl, by simp, ?_⟩
    refine spec_mis q1 fun t => ?_
    refine ⟨rfl, _, _, rfl, _, rfl, _, rfl, ?_⟩
    exact kk (.ins 0 [tupf d]) o5 (.inr (.inr ⟨_, rfl, q2⟩)) ho5
  refine mk1 o4 _ _ _ ho4 rfl fun v1 o5 hv1 ho5 => ?_
  refine mk1 o5 _ _ _ ho5 rfl fun v2 o6 hv2 ho6 => ?_
  refine mk1 o6 _ _ _ ho6 rfl fun v3 o7 hv3 ho7 => ?_
  apply consL_e
  · walk_at "ev"
  · rfl
  apply consL_e
  · walk_at "ev"
  · rfl
  apply nilL_c
  refine ⟨by simp, _, rfl, ?_⟩
  apply nilA_c
  refine ⟨rfl, by simp, ?_⟩
  refine pick_list ho7 (by simp) (by simp) fun d hd o8 t8 ho8 => ?_
  refine ⟨rfl, _, rfl, _, rfl, k d o8 _ ?_ ho8⟩
  simp only [List.mem_cons, List.not_mem_nil, or_false] at hd
  rcases hd with rfl | rfl | rfl | rfl | rfl
  · exact hv1
  · exact hv2
  · exact hv3
  · exact .inr (.inl ⟨_, rfl⟩)
  · exact .inl rfl
end Lw
set_option Elab.async false
set_option linter.all false
set_option maxRecDepth 100000
set_option maxHeartbeats 4000000
namespace Lw
open PySem PySem.Spec L2 En
local macro_rules | `(tactic| walk_at "op") => `(tactic| first | assumption | rfl | (exact mod_ok (by first | decide | omega)) | (exact mul_r (by first | decide | omega) (by first | decide | omega)) | (exact mul_l (by first | decide | omega) (by first | decide | omega)) | (exact div_ok (by first | decide | omega) (by first | decide | omega)) | assumption)
local macro_rules | `(tactic| walk_at "ev") => `(tactic| first
  | exact ev_lit | exact ev_var rfl | exact ev_kv rfl | exact ev_varo rfl | exact ev_vari rfl | exact ev_kvo rfl rfl
  | (apply ev_bin; walk_at "ev"; rfl; walk_at "ev"; rfl; rfl; rfl; walk_at "op")
  | (apply ev_un; walk_at "ev"; rfl; rfl; walk_at "op")
  | (apply ev_unN; walk_at "ev"; rfl; rfl; walk_at "op")
  | (apply ev_tup; walk_at "evl"; (first | decide | simp))
  | (apply ev_lst; walk_at "evl"; (first | decide | simp))
  | exact ev_dK
  | (apply ev_not; walk_at "ev")
  | (apply ev_and; walk_at "ev"; (intro _; walk_at "ev")) | (apply ev_or; walk_at "ev"; (intro _; walk_at "ev"))
  | (apply ev_chain; walk_at "ev"; walk_at "ev"; rfl; walk_at "ev"; rfl)
  | (apply ev_sl; walk_at "ev"; rfl; walk_at "evo"; walk_at "evo"; rfl; walk_at "op"))
local macro_rules | `(tactic| walk_at "evo") => `(tactic| first | exact evo_no | (apply evo_some; walk_at "ev"))
local macro_rules | `(tactic| walk_at "evl") => `(tactic| first | exact evl_nil | (apply evl_cons; walk_at "ev"; rfl; walk_at "evl") | (apply eva_seq; walk_at "ev"; rfl; rfl) | (apply evl_enum; walk_at "ev"; rfl; rfl) | (apply evl_rng; walk_at "ev"; omega))
local macro_rules | `(tactic| walk_at "eva") => `(tactic| first | exact eva_nil | (apply eva_cons; walk_at "ev"; rfl; walk_at "eva"))
local macro_rules | `(tactic| walk_at "evp") => `(tactic| first | exact evp_nil | (apply evp_cons; walk_at "ev"; rfl; walk_at "evp"))
local macro_rules | `(tactic| walk_at "evt") => `(tactic| first
  | (apply evt_bl; walk_at "ev") | (apply evt_tru; walk_at "ev"; rfl; rfl; walk_at "op") | (apply evt_not; walk_at "evt")
  | (apply evt_and; walk_at "evt"; (intro _; walk_at "evt")) | (apply evt_or; walk_at "evt"; (intro _; walk_at "evt")))
local macro_rules | `(tactic| walk_at "seq") => `(tactic| ((try simp only [skipS_r]); apply seq_i))
local macro_rules | `(tactic| walk_at "asg") => `(tactic| ((try simp only [skipS_r]); apply asg_i; walk_at "ev"; rfl))
local macro_rules | `(tactic| walk_at "if") => `(tactic| ((try simp only [skipS_r]); apply if_i; walk_at "evt"))
local macro_rules | `(tactic| walk_at "ret") => `(tactic| ((try simp only [skipS_r]); apply ret_i; walk_at "ev"))
local macro_rules | `(tactic| walk_at "n") => `(tactic| (try simp only [skipS_r]))
theorem idx_bl {b : Bool} {n : D} {P : EV → Env' → Prop} {X : Exx} (k : ∀ t, P (.val (.bl false)) t) : runF F_is_index [.val (.bl b), .val n] P X := by
  apply body_i
  apply ret_c
  have hc : Ev (callF F_is_whole 1 (consA FL (kvF FL 0) nilA)) [.val (.bl b), .val n] (.val (.bl false)) [.val (.bl b), .val n] := by
    apply ev_call
    · walk_at "eva"
    · rfl
    · simp
    · rfl
    · rfl
    · intro P X hP
      exact whole_bl hP
  apply and_i hc
  · intro h; cases h
  · intro _; exact ⟨_, rfl, k _⟩
theorem idx_str {s : PySem.Str} {n : D} {P : EV → Env' → Prop} {X : Exx} (k : ∀ t, P (.val (.bl false)) t) : runF F_is_index [.val (.str s), .val n] P X := by
  apply body_i
  apply ret_c
  have hc : Ev (callF F_is_whole 1 (consA FL (kvF FL 0) nilA)) [.val (.str s), .val n] (.val (.bl false)) [.val (.str s), .val n] := by
    apply ev_call
    · walk_at "eva"
    · rfl
    · simp
    · rfl
    · rfl
    · intro P X hP
      exact whole_str hP
  apply and_i hc
  · intro h; cases h
  · intro _; exact ⟨_, rfl, k _⟩
theorem ev_inEv {css : List (List Nat)} {dss : List (List (Option Int))} {env : Env'} {y : D} (hy : NS y) (h0 : env[0]? = some (.val (.ins 1 (logD css dss)))) (h2 : env[2]? = some (.val y)) :
    Ev (andF (unF FL (isiD ICS [(.b .str)]) (varF 2)) (binF FL inD (varF 2) (unF FL (fldD FL ICS ("events" : PySem.Str)) (varF 0)))) env (.val (.bl (inEv css y))) env := by
  have hfe := @fld_events css dss
  rcases hy with rfl | ⟨c, rfl, _⟩
  · refine (ev_and (b := false) (b2 := true) ?_ (fun h => nomatch h) : Ev _ _ _ _)
    exact ev_un (ev_var h2) rfl rfl rfl
  · refine (ev_and (b := true) (b2 := (plc css (.str (St c))).isSome) ?_ fun _ => ?_ : Ev _ _ _ _)
    · exact ev_un (ev_var h2) rfl rfl rfl
    · exact ev_bin (ev_var h2) rfl (ev_un (ev_var h0) rfl rfl hfe) rfl rfl rfl in_plc
def seenAt (css : List (List Nat)) (ts : List (Option Int)) (d : D) : Bool := match plc css d with
  | some k => (tmA ts k).isSome
  | none => false
theorem isnot_tm (x : Option Int) : isNotD (tmD x) .non = some (.bl x.isSome) := by cases x <;> rfl
theorem is_tm (x : Option Int) : isD (tmD x) .non = some (.bl (!x.isSome)) := by cases x <;> rfl
theorem ix_day {css : List (List Nat)} {dss : List (List (Option Int))} {i : Int} (h0 : 0 ≤ i) (h1 : i < dss.length) : ixD (.tup (dss.map dayD)) (.int i) = some (dayD (dss.getD i.toNat [])) := by
  have hj : i.toNat < dss.length := by omega
  have := ix_t (ds := dss.map dayD) (j := i.toNat) (d := dayD (dss.getD i.toNat [])) (by rw [List.getElem?_map, List.getD_eq_getElem?_getD, List.getElem?_eq_getElem hj]; rfl)
  rwa [Int.toNat_of_nonneg h0] at this
theorem day_len {css : List (List Nat)} {dss : List (List (Option Int))} (hd : ∀ ts ∈ dss, ts.length = css.length) {i : Int} (h0 : 0 ≤ i) (h1 : i < dss.length) : (dss.getD i.toNat []).length = css.length := by
  have hj : i.toNat < dss.length := by omega
  rw [List.getD_eq_getElem?_getD, List.getElem?_eq_getElem hj]
  exact hd _ (List.getElem_mem hj)
theorem stepV_in {css : List (List Nat)} {dss : List (List (Option Int))} {i : Int} {y z : D} (h : 0 ≤ i ∧ i < dss.length) : stepV css dss (.tup [.int i, y, z]) = match plc css y, plc css z with
    | some a, some b => if a = b then none else match tmA (dss.getD i.toNat []) a, tmA (dss.getD i.toNat []) b with
      | some u, some v => some (v - u)
      | _, _ => none
    | _, _ => none := by
  show (if 0 ≤ i ∧ i < dss.length then _ else none) = _
  exact if_pos h
theorem stepV_out {css : List (List Nat)} {dss : List (List (Option Int))} {i : Int} {y z : D} (h : ¬ (0 ≤ i ∧ i < dss.length)) : stepV css dss (.tup [.int i, y, z]) = none := by
  show (if 0 ≤ i ∧ i < dss.length then _ else none) = _
  rw [if_neg h]
theorem spec_step {css : List (List Nat)} {dss : List (List (Option Int))} {d : D} {P : EV → Env' → Prop} {X : Exx} (hi : Item d) (hd : ∀ ts ∈ dss, ts.length = css.length)
    (k : ∀ t, P (.val (.bl (stepV css dss d).isSome)) t) : runF F_is_log_step [.val (.ins 1 (logD css dss)), .val d] P X := by
  have hfd := @fld_days css dss
  have hfe := @fld_events css dss
  apply body_i
  walk_at "seq"
  apply if_c
  rcases hi with rfl | ⟨i, s, rfl⟩ | ⟨x, y, z, rfl, hx, hy, hz⟩
  · apply orT_i
    · walk_at "evt"
    · intro _
      rw [if_pos rfl]
      walk_at "ret"
      exact ⟨_, rfl, k _⟩
    · intro h; cases h
  · apply orT_i
    · walk_at "evt"
    · intro h; cases h
    intro _
    apply orT_i
    · walk_at "evt"
    · intro _
      rw [if_pos rfl]
      walk_at "ret"
      exact ⟨_, rfl, k _⟩
    · intro h
      have h : (!eqB (.int 2) (.int 3)) = false := h
      rw [eqB_int] at h; simp at h
  apply orT_i
  · walk_at "evt"
  · intro h; cases h
  intro _
  apply orT_i
  · walk_at "evt"
  · intro h
    have h : (!eqB (.int 3) (.int 3)) = true := h
    rw [eqB_int] at h; simp at h
  intro _
  apply not_c
  apply tru_c
  rcases hx with ⟨i, rfl⟩ | ⟨b, rfl⟩ | ⟨s, rfl⟩
  rotate_left
  · apply call_i
    · walk_at "eva"
    · rfl
    · simp
    refine idx_bl fun t => ?_
    refine ⟨rfl, _, rfl, _, rfl, _, _, rfl, rfl, ?_⟩
    rw [if_pos (by decide)]
    walk_at "ret"
    exact ⟨_, rfl, k _⟩
  · apply call_i
    · walk_at "eva"
    · rfl
    · simp
    refine idx_str fun t => ?_
    refine ⟨rfl, _, rfl, _, rfl, _, _, rfl, rfl, ?_⟩
    rw [if_pos (by decide)]
    walk_at "ret"
    exact ⟨_, rfl, k _⟩
  apply call_i
  · walk_at "eva"
  · rfl
  · simp
  refine index_int (n := (dss.map dayD).length) fun t => ?_
  refine ⟨rfl, _, rfl, _, rfl, _, _, rfl, rfl, ?_⟩
  rw [List.length_map]
  by_cases hin : 0 ≤ i ∧ i < dss.length
  rotate_left
  · have e : (decide (0 ≤ i) && decide (i < (dss.length : Int))) = false := by simpa using hin
    rw [e, if_pos (by decide)]
    walk_at "ret"
    have e2 : stepV css dss (.tup [.int i, y, z]) = none := stepV_out hin
    rw [e2] at k
    exact ⟨_, rfl, k _⟩
  have e : (decide (0 ≤ i) && decide (i < (dss.length : Int))) = true := by simpa using hin
  rw [e, if_neg (by decide)]
  walk_at "seq"
  have hsl : slD (.tup [.int i, y, z]) (some 1) none = some (.tup [y, z]) := by
    show some (D.tup (cutD [.int i, y, z] (some 1) none)) = _
    rw [cut3]
  obtain ⟨be, he, _, hbe⟩ := ns_eq hy hz
  apply if_i (b := !(inEv css y && inEv css z) || be)
  · apply evt_or
    · apply evt_not
      apply evt_tru
      · apply ev_un
        · apply ev_lc (g := fun d => .bl (inEv css d))
          · apply eva_seq
            · walk_at "ev"
            · rfl
            · rfl
          · rfl
          · simp
          · rfl
          · intro d hd
            have hd : NS d := by
              simp only [List.mem_cons, List.not_mem_nil, or_false] at hd
              rcases hd with rfl | rfl
              · exact hy
              · exact hz
            exact ⟨[.val (.ins 1 (logD css dss)), .val (.tup [.int i, y, z]), .val d, .un], _, by simp, ev_inEv (css := css) (dss := dss) hd rfl rfl, rfl, rfl, rfl⟩
        · rfl
        · rfl
        · exact all_bls
      · rfl
      · rfl
      · show some (inEv css y && (inEv css z && true)) = _
        rw [Bool.and_true]
    · intro _
      walk_at "evt"
  · intro hb
    walk_at "ret"
    have e2 : stepV css dss (.tup [.int i, y, z]) = none := by
      rw [stepV_in hin]
      cases hpy : plc css y with
      | none => rfl
      | some a =>
        cases hpz : plc css z with
        | none => rfl
        | some b =>
          have e1 : inEv css y = true := by unfold inEv; rw [hpy]; rfl
          have e2 : inEv css z = true := by unfold inEv; rw [hpz]; rfl
          rw [e1, e2] at hb
          have hbt : be = true := by simpa using hb
          have := hbe.mp hbt
          subst this
          rw [hpy] at hpz; cases hpz
          dsimp only
          rw [if_pos rfl]
    rw [e2] at k
    exact ⟨_, rfl, k _⟩
  intro hb
  have hb1 : (inEv css y = true ∧ inEv css z = true) ∧ be = false := by
    cases h1 : inEv css y <;> cases h2 : inEv css z <;> cases be <;> simp [h1, h2] at hb ⊢
  obtain ⟨⟨e1, e2⟩, hbf⟩ := hb1
  obtain ⟨a, ha⟩ := Option.isSome_iff_exists.mp e1
  obtain ⟨b, hb'⟩ := Option.isSome_iff_exists.mp e2
  have hne : a ≠ b := by
    intro z'
    rcases hy with rfl | ⟨c, rfl, _⟩
    · cases ha
    rcases hz with rfl | ⟨c', rfl, _⟩
    · cases hb'
    have : be = true := hbe.mpr (by rw [(plc_eq ha hb').mp z'])
    rw [hbf] at this; cases this
  have hal := plc_lt ha
  have hbl := plc_lt hb'
  have hdl := day_len hd hin.1 hin.2
  have hday := ix_day (css := css) hin.1 hin.2
  walk_at "n"
  walk_at "seq"
  walk_at "asg"
  walk_at "n"
  generalize hts : dss.getD i.toNat [] = ts at *
  apply ret_c
  have hres : Ev (unF FL allD (lcF FL (seqI FL (slF FL (varF 1) (someO (litF (.int 1))) noO)) (.nm 2) yesT (binF FL isNotD (binF FL ixD (varF 3) (idxF FL (unF FL (fldD FL ICS ("events" : PySem.Str)) (varF 0)) (varF 2))) (litF .non)) [2])) [.val (.ins 1 (logD css dss)), .val (.tup [.int i, y, z]), .un, .val (dayD ts)]
      (.val (.bl ([y, z].all (seenAt css ts)))) [.val (.ins 1 (logD css dss)), .val (.tup [.int i, y, z]), .un, .val (dayD ts)] := by
    apply ev_un
    · apply ev_lc (g := fun d => .bl (seenAt css ts d))
      · apply eva_seq
        · walk_at "ev"
        · rfl
        · rfl
      · rfl
      · simp
      · rfl
      · intro d hd
        have hd : ∃ q, plc css d = some q := by
          simp only [List.mem_cons, List.not_mem_nil, or_false] at hd
          rcases hd with rfl | rfl
          · exact ⟨a, ha⟩
          · exact ⟨b, hb'⟩
        obtain ⟨q, hq⟩ := hd
        have hql := plc_lt hq
        have hix := idx_plc hq
        have hget := tm_get (ts := ts) (k := q) (by omega)
        have hn := isnot_tm (tmA ts q)
        have e : seenAt css ts d = (tmA ts q).isSome := by unfold seenAt; rw [hq]
        rw [e]
        refine ⟨[.val (.ins 1 (logD css dss)), .val (.tup [.int i, y, z]), .val d, .val (dayD ts)], .val (.bl (tmA ts q).isSome), by simp, ?_, rfl, rfl, rfl⟩
        apply ev_bin
        · apply ev_bin
          · walk_at "ev"
          · rfl
          · apply ev_idx
            · walk_at "ev"
            · rfl
            · walk_at "ev"
            · rfl
            · rfl
            · exact hix
            · exact .inl ⟨_, rfl⟩
          · rfl
          · rfl
          · rfl
          · exact hget
        · rfl
        · walk_at "ev"
        · rfl
        · rfl
        · rfl
        · exact hn
    · rfl
    · rfl
    · exact all_bls
  refine hres _ _ ⟨_, rfl, ?_⟩
  have e3 : [y, z].all (seenAt css ts) = (stepV css dss (.tup [.int i, y, z])).isSome := by
    have s1 : seenAt css ts y = (tmA ts a).isSome := by unfold seenAt; rw [ha]
    have s2 : seenAt css ts z = (tmA ts b).isSome := by unfold seenAt; rw [hb']
    rw [stepV_in hin, ha, hb']
    dsimp only
    rw [if_neg hne, hts]
    simp only [List.all_cons, List.all_nil, s1, s2]
    cases tmA ts a <;> cases tmA ts b <;> rfl
  rw [e3]
  exact k _
end Lw
set_option Elab.async false
set_option linter.all false
set_option maxRecDepth 100000
set_option maxHeartbeats 4000000
namespace Lw
open PySem PySem.Spec L2 En
local macro_rules | `(tactic| walk_at "op") => `(tactic| first | assumption | rfl | (exact mod_ok (by first | decide | omega)) | (exact mul_r (by first | decide | omega) (by first | decide | omega)) | (exact mul_l (by first | decide | omega) (by first | decide | omega)) | (exact div_ok (by first | decide | omega) (by first | decide | omega)) | assumption)
local macro_rules | `(tactic| walk_at "ev") => `(tactic| first
  | exact ev_lit | exact ev_var rfl | exact ev_kv rfl | exact ev_varo rfl | exact ev_vari rfl | exact ev_kvo rfl rfl
  | (apply ev_bin; walk_at "ev"; rfl; walk_at "ev"; rfl; rfl; rfl; walk_at "op")
  | (apply ev_un; walk_at "ev"; rfl; rfl; walk_at "op")
  | (apply ev_unN; walk_at "ev"; rfl; rfl; walk_at "op")
  | (apply ev_tup; walk_at "evl"; (first | decide | simp))
  | (apply ev_lst; walk_at "evl"; (first | decide | simp))
  | exact ev_dK
  | (apply ev_not; walk_at "ev")
  | (apply ev_and; walk_at "ev"; (intro _; walk_at "ev")) | (apply ev_or; walk_at "ev"; (intro _; walk_at "ev"))
  | (apply ev_chain; walk_at "ev"; walk_at "ev"; rfl; walk_at "ev"; rfl)
  | (apply ev_sl; walk_at "ev"; rfl; walk_at "evo"; walk_at "evo"; rfl; walk_at "op"))
local macro_rules | `(tactic| walk_at "evo") => `(tactic| first | exact evo_no | (apply evo_some; walk_at "ev"))
local macro_rules | `(tactic| walk_at "evl") => `(tactic| first | exact evl_nil | (apply evl_cons; walk_at "ev"; rfl; walk_at "evl") | (apply eva_seq; walk_at "ev"; rfl; rfl) | (apply evl_enum; walk_at "ev"; rfl; rfl) | (apply evl_rng; walk_at "ev"; omega))
local macro_rules | `(tactic| walk_at "eva") => `(tactic| first | exact eva_nil | (apply eva_cons; walk_at "ev"; rfl; walk_at "eva"))
local macro_rules | `(tactic| walk_at "evp") => `(tactic| first | exact evp_nil | (apply evp_cons; walk_at "ev"; rfl; walk_at "evp"))
local macro_rules | `(tactic| walk_at "evt") => `(tactic| first
  | (apply evt_bl; walk_at "ev") | (apply evt_tru; walk_at "ev"; rfl; rfl; walk_at "op") | (apply evt_not; walk_at "evt")
  | (apply evt_and; walk_at "evt"; (intro _; walk_at "evt")) | (apply evt_or; walk_at "evt"; (intro _; walk_at "evt")))
local macro_rules | `(tactic| walk_at "seq") => `(tactic| ((try simp only [skipS_r]); apply seq_i))
local macro_rules | `(tactic| walk_at "asg") => `(tactic| ((try simp only [skipS_r]); apply asg_i; walk_at "ev"; rfl))
local macro_rules | `(tactic| walk_at "if") => `(tactic| ((try simp only [skipS_r]); apply if_i; walk_at "evt"))
local macro_rules | `(tactic| walk_at "ret") => `(tactic| ((try simp only [skipS_r]); apply ret_i; walk_at "ev"))
local macro_rules | `(tactic| walk_at "n") => `(tactic| (try simp only [skipS_r]))
/-! what the judge says -/
def sec : D → D
  | .tup [_, y, _] => y
  | _ => .non
def thd : D → D
  | .tup [_, _, z] => z
  | _ => .non
/-- the step ahead does not lead here -/
def brk (l : List D) : D → Bool
  | .int j => !eqB (thd ((atI l (j - 1)).getD .non)) (sec ((atI l j).getD .non))
  | _ => false
def okS (css : List (List Nat)) (dss : List (List (Option Int))) (d : D) : Bool := (stepV css dss d).isSome
def totS (css : List (List Nat)) (dss : List (List (Option Int))) (l : List D) : Int := (l.map fun d => (stepV css dss d).getD 0).sum
def judgeL (css : List (List Nat)) (dss : List (List (Option Int))) (p : Int) (l : List D) : Bool :=
  decide (2 ≤ l.length) && (l.all (okS css dss) && (!((intsD 0 l.length).any (brk l)) && !decide (totS css dss l % p = 0)))
def judge (css : List (List Nat)) (dss : List (List (Option Int))) (p : Int) : D → Bool
  | .ins 0 [.tup l] => judgeL css dss p l
  | _ => false
structure StepIs (css : List (List Nat)) (dss : List (List (Option Int))) (d : D) (i : Int) (y z : List Nat) (a b : Nat) (u v : Int) : Prop where
  e : d = .tup [.int i, .str (St y), .str (St z)]
  i0 : 0 ≤ i
  i1 : i < dss.length
  ha : plc css (.str (St y)) = some a
  hb : plc css (.str (St z)) = some b
  hne : a ≠ b
  hu : tmA (dss.getD i.toNat []) a = some u
  hv : tmA (dss.getD i.toNat []) b = some v
  s : stepV css dss d = some (v - u)
theorem step_is {css : List (List Nat)} {dss : List (List (Option Int))} {d : D} (hi : Item d) (h : okS css dss d = true) : ∃ i y z a b u v, StepIs css dss d i y z a b u v := by
  unfold okS at h
  rcases hi with rfl | ⟨i, s, rfl⟩ | ⟨x, y, z, rfl, hx, hy, hz⟩
  · cases h
  · cases h
  rcases hx with ⟨i, rfl⟩ | ⟨b, rfl⟩ | ⟨s, rfl⟩
  rotate_left
  · cases h
  · cases h
  by_cases hin : 0 ≤ i ∧ i < dss.length
  rotate_left
  · rw [stepV_out hin] at h; cases h
  have hs := stepV_in (css := css) (y := y) (z := z) hin
  rw [hs] at h
  cases ha : plc css y with
  | none => rw [ha] at h; cases h
  | some a =>
    cases hb : plc css z with
    | none => rw [ha, hb] at h; cases h
    | some b =>
      rw [ha, hb] at h hs
      dsimp only at h hs
      by_cases hab : a = b
      · rw [if_pos hab] at h; cases h
      rw [if_neg hab] at h hs
      cases hu : tmA (dss.getD i.toNat []) a with
      | none => rw [hu] at h; cases h
      | some u =>
        cases hv : tmA (dss.getD i.toNat []) b with
        | none => rw [hu, hv] at h; cases h
        | some v =>
          rw [hu, hv] at hs
          rcases hy with rfl | ⟨y', rfl, _⟩
          · cases ha
          rcases hz with rfl | ⟨z', rfl, _⟩
          · cases hb
          exact ⟨i, y', z', a, b, u, v, rfl, hin.1, hin.2, ha, hb, hab, hu, hv, hs⟩
theorem at_some {l : List D} {j : Int} (h0 : 0 ≤ j) (h1 : j < l.length) : ∃ d, d ∈ l ∧ atI l j = some d := ix_list h0 h1
theorem at_prev {l : List D} {j : Int} (h0 : 0 ≤ j) (h1 : j < l.length) : ∃ d, d ∈ l ∧ atI l (j - 1) = some d := by
  by_cases h : j = 0
  · subst h
    have hne : l ≠ [] := by intro z; subst z; simp at h1
    exact ⟨l.getLast hne, List.getLast_mem hne, ix_back (List.getLast?_eq_some_getLast hne)⟩
  · exact at_some (by omega) (by omega)
theorem ints_mem {n : Nat} {d : D} (h : d ∈ intsD 0 n) : ∃ j : Int, d = .int j ∧ 0 ≤ j ∧ j < n := by
  obtain ⟨k, hk⟩ := List.mem_iff_getElem?.mp h
  obtain ⟨h1, rfl⟩ := intsD_get hk
  exact ⟨_, rfl, by omega, by omega⟩
theorem ne_brk {css : List (List Nat)} {dss : List (List (Option Int))} {l : List D} (hi : ∀ d ∈ l, Item d) (ha : l.all (okS css dss) = true) {j : Int} (h0 : 0 ≤ j) (h1 : j < l.length) :
    ∃ p q y z, atI l (j - 1) = some p ∧ atI l j = some q ∧ ixD p (.int 2) = some y ∧ ixD q (.int 1) = some z ∧ neD y z = some (.bl (brk l (.int j))) := by
  obtain ⟨p, hp, e1⟩ := at_prev h0 h1
  obtain ⟨q, hq, e2⟩ := at_some h0 h1
  have hall := List.all_eq_true.mp ha
  obtain ⟨i, y, z, a, b, u, v, s⟩ := step_is (hi p hp) (hall p hp)
  obtain ⟨i', y', z', a', b', u', v', s'⟩ := step_is (hi q hq) (hall q hq)
  refine ⟨p, q, .str (St z), .str (St y'), e1, e2, by rw [s.e]; rfl, by rw [s'.e]; rfl, ?_⟩
  show some (D.bl (!eqB _ _)) = some (D.bl (!eqB (thd ((atI l (j - 1)).getD .non)) (sec ((atI l j).getD .non))))
  rw [e1, e2, s.e, s'.e]; rfl
theorem ne_int (i j : Int) : neD (.int i) (.int j) = some (.bl (!decide (i = j))) := by
  show some (D.bl (!eqB (.int i) (.int j))) = _
  rw [eqB_int]
theorem tot_snoc {css : List (List Nat)} {dss : List (List (Option Int))} {l : List D} {j : Nat} {d : D} {x : Int} (h : l[j]? = some d) (hs : stepV css dss d = some x) : totS css dss (l.take (j + 1)) = totS css dss (l.take j) + x := by
  unfold totS
  rw [List.take_add_one, h]
  simp [hs]
theorem spec_holds {css : List (List Nat)} {dss : List (List (Option Int))} {p : Int} {v : D} {P : EV → Env' → Prop} {X : Exx} (hv : Bent v) (hd : ∀ ts ∈ dss, ts.length = css.length) (hp1 : 2 ≤ p) (hp2 : p ≤ 1440)
    (k : ∀ t, P (.val (.bl (judge css dss p v))) t) : runF F_misaligned_holds [.val (.ins 1 (logD css dss)), .val (.int p), .val v] P X := by
  have hfd := @fld_days css dss
  have hfe := @fld_events css dss
  apply body_i
  walk_at "seq"
  apply drop_c
  apply call_i
  · walk_at "eva"
  · rfl
  · simp
  refine spec_need hp1 hp2 fun t => ?_
  refine ⟨rfl, _, rfl, ?_⟩
  walk_at "seq"
  apply if_c
  rcases hv with rfl | ⟨l, rfl⟩ | ⟨x, rfl, hx⟩
  · apply orT_i
    · walk_at "evt"
    · intro _
      rw [if_pos rfl]
      walk_at "ret"
      exact ⟨_, rfl, k _⟩
    · intro h; cases h
  · apply orT_i
    · walk_at "evt"
    · intro _
      rw [if_pos rfl]
      walk_at "ret"
      exact ⟨_, rfl, k _⟩
    · intro h; cases h
  apply orT_i
  · walk_at "evt"
  · intro h; cases h
  intro _
  rcases hx with rfl | ⟨l, rfl, hl60, hi⟩
  · apply orT_i
    · walk_at "evt"
    · intro _
      rw [if_pos rfl]
      walk_at "ret"
      exact ⟨_, rfl, k _⟩
    · intro h; cases h
  apply orT_i
  · walk_at "evt"
  · intro h; cases h
  intro _
  refine (by walk_at "evt" : EvT (blF FL (binF FL ltD (unF FL lenD (unF FL (fldD FL ICS ("steps" : PySem.Str)) (varF 2))) (litF (.int 2)))) _ _ _) _ _ ?_
  have k : ∀ t, P (.val (.bl (judgeL css dss p l))) t := k
  by_cases h2 : 2 ≤ l.length
  rotate_left
  · rw [if_pos (by simp; omega)]
    walk_at "ret"
    have e : judgeL css dss p l = false := by unfold judgeL; rw [decide_eq_false h2]; rfl
    rw [e] at k
    exact ⟨_, rfl, k _⟩
  rw [if_neg (by simp; omega)]
  walk_at "n"
  have hlc : Ev (unF FL allD (lcF FL (seqI FL (unF FL (fldD FL ICS ("steps" : PySem.Str)) (varF 2))) (.nm 3) yesT (callF F_is_log_step 2 (consA FL (kvF FL 0) (consA FL (kvF FL 3) nilA))) [3])) [.val (.ins 1 (logD css dss)), .val (.int p), .val (.ins 0 [.tup l]), .un, .un, .un, .un, .un, .un, .un] (.val (.bl (l.all (okS css dss)))) [.val (.ins 1 (logD css dss)), .val (.int p), .val (.ins 0 [.tup l]), .un, .un, .un, .un, .un, .un, .un] := by
    apply ev_un
    · apply ev_lc (g := fun d => .bl (okS css dss d))
      · apply eva_seq
        · walk_at "ev"
        · rfl
        · rfl
      · rfl
      · omega
      · rfl
      · intro d hdl
        refine ⟨[.val (.ins 1 (logD css dss)), .val (.int p), .val (.ins 0 [.tup l]), .val d, .un, .un, .un, .un, .un, .un], .val (.bl (okS css dss d)), by simp, ?_, rfl, rfl, rfl⟩
        apply ev_call
        · walk_at "eva"
        · rfl
        · simp
        · rfl
        · rfl
        · intro P X hP
          exact spec_step (hi d hdl) hd hP
    · rfl
    · rfl
    · exact all_bls
  walk_at "seq"
  apply if_i
  · apply evt_not
    exact evt_tru hlc rfl rfl rfl
  · intro hb
    have hb : l.all (okS css dss) = false := by simpa using hb
    walk_at "ret"
    have e : judgeL css dss p l = false := by unfold judgeL; rw [hb]; simp
    rw [e] at k
    exact ⟨_, rfl, k _⟩
  intro hb
  have hall : l.all (okS css dss) = true := by simpa using hb
  walk_at "n"
  have hany : Ev (unF FL anyD (lcF FL (rngI (unF FL lenD (unF FL (fldD FL ICS ("steps" : PySem.Str)) (varF 2)))) (.nm 4) yesT (binF FL neD (binF FL ixD (binF FL ixD (unF FL (fldD FL ICS ("steps" : PySem.Str)) (varF 2)) (binF FL subD (varF 4) (litF (.int 1)))) (litF (.int 2))) (binF FL ixD (binF FL ixD (unF FL (fldD FL ICS ("steps" : PySem.Str)) (varF 2)) (varF 4)) (litF (.int 1)))) [4])) [.val (.ins 1 (logD css dss)), .val (.int p), .val (.ins 0 [.tup l]), .un, .un, .un, .un, .un, .un, .un] (.val (.bl ((intsD 0 l.length).any (brk l)))) [.val (.ins 1 (logD css dss)), .val (.int p), .val (.ins 0 [.tup l]), .un, .un, .un, .un, .un, .un, .un] := by
    apply ev_un
    · apply ev_lc (g := fun d => .bl (brk l d)) (ds := intsD 0 l.length)
      · apply evl_rngN
        · walk_at "ev"
        · omega
      · rfl
      · rw [intsD_len]; omega
      · rfl
      · intro d hdl
        obtain ⟨j, rfl, j0, j1⟩ := ints_mem hdl
        obtain ⟨pp, qq, y, z, g1, g2, g3, g4, g5⟩ := ne_brk hi hall j0 j1
        have g1 : ixD (.tup l) (.int (j - 1)) = some pp := g1
        have g2 : ixD (.tup l) (.int j) = some qq := g2
        refine ⟨[.val (.ins 1 (logD css dss)), .val (.int p), .val (.ins 0 [.tup l]), .un, .val (.int j), .un, .un, .un, .un, .un], .val (.bl (brk l (.int j))), by simp, ?_, rfl, rfl, rfl⟩
        walk_at "ev"
    · rfl
    · rfl
    · exact any_bls
  walk_at "seq"
  apply if_i
  · exact evt_tru hany rfl rfl rfl
  · intro hb
    walk_at "ret"
    have e : judgeL css dss p l = false := by unfold judgeL; rw [hb]; simp
    rw [e] at k
    exact ⟨_, rfl, k _⟩
  intro hnb
  walk_at "seq"
  walk_at "asg"
  walk_at "n"
  apply seq_cut (Q := fun e => ∃ (a b c d : En.Slot), e = [.val (.ins 1 (logD css dss)), .val (.int p), .val (.ins 0 [.tup l]), .un, .un, .val (.int (totS css dss l)), a, b, c, d])
  · apply for_i
    · apply eva_seq
      · walk_at "ev"
      · rfl
      · rfl
    refine forL_inv _ (fun j e => ∃ (a b c d : En.Slot), e = [.val (.ins 1 (logD css dss)), .val (.int p), .val (.ins 0 [.tup l]), .un, .un, .val (.int (totS css dss (l.take j))), a, b, c, d] ∧ a.isIo = false ∧ b.isIo = false ∧ c.isIo = false ∧ d.isIo = false) ⟨_, _, _, _, rfl, rfl, rfl, rfl, rfl⟩ ?_ ?_
    · rintro j d e hj ⟨c6, c7, c8, c9, rfl, h6, h7, h8, h9⟩
      have hdl := List.mem_of_getElem? hj
      obtain ⟨i, y, z, a, b, u, v, s⟩ := step_is (hi d hdl) (List.all_eq_true.mp hall d hdl)
      have hday := ix_day (css := css) s.i0 s.i1
      have hdl2 := day_len hd s.i0 s.i1
      have al := plc_lt s.ha
      have bl := plc_lt s.hb
      have ga := tm_get (ts := dss.getD i.toNat []) (k := a) (by omega)
      have gb := tm_get (ts := dss.getD i.toNat []) (k := b) (by omega)
      rw [s.hu] at ga
      rw [s.hv] at gb
      have ia := idx_plc s.ha
      have ib := idx_plc s.hb
      have hsn := tot_snoc hj s.s
      rw [s.e]
      refine ⟨[.val (.ins 1 (logD css dss)), .val (.int p), .val (.ins 0 [.tup l]), .un, .un, .val (.int (totS css dss (l.take j))), .val (.int i), .val (.str (St y)), .val (.str (St z)), c9], by simp [h6, h7, h8], ?_⟩
      walk_at "seq"
      apply asg_i (env2 := [.val (.ins 1 (logD css dss)), .val (.int p), .val (.ins 0 [.tup l]), .un, .un, .val (.int (totS css dss (l.take j))), .val (.int i), .val (.str (St y)), .val (.str (St z)), .val (dayD (dss.getD i.toNat []))])
      · walk_at "ev"
      · simp [h9]
      walk_at "n"
      generalize dss.getD i.toNat [] = ts at *
      have hidx : ∀ (n : Nat) (w : List Nat) (q : Nat) (cc : Int) (e : Env'), e[0]? = some (.val (.ins 1 (logD css dss))) → e[n]? = some (.val (.str (St w))) → e[9]? = some (.val (dayD ts)) → plc css (.str (St w)) = some q → ixD (dayD ts) (nI q) = some (tmD (some cc)) →
          Ev (binF FL ixD (varF 9) (idxF FL (unF FL (fldD FL ICS ("events" : PySem.Str)) (varF 0)) (varF n))) e (.val (.int cc)) e := by
        intro n w q cc e h0 hn h9 hq hg
        apply ev_bin
        · exact ev_var h9
        · rfl
        · apply ev_idx
          · exact ev_un (ev_var h0) rfl rfl hfe
          · rfl
          · exact ev_var hn
          · rfl
          · rfl
          · exact idx_plc hq
          · exact .inl ⟨_, rfl⟩
        · rfl
        · rfl
        · rfl
        · exact hg
      apply asg_i
      · apply ev_bin
        · apply ev_bin
          · walk_at "ev"
          · rfl
          · exact hidx 8 z b v _ rfl rfl rfl s.hb gb
          · rfl
          · rfl
          · rfl
          · rfl
        · rfl
        · exact hidx 7 y a u _ rfl rfl rfl s.ha ga
        · rfl
        · rfl
        · rfl
        · rfl
      · rfl
      refine ⟨.val (.int i), .val (.str (St y)), .val (.str (St z)), .val (dayD ts), ?_, rfl, rfl, rfl, rfl⟩
      rw [hsn, show totS css dss (l.take j) + (v - u) = totS css dss (l.take j) + v - u from by omega]
      rfl
    · rintro e ⟨c6, c7, c8, c9, rfl, h6, h7, h8, h9⟩
      rw [List.take_length]
      exact ⟨_, _, _, _, rfl⟩
  rintro _ ⟨c6, c7, c8, c9, rfl⟩
  have hne := ne_int (totS css dss l % p) 0
  apply ret_i
  · apply ev_bin
    · walk_at "ev"
    · rfl
    · walk_at "ev"
    · rfl
    · rfl
    · rfl
    · exact hne
  have e : judgeL css dss p l = !decide (totS css dss l % p = 0) := by
    unfold judgeL
    rw [hall, hnb, decide_eq_true h2]; simp
  rw [e] at k
  exact ⟨_, rfl, k _⟩
end Lw
set_option Elab.async false
set_option linter.all false
set_option maxRecDepth 100000
set_option maxHeartbeats 4000000
namespace Lw
open PySem PySem.Spec L2 En
local macro_rules | `(tactic| walk_at "op") => `(tactic| first | assumption | rfl | (exact mod_ok (by first | decide | omega)) | (exact mul_r (by first | decide | omega) (by first | decide | omega)) | (exact mul_l (by first | decide | omega) (by first | decide | omega)) | (exact div_ok (by first | decide | omega) (by first | decide | omega)) | assumption)
local macro_rules | `(tactic| walk_at "ev") => `(tactic| first
  | exact ev_lit | exact ev_var rfl | exact ev_kv rfl | exact ev_varo rfl | exact ev_vari rfl | exact ev_kvo rfl rfl
  | (apply ev_bin; walk_at "ev"; rfl; walk_at "ev"; rfl; rfl; rfl; walk_at "op")
  | (apply ev_un; walk_at "ev"; rfl; rfl; walk_at "op")
  | (apply ev_unN; walk_at "ev"; rfl; rfl; walk_at "op")
  | (apply ev_tup; walk_at "evl"; (first | decide | simp))
  | (apply ev_lst; walk_at "evl"; (first | decide | simp))
  | exact ev_dK
  | (apply ev_not; walk_at "ev")
  | (apply ev_and; walk_at "ev"; (intro _; walk_at "ev")) | (apply ev_or; walk_at "ev"; (intro _; walk_at "ev"))
  | (apply ev_chain; walk_at "ev"; walk_at "ev"; rfl; walk_at "ev"; rfl)
  | (apply ev_sl; walk_at "ev"; rfl; walk_at "evo"; walk_at "evo"; rfl; walk_at "op"))
local macro_rules | `(tactic| walk_at "evo") => `(tactic| first | exact evo_no | (apply evo_some; walk_at "ev"))
local macro_rules | `(tactic| walk_at "evl") => `(tactic| first | exact evl_nil | (apply evl_cons; walk_at "ev"; rfl; walk_at "evl") | (apply eva_seq; walk_at "ev"; rfl; rfl) | (apply evl_enum; walk_at "ev"; rfl; rfl) | (apply evl_rng; walk_at "ev"; omega))
local macro_rules | `(tactic| walk_at "eva") => `(tactic| first | exact eva_nil | (apply eva_cons; walk_at "ev"; rfl; walk_at "eva"))
local macro_rules | `(tactic| walk_at "evp") => `(tactic| first | exact evp_nil | (apply evp_cons; walk_at "ev"; rfl; walk_at "evp"))
local macro_rules | `(tactic| walk_at "evt") => `(tactic| first
  | (apply evt_bl; walk_at "ev") | (apply evt_tru; walk_at "ev"; rfl; rfl; walk_at "op") | (apply evt_not; walk_at "evt")
  | (apply evt_and; walk_at "evt"; (intro _; walk_at "evt")) | (apply evt_or; walk_at "evt"; (intro _; walk_at "evt")))
local macro_rules | `(tactic| walk_at "seq") => `(tactic| ((try simp only [skipS_r]); apply seq_i))
local macro_rules | `(tactic| walk_at "asg") => `(tactic| ((try simp only [skipS_r]); apply asg_i; walk_at "ev"; rfl))
local macro_rules | `(tactic| walk_at "if") => `(tactic| ((try simp only [skipS_r]); apply if_i; walk_at "evt"))
local macro_rules | `(tactic| walk_at "ret") => `(tactic| ((try simp only [skipS_r]); apply ret_i; walk_at "ev"))
local macro_rules | `(tactic| walk_at "n") => `(tactic| (try simp only [skipS_r]))
theorem okL_of {n : Nat} : ∀ {L : List D}, (∀ d ∈ L, okN d n = true) → okL L n = true
  | [], _ => by simp [okL]
  | d :: L, h => by simp [okL, h d List.mem_cons_self, okL_of fun x hx => h x (List.mem_cons_of_mem _ hx)]
theorem ne_nilL {L : List D} (h : ∀ d ∈ L, okN d 59 = true) : neD (.lst L) (.lst []) = some (.bl (!L.isEmpty)) := by
  have h1 : okN (.lst L) 60 = true := by
    show okL L 59 = true
    exact okL_of h
  have h2 : okN (.lst []) 60 = true := rfl
  have h3 : eqOk (.lst L) (.lst []) = true := by
    unfold eqOk; rw [h1, h2]; simp
  show (if eqOk (.lst L) (.lst []) then some (D.bl (!eqB (.lst L) (.lst []))) else none) = _
  rw [if_pos h3]
  cases L with
  | nil => rfl
  | cons c es => simp [eqB, D.py, D.pyL, PyData.eqv, PyData.eqvAll]
theorem ns_ok {d : D} (h : NS d) {n : Nat} : okN d n = true := by
  rcases h with rfl | ⟨c, rfl, h⟩
  · cases n <;> rfl
  · cases n <;> exact h
theorem evt_notin {css : List (List Nat)} {dss : List (List (Option Int))} {env : Env'} {y : D} (hy : NS y) (h0 : env[0]? = some (.val (logT css dss))) (h2 : env[5]? = some (.val y)) :
    EvT (orT (notT (truF FL (unF FL (isiD ICS [(.b .str)]) (varF 5)))) (blF FL (binF FL notInD (varF 5) (binF FL ixD (varF 0) (litF (.int 0)))))) env (!inEv css y) env := by
  rcases hy with rfl | ⟨c, rfl, _⟩
  · refine (evt_or (b := true) (b2 := true) ?_ (fun h => nomatch h) : EvT _ _ _ _)
    exact evt_not (b := false) (evt_tru (ev_un (ev_var h2) rfl rfl rfl) rfl rfl rfl)
  · refine (evt_or (b := false) (b2 := !(plc css (.str (St c))).isSome) ?_ fun _ => ?_ : EvT _ _ _ _)
    · exact evt_not (b := true) (evt_tru (ev_un (ev_var h2) rfl rfl rfl) rfl rfl rfl)
    · exact evt_bl (ev_bin (ev_var h2) rfl (ev_bin (ev_var h0) rfl ev_lit rfl rfl rfl rfl) rfl rfl rfl notin_plc)
def tmG (css : List (List Nat)) (ts : List (Option Int)) (d : D) : D := match plc css d with
  | some k => tmD (tmA ts k)
  | none => .non
theorem spec_right {css : List (List Nat)} {dss : List (List (Option Int))} {p : Int} {v : D} {P : EV → Env' → Prop} {X : Exx} (hv : Bent v) (hd : ∀ ts ∈ dss, ts.length = css.length) (hp1 : 2 ≤ p)
    (k : ∀ t, P (.val (.bl (judge css dss p v))) t) : runF F__law_misaligned_right [.val (logT css dss), .val (.int p), .val v] P X := by
  apply body_i
  walk_at "seq"
  apply if_c
  rcases hv with rfl | ⟨l, rfl⟩ | ⟨x, rfl, hx⟩
  · apply orT_i
    · walk_at "evt"
    · intro _
      rw [if_pos rfl]
      walk_at "ret"
      exact ⟨_, rfl, k _⟩
    · intro h; cases h
  · apply orT_i
    · walk_at "evt"
    · intro _
      rw [if_pos rfl]
      walk_at "ret"
      exact ⟨_, rfl, k _⟩
    · intro h; cases h
  apply orT_i
  · walk_at "evt"
  · intro h; cases h
  intro _
  rcases hx with rfl | ⟨l, rfl, hl60, hi⟩
  · apply orT_i
    · walk_at "evt"
    · intro _
      rw [if_pos rfl]
      walk_at "ret"
      exact ⟨_, rfl, k _⟩
    · intro h; cases h
  apply orT_i
  · walk_at "evt"
  · intro h; cases h
  intro _
  refine (by walk_at "evt" : EvT (blF FL (binF FL ltD (unF FL lenD (unF FL (fldD FL ICS ("steps" : PySem.Str)) (varF 2))) (litF (.int 2)))) _ _ _) _ _ ?_
  have k : ∀ t, P (.val (.bl (judgeL css dss p l))) t := k
  by_cases h2 : 2 ≤ l.length
  rotate_left
  · rw [if_pos (by simp; omega)]
    walk_at "ret"
    have e : judgeL css dss p l = false := by unfold judgeL; rw [decide_eq_false h2]; rfl
    rw [e] at k
    exact ⟨_, rfl, k _⟩
  rw [if_neg (by simp; omega)]
  walk_at "seq"
  walk_at "asg"
  walk_at "n"
  apply seq_cut (Q := fun e => ∃ (a b c : En.Slot), e = [.val (logT css dss), .val (.int p), .val (.ins 0 [.tup l]), .val (.int (totS css dss l)), a, .un, b, c, .un] ∧ l.all (okS css dss) = true)
  · apply for_i
    · apply eva_seq
      · walk_at "ev"
      · rfl
      · rfl
    refine forL_inv _ (fun j e => ∃ (a b c : En.Slot), e = [.val (logT css dss), .val (.int p), .val (.ins 0 [.tup l]), .val (.int (totS css dss (l.take j))), a, .un, b, c, .un] ∧ (l.take j).all (okS css dss) = true ∧ a.isIo = false ∧ b.isIo = false ∧ c.isIo = false) ⟨_, _, _, rfl, by simp, rfl, rfl, rfl⟩ ?_ ?_
    · rintro j d e hj ⟨c4, c6, c7, rfl, hall, h4, h6, h7⟩
      have hdl := List.mem_of_getElem? hj
      have hbad : okS css dss d = false → ∀ t, P (.val (.bl false)) t := fun hb t => by
        have e : l.all (okS css dss) = false := List.all_eq_false.mpr ⟨d, hdl, by rw [hb]; exact Bool.false_ne_true⟩
        have e : judgeL css dss p l = false := by unfold judgeL; rw [e]; simp
        rw [e] at k; exact k t
      refine ⟨[.val (logT css dss), .val (.int p), .val (.ins 0 [.tup l]), .val (.int (totS css dss (l.take j))), .val d, .un, c6, c7, .un], by simp [h4], ?_⟩
      have hid := hi d hdl
      walk_at "seq"
      apply if_c
      rcases hi d hdl with rfl | ⟨i, s, rfl⟩ | ⟨x, y, z, rfl, hx, hy, hz⟩
      · apply orT_i
        · walk_at "evt"
        · intro _
          rw [if_pos rfl]
          walk_at "ret"
          exact ⟨_, rfl, hbad rfl _⟩
        · intro h; cases h
      · apply orT_i
        · walk_at "evt"
        · intro h; cases h
        intro _
        apply orT_i
        · walk_at "evt"
        · intro _
          rw [if_pos rfl]
          walk_at "ret"
          exact ⟨_, rfl, hbad rfl _⟩
        · intro h
          have h : (!eqB (.int 2) (.int 3)) = false := h
          rw [eqB_int] at h; simp at h
      apply orT_i
      · walk_at "evt"
      · intro h; cases h
      intro _
      apply orT_i
      · walk_at "evt"
      · intro h
        have h : (!eqB (.int 3) (.int 3)) = true := h
        rw [eqB_int] at h; simp at h
      intro _
      have hx0 : ixD (.tup [x, y, z]) (.int 0) = some x := rfl
      rcases hx with ⟨i, rfl⟩ | ⟨b, rfl⟩ | ⟨s, rfl⟩
      rotate_left
      · apply orT_i
        · walk_at "evt"
        · intro _
          rw [if_pos rfl]
          walk_at "ret"
          exact ⟨_, rfl, hbad rfl _⟩
        · intro h; cases h
      · apply orT_i
        · walk_at "evt"
        · intro h; cases h
        intro _
        refine (evt_not (b := false) (by walk_at "evt") : EvT _ _ _ _) _ _ ?_
        rw [if_pos (by decide)]
        walk_at "ret"
        exact ⟨_, rfl, hbad rfl _⟩
      apply orT_i
      · walk_at "evt"
      · intro h; cases h
      intro _
      refine (evt_not (b := true) (by walk_at "evt") : EvT _ _ _ _) _ _ ?_
      rw [if_neg (by decide)]
      walk_at "n"
      obtain ⟨be, he, _, hbe⟩ := ns_eq hy hz
      have hstep : okS css dss (.tup [.int i, y, z]) = true → ∃ y' z' a b u v, y = .str (St y') ∧ z = .str (St z') ∧ StepIs css dss (.tup [.int i, y, z]) i y' z' a b u v := fun ho => by
        obtain ⟨i', y', z', a, b, u, v, s⟩ := step_is hid ho
        have e := s.e
        simp at e
        obtain ⟨e1, e2, e3⟩ := e
        exact ⟨y', z', a, b, u, v, e2, e3, e1 ▸ s⟩
      walk_at "seq"
      apply if_i (b := !(decide (0 ≤ i) && decide (i < ((dss.map dayD).length : Int))) || be)
      · walk_at "evt"
      · intro hb
        walk_at "ret"
        refine ⟨_, rfl, hbad ?_ _⟩
        cases ho : okS css dss (.tup [.int i, y, z]) with
        | false => rfl
        | true =>
          obtain ⟨y', z', a, b, u, v, rfl, rfl, s⟩ := hstep ho
          have i0 := s.i0
          have i1 := s.i1
          rw [List.length_map, decide_eq_true i0, decide_eq_true i1] at hb
          have hbt : be = true := by simpa using hb
          have := hbe.mp hbt
          have e : y' = z' := by
            injection this with this
            have := congrArg (fun s => s.cps.toList) this
            simpa using this
          exact absurd ((plc_eq s.ha s.hb).mpr e) s.hne
      intro hb
      have hb : (0 ≤ i ∧ i < (dss.length : Int)) ∧ be = false := by
        rw [List.length_map] at hb
        simpa using hb
      obtain ⟨⟨i0, i1⟩, hbf⟩ := hb
      walk_at "n"
      have hsl : slD (.tup [.int i, y, z]) (some 1) none = some (.tup [y, z]) := by
        show some (D.tup (cutD [.int i, y, z] (some 1) none)) = _
        rw [cut3]
      have hns : ∀ d ∈ [y, z], NS d := fun d hd => by
        simp only [List.mem_cons, List.not_mem_nil, or_false] at hd
        rcases hd with rfl | rfl
        · exact hy
        · exact hz
      walk_at "seq"
      apply if_i
      · apply evt_bl
        apply ev_bin
        · apply ev_lcq (q := fun d => !inEv css d) (g := fun d => d)
          · apply eva_seq
            · walk_at "ev"
            · rfl
            · rfl
          · rfl
          · simp
          · rfl
          · intro d hd
            exact ⟨[.val (logT css dss), .val (.int p), .val (.ins 0 [.tup l]), .val (.int (totS css dss (l.take j))), .val (.tup [.int i, y, z]), .val d, c6, c7, .un], .val d, by simp, evt_notin (css := css) (dss := dss) (hns d hd) rfl rfl, fun _ => ⟨ev_kv rfl, rfl⟩, rfl, rfl⟩
        · rfl
        · walk_at "ev"
        · rfl
        · rfl
        · rfl
        · exact ne_nilL fun d hd => by
            obtain ⟨d', hd', rfl⟩ := List.mem_map.mp hd
            exact ns_ok (hns _ (List.mem_filter.mp hd').1)
      · intro hb
        walk_at "ret"
        refine ⟨_, rfl, hbad ?_ _⟩
        cases ho : okS css dss (.tup [.int i, y, z]) with
        | false => rfl
        | true =>
          obtain ⟨y', z', a, b, u, v, rfl, rfl, s⟩ := hstep ho
          have ea : inEv css (.str (St y')) = true := by unfold inEv; rw [s.ha]; rfl
          have eb : inEv css (.str (St z')) = true := by unfold inEv; rw [s.hb]; rfl
          simp [ea, eb] at hb
      intro hb
      have hin : inEv css y = true ∧ inEv css z = true := by
        cases e1 : inEv css y <;> cases e2 : inEv css z <;> simp [e1, e2] at hb ⊢
      obtain ⟨a, ha⟩ := Option.isSome_iff_exists.mp hin.1
      obtain ⟨b, hb'⟩ := Option.isSome_iff_exists.mp hin.2
      have hal := plc_lt ha
      have hbl := plc_lt hb'
      have hdl2 := day_len hd i0 i1
      have hday := ix_day (css := css) i0 i1
      generalize hts : dss.getD i.toNat [] = ts at *
      walk_at "n"
      walk_at "seq"
      apply pat_i (env2 := [.val (logT css dss), .val (.int p), .val (.ins 0 [.tup l]), .val (.int (totS css dss (l.take j))), .val (.tup [.int i, y, z]), .un, .val (tmG css ts y), .val (tmG css ts z), .un])
      · apply ev_lc (g := tmG css ts)
        · apply eva_seq
          · walk_at "ev"
          · rfl
          · rfl
        · rfl
        · simp
        · rfl
        · intro d hd
          have hd : ∃ q, plc css d = some q := by
            simp only [List.mem_cons, List.not_mem_nil, or_false] at hd
            rcases hd with rfl | rfl
            · exact ⟨a, ha⟩
            · exact ⟨b, hb'⟩
          obtain ⟨q, hq⟩ := hd
          have hql := plc_lt hq
          have hix := idx_plc hq
          have hget := tm_get (ts := ts) (k := q) (by omega)
          have e : tmG css ts d = tmD (tmA ts q) := by unfold tmG; rw [hq]
          rw [e]
          refine ⟨[.val (logT css dss), .val (.int p), .val (.ins 0 [.tup l]), .val (.int (totS css dss (l.take j))), .val (.tup [.int i, y, z]), .val d, c6, c7, .un], .val (tmD (tmA ts q)), by simp, ?_, rfl, rfl, rfl⟩
          apply ev_bin
          · walk_at "ev"
          · rfl
          · apply ev_idx
            · walk_at "ev"
            · rfl
            · walk_at "ev"
            · rfl
            · rfl
            · exact hix
            · exact .inl ⟨_, rfl⟩
          · rfl
          · rfl
          · rfl
          · exact hget
      · rfl
      · simp [h6, h7]
      have ga : tmG css ts y = tmD (tmA ts a) := by unfold tmG; rw [ha]
      have gb : tmG css ts z = tmD (tmA ts b) := by unfold tmG; rw [hb']
      rw [ga, gb]
      have na := is_tm (tmA ts a)
      have nb := is_tm (tmA ts b)
      walk_at "seq"
      walk_at "if"
      · intro hq
        walk_at "ret"
        refine ⟨_, rfl, hbad ?_ _⟩
        cases ho : okS css dss (.tup [.int i, y, z]) with
        | false => rfl
        | true =>
          obtain ⟨y', z', a', b', u, v, rfl, rfl, s⟩ := hstep ho
          have h1 := s.ha
          have h2 := s.hb
          have h3 := s.hu
          have h4 := s.hv
          rw [ha] at h1; cases h1
          rw [hb'] at h2; cases h2
          rw [hts] at h3 h4
          rw [h3, h4] at hq
          simp at hq
      intro hq
      walk_at "n"
      have hs : ∃ u v, tmA ts a = some u ∧ tmA ts b = some v := by
        cases e1 : tmA ts a with
        | none => rw [e1] at hq; simp at hq
        | some u =>
          cases e2 : tmA ts b with
          | none => rw [e1, e2] at hq; simp at hq
          | some v => exact ⟨u, v, rfl, rfl⟩
      obtain ⟨u, v, hu, hv⟩ := hs
      rw [hu, hv]
      have hne : a ≠ b := by
        intro z'
        rcases hy with rfl | ⟨c, rfl, _⟩
        · cases ha
        rcases hz with rfl | ⟨c', rfl, _⟩
        · cases hb'
        have : be = true := hbe.mpr (by rw [(plc_eq ha hb').mp z'])
        rw [hbf] at this; cases this
      have hsv : stepV css dss (.tup [.int i, y, z]) = some (v - u) := by
        rw [stepV_in ⟨i0, i1⟩, ha, hb']
        dsimp only
        rw [if_neg hne, hts, hu, hv]
      have hsn := tot_snoc hj hsv
      apply asg_i
      · walk_at "ev"
      · rfl
      refine ⟨.val (.tup [.int i, y, z]), .val (tmD (some u)), .val (tmD (some v)), ?_, ?_, rfl, rfl, rfl⟩
      · rw [hsn, show totS css dss (l.take j) + (v - u) = totS css dss (l.take j) + v - u from by omega]
        rfl
      · rw [List.take_add_one, hj]
        simp [hall, okS, hsv]
    · rintro e ⟨c4, c6, c7, rfl, hall, h4, h6, h7⟩
      rw [List.take_length] at hall ⊢
      exact ⟨_, _, _, rfl, hall⟩
  rintro _ ⟨c4, c6, c7, rfl, hall⟩
  walk_at "n"
  walk_at "seq"
  apply if_i
  · apply evt_bl
    apply ev_bin
    · apply ev_lcq (q := brk l) (g := fun d => d) (ds := intsD 0 l.length)
      · apply evl_rngN
        · walk_at "ev"
        · omega
      · rfl
      · rw [intsD_len]; omega
      · rfl
      · intro d hdl
        obtain ⟨j, rfl, j0, j1⟩ := ints_mem hdl
        obtain ⟨pp, qq, y, z, g1, g2, g3, g4, g5⟩ := ne_brk hi hall j0 j1
        have g1 : ixD (.tup l) (.int (j - 1)) = some pp := g1
        have g2 : ixD (.tup l) (.int j) = some qq := g2
        refine ⟨[.val (logT css dss), .val (.int p), .val (.ins 0 [.tup l]), .val (.int (totS css dss l)), c4, .un, c6, c7, .val (.int j)], .val (.int j), by simp, ?_, fun _ => ⟨ev_kv rfl, rfl⟩, rfl, rfl⟩
        walk_at "evt"
    · rfl
    · walk_at "ev"
    · rfl
    · rfl
    · rfl
    · exact ne_nilL fun d hd => by
        obtain ⟨d', hd', rfl⟩ := List.mem_map.mp hd
        obtain ⟨j, rfl, _⟩ := ints_mem (List.mem_filter.mp hd').1
        rfl
  · intro hb
    walk_at "ret"
    have e : (intsD 0 l.length).any (brk l) = true := by
      cases hz : (intsD 0 l.length).any (brk l) with
      | true => rfl
      | false =>
        have : (intsD 0 l.length).filter (brk l) = [] := List.filter_eq_nil_iff.mpr fun d hd => by
          have := List.any_eq_false.mp hz d hd
          exact this
        rw [this] at hb; simp at hb
    have e : judgeL css dss p l = false := by unfold judgeL; rw [e]; simp
    rw [e] at k
    exact ⟨_, rfl, k _⟩
  intro hb
  have hnb : (intsD 0 l.length).any (brk l) = false := by
    rw [List.any_eq_false]
    intro d hd hq
    have : d ∈ (intsD 0 l.length).filter (brk l) := List.mem_filter.mpr ⟨hd, hq⟩
    cases hz : (intsD 0 l.length).filter (brk l) with
    | nil => rw [hz] at this; cases this
    | cons a b => rw [hz] at hb; simp at hb
  walk_at "n"
  have hne := ne_int (totS css dss l % p) 0
  apply ret_i
  · apply ev_bin
    · walk_at "ev"
    · rfl
    · walk_at "ev"
    · rfl
    · rfl
    · rfl
    · exact hne
  have e : judgeL css dss p l = !decide (totS css dss l % p = 0) := by
    unfold judgeL
    rw [hall, hnb, decide_eq_true h2]; simp
  rw [e] at k
  exact ⟨_, rfl, k _⟩
end Lw
set_option Elab.async false
set_option linter.all false
set_option maxRecDepth 100000
set_option maxHeartbeats 4000000
namespace Lw
open PySem PySem.Spec L2 En
local macro_rules | `(tactic| walk_at "op") => `(tactic| first | assumption | rfl | (exact mod_ok (by first | decide | omega)) | (exact mul_r (by first | decide | omega) (by first | decide | omega)) | (exact mul_l (by first | decide | omega) (by first | decide | omega)) | (exact div_ok (by first | decide | omega) (by first | decide | omega)) | assumption)
local macro_rules | `(tactic| walk_at "ev") => `(tactic| first
  | exact ev_lit | exact ev_var rfl | exact ev_kv rfl | exact ev_varo rfl | exact ev_vari rfl | exact ev_kvo rfl rfl
  | (apply ev_bin; walk_at "ev"; rfl; walk_at "ev"; rfl; rfl; rfl; walk_at "op")
  | (apply ev_un; walk_at "ev"; rfl; rfl; walk_at "op")
  | (apply ev_unN; walk_at "ev"; rfl; rfl; walk_at "op")
  | (apply ev_tup; walk_at "evl"; (first | decide | simp))
  | (apply ev_lst; walk_at "evl"; (first | decide | simp))
  | exact ev_dK
  | (apply ev_not; walk_at "ev")
  | (apply ev_and; walk_at "ev"; (intro _; walk_at "ev")) | (apply ev_or; walk_at "ev"; (intro _; walk_at "ev"))
  | (apply ev_chain; walk_at "ev"; walk_at "ev"; rfl; walk_at "ev"; rfl)
  | (apply ev_sl; walk_at "ev"; rfl; walk_at "evo"; walk_at "evo"; rfl; walk_at "op"))
local macro_rules | `(tactic| walk_at "evo") => `(tactic| first | exact evo_no | (apply evo_some; walk_at "ev"))
local macro_rules | `(tactic| walk_at "evl") => `(tactic| first | exact evl_nil | (apply evl_cons; walk_at "ev"; rfl; walk_at "evl") | (apply eva_seq; walk_at "ev"; rfl; rfl) | (apply evl_enum; walk_at "ev"; rfl; rfl) | (apply evl_rng; walk_at "ev"; omega))
local macro_rules | `(tactic| walk_at "eva") => `(tactic| first | exact eva_nil | (apply eva_cons; walk_at "ev"; rfl; walk_at "eva"))
local macro_rules | `(tactic| walk_at "evp") => `(tactic| first | exact evp_nil | (apply evp_cons; walk_at "ev"; rfl; walk_at "evp"))
local macro_rules | `(tactic| walk_at "evt") => `(tactic| first
  | (apply evt_bl; walk_at "ev") | (apply evt_tru; walk_at "ev"; rfl; rfl; walk_at "op") | (apply evt_not; walk_at "evt")
  | (apply evt_and; walk_at "evt"; (intro _; walk_at "evt")) | (apply evt_or; walk_at "evt"; (intro _; walk_at "evt")))
local macro_rules | `(tactic| walk_at "seq") => `(tactic| ((try simp only [skipS_r]); apply seq_i))
local macro_rules | `(tactic| walk_at "asg") => `(tactic| ((try simp only [skipS_r]); apply asg_i; walk_at "ev"; rfl))
local macro_rules | `(tactic| walk_at "if") => `(tactic| ((try simp only [skipS_r]); apply if_i; walk_at "evt"))
local macro_rules | `(tactic| walk_at "ret") => `(tactic| ((try simp only [skipS_r]); apply ret_i; walk_at "ev"))
local macro_rules | `(tactic| walk_at "n") => `(tactic| (try simp only [skipS_r]))
theorem ev_kvS {F : Nat → List PySem.Str} {env : Env'} {i : Nat} {t : D} {s : En.Slot} (h : env[i]? = some s) (hs : s = .val t ∨ ∃ ob, s = .own ob ∧ ob.fr F = some t) : Ev (kvF F i) env (.val t) (env.set i (.val t)) := by
  rcases hs with rfl | ⟨ob, rfl, hf⟩
  · have : env.set i (.val t) = env := by
      apply List.ext_getElem?
      intro j
      by_cases hj : i = j
      · subst hj
        rw [h, List.getElem?_set_self (List.getElem?_eq_some_iff.mp h).1]
      · rw [List.getElem?_set_ne hj]
    rw [this]; exact ev_kv h
  · exact ev_kvo h hf
theorem ab_eq : ("a" : PySem.Str) = St [97] ∧ ("b" : PySem.Str) = St [98] := by
  refine ⟨?_, ?_⟩ <;> (rw [Str.ofString_eq_toList]; rfl)
theorem cmp_c {F : Nat → List PySem.Str} {FS f f2 : EF} {ics : List Nat} {c : Nat} {env : Env'} {P : EV → Env' → Prop} {X : Exx} (h : f.r env (fun e env1 => ∃ d1, e.keep F = some d1 ∧ (∃ ds, d1 = .ins c ds) ∧ f2.r env1 (fun e2 env2 => ∃ d2, e2.keep F = some d2 ∧ (tqD ics d2).isSome = true ∧ runF FS [.val d1, .val d2] (fun e3 _ => ∃ b, e3 = .val (.bl b) ∧ P (.val (.bl b)) env2) X) X) X) : (cmpF F ics c FS f f2).r env P X := h
theorem andF_c {f g : EF} {env : Env'} {P : EV → Env' → Prop} {X : Exx} (h : f.r env (fun e env1 => ∃ b, e = .val (.bl b) ∧ if b = true then g.r env1 P X else P (.val (.bl false)) env1) X) : (andF f g).r env P X := h
theorem notF_c {f : EF} {env : Env'} {P : EV → Env' → Prop} {X : Exx} (h : f.r env (fun e env1 => ∃ b, e = .val (.bl b) ∧ P (.val (.bl (!b))) env1) X) : (notF f).r env P X := h
theorem spec_meq {x y : D} {b : Bool} {P : EV → Env' → Prop} {X : Exx} (h : eqD x y = some (.bl b)) (k : ∀ t, P (.val (.bl b)) t) : runF F_Misalignedu_equ [.val (.ins 0 [x]), .val (.ins 0 [y])] P X := by
  apply body_i
  apply ret_c
  apply and_i (b := true)
  · walk_at "ev"
  · intro _
    refine (by walk_at "ev" : Ev (binF FL eqD (unF FL (fldD FL ICS ("steps" : PySem.Str)) (varF 0)) (unF FL (fldD FL ICS ("steps" : PySem.Str)) (varF 1))) _ _ _) _ _ ?_
    exact ⟨_, rfl, k _⟩
  · intro h; cases h
theorem spec_mne {x y : D} {b : Bool} {P : EV → Env' → Prop} {X : Exx} (h : eqD x y = some (.bl b)) (k : ∀ t, P (.val (.bl !b)) t) : runF F_Misalignedu_neu [.val (.ins 0 [x]), .val (.ins 0 [y])] P X := by
  apply body_i
  apply ret_c
  apply notF_c
  apply cmp_c
  refine (ev_kv rfl : Ev _ _ _ _) _ _ ?_
  refine ⟨_, rfl, ⟨_, rfl⟩, ?_⟩
  refine (ev_kv rfl : Ev _ _ _ _) _ _ ?_
  refine ⟨_, rfl, rfl, ?_⟩
  refine spec_meq h fun t => ?_
  exact ⟨b, rfl, b, rfl, _, rfl, k _⟩
theorem spec_meqt {x : D} {l : List D} {P : EV → Env' → Prop} {X : Exx} (k : ∀ t, P (.val (.bl false)) t) : runF F_Misalignedu_equ [.val (.ins 0 [x]), .val (.tup l)] P X := by
  apply body_i
  apply ret_c
  apply and_i (b := false)
  · walk_at "ev"
  · intro h; cases h
  · intro _
    exact ⟨_, rfl, k _⟩
abbrev Sa : PySem.Str := St [97]
abbrev Sb : PySem.Str := St [98]
theorem sa_ok : PyData.strOk Sa = true := st_ok (by decide)
theorem sb_ok : PyData.strOk Sb = true := st_ok (by decide)
theorem sab : (Sa == Sb) = false := by rw [st_inj]; decide
theorem sba : (Sb == Sa) = false := by rw [st_inj]; decide
abbrev T1 : D := .tup [.tup [.int 0, .str Sa, .str Sb], .tup [.int 1, .str Sb, .str Sa]]
abbrev T2 : D := .tup [.tup [.int 0, .str Sa, .str Sb]]
abbrev T3 : D := .tup [.tup [.int 1, .str Sa, .str Sb], .tup [.int 1, .str Sb, .str Sa]]
theorem ok1 : okN T1 60 = true := by simp [okN, okL, sa_ok, sb_ok]
theorem ok2 : okN T2 60 = true := by simp [okN, okL, sa_ok, sb_ok]
theorem ok3 : okN T3 60 = true := by simp [okN, okL, sa_ok, sb_ok]
theorem eqv_of {a b : D} {r : Bool} (h1 : okN a 60 = true) (h2 : okN b 60 = true) (h : eqB a b = r) : eqD a b = some (.bl r) := by
  have h3 : eqOk a b = true := by unfold eqOk; rw [h1, h2]; simp
  unfold eqD
  rw [if_pos h3, h]
theorem eq11 : eqD T1 T1 = some (.bl true) := eqv_of ok1 ok1 (by simp [eqB, D.py, D.pyL, PyData.eqv, PyData.eqvAll])
theorem eq12 : eqD T1 T2 = some (.bl false) := eqv_of ok1 ok2 (by simp [eqB, D.py, D.pyL, PyData.eqv, PyData.eqvAll])
theorem eq13 : eqD T1 T3 = some (.bl false) := eqv_of ok1 ok3 (by simp [eqB, D.py, D.pyL, PyData.eqv, PyData.eqvAll])
theorem tf (l : List D) (h : ∀ x ∈ l, ∃ i s t, x = .tup [.int i, .str s, .str t] ∨ x = .lst [.int i, .str s, .str t]) : tupfL l = l.map fun x => match x with | .lst y => .tup y | x => x := by
  induction l with
  | nil => simp [tupfL]
  | cons x l ih =>
    obtain ⟨i, s, t, rfl | rfl⟩ := h x List.mem_cons_self <;> simp [tupfL, tupf, ih fun y hy => h y (List.mem_cons_of_mem _ hy)]
theorem law_ok : ∀ ns : List Int, ns.length ≤ 63 → F_law.r [.val (.lst (ns.map D.int))] (fun e _ => e = .val (.bl true)) X0 := by
  intro ns hns
  show runF F_law _ _ _
  apply body_i
  walk_at "seq"
  apply asg_c
  apply call_i
  · walk_at "eva"
  · rfl
  · simp
  refine spec_pen hns fun o t ho => ?_
  refine ⟨rfl, _, rfl, [.val (.lst (ns.map D.int)), .own o, .un, .un, .un, .un, .un, .un, .un, .un, .un], rfl, ?_⟩
  walk_at "n"
  apply seq_cut (Q := fun e => ∃ (o : Ob) (a2 a3 a4 a5 a6 a7 a8 a9 : En.Slot), e = [.val (.lst (ns.map D.int)), .own o, a2, a3, a4, a5, a6, a7, a8, a9, .un])
  · apply for_i
    · apply evl_rng
      · exact ev_lit
      · omega
    refine forL_inv _ (fun _ e => ∃ (o : Ob) (a2 a3 a4 a5 a6 a7 a8 a9 : En.Slot), e = [.val (.lst (ns.map D.int)), .own o, a2, a3, a4, a5, a6, a7, a8, a9, .un] ∧ PenOk o ∧ a2.isIo = false ∧ a3.isIo = false ∧ a4.isIo = false ∧ a5.isIo = false ∧ a6.isIo = false ∧ a7.isIo = false ∧ a8.isIo = false ∧ a9.isIo = false)
      ⟨o, _, _, _, _, _, _, _, _, rfl, ho, rfl, rfl, rfl, rfl, rfl, rfl, rfl, rfl⟩ ?_ ?_
    rotate_left
    · rintro e ⟨o, a2, a3, a4, a5, a6, a7, a8, a9, rfl, _⟩
      exact ⟨o, a2, a3, a4, a5, a6, a7, a8, a9, rfl⟩
    rintro j d e hj ⟨o, a2, a3, a4, a5, a6, a7, a8, a9, rfl, ho, h2, h3, h4, h5, h6, h7, h8, h9⟩
    obtain ⟨hj1, rfl⟩ := intsD_get hj
    refine ⟨[.val (.lst (ns.map D.int)), .own o, .val (.int (0 + (j : Int))), a3, a4, a5, a6, a7, a8, a9, .un], by simp [h2], ?_⟩
    have hb2 : (.val (.int (0 + (j : Int))) : En.Slot).isIo = false := rfl
    generalize (.val (.int (0 + (j : Int))) : En.Slot) = b2 at *
    walk_at "seq"
    apply asg_c
    apply bin_r
    · walk_at "ev"
    · rfl
    apply call_i
    · walk_at "eva"
    · rfl
    · simp
    refine spec_draw ho (by decide) (by decide) fun r o1 t1 r0 r1 ho1 => ?_
    refine ⟨rfl, _, rfl, _, rfl, ?_⟩
    refine ⟨_, _, _, rfl, rfl, rfl, [.val (.lst (ns.map D.int)), .own o1, b2, .val (.int (2 + r)), a4, a5, a6, a7, a8, a9, .un], by simp [h3], ?_⟩
    have hp1 : 2 ≤ 2 + r := by omega
    have hp2 : 2 + r ≤ 7 := by omega
    generalize (2 + r) = p at *
    walk_at "seq"
    apply asg_c
    apply call_c
    apply consA_e (ev_varo rfl) rfl
    apply consA_c
    apply bin_r
    · walk_at "ev"
    · rfl
    apply call_i
    · walk_at "eva"
    · rfl
    · simp
    refine spec_draw ho1 (by decide) (by decide) fun r2 o2 t2 q0 q1 ho2 => ?_
    refine ⟨rfl, _, rfl, _, rfl, ?_⟩
    refine ⟨_, _, _, rfl, rfl, rfl, _, rfl, ?_⟩
    refine (by walk_at "eva" : EvA _ _ _ _) _ _ ?_
    refine ⟨rfl, by simp, ?_⟩
    have hm : (2 + r2) = (((2 + r2).toNat : Nat) : Int) := (Int.toNat_of_nonneg (by omega)).symm
    have hm2 : 2 ≤ (2 + r2).toNat := by omega
    have hm4 : (2 + r2).toNat ≤ 4 := by omega
    rw [hm]
    generalize (2 + r2).toNat = m at *
    refine spec_drawn_log (m := m) (p := p) ho2 hm4 (by omega) (by omega) fun css dss o3 t3 hcl hcn hck hds hd6 ho3 => ?_
    refine ⟨rfl, _, rfl, [.val (.lst (ns.map D.int)), .own o3, b2, .val (.int p), .val (logT css dss), a5, a6, a7, a8, a9, .un], by simp [h4], ?_⟩
    have hds' : ∀ ts ∈ dss, ts.length = css.length := fun ts h => by rw [hcl]; exact hds ts h
    have hc0 : css ≠ [] := by intro z; subst z; simp at hcl; omega
    walk_at "seq"
    apply asg_c
    apply call_i
    · walk_at "eva"
    · rfl
    · simp
    refine spec_made hc0 (by omega) hcn hck hds' fun t => ?_
    refine ⟨rfl, _, rfl, [.val (.lst (ns.map D.int)), .own o3, b2, .val (.int p), .val (logT css dss), .own (.ins 1 [("events", .nms (css.map St)), ("days", .tup (dss.map dayD))]), a6, a7, a8, a9, .un], by simp [h5], ?_⟩
    walk_at "n"
    apply seq_cut (Q := fun e => ∃ t s6, e = [.val (.lst (ns.map D.int)), .own o3, b2, .val (.int p), .val (logT css dss), .val (.ins 1 (logD css dss)), s6, a7, a8, a9, .un] ∧ s6.isIo = false ∧ (s6 = .val t ∨ ∃ ob, s6 = .own ob ∧ ob.fr FL = some t) ∧ ((∃ ns : List Int, t = .tup (ns.map D.int)) ∨ ∃ l, t = .ins 0 [.tup l] ∧ l ≠ [] ∧ l.length ≤ 20 ∧ ∀ x ∈ l, Trip css (max 1 dss.length) x))
    · apply asg_c
      apply call_i
      · apply eva_cons
        · exact ev_kvo rfl (rfl : _ = some (D.ins 1 (logD css dss)))
        · rfl
        apply eva_cons
        · exact ev_kv rfl
        · rfl
        exact eva_nil
      · rfl
      · simp
      refine spec_lining hm4 hcl hd6 hds (by omega) (by omega) (fun ns t => ?_) fun l t hl0 hl20 hlx => ?_
      · exact ⟨rfl, _, rfl, [.val (.lst (_ )), .own o3, b2, .val (.int p), .val (logT css dss), .val (.ins 1 (logD css dss)), .val (.tup (ns.map D.int)), a7, a8, a9, .un], by simp [h6], .tup (ns.map D.int), _, rfl, rfl, .inl rfl, .inl ⟨ns, rfl⟩⟩
      · refine ⟨rfl, _, rfl, [.val (.lst (_ )), .own o3, b2, .val (.int p), .val (logT css dss), .val (.ins 1 (logD css dss)), .own (.ins 0 [("steps", .tup l)]), a7, a8, a9, .un], by simp [h6], .ins 0 [.tup l], _, rfl, rfl, .inr ⟨_, rfl, rfl⟩, .inr ⟨l, rfl, hl0, hl20, fun x hx => ?_⟩⟩
        obtain ⟨dy, a, b, e, g1, g2, g3⟩ := hlx x hx
        exact ⟨dy, a, b, e, by omega, g2, g3⟩
    rintro _ ⟨told, s6, rfl, hs6, hst, htold⟩
    apply for_i
    · apply evl_rng
      · exact ev_lit
      · omega
    refine forL_inv _ (fun _ e => ∃ (o : Ob) (s6 a7 a8 a9 : En.Slot), e = [.val (.lst (ns.map D.int)), .own o, b2, .val (.int p), .val (logT css dss), .val (.ins 1 (logD css dss)), s6, a7, a8, a9, .un] ∧ PenOk o ∧ s6.isIo = false ∧ (s6 = .val told ∨ ∃ ob, s6 = .own ob ∧ ob.fr FL = some told) ∧ a7.isIo = false ∧ a8.isIo = false ∧ a9.isIo = false)
      ⟨o3, s6, _, _, _, rfl, ho3, hs6, hst, h7, h8, h9⟩ ?_ ?_
    rotate_left
    · rintro e ⟨o, s6, a7, a8, a9, rfl, ho, g6, _, g7, g8, g9⟩
      exact ⟨o, b2, _, _, _, s6, a7, a8, a9, rfl, ho, hb2, rfl, rfl, rfl, g6, g7, g8, g9⟩
    rintro i d e hi ⟨o4, s6, a7, a8, a9, rfl, ho4, g6, hst, g7, g8, g9⟩
    obtain ⟨hi1, rfl⟩ := intsD_get hi
    refine ⟨[.val (.lst (ns.map D.int)), .own o4, b2, .val (.int p), .val (logT css dss), .val (.ins 1 (logD css dss)), s6, .val (.int (0 + (i : Int))), a8, a9, .un], by simp [g7], ?_⟩
    have hb7 : (.val (.int (0 + (i : Int))) : En.Slot).isIo = false := rfl
    generalize (.val (.int (0 + (i : Int))) : En.Slot) = b7 at *
    walk_at "seq"
    apply par_c
    apply consP_c
    apply call_i
    · apply eva_cons
      · exact ev_varo rfl
      · rfl
      apply eva_cons
      · exact ev_kv rfl
      · rfl
      apply eva_cons
      · exact ev_kvS (i := 6) rfl hst
      · rfl
      exact eva_nil
    · rfl
    · simp
    refine spec_bent ho4 hcn (by omega) (by omega) hck hd6 htold fun v o5 t5 hv ho5 => ?_
    refine ⟨rfl, _, rfl, rfl, ?_⟩
    apply consP_c
    apply call_i
    · walk_at "eva"
    · rfl
    · simp
    refine pick_list ho5 (by simp) (by simp) fun nb hnb o6 t6 ho6 => ?_
    have hnb : ∃ q : Int, nb = .int q ∧ 2 ≤ q ∧ q ≤ 1440 := by
      simp only [List.mem_cons, List.not_mem_nil, or_false] at hnb
      rcases hnb with rfl | rfl | rfl | rfl
      · exact ⟨_, rfl, by omega, by omega⟩
      · exact ⟨_, rfl, by omega, by omega⟩
      · exact ⟨_, rfl, by omega, by omega⟩
      · exact ⟨_, rfl, by omega, by omega⟩
    obtain ⟨q, rfl, q2, q3⟩ := hnb
    refine ⟨rfl, _, rfl, rfl, [.val (.lst (ns.map D.int)), .own o6, b2, .val (.int p), .val (logT css dss), .val (.ins 1 (logD css dss)), .val told, b7, .val v, .val (.int q), .un], by simp [g8, g9], ?_⟩
    walk_at "n"
    apply if_c
    apply not_c
    apply tru_c
    apply call_c
    apply consA_c
    apply call_i
    · walk_at "eva"
    · rfl
    · simp
    refine spec_holds hv hds' q2 q3 fun t => ?_
    refine ⟨rfl, _, rfl, _, rfl, ?_⟩
    apply consA_c
    apply call_i
    · walk_at "eva"
    · rfl
    · simp
    refine spec_right hv hds' q2 fun t => ?_
    refine ⟨rfl, _, rfl, _, rfl, ?_⟩
    apply nilA_c
    refine ⟨rfl, by simp, ?_⟩
    refine spec_is fun t => ?_
    refine ⟨rfl, _, rfl, _, rfl, _, _, rfl, rfl, ?_⟩
    rw [if_neg (by decide)]
    walk_at "n"
    exact ⟨o6, _, _, _, _, rfl, ho6, rfl, .inl rfl, hb7, rfl, rfl⟩
  rintro _ ⟨o, a2, a3, a4, a5, a6, a7, a8, a9, rfl⟩
  simp only [ab_eq.1, ab_eq.2]
  walk_at "seq"
  apply asg_c
  apply mk_c
  refine (by walk_at "eva" : EvA _ _ _ _) _ _ ?_
  refine ⟨rfl, by simp, ?_⟩
  have dk : ∀ x y : D, (∃ i s t, x = .lst [.int i, .str s, .str t]) → (∃ i s t, y = .lst [.int i, .str s, .str t]) → dpk 6 (.lst [x, y]) = true := by
    rintro _ _ ⟨i, s, t, rfl⟩ ⟨i', s', t', rfl⟩
    rfl
  refine spec_mis (dk _ _ ⟨_, _, _, rfl⟩ ⟨_, _, _, rfl⟩) fun t => ?_
  have e1 : tupf (.lst [.lst [.int 0, .str (St [97]), .str (St [98])], .lst [.int 1, .str (St [98]), .str (St [97])]]) = T1 := by simp [tupf, tupfL]
  rw [e1]
  refine ⟨rfl, _, _, rfl, _, rfl, [.val (.lst (ns.map D.int)), .own o, a2, a3, a4, a5, a6, a7, a8, a9, .own (.ins 0 [("steps", T1)])], rfl, ?_⟩
  walk_at "n"
  have mk2 : ∀ (l : List D) (P : EV → Env' → Prop) (env : Env') (T : D) (lf : LF), T = .tup l → dpk 6 T = true → tupf T = T → EvL lf env l env → l.length ≤ 100 → (P (.new (.ins 0 [("steps", T)])) env) → (mkF 0 F_Misalignedu_initu 2 (consA FL (tupF lf) nilA)).r env P X0 := by
    intro l P env T lf hT hdp htf hl hl100 kk
    apply mk_c
    apply consA_e
    · exact ev_tup hl hl100
    · rfl
    apply nilA_c
    refine ⟨rfl, by simp, ?_⟩
    subst hT
    refine spec_mis hdp fun t => ?_
    refine ⟨rfl, _, _, rfl, _, rfl, ?_⟩
    rw [htf]
    exact kk
  walk_at "seq"
  apply if_c
  apply orT_c
  apply bl_c
  apply bin_l
  apply cmp_c
  refine (ev_kvo (F := FL) (ob := .ins 0 [("steps", T1)]) rfl (rfl : _ = some (D.ins 0 [T1])) : Ev (kvF FL 10) _ _ _) _ _ ?_
  refine ⟨_, rfl, ⟨_, rfl⟩, ?_⟩
  refine mk2 _ _ _ T1 _ rfl rfl (by simp [tupf, tupfL]) (by walk_at "evl") (by simp) ?_
  refine ⟨_, rfl, rfl, ?_⟩
  refine spec_meq eq11 fun t => ?_
  refine ⟨_, rfl, _, rfl, ?_⟩
  refine (ev_lit : Ev _ _ _ _) _ _ ?_
  refine ⟨_, rfl, _, _, _, rfl, rfl, (rfl : _ = some (D.bl false)), false, rfl, ?_⟩
  rw [if_neg Bool.false_ne_true]
  apply bl_c
  apply bin_l
  apply cmp_c
  refine (ev_kv rfl : Ev _ _ _ _) _ _ ?_
  refine ⟨_, rfl, ⟨_, rfl⟩, ?_⟩
  refine (by walk_at "ev" : Ev (unF FL (fldD FL ICS ("steps" : PySem.Str)) (varF 10)) _ _ _) _ _ ?_
  refine ⟨_, rfl, rfl, ?_⟩
  refine spec_meqt fun t => ?_
  refine ⟨_, rfl, _, rfl, ?_⟩
  refine (ev_lit : Ev _ _ _ _) _ _ ?_
  refine ⟨_, rfl, _, _, _, rfl, rfl, (rfl : _ = some (D.bl false)), false, rfl, ?_⟩
  rw [if_neg Bool.false_ne_true]
  walk_at "n"
  apply ret_c
  apply andF_c
  apply bin_l
  apply cmp_c
  refine (ev_kv rfl : Ev _ _ _ _) _ _ ?_
  refine ⟨_, rfl, ⟨_, rfl⟩, ?_⟩
  refine mk2 _ _ _ T2 _ rfl rfl (by simp [tupf, tupfL]) (by walk_at "evl") (by simp) ?_
  refine ⟨_, rfl, rfl, ?_⟩
  refine spec_mne eq12 fun t => ?_
  refine ⟨_, rfl, _, rfl, ?_⟩
  refine (ev_lit : Ev _ _ _ _) _ _ ?_
  refine ⟨_, rfl, _, _, _, rfl, rfl, (rfl : _ = some (D.bl true)), true, rfl, ?_⟩
  rw [if_pos rfl]
  apply bin_l
  apply cmp_c
  refine (ev_kv rfl : Ev _ _ _ _) _ _ ?_
  refine ⟨_, rfl, ⟨_, rfl⟩, ?_⟩
  refine mk2 _ _ _ T3 _ rfl rfl (by simp [tupf, tupfL]) (by walk_at "evl") (by simp) ?_
  refine ⟨_, rfl, rfl, ?_⟩
  refine spec_meq eq13 fun t => ?_
  refine ⟨_, rfl, _, rfl, ?_⟩
  refine (ev_lit : Ev _ _ _ _) _ _ ?_
  refine ⟨_, rfl, _, _, _, rfl, rfl, (rfl : _ = some (D.bl true)), ?_⟩
  exact ⟨_, rfl, rfl⟩
end Lw
set_option Elab.async false
set_option linter.all false
set_option maxRecDepth 100000
set_option maxHeartbeats 4000000
namespace Lw
open PySem PySem.Spec PyProof.Rows L2 En
structure Txt (K : PySem.W.Frag) (mg : Str → Option Value) (cl : Nat → Addr) (ad : Nat → Addr) (fd : Nat → FuncData) : Prop where
  sg : SgOk (sg K cl) ICS
  nf0 : ∀ t : Tq, t.ok ICS → PySem.W.notFirst K (cl 0) (t.v (Lw.sg K cl)) = true
  m_Misaligned : mg "Misaligned" = some (.ref (cl 0))
  mk0 : Mk K (cl 0) (ad 5)
  nf1 : ∀ t : Tq, t.ok ICS → PySem.W.notFirst K (cl 1) (t.v (Lw.sg K cl)) = true
  m_DayLog : mg "DayLog" = some (.ref (cl 1))
  mk1 : Mk K (cl 1) (ad 18)
  z_len : mg "len" = none
  z_int : mg "int" = none
  z_str : mg "str" = none
  z_bool : mg "bool" = none
  z_all : mg "all" = none
  z_any : mg "any" = none
  z_tuple : mg "tuple" = none
  z_list : mg "list" = none
  z_max : mg "max" = none
  z_range : mg "range" = none
  z_enumerate : mg "enumerate" = none
  z_isinstance : mg "isinstance" = none
  g_LETTERS : ∃ t : Tok, mg "LETTERS" = some (.str "abcdefghijklmnopqrstuvwxyz" t)
  g_SIGNS : ∃ t : Tok, mg "SIGNS" = some (.str "abcdefghijklmnopqrstuvwxyz0123456789" t)
  g_MOST_PERIOD : ∃ t : Tok, mg "MOST_PERIOD" = some (.int 1440 t)
  f_Misalignedu_equ : L2.Fun K "__eq__" "Misaligned.__eq__" st_Misalignedu_equ (ad 6) (fd 6)
  b_Misalignedu_equ : Binds K (fd 6) ["self", "other"] []
  a_Misalignedu_equ : PySem.W.findIn K (.ref (cl 0)) "__eq__" = some (some (.ref (ad 6)))
  i_Misalignedu_equ : PySem.W.isFn K (.ref (ad 6)) = true
  f_as_tuples : L2.Fun K "as_tuples" "as_tuples" st_as_tuples (ad 1) (fd 1)
  b_as_tuples : Binds K (fd 1) ["value"] []
  m_as_tuples : mg "as_tuples" = some (.ref (ad 1))
  f_Misalignedu_initu : L2.Fun K "__init__" "Misaligned.__init__" st_Misalignedu_initu (ad 5) (fd 5)
  b_Misalignedu_initu : Binds K (fd 5) ["self", "steps"] []
  f_Misalignedu_neu : L2.Fun K "__ne__" "Misaligned.__ne__" st_Misalignedu_neu (ad 7) (fd 7)
  b_Misalignedu_neu : Binds K (fd 7) ["self", "other"] []
  a_Misalignedu_neu : PySem.W.findIn K (.ref (cl 0)) "__ne__" = some (some (.ref (ad 7)))
  i_Misalignedu_neu : PySem.W.isFn K (.ref (ad 7)) = true
  f__law_draw : L2.Fun K "_law_draw" "_law_draw" st__law_draw (ad 23) (fd 23)
  b__law_draw : Binds K (fd 23) ["pen", "many"] []
  m__law_draw : mg "_law_draw" = some (.ref (ad 23))
  f__law_pick : L2.Fun K "_law_pick" "_law_pick" st__law_pick (ad 24) (fd 24)
  b__law_pick : Binds K (fd 24) ["pen", "some"] []
  m__law_pick : mg "_law_pick" = some (.ref (ad 24))
  f__law_round : L2.Fun K "_law_round" "_law_round" st__law_round (ad 31) (fd 31)
  b__law_round : Binds K (fd 31) ["pen", "log"] []
  m__law_round : mg "_law_round" = some (.ref (ad 31))
  f__law_bent : L2.Fun K "_law_bent" "_law_bent" st__law_bent (ad 32) (fd 32)
  b__law_bent : Binds K (fd 32) ["pen", "log", "told"] []
  m__law_bent : mg "_law_bent" = some (.ref (ad 32))
  f__law_name : L2.Fun K "_law_name" "_law_name" st__law_name (ad 26) (fd 26)
  b__law_name : Binds K (fd 26) ["pen"] []
  m__law_name : mg "_law_name" = some (.ref (ad 26))
  f__law_names : L2.Fun K "_law_names" "_law_names" st__law_names (ad 27) (fd 27)
  b__law_names : Binds K (fd 27) ["pen", "many"] []
  m__law_names : mg "_law_names" = some (.ref (ad 27))
  f__law_drawn_log : L2.Fun K "_law_drawn_log" "_law_drawn_log" st__law_drawn_log (ad 28) (fd 28)
  b__law_drawn_log : Binds K (fd 28) ["pen", "many", "period"] []
  m__law_drawn_log : mg "_law_drawn_log" = some (.ref (ad 28))
  f__law_is : L2.Fun K "_law_is" "_law_is" st__law_is (ad 25) (fd 25)
  b__law_is : Binds K (fd 25) ["told", "due"] []
  m__law_is : mg "_law_is" = some (.ref (ad 25))
  f_is_whole : L2.Fun K "is_whole" "is_whole" st_is_whole (ad 0) (fd 0)
  b_is_whole : Binds K (fd 0) ["value"] []
  m_is_whole : mg "is_whole" = some (.ref (ad 0))
  f_is_day : L2.Fun K "is_day" "is_day" st_is_day (ad 21) (fd 21)
  b_is_day : Binds K (fd 21) ["many", "value"] []
  m_is_day : mg "is_day" = some (.ref (ad 21))
  f_is_name : L2.Fun K "is_name" "is_name" st_is_name (ad 3) (fd 3)
  b_is_name : Binds K (fd 3) ["value"] []
  m_is_name : mg "is_name" = some (.ref (ad 3))
  f_DayLogu_initu : L2.Fun K "__init__" "DayLog.__init__" st_DayLogu_initu (ad 18) (fd 18)
  b_DayLogu_initu : Binds K (fd 18) ["self", "events", "days"] []
  f__law_made_log : L2.Fun K "_law_made_log" "_law_made_log" st__law_made_log (ad 29) (fd 29)
  b__law_made_log : Binds K (fd 29) ["log"] []
  m__law_made_log : mg "_law_made_log" = some (.ref (ad 29))
  f__law_misaligned_right : L2.Fun K "_law_misaligned_right" "_law_misaligned_right" st__law_misaligned_right (ad 30) (fd 30)
  b__law_misaligned_right : Binds K (fd 30) ["log", "period", "told"] []
  m__law_misaligned_right : mg "_law_misaligned_right" = some (.ref (ad 30))
  f__law_pen : L2.Fun K "_law_pen" "_law_pen" st__law_pen (ad 22) (fd 22)
  b__law_pen : Binds K (fd 22) ["script"] []
  m__law_pen : mg "_law_pen" = some (.ref (ad 22))
  f_seen_on : L2.Fun K "seen_on" "seen_on" st_seen_on (ad 8) (fd 8)
  b_seen_on : Binds K (fd 8) ["times"] []
  m_seen_on : mg "seen_on" = some (.ref (ad 8))
  f_differences : L2.Fun K "differences" "differences" st_differences (ad 9) (fd 9)
  b_differences : Binds K (fd 9) ["log"] []
  m_differences : mg "differences" = some (.ref (ad 9))
  f_steps_at : L2.Fun K "steps_at" "steps_at" st_steps_at (ad 10) (fd 10)
  b_steps_at : Binds K (fd 10) ["rows", "event"] []
  m_steps_at : mg "steps_at" = some (.ref (ad 10))
  f_grown : L2.Fun K "grown" "grown" st_grown (ad 11) (fd 11)
  b_grown : Binds K (fd 11) ["rows", "period", "rests", "ways", "root"] []
  m_grown : mg "grown" = some (.ref (ad 11))
  f_need_period : L2.Fun K "need_period" "need_period" st_need_period (ad 4) (fd 4)
  b_need_period : Binds K (fd 4) ["period"] []
  m_need_period : mg "need_period" = some (.ref (ad 4))
  f_number_of_day : L2.Fun K "number_of_day" "number_of_day" st_number_of_day (ad 14) (fd 14)
  b_number_of_day : Binds K (fd 14) ["times", "period", "rests"] []
  m_number_of_day : mg "number_of_day" = some (.ref (ad 14))
  f_way_to : L2.Fun K "way_to" "way_to" st_way_to (ad 12) (fd 12)
  b_way_to : Binds K (fd 12) ["ways", "event"] []
  m_way_to : mg "way_to" = some (.ref (ad 12))
  f_round_of : L2.Fun K "round_of" "round_of" st_round_of (ad 13) (fd 13)
  b_round_of : Binds K (fd 13) ["log", "ways", "step"] []
  m_round_of : mg "round_of" = some (.ref (ad 13))
  f_lining : L2.Fun K "lining" "lining" st_lining (ad 15) (fd 15)
  b_lining : Binds K (fd 15) ["log", "period"] []
  m_lining : mg "lining" = some (.ref (ad 15))
  f_is_index : L2.Fun K "is_index" "is_index" st_is_index (ad 2) (fd 2)
  b_is_index : Binds K (fd 2) ["value", "many"] []
  m_is_index : mg "is_index" = some (.ref (ad 2))
  f_is_log_step : L2.Fun K "is_log_step" "is_log_step" st_is_log_step (ad 16) (fd 16)
  b_is_log_step : Binds K (fd 16) ["log", "value"] []
  m_is_log_step : mg "is_log_step" = some (.ref (ad 16))
  f_misaligned_holds : L2.Fun K "misaligned_holds" "misaligned_holds" st_misaligned_holds (ad 17) (fd 17)
  b_misaligned_holds : Binds K (fd 17) ["log", "period", "value"] []
  m_misaligned_holds : mg "misaligned_holds" = some (.ref (ad 17))
  f_law : L2.Fun K "law" "law" st_law (ad 33) (fd 33)
  b_law : Binds K (fd 33) ["script"] []
  m_law : mg "law" = some (.ref (ad 33))
section
variable {P : Program} {w : World} {K : PySem.W.Frag} {mg : Str → Option Value} {base : Heap} {cl ad : Nat → Addr} {fd : Nat → FuncData} (T : Txt K mg cl ad fd)
include T
theorem ok_Misalignedu_equ : FnA P w (sg K cl) mg base 1 (ad 6) (fd 6) ["self", "other"] F_Misalignedu_equ 2 :=
  fn_A (N := N_Misalignedu_equ) (ps := ["self", "other"]) (k := 0) T.f_Misalignedu_equ T.b_Misalignedu_equ (fnScope_K (by decide +kernel)) fun M cdv A outer s H E z => (s_one (s_ret (r_and (r_isi (u := (.c 0)) z.q T.sg (show (0 : Nat) ∈ ICS from by decide) T.z_isinstance (pe_ty (S := sg K cl) (u := .c 0) (by rfl) (Or.inr ⟨_, rfl, T.m_Misaligned⟩)) (r_var (i := 1))) (r_one (r_cmp (op_eqDD z.q z.u) (r_fld z.q T.sg (r_var (i := 0))) (r_fld z.q T.sg (r_var (i := 1))))))))
theorem c_Misalignedu_equ : EqC P w (sg K cl) mg base 1 0 "__eq__" F_Misalignedu_equ := (ok_Misalignedu_equ T).eq T.a_Misalignedu_equ T.i_Misalignedu_equ
theorem ok_as_tuples : ∀ i : Nat, FnA P w (sg K cl) mg base (0 + i) (ad 1) (fd 1) ["value"] (F_as_tuples i) 1
  | 0 => fn_N (ps := ["value"]) T.f_as_tuples T.b_as_tuples
  | i + 1 => fn_A (N := N_as_tuples) (ps := ["value"]) T.f_as_tuples T.b_as_tuples (fnScope_K (by decide +kernel)) fun M cdv A outer s H E z => have cR := FnA.c (ok_as_tuples i) T.m_as_tuples; (s_cons (s_if (t_val z.q (r_isi2 (u := (.b .list)) (u' := (.b .tuple)) z.q T.sg trivial trivial T.z_isinstance (pe_ty (S := sg K cl) (u := .b .list) (by rfl) (Or.inl ⟨_, rfl, T.z_list, bt_list⟩)) (pe_ty (S := sg K cl) (u := .b .tuple) (by rfl) (Or.inl ⟨_, rfl, T.z_tuple, bt_tuple⟩)) (r_var (i := 0)))) (s_one (s_ret (r_callT1 (c_tup z.q) T.z_tuple bt_tuple (r_lc (own := [("one", 1)]) z.q z.c z.n (i_seq z.q (r_kv (i := 0))) (blkOk_by (N := N_as_tuples) (sc := defScope st_as_tuples) (by decide +kernel)) (fun s' H' C' cl' fp' => onG (z.blk s' H' _ _ fp') fun zb => (g_nm (i := 1) zb.n)) (fun s' H' C' cl' fp' => onT (z.blk s' H' _ _ fp') fun zb => t_none) (fun s' H' C' cl' fp' => onE (z.blk s' H' _ _ fp') fun zb => (r_c zb cR (a_cons (r_kv (i := 1)) a_nil) (Nat.le_refl _))))))) s_nil) (s_one (s_ret (r_var (i := 0)))))
theorem c_as_tuples (i : Nat) : FnC P w (sg K cl) mg base (0 + i) "as_tuples" (F_as_tuples i) 1 := (ok_as_tuples T i).c T.m_as_tuples
theorem ok_Misalignedu_initu : FnA P w (sg K cl) mg base 7 (ad 5) (fd 5) ["self", "steps"] F_Misalignedu_initu 2 :=
  fn_A (N := N_Misalignedu_initu) (ps := ["self", "steps"]) (k := 6) T.f_Misalignedu_initu T.b_Misalignedu_initu (fnScope_K (by decide +kernel)) fun M cdv A outer s H E z => (s_one (s_fld (i := 0) z.q T.sg (r_c z (c_as_tuples (P := P) (w := w) (base := base) T 6) (a_cons (r_kv (i := 1)) a_nil))))
theorem c_Misalignedu_initu : MkC P w (sg K cl) mg base 7 "Misaligned" 0 F_Misalignedu_initu 2 := (ok_Misalignedu_initu T).mkc T.mk0 T.m_Misaligned
theorem ok_Misalignedu_neu : FnA P w (sg K cl) mg base 2 (ad 7) (fd 7) ["self", "other"] F_Misalignedu_neu 2 :=
  fn_A (N := N_Misalignedu_neu) (ps := ["self", "other"]) (k := 1) T.f_Misalignedu_neu T.b_Misalignedu_neu (fnScope_K (by decide +kernel)) fun M cdv A outer s H E z => (s_one (s_ret (r_not (r_eqO z T.sg (T.nf0) (c_Misalignedu_equ (P := P) (w := w) (base := base) T) (r_kv (i := 0)) (r_kv (i := 1))))))
theorem c_Misalignedu_neu : EqC P w (sg K cl) mg base 2 0 "__ne__" F_Misalignedu_neu := (ok_Misalignedu_neu T).eq T.a_Misalignedu_neu T.i_Misalignedu_neu
theorem ok__law_draw : FnA P w (sg K cl) mg base 1 (ad 23) (fd 23) ["pen", "many"] F__law_draw 2 :=
  fn_A (N := N__law_draw) (ps := ["pen", "many"]) (k := 0) T.f__law_draw T.b__law_draw (fnScope_K (by decide +kernel)) fun M cdv A outer s H E z => (s_cons (s_tgt (r_bin (op_addD z.q) (r_dget z.u (r_var (i := 0)) r_str) r_int) (g_sub (j := 0) z.u r_str)) (s_cons (s_if (w_and (t_cmp (op_eqDD z.q z.u) (r_dget z.u (r_var (i := 0)) r_str) r_int) (w_and1 (t_cmp op_ltD (r_dget z.u (r_var (i := 0)) r_str) (r_callB1 (c_len z.q) T.z_len bt_len (r_dget z.u (r_var (i := 0)) r_str))))).pt (s_cons (s_set (i := 2) z.n (r_ix z.q (r_dget z.u (r_var (i := 0)) r_str) (r_dget z.u (r_var (i := 0)) r_str))) (s_cons (s_tgt (r_bin (op_addD z.q) (r_dget z.u (r_var (i := 0)) r_str) r_int) (g_sub (j := 0) z.u r_str)) (s_one (s_if (t_cmp op_geD (r_var (i := 2)) (r_bin op_powD r_int r_int)) (s_one (s_tgt (r_bin op_subD (r_var (i := 2)) (r_bin op_powD r_int r_int)) (g_sub (j := 0) z.u r_str))) (s_one (s_tgt (r_bin op_modD (r_callT1 c_int T.z_int bt_int (r_bin (op_addD z.q) (r_bin op_mulD (r_dget z.u (r_var (i := 0)) r_str) r_int) (r_var (i := 2)))) r_int) (g_sub (j := 0) z.u r_str))))))) s_nil) (s_cons (s_if (t_cmp op_gtD (r_dget z.u (r_var (i := 0)) r_str) r_int) (s_cons (s_set (i := 3) z.n (r_bin op_modD (r_callT1 c_int T.z_int bt_int (r_dget z.u (r_var (i := 0)) r_str)) (r_var (i := 1)))) (s_cons (s_tgt (r_bin op_divD (r_dget z.u (r_var (i := 0)) r_str) (r_var (i := 1))) (g_sub (j := 0) z.u r_str)) (s_one (s_ret (r_var (i := 3)))))) s_nil) (s_cons (s_set (i := 4) z.n (r_bin op_modD (r_callT1 c_int T.z_int bt_int (r_bin (op_addD z.q) (r_bin (op_addD z.q) (r_bin op_mulD (r_dget z.u (r_var (i := 0)) r_str) r_int) (r_bin op_mulD (r_dget z.u (r_var (i := 0)) r_str) r_int)) r_int)) r_int)) (s_cons (s_set (i := 4) z.n (r_bin op_modD (r_callT1 c_int T.z_int bt_int (r_bin (op_addD z.q) (r_bin (op_addD z.q) (r_bin op_mulD (r_var (i := 4)) (r_var (i := 4))) (r_bin op_mulD r_int (r_var (i := 4)))) (r_dget z.u (r_var (i := 0)) r_str))) r_int)) (s_cons (s_tgt (r_bin op_modD (r_callT1 c_int T.z_int bt_int (r_bin (op_addD z.q) (r_bin op_mulD (r_var (i := 4)) r_int) r_int)) r_int) (g_sub (j := 0) z.u r_str)) (s_one (s_ret (r_bin op_modD (r_callT1 c_int T.z_int bt_int (r_bin op_divD (r_var (i := 4)) r_int)) (r_var (i := 1)))))))))))
theorem c__law_draw : FnC P w (sg K cl) mg base 1 "_law_draw" F__law_draw 2 := (ok__law_draw T).c T.m__law_draw
theorem ok__law_pick : FnA P w (sg K cl) mg base 2 (ad 24) (fd 24) ["pen", "some"] F__law_pick 2 :=
  fn_A (N := N__law_pick) (ps := ["pen", "some"]) (k := 1) T.f__law_pick T.b__law_pick (fnScope_K (by decide +kernel)) fun M cdv A outer s H E z => (s_one (s_ret (r_ix z.q (r_var (i := 1)) (r_c z (c__law_draw (P := P) (w := w) (base := base) T) (a_cons (r_var (i := 0)) (a_cons (r_callB1 (c_len z.q) T.z_len bt_len (r_var (i := 1))) a_nil))))))
theorem c__law_pick : FnC P w (sg K cl) mg base 2 "_law_pick" F__law_pick 2 := (ok__law_pick T).c T.m__law_pick
theorem ok__law_round : FnA P w (sg K cl) mg base 3 (ad 31) (fd 31) ["pen", "log"] F__law_round 2 :=
  fn_A (N := N__law_round) (ps := ["pen", "log"]) (k := 2) T.f__law_round T.b__law_round (fnScope_K (by decide +kernel)) fun M cdv A outer s H E z => (s_cons (s_parT (i := 2) (j := 3) z.c z.n (p_cons (r_bin (op_addD z.q) r_int (r_c z (c__law_draw (P := P) (w := w) (base := base) T) (a_cons (r_var (i := 0)) (a_cons r_int a_nil)))) (p_cons (r_lst r_pnil) p_nil))) (s_cons (s_for (vs := [4]) z.c (passes_of rfl) (i_rng T.z_range (r_var (i := 2))) (g_nm (i := 4) z.n) (s_one (s_expr (r_app (i := 3) (by rfl) (r_c z (c__law_pick (P := P) (w := w) (base := base) T) (a_cons (r_var (i := 0)) (a_cons (r_lc (own := [("event", 5)]) z.q z.c z.n (i_seq z.q (r_ix z.q (r_var (i := 1)) r_int)) (blkOk_by (N := N__law_round) (sc := defScope st__law_round) (by decide +kernel)) (fun s' H' C' cl' fp' => onG (z.blk s' H' _ _ fp') fun zb => (g_nm (i := 5) zb.n)) (fun s' H' C' cl' fp' => onT (z.blk s' H' _ _ fp') fun zb => (t_some (w_or (t_cmp (op_eqDD zb.q zb.u) (r_var (i := 3)) (r_lst r_pnil)) (w_or1 (t_cmp (op_neDD zb.q zb.u) (r_var (i := 5)) (r_ix zb.q (r_var (i := 3)) (r_neg r_int))))).pt)) (fun s' H' C' cl' fp' => onE (z.blk s' H' _ _ fp') fun zb => (r_kv (i := 5)))) a_nil))))))) (s_cons (s_set (i := 6) z.n (r_lst r_pnil)) (s_cons (s_for (vs := [7]) z.c (passes_of rfl) (i_rng T.z_range (r_var (i := 2))) (g_nm (i := 7) z.n) (s_cons (s_set (i := 8) z.n (r_c z (c__law_draw (P := P) (w := w) (base := base) T) (a_cons (r_var (i := 0)) (a_cons (r_max z.c T.z_max r_int (r_callB1 (c_len z.q) T.z_len bt_len (r_ix z.q (r_var (i := 1)) r_int))) a_nil)))) (s_one (s_expr (r_app (i := 6) (by rfl) (r_tup (r_pcons (r_kv (i := 8)) (r_pcons (r_ix z.q (r_var (i := 3)) (r_bin op_subD (r_var (i := 7)) r_int)) (r_pcons (r_ix z.q (r_var (i := 3)) (r_var (i := 7))) r_pnil))))))))) (s_one (s_ret (r_callT1 (c_tup z.q) T.z_tuple bt_tuple (r_var (i := 6)))))))))
theorem c__law_round : FnC P w (sg K cl) mg base 3 "_law_round" F__law_round 2 := (ok__law_round T).c T.m__law_round
theorem ok__law_bent : FnA P w (sg K cl) mg base 9 (ad 32) (fd 32) ["pen", "log", "told"] F__law_bent 3 :=
  fn_A (N := N__law_bent) (ps := ["pen", "log", "told"]) (k := 8) T.f__law_bent T.b__law_bent (fnScope_K (by decide +kernel)) fun M cdv A outer s H E z => (s_cons (s_set (i := 3) z.n (r_ite (w_and (t_val z.q (r_isi (u := (.c 0)) z.q T.sg (show (0 : Nat) ∈ ICS from by decide) T.z_isinstance (pe_ty (S := sg K cl) (u := .c 0) (by rfl) (Or.inr ⟨_, rfl, T.m_Misaligned⟩)) (r_var (i := 2)))) (w_and1 (t_cmp op_gtD (r_c z (c__law_draw (P := P) (w := w) (base := base) T) (a_cons (r_var (i := 0)) (a_cons r_int a_nil))) r_int))).pt (r_fld z.q T.sg (r_var (i := 2))) (r_c z (c__law_round (P := P) (w := w) (base := base) T) (a_cons (r_var (i := 0)) (a_cons (r_kv (i := 1)) a_nil))))) (s_cons (s_set (i := 4) z.n (r_c z (c__law_draw (P := P) (w := w) (base := base) T) (a_cons (r_var (i := 0)) (a_cons (r_callB1 (c_len z.q) T.z_len bt_len (r_var (i := 3))) a_nil)))) (s_cons (s_pat (vs := [5, 6, 7]) (r_ix z.q (r_var (i := 3)) (r_var (i := 4))) (g_tup (n := 3) z.q z.c (g_cons (g_nm (i := 5) z.n) (g_cons (g_nm (i := 6) z.n) (g_cons (g_nm (i := 7) z.n) g_nil))))) (s_cons (s_set (i := 8) z.n (r_lst (r_pcons (r_tup (r_pcons (r_bin (op_addD z.q) (r_var (i := 5)) r_int) (r_pcons (r_kv (i := 6)) (r_pcons (r_kv (i := 7)) r_pnil)))) (r_pcons (r_tup (r_pcons r_bl (r_pcons (r_kv (i := 6)) (r_pcons (r_kv (i := 7)) r_pnil)))) (r_pcons (r_tup (r_pcons (r_kv (i := 5)) (r_pcons (r_kv (i := 7)) (r_pcons (r_kv (i := 6)) r_pnil)))) (r_pcons (r_tup (r_pcons (r_kv (i := 5)) (r_pcons (r_kv (i := 6)) (r_pcons (r_kv (i := 6)) r_pnil)))) (r_pcons (r_tup (r_pcons (r_kv (i := 5)) (r_pcons (r_kv (i := 6)) r_pnil))) (r_pcons r_non (r_pcons (r_tup (r_pcons (r_kv (i := 5)) (r_pcons (r_kv (i := 6)) (r_pcons r_str r_pnil)))) (r_pcons (r_tup (r_pcons (r_neg r_int) (r_pcons (r_kv (i := 6)) (r_pcons (r_kv (i := 7)) r_pnil)))) r_pnil)))))))))) (s_cons (s_set (i := 8) z.n (r_bin (op_addD z.q) (r_var (i := 8)) (r_lst (r_pcons (r_tup (r_pcons (r_callB1 (c_len z.q) T.z_len bt_len (r_ix z.q (r_var (i := 1)) r_int)) (r_pcons (r_kv (i := 6)) (r_pcons (r_kv (i := 7)) r_pnil)))) (r_pcons (r_tup (r_pcons (r_kv (i := 5)) (r_pcons r_non (r_pcons (r_kv (i := 7)) r_pnil)))) (r_pcons (r_tup (r_pcons (r_callT1 c_str T.z_str bt_str (r_var (i := 5))) (r_pcons (r_kv (i := 6)) (r_pcons (r_kv (i := 7)) r_pnil)))) r_pnil)))))) (s_cons (s_set (i := 9) z.n (r_lst (r_pcons (r_kv (i := 3)) (r_pcons (r_bin (op_addD z.q) (r_sl z.q (r_var (i := 3)) (r_osome (r_var (i := 4))) r_ono) (r_sl z.q (r_var (i := 3)) r_ono (r_osome (r_var (i := 4))))) (r_pcons (r_bin (op_addD z.q) (r_var (i := 3)) (r_var (i := 3))) (r_pcons (r_sl z.q (r_var (i := 3)) (r_osome r_int) r_ono) (r_pcons (r_rev z.q (r_var (i := 3))) (r_pcons (r_bin (op_addD z.q) (r_bin (op_addD z.q) (r_sl z.q (r_var (i := 3)) r_ono (r_osome (r_var (i := 4)))) (r_tup (r_pcons (r_c z (c__law_pick (P := P) (w := w) (base := base) T) (a_cons (r_var (i := 0)) (a_cons (r_kv (i := 8)) a_nil))) r_pnil))) (r_sl z.q (r_var (i := 3)) (r_osome (r_bin (op_addD z.q) (r_var (i := 4)) r_int)) r_ono)) r_pnil)))))))) (s_cons (s_set (i := 9) z.n (r_bin (op_addD z.q) (r_var (i := 9)) (r_lst (r_pcons (r_callT1 (c_tup z.q) T.z_tuple bt_tuple (r_lc (own := [("own", 10), ("first", 11), ("last", 12)]) z.q z.c z.n (i_seq z.q (r_rev z.q (r_var (i := 3)))) (blkOk_by (N := N__law_bent) (sc := defScope st__law_bent) (by decide +kernel)) (fun s' H' C' cl' fp' => onG (z.blk s' H' _ _ fp') fun zb => (g_tup (n := 3) zb.q zb.c (g_cons (g_nm (i := 10) zb.n) (g_cons (g_nm (i := 11) zb.n) (g_cons (g_nm (i := 12) zb.n) g_nil))))) (fun s' H' C' cl' fp' => onT (z.blk s' H' _ _ fp') fun zb => t_none) (fun s' H' C' cl' fp' => onE (z.blk s' H' _ _ fp') fun zb => (r_tup (r_pcons (r_kv (i := 10)) (r_pcons (r_kv (i := 12)) (r_pcons (r_kv (i := 11)) r_pnil))))))) (r_pcons (r_tup r_pnil) (r_pcons r_non (r_pcons (r_list z.q T.z_list (r_var (i := 3))) (r_pcons (r_bin (op_addD z.q) (r_bin (op_addD z.q) (r_sl z.q (r_var (i := 3)) r_ono (r_osome (r_var (i := 4)))) (r_tup (r_pcons (r_c z (c__law_pick (P := P) (w := w) (base := base) T) (a_cons (r_var (i := 0)) (a_cons (r_kv (i := 8)) a_nil))) r_pnil))) (r_sl z.q (r_var (i := 3)) (r_osome (r_bin (op_addD z.q) (r_var (i := 4)) r_int)) r_ono)) r_pnil)))))))) (s_one (s_ret (r_c z (c__law_pick (P := P) (w := w) (base := base) T) (a_cons (r_var (i := 0)) (a_cons (r_lst (r_pcons (r_mk z (c_Misalignedu_initu (P := P) (w := w) (base := base) T) (a_cons (r_c z (c__law_pick (P := P) (w := w) (base := base) T) (a_cons (r_var (i := 0)) (a_cons (r_kv (i := 9)) a_nil))) a_nil)) (r_pcons (r_mk z (c_Misalignedu_initu (P := P) (w := w) (base := base) T) (a_cons (r_c z (c__law_pick (P := P) (w := w) (base := base) T) (a_cons (r_var (i := 0)) (a_cons (r_kv (i := 9)) a_nil))) a_nil)) (r_pcons (r_mk z (c_Misalignedu_initu (P := P) (w := w) (base := base) T) (a_cons (r_c z (c__law_pick (P := P) (w := w) (base := base) T) (a_cons (r_var (i := 0)) (a_cons (r_kv (i := 9)) a_nil))) a_nil)) (r_pcons (r_kv (i := 3)) (r_pcons r_non r_pnil)))))) a_nil))))))))))))
theorem c__law_bent : FnC P w (sg K cl) mg base 9 "_law_bent" F__law_bent 3 := (ok__law_bent T).c T.m__law_bent
theorem ok__law_name : FnA P w (sg K cl) mg base 3 (ad 26) (fd 26) ["pen"] F__law_name 1 :=
  fn_A (N := N__law_name) (ps := ["pen"]) (k := 2) T.f__law_name T.b__law_name (fnScope_K (by decide +kernel)) fun M cdv A outer s H E z => (s_cons (s_parT (i := 1) (j := 2) z.c z.n (p_cons r_str (p_cons r_str p_nil))) (s_cons (s_set (i := 3) z.n (r_ix z.q (r_lst (r_pcons r_int (r_pcons r_int (r_pcons r_int (r_pcons r_int (r_pcons r_int (r_pcons r_int r_pnil))))))) (r_c z (c__law_draw (P := P) (w := w) (base := base) T) (a_cons (r_var (i := 0)) (a_cons r_int a_nil))))) (s_one (s_ret (r_bin (op_addD z.q) (r_c z (c__law_pick (P := P) (w := w) (base := base) T) (a_cons (r_var (i := 0)) (a_cons (r_kv (i := 1)) a_nil))) (r_join z.q (r_lc (own := [("lap", 4)]) z.q z.c z.n (i_rng T.z_range (r_var (i := 3))) (blkOk_by (N := N__law_name) (sc := defScope st__law_name) (by decide +kernel)) (fun s' H' C' cl' fp' => onG (z.blk s' H' _ _ fp') fun zb => (g_nm (i := 4) zb.n)) (fun s' H' C' cl' fp' => onT (z.blk s' H' _ _ fp') fun zb => t_none) (fun s' H' C' cl' fp' => onE (z.blk s' H' _ _ fp') fun zb => (r_c zb (c__law_pick (P := P) (w := w) (base := base) T) (a_cons (r_var (i := 0)) (a_cons (r_kv (i := 2)) a_nil)))))))))))
theorem c__law_name : FnC P w (sg K cl) mg base 3 "_law_name" F__law_name 1 := (ok__law_name T).c T.m__law_name
theorem ok__law_names : FnA P w (sg K cl) mg base 4 (ad 27) (fd 27) ["pen", "many"] F__law_names 2 :=
  fn_A (N := N__law_names) (ps := ["pen", "many"]) (k := 3) T.f__law_names T.b__law_names (fnScope_K (by decide +kernel)) fun M cdv A outer s H E z => (s_cons (s_set (i := 2) z.n (r_lst r_pnil)) (s_cons (s_for (vs := [3]) z.c (passes_of rfl) (i_rng T.z_range (r_var (i := 1))) (g_nm (i := 3) z.n) (s_cons (s_set (i := 4) z.n (r_c z (c__law_name (P := P) (w := w) (base := base) T) (a_cons (r_var (i := 0)) a_nil))) (s_cons (s_if (t_cmp (op_inDD z.q z.u) (r_var (i := 4)) (r_var (i := 2))) (s_one (s_set (i := 4) z.n (r_bin (op_addD z.q) (r_bin (op_addD z.q) r_str (r_callT1 c_str T.z_str bt_str (r_var (i := 3)))) r_str))) s_nil) (s_cons (s_while (passes_of rfl) (t_cmp (op_inDD z.q z.u) (r_var (i := 4)) (r_var (i := 2))) (s_one (s_set (i := 4) z.n (r_bin (op_addD z.q) (r_var (i := 4)) r_str)))) (s_one (s_expr (r_app (i := 2) (by rfl) (r_kv (i := 4))))))))) (s_one (s_ret (r_callT1 (c_tupN z.q) T.z_tuple bt_tuple (r_var (i := 2)))))))
theorem c__law_names : FnC P w (sg K cl) mg base 4 "_law_names" F__law_names 2 := (ok__law_names T).c T.m__law_names
theorem ok__law_drawn_log : FnA P w (sg K cl) mg base 5 (ad 28) (fd 28) ["pen", "many", "period"] F__law_drawn_log 3 :=
  fn_A (N := N__law_drawn_log) (ps := ["pen", "many", "period"]) (k := 4) T.f__law_drawn_log T.b__law_drawn_log (fnScope_K (by decide +kernel)) fun M cdv A outer s H E z => (s_cons (s_set (i := 3) z.n (r_c z (c__law_names (P := P) (w := w) (base := base) T) (a_cons (r_var (i := 0)) (a_cons (r_kv (i := 1)) a_nil)))) (s_cons (s_par (i := 4) (j := 5) z.c z.n (p_cons (r_lc (own := [("event", 6)]) z.q z.c z.n (i_seq z.q (r_kv (i := 3))) (blkOk_by (N := N__law_drawn_log) (sc := defScope st__law_drawn_log) (by decide +kernel)) (fun s' H' C' cl' fp' => onG (z.blk s' H' _ _ fp') fun zb => (g_nm (i := 6) zb.n)) (fun s' H' C' cl' fp' => onT (z.blk s' H' _ _ fp') fun zb => t_none) (fun s' H' C' cl' fp' => onE (z.blk s' H' _ _ fp') fun zb => (r_c zb (c__law_draw (P := P) (w := w) (base := base) T) (a_cons (r_var (i := 0)) (a_cons (r_kv (i := 2)) a_nil))))) (p_cons (r_lst r_pnil) p_nil))) (s_cons (s_for (vs := [7]) z.c (passes_of rfl) (i_rng T.z_range (r_c z (c__law_draw (P := P) (w := w) (base := base) T) (a_cons (r_var (i := 0)) (a_cons r_int a_nil)))) (g_nm (i := 7) z.n) (s_cons (s_par (i := 8) (j := 9) z.c z.n (p_cons (r_bin op_subD (r_c z (c__law_draw (P := P) (w := w) (base := base) T) (a_cons (r_var (i := 0)) (a_cons r_int a_nil))) r_int) (p_cons (r_lst r_pnil) p_nil))) (s_cons (s_for (vs := [10]) z.c (passes_of rfl) (i_seq z.q (r_kv (i := 4))) (g_nm (i := 10) z.n) (s_cons (s_set (i := 11) z.n (r_bin (op_addD z.q) (r_bin (op_addD z.q) (r_var (i := 10)) (r_bin op_mulD (r_var (i := 8)) (r_var (i := 2)))) (r_c z (c__law_pick (P := P) (w := w) (base := base) T) (a_cons (r_var (i := 0)) (a_cons (r_lst (r_pcons r_int (r_pcons r_int (r_pcons r_int (r_pcons r_int (r_pcons r_int (r_pcons r_int r_pnil))))))) a_nil))))) (s_one (s_expr (r_app (i := 9) (by rfl) (r_ite (t_cmp (op_eqDD z.q z.u) (r_c z (c__law_draw (P := P) (w := w) (base := base) T) (a_cons (r_var (i := 0)) (a_cons r_int a_nil))) r_int) r_non (r_kv (i := 11)))))))) (s_one (s_expr (r_app (i := 5) (by rfl) (r_callT1 (c_tup z.q) T.z_tuple bt_tuple (r_var (i := 9))))))))) (s_one (s_ret (r_tup (r_pcons (r_kv (i := 3)) (r_pcons (r_callT1 (c_tup z.q) T.z_tuple bt_tuple (r_var (i := 5))) r_pnil))))))))
theorem c__law_drawn_log : FnC P w (sg K cl) mg base 5 "_law_drawn_log" F__law_drawn_log 3 := (ok__law_drawn_log T).c T.m__law_drawn_log
theorem ok__law_is : ∀ i : Nat, FnA P w (sg K cl) mg base (0 + i) (ad 25) (fd 25) ["told", "due"] (F__law_is i) 2
  | 0 => fn_N (ps := ["told", "due"]) T.f__law_is T.b__law_is
  | i + 1 => fn_A (N := N__law_is) (ps := ["told", "due"]) T.f__law_is T.b__law_is (fnScope_K (by decide +kernel)) fun M cdv A outer s H E z => have cR := FnA.c (ok__law_is i) T.m__law_is; (s_cons (s_if (t_val z.q (r_isi (u := (.b .tuple)) z.q T.sg trivial T.z_isinstance (pe_ty (S := sg K cl) (u := .b .tuple) (by rfl) (Or.inl ⟨_, rfl, T.z_tuple, bt_tuple⟩)) (r_var (i := 1)))) (s_cons (s_if (w_or (t_not (t_val z.q (r_isi (u := (.b .tuple)) z.q T.sg trivial T.z_isinstance (pe_ty (S := sg K cl) (u := .b .tuple) (by rfl) (Or.inl ⟨_, rfl, T.z_tuple, bt_tuple⟩)) (r_var (i := 0))))) (w_or1 (t_cmp (op_neDD z.q z.u) (r_callB1 (c_len z.q) T.z_len bt_len (r_var (i := 0))) (r_callB1 (c_len z.q) T.z_len bt_len (r_var (i := 1)))))).pt (s_one (s_ret r_bl)) s_nil) (s_one (s_ret (r_cmp (op_eqDD z.q z.u) (r_lc (own := [("at", 2)]) z.q z.c z.n (i_rng T.z_range (r_callB1 (c_len z.q) T.z_len bt_len (r_var (i := 1)))) (blkOk_by (N := N__law_is) (sc := defScope st__law_is) (by decide +kernel)) (fun s' H' C' cl' fp' => onG (z.blk s' H' _ _ fp') fun zb => (g_nm (i := 2) zb.n)) (fun s' H' C' cl' fp' => onT (z.blk s' H' _ _ fp') fun zb => (t_some (t_not (t_val zb.q (r_c zb cR (a_cons (r_ix zb.q (r_var (i := 0)) (r_var (i := 2))) (a_cons (r_ix zb.q (r_var (i := 1)) (r_var (i := 2))) a_nil)) (Nat.le_refl _)))))) (fun s' H' C' cl' fp' => onE (z.blk s' H' _ _ fp') fun zb => (r_kv (i := 2)))) (r_lst r_pnil))))) s_nil) (s_cons (s_if (t_cmp op_isD (r_var (i := 1)) r_non) (s_one (s_ret (r_cmp op_isD (r_var (i := 0)) r_non))) s_nil) (s_cons (s_if (t_cmp op_isD (r_var (i := 1)) r_bl) (s_one (s_ret (r_cmp op_isD (r_var (i := 0)) r_bl))) s_nil) (s_cons (s_if (t_cmp op_isD (r_var (i := 1)) r_bl) (s_one (s_ret (r_cmp op_isD (r_var (i := 0)) r_bl))) s_nil) (s_cons (s_if (t_val z.q (r_isi (u := (.b .str)) z.q T.sg trivial T.z_isinstance (pe_ty (S := sg K cl) (u := .b .str) (by rfl) (Or.inl ⟨_, rfl, T.z_str, bt_str⟩)) (r_var (i := 1)))) (s_one (s_ret (r_and (r_isi (u := (.b .str)) z.q T.sg trivial T.z_isinstance (pe_ty (S := sg K cl) (u := .b .str) (by rfl) (Or.inl ⟨_, rfl, T.z_str, bt_str⟩)) (r_var (i := 0))) (r_one (r_cmp (op_eqDD z.q z.u) (r_var (i := 0)) (r_var (i := 1))))))) s_nil) (s_one (s_ret (r_and (r_isi (u := (.b .int)) z.q T.sg trivial T.z_isinstance (pe_ty (S := sg K cl) (u := .b .int) (by rfl) (Or.inl ⟨_, rfl, T.z_int, bt_int⟩)) (r_var (i := 0))) (r_and (r_not (r_isi (u := (.b .bool)) z.q T.sg trivial T.z_isinstance (pe_ty (S := sg K cl) (u := .b .bool) (by rfl) (Or.inl ⟨_, rfl, T.z_bool, bt_bool⟩)) (r_var (i := 0)))) (r_one (r_cmp (op_eqDD z.q z.u) (r_var (i := 0)) (r_var (i := 1)))))))))))))
theorem c__law_is (i : Nat) : FnC P w (sg K cl) mg base (0 + i) "_law_is" (F__law_is i) 2 := (ok__law_is T i).c T.m__law_is
theorem ok_is_whole : FnA P w (sg K cl) mg base 1 (ad 0) (fd 0) ["value"] F_is_whole 1 :=
  fn_A (N := N_is_whole) (ps := ["value"]) (k := 0) T.f_is_whole T.b_is_whole (fnScope_K (by decide +kernel)) fun M cdv A outer s H E z => (s_one (s_ret (r_and (r_isi (u := (.b .int)) z.q T.sg trivial T.z_isinstance (pe_ty (S := sg K cl) (u := .b .int) (by rfl) (Or.inl ⟨_, rfl, T.z_int, bt_int⟩)) (r_var (i := 0))) (r_one (r_not (r_isi (u := (.b .bool)) z.q T.sg trivial T.z_isinstance (pe_ty (S := sg K cl) (u := .b .bool) (by rfl) (Or.inl ⟨_, rfl, T.z_bool, bt_bool⟩)) (r_var (i := 0))))))))
theorem c_is_whole : FnC P w (sg K cl) mg base 1 "is_whole" F_is_whole 1 := (ok_is_whole T).c T.m_is_whole
theorem ok_is_day : FnA P w (sg K cl) mg base 2 (ad 21) (fd 21) ["many", "value"] F_is_day 2 :=
  fn_A (N := N_is_day) (ps := ["many", "value"]) (k := 1) T.f_is_day T.b_is_day (fnScope_K (by decide +kernel)) fun M cdv A outer s H E z => (s_cons (s_if (w_or (t_not (t_val z.q (r_isi (u := (.b .tuple)) z.q T.sg trivial T.z_isinstance (pe_ty (S := sg K cl) (u := .b .tuple) (by rfl) (Or.inl ⟨_, rfl, T.z_tuple, bt_tuple⟩)) (r_var (i := 1))))) (w_or1 (t_cmp (op_neDD z.q z.u) (r_callB1 (c_len z.q) T.z_len bt_len (r_var (i := 1))) (r_var (i := 0))))).pt (s_one (s_ret r_bl)) s_nil) (s_one (s_ret (r_callB1 (c_all z.q z.c) T.z_all bt_all (r_lc (own := [("time", 2)]) z.q z.c z.n (i_seq z.q (r_kv (i := 1))) (blkOk_by (N := N_is_day) (sc := defScope st_is_day) (by decide +kernel)) (fun s' H' C' cl' fp' => onG (z.blk s' H' _ _ fp') fun zb => (g_nm (i := 2) zb.n)) (fun s' H' C' cl' fp' => onT (z.blk s' H' _ _ fp') fun zb => t_none) (fun s' H' C' cl' fp' => onE (z.blk s' H' _ _ fp') fun zb => (r_or (r_cmp op_isD (r_var (i := 2)) r_non) (r_one (r_c zb (c_is_whole (P := P) (w := w) (base := base) T) (a_cons (r_kv (i := 2)) a_nil))))))))))
theorem c_is_day : FnC P w (sg K cl) mg base 2 "is_day" F_is_day 2 := (ok_is_day T).c T.m_is_day
theorem ok_is_name : FnA P w (sg K cl) mg base 1 (ad 3) (fd 3) ["value"] F_is_name 1 :=
  fn_A (N := N_is_name) (ps := ["value"]) (k := 0) T.f_is_name T.b_is_name (fnScope_K (by decide +kernel)) fun M cdv A outer s H E z => (s_cons (s_if (w_or (t_not (t_val z.q (r_isi (u := (.b .str)) z.q T.sg trivial T.z_isinstance (pe_ty (S := sg K cl) (u := .b .str) (by rfl) (Or.inl ⟨_, rfl, T.z_str, bt_str⟩)) (r_var (i := 0))))) (w_or (t_not (t_chain op_leD op_leD r_int (r_callB1 (c_len z.q) T.z_len bt_len (r_var (i := 0))) r_int)) (w_or1 (t_cmp (op_notInDD z.q z.u) (r_ix z.q (r_var (i := 0)) r_int) (r_gstr (T.g_LETTERS.choose_spec)))))).pt (s_one (s_ret r_bl)) s_nil) (s_one (s_ret (r_callB1 (c_all z.q z.c) T.z_all bt_all (r_lc (own := [("sign", 1)]) z.q z.c z.n (i_seq z.q (r_kv (i := 0))) (blkOk_by (N := N_is_name) (sc := defScope st_is_name) (by decide +kernel)) (fun s' H' C' cl' fp' => onG (z.blk s' H' _ _ fp') fun zb => (g_nm (i := 1) zb.n)) (fun s' H' C' cl' fp' => onT (z.blk s' H' _ _ fp') fun zb => t_none) (fun s' H' C' cl' fp' => onE (z.blk s' H' _ _ fp') fun zb => (r_cmp (op_inDD zb.q zb.u) (r_var (i := 1)) (r_gstr (T.g_SIGNS.choose_spec)))))))))
theorem c_is_name : FnC P w (sg K cl) mg base 1 "is_name" F_is_name 1 := (ok_is_name T).c T.m_is_name
theorem ok_DayLogu_initu : FnA P w (sg K cl) mg base 3 (ad 18) (fd 18) ["self", "events", "days"] F_DayLogu_initu 3 :=
  fn_A (N := N_DayLogu_initu) (ps := ["self", "events", "days"]) (k := 2) T.f_DayLogu_initu T.b_DayLogu_initu (fnScope_K (by decide +kernel)) fun M cdv A outer s H E z => (s_cons (s_if (w_or (t_not (t_val z.q (r_isi2 (u := (.b .list)) (u' := (.b .tuple)) z.q T.sg trivial trivial T.z_isinstance (pe_ty (S := sg K cl) (u := .b .list) (by rfl) (Or.inl ⟨_, rfl, T.z_list, bt_list⟩)) (pe_ty (S := sg K cl) (u := .b .tuple) (by rfl) (Or.inl ⟨_, rfl, T.z_tuple, bt_tuple⟩)) (r_var (i := 1))))) (w_or1 (t_not (t_val z.q (r_var (i := 1)))))).pt (s_one s_nev) s_nil) (s_cons (s_for (vs := [3, 4]) z.c (passes_of rfl) (i_enum z.q T.z_enumerate (r_kv (i := 1))) (g_tup (n := 2) z.q z.c (g_cons (g_nm (i := 3) z.n) (g_cons (g_nm (i := 4) z.n) g_nil))) (s_cons (s_if (t_not (t_val z.q (r_c z (c_is_name (P := P) (w := w) (base := base) T) (a_cons (r_kv (i := 4)) a_nil)))) (s_one s_nev) s_nil) (s_one (s_if (t_cmp (op_inDD z.q z.u) (r_var (i := 4)) (r_sl z.q (r_var (i := 1)) r_ono (r_osome (r_var (i := 3))))) (s_one s_nev) s_nil)))) (s_cons (s_if (t_not (t_val z.q (r_isi2 (u := (.b .list)) (u' := (.b .tuple)) z.q T.sg trivial trivial T.z_isinstance (pe_ty (S := sg K cl) (u := .b .list) (by rfl) (Or.inl ⟨_, rfl, T.z_list, bt_list⟩)) (pe_ty (S := sg K cl) (u := .b .tuple) (by rfl) (Or.inl ⟨_, rfl, T.z_tuple, bt_tuple⟩)) (r_var (i := 2))))) (s_one s_nev) s_nil) (s_cons (s_for (vs := [5]) z.c (passes_of rfl) (i_seq z.q (r_kv (i := 2))) (g_nm (i := 5) z.n) (s_one (s_if (t_not (t_val z.q (r_c z (c_is_day (P := P) (w := w) (base := base) T) (a_cons (r_callB1 (c_len z.q) T.z_len bt_len (r_var (i := 1))) (a_cons (r_kv (i := 5)) a_nil))))) (s_one s_nev) s_nil))) (s_cons (s_fld (i := 0) z.q T.sg (r_callT1 (c_tupN z.q) T.z_tuple bt_tuple (r_var (i := 1)))) (s_one (s_fld (i := 0) z.q T.sg (r_callT1 (c_tup z.q) T.z_tuple bt_tuple (r_var (i := 2))))))))))
theorem c_DayLogu_initu : MkC P w (sg K cl) mg base 3 "DayLog" 1 F_DayLogu_initu 3 := (ok_DayLogu_initu T).mkc T.mk1 T.m_DayLog
theorem ok__law_made_log : FnA P w (sg K cl) mg base 5 (ad 29) (fd 29) ["log"] F__law_made_log 1 :=
  fn_A (N := N__law_made_log) (ps := ["log"]) (k := 4) T.f__law_made_log T.b__law_made_log (fnScope_K (by decide +kernel)) fun M cdv A outer s H E z => (s_one (s_ret (r_mk z (c_DayLogu_initu (P := P) (w := w) (base := base) T) (a_cons (r_ix z.q (r_var (i := 0)) r_int) (a_cons (r_ix z.q (r_var (i := 0)) r_int) a_nil)))))
theorem c__law_made_log : FnC P w (sg K cl) mg base 5 "_law_made_log" F__law_made_log 1 := (ok__law_made_log T).c T.m__law_made_log
theorem ok__law_misaligned_right : FnA P w (sg K cl) mg base 1 (ad 30) (fd 30) ["log", "period", "told"] F__law_misaligned_right 3 :=
  fn_A (N := N__law_misaligned_right) (ps := ["log", "period", "told"]) (k := 0) T.f__law_misaligned_right T.b__law_misaligned_right (fnScope_K (by decide +kernel)) fun M cdv A outer s H E z => (s_cons (s_if (w_or (t_not (t_val z.q (r_isi (u := (.c 0)) z.q T.sg (show (0 : Nat) ∈ ICS from by decide) T.z_isinstance (pe_ty (S := sg K cl) (u := .c 0) (by rfl) (Or.inr ⟨_, rfl, T.m_Misaligned⟩)) (r_var (i := 2))))) (w_or (t_not (t_val z.q (r_isi (u := (.b .tuple)) z.q T.sg trivial T.z_isinstance (pe_ty (S := sg K cl) (u := .b .tuple) (by rfl) (Or.inl ⟨_, rfl, T.z_tuple, bt_tuple⟩)) (r_fld z.q T.sg (r_var (i := 2)))))) (w_or1 (t_cmp op_ltD (r_callB1 (c_len z.q) T.z_len bt_len (r_fld z.q T.sg (r_var (i := 2)))) r_int)))).pt (s_one (s_ret r_bl)) s_nil) (s_cons (s_set (i := 3) z.n r_int) (s_cons (s_for (vs := [4]) z.c (passes_of rfl) (i_seq z.q (r_fld z.q T.sg (r_var (i := 2)))) (g_nm (i := 4) z.n) (s_cons (s_if (w_or (t_not (t_val z.q (r_isi (u := (.b .tuple)) z.q T.sg trivial T.z_isinstance (pe_ty (S := sg K cl) (u := .b .tuple) (by rfl) (Or.inl ⟨_, rfl, T.z_tuple, bt_tuple⟩)) (r_var (i := 4))))) (w_or (t_cmp (op_neDD z.q z.u) (r_callB1 (c_len z.q) T.z_len bt_len (r_var (i := 4))) r_int) (w_or (t_val z.q (r_isi (u := (.b .bool)) z.q T.sg trivial T.z_isinstance (pe_ty (S := sg K cl) (u := .b .bool) (by rfl) (Or.inl ⟨_, rfl, T.z_bool, bt_bool⟩)) (r_ix z.q (r_var (i := 4)) r_int))) (w_or1 (t_not (t_val z.q (r_isi (u := (.b .int)) z.q T.sg trivial T.z_isinstance (pe_ty (S := sg K cl) (u := .b .int) (by rfl) (Or.inl ⟨_, rfl, T.z_int, bt_int⟩)) (r_ix z.q (r_var (i := 4)) r_int)))))))).pt (s_one (s_ret r_bl)) s_nil) (s_cons (s_if (w_or (t_not (t_chain op_leD op_ltD r_int (r_ix z.q (r_var (i := 4)) r_int) (r_callB1 (c_len z.q) T.z_len bt_len (r_ix z.q (r_var (i := 0)) r_int)))) (w_or1 (t_cmp (op_eqDD z.q z.u) (r_ix z.q (r_var (i := 4)) r_int) (r_ix z.q (r_var (i := 4)) r_int)))).pt (s_one (s_ret r_bl)) s_nil) (s_cons (s_if (t_cmp (op_neDD z.q z.u) (r_lc (own := [("event", 5)]) z.q z.c z.n (i_seq z.q (r_sl z.q (r_var (i := 4)) (r_osome r_int) r_ono)) (blkOk_by (N := N__law_misaligned_right) (sc := defScope st__law_misaligned_right) (by decide +kernel)) (fun s' H' C' cl' fp' => onG (z.blk s' H' _ _ fp') fun zb => (g_nm (i := 5) zb.n)) (fun s' H' C' cl' fp' => onT (z.blk s' H' _ _ fp') fun zb => (t_some (w_or (t_not (t_val zb.q (r_isi (u := (.b .str)) zb.q T.sg trivial T.z_isinstance (pe_ty (S := sg K cl) (u := .b .str) (by rfl) (Or.inl ⟨_, rfl, T.z_str, bt_str⟩)) (r_var (i := 5))))) (w_or1 (t_cmp (op_notInDD zb.q zb.u) (r_var (i := 5)) (r_ix zb.q (r_var (i := 0)) r_int)))).pt)) (fun s' H' C' cl' fp' => onE (z.blk s' H' _ _ fp') fun zb => (r_kv (i := 5)))) (r_lst r_pnil)) (s_one (s_ret r_bl)) s_nil) (s_cons (s_pat (vs := [6, 7]) (r_lc (own := [("event", 5)]) z.q z.c z.n (i_seq z.q (r_sl z.q (r_var (i := 4)) (r_osome r_int) r_ono)) (blkOk_by (N := N__law_misaligned_right) (sc := defScope st__law_misaligned_right) (by decide +kernel)) (fun s' H' C' cl' fp' => onG (z.blk s' H' _ _ fp') fun zb => (g_nm (i := 5) zb.n)) (fun s' H' C' cl' fp' => onT (z.blk s' H' _ _ fp') fun zb => t_none) (fun s' H' C' cl' fp' => onE (z.blk s' H' _ _ fp') fun zb => (r_ix zb.q (r_ix zb.q (r_ix zb.q (r_var (i := 0)) r_int) (r_ix zb.q (r_var (i := 4)) r_int)) (r_idx zb.q (r_ix zb.q (r_var (i := 0)) r_int) (r_var (i := 5)))))) (g_tup (n := 2) z.q z.c (g_cons (g_nm (i := 6) z.n) (g_cons (g_nm (i := 7) z.n) g_nil)))) (s_cons (s_if (w_or (t_cmp op_isD (r_var (i := 6)) r_non) (w_or1 (t_cmp op_isD (r_var (i := 7)) r_non))).pt (s_one (s_ret r_bl)) s_nil) (s_one (s_set (i := 3) z.n (r_bin op_subD (r_bin (op_addD z.q) (r_var (i := 3)) (r_var (i := 7))) (r_var (i := 6))))))))))) (s_cons (s_if (t_cmp (op_neDD z.q z.u) (r_lc (own := [("at", 8)]) z.q z.c z.n (i_rng T.z_range (r_callB1 (c_len z.q) T.z_len bt_len (r_fld z.q T.sg (r_var (i := 2))))) (blkOk_by (N := N__law_misaligned_right) (sc := defScope st__law_misaligned_right) (by decide +kernel)) (fun s' H' C' cl' fp' => onG (z.blk s' H' _ _ fp') fun zb => (g_nm (i := 8) zb.n)) (fun s' H' C' cl' fp' => onT (z.blk s' H' _ _ fp') fun zb => (t_some (t_cmp (op_neDD zb.q zb.u) (r_ix zb.q (r_ix zb.q (r_fld zb.q T.sg (r_var (i := 2))) (r_bin op_subD (r_var (i := 8)) r_int)) r_int) (r_ix zb.q (r_ix zb.q (r_fld zb.q T.sg (r_var (i := 2))) (r_var (i := 8))) r_int)))) (fun s' H' C' cl' fp' => onE (z.blk s' H' _ _ fp') fun zb => (r_kv (i := 8)))) (r_lst r_pnil)) (s_one (s_ret r_bl)) s_nil) (s_one (s_ret (r_cmp (op_neDD z.q z.u) (r_bin op_modD (r_callT1 c_int T.z_int bt_int (r_var (i := 3))) (r_var (i := 1))) r_int)))))))
theorem c__law_misaligned_right : FnC P w (sg K cl) mg base 1 "_law_misaligned_right" F__law_misaligned_right 3 := (ok__law_misaligned_right T).c T.m__law_misaligned_right
theorem ok__law_pen : FnA P w (sg K cl) mg base 1 (ad 22) (fd 22) ["script"] F__law_pen 1 :=
  fn_A (N := N__law_pen) (ps := ["script"]) (k := 0) T.f__law_pen T.b__law_pen (fnScope_K (by decide +kernel)) fun M cdv A outer s H E z => (s_cons (s_set (i := 1) z.n r_int) (s_cons (s_for (vs := [2]) z.c (passes_of rfl) (i_seq z.q (r_kv (i := 0))) (g_nm (i := 2) z.n) (s_one (s_set (i := 1) z.n (r_bin op_modD (r_callT1 c_int T.z_int bt_int (r_bin (op_addD z.q) (r_bin op_mulD (r_var (i := 1)) r_int) (r_var (i := 2)))) r_int)))) (s_one (s_ret (r_disp (fs := [((litF (.str "cells")), (unNF FL lstOfD (varF 0))), ((litF (.str "at")), (litF (.int 0))), ((litF (.str "digits")), (litF (.int 0))), ((litF (.str "count")), (litF (.int 0))), ((litF (.str "fold")), (kvF FL 1))]) (pps_cons r_str (r_list z.q T.z_list (r_var (i := 0))) (pps_cons r_str r_int (pps_cons r_str r_int (pps_cons r_str r_int (pps_cons r_str (r_kv (i := 1)) pps_nil))))))))))
theorem c__law_pen : FnC P w (sg K cl) mg base 1 "_law_pen" F__law_pen 1 := (ok__law_pen T).c T.m__law_pen
theorem ok_seen_on : FnA P w (sg K cl) mg base 1 (ad 8) (fd 8) ["times"] F_seen_on 1 :=
  fn_A (N := N_seen_on) (ps := ["times"]) (k := 0) T.f_seen_on T.b_seen_on (fnScope_K (by decide +kernel)) fun M cdv A outer s H E z => (s_one (s_ret (r_lc (own := [("event", 1), ("time", 2)]) z.q z.c z.n (i_enum z.q T.z_enumerate (r_kv (i := 0))) (blkOk_by (N := N_seen_on) (sc := defScope st_seen_on) (by decide +kernel)) (fun s' H' C' cl' fp' => onG (z.blk s' H' _ _ fp') fun zb => (g_tup (n := 2) zb.q zb.c (g_cons (g_nm (i := 1) zb.n) (g_cons (g_nm (i := 2) zb.n) g_nil)))) (fun s' H' C' cl' fp' => onT (z.blk s' H' _ _ fp') fun zb => (t_some (t_cmp op_isNotD (r_var (i := 2)) r_non))) (fun s' H' C' cl' fp' => onE (z.blk s' H' _ _ fp') fun zb => (r_kv (i := 1))))))
theorem c_seen_on : FnC P w (sg K cl) mg base 1 "seen_on" F_seen_on 1 := (ok_seen_on T).c T.m_seen_on
theorem ok_differences : FnA P w (sg K cl) mg base 2 (ad 9) (fd 9) ["log"] F_differences 1 :=
  fn_A (N := N_differences) (ps := ["log"]) (k := 1) T.f_differences T.b_differences (fnScope_K (by decide +kernel)) fun M cdv A outer s H E z => (s_cons (s_set (i := 1) z.n (r_lst r_pnil)) (s_cons (s_for (vs := [2, 3]) z.c (passes_of rfl) (i_enum z.q T.z_enumerate (r_fld z.q T.sg (r_var (i := 0)))) (g_tup (n := 2) z.q z.c (g_cons (g_nm (i := 2) z.n) (g_cons (g_nm (i := 3) z.n) g_nil))) (s_cons (s_set (i := 4) z.n (r_c z (c_seen_on (P := P) (w := w) (base := base) T) (a_cons (r_kv (i := 3)) a_nil))) (s_one (s_for (vs := [5]) z.c (passes_of rfl) (i_seq z.q (r_sl z.q (r_var (i := 4)) (r_osome r_int) r_ono)) (g_nm (i := 5) z.n) (s_one (s_expr (r_app (i := 1) (by rfl) (r_tup (r_pcons (r_kv (i := 2)) (r_pcons (r_ix z.q (r_var (i := 4)) r_int) (r_pcons (r_kv (i := 5)) (r_pcons (r_bin op_subD (r_ix z.q (r_var (i := 3)) (r_var (i := 5))) (r_ix z.q (r_var (i := 3)) (r_ix z.q (r_var (i := 4)) r_int))) r_pnil)))))))))))) (s_one (s_ret (r_var (i := 1))))))
theorem c_differences : FnC P w (sg K cl) mg base 2 "differences" F_differences 1 := (ok_differences T).c T.m_differences
theorem ok_steps_at : FnA P w (sg K cl) mg base 1 (ad 10) (fd 10) ["rows", "event"] F_steps_at 2 :=
  fn_A (N := N_steps_at) (ps := ["rows", "event"]) (k := 0) T.f_steps_at T.b_steps_at (fnScope_K (by decide +kernel)) fun M cdv A outer s H E z => (s_cons (s_set (i := 2) z.n (r_lst r_pnil)) (s_cons (s_for (vs := [3, 4, 5, 6]) z.c (passes_of rfl) (i_seq z.q (r_kv (i := 0))) (g_tup (n := 4) z.q z.c (g_cons (g_nm (i := 3) z.n) (g_cons (g_nm (i := 4) z.n) (g_cons (g_nm (i := 5) z.n) (g_cons (g_nm (i := 6) z.n) g_nil))))) (s_cons (s_if (t_cmp (op_eqDD z.q z.u) (r_var (i := 4)) (r_var (i := 1))) (s_one (s_expr (r_app (i := 2) (by rfl) (r_tup (r_pcons (r_kv (i := 3)) (r_pcons (r_kv (i := 5)) (r_pcons (r_kv (i := 6)) r_pnil))))))) s_nil) (s_one (s_if (t_cmp (op_eqDD z.q z.u) (r_var (i := 5)) (r_var (i := 1))) (s_one (s_expr (r_app (i := 2) (by rfl) (r_tup (r_pcons (r_kv (i := 3)) (r_pcons (r_kv (i := 4)) (r_pcons (r_neg (r_var (i := 6))) r_pnil))))))) s_nil)))) (s_one (s_ret (r_var (i := 2))))))
theorem c_steps_at : FnC P w (sg K cl) mg base 1 "steps_at" F_steps_at 2 := (ok_steps_at T).c T.m_steps_at
theorem ok_grown : FnA P w (sg K cl) mg base 2 (ad 11) (fd 11) ["rows", "period", "rests", "ways", "root"] F_grown 5 :=
  fn_A (N := N_grown) (ps := ["rows", "period", "rests", "ways", "root"]) (k := 1) T.f_grown T.b_grown (fnScope_K (by decide +kernel)) fun M cdv A outer s H E z => (s_cons (s_set (i := 5) z.n (r_lst (r_pcons (r_kv (i := 4)) r_pnil))) (s_cons (s_while (passes_of rfl) (t_val z.q (r_var (i := 5))) (s_cons (s_set (i := 6) z.n (r_pop (i := 5))) (s_one (s_for (vs := [7, 8, 9]) z.c (passes_of rfl) (i_seq z.q (r_c z (c_steps_at (P := P) (w := w) (base := base) T) (a_cons (r_kv (i := 0)) (a_cons (r_kv (i := 6)) a_nil)))) (g_tup (n := 3) z.q z.c (g_cons (g_nm (i := 7) z.n) (g_cons (g_nm (i := 8) z.n) (g_cons (g_nm (i := 9) z.n) g_nil)))) (s_cons (s_set (i := 10) z.n (r_bin op_modD (r_bin (op_addD z.q) (r_dget z.u (r_var (i := 2)) (r_var (i := 6))) (r_var (i := 9))) (r_var (i := 1)))) (s_one (s_if (t_cmp (op_notInDD z.q z.u) (r_var (i := 8)) (r_var (i := 2))) (s_cons (s_tgt (r_tup (r_pcons (r_kv (i := 10)) (r_pcons (r_tup (r_pcons (r_kv (i := 7)) (r_pcons (r_kv (i := 6)) r_pnil))) r_pnil))) (g_tupG z.q z.c (gs_cons (g_sub (j := 2) z.u (r_var (i := 8))) (gs_cons (g_sub (j := 3) z.u (r_var (i := 8))) gs_nil)))) (s_one (s_expr (r_app (i := 5) (by rfl) (r_kv (i := 8)))))) (s_one (s_if (t_cmp (op_neDD z.q z.u) (r_dget z.u (r_var (i := 2)) (r_var (i := 8))) (r_var (i := 10))) (s_one (s_ret (r_tup (r_pcons (r_kv (i := 7)) (r_pcons (r_kv (i := 6)) (r_pcons (r_kv (i := 8)) r_pnil)))))) s_nil))))))))) (s_one (s_ret r_non))))
theorem c_grown : FnC P w (sg K cl) mg base 2 "grown" F_grown 5 := (ok_grown T).c T.m_grown
theorem ok_need_period : FnA P w (sg K cl) mg base 2 (ad 4) (fd 4) ["period"] F_need_period 1 :=
  fn_A (N := N_need_period) (ps := ["period"]) (k := 1) T.f_need_period T.b_need_period (fnScope_K (by decide +kernel)) fun M cdv A outer s H E z => (s_one (s_if (w_or (t_not (t_val z.q (r_c z (c_is_whole (P := P) (w := w) (base := base) T) (a_cons (r_kv (i := 0)) a_nil)))) (w_or1 (t_not (t_chain op_leD op_leD r_int (r_var (i := 0)) (r_gint (T.g_MOST_PERIOD.choose_spec)))))).pt (s_one s_nev) s_nil))
theorem c_need_period : FnC P w (sg K cl) mg base 2 "need_period" F_need_period 1 := (ok_need_period T).c T.m_need_period
theorem ok_number_of_day : FnA P w (sg K cl) mg base 2 (ad 14) (fd 14) ["times", "period", "rests"] F_number_of_day 3 :=
  fn_A (N := N_number_of_day) (ps := ["times", "period", "rests"]) (k := 1) T.f_number_of_day T.b_number_of_day (fnScope_K (by decide +kernel)) fun M cdv A outer s H E z => (s_cons (s_set (i := 3) z.n (r_c z (c_seen_on (P := P) (w := w) (base := base) T) (a_cons (r_kv (i := 0)) a_nil))) (s_one (s_ret (r_ite (t_val z.q (r_var (i := 3))) (r_bin op_modD (r_bin op_subD (r_dget z.u (r_var (i := 2)) (r_ix z.q (r_var (i := 3)) r_int)) (r_ix z.q (r_var (i := 0)) (r_ix z.q (r_var (i := 3)) r_int))) (r_var (i := 1))) r_int))))
theorem c_number_of_day : FnC P w (sg K cl) mg base 2 "number_of_day" F_number_of_day 3 := (ok_number_of_day T).c T.m_number_of_day
theorem ok_way_to : FnA P w (sg K cl) mg base 1 (ad 12) (fd 12) ["ways", "event"] F_way_to 2 :=
  fn_A (N := N_way_to) (ps := ["ways", "event"]) (k := 0) T.f_way_to T.b_way_to (fnScope_K (by decide +kernel)) fun M cdv A outer s H E z => (s_cons (s_set (i := 2) z.n (r_lst r_pnil)) (s_cons (s_while (passes_of rfl) (t_cmp (op_inDD z.q z.u) (r_var (i := 1)) (r_var (i := 0))) (s_cons (s_pat (vs := [3, 4]) (r_dget z.u (r_var (i := 0)) (r_var (i := 1))) (g_tup (n := 2) z.q z.c (g_cons (g_nm (i := 3) z.n) (g_cons (g_nm (i := 4) z.n) g_nil)))) (s_cons (s_expr (r_app (i := 2) (by rfl) (r_tup (r_pcons (r_kv (i := 3)) (r_pcons (r_kv (i := 4)) (r_pcons (r_kv (i := 1)) r_pnil)))))) (s_one (s_set (i := 1) z.n (r_kv (i := 4))))))) (s_one (s_ret (r_rev z.q (r_var (i := 2)))))))
theorem c_way_to : FnC P w (sg K cl) mg base 1 "way_to" F_way_to 2 := (ok_way_to T).c T.m_way_to
theorem ok_round_of : FnA P w (sg K cl) mg base 2 (ad 13) (fd 13) ["log", "ways", "step"] F_round_of 3 :=
  fn_A (N := N_round_of) (ps := ["log", "ways", "step"]) (k := 1) T.f_round_of T.b_round_of (fnScope_K (by decide +kernel)) fun M cdv A outer s H E z => (s_cons (s_pat (vs := [3, 4, 5]) (r_kv (i := 2)) (g_tup (n := 3) z.q z.c (g_cons (g_nm (i := 3) z.n) (g_cons (g_nm (i := 4) z.n) (g_cons (g_nm (i := 5) z.n) g_nil))))) (s_cons (s_setLc (i := 6) (own := [("own", 7), ("first", 8), ("last", 9)]) z.q z.c z.n (i_seq z.q (r_rev z.q (r_c z (c_way_to (P := P) (w := w) (base := base) T) (a_cons (r_var (i := 1)) (a_cons (r_kv (i := 5)) a_nil))))) (blkOk_by (N := N_round_of) (sc := defScope st_round_of) (by decide +kernel)) (fun s' H' C' cl' fp' => onG (z.blk s' H' _ _ fp') fun zb => (g_tup (n := 3) zb.q zb.c (g_cons (g_nm (i := 7) zb.n) (g_cons (g_nm (i := 8) zb.n) (g_cons (g_nm (i := 9) zb.n) g_nil))))) (fun s' H' C' cl' fp' => onT (z.blk s' H' _ _ fp') fun zb => t_none) (fun s' H' C' cl' fp' => onE (z.blk s' H' _ _ fp') fun zb => (r_tup (r_pcons (r_kv (i := 7)) (r_pcons (r_kv (i := 9)) (r_pcons (r_kv (i := 8)) r_pnil)))))) (s_cons (s_set (i := 10) z.n (r_bin (op_addD z.q) (r_bin (op_addD z.q) (r_c z (c_way_to (P := P) (w := w) (base := base) T) (a_cons (r_var (i := 1)) (a_cons (r_kv (i := 4)) a_nil))) (r_lst (r_pcons (r_kv (i := 2)) r_pnil))) (r_var (i := 6)))) (s_one (s_ret (r_callT1 (c_tup z.q) T.z_tuple bt_tuple (r_lc (own := [("own", 7), ("first", 8), ("last", 9)]) z.q z.c z.n (i_seq z.q (r_kv (i := 10))) (blkOk_by (N := N_round_of) (sc := defScope st_round_of) (by decide +kernel)) (fun s' H' C' cl' fp' => onG (z.blk s' H' _ _ fp') fun zb => (g_tup (n := 3) zb.q zb.c (g_cons (g_nm (i := 7) zb.n) (g_cons (g_nm (i := 8) zb.n) (g_cons (g_nm (i := 9) zb.n) g_nil))))) (fun s' H' C' cl' fp' => onT (z.blk s' H' _ _ fp') fun zb => t_none) (fun s' H' C' cl' fp' => onE (z.blk s' H' _ _ fp') fun zb => (r_tup (r_pcons (r_kv (i := 7)) (r_pcons (r_ix zb.q (r_fld zb.q T.sg (r_var (i := 0))) (r_var (i := 8))) (r_pcons (r_ix zb.q (r_fld zb.q T.sg (r_var (i := 0))) (r_var (i := 9))) r_pnil))))))))))))
theorem c_round_of : FnC P w (sg K cl) mg base 2 "round_of" F_round_of 3 := (ok_round_of T).c T.m_round_of
theorem ok_lining : FnA P w (sg K cl) mg base 9 (ad 15) (fd 15) ["log", "period"] F_lining 2 :=
  fn_A (N := N_lining) (ps := ["log", "period"]) (k := 8) T.f_lining T.b_lining (fnScope_K (by decide +kernel)) fun M cdv A outer s H E z => (s_cons (s_expr (r_c z (c_need_period (P := P) (w := w) (base := base) T) (a_cons (r_kv (i := 1)) a_nil))) (s_cons (s_parT3 (i := 2) (j := 3) (k := 4) z.c z.n (p_cons (r_c z (c_differences (P := P) (w := w) (base := base) T) (a_cons (r_kv (i := 0)) a_nil)) (p_cons r_dnewK (p_cons r_dnewK p_nil)))) (s_cons (s_for (vs := [5]) z.c (passes_of rfl) (i_seq z.q (r_fld z.q T.sg (r_var (i := 0)))) (g_nm (i := 5) z.n) (s_cons (s_set (i := 6) z.n (r_c z (c_seen_on (P := P) (w := w) (base := base) T) (a_cons (r_kv (i := 5)) a_nil))) (s_one (s_if (w_and (t_val z.q (r_var (i := 6))) (w_and1 (t_cmp (op_notInDD z.q z.u) (r_ix z.q (r_var (i := 6)) r_int) (r_var (i := 3))))).pt (s_cons (s_tgt (r_bin op_modD (r_ix z.q (r_var (i := 5)) (r_ix z.q (r_var (i := 6)) r_int)) (r_var (i := 1))) (g_sub (j := 3) z.u (r_ix z.q (r_var (i := 6)) r_int))) (s_cons (s_set (i := 7) z.n (r_c z (c_grown (P := P) (w := w) (base := base) T) (a_cons (r_kv (i := 2)) (a_cons (r_kv (i := 1)) (a_cons (r_var (i := 3)) (a_cons (r_var (i := 4)) (a_cons (r_ix z.q (r_var (i := 6)) r_int) a_nil))))))) (s_one (s_if (t_cmp op_isNotD (r_var (i := 7)) r_non) (s_one (s_ret (r_mk z (c_Misalignedu_initu (P := P) (w := w) (base := base) T) (a_cons (r_c z (c_round_of (P := P) (w := w) (base := base) T) (a_cons (r_kv (i := 0)) (a_cons (r_var (i := 4)) (a_cons (r_kv (i := 7)) a_nil)))) a_nil)))) s_nil)))) s_nil)))) (s_one (s_ret (r_callT1 (c_tup z.q) T.z_tuple bt_tuple (r_lc (own := [("times", 5)]) z.q z.c z.n (i_seq z.q (r_fld z.q T.sg (r_var (i := 0)))) (blkOk_by (N := N_lining) (sc := defScope st_lining) (by decide +kernel)) (fun s' H' C' cl' fp' => onG (z.blk s' H' _ _ fp') fun zb => (g_nm (i := 5) zb.n)) (fun s' H' C' cl' fp' => onT (z.blk s' H' _ _ fp') fun zb => t_none) (fun s' H' C' cl' fp' => onE (z.blk s' H' _ _ fp') fun zb => (r_c zb (c_number_of_day (P := P) (w := w) (base := base) T) (a_cons (r_kv (i := 5)) (a_cons (r_kv (i := 1)) (a_cons (r_var (i := 3)) a_nil))))))))))))
theorem c_lining : FnC P w (sg K cl) mg base 9 "lining" F_lining 2 := (ok_lining T).c T.m_lining
theorem ok_is_index : FnA P w (sg K cl) mg base 2 (ad 2) (fd 2) ["value", "many"] F_is_index 2 :=
  fn_A (N := N_is_index) (ps := ["value", "many"]) (k := 1) T.f_is_index T.b_is_index (fnScope_K (by decide +kernel)) fun M cdv A outer s H E z => (s_one (s_ret (r_and (r_c z (c_is_whole (P := P) (w := w) (base := base) T) (a_cons (r_kv (i := 0)) a_nil)) (r_one (r_chain op_leD op_ltD r_int (r_var (i := 0)) (r_var (i := 1)))))))
theorem c_is_index : FnC P w (sg K cl) mg base 2 "is_index" F_is_index 2 := (ok_is_index T).c T.m_is_index
theorem ok_is_log_step : FnA P w (sg K cl) mg base 3 (ad 16) (fd 16) ["log", "value"] F_is_log_step 2 :=
  fn_A (N := N_is_log_step) (ps := ["log", "value"]) (k := 2) T.f_is_log_step T.b_is_log_step (fnScope_K (by decide +kernel)) fun M cdv A outer s H E z => (s_cons (s_if (w_or (t_not (t_val z.q (r_isi (u := (.b .tuple)) z.q T.sg trivial T.z_isinstance (pe_ty (S := sg K cl) (u := .b .tuple) (by rfl) (Or.inl ⟨_, rfl, T.z_tuple, bt_tuple⟩)) (r_var (i := 1))))) (w_or (t_cmp (op_neDD z.q z.u) (r_callB1 (c_len z.q) T.z_len bt_len (r_var (i := 1))) r_int) (w_or1 (t_not (t_val z.q (r_c z (c_is_index (P := P) (w := w) (base := base) T) (a_cons (r_ix z.q (r_var (i := 1)) r_int) (a_cons (r_callB1 (c_len z.q) T.z_len bt_len (r_fld z.q T.sg (r_var (i := 0)))) a_nil)))))))).pt (s_one (s_ret r_bl)) s_nil) (s_cons (s_if (w_or (t_not (t_val z.q (r_callB1 (c_all z.q z.c) T.z_all bt_all (r_lc (own := [("event", 2)]) z.q z.c z.n (i_seq z.q (r_sl z.q (r_var (i := 1)) (r_osome r_int) r_ono)) (blkOk_by (N := N_is_log_step) (sc := defScope st_is_log_step) (by decide +kernel)) (fun s' H' C' cl' fp' => onG (z.blk s' H' _ _ fp') fun zb => (g_nm (i := 2) zb.n)) (fun s' H' C' cl' fp' => onT (z.blk s' H' _ _ fp') fun zb => t_none) (fun s' H' C' cl' fp' => onE (z.blk s' H' _ _ fp') fun zb => (r_and (r_isi (u := (.b .str)) zb.q T.sg trivial T.z_isinstance (pe_ty (S := sg K cl) (u := .b .str) (by rfl) (Or.inl ⟨_, rfl, T.z_str, bt_str⟩)) (r_var (i := 2))) (r_one (r_cmp (op_inDD zb.q zb.u) (r_var (i := 2)) (r_fld zb.q T.sg (r_var (i := 0))))))))))) (w_or1 (t_cmp (op_eqDD z.q z.u) (r_ix z.q (r_var (i := 1)) r_int) (r_ix z.q (r_var (i := 1)) r_int)))).pt (s_one (s_ret r_bl)) s_nil) (s_cons (s_set (i := 3) z.n (r_ix z.q (r_fld z.q T.sg (r_var (i := 0))) (r_ix z.q (r_var (i := 1)) r_int))) (s_one (s_ret (r_callB1 (c_all z.q z.c) T.z_all bt_all (r_lc (own := [("event", 2)]) z.q z.c z.n (i_seq z.q (r_sl z.q (r_var (i := 1)) (r_osome r_int) r_ono)) (blkOk_by (N := N_is_log_step) (sc := defScope st_is_log_step) (by decide +kernel)) (fun s' H' C' cl' fp' => onG (z.blk s' H' _ _ fp') fun zb => (g_nm (i := 2) zb.n)) (fun s' H' C' cl' fp' => onT (z.blk s' H' _ _ fp') fun zb => t_none) (fun s' H' C' cl' fp' => onE (z.blk s' H' _ _ fp') fun zb => (r_cmp op_isNotD (r_ix zb.q (r_var (i := 3)) (r_idx zb.q (r_fld zb.q T.sg (r_var (i := 0))) (r_var (i := 2)))) r_non)))))))))
theorem c_is_log_step : FnC P w (sg K cl) mg base 3 "is_log_step" F_is_log_step 2 := (ok_is_log_step T).c T.m_is_log_step
theorem ok_misaligned_holds : FnA P w (sg K cl) mg base 4 (ad 17) (fd 17) ["log", "period", "value"] F_misaligned_holds 3 :=
  fn_A (N := N_misaligned_holds) (ps := ["log", "period", "value"]) (k := 3) T.f_misaligned_holds T.b_misaligned_holds (fnScope_K (by decide +kernel)) fun M cdv A outer s H E z => (s_cons (s_expr (r_c z (c_need_period (P := P) (w := w) (base := base) T) (a_cons (r_kv (i := 1)) a_nil))) (s_cons (s_if (w_or (t_not (t_val z.q (r_isi (u := (.c 0)) z.q T.sg (show (0 : Nat) ∈ ICS from by decide) T.z_isinstance (pe_ty (S := sg K cl) (u := .c 0) (by rfl) (Or.inr ⟨_, rfl, T.m_Misaligned⟩)) (r_var (i := 2))))) (w_or (t_not (t_val z.q (r_isi (u := (.b .tuple)) z.q T.sg trivial T.z_isinstance (pe_ty (S := sg K cl) (u := .b .tuple) (by rfl) (Or.inl ⟨_, rfl, T.z_tuple, bt_tuple⟩)) (r_fld z.q T.sg (r_var (i := 2)))))) (w_or1 (t_cmp op_ltD (r_callB1 (c_len z.q) T.z_len bt_len (r_fld z.q T.sg (r_var (i := 2)))) r_int)))).pt (s_one (s_ret r_bl)) s_nil) (s_cons (s_if (t_not (t_val z.q (r_callB1 (c_all z.q z.c) T.z_all bt_all (r_lc (own := [("step", 3)]) z.q z.c z.n (i_seq z.q (r_fld z.q T.sg (r_var (i := 2)))) (blkOk_by (N := N_misaligned_holds) (sc := defScope st_misaligned_holds) (by decide +kernel)) (fun s' H' C' cl' fp' => onG (z.blk s' H' _ _ fp') fun zb => (g_nm (i := 3) zb.n)) (fun s' H' C' cl' fp' => onT (z.blk s' H' _ _ fp') fun zb => t_none) (fun s' H' C' cl' fp' => onE (z.blk s' H' _ _ fp') fun zb => (r_c zb (c_is_log_step (P := P) (w := w) (base := base) T) (a_cons (r_kv (i := 0)) (a_cons (r_kv (i := 3)) a_nil)))))))) (s_one (s_ret r_bl)) s_nil) (s_cons (s_if (t_val z.q (r_callB1 (c_any z.q z.c) T.z_any bt_any (r_lc (own := [("at", 4)]) z.q z.c z.n (i_rng T.z_range (r_callB1 (c_len z.q) T.z_len bt_len (r_fld z.q T.sg (r_var (i := 2))))) (blkOk_by (N := N_misaligned_holds) (sc := defScope st_misaligned_holds) (by decide +kernel)) (fun s' H' C' cl' fp' => onG (z.blk s' H' _ _ fp') fun zb => (g_nm (i := 4) zb.n)) (fun s' H' C' cl' fp' => onT (z.blk s' H' _ _ fp') fun zb => t_none) (fun s' H' C' cl' fp' => onE (z.blk s' H' _ _ fp') fun zb => (r_cmp (op_neDD zb.q zb.u) (r_ix zb.q (r_ix zb.q (r_fld zb.q T.sg (r_var (i := 2))) (r_bin op_subD (r_var (i := 4)) r_int)) r_int) (r_ix zb.q (r_ix zb.q (r_fld zb.q T.sg (r_var (i := 2))) (r_var (i := 4))) r_int)))))) (s_one (s_ret r_bl)) s_nil) (s_cons (s_set (i := 5) z.n r_int) (s_cons (s_for (vs := [6, 7, 8]) z.c (passes_of rfl) (i_seq z.q (r_fld z.q T.sg (r_var (i := 2)))) (g_tup (n := 3) z.q z.c (g_cons (g_nm (i := 6) z.n) (g_cons (g_nm (i := 7) z.n) (g_cons (g_nm (i := 8) z.n) g_nil)))) (s_cons (s_set (i := 9) z.n (r_ix z.q (r_fld z.q T.sg (r_var (i := 0))) (r_var (i := 6)))) (s_one (s_set (i := 5) z.n (r_bin op_subD (r_bin (op_addD z.q) (r_var (i := 5)) (r_ix z.q (r_var (i := 9)) (r_idx z.q (r_fld z.q T.sg (r_var (i := 0))) (r_var (i := 8))))) (r_ix z.q (r_var (i := 9)) (r_idx z.q (r_fld z.q T.sg (r_var (i := 0))) (r_var (i := 7))))))))) (s_one (s_ret (r_cmp (op_neDD z.q z.u) (r_bin op_modD (r_var (i := 5)) (r_var (i := 1))) r_int)))))))))
theorem c_misaligned_holds : FnC P w (sg K cl) mg base 4 "misaligned_holds" F_misaligned_holds 3 := (ok_misaligned_holds T).c T.m_misaligned_holds
theorem ok_law : FnA P w (sg K cl) mg base 10 (ad 33) (fd 33) ["script"] F_law 1 :=
  fn_A (N := N_law) (ps := ["script"]) (k := 9) T.f_law T.b_law (fnScope_K (by decide +kernel)) fun M cdv A outer s H E z => (s_cons (s_set (i := 1) z.n (r_c z (c__law_pen (P := P) (w := w) (base := base) T) (a_cons (r_kv (i := 0)) a_nil))) (s_cons (s_for (vs := [2]) z.c (passes_of rfl) (i_rng T.z_range r_int) (g_nm (i := 2) z.n) (s_cons (s_set (i := 3) z.n (r_bin (op_addD z.q) r_int (r_c z (c__law_draw (P := P) (w := w) (base := base) T) (a_cons (r_var (i := 1)) (a_cons r_int a_nil))))) (s_cons (s_set (i := 4) z.n (r_c z (c__law_drawn_log (P := P) (w := w) (base := base) T) (a_cons (r_var (i := 1)) (a_cons (r_bin (op_addD z.q) r_int (r_c z (c__law_draw (P := P) (w := w) (base := base) T) (a_cons (r_var (i := 1)) (a_cons r_int a_nil)))) (a_cons (r_kv (i := 3)) a_nil))))) (s_cons (s_set (i := 5) z.n (r_c z (c__law_made_log (P := P) (w := w) (base := base) T) (a_cons (r_kv (i := 4)) a_nil))) (s_cons (s_set (i := 6) z.n (r_c z (c_lining (P := P) (w := w) (base := base) T) (a_cons (r_kv (i := 5)) (a_cons (r_kv (i := 3)) a_nil)))) (s_one (s_for (vs := [7]) z.c (passes_of rfl) (i_rng T.z_range r_int) (g_nm (i := 7) z.n) (s_cons (s_par (i := 8) (j := 9) z.c z.n (p_cons (r_c z (c__law_bent (P := P) (w := w) (base := base) T) (a_cons (r_var (i := 1)) (a_cons (r_kv (i := 4)) (a_cons (r_kv (i := 6)) a_nil)))) (p_cons (r_c z (c__law_pick (P := P) (w := w) (base := base) T) (a_cons (r_var (i := 1)) (a_cons (r_lst (r_pcons (r_kv (i := 3)) (r_pcons (r_kv (i := 3)) (r_pcons (r_bin (op_addD z.q) (r_var (i := 3)) r_int) (r_pcons r_int r_pnil))))) a_nil))) p_nil))) (s_one (s_if (t_not (t_val z.q (r_c z (c__law_is (P := P) (w := w) (base := base) T 3) (a_cons (r_c z (c_misaligned_holds (P := P) (w := w) (base := base) T) (a_cons (r_kv (i := 5)) (a_cons (r_kv (i := 9)) (a_cons (r_kv (i := 8)) a_nil)))) (a_cons (r_c z (c__law_misaligned_right (P := P) (w := w) (base := base) T) (a_cons (r_kv (i := 4)) (a_cons (r_kv (i := 9)) (a_cons (r_kv (i := 8)) a_nil)))) a_nil))))) (s_one (s_ret r_bl)) s_nil)))))))))) (s_cons (s_set (i := 10) z.n (r_mk z (c_Misalignedu_initu (P := P) (w := w) (base := base) T) (a_cons (r_lst (r_pcons (r_lst (r_pcons r_int (r_pcons r_str (r_pcons r_str r_pnil)))) (r_pcons (r_lst (r_pcons r_int (r_pcons r_str (r_pcons r_str r_pnil)))) r_pnil))) a_nil))) (s_cons (s_if (w_or (t_cmp op_isNotD (r_eqO z T.sg (T.nf0) (c_Misalignedu_equ (P := P) (w := w) (base := base) T) (r_kv (i := 10)) (r_mk z (c_Misalignedu_initu (P := P) (w := w) (base := base) T) (a_cons (r_tup (r_pcons (r_tup (r_pcons r_int (r_pcons r_str (r_pcons r_str r_pnil)))) (r_pcons (r_tup (r_pcons r_int (r_pcons r_str (r_pcons r_str r_pnil)))) r_pnil))) a_nil))) r_bl) (w_or1 (t_cmp op_isNotD (r_eqO z T.sg (T.nf0) (c_Misalignedu_equ (P := P) (w := w) (base := base) T) (r_kv (i := 10)) (r_fld z.q T.sg (r_var (i := 10)))) r_bl))).pt (s_one (s_ret r_bl)) s_nil) (s_one (s_ret (r_and (r_cmp op_isD (r_neO z T.sg (T.nf0) (c_Misalignedu_neu (P := P) (w := w) (base := base) T) (r_kv (i := 10)) (r_mk z (c_Misalignedu_initu (P := P) (w := w) (base := base) T) (a_cons (r_tup (r_pcons (r_tup (r_pcons r_int (r_pcons r_str (r_pcons r_str r_pnil)))) r_pnil)) a_nil))) r_bl) (r_one (r_cmp op_isD (r_eqO z T.sg (T.nf0) (c_Misalignedu_equ (P := P) (w := w) (base := base) T) (r_kv (i := 10)) (r_mk z (c_Misalignedu_initu (P := P) (w := w) (base := base) T) (a_cons (r_tup (r_pcons (r_tup (r_pcons r_int (r_pcons r_str (r_pcons r_str r_pnil)))) (r_pcons (r_tup (r_pcons r_int (r_pcons r_str (r_pcons r_str r_pnil)))) r_pnil))) a_nil))) r_bl)))))))))
theorem c_law : FnC P w (sg K cl) mg base 10 "law" F_law 1 := (ok_law T).c T.m_law
end
end Lw
set_option Elab.async false
set_option linter.all false
set_option maxRecDepth 100000
set_option maxHeartbeats 4000000
namespace Lw
open PySem PySem.Spec PyProof.Rows L2 En
theorem all_mk {l : PySem.W.OpenLaw} {w : World} {K : PySem.W.Frag} {h : Heap} {mg : Str → Option Value} {fa C0 C1 f6 f1 f5 f7 f23 f24 f31 f32 f26 f27 f28 f25 f0 f21 f3 f18 f29 f30 f22 f8 f9 f10 f11 f4 f14 f12 f13 f15 f2 f16 f17 f33 : Addr} (X : K.In h) (G : h.Ns mainGlobals mg) (hfa : mg "law" = some (.ref fa))
    (g_SIGNS : ∃ t : Tok, mg "SIGNS" = some (.str "abcdefghijklmnopqrstuvwxyz0123456789" t))
    (hlaw : ∀ ns : List Int, ns.length ≤ 63 → F_law.r [.val (.lst (ns.map D.int))] (fun e _ => e = .val (.bl true)) X0)
    {od6 od1 od5 od7 od23 od24 od31 od32 od26 od27 od28 od25 od0 od21 od3 od18 od29 od30 od22 od8 od9 od10 od11 od4 od14 od12 od13 od15 od2 od16 od17 od33 an6 an1 an5 an7 an23 an24 an31 an32 an26 an27 an28 an25 an0 an21 an3 an18 an29 an30 an22 an8 an9 an10 an11 an4 an14 an12 an13 an15 an2 an16 an17 an33 : Option Addr} {sl6 sl1 sl5 sl7 sl23 sl24 sl31 sl32 sl26 sl27 sl28 sl25 sl0 sl21 sl3 sl18 sl29 sl30 sl22 sl8 sl9 sl10 sl11 sl4 sl14 sl12 sl13 sl15 sl2 sl16 sl17 sl33 : Array (Option Value)} {oc6 oc1 oc5 oc7 oc23 oc24 oc31 oc32 oc26 oc27 oc28 oc25 oc0 oc21 oc3 oc18 oc29 oc30 oc22 oc8 oc9 oc10 oc11 oc4 oc14 oc12 oc13 oc15 oc2 oc16 oc17 oc33 kV6 kV1 kV5 kV7 kV23 kV24 kV31 kV32 kV26 kV27 kV28 kV25 kV0 kV21 kV3 kV18 kV29 kV30 kV22 kV8 kV9 kV10 kV11 kV4 kV14 kV12 kV13 kV15 kV2 kV16 kV17 kV33 dc6 dc1 dc5 dc7 dc23 dc24 dc31 dc32 dc26 dc27 dc28 dc25 dc0 dc21 dc3 dc18 dc29 dc30 dc22 dc8 dc9 dc10 dc11 dc4 dc14 dc12 dc13 dc15 dc2 dc16 dc17 dc33 pm6 pm1 pm5 pm7 pm23 pm24 pm31 pm32 pm26 pm27 pm28 pm25 pm0 pm21 pm3 pm18 pm29 pm30 pm22 pm8 pm9 pm10 pm11 pm4 pm14 pm12 pm13 pm15 pm2 pm16 pm17 pm33 cd6 cd1 cd5 cd7 cd23 cd24 cd31 cd32 cd26 cd27 cd28 cd25 cd0 cd21 cd3 cd18 cd29 cd30 cd22 cd8 cd9 cd10 cd11 cd4 cd14 cd12 cd13 cd15 cd2 cd16 cd17 cd33 ct6 ct1 ct5 ct7 ct23 ct24 ct31 ct32 ct26 ct27 ct28 ct25 ct0 ct21 ct3 ct18 ct29 ct30 ct22 ct8 ct9 ct10 ct11 ct4 ct14 ct12 ct13 ct15 ct2 ct16 ct17 ct33 : Value}
    {t_LETTERS t_MOST_PERIOD : Tok}
    (aC0 : PySem.W.nsIn K mainGlobals "Misaligned" = some (some (.ref C0)))
    (aC1 : PySem.W.nsIn K mainGlobals "DayLog" = some (some (.ref C1)))
    (pg0 : PySem.W.plainGet K C0 Str.empty = true)
    (hd0 : PySem.W.hasDictIn K C0 = true)
    (po0 : PySem.W.plainOver K C0 = true)
    (sa0 : PySem.W.findIn K (.ref C0) "__setattr__" = some (some (.builtin "object.__setattr__")))
    (mk0 : PySem.W.makesIn K C0 = true)
    (kc0 : PySem.W.keepIn K (.ref C0) = true)
    (n0_steps : PySem.W.findIn K (.ref C0) "steps" = some none)
    (ha0 : PySem.W.findIn K (.ref C0) "__class__" = some (some (.builtin "object.__class__")))
    (ic0 : PySem.W.isClsIn K C0 = true)
    (tc0 : PySem.W.typeIn K (.ref C0) = some (.type "type"))
    (mr0 : PySem.W.mroIn K C0 (.type "object") = some true)
    (ka0_non : PySem.W.subIn K (.ref C0) (.type "NoneType") = some false)
    (kb0_non : PySem.W.subIn K (.type "NoneType") (.ref C0) = some false)
    (nf0_non : PySem.W.notFirst K C0 (.type "NoneType") = true)
    (ka0_bool : PySem.W.subIn K (.ref C0) (.type "bool") = some false)
    (kb0_bool : PySem.W.subIn K (.type "bool") (.ref C0) = some false)
    (nf0_bool : PySem.W.notFirst K C0 (.type "bool") = true)
    (ka0_int : PySem.W.subIn K (.ref C0) (.type "int") = some false)
    (kb0_int : PySem.W.subIn K (.type "int") (.ref C0) = some false)
    (nf0_int : PySem.W.notFirst K C0 (.type "int") = true)
    (ka0_str : PySem.W.subIn K (.ref C0) (.type "str") = some false)
    (kb0_str : PySem.W.subIn K (.type "str") (.ref C0) = some false)
    (nf0_str : PySem.W.notFirst K C0 (.type "str") = true)
    (ka0_list : PySem.W.subIn K (.ref C0) (.type "list") = some false)
    (kb0_list : PySem.W.subIn K (.type "list") (.ref C0) = some false)
    (nf0_list : PySem.W.notFirst K C0 (.type "list") = true)
    (ka0_tuple : PySem.W.subIn K (.ref C0) (.type "tuple") = some false)
    (kb0_tuple : PySem.W.subIn K (.type "tuple") (.ref C0) = some false)
    (nf0_tuple : PySem.W.notFirst K C0 (.type "tuple") = true)
    (ka0_dict : PySem.W.subIn K (.ref C0) (.type "dict") = some false)
    (kb0_dict : PySem.W.subIn K (.type "dict") (.ref C0) = some false)
    (nf0_dict : PySem.W.notFirst K C0 (.type "dict") = true)
    (nc0_0 : PySem.W.notFirst K C0 (.ref C0) = true)
    (nc0_1 : PySem.W.notFirst K C0 (.ref C1) = true)
    (kk0_1 : PySem.W.subIn K (.ref C0) (.ref C1) = some false)
    (ne0_1 : (Value.ref C0 == Value.ref C1) = false)
    (pg1 : PySem.W.plainGet K C1 Str.empty = true)
    (hd1 : PySem.W.hasDictIn K C1 = true)
    (po1 : PySem.W.plainOver K C1 = true)
    (sa1 : PySem.W.findIn K (.ref C1) "__setattr__" = some (some (.builtin "object.__setattr__")))
    (mk1 : PySem.W.makesIn K C1 = true)
    (kc1 : PySem.W.keepIn K (.ref C1) = true)
    (n1_events : PySem.W.findIn K (.ref C1) "events" = some none)
    (n1_days : PySem.W.findIn K (.ref C1) "days" = some none)
    (ha1 : PySem.W.findIn K (.ref C1) "__class__" = some (some (.builtin "object.__class__")))
    (ic1 : PySem.W.isClsIn K C1 = true)
    (tc1 : PySem.W.typeIn K (.ref C1) = some (.type "type"))
    (mr1 : PySem.W.mroIn K C1 (.type "object") = some true)
    (ka1_non : PySem.W.subIn K (.ref C1) (.type "NoneType") = some false)
    (kb1_non : PySem.W.subIn K (.type "NoneType") (.ref C1) = some false)
    (nf1_non : PySem.W.notFirst K C1 (.type "NoneType") = true)
    (ka1_bool : PySem.W.subIn K (.ref C1) (.type "bool") = some false)
    (kb1_bool : PySem.W.subIn K (.type "bool") (.ref C1) = some false)
    (nf1_bool : PySem.W.notFirst K C1 (.type "bool") = true)
    (ka1_int : PySem.W.subIn K (.ref C1) (.type "int") = some false)
    (kb1_int : PySem.W.subIn K (.type "int") (.ref C1) = some false)
    (nf1_int : PySem.W.notFirst K C1 (.type "int") = true)
    (ka1_str : PySem.W.subIn K (.ref C1) (.type "str") = some false)
    (kb1_str : PySem.W.subIn K (.type "str") (.ref C1) = some false)
    (nf1_str : PySem.W.notFirst K C1 (.type "str") = true)
    (ka1_list : PySem.W.subIn K (.ref C1) (.type "list") = some false)
    (kb1_list : PySem.W.subIn K (.type "list") (.ref C1) = some false)
    (nf1_list : PySem.W.notFirst K C1 (.type "list") = true)
    (ka1_tuple : PySem.W.subIn K (.ref C1) (.type "tuple") = some false)
    (kb1_tuple : PySem.W.subIn K (.type "tuple") (.ref C1) = some false)
    (nf1_tuple : PySem.W.notFirst K C1 (.type "tuple") = true)
    (ka1_dict : PySem.W.subIn K (.ref C1) (.type "dict") = some false)
    (kb1_dict : PySem.W.subIn K (.type "dict") (.ref C1) = some false)
    (nf1_dict : PySem.W.notFirst K C1 (.type "dict") = true)
    (nc1_0 : PySem.W.notFirst K C1 (.ref C0) = true)
    (kk1_0 : PySem.W.subIn K (.ref C1) (.ref C0) = some false)
    (ne1_0 : (Value.ref C1 == Value.ref C0) = false)
    (nc1_1 : PySem.W.notFirst K C1 (.ref C1) = true)
    (hn : PySem.W.specialIn K (.builtin "object.__class__") "__get__" = some (some (.builtin "getset_descriptor.__get__")))
    (htk : PySem.W.takesIn K (.builtin "object.__class__") = some true)
    (a6 : PySem.W.findIn K (.ref C0) "__eq__" = some (some (.ref f6)))
    (i6 : PySem.W.isFn K (.ref f6) = true)
    (l6 : K.lookup f6 = some ⟨oc6, od6, .func (PySem.W.fnOf "__eq__" "Misaligned.__eq__" (defArgs st_Misalignedu_equ) (defBody st_Misalignedu_equ) (defScope st_Misalignedu_equ) .none kV6 dc6 pm6 an6 cd6 ct6), sl6⟩)
    (c6 : PySem.W.codeIn K cd6 "Misaligned.__eq__" = true)
    (k6 : PySem.W.keepIn K (.ref f6) = true)
    (a1 : PySem.W.nsIn K mainGlobals "as_tuples" = some (some (.ref f1)))
    (l1 : K.lookup f1 = some ⟨oc1, od1, .func (PySem.W.fnOf "as_tuples" "as_tuples" (defArgs st_as_tuples) (defBody st_as_tuples) (defScope st_as_tuples) .none kV1 dc1 pm1 an1 cd1 ct1), sl1⟩)
    (c1 : PySem.W.codeIn K cd1 "as_tuples" = true)
    (k1 : PySem.W.keepIn K (.ref f1) = true)
    (a5 : PySem.W.findIn K (.ref C0) "__init__" = some (some (.ref f5)))
    (i5 : PySem.W.isFn K (.ref f5) = true)
    (l5 : K.lookup f5 = some ⟨oc5, od5, .func (PySem.W.fnOf "__init__" "Misaligned.__init__" (defArgs st_Misalignedu_initu) (defBody st_Misalignedu_initu) (defScope st_Misalignedu_initu) .none kV5 dc5 pm5 an5 cd5 ct5), sl5⟩)
    (c5 : PySem.W.codeIn K cd5 "Misaligned.__init__" = true)
    (k5 : PySem.W.keepIn K (.ref f5) = true)
    (a7 : PySem.W.findIn K (.ref C0) "__ne__" = some (some (.ref f7)))
    (i7 : PySem.W.isFn K (.ref f7) = true)
    (l7 : K.lookup f7 = some ⟨oc7, od7, .func (PySem.W.fnOf "__ne__" "Misaligned.__ne__" (defArgs st_Misalignedu_neu) (defBody st_Misalignedu_neu) (defScope st_Misalignedu_neu) .none kV7 dc7 pm7 an7 cd7 ct7), sl7⟩)
    (c7 : PySem.W.codeIn K cd7 "Misaligned.__ne__" = true)
    (k7 : PySem.W.keepIn K (.ref f7) = true)
    (a23 : PySem.W.nsIn K mainGlobals "_law_draw" = some (some (.ref f23)))
    (l23 : K.lookup f23 = some ⟨oc23, od23, .func (PySem.W.fnOf "_law_draw" "_law_draw" (defArgs st__law_draw) (defBody st__law_draw) (defScope st__law_draw) .none kV23 dc23 pm23 an23 cd23 ct23), sl23⟩)
    (c23 : PySem.W.codeIn K cd23 "_law_draw" = true)
    (k23 : PySem.W.keepIn K (.ref f23) = true)
    (a24 : PySem.W.nsIn K mainGlobals "_law_pick" = some (some (.ref f24)))
    (l24 : K.lookup f24 = some ⟨oc24, od24, .func (PySem.W.fnOf "_law_pick" "_law_pick" (defArgs st__law_pick) (defBody st__law_pick) (defScope st__law_pick) .none kV24 dc24 pm24 an24 cd24 ct24), sl24⟩)
    (c24 : PySem.W.codeIn K cd24 "_law_pick" = true)
    (k24 : PySem.W.keepIn K (.ref f24) = true)
    (a31 : PySem.W.nsIn K mainGlobals "_law_round" = some (some (.ref f31)))
    (l31 : K.lookup f31 = some ⟨oc31, od31, .func (PySem.W.fnOf "_law_round" "_law_round" (defArgs st__law_round) (defBody st__law_round) (defScope st__law_round) .none kV31 dc31 pm31 an31 cd31 ct31), sl31⟩)
    (c31 : PySem.W.codeIn K cd31 "_law_round" = true)
    (k31 : PySem.W.keepIn K (.ref f31) = true)
    (a32 : PySem.W.nsIn K mainGlobals "_law_bent" = some (some (.ref f32)))
    (l32 : K.lookup f32 = some ⟨oc32, od32, .func (PySem.W.fnOf "_law_bent" "_law_bent" (defArgs st__law_bent) (defBody st__law_bent) (defScope st__law_bent) .none kV32 dc32 pm32 an32 cd32 ct32), sl32⟩)
    (c32 : PySem.W.codeIn K cd32 "_law_bent" = true)
    (k32 : PySem.W.keepIn K (.ref f32) = true)
    (a26 : PySem.W.nsIn K mainGlobals "_law_name" = some (some (.ref f26)))
    (l26 : K.lookup f26 = some ⟨oc26, od26, .func (PySem.W.fnOf "_law_name" "_law_name" (defArgs st__law_name) (defBody st__law_name) (defScope st__law_name) .none kV26 dc26 pm26 an26 cd26 ct26), sl26⟩)
    (c26 : PySem.W.codeIn K cd26 "_law_name" = true)
    (k26 : PySem.W.keepIn K (.ref f26) = true)
    (a27 : PySem.W.nsIn K mainGlobals "_law_names" = some (some (.ref f27)))
    (l27 : K.lookup f27 = some ⟨oc27, od27, .func (PySem.W.fnOf "_law_names" "_law_names" (defArgs st__law_names) (defBody st__law_names) (defScope st__law_names) .none kV27 dc27 pm27 an27 cd27 ct27), sl27⟩)
    (c27 : PySem.W.codeIn K cd27 "_law_names" = true)
    (k27 : PySem.W.keepIn K (.ref f27) = true)
    (a28 : PySem.W.nsIn K mainGlobals "_law_drawn_log" = some (some (.ref f28)))
    (l28 : K.lookup f28 = some ⟨oc28, od28, .func (PySem.W.fnOf "_law_drawn_log" "_law_drawn_log" (defArgs st__law_drawn_log) (defBody st__law_drawn_log) (defScope st__law_drawn_log) .none kV28 dc28 pm28 an28 cd28 ct28), sl28⟩)
    (c28 : PySem.W.codeIn K cd28 "_law_drawn_log" = true)
    (k28 : PySem.W.keepIn K (.ref f28) = true)
    (a25 : PySem.W.nsIn K mainGlobals "_law_is" = some (some (.ref f25)))
    (l25 : K.lookup f25 = some ⟨oc25, od25, .func (PySem.W.fnOf "_law_is" "_law_is" (defArgs st__law_is) (defBody st__law_is) (defScope st__law_is) .none kV25 dc25 pm25 an25 cd25 ct25), sl25⟩)
    (c25 : PySem.W.codeIn K cd25 "_law_is" = true)
    (k25 : PySem.W.keepIn K (.ref f25) = true)
    (a0 : PySem.W.nsIn K mainGlobals "is_whole" = some (some (.ref f0)))
    (l0 : K.lookup f0 = some ⟨oc0, od0, .func (PySem.W.fnOf "is_whole" "is_whole" (defArgs st_is_whole) (defBody st_is_whole) (defScope st_is_whole) .none kV0 dc0 pm0 an0 cd0 ct0), sl0⟩)
    (c0 : PySem.W.codeIn K cd0 "is_whole" = true)
    (k0 : PySem.W.keepIn K (.ref f0) = true)
    (a21 : PySem.W.nsIn K mainGlobals "is_day" = some (some (.ref f21)))
    (l21 : K.lookup f21 = some ⟨oc21, od21, .func (PySem.W.fnOf "is_day" "is_day" (defArgs st_is_day) (defBody st_is_day) (defScope st_is_day) .none kV21 dc21 pm21 an21 cd21 ct21), sl21⟩)
    (c21 : PySem.W.codeIn K cd21 "is_day" = true)
    (k21 : PySem.W.keepIn K (.ref f21) = true)
    (a3 : PySem.W.nsIn K mainGlobals "is_name" = some (some (.ref f3)))
    (l3 : K.lookup f3 = some ⟨oc3, od3, .func (PySem.W.fnOf "is_name" "is_name" (defArgs st_is_name) (defBody st_is_name) (defScope st_is_name) .none kV3 dc3 pm3 an3 cd3 ct3), sl3⟩)
    (c3 : PySem.W.codeIn K cd3 "is_name" = true)
    (k3 : PySem.W.keepIn K (.ref f3) = true)
    (a18 : PySem.W.findIn K (.ref C1) "__init__" = some (some (.ref f18)))
    (i18 : PySem.W.isFn K (.ref f18) = true)
    (l18 : K.lookup f18 = some ⟨oc18, od18, .func (PySem.W.fnOf "__init__" "DayLog.__init__" (defArgs st_DayLogu_initu) (defBody st_DayLogu_initu) (defScope st_DayLogu_initu) .none kV18 dc18 pm18 an18 cd18 ct18), sl18⟩)
    (c18 : PySem.W.codeIn K cd18 "DayLog.__init__" = true)
    (k18 : PySem.W.keepIn K (.ref f18) = true)
    (a29 : PySem.W.nsIn K mainGlobals "_law_made_log" = some (some (.ref f29)))
    (l29 : K.lookup f29 = some ⟨oc29, od29, .func (PySem.W.fnOf "_law_made_log" "_law_made_log" (defArgs st__law_made_log) (defBody st__law_made_log) (defScope st__law_made_log) .none kV29 dc29 pm29 an29 cd29 ct29), sl29⟩)
    (c29 : PySem.W.codeIn K cd29 "_law_made_log" = true)
    (k29 : PySem.W.keepIn K (.ref f29) = true)
    (a30 : PySem.W.nsIn K mainGlobals "_law_misaligned_right" = some (some (.ref f30)))
    (l30 : K.lookup f30 = some ⟨oc30, od30, .func (PySem.W.fnOf "_law_misaligned_right" "_law_misaligned_right" (defArgs st__law_misaligned_right) (defBody st__law_misaligned_right) (defScope st__law_misaligned_right) .none kV30 dc30 pm30 an30 cd30 ct30), sl30⟩)
    (c30 : PySem.W.codeIn K cd30 "_law_misaligned_right" = true)
    (k30 : PySem.W.keepIn K (.ref f30) = true)
    (a22 : PySem.W.nsIn K mainGlobals "_law_pen" = some (some (.ref f22)))
    (l22 : K.lookup f22 = some ⟨oc22, od22, .func (PySem.W.fnOf "_law_pen" "_law_pen" (defArgs st__law_pen) (defBody st__law_pen) (defScope st__law_pen) .none kV22 dc22 pm22 an22 cd22 ct22), sl22⟩)
    (c22 : PySem.W.codeIn K cd22 "_law_pen" = true)
    (k22 : PySem.W.keepIn K (.ref f22) = true)
    (a8 : PySem.W.nsIn K mainGlobals "seen_on" = some (some (.ref f8)))
    (l8 : K.lookup f8 = some ⟨oc8, od8, .func (PySem.W.fnOf "seen_on" "seen_on" (defArgs st_seen_on) (defBody st_seen_on) (defScope st_seen_on) .none kV8 dc8 pm8 an8 cd8 ct8), sl8⟩)
    (c8 : PySem.W.codeIn K cd8 "seen_on" = true)
    (k8 : PySem.W.keepIn K (.ref f8) = true)
    (a9 : PySem.W.nsIn K mainGlobals "differences" = some (some (.ref f9)))
    (l9 : K.lookup f9 = some ⟨oc9, od9, .func (PySem.W.fnOf "differences" "differences" (defArgs st_differences) (defBody st_differences) (defScope st_differences) .none kV9 dc9 pm9 an9 cd9 ct9), sl9⟩)
    (c9 : PySem.W.codeIn K cd9 "differences" = true)
    (k9 : PySem.W.keepIn K (.ref f9) = true)
    (a10 : PySem.W.nsIn K mainGlobals "steps_at" = some (some (.ref f10)))
    (l10 : K.lookup f10 = some ⟨oc10, od10, .func (PySem.W.fnOf "steps_at" "steps_at" (defArgs st_steps_at) (defBody st_steps_at) (defScope st_steps_at) .none kV10 dc10 pm10 an10 cd10 ct10), sl10⟩)
    (c10 : PySem.W.codeIn K cd10 "steps_at" = true)
    (k10 : PySem.W.keepIn K (.ref f10) = true)
    (a11 : PySem.W.nsIn K mainGlobals "grown" = some (some (.ref f11)))
    (l11 : K.lookup f11 = some ⟨oc11, od11, .func (PySem.W.fnOf "grown" "grown" (defArgs st_grown) (defBody st_grown) (defScope st_grown) .none kV11 dc11 pm11 an11 cd11 ct11), sl11⟩)
    (c11 : PySem.W.codeIn K cd11 "grown" = true)
    (k11 : PySem.W.keepIn K (.ref f11) = true)
    (a4 : PySem.W.nsIn K mainGlobals "need_period" = some (some (.ref f4)))
    (l4 : K.lookup f4 = some ⟨oc4, od4, .func (PySem.W.fnOf "need_period" "need_period" (defArgs st_need_period) (defBody st_need_period) (defScope st_need_period) .none kV4 dc4 pm4 an4 cd4 ct4), sl4⟩)
    (c4 : PySem.W.codeIn K cd4 "need_period" = true)
    (k4 : PySem.W.keepIn K (.ref f4) = true)
    (a14 : PySem.W.nsIn K mainGlobals "number_of_day" = some (some (.ref f14)))
    (l14 : K.lookup f14 = some ⟨oc14, od14, .func (PySem.W.fnOf "number_of_day" "number_of_day" (defArgs st_number_of_day) (defBody st_number_of_day) (defScope st_number_of_day) .none kV14 dc14 pm14 an14 cd14 ct14), sl14⟩)
    (c14 : PySem.W.codeIn K cd14 "number_of_day" = true)
    (k14 : PySem.W.keepIn K (.ref f14) = true)
    (a12 : PySem.W.nsIn K mainGlobals "way_to" = some (some (.ref f12)))
    (l12 : K.lookup f12 = some ⟨oc12, od12, .func (PySem.W.fnOf "way_to" "way_to" (defArgs st_way_to) (defBody st_way_to) (defScope st_way_to) .none kV12 dc12 pm12 an12 cd12 ct12), sl12⟩)
    (c12 : PySem.W.codeIn K cd12 "way_to" = true)
    (k12 : PySem.W.keepIn K (.ref f12) = true)
    (a13 : PySem.W.nsIn K mainGlobals "round_of" = some (some (.ref f13)))
    (l13 : K.lookup f13 = some ⟨oc13, od13, .func (PySem.W.fnOf "round_of" "round_of" (defArgs st_round_of) (defBody st_round_of) (defScope st_round_of) .none kV13 dc13 pm13 an13 cd13 ct13), sl13⟩)
    (c13 : PySem.W.codeIn K cd13 "round_of" = true)
    (k13 : PySem.W.keepIn K (.ref f13) = true)
    (a15 : PySem.W.nsIn K mainGlobals "lining" = some (some (.ref f15)))
    (l15 : K.lookup f15 = some ⟨oc15, od15, .func (PySem.W.fnOf "lining" "lining" (defArgs st_lining) (defBody st_lining) (defScope st_lining) .none kV15 dc15 pm15 an15 cd15 ct15), sl15⟩)
    (c15 : PySem.W.codeIn K cd15 "lining" = true)
    (k15 : PySem.W.keepIn K (.ref f15) = true)
    (a2 : PySem.W.nsIn K mainGlobals "is_index" = some (some (.ref f2)))
    (l2 : K.lookup f2 = some ⟨oc2, od2, .func (PySem.W.fnOf "is_index" "is_index" (defArgs st_is_index) (defBody st_is_index) (defScope st_is_index) .none kV2 dc2 pm2 an2 cd2 ct2), sl2⟩)
    (c2 : PySem.W.codeIn K cd2 "is_index" = true)
    (k2 : PySem.W.keepIn K (.ref f2) = true)
    (a16 : PySem.W.nsIn K mainGlobals "is_log_step" = some (some (.ref f16)))
    (l16 : K.lookup f16 = some ⟨oc16, od16, .func (PySem.W.fnOf "is_log_step" "is_log_step" (defArgs st_is_log_step) (defBody st_is_log_step) (defScope st_is_log_step) .none kV16 dc16 pm16 an16 cd16 ct16), sl16⟩)
    (c16 : PySem.W.codeIn K cd16 "is_log_step" = true)
    (k16 : PySem.W.keepIn K (.ref f16) = true)
    (a17 : PySem.W.nsIn K mainGlobals "misaligned_holds" = some (some (.ref f17)))
    (l17 : K.lookup f17 = some ⟨oc17, od17, .func (PySem.W.fnOf "misaligned_holds" "misaligned_holds" (defArgs st_misaligned_holds) (defBody st_misaligned_holds) (defScope st_misaligned_holds) .none kV17 dc17 pm17 an17 cd17 ct17), sl17⟩)
    (c17 : PySem.W.codeIn K cd17 "misaligned_holds" = true)
    (k17 : PySem.W.keepIn K (.ref f17) = true)
    (a33 : PySem.W.nsIn K mainGlobals "law" = some (some (.ref f33)))
    (l33 : K.lookup f33 = some ⟨oc33, od33, .func (PySem.W.fnOf "law" "law" (defArgs st_law) (defBody st_law) (defScope st_law) .none kV33 dc33 pm33 an33 cd33 ct33), sl33⟩)
    (c33 : PySem.W.codeIn K cd33 "law" = true)
    (k33 : PySem.W.keepIn K (.ref f33) = true)
    (z_len : PySem.W.nsIn K mainGlobals "len" = some none)
    (z_int : PySem.W.nsIn K mainGlobals "int" = some none)
    (z_str : PySem.W.nsIn K mainGlobals "str" = some none)
    (z_bool : PySem.W.nsIn K mainGlobals "bool" = some none)
    (z_all : PySem.W.nsIn K mainGlobals "all" = some none)
    (z_any : PySem.W.nsIn K mainGlobals "any" = some none)
    (z_tuple : PySem.W.nsIn K mainGlobals "tuple" = some none)
    (z_list : PySem.W.nsIn K mainGlobals "list" = some none)
    (z_max : PySem.W.nsIn K mainGlobals "max" = some none)
    (z_range : PySem.W.nsIn K mainGlobals "range" = some none)
    (z_enumerate : PySem.W.nsIn K mainGlobals "enumerate" = some none)
    (z_isinstance : PySem.W.nsIn K mainGlobals "isinstance" = some none)
    (g_LETTERS : PySem.W.nsIn K mainGlobals "LETTERS" = some (some (.str "abcdefghijklmnopqrstuvwxyz" t_LETTERS)))
    (g_MOST_PERIOD : PySem.W.nsIn K mainGlobals "MOST_PERIOD" = some (some (.int 1440 t_MOST_PERIOD)))
    : ∃ (S : Sg) (FS : EF) (fd : FuncData), S.K = K ∧ (∀ (s : Shared) (u : Value), BindsTo s fd ⟨[u], []⟩ [("script", u)]) ∧ (∀ ns : List Int, ns.length ≤ 63 → FS.r [.val (.lst (ns.map D.int))] (fun e _ => e = .val (.bl true)) X0) ∧
      ∀ base : Heap, K.In base → base.Ns mainGlobals mg → FnOk l.prog w S.K mg base (L2.CX l.prog w) 10 fa fd ["script"] (spD S FS 1) := by
  have e := hfa.symm.trans (PySem.W.mg_of X G a33)
  cases e
  let cl : Nat → Addr := fun i => [C0, C1].getD i 0
  let ad : Nat → Addr := fun i => [f0, f1, f2, f3, f4, f5, f6, f7, f8, f9, f10, f11, f12, f13, f14, f15, f16, f17, f18, 0, 0, f21, f22, f23, f24, f25, f26, f27, f28, f29, f30, f31, f32, fa].getD i 0
  let fd : Nat → FuncData := fun i => match i with | 6 => PySem.W.fnOf "__eq__" "Misaligned.__eq__" (defArgs st_Misalignedu_equ) (defBody st_Misalignedu_equ) (defScope st_Misalignedu_equ) .none kV6 dc6 pm6 an6 cd6 ct6 | 1 => PySem.W.fnOf "as_tuples" "as_tuples" (defArgs st_as_tuples) (defBody st_as_tuples) (defScope st_as_tuples) .none kV1 dc1 pm1 an1 cd1 ct1 | 5 => PySem.W.fnOf "__init__" "Misaligned.__init__" (defArgs st_Misalignedu_initu) (defBody st_Misalignedu_initu) (defScope st_Misalignedu_initu) .none kV5 dc5 pm5 an5 cd5 ct5 | 7 => PySem.W.fnOf "__ne__" "Misaligned.__ne__" (defArgs st_Misalignedu_neu) (defBody st_Misalignedu_neu) (defScope st_Misalignedu_neu) .none kV7 dc7 pm7 an7 cd7 ct7 | 23 => PySem.W.fnOf "_law_draw" "_law_draw" (defArgs st__law_draw) (defBody st__law_draw) (defScope st__law_draw) .none kV23 dc23 pm23 an23 cd23 ct23 | 24 => PySem.W.fnOf "_law_pick" "_law_pick" (defArgs st__law_pick) (defBody st__law_pick) (defScope st__law_pick) .none kV24 dc24 pm24 an24 cd24 ct24 | 31 => PySem.W.fnOf "_law_round" "_law_round" (defArgs st__law_round) (defBody st__law_round) (defScope st__law_round) .none kV31 dc31 pm31 an31 cd31 ct31 | 32 => PySem.W.fnOf "_law_bent" "_law_bent" (defArgs st__law_bent) (defBody st__law_bent) (defScope st__law_bent) .none kV32 dc32 pm32 an32 cd32 ct32 | 26 => PySem.W.fnOf "_law_name" "_law_name" (defArgs st__law_name) (defBody st__law_name) (defScope st__law_name) .none kV26 dc26 pm26 an26 cd26 ct26 | 27 => PySem.W.fnOf "_law_names" "_law_names" (defArgs st__law_names) (defBody st__law_names) (defScope st__law_names) .none kV27 dc27 pm27 an27 cd27 ct27 | 28 => PySem.W.fnOf "_law_drawn_log" "_law_drawn_log" (defArgs st__law_drawn_log) (defBody st__law_drawn_log) (defScope st__law_drawn_log) .none kV28 dc28 pm28 an28 cd28 ct28 | 25 => PySem.W.fnOf "_law_is" "_law_is" (defArgs st__law_is) (defBody st__law_is) (defScope st__law_is) .none kV25 dc25 pm25 an25 cd25 ct25 | 0 => PySem.W.fnOf "is_whole" "is_whole" (defArgs st_is_whole) (defBody st_is_whole) (defScope st_is_whole) .none kV0 dc0 pm0 an0 cd0 ct0 | 21 => PySem.W.fnOf "is_day" "is_day" (defArgs st_is_day) (defBody st_is_day) (defScope st_is_day) .none kV21 dc21 pm21 an21 cd21 ct21 | 3 => PySem.W.fnOf "is_name" "is_name" (defArgs st_is_name) (defBody st_is_name) (defScope st_is_name) .none kV3 dc3 pm3 an3 cd3 ct3 | 18 => PySem.W.fnOf "__init__" "DayLog.__init__" (defArgs st_DayLogu_initu) (defBody st_DayLogu_initu) (defScope st_DayLogu_initu) .none kV18 dc18 pm18 an18 cd18 ct18 | 29 => PySem.W.fnOf "_law_made_log" "_law_made_log" (defArgs st__law_made_log) (defBody st__law_made_log) (defScope st__law_made_log) .none kV29 dc29 pm29 an29 cd29 ct29 | 30 => PySem.W.fnOf "_law_misaligned_right" "_law_misaligned_right" (defArgs st__law_misaligned_right) (defBody st__law_misaligned_right) (defScope st__law_misaligned_right) .none kV30 dc30 pm30 an30 cd30 ct30 | 22 => PySem.W.fnOf "_law_pen" "_law_pen" (defArgs st__law_pen) (defBody st__law_pen) (defScope st__law_pen) .none kV22 dc22 pm22 an22 cd22 ct22 | 8 => PySem.W.fnOf "seen_on" "seen_on" (defArgs st_seen_on) (defBody st_seen_on) (defScope st_seen_on) .none kV8 dc8 pm8 an8 cd8 ct8 | 9 => PySem.W.fnOf "differences" "differences" (defArgs st_differences) (defBody st_differences) (defScope st_differences) .none kV9 dc9 pm9 an9 cd9 ct9 | 10 => PySem.W.fnOf "steps_at" "steps_at" (defArgs st_steps_at) (defBody st_steps_at) (defScope st_steps_at) .none kV10 dc10 pm10 an10 cd10 ct10 | 11 => PySem.W.fnOf "grown" "grown" (defArgs st_grown) (defBody st_grown) (defScope st_grown) .none kV11 dc11 pm11 an11 cd11 ct11 | 4 => PySem.W.fnOf "need_period" "need_period" (defArgs st_need_period) (defBody st_need_period) (defScope st_need_period) .none kV4 dc4 pm4 an4 cd4 ct4 | 14 => PySem.W.fnOf "number_of_day" "number_of_day" (defArgs st_number_of_day) (defBody st_number_of_day) (defScope st_number_of_day) .none kV14 dc14 pm14 an14 cd14 ct14 | 12 => PySem.W.fnOf "way_to" "way_to" (defArgs st_way_to) (defBody st_way_to) (defScope st_way_to) .none kV12 dc12 pm12 an12 cd12 ct12 | 13 => PySem.W.fnOf "round_of" "round_of" (defArgs st_round_of) (defBody st_round_of) (defScope st_round_of) .none kV13 dc13 pm13 an13 cd13 ct13 | 15 => PySem.W.fnOf "lining" "lining" (defArgs st_lining) (defBody st_lining) (defScope st_lining) .none kV15 dc15 pm15 an15 cd15 ct15 | 2 => PySem.W.fnOf "is_index" "is_index" (defArgs st_is_index) (defBody st_is_index) (defScope st_is_index) .none kV2 dc2 pm2 an2 cd2 ct2 | 16 => PySem.W.fnOf "is_log_step" "is_log_step" (defArgs st_is_log_step) (defBody st_is_log_step) (defScope st_is_log_step) .none kV16 dc16 pm16 an16 cd16 ct16 | 17 => PySem.W.fnOf "misaligned_holds" "misaligned_holds" (defArgs st_misaligned_holds) (defBody st_misaligned_holds) (defScope st_misaligned_holds) .none kV17 dc17 pm17 an17 cd17 ct17 | 33 => PySem.W.fnOf "law" "law" (defArgs st_law) (defBody st_law) (defScope st_law) .none kV33 dc33 pm33 an33 cd33 ct33 | _ => PySem.W.fnOf "law" "law" (defArgs st_law) (defBody st_law) (defScope st_law) .none kV33 dc33 pm33 an33 cd33 ct33
  have T : Txt K mg cl ad fd := {
    sg := by
      refine ⟨fun k hk => ?_, fun k hk j hj hne => ?_⟩
      · have hk : k ∈ ICS := hk
        simp only [ICS, List.mem_cons, List.not_mem_nil, or_false] at hk
        rcases hk with rfl | rfl
        · exact ⟨⟨pg0, hd0, po0, sa0⟩, fun f hf => by
            have hf : f ∈ (["steps"] : List Str) := hf
            simp only [List.mem_cons, List.not_mem_nil, or_false] at hf
            rcases hf with rfl
            · exact n0_steps
            , ha0, hn, htk, mr0, fun t => by cases t <;> exact kit_ct (by assumption), fun t => by cases t <;> exact kit_tc (by assumption) ic0 tc0⟩
        · exact ⟨⟨pg1, hd1, po1, sa1⟩, fun f hf => by
            have hf : f ∈ (["events", "days"] : List Str) := hf
            simp only [List.mem_cons, List.not_mem_nil, or_false] at hf
            rcases hf with rfl | rfl
            · exact n1_events
            · exact n1_days
            , ha1, hn, htk, mr1, fun t => by cases t <;> exact kit_ct (by assumption), fun t => by cases t <;> exact kit_tc (by assumption) ic1 tc1⟩
      · have hk : k ∈ ICS := hk
        have hj : j ∈ ICS := hj
        simp only [ICS, List.mem_cons, List.not_mem_nil, or_false] at hk hj
        rcases hk with rfl | rfl <;> rcases hj with rfl | rfl <;> first | (exact absurd rfl hne) | exact kit_cc (by assumption) (by assumption) (by assumption) (by assumption)
    nf0 := fun t ht => by
      cases t with
      | b t => cases t <;> assumption
      | c j =>
        have ht : j ∈ ICS := ht
        simp only [ICS, List.mem_cons, List.not_mem_nil, or_false] at ht
        rcases ht with rfl | rfl <;> assumption
    m_Misaligned := PySem.W.mg_of X G aC0
    mk0 := ⟨mk0, a5, i5, kc0⟩
    nf1 := fun t ht => by
      cases t with
      | b t => cases t <;> assumption
      | c j =>
        have ht : j ∈ ICS := ht
        simp only [ICS, List.mem_cons, List.not_mem_nil, or_false] at ht
        rcases ht with rfl | rfl <;> assumption
    m_DayLog := PySem.W.mg_of X G aC1
    mk1 := ⟨mk1, a18, i18, kc1⟩
    z_len := PySem.W.mg_none_of X G z_len
    z_int := PySem.W.mg_none_of X G z_int
    z_str := PySem.W.mg_none_of X G z_str
    z_bool := PySem.W.mg_none_of X G z_bool
    z_all := PySem.W.mg_none_of X G z_all
    z_any := PySem.W.mg_none_of X G z_any
    z_tuple := PySem.W.mg_none_of X G z_tuple
    z_list := PySem.W.mg_none_of X G z_list
    z_max := PySem.W.mg_none_of X G z_max
    z_range := PySem.W.mg_none_of X G z_range
    z_enumerate := PySem.W.mg_none_of X G z_enumerate
    z_isinstance := PySem.W.mg_none_of X G z_isinstance
    g_LETTERS := ⟨_, PySem.W.mg_of X G g_LETTERS⟩
    g_SIGNS := g_SIGNS
    g_MOST_PERIOD := ⟨_, PySem.W.mg_of X G g_MOST_PERIOD⟩
    f_Misalignedu_equ := fun_mk (st := st_Misalignedu_equ) l6 c6 k6
    b_Misalignedu_equ := (fun_mk (st := st_Misalignedu_equ) l6 c6 k6).binds fun _ _ _ _ _ _ us hl => match us, hl with | [_, _], _ => rfl
    a_Misalignedu_equ := a6
    i_Misalignedu_equ := i6
    f_as_tuples := fun_mk (st := st_as_tuples) l1 c1 k1
    b_as_tuples := (fun_mk (st := st_as_tuples) l1 c1 k1).binds fun _ _ _ _ _ _ us hl => match us, hl with | [_], _ => rfl
    m_as_tuples := PySem.W.mg_of X G a1
    f_Misalignedu_initu := fun_mk (st := st_Misalignedu_initu) l5 c5 k5
    b_Misalignedu_initu := (fun_mk (st := st_Misalignedu_initu) l5 c5 k5).binds fun _ _ _ _ _ _ us hl => match us, hl with | [_, _], _ => rfl
    f_Misalignedu_neu := fun_mk (st := st_Misalignedu_neu) l7 c7 k7
    b_Misalignedu_neu := (fun_mk (st := st_Misalignedu_neu) l7 c7 k7).binds fun _ _ _ _ _ _ us hl => match us, hl with | [_, _], _ => rfl
    a_Misalignedu_neu := a7
    i_Misalignedu_neu := i7
    f__law_draw := fun_mk (st := st__law_draw) l23 c23 k23
    b__law_draw := (fun_mk (st := st__law_draw) l23 c23 k23).binds fun _ _ _ _ _ _ us hl => match us, hl with | [_, _], _ => rfl
    m__law_draw := PySem.W.mg_of X G a23
    f__law_pick := fun_mk (st := st__law_pick) l24 c24 k24
    b__law_pick := (fun_mk (st := st__law_pick) l24 c24 k24).binds fun _ _ _ _ _ _ us hl => match us, hl with | [_, _], _ => rfl
    m__law_pick := PySem.W.mg_of X G a24
    f__law_round := fun_mk (st := st__law_round) l31 c31 k31
    b__law_round := (fun_mk (st := st__law_round) l31 c31 k31).binds fun _ _ _ _ _ _ us hl => match us, hl with | [_, _], _ => rfl
    m__law_round := PySem.W.mg_of X G a31
    f__law_bent := fun_mk (st := st__law_bent) l32 c32 k32
    b__law_bent := (fun_mk (st := st__law_bent) l32 c32 k32).binds fun _ _ _ _ _ _ us hl => match us, hl with | [_, _, _], _ => rfl
    m__law_bent := PySem.W.mg_of X G a32
    f__law_name := fun_mk (st := st__law_name) l26 c26 k26
    b__law_name := (fun_mk (st := st__law_name) l26 c26 k26).binds fun _ _ _ _ _ _ us hl => match us, hl with | [_], _ => rfl
    m__law_name := PySem.W.mg_of X G a26
    f__law_names := fun_mk (st := st__law_names) l27 c27 k27
    b__law_names := (fun_mk (st := st__law_names) l27 c27 k27).binds fun _ _ _ _ _ _ us hl => match us, hl with | [_, _], _ => rfl
    m__law_names := PySem.W.mg_of X G a27
    f__law_drawn_log := fun_mk (st := st__law_drawn_log) l28 c28 k28
    b__law_drawn_log := (fun_mk (st := st__law_drawn_log) l28 c28 k28).binds fun _ _ _ _ _ _ us hl => match us, hl with | [_, _, _], _ => rfl
    m__law_drawn_log := PySem.W.mg_of X G a28
    f__law_is := fun_mk (st := st__law_is) l25 c25 k25
    b__law_is := (fun_mk (st := st__law_is) l25 c25 k25).binds fun _ _ _ _ _ _ us hl => match us, hl with | [_, _], _ => rfl
    m__law_is := PySem.W.mg_of X G a25
    f_is_whole := fun_mk (st := st_is_whole) l0 c0 k0
    b_is_whole := (fun_mk (st := st_is_whole) l0 c0 k0).binds fun _ _ _ _ _ _ us hl => match us, hl with | [_], _ => rfl
    m_is_whole := PySem.W.mg_of X G a0
    f_is_day := fun_mk (st := st_is_day) l21 c21 k21
    b_is_day := (fun_mk (st := st_is_day) l21 c21 k21).binds fun _ _ _ _ _ _ us hl => match us, hl with | [_, _], _ => rfl
    m_is_day := PySem.W.mg_of X G a21
    f_is_name := fun_mk (st := st_is_name) l3 c3 k3
    b_is_name := (fun_mk (st := st_is_name) l3 c3 k3).binds fun _ _ _ _ _ _ us hl => match us, hl with | [_], _ => rfl
    m_is_name := PySem.W.mg_of X G a3
    f_DayLogu_initu := fun_mk (st := st_DayLogu_initu) l18 c18 k18
    b_DayLogu_initu := (fun_mk (st := st_DayLogu_initu) l18 c18 k18).binds fun _ _ _ _ _ _ us hl => match us, hl with | [_, _, _], _ => rfl
    f__law_made_log := fun_mk (st := st__law_made_log) l29 c29 k29
    b__law_made_log := (fun_mk (st := st__law_made_log) l29 c29 k29).binds fun _ _ _ _ _ _ us hl => match us, hl with | [_], _ => rfl
    m__law_made_log := PySem.W.mg_of X G a29
    f__law_misaligned_right := fun_mk (st := st__law_misaligned_right) l30 c30 k30
    b__law_misaligned_right := (fun_mk (st := st__law_misaligned_right) l30 c30 k30).binds fun _ _ _ _ _ _ us hl => match us, hl with | [_, _, _], _ => rfl
    m__law_misaligned_right := PySem.W.mg_of X G a30
    f__law_pen := fun_mk (st := st__law_pen) l22 c22 k22
    b__law_pen := (fun_mk (st := st__law_pen) l22 c22 k22).binds fun _ _ _ _ _ _ us hl => match us, hl with | [_], _ => rfl
    m__law_pen := PySem.W.mg_of X G a22
    f_seen_on := fun_mk (st := st_seen_on) l8 c8 k8
    b_seen_on := (fun_mk (st := st_seen_on) l8 c8 k8).binds fun _ _ _ _ _ _ us hl => match us, hl with | [_], _ => rfl
    m_seen_on := PySem.W.mg_of X G a8
    f_differences := fun_mk (st := st_differences) l9 c9 k9
    b_differences := (fun_mk (st := st_differences) l9 c9 k9).binds fun _ _ _ _ _ _ us hl => match us, hl with | [_], _ => rfl
    m_differences := PySem.W.mg_of X G a9
    f_steps_at := fun_mk (st := st_steps_at) l10 c10 k10
    b_steps_at := (fun_mk (st := st_steps_at) l10 c10 k10).binds fun _ _ _ _ _ _ us hl => match us, hl with | [_, _], _ => rfl
    m_steps_at := PySem.W.mg_of X G a10
    f_grown := fun_mk (st := st_grown) l11 c11 k11
    b_grown := (fun_mk (st := st_grown) l11 c11 k11).binds fun _ _ _ _ _ _ us hl => match us, hl with | [_, _, _, _, _], _ => rfl
    m_grown := PySem.W.mg_of X G a11
    f_need_period := fun_mk (st := st_need_period) l4 c4 k4
    b_need_period := (fun_mk (st := st_need_period) l4 c4 k4).binds fun _ _ _ _ _ _ us hl => match us, hl with | [_], _ => rfl
    m_need_period := PySem.W.mg_of X G a4
    f_number_of_day := fun_mk (st := st_number_of_day) l14 c14 k14
    b_number_of_day := (fun_mk (st := st_number_of_day) l14 c14 k14).binds fun _ _ _ _ _ _ us hl => match us, hl with | [_, _, _], _ => rfl
    m_number_of_day := PySem.W.mg_of X G a14
    f_way_to := fun_mk (st := st_way_to) l12 c12 k12
    b_way_to := (fun_mk (st := st_way_to) l12 c12 k12).binds fun _ _ _ _ _ _ us hl => match us, hl with | [_, _], _ => rfl
    m_way_to := PySem.W.mg_of X G a12
    f_round_of := fun_mk (st := st_round_of) l13 c13 k13
    b_round_of := (fun_mk (st := st_round_of) l13 c13 k13).binds fun _ _ _ _ _ _ us hl => match us, hl with | [_, _, _], _ => rfl
    m_round_of := PySem.W.mg_of X G a13
    f_lining := fun_mk (st := st_lining) l15 c15 k15
    b_lining := (fun_mk (st := st_lining) l15 c15 k15).binds fun _ _ _ _ _ _ us hl => match us, hl with | [_, _], _ => rfl
    m_lining := PySem.W.mg_of X G a15
    f_is_index := fun_mk (st := st_is_index) l2 c2 k2
    b_is_index := (fun_mk (st := st_is_index) l2 c2 k2).binds fun _ _ _ _ _ _ us hl => match us, hl with | [_, _], _ => rfl
    m_is_index := PySem.W.mg_of X G a2
    f_is_log_step := fun_mk (st := st_is_log_step) l16 c16 k16
    b_is_log_step := (fun_mk (st := st_is_log_step) l16 c16 k16).binds fun _ _ _ _ _ _ us hl => match us, hl with | [_, _], _ => rfl
    m_is_log_step := PySem.W.mg_of X G a16
    f_misaligned_holds := fun_mk (st := st_misaligned_holds) l17 c17 k17
    b_misaligned_holds := (fun_mk (st := st_misaligned_holds) l17 c17 k17).binds fun _ _ _ _ _ _ us hl => match us, hl with | [_, _, _], _ => rfl
    m_misaligned_holds := PySem.W.mg_of X G a17
    f_law := fun_mk (st := st_law) l33 c33 k33
    b_law := (fun_mk (st := st_law) l33 c33 k33).binds fun _ _ _ _ _ _ us hl => match us, hl with | [_], _ => rfl
    m_law := PySem.W.mg_of X G a33
  }
  exact ⟨sg K cl, F_law, fd 33, rfl, fun s v => .of_eq rfl, hlaw, fun base _ _ => (ok_law T).fn⟩
end Lw
set_option Elab.async false
set_option linter.all false
set_option maxRecDepth 100000
open PySem PySem.W PyProof.Rows
set_option maxHeartbeats 0 in
theorem PySem.Challenge.cw_everyhour_k89_linings_bent_holds : PySem.Challenge.rw_everyhour_k89_linings_bent.Holds := by
  w_on; o_law; k_head; (case hw => w_witness2)
  k_fill
  refine En.walk_X (l := PySem.Challenge.rw_everyhour_k89_linings_bent) (n := 63) (k := 10) (x := "script") rfl (by decide) rfl ⟨rfl, by decide, by decide⟩ (fun w h Y => PySem.W.kIn_of Y) ?F
  case F =>
    intro w mg fa h hX KX G hmg
    have hl_SIGNS : ∃ t : Tok, mg "SIGNS" = some (.str "abcdefghijklmnopqrstuvwxyz0123456789" t) := by
      obtain ⟨v, e1, e2⟩ := hX.2.val _ (by first | exact List.mem_cons_self | exact List.mem_cons_of_mem _ List.mem_cons_self)
      cases e2 with | str x t => exact ⟨t, e1⟩
    refine' Lw.all_mk KX G hmg hl_SIGNS Lw.law_ok ?aC0 ?aC1 ?pg0 ?hd0 ?po0 ?sa0 ?mk0 ?kc0 ?n0_steps ?ha0 ?ic0 ?tc0 ?mr0 ?ka0_non ?kb0_non ?nf0_non ?ka0_bool ?kb0_bool ?nf0_bool ?ka0_int ?kb0_int ?nf0_int ?ka0_str ?kb0_str ?nf0_str ?ka0_list ?kb0_list ?nf0_list ?ka0_tuple ?kb0_tuple ?nf0_tuple ?ka0_dict ?kb0_dict ?nf0_dict ?nc0_0 ?nc0_1 ?kk0_1 ?ne0_1 ?pg1 ?hd1 ?po1 ?sa1 ?mk1 ?kc1 ?n1_events ?n1_days ?ha1 ?ic1 ?tc1 ?mr1 ?ka1_non ?kb1_non ?nf1_non ?ka1_bool ?kb1_bool ?nf1_bool ?ka1_int ?kb1_int ?nf1_int ?ka1_str ?kb1_str ?nf1_str ?ka1_list ?kb1_list ?nf1_list ?ka1_tuple ?kb1_tuple ?nf1_tuple ?ka1_dict ?kb1_dict ?nf1_dict ?nc1_0 ?kk1_0 ?ne1_0 ?nc1_1 ?hn ?htk ?a6 ?i6 ?l6 ?c6 ?k6 ?a1 ?l1 ?c1 ?k1 ?a5 ?i5 ?l5 ?c5 ?k5 ?a7 ?i7 ?l7 ?c7 ?k7 ?a23 ?l23 ?c23 ?k23 ?a24 ?l24 ?c24 ?k24 ?a31 ?l31 ?c31 ?k31 ?a32 ?l32 ?c32 ?k32 ?a26 ?l26 ?c26 ?k26 ?a27 ?l27 ?c27 ?k27 ?a28 ?l28 ?c28 ?k28 ?a25 ?l25 ?c25 ?k25 ?a0 ?l0 ?c0 ?k0 ?a21 ?l21 ?c21 ?k21 ?a3 ?l3 ?c3 ?k3 ?a18 ?i18 ?l18 ?c18 ?k18 ?a29 ?l29 ?c29 ?k29 ?a30 ?l30 ?c30 ?k30 ?a22 ?l22 ?c22 ?k22 ?a8 ?l8 ?c8 ?k8 ?a9 ?l9 ?c9 ?k9 ?a10 ?l10 ?c10 ?k10 ?a11 ?l11 ?c11 ?k11 ?a4 ?l4 ?c4 ?k4 ?a14 ?l14 ?c14 ?k14 ?a12 ?l12 ?c12 ?k12 ?a13 ?l13 ?c13 ?k13 ?a15 ?l15 ?c15 ?k15 ?a2 ?l2 ?c2 ?k2 ?a16 ?l16 ?c16 ?k16 ?a17 ?l17 ?c17 ?k17 ?a33 ?l33 ?c33 ?k33 ?z_len ?z_int ?z_str ?z_bool ?z_all ?z_any ?z_tuple ?z_list ?z_max ?z_range ?z_enumerate ?z_isinstance ?g_LETTERS ?g_MOST_PERIOD
    (case aC0 => k_is); (case aC1 => k_is); (case pg0 => k_is); (case hd0 => k_is); (case po0 => k_is); (case sa0 => k_is); (case mk0 => k_is); (case kc0 => k_is); (case n0_steps => k_is); (case ha0 => k_is); (case ic0 => k_is); (case tc0 => k_is); (case mr0 => k_is); (case ka0_non => k_is); (case kb0_non => k_is); (case nf0_non => k_is); (case ka0_bool => k_is); (case kb0_bool => k_is); (case nf0_bool => k_is); (case ka0_int => k_is); (case kb0_int => k_is); (case nf0_int => k_is); (case ka0_str => k_is); (case kb0_str => k_is); (case nf0_str => k_is); (case ka0_list => k_is); (case kb0_list => k_is); (case nf0_list => k_is); (case ka0_tuple => k_is); (case kb0_tuple => k_is); (case nf0_tuple => k_is); (case ka0_dict => k_is); (case kb0_dict => k_is); (case nf0_dict => k_is); (case nc0_0 => k_is); (case nc0_1 => k_is); (case kk0_1 => k_is); (case ne0_1 => rfl); (case pg1 => k_is); (case hd1 => k_is); (case po1 => k_is); (case sa1 => k_is); (case mk1 => k_is); (case kc1 => k_is); (case n1_events => k_is); (case n1_days => k_is); (case ha1 => k_is); (case ic1 => k_is); (case tc1 => k_is); (case mr1 => k_is); (case ka1_non => k_is); (case kb1_non => k_is); (case nf1_non => k_is); (case ka1_bool => k_is); (case kb1_bool => k_is); (case nf1_bool => k_is); (case ka1_int => k_is); (case kb1_int => k_is); (case nf1_int => k_is); (case ka1_str => k_is); (case kb1_str => k_is); (case nf1_str => k_is); (case ka1_list => k_is); (case kb1_list => k_is); (case nf1_list => k_is); (case ka1_tuple => k_is); (case kb1_tuple => k_is); (case nf1_tuple => k_is); (case ka1_dict => k_is); (case kb1_dict => k_is); (case nf1_dict => k_is); (case nc1_0 => k_is); (case kk1_0 => k_is); (case ne1_0 => rfl); (case nc1_1 => k_is); (case hn => k_is); (case htk => k_is); (case a6 => k_is); (case i6 => k_is); (case l6 => k_is); (case c6 => k_is); (case k6 => k_is); (case a1 => k_is); (case l1 => k_is); (case c1 => k_is); (case k1 => k_is); (case a5 => k_is); (case i5 => k_is); (case l5 => k_is); (case c5 => k_is); (case k5 => k_is); (case a7 => k_is); (case i7 => k_is); (case l7 => k_is); (case c7 => k_is); (case k7 => k_is); (case a23 => k_is); (case l23 => k_is); (case c23 => k_is); (case k23 => k_is); (case a24 => k_is); (case l24 => k_is); (case c24 => k_is); (case k24 => k_is); (case a31 => k_is); (case l31 => k_is); (case c31 => k_is); (case k31 => k_is); (case a32 => k_is); (case l32 => k_is); (case c32 => k_is); (case k32 => k_is); (case a26 => k_is); (case l26 => k_is); (case c26 => k_is); (case k26 => k_is); (case a27 => k_is); (case l27 => k_is); (case c27 => k_is); (case k27 => k_is); (case a28 => k_is); (case l28 => k_is); (case c28 => k_is); (case k28 => k_is); (case a25 => k_is); (case l25 => k_is); (case c25 => k_is); (case k25 => k_is); (case a0 => k_is); (case l0 => k_is); (case c0 => k_is); (case k0 => k_is); (case a21 => k_is); (case l21 => k_is); (case c21 => k_is); (case k21 => k_is); (case a3 => k_is); (case l3 => k_is); (case c3 => k_is); (case k3 => k_is); (case a18 => k_is); (case i18 => k_is); (case l18 => k_is); (case c18 => k_is); (case k18 => k_is); (case a29 => k_is); (case l29 => k_is); (case c29 => k_is); (case k29 => k_is); (case a30 => k_is); (case l30 => k_is); (case c30 => k_is); (case k30 => k_is); (case a22 => k_is); (case l22 => k_is); (case c22 => k_is); (case k22 => k_is); (case a8 => k_is); (case l8 => k_is); (case c8 => k_is); (case k8 => k_is); (case a9 => k_is); (case l9 => k_is); (case c9 => k_is); (case k9 => k_is); (case a10 => k_is); (case l10 => k_is); (case c10 => k_is); (case k10 => k_is); (case a11 => k_is); (case l11 => k_is); (case c11 => k_is); (case k11 => k_is); (case a4 => k_is); (case l4 => k_is); (case c4 => k_is); (case k4 => k_is); (case a14 => k_is); (case l14 => k_is); (case c14 => k_is); (case k14 => k_is); (case a12 => k_is); (case l12 => k_is); (case c12 => k_is); (case k12 => k_is); (case a13 => k_is); (case l13 => k_is); (case c13 => k_is); (case k13 => k_is); (case a15 => k_is); (case l15 => k_is); (case c15 => k_is); (case k15 => k_is); (case a2 => k_is); (case l2 => k_is); (case c2 => k_is); (case k2 => k_is); (case a16 => k_is); (case l16 => k_is); (case c16 => k_is); (case k16 => k_is); (case a17 => k_is); (case l17 => k_is); (case c17 => k_is); (case k17 => k_is); (case a33 => k_is); (case l33 => k_is); (case c33 => k_is); (case k33 => k_is); (case z_len => k_is); (case z_int => k_is); (case z_str => k_is); (case z_bool => k_is); (case z_all => k_is); (case z_any => k_is); (case z_tuple => k_is); (case z_list => k_is); (case z_max => k_is); (case z_range => k_is); (case z_enumerate => k_is); (case z_isinstance => k_is); (case g_LETTERS => k_is); (case g_MOST_PERIOD => k_is)
