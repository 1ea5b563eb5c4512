import PyProof.Rows.All
import Wide.All
import OpenK.AllK
import Wide.FinOn
import HandS.ForMost
import HandS.ForExc
import HandS.ExcInit
import HandS.IsInst
import HandS.TupAny
import HandS.Style
import HandS.Zip
import HandS.Deep
import HandS.Conv
import HandS.Rev
import HandS.Lambda
import HandS.Codes
import HandS.Strs
import KE.GoesEnum
import HandS.NoneIn
import HandS.Small
import HandS.OwnEq
import HandS.WordsExc
import HandS.ExcField
import HandS.ExcIs
import KE.KExcIs
import HandS.EndTab
import HandS.TupMul
import HandS.Gcd
import PyProof.StrLawsRepr
import HandS.DictComp
import PySem.Challenge.RW_everyhour_k87_whole_periods
set_option Elab.async false
set_option linter.all false
set_option maxRecDepth 100000
namespace En
open PySem PySem.Spec PyProof.Rows L2
/-! ### values without a heap -/
inductive D where
  | non
  | bl (b : Bool)
  | int (i : Int)
  | str (x : Str)
  | tup (xs : List D)
  | lst (xs : List D)
  | dK (ks : List Key) (vs : List D)
  | dT (ks : List (List Key)) (vs : List D)
  | ins (c : Nat) (fs : List D)
  /-- a tuple of texts that may be asked for its places -/
  | nms (xs : List Str)
  /-- a lambda without parameters, and what it captured -/
  | fn (k : Nat) (ds : List D)
  /-- the exception that a suite holds: its class, its fields -/
  | exc (c : Nat) (ds : List D)
/-- the lambdas: their objects, the names of their codes, what their cells hold -/
structure Lm where
  ob : Nat → Value → Addr → Value → Obj
  q : Nat → Str
  ct : Nat → List V → Prop
def Lm.none : Lm := ⟨fun _ _ _ _ => { cls := .none, data := .fields #[] }, fun _ => Str.empty, fun _ _ => False⟩
structure Sg where
  K : PySem.W.Frag
  cls : Nat → Addr
  flds : Nat → List Str
  lm : Lm := .none
  cau : Option (Addr × Addr × Nat) := none
  tabs : List (Addr × Str) := []
/-- an object that stays just as it is -/
def PinO (a : Addr) (o : Obj) : HO := .ext fun h => h.get? a = some o
/-- no table of code objects -/
def Nt (o : HO) : Prop := ∀ ps, o ≠ .tbl ps
theorem Nt.tup {xs : List V} : Nt (.tup xs) := fun _ z => nomatch z
theorem Nt.lst {xs : List V} : Nt (.lst xs) := fun _ z => nomatch z
theorem Nt.dK {xs : List (Key × V)} : Nt (.dK xs) := fun _ z => nomatch z
theorem Nt.dT {xs : List (List Key × V)} : Nt (.dT xs) := fun _ z => nomatch z
theorem Nt.ins {c d : Addr} {xs : List (Str × V)} : Nt (.ins c d xs) := fun _ z => nomatch z
theorem Nt.frz {o : Obj} {u : HO} : Nt (.frz o u) := fun _ z => nomatch z
theorem Nt.pin {a : Addr} {o : Obj} : Nt (PinO a o) := fun _ z => nomatch z
theorem Nt.code {a : Addr} {q : Str} : Nt (LamX.CodeO a q) := fun _ z => nomatch z
theorem Nt.xd {xs : List (Str × V)} : Nt (.xd xs) := fun _ z => nomatch z
abbrev MS := Addr → Prop
/-- a list of the written part -/
def KL (K : PySem.W.Frag) (a : Addr) (xs : List V) : Prop :=
  ∃ (o : Obj) (its : Array Value) (n : Nat), K.lookup a = some o ∧ o.cls = .type "list" ∧ o.dict = none ∧ o.data = .seq its n ∧ its.size ≤ sizeLine ∧ Vals xs its.toList
/-- a list that stays as it is -/
def LAt (K : PySem.W.Frag) (M : MS) (H : Hp) (a : Addr) (xs : List V) : Prop := (¬ M a ∧ Rd H a (.lst xs)) ∨ KL K a xs
theorem LAt.seq {K : PySem.W.Frag} {M : MS} {H : Hp} {a : Addr} {xs : List V} (h : LAt K M H a xs) : SqL K H a xs := h.elim (fun h => .inl h.2) .inr
mutual
/-- the value v stands for d in the heap H; M: the objects that may change -/
def Rep (S : Sg) (M : MS) (H : Hp) : D → V → Prop
  | .non, v => v = .non
  | .bl b, v => v = .bl b
  | .int i, v => v = .int i
  | .str x, v => v = .str x
  | .tup ds, v => ∃ a vs, v = .ref a ∧ ¬ M a ∧ H a = some (.tup vs) ∧ RepL S M H ds vs
  | .lst ds, v => ∃ a vs, v = .ref a ∧ LAt S.K M H a vs ∧ RepL S M H ds vs
  | .dK ks ds, v => ∃ a vs, v = .ref a ∧ ¬ M a ∧ Rd H a (.dK (ks.zip vs)) ∧ ks.length = vs.length ∧ RepL S M H ds vs
  | .dT ks ds, v => ∃ a vs, v = .ref a ∧ ¬ M a ∧ Rd H a (.dT (ks.zip vs)) ∧ ks.length = vs.length ∧ RepL S M H ds vs
  | .ins c ds, v => ∃ a dx vs, v = .ref a ∧ ¬ M a ∧ H a = some (.ins (S.cls c) dx ((S.flds c).zip vs)) ∧ (S.flds c).length = vs.length ∧ RepL S M H ds vs
  | .nms xs, v => ∃ a o, v = .ref a ∧ ¬ M a ∧ H a = some (.frz o (.tup (xs.map V.str))) ∧ o.dict = none
  | .fn k ds, v => ∃ f pm c ct vs, v = .ref f ∧ ¬ M f ∧ ¬ M c ∧ H f = some (PinO f (S.lm.ob k pm c ct)) ∧ H c = some (LamX.CodeO c (S.lm.q k)) ∧ S.lm.ct k vs ∧ RepL S M H ds vs
  | .exc c ds, v => ∃ a dx l vs, v = .ref a ∧ S.cau = some (a, dx, c) ∧ ¬ M dx ∧ H dx = some (.xd l) ∧ (S.flds c).length = vs.length ∧ (∀ (i : Nat) f w, (S.flds c)[i]? = some f → vs[i]? = some w → l.lookup f = some w) ∧ RepL S M H ds vs
def RepL (S : Sg) (M : MS) (H : Hp) : List D → List V → Prop
  | [], vs => vs = []
  | d :: ds, vs => ∃ v r, vs = v :: r ∧ Rep S M H d v ∧ RepL S M H ds r
end
/-- all but what is in ow stays -/
def Kp (ow : List (Option Addr)) (H H' : Hp) : Prop := ∀ a o, Nt o → some a ∉ ow → H a = some o → H' a = some o
/-- the tables of code objects, their codes not to be changed -/
def TbM (T : List (Addr × Str)) (M : MS) (H : Hp) : Prop := ∀ p ∈ T, ∃ ps : Array Value, H p.1 = some (.tbl ps) ∧ TriplesOk ps.toList ∧ ∀ (po : Pos) (cv : Value), codeAmong po ps.toList = some cv → ∃ c, cv = .ref c ∧ ¬ M c ∧ H c = some (LamX.CodeO c p.2)
theorem TbM.move {T : List (Addr × Str)} {M M' : MS} {H H' : Hp} (k : ∀ a o, Nt o → ¬ M a → H a = some o → H' a = some o ∧ ¬ M' a) (kt : ∀ a ps, H a = some (.tbl ps) → H' a = some (.tbl ps)) (h : TbM T M H) : TbM T M' H' := fun p hp => by
  obtain ⟨ps, h1, h2, h3⟩ := h p hp
  refine ⟨ps, kt _ _ h1, h2, fun po cv hc => ?_⟩
  obtain ⟨c, e1, e2, e3⟩ := h3 po cv hc
  exact ⟨c, e1, (k c _ .code e2 e3).2, (k c _ .code e2 e3).1⟩
theorem TbM.anti {T : List (Addr × Str)} {M M' : MS} {H : Hp} (g : ∀ a, M' a → M a) (h : TbM T M H) : TbM T M' H := h.move (fun a _ _ n e => ⟨e, fun z => n (g a z)⟩) fun _ _ e => e
theorem TbM.tabs {T : List (Addr × Str)} {M : MS} {H : Hp} (h : TbM T M H) : LamX.Tabs T H := fun p hp => by
  obtain ⟨ps, h1, h2, h3⟩ := h p hp
  exact ⟨ps, h1, h2, fun po cv hc => let ⟨c, e1, _, e3⟩ := h3 po cv hc; ⟨c, e1, e3⟩⟩
theorem TbM.but {T : List (Addr × Str)} {M M' : MS} {H : Hp} {a : Addr} {u : HO} (hu : H a = some u) (hc : ∀ b q, u ≠ LamX.CodeO b q) (g : ∀ b, M' b → M b ∨ b = a) (h : TbM T M H) : TbM T M' H := fun p hp => by
  obtain ⟨ps, h1, h2, h3⟩ := h p hp
  refine ⟨ps, h1, h2, fun po cv hcv => ?_⟩
  obtain ⟨c, e1, e2, e3⟩ := h3 po cv hcv
  refine ⟨c, e1, fun z => ?_, e3⟩
  rcases g c z with z | z
  · exact e2 z
  · rw [z, hu] at e3; exact hc _ _ (Option.some.inj e3)
theorem tbl_upd {H : Hp} {a : Addr} {u ho : HO} (h : H a = some u) (n : Nt u) : ∀ b ps, H b = some (.tbl ps) → L2.upd H a ho b = some (.tbl ps) := fun b ps e => by
  rw [upd_ne (fun z => by rw [z, h] at e; exact n ps (Option.some.inj e))]; exact e
/-- the tables grow -/
def TbK (H H' : Hp) : Prop := ∀ T, LamX.Tabs T H → LamX.Tabs T H'
theorem TbK.rfl' {H : Hp} : TbK H H := fun _ h => h
theorem TbK.trans {H H1 H2 : Hp} (a : TbK H H1) (b : TbK H1 H2) : TbK H H2 := fun T h => b T (a T h)
theorem TbK.grow {H H' : Hp} (g : ∀ a o, H a = some o → H' a = some o) : TbK H H' := fun _ h => h.ext g
theorem TbK.ext {H H' : Hp} (g : ∀ a ps, H a = some (.tbl ps) → H' a = some (.tbl ps)) (g2 : ∀ a q, H a = some (LamX.CodeO a q) → H' a = some (LamX.CodeO a q)) : TbK H H' := fun T h p hp => by
  obtain ⟨ps, h1, h2, h3⟩ := h p hp
  refine ⟨ps, g _ _ h1, h2, fun pos cv hc => ?_⟩
  obtain ⟨c, e1, e2⟩ := h3 pos cv hc
  exact ⟨c, e1, g2 _ _ e2⟩
def Grow (H H' : Hp) : Prop := ∀ a o, H a = some o → H' a = some o
theorem Grow.rfl' {H : Hp} : Grow H H := fun _ _ h => h
theorem Grow.trans {H H1 H2 : Hp} (a : Grow H H1) (b : Grow H1 H2) : Grow H H2 := fun c o h => b c o (a c o h)
theorem Grow.upd {H : Hp} {p : Addr} {o : HO} (h : H p = none) : Grow H (upd H p o) := fun a u e => by
  rw [upd_ne (ne_of_none e h)]; exact e
theorem Grow.free {H H' : Hp} (g : Grow H H') {a : Addr} (h : H' a = none) : H a = none := by
  cases q : H a with
  | none => rfl
  | some o => rw [g a o q] at h; cases h
section
variable {S : Sg} {M M' : MS} {H H' : Hp}
theorem Rd.kp {a : Addr} {u : HO} (k : ∀ o, H a = some o → H' a = some o) (h : Rd H a u) : Rd H' a u := by
  rcases h with h | ⟨o, h⟩
  · exact .inl (k _ h)
  · exact .inr ⟨o, k _ h⟩
theorem Rd.mv {a : Addr} {u : HO} (hu : Nt u) (k : ∀ o, Nt o → ¬ M a → H a = some o → H' a = some o ∧ ¬ M' a) (n : ¬ M a) (h : Rd H a u) : ¬ M' a ∧ Rd H' a u := by
  rcases h with h | ⟨o, h⟩
  · exact ⟨(k _ hu n h).2, .inl (k _ hu n h).1⟩
  · exact ⟨(k _ .frz n h).2, .inr ⟨o, (k _ .frz n h).1⟩⟩
theorem Rd.there {a : Addr} {u : HO} (h : Rd H a u) : ∃ o, H a = some o := by
  rcases h with h | ⟨o, h⟩
  · exact ⟨_, h⟩
  · exact ⟨_, h⟩
mutual
/-- what stands is kept, what was to be kept does not come to change -/
theorem Rep.move (k : ∀ a o, Nt o → ¬ M a → H a = some o → H' a = some o ∧ ¬ M' a) : ∀ (d : D) (v : V), Rep S M H d v → Rep S M' H' d v
  | .non, v, h => h
  | .bl _, v, h => h
  | .int _, v, h => h
  | .str _, v, h => h
  | .tup ds, v, h => by
    obtain ⟨a, vs, e, n, r, l⟩ := h
    exact ⟨a, vs, e, (k a _ .tup n r).2, (k a _ .tup n r).1, RepL.move k ds vs l⟩
  | .lst ds, v, h => by
    obtain ⟨a, vs, e, q, l⟩ := h
    refine ⟨a, vs, e, ?_, RepL.move k ds vs l⟩
    rcases q with ⟨n, r⟩ | q
    · exact .inl (Rd.mv .lst (k a) n r)
    · exact .inr q
  | .dK ks ds, v, h => by
    obtain ⟨a, vs, e, n, r, z, l⟩ := h
    obtain ⟨n2, r2⟩ := Rd.mv .dK (k a) n r
    exact ⟨a, vs, e, n2, r2, z, RepL.move k ds vs l⟩
  | .dT ks ds, v, h => by
    obtain ⟨a, vs, e, n, r, z, l⟩ := h
    obtain ⟨n2, r2⟩ := Rd.mv .dT (k a) n r
    exact ⟨a, vs, e, n2, r2, z, RepL.move k ds vs l⟩
  | .ins c ds, v, h => by
    obtain ⟨a, dx, vs, e, n, r, z, l⟩ := h
    exact ⟨a, dx, vs, e, (k a _ .ins n r).2, (k a _ .ins n r).1, z, RepL.move k ds vs l⟩
  | .nms xs, v, h => by
    obtain ⟨a, o, e, n, r, z⟩ := h
    exact ⟨a, o, e, (k a _ .frz n r).2, (k a _ .frz n r).1, z⟩
  | .fn j ds, v, h => by
    obtain ⟨f, pm, c, ct, vs, e, n, n2, r, r2, z, l⟩ := h
    exact ⟨f, pm, c, ct, vs, e, (k f _ .pin n r).2, (k c _ .code n2 r2).2, (k f _ .pin n r).1, (k c _ .code n2 r2).1, z, RepL.move k ds vs l⟩
  | .exc c ds, v, h => by
    obtain ⟨a, dx, l, vs, e, ec, n, r, z, q, m⟩ := h
    exact ⟨a, dx, l, vs, e, ec, (k dx _ .xd n r).2, (k dx _ .xd n r).1, z, q, RepL.move k ds vs m⟩
theorem RepL.move (k : ∀ a o, Nt o → ¬ M a → H a = some o → H' a = some o ∧ ¬ M' a) : ∀ (ds : List D) (vs : List V), RepL S M H ds vs → RepL S M' H' ds vs
  | [], vs, h => h
  | d :: ds, vs, h => by
    obtain ⟨v, r, e, h1, h2⟩ := h
    exact ⟨v, r, e, Rep.move k d v h1, RepL.move k ds r h2⟩
end
theorem Rep.grow {d : D} {v : V} (g : Grow H H') (t : ∀ a, M a → ∃ o, H a = some o) (h : Rep S M H d v) : Rep S M H' d v := Rep.move (fun a o _ n e => ⟨g a o e, n⟩) d v h
theorem RepL.grow {d : List D} {v : List V} (g : Grow H H') (h : RepL S M H d v) : RepL S M H' d v := RepL.move (fun a o _ n e => ⟨g a o e, n⟩) d v h
theorem Rep.anti {d : D} {v : V} (g : ∀ a, M' a → M a) (h : Rep S M H d v) : Rep S M' H d v := Rep.move (fun a o _ n e => ⟨e, fun x => n (g a x)⟩) d v h
theorem RepL.anti {d : List D} {v : List V} (g : ∀ a, M' a → M a) (h : RepL S M H d v) : RepL S M' H d v := RepL.move (fun a o _ n e => ⟨e, fun x => n (g a x)⟩) d v h
theorem RepL.nil {vs : List V} : RepL S M H [] vs ↔ vs = [] := Iff.rfl
theorem RepL.len : ∀ {ds : List D} {vs : List V}, RepL S M H ds vs → ds.length = vs.length
  | [], vs, h => by
    have h : vs = [] := h
    rw [h]; rfl
  | d :: ds, _, h => by
    obtain ⟨v, r, rfl, _, h2⟩ := h
    simp [RepL.len h2]
theorem RepL.get : ∀ {ds : List D} {vs : List V} {i : Nat} {d : D}, RepL S M H ds vs → ds[i]? = some d → ∃ v, vs[i]? = some v ∧ Rep S M H d v
  | [], _, i, d, _, e => by simp at e
  | x :: ds, _, 0, d, h, e => by
    obtain ⟨v, r, rfl, h1, h2⟩ := h
    simp at e; subst e
    exact ⟨v, rfl, h1⟩
  | x :: ds, _, i + 1, d, h, e => by
    obtain ⟨v, r, rfl, h1, h2⟩ := h
    simp at e
    obtain ⟨w, e1, e2⟩ := RepL.get h2 e
    exact ⟨w, by simpa using e1, e2⟩
theorem RepL.of : ∀ {ds : List D} {vs : List V}, ds.length = vs.length → (∀ (i : Nat) d v, ds[i]? = some d → vs[i]? = some v → Rep S M H d v) → RepL S M H ds vs
  | [], [], _, _ => rfl
  | [], _ :: _, h, _ => by simp at h
  | _ :: _, [], h, _ => by simp at h
  | d :: ds, v :: vs, h, k => ⟨v, vs, rfl, k 0 d v rfl rfl, RepL.of (by simpa using h) fun i d v a b => k (i + 1) d v (by simpa using a) (by simpa using b)⟩
theorem RepL.get2 {ds : List D} {vs : List V} {i : Nat} {d : D} {v : V} (h : RepL S M H ds vs) (e : ds[i]? = some d) (e2 : vs[i]? = some v) : Rep S M H d v := by
  obtain ⟨w, h1, h2⟩ := h.get e
  rw [e2] at h1; cases h1; exact h2
theorem RepL.append : ∀ {ds es : List D} {vs ws : List V}, RepL S M H ds vs → RepL S M H es ws → RepL S M H (ds ++ es) (vs ++ ws)
  | [], _, _, _, h, k => by have h : _ = [] := h; rw [h]; exact k
  | d :: ds, _, _, _, h, k => by
    obtain ⟨v, r, rfl, h1, h2⟩ := h
    exact ⟨v, _, rfl, h1, RepL.append h2 k⟩
theorem RepL.sub {ds es : List D} {vs ws : List V} (h : RepL S M H ds vs) (l : es.length = ws.length) (f : Nat → Nat) (k : ∀ i, i < es.length → es[i]? = ds[f i]? ∧ ws[i]? = vs[f i]?) : RepL S M H es ws :=
  RepL.of l fun i d v a b => by
    have hi : i < es.length := (List.getElem?_eq_some_iff.mp a).1
    obtain ⟨k1, k2⟩ := k i hi
    exact h.get2 (k1 ▸ a) (k2 ▸ b)
theorem RepL.take (n : Nat) : ∀ {n : Nat} {ds : List D} {vs : List V}, RepL S M H ds vs → RepL S M H (ds.take n) (vs.take n)
  | 0, _, _, _ => by simp [RepL]
  | n + 1, [], _, h => by have h : _ = [] := h; simp [h, RepL]
  | n + 1, d :: ds, _, h => by
    obtain ⟨v, r, rfl, h1, h2⟩ := h
    exact ⟨v, _, rfl, h1, RepL.take n h2⟩
theorem RepL.drop : ∀ {n : Nat} {ds : List D} {vs : List V}, RepL S M H ds vs → RepL S M H (ds.drop n) (vs.drop n)
  | 0, _, _, h => h
  | n + 1, [], _, h => by have h : _ = [] := h; simp [h, RepL]
  | n + 1, d :: ds, _, h => by
    obtain ⟨v, r, rfl, h1, h2⟩ := h
    exact RepL.drop (n := n) h2
theorem RepL.reverse : ∀ {ds : List D} {vs : List V}, RepL S M H ds vs → RepL S M H ds.reverse vs.reverse
  | [], _, h => by have h : _ = [] := h; simp [h, RepL]
  | d :: ds, _, h => by
    obtain ⟨v, r, rfl, h1, h2⟩ := h
    simp only [List.reverse_cons]
    exact RepL.append (RepL.reverse h2) ⟨v, [], rfl, h1, rfl⟩
theorem RepL.set : ∀ {ds : List D} {vs : List V} {i : Nat} {d : D} {v : V}, RepL S M H ds vs → Rep S M H d v → RepL S M H (ds.set i d) (vs.set i v)
  | [], _, i, d, v, h, k => by have h : _ = [] := h; simp [h, RepL]
  | x :: ds, _, 0, d, v, h, k => by
    obtain ⟨v0, r, rfl, h1, h2⟩ := h
    exact ⟨v, r, rfl, k, h2⟩
  | x :: ds, _, i + 1, d, v, h, k => by
    obtain ⟨v0, r, rfl, h1, h2⟩ := h
    exact ⟨v0, _, rfl, h1, RepL.set h2 k⟩
end
/-! ### what may change -/
inductive Ob where
  | lst (ds : List D)
  | dK (ks : List Key) (ds : List D)
  | dT (ks : List (List Key)) (ds : List D)
  | ins (c : Nat) (fs : List (Str × D))
def ObRep (S : Sg) (M : MS) (H : Hp) (a : Addr) : Ob → Prop
  | .lst ds => ∃ vs, H a = some (.lst vs) ∧ RepL S M H ds vs
  | .dK ks ds => ∃ vs, H a = some (.dK (ks.zip vs)) ∧ ks.length = vs.length ∧ RepL S M H ds vs
  | .dT ks ds => ∃ vs, H a = some (.dT (ks.zip vs)) ∧ ks.length = vs.length ∧ RepL S M H ds vs
  | .ins c fs => ∃ dx vs, H a = some (.ins (S.cls c) dx ((fs.map (·.1)).zip vs)) ∧ fs.length = vs.length ∧ RepL S M H (fs.map (·.2)) vs
/-- it changes no more -/
def Ob.fr (F : Nat → List Str) : Ob → Option D
  | .lst ds => some (.lst ds)
  | .dK ks ds => some (.dK ks ds)
  | .dT ks ds => some (.dT ks ds)
  | .ins c fs => if fs.map (·.1) = F c then some (.ins c (fs.map (·.2))) else none
inductive Slot where
  | un
  | val (d : D)
  | own (o : Ob)
  | io (o : Ob)
abbrev Env' := List Slot
inductive EV where
  | val (d : D)
  | own (i : Nat)
  | new (o : Ob)
abbrev OW := List (Option Addr)
def Md (B : MS) (ow : OW) : MS := fun a => B a ∨ some a ∈ ow
structure Sim (S : Sg) (M0 B : MS) (ow : OW) (env : Env') (σ : L2.St) (H : Hp) : Prop where
  l1 : env.length = σ.length
  l2 : ow.length = σ.length
  val : ∀ (i : Nat) (d : D), env[i]? = some (.val d) → ∃ v, σ[i]? = some (some v) ∧ Rep S (Md B ow) H d v
  own : ∀ (i : Nat) (o : Ob), env[i]? = some (.own o) → ∃ a, ow[i]? = some (some a) ∧ σ[i]? = some (some (.ref a)) ∧ ObRep S (Md B ow) H a o ∧ ¬ M0 a
  io : ∀ (i : Nat) (o : Ob), env[i]? = some (.io o) → ∃ a, ow[i]? = some (some a) ∧ σ[i]? = some (some (.ref a)) ∧ ObRep S (Md B ow) H a o
  live : ∀ (i : Nat) (a : Addr), ow[i]? = some (some a) → ∃ o, env[i]? = some (.own o) ∨ env[i]? = some (.io o)
  inj : ∀ (i j : Nat) (a : Addr), ow[i]? = some (some a) → ow[j]? = some (some a) → i = j
  dis : ∀ a, B a → some a ∉ ow
  trk : ∀ a, B a → ∃ u, H a = some u
  m0 : ∀ a, M0 a → Md B ow a
  tb : TbM S.tabs (Md B ow) H
/-- a step: what is not ours stays; ours are old ones or new -/
structure Stp (ow : OW) (H : Hp) (ow' : OW) (H' : Hp) : Prop where
  kp : Kp ow H H'
  nwp : ∀ (i : Nat) (a : Addr), ow'[i]? = some (some a) → ow[i]? = some (some a) ∨ H a = none
  gr : ∀ a o, H a = some o → ∃ o', H' a = some o'
theorem Stp.nw {ow ow' : OW} {H H' : Hp} (x : Stp ow H ow' H') : ∀ a, some a ∈ ow' → some a ∈ ow ∨ H a = none := by
  intro a h
  obtain ⟨i, hi, e⟩ := List.getElem_of_mem h
  rcases x.nwp i a (by rw [List.getElem?_eq_getElem hi, e]) with z | z
  · exact .inl (List.mem_of_getElem? z)
  · exact .inr z
theorem Stp.refl {ow : OW} {H : Hp} : Stp ow H ow H := ⟨fun _ _ _ _ h => h, fun _ _ h => .inl h, fun _ o h => ⟨o, h⟩⟩
theorem Stp.trans {ow ow1 ow2 : OW} {H H1 H2 : Hp} (x : Stp ow H ow1 H1) (y : Stp ow1 H1 ow2 H2) : Stp ow H ow2 H2 := by
  refine ⟨fun a o t n e => ?_, fun i a h => ?_, fun a o e => ?_⟩
  · refine y.kp a o t (fun h => ?_) (x.kp a o t n e)
    rcases x.nw a h with z | z
    · exact n z
    · rw [z] at e; cases e
  · rcases y.nwp i a h with z | z
    · exact x.nwp i a z
    · refine .inr ?_
      cases q : H a with
      | none => rfl
      | some o =>
        obtain ⟨o', q'⟩ := x.gr a o q
        rw [q'] at z; cases z
  · obtain ⟨o1, h1⟩ := x.gr a o e
    exact y.gr a o1 h1
theorem Stp.grow {ow : OW} {H H' : Hp} (g : Grow H H') : Stp ow H ow H' := ⟨fun a o _ _ e => g a o e, fun _ _ h => .inl h, fun a o h => ⟨o, g a o h⟩⟩
theorem Rep.stp {S : Sg} {B : MS} {ow ow' : OW} {H H' : Hp} {d : D} {v : V} (x : Stp ow H ow' H') (h : Rep S (Md B ow) H d v) : Rep S (Md B ow') H' d v :=
  Rep.move (fun a o t n e => ⟨x.kp a o t (fun z => n (.inr z)) e, fun z => z.elim (fun z => n (.inl z)) fun z => (x.nw a z).elim (fun z => n (.inr z)) fun z => by rw [z] at e; cases e⟩) d v h
theorem RepL.stp {S : Sg} {B : MS} {ow ow' : OW} {H H' : Hp} {d : List D} {v : List V} (x : Stp ow H ow' H') (h : RepL S (Md B ow) H d v) : RepL S (Md B ow') H' d v :=
  RepL.move (fun a o t n e => ⟨x.kp a o t (fun z => n (.inr z)) e, fun z => z.elim (fun z => n (.inl z)) fun z => (x.nw a z).elim (fun z => n (.inr z)) fun z => by rw [z] at e; cases e⟩) d v h
def plus (B : MS) (a : Addr) : MS := fun b => B b ∨ b = a
def EVOk (S : Sg) (M0 B : MS) (ow : OW) (env : Env') (σ : L2.St) (H : Hp) : EV → V → Prop
  | .val d, v => Sim S M0 B ow env σ H ∧ Rep S (Md B ow) H d v
  | .own i, v => Sim S M0 B ow env σ H ∧ ∃ a o, v = .ref a ∧ ow[i]? = some (some a) ∧ (env[i]? = some (.own o) ∨ env[i]? = some (.io o))
  | .new o, v => ∃ a, v = .ref a ∧ ¬ Md B ow a ∧ ¬ M0 a ∧ Sim S M0 (plus B a) ow env σ H ∧ ObRep S (Md (plus B a) ow) H a o
/-- a new object is new since H -/
def Nw (H : Hp) : EV → V → Prop
  | .new _, v => ∀ a, v = .ref a → H a = none
  | _, _ => True
theorem Stp.fresh {ow ow1 : OW} {H H1 : Hp} (x : Stp ow H ow1 H1) {a : Addr} (h : H1 a = none) : H a = none := by
  cases q : H a with
  | none => rfl
  | some o =>
    obtain ⟨o', q'⟩ := x.gr a o q
    rw [q'] at h; cases h
theorem Nw.back {ow ow1 : OW} {H H1 : Hp} {e : EV} {v : V} (h : Nw H1 e v) (x : Stp ow H ow1 H1) : Nw H e v := by
  cases e with
  | new o => exact fun a e => x.fresh (h a e)
  | val d => trivial
  | own i => trivial
theorem Nw.at {H : Hp} {o : Ob} {p : Addr} (h : H p = none) : Nw H (.new o) (.ref p) := fun a e => by cases e; exact h
def Dom (H H' : Hp) : Prop := ∀ a o, H a = some o → ∃ o', H' a = some o'
theorem Dom.trans {H H1 H2 : Hp} (a : Dom H H1) (b : Dom H1 H2) : Dom H H2 := fun x o e => by
  obtain ⟨o', e'⟩ := a x o e
  exact b x o' e'
/-- the posts of an exception -/
abbrev Exx := Nat → List D → Prop
def XRep (S : Sg) (M0 : MS) (H : Hp) (c : Nat) (fs : List D) (dx : Addr) : Prop :=
  ∃ l : List (Str × V), H dx = some (.xd l) ∧ ¬ M0 dx ∧ (S.flds c).length = fs.length ∧ ∀ (i : Nat) f d, (S.flds c)[i]? = some f → fs[i]? = some d → ∃ v, l.lookup f = some v ∧ Rep S M0 H d v
def XP (S : Sg) (M0 : MS) (E : XK) (ow : OW) (H : Hp) : Exx := fun c fs => ∀ dx H', Kp ow H H' → Dom H H' → TbM S.tabs M0 H' → XRep S M0 H' c fs dx → E (.ref (S.cls c)) (some dx) H'
theorem XP.stp {S : Sg} {M0 : MS} {E : XK} {ow ow' : OW} {H H' : Hp} {c : Nat} {fs : List D} (x : Stp ow H ow' H') (h : XP S M0 E ow H c fs) : XP S M0 E ow' H' c fs :=
  fun dx H2 k dm kt r => h dx H2 (fun a o t n e => k a o t (fun z => (x.nw a z).elim n fun z => by rw [z] at e; cases e) (x.kp a o t n e)) (Dom.trans x.gr dm) kt r
/-- an expression's meaning -/
structure EF where
  r : Env' → (EV → Env' → Prop) → Exx → Prop
  m : ∀ {env P P' X X'}, (∀ e env', P e env' → P' e env') → (∀ c fs, X c fs → X' c fs) → r env P X → r env P' X'
/-- a test's -/
structure TF where
  r : Env' → (Bool → Env' → Prop) → Exx → Prop
  m : ∀ {env P P' X X'}, (∀ e env', P e env' → P' e env') → (∀ c fs, X c fs → X' c fs) → r env P X → r env P' X'
/-- an argument list's: values alone -/
structure LF where
  r : Env' → (List D → Env' → Prop) → Exx → Prop
  m : ∀ {env P P' X X'}, (∀ e env', P e env' → P' e env') → (∀ c fs, X c fs → X' c fs) → r env P X → r env P' X'
section
variable (S : Sg) (M0 : MS) (E : XK)
def tE (F : EF) : TE := fun σ H Q => ∃ B ow env, Sim S M0 B ow env σ H ∧
  F.r env (fun e env' => ∀ v H' ow', Stp ow H ow' H' → Nw H e v → EVOk S M0 B ow' env' σ H' e v → Q v H') (XP S M0 E ow H)
def tT (F : TF) : TT := fun σ H Q => ∃ B ow env, Sim S M0 B ow env σ H ∧
  F.r env (fun b env' => ∀ H' ow', Stp ow H ow' H' → Sim S M0 B ow' env' σ H' → Q b H') (XP S M0 E ow H)
def tL (F : LF) : TA := fun σ H Q => ∃ B ow env, Sim S M0 B ow env σ H ∧
  F.r env (fun ds env' => ∀ vs H' ow', Stp ow H ow' H' → Sim S M0 B ow' env' σ H' → RepL S (Md B ow') H' ds vs → Q vs H') (XP S M0 E ow H)
end
theorem PE.imp {X : Cx} {e : Expr} {t t' : TE} (h : PE X e t) (k : ∀ σ H Q, t' σ H Q → t σ H Q) : PE X e t' := ⟨fun p s σ H Q I q => h.run p s σ H Q I (k σ H Q q)⟩
theorem PT.imp {X : Cx} {e : Expr} {t t' : TT} (h : PT X e t) (k : ∀ σ H Q, t' σ H Q → t σ H Q) : PT X e t' := ⟨fun p s σ H Q I q => h.run p s σ H Q I (k σ H Q q)⟩
theorem PA.imp {X : Cx} {e : List Expr} {t t' : TA} (h : PA X e t) (k : ∀ σ H Q, t' σ H Q → t σ H Q) : PA X e t' := ⟨fun q p s σ H Q I z => h.run q p s σ H Q I (k σ H Q z)⟩
theorem PS.imp {X : Cx} {e : Stmt} {t t' : TS} (h : PS X e t) (k : ∀ D σ H, t' D σ H → t D σ H) : PS X e t' := ⟨fun p s σ H D I q => h.run p s σ H D I (k D σ H q)⟩
theorem PSs.imp {X : Cx} {e : List Stmt} {t t' : TS} (h : PSs X e t) (k : ∀ D σ H, t' D σ H → t D σ H) : PSs X e t' := ⟨fun p s σ H D I q => h.run p s σ H D I (k D σ H q)⟩
theorem PG.imp {X : Cx} {e : Expr} {t t' : TG} (h : PG X e t) (k : ∀ v σ H Q, t' v σ H Q → t v σ H Q) : PG X e t' := ⟨fun p s σ H v u Q I r q => h.run p s σ H v u Q I r (k v σ H Q q)⟩
section
variable {S : Sg} {M0 B : MS} {ow ow' : OW} {env env' : Env'} {σ : L2.St} {H H' : Hp}
theorem Sim.trkA (h : Sim S M0 B ow env σ H) : ∀ a, Md B ow a → ∃ u, H a = some u := by
  intro a ha
  rcases ha with ha | ha
  · exact h.trk a ha
  · obtain ⟨i, hi, e⟩ := List.getElem_of_mem ha
    have e' : ow[i]? = some (some a) := by rw [List.getElem?_eq_getElem hi, e]
    obtain ⟨o, q⟩ := h.live i a e'
    have fin : ∀ b, ObRep S (Md B ow) H b o → ∃ u, H b = some u := by
      intro b hb
      cases o with
      | lst ds => obtain ⟨vs, h1, _⟩ := hb; exact ⟨_, h1⟩
      | dK ks ds => obtain ⟨vs, h1, _⟩ := hb; exact ⟨_, h1⟩
      | dT ks ds => obtain ⟨vs, h1, _⟩ := hb; exact ⟨_, h1⟩
      | ins c fs => obtain ⟨dx, vs, h1, _⟩ := hb; exact ⟨_, h1⟩
    rcases q with q | q
    · obtain ⟨b, e2, _, hb, _⟩ := h.own i o q
      rw [e'] at e2; cases e2
      exact fin _ hb
    · obtain ⟨b, e2, _, hb⟩ := h.io i o q
      rw [e'] at e2; cases e2
      exact fin _ hb
theorem ObRep.move {M M' : MS} {a : Addr} {o : Ob} (ha : ∀ u, Nt u → H a = some u → H' a = some u) (k : ∀ b u, Nt u → ¬ M b → H b = some u → H' b = some u ∧ ¬ M' b) (h : ObRep S M H a o) : ObRep S M' H' a o := by
  cases o with
  | lst ds => obtain ⟨vs, h1, h2⟩ := h; exact ⟨vs, ha _ .lst h1, RepL.move k _ _ h2⟩
  | dK ks ds => obtain ⟨vs, h1, z, h2⟩ := h; exact ⟨vs, ha _ .dK h1, z, RepL.move k _ _ h2⟩
  | dT ks ds => obtain ⟨vs, h1, z, h2⟩ := h; exact ⟨vs, ha _ .dT h1, z, RepL.move k _ _ h2⟩
  | ins c fs => obtain ⟨dx, vs, h1, z, h2⟩ := h; exact ⟨dx, vs, ha _ .ins h1, z, RepL.move k _ _ h2⟩
theorem Sim.kept (h : Sim S M0 B ow env σ H) (g : ∀ a o, Nt o → H a = some o → H' a = some o) (dm : ∀ a o, H a = some o → ∃ o', H' a = some o') (tb : TbM S.tabs (Md B ow) H') : Sim S M0 B ow env σ H' where
  tb := tb
  l1 := h.l1
  l2 := h.l2
  val := fun i d e => by
    obtain ⟨v, h1, h2⟩ := h.val i d e
    exact ⟨v, h1, Rep.move (fun a o t n e => ⟨g a o t e, n⟩) _ _ h2⟩
  own := fun i o e => by
    obtain ⟨a, h1, h2, h3, h4⟩ := h.own i o e
    exact ⟨a, h1, h2, h3.move (g a) fun a o t n e => ⟨g a o t e, n⟩, h4⟩
  io := fun i o e => by
    obtain ⟨a, h1, h2, h3⟩ := h.io i o e
    exact ⟨a, h1, h2, h3.move (g a) fun a o t n e => ⟨g a o t e, n⟩⟩
  live := h.live
  inj := h.inj
  dis := h.dis
  trk := fun a ha => by obtain ⟨u, e⟩ := h.trk a ha; exact dm a u e
  m0 := h.m0
theorem Sim.grow (h : Sim S M0 B ow env σ H) (g : Grow H H') : Sim S M0 B ow env σ H' := h.kept (fun a o _ e => g a o e) (fun a o e => ⟨o, g a o e⟩) (h.tb.move (fun a o _ n e => ⟨g a o e, n⟩) fun a ps e => g a _ e)
/-- fewer others -/
theorem Sim.anti {B' : MS} (h : Sim S M0 B ow env σ H) (g : ∀ a, B' a → B a) (m : ∀ a, M0 a → Md B' ow a) : Sim S M0 B' ow env σ H where
  l1 := h.l1
  l2 := h.l2
  val := fun i d e => by
    obtain ⟨v, h1, h2⟩ := h.val i d e
    exact ⟨v, h1, h2.anti fun a z => z.imp (g a) id⟩
  own := fun i o e => by
    obtain ⟨a, h1, h2, h3, h4⟩ := h.own i o e
    exact ⟨a, h1, h2, h3.move (fun _ _ z => z) fun a o _ n e => ⟨e, fun z => n (z.imp (g a) id)⟩, h4⟩
  io := fun i o e => by
    obtain ⟨a, h1, h2, h3⟩ := h.io i o e
    exact ⟨a, h1, h2, h3.move (fun _ _ z => z) fun a o _ n e => ⟨e, fun z => n (z.imp (g a) id)⟩⟩
  live := h.live
  inj := h.inj
  dis := fun a z => h.dis a (g a z)
  trk := fun a ha => h.trk a (g a ha)
  m0 := m
  tb := h.tb.anti fun a z => z.imp (g a) id
theorem md_plus (a : Addr) : ∀ b, Md B ow b → Md (plus B a) ow b := fun b h => h.imp .inl id
end
/-- a new object is let go -/
def EV.settle (F : Nat → List Str) : EV → Option EV
  | .new o => (o.fr F).map .val
  | e => some e
def Slot.ob : Slot → Option Ob
  | .own o => some o
  | .io o => some o
  | _ => none
theorem ob_is {S : Sg} {M : MS} {H : Hp} {a : Addr} {o : Ob} (h : ObRep S M H a o) : ∃ u, H a = some u ∧ Nt u ∧ ∀ b q, u ≠ LamX.CodeO b q := by
  cases o with
  | lst ds => obtain ⟨vs, h1, _⟩ := h; exact ⟨_, h1, .lst, fun _ _ z => nomatch z⟩
  | dK ks ds => obtain ⟨vs, h1, _⟩ := h; exact ⟨_, h1, .dK, fun _ _ z => nomatch z⟩
  | dT ks ds => obtain ⟨vs, h1, _⟩ := h; exact ⟨_, h1, .dT, fun _ _ z => nomatch z⟩
  | ins c fs => obtain ⟨dx, vs, h1, _⟩ := h; exact ⟨_, h1, .ins, fun _ _ z => nomatch z⟩
theorem TbK.upd {H : Hp} {a : Addr} {u ho : HO} (h : H a = some u) (n : Nt u) (c : ∀ b q, u ≠ LamX.CodeO b q) : TbK H (L2.upd H a ho) := .ext (fun b ps e => by
    rw [upd_ne (fun z => by rw [z, h] at e; exact n ps (Option.some.inj e))]; exact e) fun b q e => by
    rw [upd_ne (fun z => by rw [z, h] at e; exact c _ q (Option.some.inj e))]; exact e
/-- its content, to be read at once -/
def EV.rd (F : Nat → List Str) (env : Env') : EV → Option D
  | .val d => some d
  | .own i => (env[i]?).bind fun s => s.ob.bind fun o => o.fr F
  | .new _ => none
/-- a value that may be kept -/
def EV.keep (F : Nat → List Str) : EV → Option D
  | .val d => some d
  | .own _ => none
  | .new o => o.fr F
/-- as Rep, but the object itself may be one that changes -/
def RepT (S : Sg) (M : MS) (H : Hp) : D → V → Prop
  | .lst ds, v => ∃ a vs, v = .ref a ∧ SqL S.K H a vs ∧ RepL S M H ds vs
  | .dK ks ds, v => ∃ a vs, v = .ref a ∧ Rd H a (.dK (ks.zip vs)) ∧ ks.length = vs.length ∧ RepL S M H ds vs
  | .dT ks ds, v => ∃ a vs, v = .ref a ∧ Rd H a (.dT (ks.zip vs)) ∧ ks.length = vs.length ∧ RepL S M H ds vs
  | .ins c ds, v => ∃ a dx vs, v = .ref a ∧ H a = some (.ins (S.cls c) dx ((S.flds c).zip vs)) ∧ (S.flds c).length = vs.length ∧ RepL S M H ds vs
  | d, v => Rep S M H d v
section
variable {S : Sg} {M M' M0 B : MS} {ow ow' : OW} {env env' : Env'} {σ : L2.St} {H H' : Hp}
theorem Rep.top {d : D} {v : V} (h : Rep S M H d v) : RepT S M H d v := by
  cases d with
  | lst ds => obtain ⟨a, vs, e, q, l⟩ := h; exact ⟨a, vs, e, q.seq, l⟩
  | dK ks ds => obtain ⟨a, vs, e, _, q, z, l⟩ := h; exact ⟨a, vs, e, q, z, l⟩
  | dT ks ds => obtain ⟨a, vs, e, _, q, z, l⟩ := h; exact ⟨a, vs, e, q, z, l⟩
  | ins c ds => obtain ⟨a, dx, vs, e, _, q, z, l⟩ := h; exact ⟨a, dx, vs, e, q, z, l⟩
  | non => exact h
  | bl b => exact h
  | int i => exact h
  | str x => exact h
  | tup ds => exact h
  | nms xs => exact h
  | fn k ds => exact h
  | exc c ds => exact h
theorem ObRep.top {a : Addr} {o : Ob} {d : D} (h : ObRep S M H a o) (e : o.fr S.flds = some d) : RepT S M H d (.ref a) := by
  cases o with
  | lst ds => cases e; obtain ⟨vs, h1, h2⟩ := h; exact ⟨a, vs, rfl, .inl (.inl h1), h2⟩
  | dK ks ds => cases e; obtain ⟨vs, h1, z, h2⟩ := h; exact ⟨a, vs, rfl, .inl h1, z, h2⟩
  | dT ks ds => cases e; obtain ⟨vs, h1, z, h2⟩ := h; exact ⟨a, vs, rfl, .inl h1, z, h2⟩
  | ins c fs =>
    have e : (if fs.map (·.1) = S.flds c then some (D.ins c (fs.map (·.2))) else none) = some d := e
    split at e
    · rename_i hf
      cases e
      obtain ⟨dx, vs, h1, z, h2⟩ := h
      refine ⟨a, dx, vs, rfl, by rw [← hf]; exact h1, by rw [← hf, List.length_map]; exact z, h2⟩
    · cases e
theorem ObRep.rep {a : Addr} {o : Ob} {d : D} (h : ObRep S M H a o) (n : ¬ M a) (e : o.fr S.flds = some d) : Rep S M H d (.ref a) := by
  cases o with
  | lst ds => cases e; obtain ⟨vs, h1, h2⟩ := h; exact ⟨a, vs, rfl, .inl ⟨n, .inl h1⟩, h2⟩
  | dK ks ds => cases e; obtain ⟨vs, h1, z, h2⟩ := h; exact ⟨a, vs, rfl, n, .inl h1, z, h2⟩
  | dT ks ds => cases e; obtain ⟨vs, h1, z, h2⟩ := h; exact ⟨a, vs, rfl, n, .inl h1, z, h2⟩
  | ins c fs =>
    have e : (if fs.map (·.1) = S.flds c then some (D.ins c (fs.map (·.2))) else none) = some d := e
    split at e
    · rename_i hf
      cases e
      obtain ⟨dx, vs, h1, z, h2⟩ := h
      refine ⟨a, dx, vs, rfl, n, by rw [← hf]; exact h1, by rw [← hf, List.length_map]; exact z, h2⟩
    · cases e
theorem ObRep.anti {a : Addr} {o : Ob} (g : ∀ a, M' a → M a) (h : ObRep S M H a o) : ObRep S M' H a o := h.move (fun _ _ z => z) fun a o _ n e => ⟨e, fun z => n (g a z)⟩
theorem EVOk.m0 {o : Ob} {v : V} (h : EVOk S M0 B ow env σ H (.new o) v) : ∀ a, M0 a → Md B ow a := by
  obtain ⟨a, rfl, n, n0, s, r⟩ := h
  intro b hb
  rcases s.m0 b hb with (z | z) | z
  · exact .inl z
  · subst z; exact absurd hb n0
  · exact .inr z
theorem EVOk.unplus {o : Ob} {v : V} {d : D} (h : EVOk S M0 B ow env σ H (.new o) v) (e : o.fr S.flds = some d) : EVOk S M0 B ow env σ H (.val d) v := by
  have m := h.m0
  obtain ⟨a, rfl, n, n0, s, r⟩ := h
  refine ⟨s.anti (fun _ z => .inl z) m, ?_⟩
  exact (r.anti (M' := Md B ow) (md_plus a)).rep n e
theorem EVOk.settle {e e' : EV} {v : V} (h : EVOk S M0 B ow env σ H e v) (q : e.settle S.flds = some e') : EVOk S M0 B ow env σ H e' v := by
  cases e with
  | val d => cases q; exact h
  | own i => cases q; exact h
  | new o =>
    have q : (o.fr S.flds).map EV.val = some e' := q
    cases hf : o.fr S.flds with
    | none => rw [hf] at q; cases q
    | some d => rw [hf] at q; cases q; exact h.unplus hf
theorem EVOk.keep {e : EV} {d : D} {v : V} (h : EVOk S M0 B ow env σ H e v) (q : e.keep S.flds = some d) : Sim S M0 B ow env σ H ∧ Rep S (Md B ow) H d v := by
  cases e with
  | val d => cases q; exact h
  | own i => cases q
  | new o => exact h.unplus q
def EV.old : EV → Prop
  | .new _ => False
  | _ => True
theorem EV.settle_old {F : Nat → List Str} {e e' : EV} (q : e.settle F = some e') : e'.old := by
  cases e with
  | val d => cases q; trivial
  | own i => cases q; trivial
  | new o =>
    have q : (o.fr F).map EV.val = some e' := q
    cases hf : o.fr F with
    | none => rw [hf] at q; cases q
    | some d => rw [hf] at q; cases q; trivial
theorem EVOk.sim {e : EV} {v : V} (h : EVOk S M0 B ow env σ H e v) (o : e.old) : Sim S M0 B ow env σ H := by
  cases e with
  | val d => exact h.1
  | own i => exact h.1
  | new o' => exact o.elim
theorem Sim.slot {i : Nat} {s : Slot} {o : Ob} (h : Sim S M0 B ow env σ H) (e : env[i]? = some s) (q : s.ob = some o) : ∃ a, ow[i]? = some (some a) ∧ σ[i]? = some (some (.ref a)) ∧ ObRep S (Md B ow) H a o := by
  cases s with
  | un => cases q
  | val d => cases q
  | own o' => cases q; obtain ⟨a, h1, h2, h3, _⟩ := h.own i o e; exact ⟨a, h1, h2, h3⟩
  | io o' => cases q; exact h.io i o e
/-- read later: the content as it is then -/
theorem EVOk.rd {e : EV} {v : V} {d : D} {ow2 : OW} {env2 : Env'} {H2 : Hp} (h : EVOk S M0 B ow env σ H e v) (st : Stp ow H ow2 H2) (s2 : Sim S M0 B ow2 env2 σ H2) (q : e.rd S.flds env2 = some d) : RepT S (Md B ow2) H2 d v := by
  cases e with
  | val d' => cases q; exact (Rep.stp st h.2).top
  | own i =>
    obtain ⟨s, a, o, rfl, ha, ho⟩ := h
    have hs : σ[i]? = some (some (.ref a)) := by
      rcases ho with ho | ho
      · obtain ⟨b, h1, h2, _⟩ := s.own i o ho; rw [ha] at h1; cases h1; exact h2
      · obtain ⟨b, h1, h2, _⟩ := s.io i o ho; rw [ha] at h1; cases h1; exact h2
    have q : ((env2[i]?).bind fun s => s.ob.bind fun o => o.fr S.flds) = some d := q
    cases he : env2[i]? with
    | none => rw [he] at q; cases q
    | some sl =>
      rw [he] at q
      have q : (sl.ob.bind fun o => o.fr S.flds) = some d := q
      cases hb : sl.ob with
      | none => rw [hb] at q; cases q
      | some o2 =>
        rw [hb] at q
        obtain ⟨b, h1, h2, h3⟩ := s2.slot he hb
        rw [hs] at h2; cases h2
        exact h3.top q
  | new o => cases q
end
end En
set_option Elab.async false
set_option linter.all false
set_option maxRecDepth 100000
namespace En
open PySem PySem.Spec PyProof.Rows L2
/-- the context of a body (or of a comprehension's block) -/
structure Cz (X : Cx) (S : Sg) (E : XK) : Prop where
  k : X.K = S.K
  calm : X.calm = true
  nd : X.N.Nodup
  hx : Passes (L2.CX X.prog X.w) X E
  hu : X.A.units + 100 < cLine
theorem Cz.blk {X : Cx} {S : Sg} {E : XK} (z : Cz X S E) (s : Shared) (H : Hp) (scope : Scope) (cenv : Env) (fp : List Addr) : Cz (X.blk s H scope cenv fp) S E0 :=
  ⟨z.k, z.calm, z.nd, passL, z.hu⟩
section
variable {X : Cx} {S : Sg} {M0 : MS} {E : XK}
/-! ### names, constants -/
def varF (i : Nat) : EF where
  r := fun env P _ => match env[i]? with
    | some (.val d) => P (.val d) env
    | some (.own _) => P (.own i) env
    | some (.io _) => P (.own i) env
    | _ => False
  m := fun hp _ h => by
    split at h
    · exact hp _ _ h
    · exact hp _ _ h
    · exact hp _ _ h
    · exact h.elim
theorem r_var {i : Nat} {x : Str} {pos : Pos} (hN : X.N[i]? = some x := by rfl) (hv : Vis X.env.scope x := by first | exact Or.inl rfl | exact Or.inr (Or.inl rfl) | exact Or.inr (Or.inr rfl)) (hd : (x == ("__debug__" : Str)) = false := by decide)
    (hcd : (x == ("__classdict__" : Str)) = false := by decide) : PE X (.Name x pos) (tE S M0 E (varF i)) := by
  refine PE.imp (pe_var hN hv hd hcd) fun σ H Q h => ?_
  obtain ⟨B, ow, env, s, h⟩ := h
  have h : (match env[i]? with
    | some (.val d) => _
    | some (.own _) => _
    | some (.io _) => _
    | _ => False) := h
  split at h
  · rename_i d e
    obtain ⟨v, h1, h2⟩ := s.val i d e
    exact ⟨v, h1, h v H ow .refl trivial ⟨s, h2⟩⟩
  · rename_i o e
    obtain ⟨a, h1, h2, h3, h4⟩ := s.own i o e
    exact ⟨_, h2, h _ H ow .refl trivial ⟨s, a, o, rfl, h1, .inl e⟩⟩
  · rename_i o e
    obtain ⟨a, h1, h2, h3⟩ := s.io i o e
    exact ⟨_, h2, h _ H ow .refl trivial ⟨s, a, o, rfl, h1, .inr e⟩⟩
  · exact h.elim
def litF (d : D) : EF where
  r := fun env P _ => P (.val d) env
  m := fun hp _ h => hp _ _ h
theorem lit_of {e : Expr} {v : V} {d : D} (h : PE X e (tC v)) (hd : ∀ M H, Rep S M H d v) : PE X e (tE S M0 E (litF d)) :=
  PE.imp h fun σ H Q h => by
    obtain ⟨B, ow, env, s, h⟩ := h
    exact h v H ow .refl trivial ⟨s, hd _ _⟩
theorem r_int {i : Int} {j pos} : PE X (.Constant (.int i) j pos) (tE S M0 E (litF (.int i))) := lit_of pe_int fun _ _ => rfl
theorem r_bl {b : Bool} {j pos} : PE X (.Constant (.bool b) j pos) (tE S M0 E (litF (.bl b))) := lit_of pe_bl fun _ _ => rfl
theorem r_non {j pos} : PE X (.Constant .none j pos) (tE S M0 E (litF .non)) := lit_of pe_non fun _ _ => rfl
theorem r_str {x : Str} {j pos} : PE X (.Constant (.str x) j pos) (tE S M0 E (litF (.str x))) := lit_of pe_str fun _ _ => rfl
/-- a module's constant: an int or a text -/
theorem r_gint {x : Str} {i : Int} {t : Tok} {pos : Pos} (hm : X.mg x = some (.int i t)) (hg : Gl X x := by rfl) (hd : (x == ("__debug__" : Str)) = false := by decide) : PE X (.Name x pos) (tE S M0 E (litF (.int i))) :=
  lit_of (pe_glob (v := .int i) hg hm ⟨t, rfl⟩ hd) fun _ _ => rfl
theorem r_gstr {x : Str} {i : Str} {t : Tok} {pos : Pos} (hm : X.mg x = some (.str i t)) (hg : Gl X x := by rfl) (hd : (x == ("__debug__" : Str)) = false := by decide) : PE X (.Name x pos) (tE S M0 E (litF (.str i))) :=
  lit_of (pe_glob (v := .str i) hg hm ⟨t, rfl⟩ hd) fun _ _ => rfl
/-! ### two operands -/
/-- an operation by values -/
def OpS (X : Cx) (S : Sg) (f : Value → Value → Sem Value) (g : D → D → Option D) : Prop :=
  OpR X f fun x y H Q => ∃ M d e c, RepT S M H d x ∧ RepT S M H e y ∧ g d e = some c ∧ (∀ a, M a → ∃ u, H a = some u) ∧ ∀ v H', Grow H H' → Rep S M H' c v → Q v H'
def binF (F : Nat → List Str) (g : D → D → Option D) (f f2 : EF) : EF where
  r := fun env P X => f.r env (fun e env1 => ∃ e', e.settle F = some e' ∧ f2.r env1 (fun e2 env2 => ∃ e2', e2.settle F = some e2' ∧ ∃ d d2 c, e'.rd F env2 = some d ∧ e2'.rd F env2 = some d2 ∧ g d d2 = some c ∧ P (.val c) env2) X) X
  m := fun hp hx h => f.m (fun e env1 ⟨e', q, h⟩ => ⟨e', q, f2.m (fun e2 env2 ⟨e2', q2, d, d2, c, h1, h2, h3, h4⟩ => ⟨e2', q2, d, d2, c, h1, h2, h3, hp _ _ h4⟩) hx h⟩) hx h
theorem bin_of {g : D → D → Option D} {f f2 : EF} {R : R2}
    (hR : ∀ x y H Q, (∃ M d e c, RepT S M H d x ∧ RepT S M H e y ∧ g d e = some c ∧ (∀ a, M a → ∃ u, H a = some u) ∧ ∀ v H', Grow H H' → Rep S M H' c v → Q v H') → R x y H Q)
    {σ : L2.St} {H : Hp} {Q : VK} (h : tE S M0 E (binF S.flds g f f2) σ H Q) : tOp R (tE S M0 E f) (tE S M0 E f2) σ H Q := by
  obtain ⟨B, ow, env, s, h⟩ := h
  refine ⟨B, ow, env, s, f.m (fun e1 env1 h1 v H1 ow1 st1 nw1 ok1 => ?_) (fun _ _ h => h) h⟩
  obtain ⟨e', q, h1⟩ := h1
  have ok1' := ok1.settle q
  have s1 := ok1'.sim (EV.settle_old q)
  refine ⟨B, ow1, env1, s1, f2.m (fun e2 env2 h2 u H2 ow2 st2 nw2 ok2 => ?_) (fun _ _ h => h.stp st1) h1⟩
  obtain ⟨e2', q2, d, d2, c, k1, k2, k3, k4⟩ := h2
  have ok2' := ok2.settle q2
  have s2 := ok2'.sim (EV.settle_old q2)
  refine hR _ _ _ _ ⟨Md B ow2, d, d2, c, ok1'.rd st2 s2 k1, ok2'.rd .refl s2 k2, k3, s2.trkA, fun w H' g r => ?_⟩
  exact k4 w H' ow2 ((st1.trans st2).trans (.grow g)) trivial ⟨s2.grow g, r⟩
variable {a b c : Expr} {f f2 f3 : EF} {pos : Pos}
theorem r_bin {op : Operator} {g : D → D → Option D} (ho : OpS X S (binaryOp op) g) (ha : PE X a (tE S M0 E f)) (hb : PE X b (tE S M0 E f2)) : PE X (.BinOp a op b pos) (tE S M0 E (binF S.flds g f f2)) :=
  PE.imp (pe_op ho ha hb) fun σ H Q h => bin_of (fun _ _ _ _ z => z) h
theorem r_cmp {op : CmpOp} {g : D → D → Option D} (ho : OpS X S (compareOp op) g) (ha : PE X a (tE S M0 E f)) (hb : PE X b (tE S M0 E f2)) (hm : behindInMarks op b = false := by first | exact nomark _ | rfl) : PE X (.Compare a [op] [b] pos) (tE S M0 E (binF S.flds g f f2)) :=
  PE.imp (pe_cmpR ho ha hb hm) fun σ H Q h => bin_of (fun _ _ _ _ z => z) h
/-! ### ops on values -/
def addD : D → D → Option D
  | .int i, .int j => some (.int (i + j))
  | .str x, .str y => if x.length + y.length ≤ sizeLine then some (.str (x ++ y)) else none
  | .tup xs, .tup ys => if xs.length + ys.length ≤ sizeLine then some (.tup (xs ++ ys)) else none
  | .lst xs, .lst ys => if xs.length + ys.length ≤ sizeLine then some (.lst (xs ++ ys)) else none
  | _, _ => none
theorem RepT.lst {M : MS} {H : Hp} {ds : List D} {v : V} (h : RepT S M H (.lst ds) v) : ∃ a vs, v = .ref a ∧ SqL S.K H a vs ∧ RepL S M H ds vs := h
theorem RepT.tup {M : MS} {H : Hp} {ds : List D} {v : V} (h : RepT S M H (.tup ds) v) : ∃ a vs, v = .ref a ∧ ¬ M a ∧ H a = some (.tup vs) ∧ RepL S M H ds vs := h
theorem cat_sql (hk : X.K = S.K) : OpR X (binaryOp .Add) (fun x y H Q => ∃ l b xs zs, x = .ref l ∧ y = .ref b ∧ SqL S.K H l xs ∧ SqL S.K H b zs ∧ xs.length + zs.length ≤ sizeLine ∧ ∀ p, H p = none → Q (.ref p) (upd H p (.lst (xs ++ zs)))) := by
  intro pins s σ H x y v u Q I rx ry h
  obtain ⟨l, b, xs, zs, rfl, rfl, hH, hB, hz, q⟩ := h
  cases rx
  cases ry
  rw [← hk] at hH hB
  obtain ⟨its, r, ⟨o, n, e, c1, c2, c3⟩, z⟩ := I.list hH
  obtain ⟨its2, r2, ⟨o2, n2, e2, c12, c22, c32⟩, z2⟩ := I.list hB
  have hl := r.length
  have hl2 := r2.length
  obtain ⟨oc, od, oda, osl⟩ := o
  obtain ⟨oc2, od2, oda2, osl2⟩ := o2
  simp only at c1 c2 c3 c12 c22 c32
  subst c1 c2 c3 c12 c22 c32
  have ea : its.toArray ++ its2.toArray = (its ++ its2).toArray := by simp
  refine concat_meets ⟨_, e, rfl⟩ ⟨_, e2, rfl⟩ noFill_list_add seq_list_add PySem.F.slot_list_add PySem.F.entry_list_add (PySem.F.args_list_add_2 _ _) (list_addW l b its.toArray its2.toArray n n2 none none osl osl2 (by simp; omega)) ⟨e, e2, ?_⟩
  rw [ea]
  have fr : H s.heap.objs.size = none := I.hok.fresh (Nat.le_refl _)
  refine ⟨.ref _, _, I.laid (t' := s.toks) (o := .lst (xs ++ zs)) (fun b ob q => Heap.get?_push_of_some _ q) (Nat.le_refl _) ?_, rfl, q _ fr⟩
  exact ⟨by rw [List.length_append]; exact hz, its ++ its2, 0, r.append r2, Heap.get?_push_size _ rfl⟩
theorem op_addD (hk : X.K = S.K) : OpS X S (binaryOp .Add) addD := by
  intro pins s σ H x y v u Q I rx ry h
  obtain ⟨M, d, e, c, hd, he, hg, ht, k⟩ := h
  unfold addD at hg
  split at hg
  · cases hg; cases hd; cases he
    exact op_add pins s σ H _ _ v u Q I rx ry ⟨_, _, rfl, rfl, k _ H .rfl' rfl⟩
  · split at hg
    · rename_i hz
      cases hg; cases hd; cases he
      exact op_add_str pins s σ H _ _ v u Q I rx ry ⟨_, _, rfl, rfl, hz, k _ H .rfl' rfl⟩
    · cases hg
  · rename_i xs ys
    split at hg
    · rename_i hz
      cases hg
      obtain ⟨a, vs, rfl, na, ra, la⟩ := hd.tup
      obtain ⟨b, ws, rfl, nb, rb, lb⟩ := he.tup
      have e1 := la.len
      have e2 := lb.len
      refine op_catA pins s σ H _ _ v u Q I rx ry ⟨a, b, vs, ws, rfl, rfl, .of ra, .of rb, by omega, fun z => ?_, fun _ z => ?_, fun z1 z2 p hp => ?_⟩
      · subst z
        have : xs = [] := List.eq_nil_of_length_eq_zero (by simpa using e1)
        subst this
        exact k _ H .rfl' ⟨b, ws, rfl, nb, rb, lb⟩
      · subst z
        have : ys = [] := List.eq_nil_of_length_eq_zero (by simpa using e2)
        subst this
        exact k _ H .rfl' ⟨a, vs, rfl, na, ra, by simpa using la⟩
      · have g : Grow H (upd H p (.tup (vs ++ ws))) := .upd hp
        refine k _ _ g ⟨p, _, rfl, fun z => ?_, upd_same, (la.append lb).grow g⟩
        obtain ⟨u, hu⟩ := ht p z
        rw [hp] at hu; cases hu
    · cases hg
  · split at hg
    · rename_i xs ys hz
      cases hg
      obtain ⟨a, vs, rfl, ra, la⟩ := hd.lst
      obtain ⟨b, ws, rfl, rb, lb⟩ := he.lst
      have e1 := la.len
      have e2 := lb.len
      refine cat_sql hk pins s σ H _ _ v u Q I rx ry ⟨a, b, vs, ws, rfl, rfl, ra, rb, by omega, fun p hp => ?_⟩
      have g : Grow H (upd H p (.lst (vs ++ ws))) := .upd hp
      refine k _ _ g ⟨p, _, rfl, .inl ⟨fun z => ?_, .inl upd_same⟩, (la.append lb).grow g⟩
      obtain ⟨u, hu⟩ := ht p z
      rw [hp] at hu; cases hu
    · cases hg
  · cases hg
/-- ints alone -/
def intD (C : Int → Int → Bool) (g : Int → Int → Int) : D → D → Option D
  | .int i, .int j => if C i j then some (.int (g i j)) else none
  | _, _ => none
theorem op_intD {f : Value → Value → Sem Value} {C : Int → Int → Bool} {C' : Int → Int → Prop} {g : Int → Int → Int} (ho : OpR X f (rI C' fun i j => .int (g i j))) (hc : ∀ i j, C i j = true → C' i j) : OpS X S f (intD C g) := by
  intro pins s σ H x y v u Q I rx ry h
  obtain ⟨M, d, e, c, hd, he, hg, ht, k⟩ := h
  unfold intD at hg
  split at hg
  · split at hg
    · rename_i hz
      cases hg; cases hd; cases he
      exact ho pins s σ H _ _ v u Q I rx ry ⟨_, _, rfl, rfl, hc _ _ hz, k _ H .rfl' rfl⟩
    · cases hg
  · cases hg
abbrev subD : D → D → Option D := intD (fun _ _ => true) (· - ·)
theorem op_subD : OpS X S (binaryOp .Sub) subD := by
  refine op_intD (C' := fun _ _ => True) (fun pins s σ H x y v u Q I rx ry h => ?_) fun _ _ _ => trivial
  obtain ⟨i, j, e1, e2, _, q⟩ := h
  exact op_sub pins s σ H x y v u Q I rx ry ⟨i, j, e1, e2, q⟩
def cmul (i j : Int) : Bool := (decide (-(2 ^ 64) < i) && decide (i < 2 ^ 64)) || (decide (-(2 ^ 64) < j) && decide (j < 2 ^ 64))
abbrev mulD : D → D → Option D := intD cmul (· * ·)
theorem op_mulD : OpS X S (binaryOp .Mult) mulD := op_intD op_mul fun i j h => by
  unfold cmul at h
  simp only [Bool.or_eq_true, Bool.and_eq_true, decide_eq_true_eq] at h
  exact h
abbrev divD : D → D → Option D := intD (fun _ j => decide (0 < j) && decide (j < 1073741824)) (· / ·)
theorem op_divD : OpS X S (binaryOp .FloorDiv) divD := op_intD op_fdiv fun i j h => by
  simp only [Bool.and_eq_true, decide_eq_true_eq] at h
  exact h
abbrev modD : D → D → Option D := intD (fun _ j => decide (0 < j)) (· % ·)
theorem op_modD : OpS X S (binaryOp .Mod) modD := op_intD op_mod fun i j h => by simpa using h
abbrev powD : D → D → Option D := intD (fun i j => decide (0 ≤ j) && decide (j ≤ 1000000) && decide (i.natAbs < 2 ^ 64)) (fun i j => i ^ j.toNat)
theorem op_powD : OpS X S (binaryOp .Pow) powD := op_intD op_pow fun i j h => by
  simp only [Bool.and_eq_true, decide_eq_true_eq] at h
  exact ⟨h.1.1, h.1.2, h.2⟩
def cmpD (g : Int → Int → Bool) : D → D → Option D
  | .int i, .int j => some (.bl (g i j))
  | _, _ => none
theorem op_cmpD {f : Value → Value → Sem Value} {g : Int → Int → Bool} (ho : OpR X f (rI0 fun i j => .bl (g i j))) : OpS X S f (cmpD g) := by
  intro pins s σ H x y v u Q I rx ry h
  obtain ⟨M, d, e, c, hd, he, hg, ht, k⟩ := h
  unfold cmpD at hg
  split at hg
  · cases hg; cases hd; cases he
    exact ho pins s σ H _ _ v u Q I rx ry ⟨_, _, rfl, rfl, k _ H .rfl' rfl⟩
  · cases hg
abbrev ltD : D → D → Option D := cmpD fun i j => decide (i < j)
abbrev leD : D → D → Option D := cmpD fun i j => decide (i ≤ j)
abbrev gtD : D → D → Option D := cmpD fun i j => decide (j < i)
abbrev geD : D → D → Option D := cmpD fun i j => decide (j ≤ i)
theorem op_ltD : OpS X S (compareOp .Lt) ltD := op_cmpD op_lt
theorem op_leD : OpS X S (compareOp .LtE) leD := op_cmpD op_le
theorem op_gtD : OpS X S (compareOp .Gt) gtD := op_cmpD op_gt
theorem op_geD : OpS X S (compareOp .GtE) geD := op_cmpD op_ge
/-! ### is -/
def isD : D → D → Option D
  | .non, .non => some (.bl true)
  | _, .non => some (.bl false)
  | .bl a, .bl b => some (.bl (a == b))
  | _, .bl _ => some (.bl false)
  | _, _ => none
def isNotD (d e : D) : Option D := match isD d e with
  | some (.bl b) => some (.bl (!b))
  | _ => none
theorem Rep.nonne {M : MS} {H : Hp} {d : D} {v : V} (h : RepT S M H d v) (n : d ≠ .non) : v ≠ .non := by
  cases d with
  | non => exact absurd rfl n
  | bl b => cases h; exact fun z => nomatch z
  | int i => cases h; exact fun z => nomatch z
  | str x => cases h; exact fun z => nomatch z
  | tup ds => obtain ⟨a, _, rfl, _⟩ := h; exact fun z => nomatch z
  | lst ds => obtain ⟨a, _, rfl, _⟩ := h; exact fun z => nomatch z
  | dK ks ds => obtain ⟨a, _, rfl, _⟩ := h; exact fun z => nomatch z
  | dT ks ds => obtain ⟨a, _, rfl, _⟩ := h; exact fun z => nomatch z
  | ins c ds => obtain ⟨a, _, _, rfl, _⟩ := h; exact fun z => nomatch z
  | nms xs => obtain ⟨a, _, rfl, _⟩ := h; exact fun z => nomatch z
  | fn k ds => obtain ⟨a, _, _, _, _, rfl, _⟩ := h; exact fun z => nomatch z
  | exc k ds => obtain ⟨a, _, _, _, rfl, _⟩ := h; exact fun z => nomatch z
theorem Rep.blne {M : MS} {H : Hp} {d : D} {v : V} {b : Bool} (h : RepT S M H d v) (n : ∀ b, d ≠ .bl b) : v ≠ .bl b := by
  cases d with
  | bl b => exact absurd rfl (n b)
  | non => cases h; exact fun z => nomatch z
  | int i => cases h; exact fun z => nomatch z
  | str x => cases h; exact fun z => nomatch z
  | tup ds => obtain ⟨a, _, rfl, _⟩ := h; exact fun z => nomatch z
  | lst ds => obtain ⟨a, _, rfl, _⟩ := h; exact fun z => nomatch z
  | dK ks ds => obtain ⟨a, _, rfl, _⟩ := h; exact fun z => nomatch z
  | dT ks ds => obtain ⟨a, _, rfl, _⟩ := h; exact fun z => nomatch z
  | ins c ds => obtain ⟨a, _, _, rfl, _⟩ := h; exact fun z => nomatch z
  | nms xs => obtain ⟨a, _, rfl, _⟩ := h; exact fun z => nomatch z
  | fn k ds => obtain ⟨a, _, _, _, _, rfl, _⟩ := h; exact fun z => nomatch z
  | exc k ds => obtain ⟨a, _, _, _, rfl, _⟩ := h; exact fun z => nomatch z
theorem relV_bl {x : V} {v : Value} (b : Bool) (r : RelV x v) : (v == Value.bool b) = decide (x = .bl b) := by
  cases x with
  | non => cases r; rfl
  | bl c => cases r; cases b <;> cases c <;> rfl
  | int _ => obtain ⟨t, rfl⟩ := r; rfl
  | str _ => obtain ⟨t, rfl⟩ := r; rfl
  | byt _ => obtain ⟨t, rfl⟩ := r; rfl
  | flt _ => obtain ⟨t, rfl⟩ := r; rfl
  | ref _ => cases r; rfl
  | ty _ => cases r; rfl
theorem plain_bl {x : V} {v : Value} (b : Bool) (r : RelV x v) : plainIs v (Value.bool b) = true := by
  cases x with
  | non => cases r; rfl
  | bl c => cases r; rfl
  | int _ => obtain ⟨t, rfl⟩ := r; rfl
  | str _ => obtain ⟨t, rfl⟩ := r; rfl
  | byt _ => obtain ⟨t, rfl⟩ := r; rfl
  | flt _ => obtain ⟨t, rfl⟩ := r; rfl
  | ref _ => cases r; rfl
  | ty _ => cases r; rfl
theorem plain_non {x : V} {v : Value} (r : RelV x v) : plainIs v Value.none = true := by
  cases x with
  | non => cases r; rfl
  | bl c => cases r; rfl
  | int _ => obtain ⟨t, rfl⟩ := r; rfl
  | str _ => obtain ⟨t, rfl⟩ := r; rfl
  | byt _ => obtain ⟨t, rfl⟩ := r; rfl
  | flt _ => obtain ⟨t, rfl⟩ := r; rfl
  | ref _ => cases r; rfl
  | ty _ => cases r; rfl
theorem isD_run {M : MS} {H : Hp} {d e c : D} {x y : V} {v u : Value} (hd : RepT S M H d x) (he : RepT S M H e y) (rx : RelV x v) (ry : RelV y u) (hg : isD d e = some c) : plainIs v u = true ∧ c = .bl (v == u) := by
  unfold isD at hg
  split at hg
  · cases hg; cases hd; cases he; cases rx; cases ry
    exact ⟨rfl, rfl⟩
  · rename_i n
    cases hg; cases he; cases ry
    exact ⟨plain_non rx, by rw [rx.none_iff, decide_eq_false (Rep.nonne hd n)]⟩
  · cases hg; cases hd; cases he; cases ry
    refine ⟨plain_bl _ rx, ?_⟩
    rw [relV_bl _ rx]
    rename_i a b
    cases a <;> cases b <;> rfl
  · rename_i n
    cases hg; cases he; cases ry
    exact ⟨plain_bl _ rx, by rw [relV_bl _ rx, decide_eq_false (Rep.blne hd fun b z => n b z)]⟩
  · cases hg
theorem op_isD : OpS X S (compareOp .Is) isD := by
  intro pins s σ H x y v u Q I rx ry h
  obtain ⟨M, d, e, c, hd, he, hg, ht, k⟩ := h
  obtain ⟨h1, rfl⟩ := isD_run hd he rx ry hg
  exact wpAny_is_plain h1 ⟨.bl _, H, I, rfl, k _ H .rfl' rfl⟩
theorem op_isNotD : OpS X S (compareOp .IsNot) isNotD := by
  intro pins s σ H x y v u Q I rx ry h
  obtain ⟨M, d, e, c, hd, he, hg, ht, k⟩ := h
  unfold isNotD at hg
  split at hg
  · rename_i b hb
    cases hg
    obtain ⟨h1, h2⟩ := isD_run hd he rx ry hb
    cases h2
    exact wpAny_isNot_plain h1 ⟨.bl _, H, I, rfl, k _ H .rfl' rfl⟩
  · cases hg
/-! ### ==, in -/
mutual
def D.py : D → PyData
  | .non => .none
  | .bl b => .bool b
  | .int i => .int i
  | .str x => .str x
  | .tup ds => .tuple (D.pyL ds)
  | .lst ds => .list (D.pyL ds)
  | .dK _ _ => .dict []
  | .dT _ _ => .dict []
  | .ins _ _ => .dict []
  | .nms xs => .tuple (xs.map PyData.str)
  | .fn _ _ => .dict []
  | .exc _ _ => .dict []
def D.pyL : List D → List PyData
  | [] => []
  | d :: ds => D.py d :: D.pyL ds
end
mutual
/-- data of at most this depth -/
def okN : D → Nat → Bool
  | .non, _ => true
  | .bl _, _ => true
  | .int _, _ => true
  | .str x, _ => PyData.strOk x
  | .tup ds, n + 1 => okL ds n
  | .lst ds, n + 1 => okL ds n
  | .nms xs, n + 1 => xs.all PyData.strOk
  | _, _ => false
def okL : List D → Nat → Bool
  | [], _ => true
  | d :: ds, n => okN d n && okL ds n
end
theorem strs_lay : ∀ xs : List Str, xs.all PyData.strOk = true → PyData.canLayAll0 (xs.map PyData.str) = true
  | [], _ => by simp [PyData.canLayAll0]
  | x :: xs, h => by
    rw [List.all_cons, Bool.and_eq_true] at h
    simp [PyData.canLayAll0, PyData.canLay0, h.1, strs_lay xs h.2]
theorem strs_depth : ∀ xs : List Str, PyData.depthAll (xs.map PyData.str) = 0
  | [] => by simp [PyData.depthAll]
  | x :: xs => by simp [PyData.depthAll, PyData.depth, strs_depth xs]
theorem strs_dp (K : PySem.W.Frag) (H : Hp) : ∀ xs : List Str, DpAll K H (xs.map V.str) (xs.map PyData.str)
  | [] => .nil
  | x :: xs => .cons (.str x) (strs_dp K H xs)
mutual
theorem okN_py : ∀ (d : D) (n : Nat), okN d n = true → d.py.canLay0 = true ∧ d.py.depth ≤ n
  | .non, n, _ => by simp [D.py, PyData.canLay0, PyData.depth]
  | .bl _, n, _ => by simp [D.py, PyData.canLay0, PyData.depth]
  | .int _, n, _ => by simp [D.py, PyData.canLay0, PyData.depth]
  | .str x, n, h => by
    have h : PyData.strOk x = true := by simpa [okN] using h
    simp [D.py, PyData.canLay0, PyData.depth, h]
  | .tup ds, 0, h => by simp [okN] at h
  | .tup ds, n + 1, h => by
    have h : okL ds n = true := by simpa [okN] using h
    have := okL_py ds n h
    simp [D.py, PyData.canLay0, PyData.depth, this.1, this.2]
  | .lst ds, 0, h => by simp [okN] at h
  | .lst ds, n + 1, h => by
    have h : okL ds n = true := by simpa [okN] using h
    have := okL_py ds n h
    simp [D.py, PyData.canLay0, PyData.depth, this.1, this.2]
  | .dK _ _, n, h => by simp [okN] at h
  | .dT _ _, n, h => by simp [okN] at h
  | .ins _ _, n, h => by simp [okN] at h
  | .fn _ _, n, h => by simp [okN] at h
  | .exc _ _, n, h => by simp [okN] at h
  | .nms xs, 0, h => by simp [okN] at h
  | .nms xs, n + 1, h => by
    have h : xs.all PyData.strOk = true := by simpa [okN] using h
    have h1 := strs_lay xs h
    have h2 := strs_depth xs
    simp [D.py, PyData.canLay0, PyData.depth, h1, h2]
theorem okL_py : ∀ (ds : List D) (n : Nat), okL ds n = true → PyData.canLayAll0 (D.pyL ds) = true ∧ PyData.depthAll (D.pyL ds) ≤ n
  | [], n, _ => by simp [D.pyL, PyData.canLayAll0, PyData.depthAll]
  | d :: ds, n, h => by
    have h : okN d n = true ∧ okL ds n = true := by simpa [okL] using h
    have h1 := okN_py d n h.1
    have h2 := okL_py ds n h.2
    simp [D.pyL, PyData.canLayAll0, PyData.depthAll, h1.1, h2.1]
    omega
end
mutual
theorem Rep.dp {M : MS} {H : Hp} : ∀ (d : D) (n : Nat) (v : V), okN d n = true → RepT S M H d v → Dp S.K H v d.py
  | .non, _, v, _, h => by cases h; exact .non
  | .bl _, _, v, _, h => by cases h; exact .bl _
  | .int _, _, v, _, h => by cases h; exact .int _
  | .str _, _, v, _, h => by cases h; exact .str _
  | .tup ds, 0, v, o, h => by simp [okN] at o
  | .tup ds, n + 1, v, o, h => by
    obtain ⟨a, vs, rfl, _, r, l⟩ := h
    have o : okL ds n = true := by simpa [okN] using o
    exact .tup (.of r) (RepL.dp ds n vs o l)
  | .lst ds, 0, v, o, h => by simp [okN] at o
  | .lst ds, n + 1, v, o, h => by
    obtain ⟨a, vs, rfl, r, l⟩ := h
    have o : okL ds n = true := by simpa [okN] using o
    exact .lst r (RepL.dp ds n vs o l)
  | .dK _ _, _, v, o, h => by simp [okN] at o
  | .dT _ _, _, v, o, h => by simp [okN] at o
  | .ins _ _, _, v, o, h => by simp [okN] at o
  | .fn _ _, _, v, o, h => by simp [okN] at o
  | .exc _ _, _, v, o, h => by simp [okN] at o
  | .nms xs, 0, v, o, h => by simp [okN] at o
  | .nms xs, n + 1, v, o, h => by
    obtain ⟨a, ob, rfl, _, r, _⟩ := h
    exact .tup (.inl (.inr ⟨ob, r⟩)) (strs_dp _ _ xs)
theorem RepL.dp {M : MS} {H : Hp} : ∀ (ds : List D) (n : Nat) (vs : List V), okL ds n = true → RepL S M H ds vs → DpAll S.K H vs (D.pyL ds)
  | [], _, vs, _, h => by cases h; exact .nil
  | d :: ds, n, vs, o, h => by
    obtain ⟨v, r, rfl, h1, h2⟩ := h
    have o : okN d n = true ∧ okL ds n = true := by simpa [okL] using o
    exact .cons (Rep.dp d n v o.1 h1.top) (RepL.dp ds n r o.2 h2)
end
theorem shaped_of {d : D} (h : okN d 60 = true) : SeqAt.shaped d.py = true := by
  obtain ⟨h1, h2⟩ := okN_py d 60 h
  show (d.py.canLay0 && decide (d.py.depth ≤ 64)) = true
  rw [h1, Bool.true_and]
  exact decide_eq_true (by omega)
def scalB : D → D → Bool
  | .non, .non => true
  | .non, .int _ => true
  | .int _, .non => true
  | .non, .bl _ => true
  | .bl _, .non => true
  | .non, .str _ => true
  | .str _, .non => true
  | .int _, .int _ => true
  | .bl _, .bl _ => true
  | .str _, .str _ => true
  | .int _, .str _ => true
  | .str _, .int _ => true
  | .bl _, .str _ => true
  | .str _, .bl _ => true
  | _, _ => false
def eqB (d e : D) : Bool := PyData.eqv d.py e.py
def eqOk (d e : D) : Bool := scalB d e || (okN d 60 && okN e 60)
def eqD (d e : D) : Option D := if eqOk d e then some (.bl (eqB d e)) else none
def neD (d e : D) : Option D := if eqOk d e then some (.bl (!eqB d e)) else none
theorem scal_run {M : MS} {H : Hp} {d e : D} {x y : V} (hd : RepT S M H d x) (he : RepT S M H e y) (h : scalB d e = true) : scal x y = true ∧ eqB d e = decide (x = y) := by
  unfold scalB at h
  split at h <;> first
    | (cases hd; cases he; refine ⟨rfl, ?_⟩; simp [eqB, D.py, PyData.eqv]; done)
    | (cases hd; cases he; refine ⟨rfl, ?_⟩; simp [eqB, D.py, PyData.eqv, Bool.beq_eq_decide_eq]; done)
    | cases h
theorem op_eqDD (hk : X.K = S.K) (hu : X.A.units + 100 < cLine) : OpS X S (compareOp .Eq) eqD := by
  intro pins s σ H x y v u Q I rx ry h
  obtain ⟨M, d, e, c, hd, he, hg, ht, k⟩ := h
  unfold eqD at hg
  split at hg
  · rename_i ho
    cases hg
    unfold eqOk at ho
    rw [Bool.or_eq_true] at ho
    rcases ho with ho | ho
    · obtain ⟨h1, h2⟩ := scal_run hd he ho
      refine op_eq pins s σ H _ _ v u Q I rx ry ⟨h1, ?_⟩
      rw [← h2]
      exact k _ H .rfl' rfl
    · rw [Bool.and_eq_true] at ho
      refine op_eqD (by omega) pins s σ H _ _ v u Q I rx ry ⟨d.py, e.py, ?_, ?_, shaped_of ho.1, shaped_of ho.2, k _ H .rfl' rfl⟩
      · rw [hk]; exact Rep.dp d 60 x ho.1 hd
      · rw [hk]; exact Rep.dp e 60 y ho.2 he
  · cases hg
theorem op_neDD (hk : X.K = S.K) (hu : X.A.units + 100 < cLine) : OpS X S (compareOp .NotEq) neD := by
  intro pins s σ H x y v u Q I rx ry h
  obtain ⟨M, d, e, c, hd, he, hg, ht, k⟩ := h
  unfold neD at hg
  split at hg
  · rename_i ho
    cases hg
    unfold eqOk at ho
    rw [Bool.or_eq_true] at ho
    rcases ho with ho | ho
    · obtain ⟨h1, h2⟩ := scal_run hd he ho
      refine op_ne pins s σ H _ _ v u Q I rx ry ⟨h1, ?_⟩
      rw [← h2]
      exact k _ H .rfl' rfl
    · rw [Bool.and_eq_true] at ho
      refine op_neD (by omega) pins s σ H _ _ v u Q I rx ry ⟨d.py, e.py, ?_, ?_, shaped_of ho.1, shaped_of ho.2, k _ H .rfl' rfl⟩
      · rw [hk]; exact Rep.dp d 60 x ho.1 hd
      · rw [hk]; exact Rep.dp e 60 y ho.2 he
  · cases hg
def flatD : D → Bool
  | .non => true
  | .bl _ => true
  | .int _ => true
  | .str _ => true
  | _ => false
def keyD? : D → Option Key
  | .int i => some (.inl i)
  | .str x => some (.inr x)
  | _ => none
def keysD? : List D → Option (List Key)
  | [] => some []
  | d :: ds => match keyD? d, keysD? ds with
    | some k, some ks => some (k :: ks)
    | _, _ => none
def keyT? : D → Option (List Key)
  | .tup ds => keysD? ds
  | _ => none
def getK {κ : Type} [DecidableEq κ] : List κ → List D → κ → Option D
  | k :: ks, d :: ds, j => if k = j then some d else getK ks ds j
  | _, _, _ => none
def inB : D → D → Option Bool
  | d, .tup ds => if flatD d && ds.all flatD then some (ds.any fun z => eqB z d) else none
  | d, .lst ds => if flatD d && ds.all flatD then some (ds.any fun z => eqB z d) else none
  | d, .nms xs => if flatD d then some (xs.any fun z => eqB (.str z) d) else none
  | .str x, .str z => if x.length = 1 then some (decide (x.cps[0]! ∈ z.cps.toList)) else none
  | d, .dK ks ds => (keyD? d).map fun k => (getK ks ds k).isSome
  | d, .dT ks ds => (keyT? d).map fun k => (getK ks ds k).isSome
  | _, _ => none
def inD (d e : D) : Option D := (inB d e).map .bl
def notInD (d e : D) : Option D := (inB d e).map fun b => .bl (!b)
theorem flat_v {M : MS} {H : Hp} {d : D} {v : V} (h : RepT S M H d v) (f : flatD d = true) : flatV v = true := by
  cases d with
  | non => cases h; rfl
  | bl b => cases h; rfl
  | int i => cases h; rfl
  | str x => cases h; rfl
  | _ => cases f
theorem eqv_flat {M : MS} {H : Hp} {d e : D} {x y : V} (hd : RepT S M H d x) (he : RepT S M H e y) (fd : flatD d = true) (fe : flatD e = true) : eqV x y = eqB d e := by
  cases d with
  | non => cases hd; cases e with
    | non => cases he; rfl
    | bl b => cases he; rfl
    | int i => cases he; rfl
    | str z => cases he; rfl
    | _ => cases fe
  | bl a => cases hd; cases e with
    | non => cases he; rfl
    | bl b => cases he; rfl
    | int i => cases he; rfl
    | str z => cases he; rfl
    | _ => cases fe
  | int a => cases hd; cases e with
    | non => cases he; rfl
    | bl b => cases he; rfl
    | int i => cases he; rfl
    | str z => cases he; rfl
    | _ => cases fe
  | str a => cases hd; cases e with
    | non => cases he; rfl
    | bl b => cases he; rfl
    | int i => cases he; rfl
    | str z => cases he; rfl
    | _ => cases fe
  | _ => cases fd
theorem any_flat {M : MS} {H : Hp} {d : D} {x : V} (hd : RepT S M H d x) (fd : flatD d = true) : ∀ {ds : List D} {vs : List V}, RepL S M H ds vs → ds.all flatD = true → vs.all flatV = true ∧ inV x vs = ds.any fun z => eqB z d
  | [], _, h, _ => by cases h; exact ⟨rfl, rfl⟩
  | e :: ds, _, h, f => by
    obtain ⟨v, r, rfl, h1, h2⟩ := h
    rw [List.all_cons, Bool.and_eq_true] at f
    obtain ⟨k1, k2⟩ := any_flat hd fd h2 f.2
    refine ⟨by rw [List.all_cons, flat_v h1.top f.1, k1]; rfl, ?_⟩
    show (eqV v x || inV x r) = _
    rw [List.any_cons, k2, eqv_flat h1.top hd f.1 fd]
theorem any_strs {M : MS} {H : Hp} {d : D} {x : V} (hd : RepT S M H d x) (fd : flatD d = true) : ∀ xs : List Str, (xs.map V.str).all flatV = true ∧ inV x (xs.map V.str) = xs.any fun z => eqB (.str z) d
  | [] => ⟨rfl, rfl⟩
  | z :: xs => by
    obtain ⟨k1, k2⟩ := any_strs hd fd xs
    refine ⟨by rw [List.map_cons, List.all_cons, k1]; rfl, ?_⟩
    show (eqV (.str z) x || inV x (xs.map V.str)) = _
    rw [List.any_cons, k2, eqv_flat (S := S) (M := M) (H := H) (d := .str z) (x := .str z) rfl hd rfl fd]
theorem key_v {M : MS} {H : Hp} {d : D} {v : V} {k : Key} (h : RepT S M H d v) (e : keyD? d = some k) : v = kV k := by
  cases d with
  | int i => cases e; cases h; rfl
  | str x => cases e; cases h; rfl
  | _ => cases e
theorem keys_v {M : MS} {H : Hp} : ∀ {ds : List D} {vs : List V} {ks : List Key}, RepL S M H ds vs → keysD? ds = some ks → vs = ks.map kV
  | [], _, _, h, e => by cases h; cases e; rfl
  | d :: ds, _, ks, h, e => by
    obtain ⟨v, r, rfl, h1, h2⟩ := h
    unfold keysD? at e
    split at e
    · rename_i k ks' e1 e2
      cases e
      rw [List.map_cons, key_v h1.top e1, keys_v h2 e2]
    · cases e
theorem keyT_v {M : MS} {H : Hp} {d : D} {v : V} {ks : List Key} (h : RepT S M H d v) (e : keyT? d = some ks) : ∃ a, v = .ref a ∧ H a = some (.tup (ks.map kV)) := by
  cases d with
  | tup ds =>
    obtain ⟨a, vs, rfl, _, r, l⟩ := h
    exact ⟨a, rfl, by rw [← keys_v l e]; exact r⟩
  | _ => cases e
theorem get_v {κ : Type} [DecidableEq κ] {M : MS} {H : Hp} : ∀ {ks : List κ} {ds : List D} {vs : List V} (k : κ), ks.length = vs.length → RepL S M H ds vs →
    (∀ d, getK ks ds k = some d → ∃ v, valV (ks.zip vs) k = some v ∧ Rep S M H d v) ∧ (getK ks ds k = none → valV (ks.zip vs) k = none)
  | [], ds, vs, k, _, _ => ⟨fun d h => (by unfold getK at h; cases h), fun _ => rfl⟩
  | j :: ks, [], vs, k, z, l => by
    cases l; cases z
  | j :: ks, d :: ds, _, k, z, l => by
    obtain ⟨v, r, rfl, h1, h2⟩ := l
    by_cases hj : j = k
    · refine ⟨fun d' h => ?_, fun h => ?_⟩
      · unfold getK at h
        rw [if_pos hj] at h
        cases h
        exact ⟨v, valV_pos hj, h1⟩
      · unfold getK at h
        rw [if_pos hj] at h
        cases h
    · obtain ⟨k1, k2⟩ := get_v (ks := ks) (ds := ds) (vs := r) k (by simpa using z) h2
      refine ⟨fun d' h => ?_, fun h => ?_⟩
      · unfold getK at h
        rw [if_neg hj] at h
        obtain ⟨w, e, q⟩ := k1 d' h
        exact ⟨w, by rw [List.zip_cons_cons, valV_neg (by exact hj)]; exact e, q⟩
      · unfold getK at h
        rw [if_neg hj] at h
        rw [List.zip_cons_cons, valV_neg (by exact hj)]
        exact k2 h
theorem dget_k {M : MS} {H : Hp} {d : D} {y : V} {k : Key} {ks : List Key} {ds : List D} {x : V} (hd : RepT S M H d y) (e : keyD? d = some k) (he : RepT S M H (.dK ks ds) x) :
    ∃ a o, x = .ref a ∧ DGet H a y o ∧ o.isSome = (getK ks ds k).isSome ∧ ∀ d', getK ks ds k = some d' → ∃ v, o = some v ∧ Rep S M H d' v := by
  obtain ⟨a, vs, rfl, r, z, l⟩ := he
  obtain ⟨k1, k2⟩ := get_v k z l
  refine ⟨a, valV (ks.zip vs) k, rfl, .inl ⟨ks.zip vs, k, r, key_v hd e, rfl⟩, ?_, k1⟩
  cases q : getK ks ds k with
  | none => rw [k2 q]; rfl
  | some d' => obtain ⟨v, h1, _⟩ := k1 d' q; rw [h1]; rfl
theorem dget_t {M : MS} {H : Hp} {d : D} {y : V} {k : List Key} {ks : List (List Key)} {ds : List D} {x : V} (hd : RepT S M H d y) (e : keyT? d = some k) (he : RepT S M H (.dT ks ds) x) :
    ∃ a o, x = .ref a ∧ DGet H a y o ∧ o.isSome = (getK ks ds k).isSome ∧ ∀ d', getK ks ds k = some d' → ∃ v, o = some v ∧ Rep S M H d' v := by
  obtain ⟨a, vs, rfl, r, z, l⟩ := he
  obtain ⟨k1, k2⟩ := get_v k z l
  obtain ⟨b, rfl, rb⟩ := keyT_v hd e
  refine ⟨a, valV (ks.zip vs) k, rfl, .inr ⟨ks.zip vs, k, b, r, rfl, rb, rfl⟩, ?_, k1⟩
  cases q : getK ks ds k with
  | none => rw [k2 q]; rfl
  | some d' => obtain ⟨v, h1, _⟩ := k1 d' q; rw [h1]; rfl
end
end En
set_option Elab.async false
set_option linter.all false
set_option maxRecDepth 100000
namespace En
open PySem PySem.Spec PyProof.Rows L2
section
variable {X : Cx} {S : Sg} {M0 : MS} {E : XK}
theorem str_one {x : Str} (h : x.length = 1) : x = ⟨#[x.cps[0]!]⟩ := by
  obtain ⟨a⟩ := x
  have h : a.size = 1 := h
  have : a = #[a[0]!] := by
    apply Array.ext
    · simp [h]
    · intro i h1 h2
      have : i = 0 := by omega
      subst this
      simp [h]
  exact congrArg Str.mk this
theorem in_run {M : MS} {H : Hp} {d e : D} {x y : V} {b : Bool} (hk : X.K = S.K) (hd : RepT S M H d x) (he : RepT S M H e y) (hg : inB d e = some b) :
    (rIn X.K false x y H (fun v H' => v = .bl b ∧ H' = H) ∧ rIn X.K true x y H (fun v H' => v = .bl (!b) ∧ H' = H)) ∨
    (∃ (c : Nat) (z : Str), x = .str ⟨#[c]⟩ ∧ y = .str z ∧ b = decide (c ∈ z.cps.toList)) ∨
    ∃ a o, y = .ref a ∧ DGet H a x o ∧ o.isSome = b := by
  unfold inB at hg
  split at hg
  · split at hg
    · rename_i ds hc
      rw [Bool.and_eq_true] at hc
      cases hg
      obtain ⟨a, vs, rfl, _, r, l⟩ := he.tup
      obtain ⟨k1, k2⟩ := any_flat hd hc.1 l hc.2
      exact .inl ⟨⟨a, vs, rfl, .inr (.of r), flat_v hd hc.1, k1, by rw [k2]; exact ⟨rfl, rfl⟩⟩, ⟨a, vs, rfl, .inr (.of r), flat_v hd hc.1, k1, by rw [k2]; exact ⟨rfl, rfl⟩⟩⟩
    · cases hg
  · split at hg
    · rename_i ds hc
      rw [Bool.and_eq_true] at hc
      cases hg
      obtain ⟨a, vs, rfl, r, l⟩ := he.lst
      obtain ⟨k1, k2⟩ := any_flat hd hc.1 l hc.2
      rw [← hk] at r
      exact .inl ⟨⟨a, vs, rfl, .inl r, flat_v hd hc.1, k1, by rw [k2]; exact ⟨rfl, rfl⟩⟩, ⟨a, vs, rfl, .inl r, flat_v hd hc.1, k1, by rw [k2]; exact ⟨rfl, rfl⟩⟩⟩
    · cases hg
  · split at hg
    · rename_i xs fd
      cases hg
      obtain ⟨a, ob, rfl, _, r, _⟩ := he
      obtain ⟨k1, k2⟩ := any_strs hd fd xs
      have sq : SqT X.K H a (xs.map V.str) := .inl (.inr ⟨ob, r⟩)
      exact .inl ⟨⟨a, _, rfl, .inr sq, flat_v hd fd, k1, by rw [k2]; exact ⟨rfl, rfl⟩⟩, ⟨a, _, rfl, .inr sq, flat_v hd fd, k1, by rw [k2]; exact ⟨rfl, rfl⟩⟩⟩
    · cases hg
  · split at hg
    · rename_i x' z hx
      cases hg; cases hd; cases he
      exact .inr (.inl ⟨x'.cps[0]!, z, by rw [← str_one hx], rfl, rfl⟩)
    · cases hg
  · obtain ⟨k, h1, rfl⟩ := Option.map_eq_some_iff.mp hg
    obtain ⟨a, o, rfl, g, q, _⟩ := dget_k hd h1 he
    exact .inr (.inr ⟨a, o, rfl, g, q⟩)
  · obtain ⟨k, h1, rfl⟩ := Option.map_eq_some_iff.mp hg
    obtain ⟨a, o, rfl, g, q, _⟩ := dget_t hd h1 he
    exact .inr (.inr ⟨a, o, rfl, g, q⟩)
  · cases hg
theorem op_inDD (hk : X.K = S.K) (hu : X.A.units + 100 < cLine) : OpS X S (compareOp .In) inD := by
  intro pins s σ H x y v u Q I rx ry h
  obtain ⟨M, d, e, c, hd, he, hg, ht, k⟩ := h
  obtain ⟨b, hb, rfl⟩ := Option.map_eq_some_iff.mp hg
  have q : Q (.bl b) H := k _ H .rfl' rfl
  rcases in_run hk hd he hb with ⟨h1, _⟩ | ⟨c, z, rfl, rfl, rfl⟩ | ⟨a, o, rfl, g, rfl⟩
  · obtain ⟨p, xs, h2, h3, h4, h5, h6, _⟩ := h1
    refine op_in_seq pins s σ H x y v u Q I rx ry ⟨p, xs, h2, h3, h4, h5, ?_⟩
    rw [h6]; exact q
  · exact op_in_sign pins s σ H _ _ v u Q I rx ry ⟨c, z, rfl, rfl, q⟩
  · cases ry
    exact d_in (by omega) I g rx fun s' I' => ⟨.bl _, H, I', rfl, q⟩
theorem op_notInDD (hk : X.K = S.K) (hu : X.A.units + 100 < cLine) : OpS X S (compareOp .NotIn) notInD := by
  intro pins s σ H x y v u Q I rx ry h
  obtain ⟨M, d, e, c, hd, he, hg, ht, k⟩ := h
  obtain ⟨b, hb, rfl⟩ := Option.map_eq_some_iff.mp hg
  have q : Q (.bl (!b)) H := k _ H .rfl' rfl
  rcases in_run hk hd he hb with ⟨_, h1⟩ | ⟨c, z, rfl, rfl, rfl⟩ | ⟨a, o, rfl, g, rfl⟩
  · obtain ⟨p, xs, h2, h3, h4, h5, h6, _⟩ := h1
    refine op_notIn_seq pins s σ H x y v u Q I rx ry ⟨p, xs, h2, h3, h4, h5, ?_⟩
    rw [h6]; exact q
  · exact op_notIn_sign pins s σ H _ _ v u Q I rx ry ⟨c, z, rfl, rfl, q⟩
  · cases ry
    exact d_notIn (by omega) I g rx fun s' I' => ⟨.bl _, H, I', rfl, q⟩
/-! ### one operand, read -/
def unF (F : Nat → List Str) (g : D → Option D) (f : EF) : EF where
  r := fun env P X => f.r env (fun e env1 => ∃ e', e.settle F = some e' ∧ ∃ d c, e'.rd F env1 = some d ∧ g d = some c ∧ P (.val c) env1) X
  m := fun hp hx h => f.m (fun e env1 ⟨e', q, d, c, h1, h2, h3⟩ => ⟨e', q, d, c, h1, h2, hp _ _ h3⟩) hx h
/-- .. and a new object comes -/
def unNF (F : Nat → List Str) (g : D → Option Ob) (f : EF) : EF where
  r := fun env P X => f.r env (fun e env1 => ∃ e', e.settle F = some e' ∧ ∃ d c, e'.rd F env1 = some d ∧ g d = some c ∧ P (.new c) env1) X
  m := fun hp hx h => f.m (fun e env1 ⟨e', q, d, c, h1, h2, h3⟩ => ⟨e', q, d, c, h1, h2, hp _ _ h3⟩) hx h
theorem un_of {g : D → Option D} {f : EF} {T : V → Hp → VK → Prop}
    (hT : ∀ x H Q, (∃ M d c, RepT S M H d x ∧ g d = some c ∧ (∀ a, M a → ∃ u, H a = some u) ∧ ∀ v H', Grow H H' → Rep S M H' c v → Q v H') → T x H Q)
    {σ : L2.St} {H : Hp} {Q : VK} (h : tE S M0 E (unF S.flds g f) σ H Q) : tE S M0 E f σ H fun x H1 => T x H1 Q := by
  obtain ⟨B, ow, env, s, h⟩ := h
  refine ⟨B, ow, env, s, f.m (fun e1 env1 h1 v H1 ow1 st1 nw1 ok1 => ?_) (fun _ _ h => h) h⟩
  obtain ⟨e', q, d, c, h1, h2, h3⟩ := h1
  have ok1' := ok1.settle q
  have s1 := ok1'.sim (EV.settle_old q)
  exact hT _ _ _ ⟨Md B ow1, d, c, ok1'.rd .refl s1 h1, h2, s1.trkA, fun w H' g r => h3 w H' ow1 (st1.trans (.grow g)) trivial ⟨s1.grow g, r⟩⟩
/-- a new object at a free place is ours to change -/
theorem new_ok {B : MS} {ow : OW} {env : Env'} {σ : L2.St} {H : Hp} {p : Addr} {ho : HO} {o : Ob} (s : Sim S M0 B ow env σ H) (hp : H p = none) (r : ∀ M, (∀ b, M b → Md B ow b ∨ b = p) → ObRep S M (upd H p ho) p o) :
    EVOk S M0 B ow env σ (upd H p ho) (.new o) (.ref p) := by
  have np : ¬ Md B ow p := fun z => by
    obtain ⟨u, hu⟩ := s.trkA p z
    rw [hp] at hu; cases hu
  have g : Grow H (upd H p ho) := .upd hp
  have s' := s.grow g
  have no : some p ∉ ow := fun z => np (.inr z)
  have mv : ∀ a o, Nt o → ¬ Md B ow a → H a = some o → (upd H p ho) a = some o ∧ ¬ Md (plus B p) ow a := fun a o _ n e => ⟨g a o e, fun z => by
    rcases z with (z | z) | z
    · exact n (.inl z)
    · subst z; rw [hp] at e; cases e
    · exact n (.inr z)⟩
  refine ⟨p, rfl, np, fun z => np (s.m0 p z), ?_, r _ fun b z => ?_⟩
  · exact {
      l1 := s.l1
      l2 := s.l2
      val := fun i d e => by
        obtain ⟨v, h1, h2⟩ := s.val i d e
        exact ⟨v, h1, Rep.move mv _ _ h2⟩
      own := fun i o e => by
        obtain ⟨a, h1, h2, h3, h4⟩ := s.own i o e
        exact ⟨a, h1, h2, h3.move (fun u _ => g a u) mv, h4⟩
      io := fun i o e => by
        obtain ⟨a, h1, h2, h3⟩ := s.io i o e
        exact ⟨a, h1, h2, h3.move (fun u _ => g a u) mv⟩
      live := s.live
      inj := s.inj
      dis := fun a z => by
        rcases z with z | z
        · exact s.dis a z
        · subst z; exact no
      trk := fun a z => by
        rcases z with z | z
        · obtain ⟨u, hu⟩ := s.trk a z; exact ⟨u, g a u hu⟩
        · subst z; exact ⟨_, upd_same⟩
      m0 := fun a z => md_plus p a (s.m0 a z)
      tb := s.tb.move mv fun a ps e => g a _ e }
  · rcases z with (z | z) | z
    · exact .inl (.inl z)
    · exact .inr z
    · exact .inl (.inr z)
/-- the items of a new object -/
theorem items_new {B : MS} {ow : OW} {env : Env'} {σ : L2.St} {H : Hp} {p : Addr} {ho : HO} {ds : List D} {vs : List V} (s : Sim S M0 B ow env σ H) (hp : H p = none) (l : RepL S (Md B ow) H ds vs) {M : MS} (hM : ∀ b, M b → Md B ow b ∨ b = p) : RepL S M (upd H p ho) ds vs :=
  RepL.move (fun a o _ n e => ⟨Grow.upd hp a o e, fun z => by
    rcases hM a z with z | z
    · exact n z
    · subst z; rw [hp] at e; cases e⟩) _ _ l
def CallS (X : Cx) (S : Sg) (f : Value) (g : D → Option D) : Prop :=
  CallR X f fun xs H Q => ∃ x M d c, xs = [x] ∧ RepT S M H d x ∧ g d = some c ∧ (∀ a, M a → ∃ u, H a = some u) ∧ ∀ v H', Grow H H' → Rep S M H' c v → Q v H'
variable {a b c e : Expr} {f f2 f3 : EF} {pos p : Pos} {x : Str} {bi T : String} {g : D → Option D}
theorem r_callB1 (hc : CallS X S (.builtin bi) g) (hm : X.mg x = none) (hv : bootBuiltins x = some (.builtin bi)) (ha : PE X e (tE S M0 E f)) (hg : Gl X x := by rfl) (hn : x ≠ "__name__" := by decide) (hdb : (x == ("__debug__" : Str)) = false := by decide)
    (he : starEach [e] X.env = (false, eval e X.env) :: starEach [] X.env := by rfl) (hpl : (backTo pos (starEach [] X.env)).any (·.1) = false := by rfl) : PE X (.Call (.Name x p) [e] [] pos) (tE S M0 E (unF S.flds g f)) :=
  PE.imp (pe_callB hc hg hm hv (pa_cons ha pa_nil he) hn hdb he hpl) fun σ H Q h => by
    refine un_of (T := fun x H Q => ∃ x' M d c, [x] = [x'] ∧ RepT S M H d x' ∧ g d = some c ∧ (∀ a, M a → ∃ u, H a = some u) ∧ ∀ v H', Grow H H' → Rep S M H' c v → Q v H') (fun x H Q ⟨M, d, c, h⟩ => ⟨x, M, d, c, rfl, h⟩) h
theorem r_callT1 (hc : CallS X S (.type T) g) (hm : X.mg x = none) (hv : bootBuiltins x = some (.type T)) (ha : PE X e (tE S M0 E f)) (hg : Gl X x := by rfl) (hn : x ≠ "__name__" := by decide) (hdb : (x == ("__debug__" : Str)) = false := by decide)
    (he : starEach [e] X.env = (false, eval e X.env) :: starEach [] X.env := by rfl) (hpl : (backTo pos (starEach [] X.env)).any (·.1) = false := by rfl) : PE X (.Call (.Name x p) [e] [] pos) (tE S M0 E (unF S.flds g f)) :=
  PE.imp (pe_callTy hc hg hm hv (pa_cons ha pa_nil he) hn hdb he hpl) fun σ H Q h => by
    refine un_of (T := fun x H Q => ∃ x' M d c, [x] = [x'] ∧ RepT S M H d x' ∧ g d = some c ∧ (∀ a, M a → ∃ u, H a = some u) ∧ ∀ v H', Grow H H' → Rep S M H' c v → Q v H') (fun x H Q ⟨M, d, c, h⟩ => ⟨x, M, d, c, rfl, h⟩) h
/-! ### len, int, str, all, any, tuple -/
def lenD : D → Option D
  | .str x => if x.length ≤ sizeLine then some (.int x.length) else none
  | .tup ds => some (.int ds.length)
  | .lst ds => some (.int ds.length)
  | .nms xs => some (.int xs.length)
  | _ => none
theorem c_len (hk : X.K = S.K) : CallS X S (.builtin "len") lenD := by
  intro pins s σ H xs us Q I r h
  obtain ⟨x, M, d, c, rfl, hd, hg, ht, k⟩ := h
  refine call_len pins s σ H _ us Q I r ?_
  unfold lenD at hg
  split at hg
  · split at hg
    · rename_i z
      cases hg; cases hd
      exact ⟨_, _, rfl, ⟨z, rfl⟩, k _ H .rfl' rfl⟩
    · cases hg
  · cases hg
    obtain ⟨a, vs, rfl, _, ra, l⟩ := hd.tup
    exact ⟨_, _, rfl, .inr ⟨vs, .of ra, rfl⟩, k _ H .rfl' (by rw [l.len]; rfl)⟩
  · cases hg
    obtain ⟨a, vs, rfl, ra, l⟩ := hd.lst
    rw [← hk] at ra
    exact ⟨_, _, rfl, .inl ⟨vs, ra, rfl⟩, k _ H .rfl' (by rw [l.len]; rfl)⟩
  · cases hg
    obtain ⟨a, ob, rfl, _, r, _⟩ := hd
    exact ⟨_, _, rfl, .inr ⟨_, .inl (.inr ⟨ob, r⟩), rfl⟩, k _ H .rfl' (by rw [List.length_map]; rfl)⟩
  · cases hg
def intOfD : D → Option D
  | .int i => some (.int i)
  | .bl b => some (.int (if b then 1 else 0))
  | _ => none
theorem c_int : CallS X S (.type "int") intOfD := by
  intro pins s σ H xs us Q I r h
  obtain ⟨x, M, d, c, rfl, hd, hg, ht, k⟩ := h
  refine call_int1 pins s σ H _ us Q I r ?_
  unfold intOfD at hg
  split at hg
  · cases hg; cases hd
    exact .inl ⟨_, rfl, k _ H .rfl' rfl⟩
  · cases hg; cases hd
    exact .inr ⟨_, rfl, k _ H .rfl' rfl⟩
  · cases hg
def strOfD : D → Option D
  | .int i => if i.natAbs.log2 < 1920 then some (.str (toString i)) else none
  | _ => none
theorem c_str : CallS X S (.type "str") strOfD := by
  intro pins s σ H xs us Q I r h
  obtain ⟨x, M, d, c, rfl, hd, hg, ht, k⟩ := h
  unfold strOfD at hg
  split at hg
  · split at hg
    · rename_i z
      cases hg; cases hd
      exact call_str_int pins s σ H _ us Q I r ⟨_, rfl, z, k _ H .rfl' rfl⟩
    · cases hg
  · cases hg
def blsD? : List D → Option (List Bool)
  | [] => some []
  | .bl b :: ds => (blsD? ds).map (b :: ·)
  | _ => none
def allD : D → Option D
  | .lst ds => (blsD? ds).map fun bs => .bl (bs.all id)
  | _ => none
def anyD : D → Option D
  | .lst ds => (blsD? ds).map fun bs => .bl (bs.any id)
  | _ => none
theorem bls_v {M : MS} {H : Hp} : ∀ {ds : List D} {vs : List V} {bs : List Bool}, RepL S M H ds vs → blsD? ds = some bs → vs = bs.map V.bl
  | [], _, _, h, e => by cases h; cases e; rfl
  | .bl b :: ds, _, bs, h, e => by
    obtain ⟨v, r, rfl, h1, h2⟩ := h
    obtain ⟨bs', e1, rfl⟩ := Option.map_eq_some_iff.mp (show (blsD? ds).map (b :: ·) = some bs from e)
    cases h1
    rw [bls_v h2 e1]; rfl
  | .non :: _, _, _, _, e => by cases e
  | .int _ :: _, _, _, _, e => by cases e
  | .str _ :: _, _, _, _, e => by cases e
  | .tup _ :: _, _, _, _, e => by cases e
  | .lst _ :: _, _, _, _, e => by cases e
  | .dK _ _ :: _, _, _, _, e => by cases e
  | .dT _ _ :: _, _, _, _, e => by cases e
  | .ins _ _ :: _, _, _, _, e => by cases e
  | .nms _ :: _, _, _, _, e => by cases e
  | .fn _ _ :: _, _, _, _, e => by cases e
  | .exc _ _ :: _, _, _, _, e => by cases e
theorem c_all (hk : X.K = S.K) (hc : X.calm = true) : CallS X S (.builtin "all") allD := by
  intro pins s σ H xs us Q I r h
  obtain ⟨x, M, d, c, rfl, hd, hg, ht, k⟩ := h
  unfold allD at hg
  split at hg
  · obtain ⟨bs, e1, rfl⟩ := Option.map_eq_some_iff.mp hg
    obtain ⟨a, vs, rfl, ra, l⟩ := hd.lst
    rw [← hk, bls_v l e1] at ra
    exact cr_all hc pins s σ H _ us Q I r ⟨a, bs, rfl, ra, k _ H .rfl' rfl⟩
  · cases hg
theorem c_any (hk : X.K = S.K) (hc : X.calm = true) : CallS X S (.builtin "any") anyD := by
  intro pins s σ H xs us Q I r h
  obtain ⟨x, M, d, c, rfl, hd, hg, ht, k⟩ := h
  unfold anyD at hg
  split at hg
  · obtain ⟨bs, e1, rfl⟩ := Option.map_eq_some_iff.mp hg
    obtain ⟨a, vs, rfl, ra, l⟩ := hd.lst
    rw [← hk, bls_v l e1] at ra
    exact cr_any hc pins s σ H _ us Q I r ⟨a, bs, rfl, ra, k _ H .rfl' rfl⟩
  · cases hg
def tupOfD : D → Option D
  | .lst ds => some (.tup ds)
  | .tup ds => some (.tup ds)
  | .nms xs => some (.nms xs)
  | _ => none
theorem c_tup (hk : X.K = S.K) : CallS X S (.type "tuple") tupOfD := by
  intro pins s σ H xs us Q I r h
  obtain ⟨x, M, d, c, rfl, hd, hg, ht, k⟩ := h
  refine call_tuple_of pins s σ H _ us Q I r ?_
  unfold tupOfD at hg
  split at hg
  · cases hg
    obtain ⟨a, vs, rfl, ra, l⟩ := hd.lst
    rw [← hk] at ra
    refine ⟨a, vs, rfl, .inl ⟨ra, fun p hp => ?_⟩⟩
    refine k _ _ (.upd hp) ⟨p, vs, rfl, fun z => ?_, upd_same, l.grow (.upd hp)⟩
    obtain ⟨u, hu⟩ := ht p z
    rw [hp] at hu; cases hu
  · cases hg
    obtain ⟨a, vs, rfl, na, ra, l⟩ := hd.tup
    exact ⟨a, vs, rfl, .inr ⟨.of ra, k _ H .rfl' ⟨a, vs, rfl, na, ra, l⟩⟩⟩
  · cases hg
    obtain ⟨a, ob, rfl, na, r, z⟩ := hd
    exact ⟨a, _, rfl, .inr ⟨.inl (.inr ⟨ob, r⟩), k _ H .rfl' ⟨a, ob, rfl, na, r, z⟩⟩⟩
  · cases hg
/-- list(x): a new one -/
def lstOfD : D → Option Ob
  | .lst ds => some (.lst ds)
  | .tup ds => some (.lst ds)
  | .nms xs => some (.lst (xs.map .str))
  | _ => none
theorem strs_rep {M : MS} {H : Hp} : ∀ xs : List Str, RepL S M H (xs.map D.str) (xs.map V.str)
  | [] => rfl
  | x :: xs => ⟨_, _, rfl, rfl, strs_rep xs⟩
theorem r_list (hk : X.K = S.K) (hm : X.mg "list" = none) (ha : PE X e (tE S M0 E f)) (hg : Gl X "list" := by rfl)
    (he : starEach [e] X.env = (false, eval e X.env) :: starEach [] X.env := by rfl) (hpl : (backTo pos (starEach [] X.env)).any (·.1) = false := by rfl) : PE X (.Call (.Name "list" p) [e] [] pos) (tE S M0 E (unNF S.flds lstOfD f)) :=
  PE.imp (pe_callTy call_list_of hg hm PyProof.Rows.boot_list (pa_cons ha pa_nil he) (by decide) (by decide) he hpl) fun σ H Q h => by
    obtain ⟨B, ow, env, s, h⟩ := h
    refine ⟨B, ow, env, s, f.m (fun e1 env1 h1 v H1 ow1 st1 nw1 ok1 => ?_) (fun _ _ h => h) h⟩
    obtain ⟨e', q, d, c, h1, h2, h3⟩ := h1
    have ok1' := ok1.settle q
    have s1 := ok1'.sim (EV.settle_old q)
    have r := ok1'.rd .refl s1 h1
    have fin : ∀ ds vs, c = .lst ds → RepL S (Md B ow1) H1 ds vs → ∀ l, H1 l = none → Q (.ref l) (upd H1 l (.lst vs)) := fun ds vs ec l p hp => by
      subst ec
      exact h3 _ _ ow1 (st1.trans (.grow (.upd hp))) (.at (st1.fresh hp)) (new_ok s1 hp fun M hM => ⟨vs, upd_same, items_new s1 hp l hM⟩)
    unfold lstOfD at h2
    split at h2
    · cases h2
      obtain ⟨a, vs, rfl, ra, l⟩ := r.lst
      rw [← hk] at ra
      exact ⟨a, vs, rfl, .inl ra, fin _ _ rfl l⟩
    · cases h2
      obtain ⟨a, vs, rfl, na, ra, l⟩ := r.tup
      exact ⟨a, vs, rfl, .inr (.of ra), fin _ _ rfl l⟩
    · cases h2
      obtain ⟨a, ob, rfl, na, ra, z⟩ := r
      exact ⟨a, _, rfl, .inr (.inl (.inr ⟨ob, ra⟩)), fin _ _ rfl (strs_rep _)⟩
    · cases h2
/-- -x -/
def negD : D → Option D
  | .int i => some (.int (-i))
  | _ => none
theorem r_neg (ha : PE X a (tE S M0 E f)) : PE X (.UnaryOp .USub a pos) (tE S M0 E (unF S.flds negD f)) :=
  PE.imp (pe_un un_neg ha) fun σ H Q h => un_of (T := rU fun i => .int (-i)) (fun x H Q ⟨M, d, c, hd, hg, ht, k⟩ => by
    unfold negD at hg
    split at hg
    · cases hg; cases hd
      exact ⟨_, rfl, k _ H .rfl' rfl⟩
    · cases hg) h
/-! ### subscripts -/
def ixD : D → D → Option D
  | .lst ds, .int i => atI ds i
  | .tup ds, .int i => atI ds i
  | .nms xs, .int i => (atI xs i).map .str
  | .str z, .int i => if z.length ≤ sizeLine then (atI z.cps.toList i).map fun c => .str ⟨#[c]⟩ else none
  | _, _ => none
theorem at_v {M : MS} {H : Hp} {ds : List D} {vs : List V} {i : Int} {d : D} (l : RepL S M H ds vs) (h : atI ds i = some d) : ∃ v, atI vs i = some v ∧ Rep S M H d v := by
  unfold atI at h ⊢
  rw [← l.len]
  cases q : ixN ds.length i with
  | none => rw [q] at h; cases h
  | some j =>
    rw [q] at h
    exact l.get h
theorem r_ix (hk : X.K = S.K) (ha : PE X a (tE S M0 E f)) (hb : PE X b (tE S M0 E f2)) (hs : PlainIx b := by intro _ _; rfl) : PE X (.Subscript a b pos) (tE S M0 E (binF S.flds ixD f f2)) :=
  PE.imp (pe_ix ix_seq ha hb hs) fun σ H Q h => bin_of (fun x y H Q ⟨M, d, e, c, hd, he, hg, ht, k⟩ => by
    unfold ixD at hg
    split at hg
    · obtain ⟨a, vs, rfl, ra, l⟩ := hd.lst
      cases he
      rw [← hk] at ra
      obtain ⟨v, e1, e2⟩ := at_v l hg
      exact .inl ⟨a, vs, _, v, rfl, rfl, ra, e1, k _ H .rfl' e2⟩
    · obtain ⟨a, vs, rfl, na, ra, l⟩ := hd.tup
      cases he
      obtain ⟨v, e1, e2⟩ := at_v l hg
      exact .inr (.inl ⟨a, vs, _, v, rfl, rfl, .of ra, e1, k _ H .rfl' e2⟩)
    · obtain ⟨x', e1, rfl⟩ := Option.map_eq_some_iff.mp hg
      obtain ⟨a, ob, rfl, na, ra, z⟩ := hd
      cases he
      refine .inr (.inl ⟨a, _, _, .str x', rfl, rfl, .inl (.inr ⟨ob, ra⟩), ?_, k _ H .rfl' rfl⟩)
      unfold atI at e1 ⊢
      rw [List.length_map]
      obtain ⟨j, h1, h2⟩ := Option.bind_eq_some_iff.mp e1
      rw [h1]
      show (List.map V.str _)[j]? = _
      rw [List.getElem?_map, h2]; rfl
    · split at hg
      · rename_i z
        obtain ⟨c', e1, rfl⟩ := Option.map_eq_some_iff.mp hg
        cases hd; cases he
        exact .inr (.inr ⟨_, _, c', rfl, rfl, z, e1, k _ H .rfl' rfl⟩)
      · cases hg
    · cases hg) h
/-- d[k] -/
def dgetD : D → D → Option D
  | .dK ks ds, k => (keyD? k).bind fun k => getK ks ds k
  | .dT ks ds, k => (keyT? k).bind fun k => getK ks ds k
  | _, _ => none
theorem r_dget (hu : X.A.units + 100 < cLine) (ha : PE X a (tE S M0 E f)) (hb : PE X b (tE S M0 E f2)) (hs : NoSl b := by intro _ _; rfl) : PE X (.Subscript a b pos) (tE S M0 E (binF S.flds dgetD f f2)) :=
  PE.imp (pe_dget (by omega) ha hb hs) fun σ H Q h => bin_of (R := fun x y H2 Q => ∃ a v, x = .ref a ∧ DGet H2 a y (some v) ∧ Q v H2) (fun x y H Q ⟨M, d, e, c, hd, he, hg, ht, k⟩ => by
    unfold dgetD at hg
    split at hg
    · obtain ⟨ky, h1, h2⟩ := Option.bind_eq_some_iff.mp hg
      obtain ⟨a, o, rfl, g, _, q⟩ := dget_k he h1 hd
      obtain ⟨v, rfl, r⟩ := q _ h2
      exact ⟨a, v, rfl, g, k _ H .rfl' r⟩
    · obtain ⟨ky, h1, h2⟩ := Option.bind_eq_some_iff.mp hg
      obtain ⟨a, o, rfl, g, _, q⟩ := dget_t he h1 hd
      obtain ⟨v, rfl, r⟩ := q _ h2
      exact ⟨a, v, rfl, g, k _ H .rfl' r⟩
    · cases hg) h
end
end En
set_option Elab.async false
set_option linter.all false
set_option maxRecDepth 100000
namespace En
open PySem PySem.Spec PyProof.Rows L2
section
variable {X : Cx} {S : Sg} {M0 : MS} {E : XK}
variable {a b c e : Expr} {es : List Expr} {f f2 f3 : EF} {pos p : Pos} {x : Str} {bi T : String} {l : LF}
/-! ### argument lists, displays -/
def nilL : LF where
  r := fun env P _ => P [] env
  m := fun hp _ h => hp _ _ h
def consL (F : Nat → List Str) (f : EF) (l : LF) : LF where
  r := fun env P X => f.r env (fun e env1 => ∃ d, e.keep F = some d ∧ l.r env1 (fun ds env2 => P (d :: ds) env2) X) X
  m := fun hp hx h => f.m (fun e env1 ⟨d, h1, h2⟩ => ⟨d, h1, l.m (fun ds env2 h => hp _ _ h) hx h2⟩) hx h
theorem r_pnil : PA X [] (tL S M0 E nilL) := PA.imp pa_nil fun σ H Q h => by
  obtain ⟨B, ow, env, s, h⟩ := h
  exact h [] H ow .refl s rfl
theorem r_pcons (ha : PE X e (tE S M0 E f)) (hr : PA X es (tL S M0 E l)) (hs : starEach (e :: es) X.env = (false, eval e X.env) :: starEach es X.env := by rfl) : PA X (e :: es) (tL S M0 E (consL S.flds f l)) :=
  PA.imp (pa_cons ha hr hs) fun σ H Q h => by
    obtain ⟨B, ow, env, s, h⟩ := h
    refine ⟨B, ow, env, s, f.m (fun e1 env1 h1 v H1 ow1 st1 nw1 ok1 => ?_) (fun _ _ h => h) h⟩
    obtain ⟨d, q, h1⟩ := h1
    obtain ⟨s1, r1⟩ := ok1.keep q
    refine ⟨B, ow1, env1, s1, l.m (fun ds env2 h2 vs H2 ow2 st2 s2 r2 => ?_) (fun _ _ h => h.stp st1) h1⟩
    exact h2 _ H2 ow2 (st1.trans st2) s2 ⟨v, vs, rfl, Rep.stp st2 r1, r2⟩
def tupF (l : LF) : EF where
  r := fun env P X => l.r env (fun ds env1 => ds.length ≤ 100 ∧ P (.val (.tup ds)) env1) X
  m := fun hp hx h => l.m (fun ds env1 h => ⟨h.1, hp _ _ h.2⟩) hx h
def lstF (l : LF) : EF where
  r := fun env P X => l.r env (fun ds env1 => ds.length ≤ 100 ∧ P (.new (.lst ds)) env1) X
  m := fun hp hx h => l.m (fun ds env1 h => ⟨h.1, hp _ _ h.2⟩) hx h
theorem line100 {n : Nat} (h : n ≤ 100) : n ≤ sizeLine := by rw [sizeLine_eq]; omega
theorem fresh_nm {M : MS} {H : Hp} {p : Addr} (t : ∀ a, M a → ∃ u, H a = some u) (hp : H p = none) : ¬ M p := fun z => by
  obtain ⟨u, hu⟩ := t p z
  rw [hp] at hu; cases hu
theorem r_tup {k : Nat} (h : PA X es (tL S M0 E l)) : PE X (.Tuple es k pos) (tE S M0 E (tupF l)) :=
  PE.imp (pe_tup h) fun σ H Q h => by
    obtain ⟨B, ow, env, s, h⟩ := h
    refine ⟨B, ow, env, s, l.m (fun ds env1 h1 vs H1 ow1 st1 s1 r1 => ?_) (fun _ _ h => h) h⟩
    refine ⟨by rw [← r1.len]; exact line100 h1.1, fun p hp => ?_⟩
    exact h1.2 _ _ ow1 (st1.trans (.grow (.upd hp))) trivial ⟨s1.grow (.upd hp), p, vs, rfl, fresh_nm s1.trkA hp, upd_same, r1.grow (.upd hp)⟩
theorem r_lst (h : PA X es (tL S M0 E l)) : PE X (.List es pos) (tE S M0 E (lstF l)) :=
  PE.imp (pe_lst h) fun σ H Q h => by
    obtain ⟨B, ow, env, s, h⟩ := h
    refine ⟨B, ow, env, s, l.m (fun ds env1 h1 vs H1 ow1 st1 s1 r1 => ?_) (fun _ _ h => h) h⟩
    refine ⟨by rw [← r1.len]; exact line100 h1.1, fun p hp => ?_⟩
    exact h1.2 _ _ ow1 (st1.trans (.grow (.upd hp))) (.at (st1.fresh hp)) (new_ok s1 hp fun M hM => ⟨vs, upd_same, items_new s1 hp r1 hM⟩)
/-- {} with int and text keys, with tuples as keys -/
def dnewK : EF where
  r := fun env P _ => P (.new (.dK [] [])) env
  m := fun hp _ h => hp _ _ h
def dnewT : EF where
  r := fun env P _ => P (.new (.dT [] [])) env
  m := fun hp _ h => hp _ _ h
theorem r_dnewK : PE X (.Dict [] [] pos) (tE S M0 E dnewK) := PE.imp pe_dnewK fun σ H Q h p hp => by
  obtain ⟨B, ow, env, s, h⟩ := h
  exact h _ _ ow (.grow (.upd hp)) (.at hp) (new_ok s hp fun M hM => ⟨[], upd_same, rfl, rfl⟩)
theorem r_dnewT : PE X (.Dict [] [] pos) (tE S M0 E dnewT) := PE.imp pe_dnewT fun σ H Q h p hp => by
  obtain ⟨B, ow, env, s, h⟩ := h
  exact h _ _ ow (.grow (.upd hp)) (.at hp) (new_ok s hp fun M hM => ⟨[], upd_same, rfl, rfl⟩)
/-! ### tests -/
def truD : D → Option Bool
  | .non => some false
  | .bl b => some b
  | .int i => some (i != 0)
  | .str x => if x.length ≤ sizeLine then some ((x.length : Int) != 0) else none
  | .tup ds => some (!ds.isEmpty)
  | .lst ds => some (!ds.isEmpty)
  | .nms xs => some (!xs.isEmpty)
  | _ => none
def truF (F : Nat → List Str) (f : EF) : TF where
  r := fun env P X => f.r env (fun e env1 => ∃ e', e.settle F = some e' ∧ ∃ d b, e'.rd F env1 = some d ∧ truD d = some b ∧ P b env1) X
  m := fun hp hx h => f.m (fun e env1 ⟨e', q, d, c, h1, h2, h3⟩ => ⟨e', q, d, c, h1, h2, hp _ _ h3⟩) hx h
theorem tru_v {M : MS} {H : Hp} {d : D} {v : V} {k : Bool} (hk : X.K = S.K) (h : RepT S M H d v) (e : truD d = some k) : TruV X.K v H k := by
  unfold truD at e
  split at e
  · cases e; cases h; rfl
  · cases e; cases h; rfl
  · cases e; cases h; rfl
  · split at e
    · rename_i z
      cases e; cases h; exact ⟨z, rfl⟩
    · cases e
  · cases e
    obtain ⟨a, vs, rfl, _, r, l⟩ := h.tup
    refine .inr (.inl ⟨vs, .of r, ?_⟩)
    have := l.len
    rename_i ds _
    cases ds <;> cases vs <;> first | rfl | (simp at this)
  · cases e
    obtain ⟨a, vs, rfl, r, l⟩ := h.lst
    rw [← hk] at r
    refine .inl ⟨vs, r, ?_⟩
    have := l.len
    rename_i ds
    cases ds <;> cases vs <;> first | rfl | (simp at this)
  · cases e
    obtain ⟨a, ob, rfl, na, ra, z⟩ := h
    rename_i xs
    refine .inr (.inl ⟨_, .inl (.inr ⟨ob, ra⟩), ?_⟩)
    cases xs <;> rfl
  · cases e
theorem t_val (hk : X.K = S.K) (ha : PE X a (tE S M0 E f)) (he : ∀ whole, isTrue a X.env whole = (do let v ← whole; standAt a.pos; holding [v] (truthy v)) := by intro _; rfl) : PT X a (tT S M0 E (truF S.flds f)) :=
  PT.imp (pt_truth ha he) fun σ H Q h => by
    obtain ⟨B, ow, env, s, h⟩ := h
    refine ⟨B, ow, env, s, f.m (fun e1 env1 h1 v H1 ow1 st1 nw1 ok1 => ?_) (fun _ _ h => h) h⟩
    obtain ⟨e', q, d, k, k1, k2, k3⟩ := h1
    have ok1' := ok1.settle q
    have s1 := ok1'.sim (EV.settle_old q)
    exact ⟨k, tru_v hk (ok1'.rd .refl s1 k1) k2, k3 H1 ow1 st1 s1⟩
/-- a bool's value as a test -/
def blF (F : Nat → List Str) (f : EF) : TF where
  r := fun env P X => f.r env (fun e env1 => ∃ b, e = .val (.bl b) ∧ P b env1) X
  m := fun hp hx h => f.m (fun e env1 ⟨b, q, h⟩ => ⟨b, q, hp _ _ h⟩) hx h
theorem bl_of {f : EF} {F : Nat → List Str} {σ : L2.St} {H : Hp} {Q : Bool → Hp → Prop} (h : tT S M0 E (blF F f) σ H Q) : tE S M0 E f σ H fun x H1 => ∃ k, x = .bl k ∧ Q k H1 := by
  obtain ⟨B, ow, env, s, h⟩ := h
  refine ⟨B, ow, env, s, f.m (fun e1 env1 h1 v H1 ow1 st1 nw1 ok1 => ?_) (fun _ _ h => h) h⟩
  obtain ⟨k, rfl, h2⟩ := h1
  obtain ⟨s1, r⟩ := ok1
  cases r
  exact ⟨k, rfl, h2 H1 ow1 st1 s1⟩
theorem t_bl (ha : PE X a (tE S M0 E f)) (he : ∀ whole, isTrue a X.env whole = (do let v ← whole; standAt a.pos; holding [v] (truthy v)) := by intro _; rfl) : PT X a (tT S M0 E (blF S.flds f)) :=
  PT.imp (pt_val ha he) fun σ H Q h => bl_of h
theorem t_cmp {op : CmpOp} {g : D → D → Option D} (ho : OpS X S (compareOp op) g) (ha : PE X a (tE S M0 E f)) (hb : PE X b (tE S M0 E f2)) (hm : behindInMarks op b = false := by first | exact nomark _ | rfl) : PT X (.Compare a [op] [b] pos) (tT S M0 E (blF S.flds (binF S.flds g f f2))) :=
  PT.imp (pt_cmpR ho ha hb hm) fun σ H Q h => by
    have h2 := bl_of h
    exact bin_of (fun _ _ _ _ z => z) h2
variable {t t2 : TF} {rest : List Expr}
def notT (t : TF) : TF where
  r := fun env P X => t.r env (fun b env1 => P (!b) env1) X
  m := fun hp hx h => t.m (fun b env1 h => hp _ _ h) hx h
theorem t_not (ha : PT X a (tT S M0 E t)) : PT X (.UnaryOp .Not a pos) (tT S M0 E (notT t)) :=
  PT.imp (pt_not ha) fun σ H Q h => by
    obtain ⟨B, ow, env, s, h⟩ := h
    exact ⟨B, ow, env, s, h⟩
def andT (t u : TF) : TF where
  r := fun env P X => t.r env (fun b env1 => if b = true then u.r env1 P X else P false env1) X
  m := fun hp hx h => t.m (fun b env1 h => by
    split at h
    · rename_i z; rw [if_pos z]; exact u.m hp hx h
    · rename_i z; rw [if_neg z]; exact hp _ _ h) hx h
def orT (t u : TF) : TF where
  r := fun env P X => t.r env (fun b env1 => if b = true then P true env1 else u.r env1 P X) X
  m := fun hp hx h => t.m (fun b env1 h => by
    split at h
    · rename_i z; rw [if_pos z]; exact hp _ _ h
    · rename_i z; rw [if_neg z]; exact u.m hp hx h) hx h
theorem PW.imp {X : Cx} {e : Expr} {t t' : TT} (h : PW X e t) (k : ∀ σ H Q, t' σ H Q → t σ H Q) : PW X e t' := ⟨fun w p s σ H Q I q => h.run w p s σ H Q I (k σ H Q q)⟩
theorem w_and1 (ha : PT X a (tT S M0 E t)) : PW X (.BoolOp .And [a] pos) (tT S M0 E t) := pw_and1 ha
theorem w_or1 (ha : PT X a (tT S M0 E t)) : PW X (.BoolOp .Or [a] pos) (tT S M0 E t) := pw_or1 ha
theorem w_and (ha : PT X a (tT S M0 E t)) (hb : PW X (.BoolOp .And (b :: rest) pos) (tT S M0 E t2)) : PW X (.BoolOp .And (a :: b :: rest) pos) (tT S M0 E (andT t t2)) :=
  PW.imp (pw_and ha hb) fun σ H Q h => by
    obtain ⟨B, ow, env, s, h⟩ := h
    refine ⟨B, ow, env, s, t.m (fun k env1 h1 H1 ow1 st1 s1 => ?_) (fun _ _ h => h) h⟩
    cases k with
    | true =>
      rw [if_pos rfl] at h1 ⊢
      exact ⟨B, ow1, env1, s1, t2.m (fun k env2 h2 H2 ow2 st2 s2 => h2 H2 ow2 (st1.trans st2) s2) (fun _ _ h => h.stp st1) h1⟩
    | false =>
      rw [if_neg Bool.false_ne_true] at h1 ⊢
      exact h1 H1 ow1 st1 s1
theorem w_or (ha : PT X a (tT S M0 E t)) (hb : PW X (.BoolOp .Or (b :: rest) pos) (tT S M0 E t2)) : PW X (.BoolOp .Or (a :: b :: rest) pos) (tT S M0 E (orT t t2)) :=
  PW.imp (pw_or ha hb) fun σ H Q h => by
    obtain ⟨B, ow, env, s, h⟩ := h
    refine ⟨B, ow, env, s, t.m (fun k env1 h1 H1 ow1 st1 s1 => ?_) (fun _ _ h => h) h⟩
    cases k with
    | false =>
      rw [if_neg Bool.false_ne_true] at h1 ⊢
      exact ⟨B, ow1, env1, s1, t2.m (fun k env2 h2 H2 ow2 st2 s2 => h2 H2 ow2 (st1.trans st2) s2) (fun _ _ h => h.stp st1) h1⟩
    | true =>
      rw [if_pos rfl] at h1 ⊢
      exact h1 H1 ow1 st1 s1
/-- and, or, not as values: bools ahead -/
def andF (f g : EF) : EF where
  r := fun env P X => f.r env (fun e env1 => ∃ b, e = .val (.bl b) ∧ if b = true then g.r env1 P X else P (.val (.bl false)) env1) X
  m := fun hp hx h => f.m (fun e env1 ⟨b, q, h⟩ => ⟨b, q, by
    split at h
    · rename_i z; rw [if_pos z]; exact g.m hp hx h
    · rename_i z; rw [if_neg z]; exact hp _ _ h⟩) hx h
def orF (f g : EF) : EF where
  r := fun env P X => f.r env (fun e env1 => ∃ b, e = .val (.bl b) ∧ if b = true then P (.val (.bl true)) env1 else g.r env1 P X) X
  m := fun hp hx h => f.m (fun e env1 ⟨b, q, h⟩ => ⟨b, q, by
    split at h
    · rename_i z; rw [if_pos z]; exact hp _ _ h
    · rename_i z; rw [if_neg z]; exact g.m hp hx h⟩) hx h
def notF (f : EF) : EF where
  r := fun env P X => f.r env (fun e env1 => ∃ b, e = .val (.bl b) ∧ P (.val (.bl (!b))) env1) X
  m := fun hp hx h => f.m (fun e env1 ⟨b, q, h⟩ => ⟨b, q, hp _ _ h⟩) hx h
theorem r_one {op} (h : PE X a (tE S M0 E f)) : PE X (.BoolOp op [a] pos) (tE S M0 E f) := pe_one h
theorem r_and (ha : PE X a (tE S M0 E f)) (hb : PE X (.BoolOp .And (b :: rest) pos) (tE S M0 E f2)) : PE X (.BoolOp .And (a :: b :: rest) pos) (tE S M0 E (andF f f2)) :=
  PE.imp (pe_and ha hb) fun σ H Q h => by
    obtain ⟨B, ow, env, s, h⟩ := h
    refine ⟨B, ow, env, s, f.m (fun e1 env1 h1 v H1 ow1 st1 nw1 ok1 => ?_) (fun _ _ h => h) h⟩
    obtain ⟨k, rfl, h1⟩ := h1
    obtain ⟨s1, r1⟩ := ok1
    cases r1
    refine ⟨k, rfl, ?_⟩
    cases k with
    | true =>
      rw [if_pos rfl] at h1 ⊢
      exact ⟨B, ow1, env1, s1, f2.m (fun k env2 h2 v2 H2 ow2 st2 n2 s2 => h2 v2 H2 ow2 (st1.trans st2) (n2.back st1) s2) (fun _ _ h => h.stp st1) h1⟩
    | false =>
      rw [if_neg Bool.false_ne_true] at h1 ⊢
      exact h1 _ H1 ow1 st1 trivial ⟨s1, rfl⟩
theorem r_or (ha : PE X a (tE S M0 E f)) (hb : PE X (.BoolOp .Or (b :: rest) pos) (tE S M0 E f2)) : PE X (.BoolOp .Or (a :: b :: rest) pos) (tE S M0 E (orF f f2)) :=
  PE.imp (pe_or ha hb) fun σ H Q h => by
    obtain ⟨B, ow, env, s, h⟩ := h
    refine ⟨B, ow, env, s, f.m (fun e1 env1 h1 v H1 ow1 st1 nw1 ok1 => ?_) (fun _ _ h => h) h⟩
    obtain ⟨k, rfl, h1⟩ := h1
    obtain ⟨s1, r1⟩ := ok1
    cases r1
    refine ⟨k, rfl, ?_⟩
    cases k with
    | false =>
      rw [if_neg Bool.false_ne_true] at h1 ⊢
      exact ⟨B, ow1, env1, s1, f2.m (fun k env2 h2 v2 H2 ow2 st2 n2 s2 => h2 v2 H2 ow2 (st1.trans st2) (n2.back st1) s2) (fun _ _ h => h.stp st1) h1⟩
    | true =>
      rw [if_pos rfl] at h1 ⊢
      exact h1 _ H1 ow1 st1 trivial ⟨s1, rfl⟩
theorem r_not (ha : PE X a (tE S M0 E f)) : PE X (.UnaryOp .Not a pos) (tE S M0 E (notF f)) :=
  PE.imp (pe_not ha) fun σ H Q h => by
    obtain ⟨B, ow, env, s, h⟩ := h
    refine ⟨B, ow, env, s, f.m (fun e1 env1 h1 v H1 ow1 st1 nw1 ok1 => ?_) (fun _ _ h => h) h⟩
    obtain ⟨k, rfl, h1⟩ := h1
    obtain ⟨s1, r1⟩ := ok1
    cases r1
    exact ⟨k, rfl, h1 _ H1 ow1 st1 trivial ⟨s1, rfl⟩⟩
def iteF' (t : TF) (f g : EF) : EF where
  r := fun env P X => t.r env (fun b env1 => if b = true then f.r env1 P X else g.r env1 P X) X
  m := fun hp hx h => t.m (fun b env1 h => by
    split at h
    · rename_i z; rw [if_pos z]; exact f.m hp hx h
    · rename_i z; rw [if_neg z]; exact g.m hp hx h) hx h
theorem r_ite (hc : PT X c (tT S M0 E t)) (ha : PE X a (tE S M0 E f)) (hb : PE X b (tE S M0 E f2)) : PE X (.IfExp c a b pos) (tE S M0 E (iteF' t f f2)) :=
  PE.imp (pe_ifExp hc ha hb) fun σ H Q h => by
    obtain ⟨B, ow, env, s, h⟩ := h
    refine ⟨B, ow, env, s, t.m (fun k env1 h1 H1 ow1 st1 s1 => ?_) (fun _ _ h => h) h⟩
    cases k with
    | true =>
      rw [if_pos rfl] at h1 ⊢
      exact ⟨B, ow1, env1, s1, f.m (fun k env2 h2 v2 H2 ow2 st2 n2 s2 => h2 v2 H2 ow2 (st1.trans st2) (n2.back st1) s2) (fun _ _ h => h.stp st1) h1⟩
    | false =>
      rw [if_neg Bool.false_ne_true] at h1 ⊢
      exact ⟨B, ow1, env1, s1, f2.m (fun k env2 h2 v2 H2 ow2 st2 n2 s2 => h2 v2 H2 ow2 (st1.trans st2) (n2.back st1) s2) (fun _ _ h => h.stp st1) h1⟩
/-- a op b op' c, of ints -/
def chainF (F : Nat → List Str) (g g' : D → D → Option D) (f f2 f3 : EF) : EF where
  r := fun env P X => f.r env (fun e env1 => ∃ i, e = .val (.int i) ∧ f2.r env1 (fun e2 env2 => ∃ j, e2 = .val (.int j) ∧ ∃ b, g (.int i) (.int j) = some (.bl b) ∧
    if b = true then f3.r env2 (fun e3 env3 => ∃ k, e3 = .val (.int k) ∧ ∃ c, g' (.int j) (.int k) = some (.bl c) ∧ P (.val (.bl c)) env3) X else P (.val (.bl false)) env2) X) X
  m := fun hp hx h => f.m (fun e env1 ⟨i, q, h⟩ => ⟨i, q, f2.m (fun e2 env2 ⟨j, q2, b, h1, h2⟩ => ⟨j, q2, b, h1, by
    split at h2
    · rename_i z; rw [if_pos z]; exact f3.m (fun e3 env3 ⟨k, q3, c, h3, h4⟩ => ⟨k, q3, c, h3, hp _ _ h4⟩) hx h2
    · rename_i z; rw [if_neg z]; exact hp _ _ h2⟩) hx h⟩) hx h
abbrev OpT (S : Sg) (g : D → D → Option D) : R2 := fun x y H Q => ∃ M d e c, RepT S M H d x ∧ RepT S M H e y ∧ g d e = some c ∧ (∀ a, M a → ∃ u, H a = some u) ∧ ∀ v H', Grow H H' → Rep S M H' c v → Q v H'
theorem chain_of {g g' : D → D → Option D} {σ : L2.St} {H : Hp} {Q : VK} (h : tE S M0 E (chainF S.flds g g' f f2 f3) σ H Q) : tChain (OpT S g) (OpT S g') (tE S M0 E f) (tE S M0 E f2) (tE S M0 E f3) σ H Q := by
  obtain ⟨B, ow, env, s, h⟩ := h
  refine ⟨B, ow, env, s, f.m (fun e1 env1 h1 v H1 ow1 st1 nw1 ok1 => ?_) (fun _ _ h => h) h⟩
  obtain ⟨i, rfl, h1⟩ := h1
  obtain ⟨s1, r1⟩ := ok1
  cases r1
  refine ⟨B, ow1, env1, s1, f2.m (fun e2 env2 h2 v2 H2 ow2 st2 nw2 ok2 => ?_) (fun _ _ h => h.stp st1) h1⟩
  obtain ⟨j, rfl, b, hg, h2⟩ := h2
  obtain ⟨s2, r2⟩ := ok2
  cases r2
  refine ⟨fun _ => False, .int i, .int j, .bl b, rfl, rfl, hg, fun _ z => z.elim, fun w H3 g3 r3 => ?_⟩
  cases r3
  refine ⟨b, rfl, ?_⟩
  have st3 := (st1.trans st2).trans (Stp.grow g3)
  cases b with
  | true =>
    rw [if_pos rfl] at h2 ⊢
    refine ⟨B, ow2, env2, s2.grow g3, f3.m (fun e3 env3 h3 v3 H4 ow4 st4 nw4 ok4 => ?_) (fun _ _ h => h.stp st3) h2⟩
    obtain ⟨k, rfl, c, hg', h3⟩ := h3
    obtain ⟨s4, r4⟩ := ok4
    cases r4
    refine ⟨fun _ => False, .int j, .int k, .bl c, rfl, rfl, hg', fun _ z => z.elim, fun w H5 g5 r5 => ?_⟩
    cases r5
    exact h3 _ H5 ow4 ((st3.trans st4).trans (.grow g5)) trivial ⟨s4.grow g5, rfl⟩
  | false =>
    rw [if_neg Bool.false_ne_true] at h2 ⊢
    exact h2 _ H3 ow2 st3 trivial ⟨s2.grow g3, rfl⟩
theorem r_chain {op op' : CmpOp} {g g' : D → D → Option D} (ho : OpS X S (compareOp op) g) (ho' : OpS X S (compareOp op') g') (ha : PE X a (tE S M0 E f)) (hb : PE X b (tE S M0 E f2)) (hc : PE X c (tE S M0 E f3)) (hm : lastMarks [op, op'] [b, c] = false := by with_unfolding_all rfl) :
    PE X (.Compare a [op, op'] [b, c] pos) (tE S M0 E (chainF S.flds g g' f f2 f3)) := PE.imp (pe_chain ho ho' ha hb hc hm) fun σ H Q h => chain_of h
theorem t_chain {op op' : CmpOp} {g g' : D → D → Option D} (ho : OpS X S (compareOp op) g) (ho' : OpS X S (compareOp op') g') (ha : PE X a (tE S M0 E f)) (hb : PE X b (tE S M0 E f2)) (hc : PE X c (tE S M0 E f3)) (hm : lastMarks [op, op'] [b, c] = false := by with_unfolding_all rfl) :
    PT X (.Compare a [op, op'] [b, c] pos) (tT S M0 E (blF S.flds (chainF S.flds g g' f f2 f3))) := PT.imp (pt_chain ho ho' ha hb hc hm) fun σ H Q h => by
  have h2 := chain_of (bl_of h)
  refine h2
/-! ### fields, isinstance -/
inductive BT where
  | non | bool | int | str | list | tuple | dict
  deriving DecidableEq
def BT.nm : BT → String
  | .non => "NoneType" | .bool => "bool" | .int => "int" | .str => "str" | .list => "list" | .tuple => "tuple" | .dict => "dict"
inductive Tq where
  | b (t : BT)
  | c (k : Nat)
  deriving DecidableEq
def Tq.v (S : Sg) : Tq → Value
  | .b t => .type t.nm
  | .c k => .ref (S.cls k)
def Tq.vv (S : Sg) : Tq → V
  | .b t => .ty t.nm
  | .c k => .ref (S.cls k)
def isOne : Tq → Tq → Bool
  | .b t, .b u => t == u || (t == .bool && u == .int)
  | .c i, .c j => i == j
  | _, _ => false
structure ClsX (S : Sg) (c : Nat) : Prop where
  cl : Cls S.K (S.cls c)
  nf : ∀ f ∈ S.flds c, NoAttr S.K (S.cls c) f
  ha : PySem.W.findIn S.K (.ref (S.cls c)) "__class__" = some (some (.builtin "object.__class__"))
  hn : PySem.W.specialIn S.K (.builtin "object.__class__") "__get__" = some (some (.builtin "getset_descriptor.__get__"))
  htk : PySem.W.takesIn S.K (.builtin "object.__class__") = some true
  hm : PySem.W.mroIn S.K (S.cls c) (.type "object") = some true
  k1 : ∀ t : BT, PySem.W.kitOne S.K (.ref (S.cls c)) (.type t.nm) = some false
  k2 : ∀ t : BT, PySem.W.kitOne S.K (.type t.nm) (.ref (S.cls c)) = some false
structure SgOk (S : Sg) (ics : List Nat) : Prop where
  c : ∀ k ∈ ics, ClsX S k
  k3 : ∀ k ∈ ics, ∀ j ∈ ics, k ≠ j → PySem.W.kitOne S.K (.ref (S.cls k)) (.ref (S.cls j)) = some false
theorem kit_bb (K : PySem.W.Frag) (t u : BT) : PySem.W.kitOne K (.type t.nm) (.type u.nm) = some (isOne (.b t) (.b u)) := by
  cases t <;> cases u <;> rfl
def Tq.ok (ics : List Nat) : Tq → Prop
  | .b _ => True
  | .c k => k ∈ ics
theorem kit_one {ics : List Nat} (ok : SgOk S ics) {t u : Tq} (ht : t.ok ics) (hu : u.ok ics) : PySem.W.kitOne S.K (t.v S) (u.v S) = some (isOne t u) := by
  cases t with
  | b t => cases u with
    | b u => exact kit_bb _ t u
    | c k => exact (ok.c k hu).k2 t
  | c k => cases u with
    | b u => exact (ok.c k ht).k1 u
    | c j =>
      by_cases h : k = j
      · subst h
        show PySem.W.kitOne S.K (.ref (S.cls k)) (.ref (S.cls k)) = some (k == k)
        unfold PySem.W.kitOne
        rw [if_pos (by simp)]
        simp
      · show _ = some (k == j)
        rw [show (k == j) = false from by simpa using h]
        exact ok.k3 k ht j hu h
theorem kit_any {ics : List Nat} (ok : SgOk S ics) {t : Tq} (ht : t.ok ics) : ∀ {us : List Tq}, (∀ u ∈ us, u.ok ics) → PySem.W.kitAny S.K (t.v S) (us.map (Tq.v S)) = some (us.any (isOne t))
  | [], _ => rfl
  | u :: us, h => by
    show (match PySem.W.kitOne S.K (t.v S) (u.v S) with | some true => some true | some false => PySem.W.kitAny S.K (t.v S) (us.map (Tq.v S)) | none => none) = _
    rw [kit_one ok ht (h u List.mem_cons_self), List.any_cons, kit_any ok ht fun u hu => h u (List.mem_cons_of_mem _ hu)]
    cases isOne t u <;> rfl
def tqD (ics : List Nat) : D → Option Tq
  | .non => some (.b .non)
  | .bl _ => some (.b .bool)
  | .int _ => some (.b .int)
  | .str _ => some (.b .str)
  | .tup _ => some (.b .tuple)
  | .nms _ => some (.b .tuple)
  | .lst _ => some (.b .list)
  | .dK _ _ => some (.b .dict)
  | .dT _ _ => none
  | .fn _ _ => none
  | .exc _ _ => none
  | .ins c _ => if c ∈ ics then some (.c c) else none
theorem tq_v {ics : List Nat} {M : MS} {H : Hp} {d : D} {v : V} {t : Tq} (hk : X.K = S.K) (ok : SgOk S ics) (h : RepT S M H d v) (e : tqD ics d = some t) : t.ok ics ∧ TyX X.K H v (t.v S) := by
  unfold tqD at e
  split at e
  · cases e; cases h; exact ⟨trivial, .base .non⟩
  · cases e; cases h; exact ⟨trivial, .base (.bl _)⟩
  · cases e; cases h; exact ⟨trivial, .base (.int _)⟩
  · cases e; cases h; exact ⟨trivial, .base (.str _)⟩
  · cases e; obtain ⟨a, vs, rfl, _, r, _⟩ := h.tup; exact ⟨trivial, .base (.tup r)⟩
  · cases e; obtain ⟨a, ob, rfl, _, r, _⟩ := h; exact ⟨trivial, .fTuple r⟩
  · cases e
    obtain ⟨a, vs, rfl, r, _⟩ := h.lst
    refine ⟨trivial, ?_⟩
    rcases r with (r | ⟨o, r⟩) | ⟨o, its, n, h1, h2, _⟩
    · exact .base (.lst r)
    · exact .base (.frz r)
    · rw [← hk] at h1; exact .kList h1 h2
  · cases e
    obtain ⟨a, vs, rfl, r, _⟩ := h
    refine ⟨trivial, ?_⟩
    rcases r with r | ⟨o, r⟩
    · exact .base (.dK r)
    · exact .fDict r
  · cases e
  · cases e
  · cases e
  · split at e
    · rename_i hc
      cases e
      obtain ⟨a, dx, vs, rfl, r, _⟩ := h
      have q := ok.c _ hc
      rw [hk]
      exact ⟨hc, .base (.ins r q.cl q.ha q.hn q.htk q.hm)⟩
    · cases e
def isiD (ics : List Nat) (us : List Tq) (d : D) : Option D := (tqD ics d).map fun t => .bl (us.any (isOne t))
theorem pe_ty {u : Tq} {x : Str} {pos : Pos} (hg : Gl X x) (hm : (∃ t, u = .b t ∧ X.mg x = none ∧ bootBuiltins x = some (.type t.nm)) ∨ ∃ k, u = .c k ∧ X.mg x = some (.ref (S.cls k))) (hn : x ≠ "__name__" := by decide) (hd : (x == ("__debug__" : Str)) = false := by decide) :
    PE X (.Name x pos) (tC (u.vv S)) := by
  rcases hm with ⟨t, rfl, h1, h2⟩ | ⟨k, rfl, h1⟩
  · exact pe_bltn hg h1 h2 rfl hn hd
  · exact pe_glob hg h1 rfl hd
theorem clsV_of (u : Tq) : ClsV (u.vv S) (u.v S) := by
  cases u with
  | b t => exact .ty _
  | c k => exact .own _
/-- isinstance(e, T) -/
theorem r_isi {ics : List Nat} {u : Tq} {p2 : Pos} (hk : X.K = S.K) (ok : SgOk S ics) (hu : u.ok ics) (hm : X.mg "isinstance" = none) (hT : PE X (.Name x p2) (tC (u.vv S))) (ha : PE X e (tE S M0 E f)) (hg : Gl X "isinstance" := by rfl)
    (he : starEach [e, .Name x p2] X.env = (false, eval e X.env) :: starEach [.Name x p2] X.env := by rfl) (he2 : starEach [.Name x p2] X.env = (false, eval (.Name x p2) X.env) :: starEach [] X.env := by rfl)
    (hpl : (backTo pos (starEach [.Name x p2] X.env)).any (·.1) = false := by rfl) : PE X (.Call (.Name "isinstance" p) [e, .Name x p2] [] pos) (tE S M0 E (unF S.flds (isiD ics [u]) f)) :=
  PE.imp (pe_callB call_isi hg hm (by decide +kernel) (pa_cons ha (pa_cons hT pa_nil he2) he) (by decide) (by decide) he hpl) fun σ H Q h =>
    un_of (T := fun x H Q => rIsi X.K [x, u.vv S] H Q) (fun x H Q ⟨M, d, c, hd, hg, ht, k⟩ => by
      obtain ⟨t, h1, rfl⟩ := Option.map_eq_some_iff.mp hg
      obtain ⟨k1, k2⟩ := tq_v hk ok hd h1
      refine ⟨x, u.vv S, t.v S, u.v S, isOne t u, rfl, clsV_of u, k2, by rw [hk]; exact kit_one ok k1 hu, k _ H .rfl' ?_⟩
      show V.bl (isOne t u) = V.bl (isOne t u || false)
      rw [Bool.or_false]) h
/-- isinstance(e, (T, U)) -/
theorem r_isi2 {ics : List Nat} {u u' : Tq} {x' : Str} {p2 p3 p4 : Pos} {kk : Nat} (hk : X.K = S.K) (ok : SgOk S ics) (hu : u.ok ics) (hu' : u'.ok ics) (hm : X.mg "isinstance" = none) (hT : PE X (.Name x p2) (tC (u.vv S))) (hT' : PE X (.Name x' p3) (tC (u'.vv S))) (ha : PE X e (tE S M0 E f)) (hg : Gl X "isinstance" := by rfl)
    (he : starEach [e, .Tuple [.Name x p2, .Name x' p3] kk p4] X.env = (false, eval e X.env) :: starEach [.Tuple [.Name x p2, .Name x' p3] kk p4] X.env := by rfl) (he2 : starEach [.Tuple [.Name x p2, .Name x' p3] kk p4] X.env = (false, eval (.Tuple [.Name x p2, .Name x' p3] kk p4) X.env) :: starEach [] X.env := by rfl)
    (he3 : starEach [.Name x p2, .Name x' p3] X.env = (false, eval (.Name x p2) X.env) :: starEach [.Name x' p3] X.env := by rfl) (he4 : starEach [.Name x' p3] X.env = (false, eval (.Name x' p3) X.env) :: starEach [] X.env := by rfl)
    (hpl : (backTo pos (starEach [.Tuple [.Name x p2, .Name x' p3] kk p4] X.env)).any (·.1) = false := by rfl) : PE X (.Call (.Name "isinstance" p) [e, .Tuple [.Name x p2, .Name x' p3] kk p4] [] pos) (tE S M0 E (unF S.flds (isiD ics [u, u']) f)) :=
  PE.imp (pe_callB call_isiT hg hm (by decide +kernel) (pa_cons ha (pa_cons (pe_tup (pa_cons hT (pa_cons hT' pa_nil he4) he3)) pa_nil he2) he) (by decide) (by decide) he hpl) fun σ H Q h =>
    un_of (T := fun x H Q => (2 : Nat) ≤ sizeLine ∧ ∀ p, H p = none → rIsiT X.K [x, .ref p] (upd H p (.tup [u.vv S, u'.vv S])) Q) (fun x H Q ⟨M, d, c, hd, hg, ht, k⟩ => by
      obtain ⟨t, h1, rfl⟩ := Option.map_eq_some_iff.mp hg
      refine ⟨by rw [sizeLine_eq]; omega, fun p hp => ?_⟩
      have hd' : RepT S M (upd H p (.tup [u.vv S, u'.vv S])) d x := by
        have gw : Grow H (upd H p (.tup [u.vv S, u'.vv S])) := .upd hp
        cases d with
        | lst ds => obtain ⟨a, vs, e, q, l⟩ := hd; exact ⟨a, vs, e, q.imp (Rd.kp fun o h => gw a o h) fun z => z, l.grow gw⟩
        | dK ks ds => obtain ⟨a, vs, e, q, z, l⟩ := hd; exact ⟨a, vs, e, Rd.kp (fun o h => gw a o h) q, z, l.grow gw⟩
        | dT ks ds => obtain ⟨a, vs, e, q, z, l⟩ := hd; exact ⟨a, vs, e, Rd.kp (fun o h => gw a o h) q, z, l.grow gw⟩
        | ins c ds => obtain ⟨a, dx, vs, e, q, z, l⟩ := hd; exact ⟨a, dx, vs, e, gw _ _ q, z, l.grow gw⟩
        | tup ds => obtain ⟨a, vs, e, n, q, l⟩ := hd; exact ⟨a, vs, e, n, gw _ _ q, l.grow gw⟩
        | non => exact hd
        | bl b => exact hd
        | int i => exact hd
        | str z => exact hd
        | nms xs => obtain ⟨a, ob, e, n, q, z⟩ := hd; exact ⟨a, ob, e, n, gw _ _ q, z⟩
        | fn j ds => obtain ⟨a, pm, c, ct, vs, e, n, n2, q, q2, z, l⟩ := hd; exact ⟨a, pm, c, ct, vs, e, n, n2, gw _ _ q, gw _ _ q2, z, l.grow gw⟩
        | exc j ds => obtain ⟨a, dx, xl, vs, e, ec, n, q, z, z2, l⟩ := hd; exact ⟨a, dx, xl, vs, e, ec, n, gw _ _ q, z, z2, l.grow gw⟩
      obtain ⟨k1, k2⟩ := tq_v hk ok hd' h1
      refine ⟨x, p, _, t.v S, [u.v S, u'.v S], _, rfl, upd_same, .cons (clsV_of u) (.cons (clsV_of u') .nil), k2, ?_, k _ _ (.upd hp) rfl⟩
      rw [hk]
      exact kit_any ok k1 (us := [u, u']) fun w hw => by
        rcases List.mem_cons.mp hw with rfl | hw
        · exact hu
        · rcases List.mem_cons.mp hw with rfl | hw
          · exact hu'
          · cases hw) h
/-- o.f of an instance -/
def fldD (F : Nat → List Str) (ics : List Nat) (nm : Str) : D → Option D
  | .ins c ds => if c ∈ ics then ((F c).zip ds).lookup nm else none
  | _ => none
theorem lookup_zip {M : MS} {H : Hp} {nm : Str} {d : D} : ∀ {ns : List Str} {ds : List D} {vs : List V}, RepL S M H ds vs → (ns.zip ds).lookup nm = some d → nm ∈ ns ∧ ∃ v, (ns.zip vs).lookup nm = some v ∧ Rep S M H d v
  | [], ds, vs, l, h => by cases h
  | n :: ns, [], vs, l, h => by cases h
  | n :: ns, e :: ds, _, l, h => by
    obtain ⟨v, r, rfl, h1, h2⟩ := l
    rw [List.zip_cons_cons, List.lookup_cons] at h
    cases q : nm == n with
    | true =>
      rw [q] at h
      cases h
      exact ⟨by rw [beq_iff_eq.mp q]; exact List.mem_cons_self, v, by rw [List.zip_cons_cons, List.lookup_cons, q], h1⟩
    | false =>
      rw [q] at h
      obtain ⟨k0, w, k1, k2⟩ := lookup_zip h2 h
      exact ⟨List.mem_cons_of_mem _ k0, w, by rw [List.zip_cons_cons, List.lookup_cons, q]; exact k1, k2⟩
theorem r_fld {ics : List Nat} {nm : Str} (hk : X.K = S.K) (ok : SgOk S ics) (ha : PE X e (tE S M0 E f)) (hb : attributeBase e nm X.env (eval e X.env) = eval e X.env := by rfl) : PE X (.Attribute e nm pos) (tE S M0 E (unF S.flds (fldD S.flds ics nm) f)) :=
  PE.imp (pe_fld ha hb) fun σ H Q h => un_of (T := fun x H1 Q => ∃ a C dx fs v, x = .ref a ∧ H1 a = some (.ins C dx fs) ∧ Cls X.K C ∧ NoAttr X.K C nm ∧ fs.lookup nm = some v ∧ Q v H1) (fun x H Q ⟨M, d, c, hd, hg, ht, k⟩ => by
    unfold fldD at hg
    split at hg
    · split at hg
      · rename_i hc
        obtain ⟨a, dx, vs, rfl, r, z, l⟩ := hd
        obtain ⟨m, v, h1, h2⟩ := lookup_zip l hg
        have q := ok.c _ hc
        rw [hk]
        exact ⟨a, _, dx, _, v, rfl, r, q.cl, q.nf nm m, h1, k v H .rfl' h2⟩
      · cases hg
    · cases hg) h
end
end En
set_option Elab.async false
set_option linter.all false
set_option maxRecDepth 100000
namespace En
open PySem PySem.Spec PyProof.Rows L2
section
open HT
variable {prog : Program} {w : World} {A : Around} {E : Value → Shared → Prop} {s : Shared}
theorem pick_rev (xs : Array Value) : ((List.range xs.size).filterMap fun (m : Nat) => xs[((xs.size : Int) - 1 + (m : Int) * (-1)).toNat]?).toArray = xs.toList.reverse.toArray := by
  congr 1
  apply List.ext_getElem?
  intro i
  have h : ∀ l : List Nat, (∀ m ∈ l, m < xs.size) → l.filterMap (fun (m : Nat) => xs[((xs.size : Int) - 1 + (m : Int) * (-1)).toNat]?) = l.map fun m => xs.toList.getD (xs.size - 1 - m) .none := by
    intro l
    induction l with
    | nil => intro _; rfl
    | cons m l ih =>
      intro hl
      have hm : m < xs.size := hl m List.mem_cons_self
      have e1 : ((xs.size : Int) - 1 + (m : Int) * (-1)).toNat = xs.size - 1 - m := by omega
      have h2 : xs.size - 1 - m < xs.size := by omega
      rw [List.filterMap_cons, e1, Array.getElem?_eq_getElem h2, List.map_cons, ih fun k hk => hl k (List.mem_cons_of_mem _ hk)]
      simp only [List.getD_eq_getElem?_getD, Array.getElem?_toList, Array.getElem?_eq_getElem h2, Option.getD_some]
  rw [h _ fun m hm => List.mem_range.mp hm]
  by_cases hi : i < xs.size
  · rw [List.getElem?_map, List.getElem?_range hi, List.getElem?_reverse (by simpa using hi)]
    have h2 : xs.size - 1 - i < xs.size := by omega
    simp [h2]
  · rw [List.getElem?_eq_none (by simpa using hi), List.getElem?_eq_none (by simpa using hi)]
theorem getItem_tuple_rev {t sl : Addr} {items : Array Value} {vl vu vs : Value} {Q : Value → Shared → Prop} (ht : IsTup s.heap t items) (hs : s.heap.IsSliceOf sl vl vu vs) (pl : IsPart vl none) (pu : IsPart vu none) (ps : IsPart vs (some (-1)))
    (h : Q (.ref s.heap.objs.size) { s with heap := s.heap.push { cls := .type "tuple", data := .seq items.toList.reverse.toArray } })
    (hsz : items.size ≤ sizeLine) : wpAny (model prog w) A (getItem (.ref t) (.ref sl)) Q E s := by
  have htake : sizeOk (.seq items.toList.reverse.toArray) := by
    show items.toList.reverse.toArray.size ≤ sizeLine
    rw [List.size_toArray, List.length_reverse, Array.length_toList]
    exact hsz
  obtain ⟨os, hos, hcs, hds⟩ := id hs
  have hTs : s.TypeIs (.ref sl) "slice" := ⟨os, hos, hcs⟩
  unfold getItem
  try with_reducible refine wpAny_holding ?_
  first | refine wpAny_bind (wpAny_pure ?_) | skip
  refine wpAny_bind (wpAny_sequenceKey ht.typeIs (by decide) ?_)
  refine wpAny_bind (wpAny_callSpecial?_slot (name := Str.ofString "__getitem__") ht.typeIs PyProof.Rows.slot_tuple_getitem
    (wpAny_call_entry PyProof.Rows.slot_tuple_getitem ht.typeIs entry_tuple_getitem ?_ (args_tuple_getitem _ _)))
  show wpAny _ _ (Builtin.Tuple.tupleItemsOf (.ref t) >>= _) _ _ s
  refine wpAny_bind (tupleItemsOf_ ht ?_)
  refine wpAny_bind (wpAny_typeOf hTs ?_)
  rw [if_pos (by decide)]
  have hap : ∀ {Q : Int × Int × Nat → Shared → Prop} {E : Value → Shared → Prop}, Q ((items.size : Int) - 1, -1, items.size) s → wpAny (model prog w) (A.in1) (Builtin.Slice.sliceApplied (.ref sl) (pure (items.size : Int))) Q E s := by
    intro Q E h
    unfold Builtin.Slice.sliceApplied Builtin.Slice.sliceFields
    refine wpAny_bind (wpAny_bind (wpAny_field hos hds (x := vl) rfl (wpAny_bind (wpAny_field hos hds (x := vu) rfl (wpAny_bind (wpAny_field hos hds (x := vs) rfl (wpAny_pure ?_)))))))
    refine wpAny_bind (slicePart_ ps ?_)
    show wpAny _ _ (if ((-1 : Int) == 0) = true then _ else _) _ _ s
    rw [if_neg (by decide)]
    refine wpAny_bind (slicePart_ pl (wpAny_bind (slicePart_ pu (wpAny_bind (wpAny_pure ?_)))))
    show wpAny _ _ (match Builtin.Slice.sliceAdjust none none (-1) (items.size : Int) with | (lo, hi) => pure (lo, (-1 : Int), Builtin.Slice.slicePlaces lo hi (-1))) _ _ s
    have ea : Builtin.Slice.sliceAdjust none none (-1) (items.size : Int) = ((items.size : Int) - 1, -1) := rfl
    rw [ea]
    show wpAny _ _ (pure ((items.size : Int) - 1, (-1 : Int), Builtin.Slice.slicePlaces ((items.size : Int) - 1) (-1) (-1))) _ _ s
    have ep : Builtin.Slice.slicePlaces ((items.size : Int) - 1) (-1) (-1) = items.size := by
      unfold Builtin.Slice.slicePlaces
      rw [if_neg (by decide)]
      split
      · have : -(-1 : Int) = 1 := by decide
        rw [this, Int.ediv_one]; omega
      · omega
    rw [ep]
    exact wpAny_pure h
  refine wpAny_bind (hap ?_)
  have hno : ¬ (((items.size : Int) - 1 == 0 && (-1 : Int) == 1 && items.size == items.size) = true) := by
    intro q
    rw [Bool.and_eq_true, Bool.and_eq_true] at q
    exact absurd q.1.2 (by decide)
  show wpAny _ _ (if ((items.size : Int) - 1 == 0 && (-1 : Int) == 1 && items.size == items.size) = true then _ else _) _ _ s
  rw [if_neg hno, pick_rev]
  first
    | exact wpAny_bind (m := Builtin.Tuple.tupleExact _) (wpAny_newObj_type (wpAny_pure ⟨_, rfl, wpAny_pure h⟩) htake)
    | exact wpAny_bind (m := Builtin.Tuple.tupleExact _) (wpAny_newObj_type (wpAny_bind (wpAny_pure (wpAny_pure ⟨_, rfl, wpAny_pure h⟩))) htake)
    | exact wpAny_bind (wpAny_bind (m := Builtin.Tuple.tupleExact _) (wpAny_newObj_type (wpAny_pure (wpAny_pure ⟨_, rfl, wpAny_pure h⟩)) htake))
    | exact wpAny_bind (wpAny_bind (m := Builtin.Tuple.tupleExact _) (wpAny_newObj_type (wpAny_pure ⟨_, rfl, wpAny_pure h⟩) htake))
end
section
variable {X : Cx} {S : Sg} {M0 : MS} {E : XK}
variable {a b c e : Expr} {es : List Expr} {f f2 f3 : EF} {pos p : Pos} {x : Str} {bi T : String} {l : LF}
/-- e[::-1] of a list or a tuple -/
def revD : D → Option D
  | .lst ds => some (.lst ds.reverse)
  | .tup ds => some (.tup ds.reverse)
  | _ => none
theorem pe_revS {te : TE} {k : Nat} {p1 p2 p3 pos : Pos} (he : PE X e te) : PE X (.Subscript e (.Slice none none (some (.UnaryOp .USub (.Constant (.int 1) k p1) p2)) p3) pos)
    (fun σ H Q => te σ H fun x H1 => (∃ a xs, x = .ref a ∧ SqL X.K H1 a xs ∧ ∀ p, H1 p = none → Q (.ref p) (upd H1 p (.lst xs.reverse))) ∨ ∃ a xs, x = .ref a ∧ SqT X.K H1 a xs ∧ ∀ p, H1 p = none → Q (.ref p) (upd H1 p (.tup xs.reverse))) := by
  refine ⟨fun pins s σ H Q I h => ?_⟩
  refine Subscript_ (thn (he.run pins s σ H _ I h) fun v s1 ⟨x, H1, I1, r1, q1⟩ => ?_)
  have hst : PO X (some (.UnaryOp .USub (.Constant (.int 1) k p1) p2)) (tPart (tUn (rU fun i => .int (-i)) (tC (.int 1)))) := po_some (pe_un un_neg pe_int)
  refine wpAny_Slice (thn (po_none.run pins s1 σ H1 (fun o H2 => o = none ∧ H2 = H1) I1 ⟨rfl, rfl⟩) fun vl s2 ⟨l, H2, I2, pl, el, e2⟩ => ?_)
  subst el e2
  refine thn (po_none.run pins s2 σ H2 (fun o H3 => o = none ∧ H3 = H2) I2 ⟨rfl, rfl⟩) fun vu s3 ⟨u, H3, I3, pu, eu, e3⟩ => ?_
  subst eu e3
  refine thn (hst.run pins s3 σ H3 (fun o H4 => o = some (-1) ∧ H4 = H3) I3 ⟨1, rfl, -1, rfl, rfl, rfl⟩) fun vs s4 ⟨o, H4, I4, ps, eo, e4⟩ => ?_
  subst eo e4
  have I5 : Inv X pins σ H4 { s4 with heap := s4.heap.push { cls := .type "slice", data := .fields #[vl, vu, vs] } } := I4.kept (t' := s4.toks) fun b ob q => Heap.get?_push_of_some _ q
  rcases q1 with ⟨a, xs, rfl, hx, q⟩ | ⟨a, xs, rfl, hx, q⟩
  · cases r1
    obtain ⟨its, r, ht, hz⟩ := I5.list hx
    have hlen := r.length
    show wpAny (model X.prog X.w) X.A (subscriptTail e (.Slice none none (some (.UnaryOp .USub (.Constant (.int 1) k p1) p2)) p3) (.ref a) (.ref s4.heap.objs.size)) (EP X pins σ Q) X.xe { s4 with heap := s4.heap.push { cls := .type "slice", data := .fields #[vl, vu, vs] } }
    refine tail_any (ops := [.ref a, .ref s4.heap.objs.size]) ht.isList.typeIs (PySem.slot_list_getitem.lookup) ?_ (by with_unfolding_all rfl)
    refine wpAny_getItem_list_slice ht.isList (Heap.IsSliceOf.new _ vl vu vs) pl pu ps (by decide) ?_ (by rw [List.size_toArray]; omega)
    rw [PySem.W.krv_pick]
    refine ⟨.ref _, _, I5.laid (t' := s4.toks) (o := .lst xs.reverse) (fun b ob q => Heap.get?_push_of_some _ q) (Nat.le_refl _) ?_, rfl, q _ (I5.hok.fresh (Nat.le_refl _))⟩
    exact ⟨by rw [List.length_reverse]; exact hz, _, 0, r.reverse, Heap.get?_push_size _ rfl⟩
  · cases r1
    obtain ⟨its, r, ht, hz⟩ := I5.tuple hx
    have hlen := r.length
    show wpAny (model X.prog X.w) X.A (subscriptTail e (.Slice none none (some (.UnaryOp .USub (.Constant (.int 1) k p1) p2)) p3) (.ref a) (.ref s4.heap.objs.size)) (EP X pins σ Q) X.xe { s4 with heap := s4.heap.push { cls := .type "slice", data := .fields #[vl, vu, vs] } }
    refine tail_any (ops := [.ref a, .ref s4.heap.objs.size]) ht.typeIs (PyProof.Rows.slot_tuple_getitem.lookup) ?_ (by with_unfolding_all rfl)
    refine getItem_tuple_rev ht (Heap.IsSliceOf.new _ vl vu vs) pl pu ps ?_ (by rw [List.size_toArray]; omega)
    refine ⟨.ref _, _, I5.laid (t' := s4.toks) (o := .tup xs.reverse) (fun b ob q => Heap.get?_push_of_some _ q) (Nat.le_refl _) ?_, rfl, q _ (I5.hok.fresh (Nat.le_refl _))⟩
    exact ⟨by rw [List.length_reverse]; exact hz, its.reverse, r.reverse, IsTup.new _ _⟩
theorem r_rev {k : Nat} {p1 p2 p3 : Pos} (hk : X.K = S.K) (ha : PE X e (tE S M0 E f)) : PE X (.Subscript e (.Slice none none (some (.UnaryOp .USub (.Constant (.int 1) k p1) p2)) p3) pos) (tE S M0 E (unF S.flds revD f)) :=
  PE.imp (pe_revS ha) fun σ H Q h => un_of (T := fun x H1 Q => (∃ a xs, x = .ref a ∧ SqL X.K H1 a xs ∧ ∀ p, H1 p = none → Q (.ref p) (upd H1 p (.lst xs.reverse))) ∨ ∃ a xs, x = .ref a ∧ SqT X.K H1 a xs ∧ ∀ p, H1 p = none → Q (.ref p) (upd H1 p (.tup xs.reverse))) (fun x H Q ⟨M, d, c, hd, hg, ht, k⟩ => by
    unfold revD at hg
    split at hg
    · cases hg
      obtain ⟨a, vs, rfl, r, l⟩ := hd.lst
      rw [← hk] at r
      exact .inl ⟨a, vs, rfl, r, fun p hp => k _ _ (.upd hp) ⟨p, _, rfl, .inl ⟨fresh_nm ht hp, .inl upd_same⟩, l.reverse.grow (.upd hp)⟩⟩
    · cases hg
      obtain ⟨a, vs, rfl, n, r, l⟩ := hd.tup
      exact .inr ⟨a, vs, rfl, .of r, fun p hp => k _ _ (.upd hp) ⟨p, _, rfl, fresh_nm ht hp, upd_same, l.reverse.grow (.upd hp)⟩⟩
    · cases hg) h
/-! ### slices -/
structure OF where
  r : Env' → (Option Int → Env' → Prop) → Exx → Prop
  m : ∀ {env P P' X X'}, (∀ e env', P e env' → P' e env') → (∀ c fs, X c fs → X' c fs) → r env P X → r env P' X'
def tO (S : Sg) (M0 : MS) (E : XK) (F : OF) : TO := fun σ H Q => ∃ B ow env, Sim S M0 B ow env σ H ∧
  F.r env (fun b env' => ∀ H' ow', Stp ow H ow' H' → Sim S M0 B ow' env' σ H' → Q b H') (XP S M0 E ow H)
def noO : OF where
  r := fun env P _ => P none env
  m := fun hp _ h => hp _ _ h
def someO (f : EF) : OF where
  r := fun env P X => f.r env (fun e env1 => ∃ i, e = .val (.int i) ∧ P (some i) env1) X
  m := fun hp hx h => f.m (fun e env1 ⟨i, q, h⟩ => ⟨i, q, hp _ _ h⟩) hx h
theorem PO.imp {X : Cx} {e : Option Expr} {t t' : TO} (h : PO X e t) (k : ∀ σ H Q, t' σ H Q → t σ H Q) : PO X e t' := ⟨fun p s σ H Q I q => h.run p s σ H Q I (k σ H Q q)⟩
theorem r_ono : PO X none (tO S M0 E noO) := PO.imp po_none fun σ H Q h => by
  obtain ⟨B, ow, env, s, h⟩ := h
  exact h H ow .refl s
theorem r_osome (h : PE X e (tE S M0 E f)) : PO X (some e) (tO S M0 E (someO f)) := PO.imp (po_some h) fun σ H Q h => by
  obtain ⟨B, ow, env, s, h⟩ := h
  refine ⟨B, ow, env, s, f.m (fun e1 env1 h1 v H1 ow1 st1 nw1 ok1 => ?_) (fun _ _ h => h) h⟩
  obtain ⟨i, rfl, h1⟩ := h1
  obtain ⟨s1, r1⟩ := ok1
  cases r1
  exact ⟨i, rfl, h1 H1 ow1 st1 s1⟩
def cutD (ds : List D) (lo hi : Option Int) : List D := (ds.drop (HT.sIx ds.length 0 lo)).take (HT.sIx ds.length ds.length hi - HT.sIx ds.length 0 lo)
def slD : D → Option Int → Option Int → Option D
  | .lst ds, lo, hi => some (.lst (cutD ds lo hi))
  | .tup ds, lo, hi => some (.tup (cutD ds lo hi))
  | .nms xs, lo, hi => if HT.sIx xs.length 0 lo = 0 ∧ HT.sIx xs.length xs.length hi = xs.length then some (.nms xs) else some (.tup (cutD (xs.map .str) lo hi))
  | .str z, lo, hi => if z.length ≤ sizeLine then some (.str (Txt.slice z lo hi)) else none
  | _, _, _ => none
def slF (F : Nat → List Str) (f : EF) (lo hi : OF) : EF where
  r := fun env P X => f.r env (fun e env1 => ∃ e', e.settle F = some e' ∧ lo.r env1 (fun i env2 => hi.r env2 (fun j env3 => ∃ d c, e'.rd F env3 = some d ∧ slD d i j = some c ∧ P (.val c) env3) X) X) X
  m := fun hp hx h => f.m (fun e env1 ⟨e', q, h⟩ => ⟨e', q, lo.m (fun i env2 h => hi.m (fun j env3 ⟨d, c, h1, h2, h3⟩ => ⟨d, c, h1, h2, hp _ _ h3⟩) hx h) hx h⟩) hx h
theorem cut_v {M : MS} {H : Hp} {ds : List D} {vs : List V} (lo hi : Option Int) (l : RepL S M H ds vs) : RepL S M H (cutD ds lo hi) (cutV vs lo hi) := by
  unfold cutD cutV
  rw [← l.len]
  exact RepL.take 0 l.drop
theorem r_sl {lo hi : Option Expr} {ol oh : OF} {p2 : Pos} (hk : X.K = S.K) (ha : PE X e (tE S M0 E f)) (hl : PO X lo (tO S M0 E ol)) (hh : PO X hi (tO S M0 E oh)) : PE X (.Subscript e (.Slice lo hi none p2) pos) (tE S M0 E (slF S.flds f ol oh)) :=
  PE.imp (pe_slice (sl_list.or (sl_tupA.or C8.sl_txt)) ha hl hh) fun σ H Q h => by
    obtain ⟨B, ow, env, s, h⟩ := h
    refine ⟨B, ow, env, s, f.m (fun e1 env1 h1 v H1 ow1 st1 nw1 ok1 => ?_) (fun _ _ h => h) h⟩
    obtain ⟨e', q, h1⟩ := h1
    have ok1' := ok1.settle q
    have s1 := ok1'.sim (EV.settle_old q)
    refine ⟨B, ow1, env1, s1, ol.m (fun i env2 h2 H2 ow2 st2 s2 => ?_) (fun _ _ h => h.stp st1) h1⟩
    refine ⟨B, ow2, env2, s2, oh.m (fun j env3 h3 H3 ow3 st3 s3 => ?_) (fun _ _ h => h.stp (st1.trans st2)) h2⟩
    obtain ⟨d, c, k1, k2, k3⟩ := h3
    have st := (st1.trans st2).trans st3
    have hd := ok1'.rd (st2.trans st3) s3 k1
    have fin : ∀ w H', Grow H3 H' → Rep S (Md B ow3) H' c w → Q w H' := fun w H' g r => k3 w H' ow3 (st.trans (.grow g)) trivial ⟨s3.grow g, r⟩
    unfold slD at k2
    split at k2
    · cases k2
      obtain ⟨a, vs, rfl, r, l⟩ := hd.lst
      rw [← hk] at r
      exact .inl ⟨a, vs, rfl, r, fun p hp => fin _ _ (.upd hp) ⟨p, _, rfl, .inl ⟨fresh_nm s3.trkA hp, .inl upd_same⟩, (cut_v i j l).grow (.upd hp)⟩⟩
    · cases k2
      obtain ⟨a, vs, rfl, n, r, l⟩ := hd.tup
      refine .inr (.inl ⟨a, vs, rfl, .of r, fun hw => ?_, fun hw p hp => fin _ _ (.upd hp) ⟨p, _, rfl, fresh_nm s3.trkA hp, upd_same, (cut_v i j l).grow (.upd hp)⟩⟩)
      refine fin _ H3 .rfl' ⟨a, vs, rfl, n, r, ?_⟩
      rename_i ds
      have : cutD ds i j = ds := by
        unfold cutD
        rw [l.len, hw.1, hw.2, List.drop_zero, Nat.sub_zero, ← l.len, List.take_length]
      rw [this]
      exact l
    · skip
      obtain ⟨a, ob, rfl, n, r, z⟩ := hd
      refine .inr (.inl ⟨a, _, rfl, .inl (.inr ⟨ob, r⟩), fun hw => ?_, fun hw p hp => ?_⟩)
      · rw [List.length_map] at hw
        rw [if_pos hw] at k2
        cases k2
        exact fin _ H3 .rfl' ⟨a, ob, rfl, n, r, z⟩
      · rw [List.length_map] at hw
        rw [if_neg hw] at k2
        cases k2
        exact fin _ _ (.upd hp) ⟨p, _, rfl, fresh_nm s3.trkA hp, upd_same, (cut_v _ _ (strs_rep _)).grow (.upd hp)⟩
    · split at k2
      · rename_i hz
        cases k2; cases hd
        exact .inr (.inr ⟨_, rfl, hz, fin _ H3 .rfl' rfl⟩)
      · cases k2
    · cases k2
end
end En
set_option Elab.async false
set_option linter.all false
set_option maxRecDepth 100000
namespace En
open PySem PySem.Spec PyProof.Rows L2
section
variable {X : Cx} {S : Sg} {M0 B : MS} {E : XK} {ow : OW} {env : Env'} {σ : L2.St} {H : Hp}
def Slot.put : Slot → Ob → Slot
  | .own _, o => .own o
  | .io _, o => .io o
  | s, _ => s
theorem RepL.upd_at {M : MS} {a : Addr} {ho : HO} {ds : List D} {vs : List V} (ha : M a) (l : RepL S M H ds vs) : RepL S M (upd H a ho) ds vs :=
  RepL.move (fun b o _ n e => ⟨by rw [upd_ne (fun z => n (by rw [z]; exact ha))]; exact e, n⟩) _ _ l
theorem Rep.upd_at {M : MS} {a : Addr} {ho : HO} {ds : D} {vs : V} (ha : M a) (l : Rep S M H ds vs) : Rep S M (upd H a ho) ds vs :=
  Rep.move (fun b o _ n e => ⟨by rw [upd_ne (fun z => n (by rw [z]; exact ha))]; exact e, n⟩) _ _ l
/-- one of ours changes -/
theorem Sim.put {i : Nat} {sl : Slot} {o o' : Ob} {a : Addr} {ho : HO} (s : Sim S M0 B ow env σ H) (e : env[i]? = some sl) (q : sl.ob = some o) (ha : ow[i]? = some (some a)) (r : ObRep S (Md B ow) (upd H a ho) a o') :
    Sim S M0 B ow (env.set i (sl.put o')) σ (upd H a ho) ∧ Stp ow H ow (upd H a ho) := by
  have hm : some a ∈ ow := List.mem_of_getElem? ha
  have mv : ∀ b o, Nt o → ¬ Md B ow b → H b = some o → (upd H a ho) b = some o ∧ ¬ Md B ow b := fun b o _ n e => ⟨by rw [upd_ne (fun z => n (.inr (by rw [z]; exact hm)))]; exact e, n⟩
  have hi : i < env.length := (List.getElem?_eq_some_iff.mp e).1
  have htb : ∀ b ps, H b = some (.tbl ps) → upd H a ho b = some (.tbl ps) := by
    obtain ⟨b, h1, _, h3⟩ := s.slot e q
    rw [ha] at h1; cases h1
    obtain ⟨u, h4, h5, h6⟩ := ob_is h3
    exact tbl_upd h4 h5
  refine ⟨?_, fun b o _ n e => by rw [upd_ne (fun z => n (by rw [z]; exact hm))]; exact e, fun _ _ h => .inl h, fun b o e => by
    by_cases h : b = a
    · exact ⟨ho, by rw [h]; exact upd_same⟩
    · exact ⟨o, by rw [upd_ne h]; exact e⟩⟩
  have nval : ∀ d, sl.put o' ≠ .val d := fun d z => by cases sl <;> cases q <;> cases z
  have other : ∀ {j : Nat} {b : Addr}, j ≠ i → ow[j]? = some (some b) → b ≠ a := fun {j b} hj hb z => hj (s.inj j i a (by rw [← z]; exact hb) ha)
  exact {
    l1 := by rw [List.length_set]; exact s.l1
    l2 := s.l2
    val := fun j d ej => by
      by_cases hj : j = i
      · subst hj
        rw [List.getElem?_set_self hi] at ej
        exact absurd (Option.some.inj ej) (nval d)
      · rw [List.getElem?_set_ne (Ne.symm hj)] at ej
        obtain ⟨v, h1, h2⟩ := s.val j d ej
        exact ⟨v, h1, Rep.move mv _ _ h2⟩
    own := fun j oj ej => by
      by_cases hj : j = i
      · subst hj
        rw [List.getElem?_set_self hi] at ej
        cases sl with
        | own o0 =>
          cases ej
          obtain ⟨b, h1, h2, h3, h4⟩ := s.own j o0 e
          rw [ha] at h1; cases h1
          exact ⟨a, ha, h2, r, h4⟩
        | io o0 => cases ej
        | un => cases q
        | val d => cases q
      · rw [List.getElem?_set_ne (Ne.symm hj)] at ej
        obtain ⟨b, h1, h2, h3, h4⟩ := s.own j oj ej
        exact ⟨b, h1, h2, h3.move (fun u _ z => by rw [upd_ne (other hj h1)]; exact z) mv, h4⟩
    io := fun j oj ej => by
      by_cases hj : j = i
      · subst hj
        rw [List.getElem?_set_self hi] at ej
        cases sl with
        | io o0 =>
          cases ej
          obtain ⟨b, h1, h2, h3⟩ := s.io j o0 e
          rw [ha] at h1; cases h1
          exact ⟨a, ha, h2, r⟩
        | own o0 => cases ej
        | un => cases q
        | val d => cases q
      · rw [List.getElem?_set_ne (Ne.symm hj)] at ej
        obtain ⟨b, h1, h2, h3⟩ := s.io j oj ej
        exact ⟨b, h1, h2, h3.move (fun u _ z => by rw [upd_ne (other hj h1)]; exact z) mv⟩
    live := fun j b hb => by
      obtain ⟨oj, h⟩ := s.live j b hb
      by_cases hj : j = i
      · subst hj
        rw [List.getElem?_set_self hi]
        cases sl with
        | own o0 => exact ⟨o', .inl rfl⟩
        | io o0 => exact ⟨o', .inr rfl⟩
        | un => cases q
        | val d => cases q
      · rw [List.getElem?_set_ne (Ne.symm hj)]
        exact ⟨oj, h⟩
    inj := s.inj
    dis := s.dis
    trk := fun b hb => by
      have nb : b ≠ a := fun z => s.dis b hb (by rw [z]; exact hm)
      rw [upd_ne nb]
      exact s.trk b hb
    m0 := s.m0
    tb := s.tb.move mv htb }
variable {a b c e o : Expr} {es : List Expr} {f f2 f3 : EF} {pos p : Pos} {x y : Str} {bi T : String} {l : LF}
/-! ### join, index -/
def strsD? : List D → Option (List Str)
  | [] => some []
  | .str x :: ds => (strsD? ds).map (x :: ·)
  | _ => none
theorem strs_v {M : MS} {H : Hp} : ∀ {ds : List D} {vs : List V} {bs : List Str}, RepL S M H ds vs → strsD? ds = some bs → vs = bs.map V.str
  | [], _, _, h, e => by cases h; cases e; rfl
  | .str b :: ds, _, bs, h, e => by
    obtain ⟨v, r, rfl, h1, h2⟩ := h
    obtain ⟨bs', e1, rfl⟩ := Option.map_eq_some_iff.mp (show (strsD? ds).map (b :: ·) = some bs from e)
    cases h1
    rw [strs_v h2 e1]; rfl
  | .non :: _, _, _, _, e => by cases e
  | .int _ :: _, _, _, _, e => by cases e
  | .bl _ :: _, _, _, _, e => by cases e
  | .tup _ :: _, _, _, _, e => by cases e
  | .lst _ :: _, _, _, _, e => by cases e
  | .dK _ _ :: _, _, _, _, e => by cases e
  | .dT _ _ :: _, _, _, _, e => by cases e
  | .ins _ _ :: _, _, _, _, e => by cases e
  | .nms _ :: _, _, _, _, e => by cases e
  | .fn _ _ :: _, _, _, _, e => by cases e
  | .exc _ _ :: _, _, _, _, e => by cases e
def joinD (z : Str) : D → Option D
  | .lst ds => (strsD? ds).bind fun xs => if (xs.map (·.length)).sum + xs.length * z.length ≤ 16777216 then some (.str (Txt.join z xs)) else none
  | _ => none
theorem r_join {z : Str} {k : Nat} {p1 apos : Pos} (hk : X.K = S.K) (ha : PE X e (tE S M0 E f)) (hs : starEach [e] X.env = [(false, eval e X.env)] := by rfl) (hbase : attributeBase (.Constant (.str z) k p1) "join" X.env (eval (.Constant (.str z) k p1) X.env) = eval (.Constant (.str z) k p1) X.env := by rfl) (hline : (apos.endLine == pos.line) = true := by rfl) :
    PE X (.Call (.Attribute (.Constant (.str z) k p1) "join" apos) [e] [] pos) (tE S M0 E (unF S.flds (joinD z) f)) :=
  PE.imp (pe_join pe_str ha hs hbase hline) fun σ H Q h => ⟨⟨_, rfl⟩, un_of (T := fun y H2 Q => ∃ a p, ∃ ys : List Str, V.str z = .str a ∧ [y] = [.ref p] ∧ (SqL X.K H2 p (ys.map V.str) ∨ SqT X.K H2 p (ys.map V.str)) ∧ (ys.map (·.length)).sum + ys.length * a.length ≤ 16777216 ∧ Q (.str (Txt.join a ys)) H2) (fun x H Q ⟨M, d, c, hd, hg, ht, k⟩ => by
    unfold joinD at hg
    split at hg
    · obtain ⟨xs, h1, h2⟩ := Option.bind_eq_some_iff.mp hg
      split at h2
      · rename_i hz
        cases h2
        obtain ⟨a, vs, rfl, r, l⟩ := hd.lst
        rw [← hk, strs_v l h1] at r
        exact ⟨z, a, xs, rfl, rfl, .inl r, hz, k _ H .rfl' rfl⟩
      · cases h2
    · cases hg) h⟩
def idxB (p : D → Bool) : List D → Nat → Option Nat
  | [], _ => none
  | d :: ds, n => if p d then some n else idxB p ds (n + 1)
theorem idxB_spec {p : D → Bool} : ∀ {ds : List D} {n j : Nat}, idxB p ds n = some j → n ≤ j ∧ (∃ d, ds[j - n]? = some d ∧ p d = true) ∧ ∀ m d, m < j - n → ds[m]? = some d → p d = false
  | [], n, j, h => by cases h
  | d :: ds, n, j, h => by
    unfold idxB at h
    split at h
    · rename_i hp
      cases h
      refine ⟨Nat.le_refl _, ⟨d, by simp, hp⟩, fun m d' hm _ => by omega⟩
    · rename_i hp
      obtain ⟨h1, ⟨d', h2, h3⟩, h4⟩ := idxB_spec h
      have e : j - n = (j - (n + 1)) + 1 := by omega
      refine ⟨by omega, ⟨d', by rw [e]; simpa using h2, h3⟩, fun m d'' hm hd => ?_⟩
      cases m with
      | zero => simp at hd; subst hd; simpa using hp
      | succ m => exact h4 m d'' (by omega) (by simpa using hd)
def idxD : D → D → Option D
  | .nms xs, .str z => (idxB (fun d => eqB d (.str z)) (xs.map .str) 0).map fun j : Nat => D.int (j : Int)
  | .lst ds, d => if flatD d && ds.all flatD then (idxB (fun z => eqB z d) ds 0).map fun j : Nat => D.int (j : Int) else none
  | _, _ => none
theorem eqB_str (x z : Str) : eqB (.str x) (.str z) = (x == z) := by simp [eqB, D.py, PyData.eqv]
def idxF (F : Nat → List Str) (f f2 : EF) : EF where
  r := fun env P X => f.r env (fun e env1 => ∃ d, e.keep F = some d ∧ f2.r env1 (fun e2 env2 => ∃ e2', e2.settle F = some e2' ∧ ∃ d2 c, e2'.rd F env2 = some d2 ∧ idxD d d2 = some c ∧ P (.val c) env2) X ∧ ((∃ xs, d = .nms xs) ∨ ∃ ds, d = .lst ds)) X
  m := fun hp hx h => f.m (fun e env1 ⟨d, q, h, z⟩ => ⟨d, q, f2.m (fun e2 env2 ⟨e2', q2, d2, c, h2, h3, h4⟩ => ⟨e2', q2, d2, c, h2, h3, hp _ _ h4⟩) hx h, z⟩) hx h
theorem mt_idx (hk : X.K = S.K) {M : MS} {H : Hp} {pins : List (Addr × Obj)} {s : Shared} {x y : V} {u w : Value} {d d2 c : D} {Q : VK} (I : Inv X pins σ H s) (rx : RelV x u) (ry : RelV y w) (hd : RepT S M H d x) (hd2 : RepT S M H d2 y) (hg : idxD d d2 = some c) (k : ∀ j, c = .int j → Q (.int j) H) :
    (∃ xs, d = .nms xs) ∧ wpAny (model X.prog X.w) X.A (call (.builtin "tuple.index") [u, w]) (EP X pins σ Q) X.xe s ∨ (∃ ds, d = .lst ds) ∧ wpAny (model X.prog X.w) X.A (call (.builtin "list.index") [u, w]) (EP X pins σ Q) X.xe s := by
  unfold idxD at hg
  split at hg
  · rename_i xs z
    left
    obtain ⟨j, h1, rfl⟩ := Option.map_eq_some_iff.mp hg
    obtain ⟨_, ⟨d', h2, h3⟩, h4⟩ := idxB_spec h1
    rw [Nat.sub_zero] at h2 h4
    rw [List.getElem?_map] at h2
    obtain ⟨z', h5, rfl⟩ := Option.map_eq_some_iff.mp h2
    rw [eqB_str] at h3
    obtain ⟨a, ob, rfl, _, r, _⟩ := hd
    cases hd2
    refine ⟨⟨xs, rfl⟩, mt_tup_index pins s σ H _ _ u [w] Q I rx (.cons ry .nil) ⟨a, xs, z, j, rfl, rfl, .inl (.inr ⟨ob, r⟩), by rw [h5, beq_iff_eq.mp h3], fun m hm hx => ?_, k _ rfl⟩⟩
    have := h4 m (.str z) hm (by rw [List.getElem?_map, hx]; rfl)
    rw [eqB_str] at this
    simp at this
  · rename_i ds
    split at hg
    · rename_i hf
      right
      rw [Bool.and_eq_true] at hf
      obtain ⟨j, h1, rfl⟩ := Option.map_eq_some_iff.mp hg
      obtain ⟨_, ⟨d', h2, h3⟩, h4⟩ := idxB_spec h1
      rw [Nat.sub_zero] at h2 h4
      obtain ⟨a, vs, rfl, r, l⟩ := hd.lst
      obtain ⟨v', e1, e2⟩ := l.get h2
      have hall := hf.2
      rw [List.all_eq_true] at hall
      have fl : ∀ m d, ds[m]? = some d → flatD d = true := fun m d h => hall d (List.mem_of_getElem? h)
      rw [← hk] at r
      refine ⟨⟨ds, rfl⟩, mt_index pins s σ H _ _ u [w] Q I rx (.cons ry .nil) ⟨a, vs, y, j, v', rfl, rfl, r, flat_v hd2 hf.1, (any_flat hd2 hf.1 l hf.2).1, e1, ?_, fun m v2 hm hv => ?_, k _ rfl⟩⟩
      · rw [eqv_flat e2.top hd2 (fl _ _ h2) hf.1]; exact h3
      · have hml : m < ds.length := by
          have := (List.getElem?_eq_some_iff.mp hv).1
          rw [l.len]; exact this
        have hdm : ds[m]? = some ds[m] := List.getElem?_eq_getElem hml
        rw [eqv_flat (l.get2 hdm hv).top hd2 (fl _ _ hdm) hf.1]
        exact h4 m _ hm hdm
    · cases hg
  · cases hg
theorem r_idx {apos : Pos} (hk : X.K = S.K) (ho : PE X o (tE S M0 E f)) (ha : PE X e (tE S M0 E f2))
    (hbase : attributeBase o "index" X.env (eval o X.env) = eval o X.env := by rfl)
    (hfew : ((backTo pos (starEach [e] X.env)).all (fun x => !x.1) && (backToKw pos (keywordEach [] X.env)).all (fun x => x.1.isSome)
      && decide ([e].length + ([] : List Keyword).length + (if ([] : List Keyword).isEmpty then 0 else 1) < 30)) = true := by rfl)
    (hline : (apos.endLine == pos.line) = true := by rfl) (hs : starEach [e] X.env = (false, eval e X.env) :: starEach [] X.env := by rfl) (hplain : (backTo pos (starEach [] X.env)).any (·.1) = false := by rfl) :
    PE X (.Call (.Attribute o "index" apos) [e] [] pos) (tE S M0 E (idxF S.flds f f2)) := by
  refine ⟨fun pins s σ H Q I h => ?_⟩
  obtain ⟨B, ow, env, sm, h⟩ := h
  refine wpAny_Call_method_late hbase hfew hline rfl (thn (ho.run pins s σ H (fun x H1 => ∃ ow1 env1 d, Stp ow H ow1 H1 ∧ Sim S M0 B ow1 env1 σ H1 ∧ Rep S (Md B ow1) H1 d x ∧ ((∃ xs, d = .nms xs) ∨ ∃ ds, d = .lst ds) ∧
    f2.r env1 (fun e2 env2 => ∃ e2', e2.settle S.flds = some e2' ∧ ∃ d2 c, e2'.rd S.flds env2 = some d2 ∧ idxD d d2 = some c ∧ ∀ v H' ow', Stp ow H ow' H' → Nw H (.val c) v → EVOk S M0 B ow' env2 σ H' (.val c) v → Q v H') (XP S M0 E ow H)) I
    ⟨B, ow, env, sm, f.m (fun e1 env1 h1 v H1 ow1 st1 nw1 ok1 => by
      obtain ⟨d, q, h1, z⟩ := h1
      obtain ⟨k1, k2⟩ := ok1.keep q
      exact ⟨ow1, env1, d, st1, k1, k2, z, h1⟩) (fun _ _ h => h) h⟩) fun v s1 ⟨x, H1, I1, r1, ow1, env1, d, st1, sm1, hd, hz, h1⟩ => ?_)
  have hA := (pa_cons (X := X) ha pa_nil hs).run pos pins s1 σ H1 (fun ys H2 => ∃ y ow2 env2 e2', ys = [y] ∧ Stp ow1 H1 ow2 H2 ∧ EVOk S M0 B ow2 env2 σ H2 e2' y ∧ e2'.old ∧
    ∃ d2 c, e2'.rd S.flds env2 = some d2 ∧ idxD d d2 = some c ∧ ∀ v H' ow', Stp ow H ow' H' → Nw H (.val c) v → EVOk S M0 B ow' env2 σ H' (.val c) v → Q v H') I1
    ⟨B, ow1, env1, sm1, f2.m (fun e2 env2 h2 u H2 ow2 st2 nw2 ok2 => by
      obtain ⟨e2', q2, h2⟩ := h2
      exact ⟨u, ow2, env2, e2', rfl, st2, ok2.settle q2, EV.settle_old q2, h2⟩) (fun _ _ h => h.stp st1) h1⟩
  have fin : ∀ us s2, (∃ ys H2, Inv X pins σ H2 s2 ∧ Vals ys us ∧ ∃ y ow2 env2 e2', ys = [y] ∧ Stp ow1 H1 ow2 H2 ∧ EVOk S M0 B ow2 env2 σ H2 e2' y ∧ e2'.old ∧
      ∃ d2 c, e2'.rd S.flds env2 = some d2 ∧ idxD d d2 = some c ∧ ∀ v H' ow', Stp ow H ow' H' → Nw H (.val c) v → EVOk S M0 B ow' env2 σ H' (.val c) v → Q v H') →
      ∃ w, us = [w] ∧ ((∃ xs, d = .nms xs) ∧ wpAny (model X.prog X.w) X.A (call (.builtin "tuple.index") [v, w]) (EP X pins σ Q) X.xe s2 ∨ (∃ ds, d = .lst ds) ∧ wpAny (model X.prog X.w) X.A (call (.builtin "list.index") [v, w]) (EP X pins σ Q) X.xe s2) := by
    rintro us s2 ⟨ys, H2, I2, rv, y, ow2, env2, e2', rfl, st2, ok2, old, d2, c, k1, k2, k3⟩
    obtain ⟨w, rfl, rw'⟩ := rv.one
    have sm2 := ok2.sim old
    refine ⟨w, rfl, mt_idx hk I2 r1 rw' (Rep.stp st2 hd).top (ok2.rd .refl sm2 k1) k2 fun j ej => ?_⟩
    subst ej
    exact k3 _ H2 ow2 (st1.trans st2) trivial ⟨sm2, rfl⟩
  rcases hz with ⟨xs, rfl⟩ | ⟨ds, rfl⟩
  · obtain ⟨a, ob, rfl, _, r, hdn⟩ := hd
    cases r1
    obtain ⟨he, _, _, _, ⟨o', ho', hc', _⟩⟩ := I1.hok a _ r
    rw [he] at ho'; cases ho'
    refine ⟨"tuple", "tuple.index", PySem.F.plainAttrs_tuple, PySem.F.slot_tuple_index, PySem.F.type_tuple_index, ⟨ob, he, hc'⟩, fun b e => ?_, ?_⟩
    · cases e; exact ⟨ob, he, hdn⟩
    rw [hs] at hA ⊢
    refine Calls.callWith_builtin (by show (false || (backTo pos (starEach [] X.env)).any (·.1)) = false; rw [hplain] <;> rfl) (Calls.evalArgs_plain ?_)
    refine thn hA fun us s2 h2 => ?_
    obtain ⟨w, rfl, hw⟩ := fin us s2 h2
    rcases hw with ⟨_, hw⟩ | ⟨⟨ds, z⟩, _⟩
    · exact hw
    · cases z
  · obtain ⟨a, vs, rfl, r, _⟩ := hd
    cases r1
    have r' := r.seq
    rw [← hk] at r'
    obtain ⟨its, _, ⟨ob, n, e1, e2, e3, e4⟩, _⟩ := I1.list r'
    refine ⟨"list", "list.index", PySem.F.plainAttrs_list, PySem.F.slot_list_index, PySem.F.type_list_index, ⟨ob, e1, e2⟩, fun b e => ?_, ?_⟩
    · cases e; exact ⟨ob, e1, e3⟩
    rw [hs] at hA ⊢
    refine Calls.callWith_builtin (by show (false || (backTo pos (starEach [] X.env)).any (·.1)) = false; rw [hplain] <;> rfl) (Calls.evalArgs_plain ?_)
    refine thn hA fun us s2 h2 => ?_
    obtain ⟨w, rfl, hw⟩ := fin us s2 h2
    rcases hw with ⟨⟨ds, z⟩, _⟩ | ⟨_, hw⟩
    · cases z
    · exact hw
/-- tuple(x) whose items are texts -/
def tupN : D → Option D
  | .lst ds => (strsD? ds).map .nms
  | .nms xs => some (.nms xs)
  | _ => none
/-! ### two ints -/
def maxD : D → D → Option D
  | .int i, .int j => some (.int (if j > i then j else i))
  | _, _ => none
def minD : D → D → Option D
  | .int i, .int j => some (.int (if j < i then j else i))
  | _, _ => none
theorem two_of {g : D → D → Option D} {R : List V → Hp → VK → Prop}
    (hR : ∀ x y H Q, (∃ M d e c, RepT S M H d x ∧ RepT S M H e y ∧ g d e = some c ∧ (∀ a, M a → ∃ u, H a = some u) ∧ ∀ v H', Grow H H' → Rep S M H' c v → Q v H') → R [x, y] H Q)
    {σ : L2.St} {H : Hp} {Q : VK} (h : tE S M0 E (binF S.flds g f f2) σ H Q) : tCB R (tCons (tE S M0 E f) (tCons (tE S M0 E f2) tNil)) σ H Q := bin_of (R := fun x y H Q => R [x, y] H Q) hR h
theorem r_max (hc : X.calm = true) (hm : X.mg "max" = none) (ha : PE X a (tE S M0 E f)) (hb : PE X b (tE S M0 E f2)) (hg : Gl X "max" := by rfl) (he : starEach [a, b] X.env = (false, eval a X.env) :: starEach [b] X.env := by rfl) (he2 : starEach [b] X.env = (false, eval b X.env) :: starEach [] X.env := by rfl)
    (hpl : (backTo pos (starEach [b] X.env)).any (·.1) = false := by rfl) : PE X (.Call (.Name "max" p) [a, b] [] pos) (tE S M0 E (binF S.flds maxD f f2)) :=
  PE.imp (pe_callB (call_max2 hc) hg hm (by decide +kernel) (pa_cons ha (pa_cons hb pa_nil he2) he) (by decide) (by decide) he hpl) fun σ H Q h => two_of (fun x y H Q ⟨M, d, e, c, hd, he, hg, ht, k⟩ => by
    unfold maxD at hg
    split at hg
    · cases hg; cases hd; cases he
      exact ⟨_, _, rfl, k _ H .rfl' rfl⟩
    · cases hg) h
theorem r_min (hc : X.calm = true) (hm : X.mg "min" = none) (ha : PE X a (tE S M0 E f)) (hb : PE X b (tE S M0 E f2)) (hg : Gl X "min" := by rfl) (he : starEach [a, b] X.env = (false, eval a X.env) :: starEach [b] X.env := by rfl) (he2 : starEach [b] X.env = (false, eval b X.env) :: starEach [] X.env := by rfl)
    (hpl : (backTo pos (starEach [b] X.env)).any (·.1) = false := by rfl) : PE X (.Call (.Name "min" p) [a, b] [] pos) (tE S M0 E (binF S.flds minD f f2)) :=
  PE.imp (pe_callB (call_min2 hc) hg hm (by decide +kernel) (pa_cons ha (pa_cons hb pa_nil he2) he) (by decide) (by decide) he hpl) fun σ H Q h => two_of (fun x y H Q ⟨M, d, e, c, hd, he, hg, ht, k⟩ => by
    unfold minD at hg
    split at hg
    · cases hg; cases hd; cases he
      exact ⟨_, _, rfl, k _ H .rfl' rfl⟩
    · cases hg) h
end
end En
set_option Elab.async false
set_option linter.all false
set_option maxRecDepth 100000
namespace En
open PySem PySem.Spec PyProof.Rows L2
section
variable {X : Cx} {S : Sg} {M0 B : MS} {E : XK} {ow ow0 : OW} {env : Env'} {σ : L2.St} {H H0 : Hp}
def Slot.isIo : Slot → Bool
  | .io _ => true
  | _ => false
theorem mem_set {i : Nat} {x : Option Addr} {b : Addr} (h : some b ∈ ow.set i x) : some b ∈ ow ∨ x = some b := by
  rcases List.mem_or_eq_of_mem_set h with z | z
  · exact .inl z
  · exact .inr z.symm
theorem md_set {i : Nat} : ∀ b, Md B (ow.set i none) b → Md B ow b := fun b h => h.elim .inl fun z => .inr ((mem_set z).elim (fun z => z) fun z => by cases z)
theorem Stp.setNone {i : Nat} (st : Stp ow0 H0 ow H) : Stp ow0 H0 (ow.set i none) H := ⟨st.kp, fun j a h => by
  by_cases hj : i = j
  · subst hj
    by_cases hi : i < ow.length
    · rw [List.getElem?_set_self hi] at h; cases h
    · rw [List.getElem?_eq_none (by simpa using hi)] at h; cases h
  · rw [List.getElem?_set_ne hj] at h; exact st.nwp j a h, st.gr⟩
theorem Stp.setNew {i : Nat} {a : Addr} (st : Stp ow0 H0 ow H) (hf : H0 a = none) : Stp ow0 H0 (ow.set i (some a)) H := ⟨st.kp, fun j b h => by
  by_cases hj : i = j
  · subst hj
    by_cases hi : i < ow.length
    · rw [List.getElem?_set_self hi] at h; cases h; exact .inr hf
    · rw [List.getElem?_eq_none (by simpa using hi)] at h; cases h
  · rw [List.getElem?_set_ne hj] at h; exact st.nwp j b h, st.gr⟩
theorem Sim.m0i {i : Nat} {sl : Slot} {a : Addr} (s : Sim S M0 B ow env σ H) (e : env[i]? = some sl) (n : sl.isIo = false) (ha : ow[i]? = some (some a)) : ¬ M0 a := by
  obtain ⟨o, q⟩ := s.live i a ha
  rcases q with q | q
  · obtain ⟨b, h1, _, _, h4⟩ := s.own i o q
    rw [ha] at h1; cases h1; exact h4
  · rw [e] at q; cases q; cases n
/-- a slot is stored: a value, or nothing -/
theorem Sim.setV {i : Nat} {w : Option V} {sl sl' : Slot} (s : Sim S M0 B ow env σ H) (e : env[i]? = some sl) (n : sl.isIo = false) (h : sl' = .un ∨ ∃ d v, sl' = .val d ∧ w = some v ∧ Rep S (Md B (ow.set i none)) H d v) :
    Sim S M0 B (ow.set i none) (env.set i sl') (σ.set i w) H := by
  have hi : i < env.length := (List.getElem?_eq_some_iff.mp e).1
  have hi2 : i < σ.length := by rw [← s.l1]; exact hi
  have hi3 : i < ow.length := by rw [s.l2]; exact hi2
  have mv : ∀ b o, Nt o → ¬ Md B ow b → H b = some o → H b = some o ∧ ¬ Md B (ow.set i none) b := fun b o _ n e => ⟨e, fun z => n (md_set b z)⟩
  exact {
    l1 := by rw [List.length_set, List.length_set]; exact s.l1
    l2 := by rw [List.length_set, List.length_set]; exact s.l2
    val := fun j d ej => by
      by_cases hj : i = j
      · subst hj
        rw [List.getElem?_set_self hi] at ej
        rw [List.getElem?_set_self hi2]
        rcases h with rfl | ⟨d', v, rfl, rfl, r⟩
        · cases ej
        · cases ej; exact ⟨v, rfl, r⟩
      · rw [List.getElem?_set_ne hj] at ej
        rw [List.getElem?_set_ne hj]
        obtain ⟨v, h1, h2⟩ := s.val j d ej
        exact ⟨v, h1, Rep.move mv _ _ h2⟩
    own := fun j o ej => by
      by_cases hj : i = j
      · subst hj
        rw [List.getElem?_set_self hi] at ej
        rcases h with rfl | ⟨d', v, rfl, rfl, r⟩ <;> cases ej
      · rw [List.getElem?_set_ne hj] at ej
        rw [List.getElem?_set_ne hj, List.getElem?_set_ne hj]
        obtain ⟨a, h1, h2, h3, h4⟩ := s.own j o ej
        exact ⟨a, h1, h2, h3.move (fun _ _ z => z) mv, h4⟩
    io := fun j o ej => by
      by_cases hj : i = j
      · subst hj
        rw [List.getElem?_set_self hi] at ej
        rcases h with rfl | ⟨d', v, rfl, rfl, r⟩ <;> cases ej
      · rw [List.getElem?_set_ne hj] at ej
        rw [List.getElem?_set_ne hj, List.getElem?_set_ne hj]
        obtain ⟨a, h1, h2, h3⟩ := s.io j o ej
        exact ⟨a, h1, h2, h3.move (fun _ _ z => z) mv⟩
    live := fun j a ha => by
      by_cases hj : i = j
      · subst hj
        rw [List.getElem?_set_self hi3] at ha; cases ha
      · rw [List.getElem?_set_ne hj] at ha
        rw [List.getElem?_set_ne hj]
        exact s.live j a ha
    inj := fun j k a h1 h2 => by
      by_cases hj : i = j
      · subst hj
        rw [List.getElem?_set_self hi3] at h1; cases h1
      · by_cases hk : i = k
        · subst hk
          rw [List.getElem?_set_self hi3] at h2; cases h2
        · rw [List.getElem?_set_ne hj] at h1
          rw [List.getElem?_set_ne hk] at h2
          exact s.inj j k a h1 h2
    dis := fun a ha z => (mem_set z).elim (s.dis a ha) fun z => by cases z
    trk := s.trk
    tb := s.tb.anti md_set
    m0 := fun a ha => by
      rcases s.m0 a ha with z | z
      · exact .inl z
      · obtain ⟨j, hj, ej⟩ := List.getElem_of_mem z
        have ej' : ow[j]? = some (some a) := by rw [List.getElem?_eq_getElem hj, ej]
        by_cases hij : i = j
        · subst hij
          exact absurd ha (s.m0i e n ej')
        · refine .inr (List.mem_of_getElem? (i := j) ?_)
          rw [List.getElem?_set_ne hij]; exact ej' }
/-- a slot takes a new object -/
theorem Sim.setNew {i : Nat} {sl : Slot} {a : Addr} {o : Ob} (s : Sim S M0 (plus B a) ow env σ H) (na : ¬ Md B ow a) (n0 : ¬ M0 a) (r : ObRep S (Md (plus B a) ow) H a o) (e : env[i]? = some sl) (n : sl.isIo = false) :
    Sim S M0 B (ow.set i (some a)) (env.set i (.own o)) (σ.set i (some (.ref a))) H := by
  have hi : i < env.length := (List.getElem?_eq_some_iff.mp e).1
  have hi2 : i < σ.length := by rw [← s.l1]; exact hi
  have hi3 : i < ow.length := by rw [s.l2]; exact hi2
  have sub : ∀ b, Md B (ow.set i (some a)) b → Md (plus B a) ow b := fun b z => by
    rcases z with z | z
    · exact .inl (.inl z)
    · rcases mem_set z with z | z
      · exact .inr z
      · cases z; exact .inl (.inr rfl)
  have mv : ∀ b o, Nt o → ¬ Md (plus B a) ow b → H b = some o → H b = some o ∧ ¬ Md B (ow.set i (some a)) b := fun b o _ n e => ⟨e, fun z => n (sub b z)⟩
  have no : ∀ j, ow[j]? ≠ some (some a) := fun j z => na (.inr (List.mem_of_getElem? z))
  exact {
    l1 := by rw [List.length_set, List.length_set]; exact s.l1
    l2 := by rw [List.length_set, List.length_set]; exact s.l2
    val := fun j d ej => by
      by_cases hj : i = j
      · subst hj
        rw [List.getElem?_set_self hi] at ej
        cases ej
      · rw [List.getElem?_set_ne hj] at ej
        rw [List.getElem?_set_ne hj]
        obtain ⟨v, h1, h2⟩ := s.val j d ej
        exact ⟨v, h1, Rep.move mv _ _ h2⟩
    own := fun j o' ej => by
      by_cases hj : i = j
      · subst hj
        rw [List.getElem?_set_self hi] at ej
        cases ej
        rw [List.getElem?_set_self hi3, List.getElem?_set_self hi2]
        exact ⟨a, rfl, rfl, r.move (fun _ _ z => z) mv, n0⟩
      · rw [List.getElem?_set_ne hj] at ej
        rw [List.getElem?_set_ne hj, List.getElem?_set_ne hj]
        obtain ⟨b, h1, h2, h3, h4⟩ := s.own j o' ej
        exact ⟨b, h1, h2, h3.move (fun _ _ z => z) mv, h4⟩
    io := fun j o' ej => by
      by_cases hj : i = j
      · subst hj
        rw [List.getElem?_set_self hi] at ej
        cases ej
      · rw [List.getElem?_set_ne hj] at ej
        rw [List.getElem?_set_ne hj, List.getElem?_set_ne hj]
        obtain ⟨b, h1, h2, h3⟩ := s.io j o' ej
        exact ⟨b, h1, h2, h3.move (fun _ _ z => z) mv⟩
    live := fun j b hb => by
      by_cases hj : i = j
      · subst hj
        rw [List.getElem?_set_self hi]
        exact ⟨o, .inl rfl⟩
      · rw [List.getElem?_set_ne hj] at hb
        rw [List.getElem?_set_ne hj]
        exact s.live j b hb
    inj := fun j k b h1 h2 => by
      by_cases hj : i = j
      · subst hj
        by_cases hk : i = k
        · exact hk
        · rw [List.getElem?_set_self hi3] at h1; cases h1
          rw [List.getElem?_set_ne hk] at h2
          exact absurd h2 (no k)
      · rw [List.getElem?_set_ne hj] at h1
        by_cases hk : i = k
        · subst hk
          rw [List.getElem?_set_self hi3] at h2; cases h2
          exact absurd h1 (no j)
        · rw [List.getElem?_set_ne hk] at h2
          exact s.inj j k b h1 h2
    dis := fun b hb z => by
      rcases mem_set z with z | z
      · exact s.dis b (.inl hb) z
      · cases z; exact na (.inl hb)
    trk := fun b hb => s.trk b (.inl hb)
    tb := s.tb.anti sub
    m0 := fun b hb => by
      rcases s.m0 b hb with (z | z) | z
      · exact .inl z
      · subst z; exact absurd hb n0
      · obtain ⟨j, hj, ej⟩ := List.getElem_of_mem z
        have ej' : ow[j]? = some (some b) := by rw [List.getElem?_eq_getElem hj, ej]
        by_cases hij : i = j
        · subst hij
          exact absurd hb (s.m0i e n ej')
        · refine .inr (List.mem_of_getElem? (i := j) ?_)
          rw [List.getElem?_set_ne hij]; exact ej' }
theorem EVOk.simA {e : EV} {v : V} (h : EVOk S M0 B ow env σ H e v) : Sim S M0 B ow env σ H := by
  cases e with
  | val d => exact h.1
  | own i => exact h.1
  | new o =>
    have m := h.m0
    obtain ⟨a, rfl, n, n0, s, r⟩ := h
    exact s.anti (fun _ z => .inl z) m
/-- a value is stored in a slot -/
def putE (i : Nat) (e : EV) (env : Env') : Option Env' := match env[i]? with
  | none => none
  | some sl => if sl.isIo then none else match e with
    | .val d => some (env.set i (.val d))
    | .new o => some (env.set i (.own o))
    | .own _ => none
theorem EVOk.put {e : EV} {v : V} {i : Nat} {env' : Env'} (h : EVOk S M0 B ow env σ H e v) (st : Stp ow0 H0 ow H) (nw : Nw H0 e v) (q : putE i e env = some env') : ∃ ow', Stp ow0 H0 ow' H ∧ Sim S M0 B ow' env' (σ.set i (some v)) H := by
  unfold putE at q
  split at q
  · cases q
  · rename_i sl he
    split at q
    · cases q
    · rename_i n
      have n : sl.isIo = false := by simpa using n
      cases e with
      | val d =>
        cases q
        exact ⟨_, st.setNone, h.1.setV he n (.inr ⟨d, v, rfl, rfl, h.2.anti md_set⟩)⟩
      | new o =>
        cases q
        obtain ⟨a, rfl, na, n0, s, r⟩ := h
        exact ⟨_, st.setNew (nw a rfl), s.setNew na n0 r he n⟩
      | own j => cases q
/-- a variable's value, to be kept: one's own object is let go -/
def kvF (F : Nat → List Str) (i : Nat) : EF where
  r := fun env P _ => match env[i]? with
    | some (.val d) => P (.val d) env
    | some (.own o) => ∃ d, o.fr F = some d ∧ P (.val d) (env.set i (.val d))
    | _ => False
  m := fun hp _ h => by
    split at h
    · exact hp _ _ h
    · obtain ⟨d, h1, h2⟩ := h; exact ⟨d, h1, hp _ _ h2⟩
    · exact h.elim
theorem Sim.frz {i : Nat} {o : Ob} {d : D} (s : Sim S M0 B ow env σ H) (e : env[i]? = some (.own o)) (q : o.fr S.flds = some d) : ∃ a, σ[i]? = some (some (.ref a)) ∧ Rep S (Md B (ow.set i none)) H d (.ref a) ∧ Sim S M0 B (ow.set i none) (env.set i (.val d)) σ H := by
  obtain ⟨a, h1, h2, h3, h4⟩ := s.own i o e
  have na : ¬ Md B (ow.set i none) a := fun z => by
    rcases z with z | z
    · exact s.dis a z (List.mem_of_getElem? h1)
    · obtain ⟨j, hj, ej⟩ := List.getElem_of_mem z
      have ej' : (ow.set i none)[j]? = some (some a) := by rw [List.getElem?_eq_getElem hj, ej]
      by_cases hij : i = j
      · subst hij
        rw [List.getElem?_set_self (List.getElem?_eq_some_iff.mp h1).1] at ej'; cases ej'
      · rw [List.getElem?_set_ne hij] at ej'
        exact hij (s.inj i j a h1 ej')
  have r : Rep S (Md B (ow.set i none)) H d (.ref a) := (h3.anti (M' := Md B (ow.set i none)) md_set).rep na q
  refine ⟨a, h2, r, ?_⟩
  have := s.setV (w := some (.ref a)) (sl' := .val d) e rfl (.inr ⟨d, .ref a, rfl, rfl, r⟩)
  have hs : σ.set i (some (.ref a)) = σ := by
    apply List.ext_getElem?
    intro j
    by_cases hj : i = j
    · subst hj
      rw [h2, List.getElem?_set_self (List.getElem?_eq_some_iff.mp h2).1]
    · rw [List.getElem?_set_ne hj]
  rw [hs] at this
  exact this
theorem r_kv {i : Nat} {x : Str} {pos : Pos} (hN : X.N[i]? = some x := by rfl) (hv : Vis X.env.scope x := by first | exact Or.inl rfl | exact Or.inr (Or.inl rfl) | exact Or.inr (Or.inr rfl)) (hd : (x == ("__debug__" : Str)) = false := by decide)
    (hcd : (x == ("__classdict__" : Str)) = false := by decide) : PE X (.Name x pos) (tE S M0 E (kvF S.flds i)) := by
  refine PE.imp (pe_var hN hv hd hcd) fun σ H Q h => ?_
  obtain ⟨B, ow, env, s, h⟩ := h
  have h : (match env[i]? with
    | some (.val d) => _
    | some (.own o) => _
    | _ => False) := h
  split at h
  · rename_i d e
    obtain ⟨v, h1, h2⟩ := s.val i d e
    exact ⟨v, h1, h v H ow .refl trivial ⟨s, h2⟩⟩
  · rename_i o e
    obtain ⟨d, h1, h2⟩ := h
    obtain ⟨a, k1, k2, k3⟩ := s.frz e h1
    exact ⟨_, k1, h2 _ H _ (Stp.refl.setNone) trivial ⟨k3, k2⟩⟩
  · exact h.elim
/-! ### methods of one's own lists -/
def Slot.lst? : Slot → Option (List D)
  | .own (.lst ds) => some ds
  | .io (.lst ds) => some ds
  | _ => none
theorem lst_ob {sl : Slot} {ds : List D} (h : sl.lst? = some ds) : sl.ob = some (.lst ds) := by
  cases sl with
  | own o => cases o <;> cases h; rfl
  | io o => cases o <;> cases h; rfl
  | un => cases h
  | val d => cases h
/-- v.append(e) -/
def appF (F : Nat → List Str) (i : Nat) (f : EF) : EF where
  r := fun env P X => (∃ sl, env[i]? = some sl ∧ (∃ ds, sl.lst? = some ds)) ∧ f.r env (fun e env1 => ∃ d, e.keep F = some d ∧ ∃ sl ds, env1[i]? = some sl ∧ sl.lst? = some ds ∧ ds.length < 100000 ∧ P (.val .non) (env1.set i (sl.put (.lst (ds ++ [d]))))) X
  m := fun hp hx h => ⟨h.1, f.m (fun e env1 ⟨d, h1, sl, ds, h2, h3, h4, h5⟩ => ⟨d, h1, sl, ds, h2, h3, h4, hp _ _ h5⟩) hx h.2⟩
variable {e : Expr} {es : List Expr} {f f2 : EF} {pos p apos : Pos} {x : Str} {l : LF}
theorem line5 {n : Nat} (h : n < 100000) : n < sizeLine := by rw [sizeLine_eq]; omega
theorem slot_fix {i : Nat} {sl : Slot} {o : Ob} {a : Addr} (s : Sim S M0 B ow env σ H) (e : env[i]? = some sl) (q : sl.ob = some o) (h : σ[i]? = some (some (.ref a))) : ow[i]? = some (some a) ∧ ObRep S (Md B ow) H a o := by
  obtain ⟨b, h1, h2, h3⟩ := s.slot e q
  rw [h] at h2; cases h2
  exact ⟨h1, h3⟩
theorem r_app {i : Nat} (hN : X.N[i]? = some x := by rfl) (ha : PE X e (tE S M0 E f)) (hv : Vis X.env.scope x := by first | exact Or.inl rfl | exact Or.inr (Or.inl rfl) | exact Or.inr (Or.inr rfl)) (hd : (x == ("__debug__" : Str)) = false := by decide)
    (hcd : (x == ("__classdict__" : Str)) = false := by decide)
    (hbase : attributeBase (.Name x p) "append" X.env (eval (.Name x p) X.env) = eval (.Name x p) X.env := by rfl)
    (hfew : ((backTo pos (starEach [e] X.env)).all (fun x => !x.1) && (backToKw pos (keywordEach [] X.env)).all (fun x => x.1.isSome)
      && decide ([e].length + ([] : List Keyword).length + (if ([] : List Keyword).isEmpty then 0 else 1) < 30)) = true := by rfl)
    (hline : (apos.endLine == pos.line) = true := by rfl) (hs : starEach [e] X.env = (false, eval e X.env) :: starEach [] X.env := by rfl) (hplain : (backTo pos (starEach [] X.env)).any (·.1) = false := by rfl) :
    PE X (.Call (.Attribute (.Name x p) "append" apos) [e] [] pos) (tE S M0 E (appF S.flds i f)) :=
  PE.imp (pe_bm PySem.F.plainAttrs_list PySem.F.slot_list_append PySem.F.type_list_append (r := rAppend) (fun pins s σ H x xs v us Q => mt_append pins s σ H x xs v us Q) (pe_var hN hv hd hcd) (pa_cons ha pa_nil hs) hbase hfew hline hs hplain) fun σ H Q h => by
    obtain ⟨B, ow, env, s, ⟨sl, h1, ds, h2⟩, h3⟩ := h
    obtain ⟨a, k1, k2, k3⟩ := s.slot h1 (lst_ob h2)
    obtain ⟨vs, k4, k5⟩ := k3
    refine ⟨_, k2, .inl ⟨rfl, vs, SqL.of k4⟩, ?_⟩
    refine ⟨B, ow, env, s, f.m (fun e1 env1 g v H1 ow1 st1 nw1 ok1 => ?_) (fun _ _ h => h) h3⟩
    obtain ⟨d, q, sl1, ds1, g1, g2, g3, g4⟩ := g
    obtain ⟨s1, r1⟩ := ok1.keep q
    obtain ⟨b1, b2⟩ := slot_fix s1 g1 (lst_ob g2) k2
    obtain ⟨vs1, b3, b4⟩ := b2
    have hm : Md B ow1 a := .inr (List.mem_of_getElem? b1)
    refine ⟨a, vs1, v, rfl, rfl, b3, by rw [← b4.len]; exact line5 g3, ?_⟩
    obtain ⟨p1, p2⟩ := s1.put (o' := .lst (ds1 ++ [d])) (ho := .lst (vs1 ++ [v])) g1 (lst_ob g2) b1 ⟨_, upd_same, (b4.upd_at hm).append ⟨v, [], rfl, r1.upd_at hm, rfl⟩⟩
    exact g4 _ _ ow1 (st1.trans p2) trivial ⟨p1, rfl⟩
theorem RepL.dropLast {M : MS} {ds : List D} {vs : List V} (h : RepL S M H ds vs) : RepL S M H ds.dropLast vs.dropLast := by
  rw [List.dropLast_eq_take, List.dropLast_eq_take, h.len]; exact RepL.take 0 h
/-- v.pop() -/
def popF (i : Nat) : EF where
  r := fun env P X => ∃ sl ds d, env[i]? = some sl ∧ sl.lst? = some ds ∧ ds[ds.length - 1]? = some d ∧ P (.val d) (env.set i (sl.put (.lst ds.dropLast)))
  m := fun hp hx ⟨sl, ds, d, h1, h2, h3, h4⟩ => ⟨sl, ds, d, h1, h2, h3, hp _ _ h4⟩
theorem r_pop {i : Nat} (hN : X.N[i]? = some x := by rfl) (hv : Vis X.env.scope x := by first | exact Or.inl rfl | exact Or.inr (Or.inl rfl) | exact Or.inr (Or.inr rfl)) (hd : (x == ("__debug__" : Str)) = false := by decide)
    (hcd : (x == ("__classdict__" : Str)) = false := by decide)
    (hbase : attributeBase (.Name x p) "pop" X.env (eval (.Name x p) X.env) = eval (.Name x p) X.env := by rfl)
    (hline : (apos.endLine == pos.line) = true := by rfl) : PE X (.Call (.Attribute (.Name x p) "pop" apos) [] [] pos) (tE S M0 E (popF i)) :=
  PE.imp (pe_bm0 PySem.F.plainAttrs_list PySem.F.slot_list_pop PySem.F.type_list_pop (r := rPop) (fun pins s σ H x xs v us Q => mt_pop pins s σ H x xs v us Q) (pe_var hN hv hd hcd) hbase hline) fun σ H Q h => by
    obtain ⟨B, ow, env, s, sl, ds, d, h1, h2, h3, h4⟩ := h
    obtain ⟨a, k1, k2, k3⟩ := s.slot h1 (lst_ob h2)
    obtain ⟨vs, k4, k5⟩ := k3
    have hm : Md B ow a := .inr (List.mem_of_getElem? k1)
    obtain ⟨v, e1, r1⟩ := k5.get h3
    refine ⟨_, k2, .inl ⟨rfl, vs, SqL.of k4⟩, a, vs, v, rfl, rfl, k4, by rw [← k5.len]; exact e1, ?_⟩
    obtain ⟨p1, p2⟩ := s.put (o' := .lst ds.dropLast) (ho := .lst vs.dropLast) h1 (lst_ob h2) k1 ⟨_, upd_same, (k5.upd_at hm).dropLast⟩
    exact h4 _ _ ow p2 trivial ⟨p1, r1.upd_at hm⟩
end
end En
set_option Elab.async false
set_option linter.all false
set_option maxRecDepth 100000
namespace En
open PySem PySem.Spec PyProof.Rows L2
open PySem.Sem (wp)
open AutoSeq1 (wpAny_loadPart')
set_option maxHeartbeats 1000000 in
theorem meets_enum_newT (l : Addr) (items : Array Value) (n : Nat) (dct : Option Addr) (sl : Array (Option Value)) :
    Meets (Builtin.«enumerate.__new__» ⟨[.type "enumerate", .ref l], []⟩) (fun _ R s => s.heap.get? l = some { cls := .type "tuple", dict := dct, data := .seq items n, slots := sl } ∧
      R (.ok (.ret (.ref (s.heap.push { cls := .type "tuple_iterator", data := .fields #[.ref l, .int 0 0] }).objs.size)))
        { s with heap := (s.heap.push { cls := .type "tuple_iterator", data := .fields #[.ref l, .int 0 0] }).push { cls := .type "enumerate", data := .fields #[.none, .bool false, .ref s.heap.objs.size, rawInt 0, .none, .none] } }) :=
  .of_wp fun prog w A R s h => by
    obtain ⟨hp, g, d, tk, os⟩ := s; obtain ⟨hl, h⟩ := h
    have hsub := sub_enumerate
    have hL : Heap.IsTuple (Shared.heap ⟨hp, g, d, tk, os⟩) l items := ⟨_, hl, rfl, n, rfl⟩
    wp_walk using wpAny_loadPart' hl
    refine wpAny_stack_any fun st => wpAny_pure ?_
    split
    · rename_i c _ _ _ _ _
      cases (c == Value.type "enumerate")
      · wp_walk using wpAny_loadPart' hl, wpAny_pyIter_tuple hL
        exact ⟨_, rfl, h⟩
      · wp_walk using wpAny_loadPart' hl, wpAny_pyIter_tuple hL
        exact ⟨_, rfl, h⟩
    · wp_walk using wpAny_loadPart' hl, wpAny_pyIter_tuple hL
      exact ⟨_, rfl, h⟩
section
variable {prog : Program} {w : World} {A : Around} {E : Value → Shared → Prop} {s : Shared}
theorem call_enum_tup {l : Addr} {items : Array Value} {Q : Value → Shared → Prop} (hL : s.heap.IsTuple l items)
    (h : ∀ h', IsEnum h' (s.heap.objs.size + 1) s.heap.objs.size 0 .none → h'.IsTupleIter s.heap.objs.size l 0 → h'.objs.size = s.heap.objs.size + 2 →
      (∀ b o, s.heap.get? b = some o → h'.get? b = some o) → Q (.ref (s.heap.objs.size + 1)) { s with heap := h' }) :
    wpAny (model prog w) A (call (.type "enumerate") [.ref l]) Q E s := by
  obtain ⟨⟨c, dct, dt, sl⟩, hl, hc, n, hd⟩ := hL
  replace hc : c = .type "tuple" := hc
  replace hd : dt = .seq items n := hd
  subst hc hd
  refine callType_new F.called_enumerate (by decide) (F.typeCall_enumerate_1 _) (F.newCall_enumerate_1 _) (fun obj => F.args_object_init_2 obj _) F.entry_enumerate_new
    (meets_enum_newT l items n dct sl) ⟨hl, ?_⟩
  have hz : (s.heap.push { cls := .type "tuple_iterator", data := .fields #[.ref l, .int 0 0] }).objs.size = s.heap.objs.size + 1 := Heap.size_push ..
  show _ ∧ _
  rw [hz]
  have he : IsEnum ((s.heap.push { cls := .type "tuple_iterator", data := .fields #[.ref l, .int 0 0] }).push
      { cls := .type "enumerate", data := .fields #[.none, .bool false, .ref s.heap.objs.size, rawInt 0, .none, .none] }) (s.heap.objs.size + 1) s.heap.objs.size 0 .none := by
    have := Heap.get?_push_size (s.heap.push { cls := .type "tuple_iterator", data := .fields #[.ref l, .int 0 0] })
      (o := { cls := .type "enumerate", data := .fields #[.none, .bool false, .ref s.heap.objs.size, rawInt 0, .none, .none] }) rfl
    rw [hz] at this; exact this
  refine ⟨⟨_, he, rfl⟩, h _ he ⟨_, Heap.get?_push_of_some _ (Heap.get?_push_size _ rfl), rfl, rfl⟩ (by rw [Heap.size_push, hz]) fun b o x => Heap.get?_push_of_some _ (Heap.get?_push_of_some _ x)⟩
end
/-- the tuple at a, each item in a new pair -/
def IteT (K : PySem.W.Frag) (a : Addr) : It :=
  ⟨fun i H => ∃ (xs : List V) (x : V), SqT K H a xs ∧ xs[i]? = some x, fun i H v H' => ∃ T x, v = .ref T ∧ H T = none ∧ H' = upd H T (.tup [.int (i : Nat), x]) ∧ ∀ xs, SqT K H a xs → xs[i]? = some x, fun i H => ∃ xs : List V, SqT K H a xs ∧ xs.length = i⟩
theorem turn_enumT {P : Program} {w : World} {K : PySem.W.Frag} {elts : List Expr} {kk : Nat} {tpos : Pos} (a e it : Addr) :
    Turn P w K (.Tuple elts kk tpos) (IteT K a) [e, it] e (fun i h => (∃ old, IsEnum h e it ((i : Nat) : Int) old) ∧ h.IsTupleIter it a i ∧ e ≠ it ∧ a ≠ it ∧ e ≠ a) where
  mem := by simp
  obj := fun i h st b hb => by
    obtain ⟨⟨old, he⟩, ⟨o, ho, hc, hd⟩, _⟩ := st
    have e' : b = e ∨ b = it := by simpa using hb
    rcases e' with z | z
    · rw [z]; exact ⟨_, he, fun v q => nomatch q⟩
    · rw [z]; exact ⟨o, ho, fun v q => by rw [hd] at q; cases q⟩
  keep := fun i h h' st k => let ⟨⟨old, he⟩, hi, hne⟩ := st; ⟨⟨old, k e (by simp) _ he⟩, hi.at fun o q => k it (by simp) o q, hne⟩
  item := by
    intro X hP hw hK hc i pins s σ H E I hf st hg
    subst hP hw hK
    obtain ⟨⟨old, he⟩, hit, hne, hai, hea⟩ := st
    obtain ⟨xs, x, hq, hx⟩ := hg
    obtain ⟨its, rv, p, hz⟩ := I.tuple hq
    obtain ⟨u, hu, ru⟩ := rv.get hx
    have hel : e < s.heap.objs.size := Heap.lt_size he
    have hil : it < s.heap.objs.size := by obtain ⟨_, q, _⟩ := hit; exact Heap.lt_size q
    have hlt : i < its.toArray.size := by
      have := (List.getElem?_eq_some_iff.mp hu).1
      simpa using this
    refine wpAny_pyNext_enum_itemC (Draws.tuple (A := X.A.in1) (I.ok.hd hc) it a hai its.toArray) he ⟨hit, p⟩ hlt hne (by simp [hne, hea]) fun x' h' tk hx' ho hst' hT hsz hk => ?_
    have ex : x' = u := by
      have : its.toArray[i]? = some x' := hx'
      rw [List.getElem?_toArray, hu] at this
      exact (Option.some.inj this).symm
    subst ex
    refine ⟨_, rfl, wpAny_letOwnedTupleGo_enum (s := { s with heap := h', toks := tk + 1 }) ho fun h'' he' sb => ?_⟩
    have hT2 : h''.get? s.heap.objs.size = some { cls := .type "tuple", data := .seq #[.int i tk, x'] } := (sb.2 _ (Nat.ne_of_gt hel)).trans hT
    have new : ObjOk X.prog X.w (upd H s.heap.objs.size (.tup [.int (i : Nat), x])) h'' s.heap.objs.size (.tup [.int (i : Nat), x]) :=
      ⟨by show 2 ≤ sizeLine; decide, [.int i tk, x'], .cons ⟨_, rfl⟩ (.cons ru .nil), ⟨_, hT2, rfl, _, rfl⟩⟩
    have I1 : Inv X pins σ (upd H s.heap.objs.size (.tup [.int (i : Nat), x])) { s with heap := h'', toks := tk + 1 } :=
      I.turnedNew (ch := [e, it]) (fun b ob hb q => (sb.2 b (fun z => hb (by simp [z]))).trans (hk b ob (fun z => hb (by simp [z])) (fun z => hb (by simp [z])) q)) hf (Nat.le_refl _) new
    refine ⟨.ref s.heap.objs.size, _, I1, rfl, ⟨_, x, rfl, I.hok.fresh (Nat.le_refl _), rfl, fun ys hy => by rw [I.tuple_inj hy hq]; exact hx⟩, ⟨⟨x', ?_⟩, hst'.1.at fun o q => (sb.2 it (Ne.symm hne)).trans q, hne, hai, hea⟩, fun b hb => ?_⟩
    · have e1 : ((i + 1 : Nat) : Int) = (i : Int) + 1 := by omega
      rw [e1]; exact he'
    · have hb' : b < s.heap.objs.size := by
        have e' : b = e ∨ b = it := by simpa using hb
        rcases e' with z | z
        · rw [z]; exact hel
        · rw [z]; exact hil
      rw [upd_ne (Nat.ne_of_lt hb')]
      exact (hf b hb).1
  done := by
    intro X hP hw hK hc i pins s σ H E I hf st hg
    subst hP hw hK
    obtain ⟨⟨old, he⟩, hit, hne, hai, hea⟩ := st
    obtain ⟨xs, hq, hx⟩ := hg
    obtain ⟨its, rv, p, hz⟩ := I.tuple hq
    obtain ⟨f0, f1, f2, f3, f4, f5⟩ := hf it (by simp)
    have hl := rv.length
    have hi : i = its.toArray.size := by simp; omega
    rw [hi] at hit
    exact wpAny_pyNext_enum_endD (Draws.tuple (A := X.A.in1) (I.ok.hd hc) it a hai its.toArray) he ⟨hit, p⟩ fun h' eb => ⟨rfl, I.turned (t' := s.toks) (fun b o hb q => eb b o hb q) f0 f1 f3 f4 f5⟩
  self := fun A i s Q E st h => let ⟨⟨_, he⟩, _⟩ := st; wpAny_pyIter_enum he h
def iEnumT (K : PySem.W.Frag) (ta : TA) : TI := fun σ H R => ta σ H fun vs H1 => ∃ a xs, vs = [.ref a] ∧ ((SqL K H1 a xs ∧ R (Ite K a) H1) ∨ (SqT K H1 a xs ∧ R (IteT K a) H1))
theorem pi_enumT {X : Cx} {e : Expr} {ta : TA} {p pos tpos : Pos} {elts : List Expr} {kk : Nat} (hg : Gl X "enumerate") (hm : X.mg "enumerate" = none) (ha : PA X [e] ta) (hs : starEach [e] X.env = [(false, eval e X.env)] := by rfl) :
    PI X (.Tuple elts kk tpos) (.Call (.Name "enumerate" p) [e] [] pos) (iEnumT X.K ta) := by
  refine ⟨fun pins s σ H R I h => ?_⟩
  refine Call_ (ld_blt I hg hm boot_enumerate (PyProof.Rows.callWith_type1 (thn (ha.run pos pins s σ H _ I h) fun us s1 ⟨vs, H1, I1, r1, q1⟩ => ?_) hs rfl))
  obtain ⟨a, xs, ex, q⟩ := q1
  subst ex
  cases r1 with
  | cons r rr =>
    cases rr
    cases r
    have fp : ∀ b ∈ [s1.heap.objs.size + 1, s1.heap.objs.size], FpOk X pins H1 b := fun b hb => by
      have e' : b = s1.heap.objs.size + 1 ∨ b = s1.heap.objs.size := by simpa using hb
      have hle : s1.heap.objs.size ≤ b := by
        rcases e' with z | z
        · rw [z]; exact Nat.le_add_right _ _
        · rw [z]; exact Nat.le_refl _
      exact I1.fpOk hle (I1.hok.fresh hle)
    rcases q with ⟨hq, q⟩ | ⟨hq, q⟩
    · obtain ⟨its, rv, p', hz⟩ := I1.list hq
      refine call_enumerate_list p'.isList fun h' he hit hsz hk => wpAny_pyIter_enum he ?_
      have I2 : Inv X pins σ H1 { s1 with heap := h' } := I1.kept (t' := s1.toks) hk
      exact ⟨s1.heap.objs.size + 1, [s1.heap.objs.size + 1, s1.heap.objs.size], _, _, H1, rfl, I2, turn_enum a (s1.heap.objs.size + 1) s1.heap.objs.size, ⟨⟨.none, he⟩, hit, Nat.succ_ne_self _⟩, fp, q⟩
    · obtain ⟨its, rv, p', hz⟩ := I1.tuple hq
      have hlt : a < s1.heap.objs.size := p'.lt
      refine call_enum_tup p' fun h' he hit hsz hk => wpAny_pyIter_enum he ?_
      have I2 : Inv X pins σ H1 { s1 with heap := h' } := I1.kept (t' := s1.toks) hk
      exact ⟨s1.heap.objs.size + 1, [s1.heap.objs.size + 1, s1.heap.objs.size], _, _, H1, rfl, I2, turn_enumT a (s1.heap.objs.size + 1) s1.heap.objs.size, ⟨⟨.none, he⟩, hit, Nat.succ_ne_self _, Nat.ne_of_lt hlt, Nat.ne_of_gt (Nat.lt_succ_of_lt hlt)⟩, fp, q⟩
end En
set_option Elab.async false
set_option linter.all false
set_option maxRecDepth 100000
namespace En
open PySem PySem.Spec PyProof.Rows L2
section
variable {X : Cx} {S : Sg} {M0 B : MS} {E : XK} {ow ow0 : OW} {env : Env'} {σ : L2.St} {H H0 : Hp}
variable {a b c e : Expr} {es : List Expr} {f f2 f3 : EF} {t t2 : TF} {pos p apos : Pos} {x : Str} {l : LF} {tg : Expr}
/-! ### tuple(list of texts), told as such -/
theorem strs_len : ∀ {ds : List D} {xs : List Str}, strsD? ds = some xs → ds.length = xs.length
  | [], _, h => by cases h; rfl
  | .str b :: ds, _, h => by
    obtain ⟨bs', e1, rfl⟩ := Option.map_eq_some_iff.mp (show (strsD? ds).map (b :: ·) = some _ from h)
    simp [strs_len e1]
  | .non :: _, _, e => by cases e
  | .int _ :: _, _, e => by cases e
  | .bl _ :: _, _, e => by cases e
  | .tup _ :: _, _, e => by cases e
  | .lst _ :: _, _, e => by cases e
  | .dK _ _ :: _, _, e => by cases e
  | .dT _ _ :: _, _, e => by cases e
  | .ins _ _ :: _, _, e => by cases e
  | .nms _ :: _, _, e => by cases e
  | .fn _ _ :: _, _, e => by cases e
  | .exc _ _ :: _, _, e => by cases e
theorem c_tupN (hk : X.K = S.K) : CallS X S (.type "tuple") tupN := by
  intro pins s σ H xs us Q I r h
  obtain ⟨x, M, d, c, rfl, hd, hg, ht, k⟩ := h
  unfold tupN at hg
  split at hg
  · obtain ⟨ys, h1, rfl⟩ := Option.map_eq_some_iff.mp hg
    obtain ⟨a, vs, rfl, ra, l⟩ := hd.lst
    rw [strs_v l h1] at ra
    rw [← hk] at ra
    obtain ⟨u, rfl, rx⟩ := vals1 r
    cases rx
    obtain ⟨its, r', pl, hz⟩ := I.list ra
    have hlen := r'.length
    refine call_tuple_list pl.isList (fun h' kp => ?_) (by simp only [List.size_toArray] <;> omega)
    have I1 : Inv X pins σ H { s with heap := h' } := I.kept (t' := s.toks) kp
    have I2 : Inv X pins σ (upd H h'.objs.size (.frz { cls := .type "tuple", data := .seq its.toArray } (.tup (ys.map V.str)))) { s with heap := h'.push { cls := .type "tuple", data := .seq its.toArray } } :=
      I1.laid (t' := s.toks) (fun b o e => Heap.get?_push_of_some _ e) (Nat.le_refl _) (show ObjOk X.prog X.w _ _ _ (.frz _ (.tup _)) from ⟨Heap.get?_push_size _ rfl, hz, its, r', IsTup.new _ _⟩)
    have hp := I1.hok.fresh (Nat.le_refl _)
    exact ⟨.ref h'.objs.size, _, I2, rfl, k _ _ (.upd hp) ⟨_, _, rfl, fresh_nm ht hp, upd_same, rfl⟩⟩
  · cases hg
    refine call_tuple_of pins s σ H _ us Q I r ?_
    obtain ⟨a, ob, rfl, na, r, z⟩ := hd
    exact ⟨a, _, rfl, .inr ⟨.inl (.inr ⟨ob, r⟩), k _ H .rfl' ⟨a, ob, rfl, na, r, z⟩⟩⟩
  · cases hg
/-! ### patterns -/
inductive Pat where
  | nm (i : Nat)
  | tp (ps : List Pat)
def tupL? : D → Option (List D)
  | .tup ds => some ds
  | .nms xs => some (xs.map .str)
  | .lst ds => some ds
  | _ => none
mutual
def Pat.put : Pat → D → Env' → Option Env'
  | .nm i, d, env => putE i (.val d) env
  | .tp ps, d, env => match tupL? d with
    | some ds => Pat.putL ps ds env
    | none => none
def Pat.putL : List Pat → List D → Env' → Option Env'
  | [], [], env => some env
  | p :: ps, d :: ds, env => (p.put d env).bind fun env1 => Pat.putL ps ds env1
  | _, _, _ => none
end
theorem putL_len : ∀ {ps : List Pat} {ds : List D} {env env' : Env'}, Pat.putL ps ds env = some env' → ds.length = ps.length
  | [], [], _, _, _ => rfl
  | p :: ps, d :: ds, env, env', h => by
    obtain ⟨env1, _, h2⟩ := Option.bind_eq_some_iff.mp (show (p.put d env).bind (fun env1 => Pat.putL ps ds env1) = some env' from h)
    simp [putL_len h2]
  | [], d :: ds, _, _, h => by cases h
  | p :: ps, [], _, _, h => by cases h
theorem wipe_get {σ : L2.St} : ∀ (vs : List Nat) (j : Nat), (wipe σ vs)[j]? = if j ∈ vs then (σ[j]?).map fun _ => none else σ[j]?
  | [], j => by simp [wipe]
  | v :: vs, j => by
    unfold wipe
    by_cases hj : v = j
    · subst hj
      rw [if_pos List.mem_cons_self]
      by_cases hv : v < σ.length
      · rw [List.getElem?_set_self (by rw [wipe_length]; exact hv), List.getElem?_eq_getElem hv]; rfl
      · rw [List.getElem?_eq_none (by rw [List.length_set, wipe_length]; omega), List.getElem?_eq_none (by omega)]; rfl
    · rw [List.getElem?_set_ne hj, wipe_get vs j]
      by_cases hm : j ∈ vs
      · rw [if_pos hm, if_pos (List.mem_cons_of_mem _ hm)]
      · rw [if_neg hm, if_neg (by simp [hm, Ne.symm hj])]
theorem wipe_set {σ : L2.St} {vs : List Nat} {i : Nat} {w : Option V} (h : i ∈ vs) : wipe (σ.set i w) vs = wipe σ vs := by
  apply List.ext_getElem?
  intro j
  rw [wipe_get, wipe_get]
  by_cases hj : j ∈ vs
  · rw [if_pos hj, if_pos hj]
    by_cases hij : i = j
    · subst hij
      by_cases hi : i < σ.length
      · rw [List.getElem?_set_self hi, List.getElem?_eq_getElem hi]; rfl
      · rw [List.getElem?_eq_none (by simpa using hi), List.getElem?_eq_none (by omega)]
    · rw [List.getElem?_set_ne hij]
  · rw [if_neg hj, if_neg hj]
    rw [List.getElem?_set_ne (fun z => hj (by rw [← z]; exact h))]
theorem wipe_idem {σ : L2.St} {vs : List Nat} : wipe (wipe σ vs) vs = wipe σ vs := by
  apply List.ext_getElem?
  intro j
  rw [wipe_get, wipe_get]
  by_cases hj : j ∈ vs
  · rw [if_pos hj, if_pos hj]; cases σ[j]? <;> rfl
  · rw [if_neg hj, if_neg hj]
def tGp (S : Sg) (M0 : MS) (p : Pat) (vs : List Nat) : TG := fun v σ H Q => ∃ B ow env d env', Sim S M0 B ow env σ H ∧ Rep S (Md B ow) H d v ∧ p.put d env = some env' ∧
  ∀ σ' ow', Stp ow H ow' H → Sim S M0 B ow' env' σ' H → wipe σ' vs = wipe σ vs → Q σ' H
def tGps (S : Sg) (M0 : MS) (ps : List Pat) (vs : List Nat) : TGs := fun us σ H Q => ∃ B ow env ds env', Sim S M0 B ow env σ H ∧ RepL S (Md B ow) H ds us ∧ Pat.putL ps ds env = some env' ∧
  ∀ σ' ow', Stp ow H ow' H → Sim S M0 B ow' env' σ' H → wipe σ' vs = wipe σ vs → Q σ' H
theorem PGs.imp' {X : Cx} {e : List Expr} {t t' : TGs} (h : PGs X e t) (k : ∀ v σ H Q, t' v σ H Q → t v σ H Q) : PGs X e t' := ⟨fun p s σ H v u Q I r q => h.run p s σ H v u Q I r (k v σ H Q q)⟩
theorem g_nm {i : Nat} {vs : List Nat} (z : X.N.Nodup) (hi : X.N[i]? = some x := by rfl) (hm : i ∈ vs := by decide) (hx : Loc X.env.scope x := by first | exact Or.inl rfl | exact Or.inr rfl) (hf : X.fn x = true ∨ X.env.scope.names.lookup x = some .local := by first | exact .inl rfl | exact .inr rfl) : PG X (.Name x pos) (tGp S M0 (.nm i) vs) :=
  PG.imp (pg_name z hi hx hf) fun v σ H Q h => by
    obtain ⟨B, ow, env, d, env', s, r, q, k⟩ := h
    have q : putE i (.val d) env = some env' := by simpa [Pat.put] using q
    obtain ⟨ow', st, s'⟩ := EVOk.put (v := v) (e := .val d) ⟨s, r⟩ .refl trivial q
    exact k _ ow' st s' (wipe_set hm)
theorem g_nil {vs : List Nat} : PGs X [] (tGps S M0 [] vs) := PGs.imp' pgs_nil fun us σ H Q h => by
  obtain ⟨B, ow, env, ds, env', s, r, q, k⟩ := h
  cases ds with
  | nil =>
    cases r
    have q : some env = some env' := by simpa [Pat.putL] using q
    cases q
    exact ⟨rfl, k σ ow .refl s rfl⟩
  | cons d ds => simp [Pat.putL] at q
theorem g_cons {p : Pat} {ps : List Pat} {vs : List Nat} (h1 : PG X e (tGp S M0 p vs)) (h2 : PGs X es (tGps S M0 ps vs)) (hs : (assignEach (e :: es) X.env).map (·.2) = assign e X.env :: (assignEach es X.env).map (·.2) := by rfl) : PGs X (e :: es) (tGps S M0 (p :: ps) vs) :=
  PGs.imp' (pgs_cons h1 h2 hs) fun us σ H Q h => by
    obtain ⟨B, ow, env, ds, env', s, r, q, k⟩ := h
    cases ds with
    | nil => simp [Pat.putL] at q
    | cons d ds =>
      obtain ⟨v, vr, rfl, r1, r2⟩ := r
      obtain ⟨env1, q1, q2⟩ := Option.bind_eq_some_iff.mp (show (p.put d env).bind (fun env1 => Pat.putL ps ds env1) = some env' from q)
      refine ⟨v, vr, rfl, B, ow, env, d, env1, s, r1, q1, fun σ1 ow1 st1 s1 w1 => ?_⟩
      exact ⟨B, ow1, env1, ds, env', s1, RepL.stp st1 r2, q2, fun σ2 ow2 st2 s2 w2 => k σ2 ow2 (st1.trans st2) s2 (w2.trans w1)⟩
theorem pg_any {K : PySem.W.Frag} {kk : Nat} {t : TGs} {n : Nat} (hK : X.K = K) (hc : X.calm = true) (h : PGs X es t)
    (hn : (assignEach es X.env).length = n := by rfl) (hst : (assignEach es X.env).findIdx? (·.1) = none := by rfl) : PG X (.Tuple es kk pos) (fun v σ H Q => gTup K n t v σ H Q ∨ gUnl K n t v σ H Q) := by
  subst hK
  refine ⟨fun pins s σ H v u Q I r hw => ?_⟩
  rcases hw with hw | hw
  · exact (pg_tup hc h hn hst).run pins s σ H v u Q I r hw
  · exact (pg_unl hc h hn hst).run pins s σ H v u Q I r hw
theorem g_tup {ps : List Pat} {vs : List Nat} {kk n : Nat} (hk : X.K = S.K) (hc : X.calm = true) (h : PGs X es (tGps S M0 ps vs)) (hpn : ps.length = n := by rfl) (hn : (assignEach es X.env).length = n := by rfl) (hst : (assignEach es X.env).findIdx? (·.1) = none := by rfl) :
    PG X (.Tuple es kk pos) (tGp S M0 (.tp ps) vs) :=
  PG.imp (pg_any hk hc h hn hst) fun v σ H Q h => by
    obtain ⟨B, ow, env, d, env', s, r, q, k⟩ := h
    cases hd : tupL? d with
    | none => simp [Pat.put, hd] at q
    | some ds =>
      have q : Pat.putL ps ds env = some env' := by simpa [Pat.put, hd] using q
      have hl := putL_len q
      unfold tupL? at hd
      split at hd
      · cases hd
        obtain ⟨a, us, rfl, _, ra, l⟩ := r
        exact .inl ⟨a, us, rfl, .of ra, by rw [← l.len, hl, hpn], B, ow, env, _, env', s, l, q, k⟩
      · cases hd
        obtain ⟨a, ob, rfl, _, ra, _⟩ := r
        exact .inl ⟨a, _, rfl, .inl (.inr ⟨ob, ra⟩), by rw [← hpn, ← hl, List.length_map, List.length_map], B, ow, env, _, env', s, strs_rep _, q, k⟩
      · cases hd
        obtain ⟨a, us, rfl, ra, l⟩ := r
        exact .inr ⟨a, us, rfl, ra.seq, by rw [← l.len, hl, hpn], B, ow, env, _, env', s, l, q, k⟩
      · cases hd
/-! ### statements -/
structure Pst where
  nx : Env' → Prop
  rt : EV → Env' → Prop
  bk : Env' → Prop
  ct : Env' → Prop
structure Pst.Le (P P' : Pst) : Prop where
  nx : ∀ e, P.nx e → P'.nx e
  rt : ∀ v e, P.rt v e → P'.rt v e
  bk : ∀ e, P.bk e → P'.bk e
  ct : ∀ e, P.ct e → P'.ct e
theorem Pst.Le.rfl' {P : Pst} : P.Le P := ⟨fun _ h => h, fun _ _ h => h, fun _ h => h, fun _ h => h⟩
structure SF where
  r : Env' → Pst → Exx → Prop
  m : ∀ {env P P' X X'}, Pst.Le P P' → (∀ c fs, X c fs → X' c fs) → r env P X → r env P' X'
def pst (S : Sg) (M0 B : MS) (ow : OW) (H : Hp) (D : Ends) : Pst where
  nx := fun env' => ∀ σ' H' ow', Stp ow H ow' H' → Sim S M0 B ow' env' σ' H' → D.nx σ' H'
  rt := fun e env' => ∀ v σ' H' ow', Stp ow H ow' H' → Nw H e v → EVOk S M0 B ow' env' σ' H' e v → D.rt v H'
  bk := fun env' => ∀ σ' H' ow', Stp ow H ow' H' → Sim S M0 B ow' env' σ' H' → D.bk σ' H'
  ct := fun env' => ∀ σ' H' ow', Stp ow H ow' H' → Sim S M0 B ow' env' σ' H' → D.ct σ' H'
theorem pst_le {ow1 : OW} {H1 : Hp} {D : Ends} (st : Stp ow H ow1 H1) : (pst S M0 B ow H D).Le (pst S M0 B ow1 H1 D) where
  nx := fun _ h σ' H' ow' st' s => h σ' H' ow' (st.trans st') s
  rt := fun _ _ h v σ' H' ow' st' nw s => h v σ' H' ow' (st.trans st') (nw.back st) s
  bk := fun _ h σ' H' ow' st' s => h σ' H' ow' (st.trans st') s
  ct := fun _ h σ' H' ow' st' s => h σ' H' ow' (st.trans st') s
def tS (S : Sg) (M0 : MS) (E : XK) (F : SF) : TS := fun D σ H => ∃ B ow env, Sim S M0 B ow env σ H ∧ F.r env (pst S M0 B ow H D) (XP S M0 E ow H)
variable {st : Stmt} {rest : List Stmt} {sf sg : SF}
def skipS : SF where
  r := fun env P _ => P.nx env
  m := fun hp _ h => hp.nx _ h
def seqS (a b : SF) : SF where
  r := fun env P X => a.r env { P with nx := fun env1 => b.r env1 P X } X
  m := fun {env P P' X X'} hp hx h => a.m (P := { P with nx := fun env1 => b.r env1 P X }) (P' := { P' with nx := fun env1 => b.r env1 P' X' }) ⟨fun _ h => b.m hp hx h, hp.rt, hp.bk, hp.ct⟩ hx h
theorem s_nil : PSs X [] (tS S M0 E skipS) := PSs.imp pss_nil fun D σ H h => by
  obtain ⟨B, ow, env, s, h⟩ := h
  exact h σ H ow .refl s
theorem s_one (h : PS X st (tS S M0 E sf)) : PSs X [st] (tS S M0 E sf) := pss_one h
theorem s_cons (h1 : PS X st (tS S M0 E sf)) (h2 : PSs X rest (tS S M0 E sg)) : PSs X (st :: rest) (tS S M0 E (seqS sf sg)) :=
  PSs.imp (pss_cons h1 h2) fun D σ H h => by
    obtain ⟨B, ow, env, s, h⟩ := h
    refine ⟨B, ow, env, s, sf.m (P := { pst S M0 B ow H D with nx := fun env1 => sg.r env1 (pst S M0 B ow H D) (XP S M0 E ow H) }) ⟨fun env1 h σ' H' ow' st s' => ?_, fun _ _ h => h, fun _ h => h, fun _ h => h⟩ (fun _ _ h => h) h⟩
    exact ⟨B, ow', env1, s', sg.m (pst_le st) (fun _ _ h => h.stp st) h⟩
def passS := skipS
theorem s_pass : PS X (.Pass pos) (tS S M0 E skipS) := PS.imp ps_pass fun D σ H h => by
  obtain ⟨B, ow, env, s, h⟩ := h
  exact h σ H ow .refl s
def brkS : SF where
  r := fun env P _ => P.bk env
  m := fun hp _ h => hp.bk _ h
def cntS : SF where
  r := fun env P _ => P.ct env
  m := fun hp _ h => hp.ct _ h
theorem s_brk : PS X (.Break pos) (tS S M0 E brkS) := PS.imp ps_break fun D σ H h => by
  obtain ⟨B, ow, env, s, h⟩ := h
  exact h σ H ow .refl s
theorem s_cnt : PS X (.Continue pos) (tS S M0 E cntS) := PS.imp ps_continue fun D σ H h => by
  obtain ⟨B, ow, env, s, h⟩ := h
  exact h σ H ow .refl s
/-- code that is not come to -/
def nevS : SF where
  r := fun _ _ _ => False
  m := fun _ _ h => h
theorem s_nev : PS X st (tS S M0 E nevS) := PS.imp ps_never fun D σ H h => by
  obtain ⟨B, ow, env, s, h⟩ := h
  exact h
def retS (f : EF) : SF where
  r := fun env P X => f.r env P.rt X
  m := fun hp hx h => f.m hp.rt hx h
theorem s_ret (h : PE X e (tE S M0 E f)) : PS X (.Return (some e) pos) (tS S M0 E (retS f)) := PS.imp (ps_ret h) fun D σ H h => by
  obtain ⟨B, ow, env, s, h⟩ := h
  exact ⟨B, ow, env, s, f.m (fun e env1 h v H1 ow1 st1 nw1 ok1 => h v σ H1 ow1 st1 nw1 ok1) (fun _ _ h => h) h⟩
def dropS (f : EF) : SF where
  r := fun env P X => f.r env (fun _ env1 => P.nx env1) X
  m := fun hp hx h => f.m (fun _ _ h => hp.nx _ h) hx h
theorem s_expr (h : PE X e (tE S M0 E f)) (hs : swapsWith e none pos.line X.env = pure false := by rfl) : PS X (.Expr e pos) (tS S M0 E (dropS f)) := PS.imp (ps_expr h hs) fun D σ H h => by
  obtain ⟨B, ow, env, s, h⟩ := h
  exact ⟨B, ow, env, s, f.m (fun e env1 h v H1 ow1 st1 nw1 ok1 => h σ H1 ow1 st1 ok1.simA) (fun _ _ h => h) h⟩
def ifS (t : TF) (a b : SF) : SF where
  r := fun env P X => t.r env (fun k env1 => if k = true then a.r env1 P X else b.r env1 P X) X
  m := fun hp hx h => t.m (fun k _ h => by
    split at h
    · rename_i z; rw [if_pos z]; exact a.m hp hx h
    · rename_i z; rw [if_neg z]; exact b.m hp hx h) hx h
theorem s_if {c : Expr} {a b : List Stmt} (hc : PT X c (tT S M0 E t)) (ha : PSs X a (tS S M0 E sf)) (hb : PSs X b (tS S M0 E sg)) : PS X (.If c a b pos) (tS S M0 E (ifS t sf sg)) :=
  PS.imp (ps_if hc ha hb) fun D σ H h => by
    obtain ⟨B, ow, env, s, h⟩ := h
    refine ⟨B, ow, env, s, t.m (fun k env1 h1 H1 ow1 st1 s1 => ?_) (fun _ _ h => h) h⟩
    cases k with
    | true =>
      rw [if_pos rfl] at h1 ⊢
      exact ⟨B, ow1, env1, s1, sf.m (pst_le st1) (fun _ _ h => h.stp st1) h1⟩
    | false =>
      rw [if_neg Bool.false_ne_true] at h1 ⊢
      exact ⟨B, ow1, env1, s1, sg.m (pst_le st1) (fun _ _ h => h.stp st1) h1⟩
/-- name = e -/
def asgS (i : Nat) (f : EF) : SF where
  r := fun env P X => f.r env (fun e env1 => ∃ env2, putE i e env1 = some env2 ∧ P.nx env2) X
  m := fun hp hx h => f.m (fun _ _ ⟨env2, h1, h2⟩ => ⟨env2, h1, hp.nx _ h2⟩) hx h
theorem s_set {i : Nat} {pos' : Pos} (z : X.N.Nodup) (he : PE X e (tE S M0 E f)) (hi : X.N[i]? = some x := by rfl) (hx : Loc X.env.scope x := by first | exact Or.inl rfl | exact Or.inr rfl) (hs : swapsWith e (some (.Name x pos')) pos.line X.env = pure false := by rfl) (hf : X.fn x = true ∨ X.env.scope.names.lookup x = some .local := by first | exact .inl rfl | exact .inr rfl) :
    PS X (.Assign [.Name x pos'] e pos) (tS S M0 E (asgS i f)) := PS.imp (ps_set z hi hx he hs hf) fun D σ H h => by
  obtain ⟨B, ow, env, s, h⟩ := h
  refine ⟨B, ow, env, s, f.m (fun e env1 h v H1 ow1 st1 nw1 ok1 => ?_) (fun _ _ h => h) h⟩
  obtain ⟨env2, h1, h2⟩ := h
  obtain ⟨ow', st', s'⟩ := ok1.put st1 nw1 h1
  exact h2 _ H1 ow' st' s'
/-- pattern = e -/
def patS (F : Nat → List Str) (p : Pat) (f : EF) : SF where
  r := fun env P X => f.r env (fun e env1 => ∃ d, e.keep F = some d ∧ ∃ env2, p.put d env1 = some env2 ∧ P.nx env2) X
  m := fun hp hx h => f.m (fun _ _ ⟨d, h0, env2, h1, h2⟩ => ⟨d, h0, env2, h1, hp.nx _ h2⟩) hx h
theorem s_pat {p : Pat} {vs : List Nat} (he : PE X e (tE S M0 E f)) (hg : PG X tg (tGp S M0 p vs)) (hs : swapsWithSole [tg] e pos.line X.env = pure false := by rfl) (hw : swappedStores [tg] e X.env = pure none := by rfl)
    (h1 : (assignEach [tg] X.env).map (·.2) = [assign tg X.env] := by rfl) : PS X (.Assign [tg] e pos) (tS S M0 E (patS S.flds p f)) := PS.imp (ps_asg he hg hs hw h1) fun D σ H h => by
  obtain ⟨B, ow, env, s, h⟩ := h
  refine ⟨B, ow, env, s, f.m (fun e env1 h v H1 ow1 st1 nw1 ok1 => ?_) (fun _ _ h => h) h⟩
  obtain ⟨d, q, env2, h1, h2⟩ := h
  obtain ⟨s1, r1⟩ := ok1.keep q
  exact ⟨B, ow1, env1, d, env2, s1, r1, h1, fun σ' ow' st' s' _ => h2 σ' H1 ow' (st1.trans st') s'⟩
end
end En
set_option Elab.async false
set_option linter.all false
set_option maxRecDepth 100000
namespace En
open PySem PySem.Spec PyProof.Rows L2
section
variable {X : Cx} {S : Sg} {M0 B : MS} {E : XK} {ow ow0 : OW} {env : Env'} {σ : L2.St} {H H0 : Hp}
variable {a b c e e2 : Expr} {es : List Expr} {f f2 f3 : EF} {t t2 : TF} {pos p apos tpos : Pos} {x : Str} {l : LF} {tg iter : Expr} {kk : Nat} {elts : List Expr}
/-! ### sources -/
def SrcOk (S : Sg) (M : MS) (H : Hp) (J : It) (ds : List D) : Prop :=
  ∀ (M2 : MS) (H2 : Hp), (∀ a o, Nt o → ¬ M a → H a = some o → H2 a = some o ∧ ¬ M2 a) → (∀ a, M2 a → ∃ u, H2 a = some u) → ∀ i : Nat,
    (∀ d, ds[i]? = some d → J.go i H2 ∧ ∀ x H3, J.yld i H2 x H3 → Grow H2 H3 ∧ Rep S M2 H3 d x) ∧ (ds.length = i → J.stop i H2)
def tI (S : Sg) (M0 : MS) (E : XK) (F : LF) : TI := fun σ H R => ∃ B ow env, Sim S M0 B ow env σ H ∧
  F.r env (fun ds env' => ∀ J H' ow', Stp ow H ow' H' → Sim S M0 B ow' env' σ H' → SrcOk S (Md B ow') H' J ds → R J H') (XP S M0 E ow H)
theorem PI.imp {X : Cx} {tg e : Expr} {t t' : TI} (h : PI X tg e t) (k : ∀ σ H Q, t' σ H Q → t σ H Q) : PI X tg e t' := ⟨fun p s σ H Q I q => h.run p s σ H Q I (k σ H Q q)⟩
theorem pi_seqA {K : PySem.W.Frag} {l : Expr} {tl : TE} (hk : X.K = K) (hl : PE X l tl) : PI X tg l (fun σ H R => tl σ H fun x H1 => (∃ a xs, x = .ref a ∧ ((SqL K H1 a xs ∧ R (Itl K a) H1) ∨ (SqT K H1 a xs ∧ R (Itt K a) H1))) ∨ ∃ z, x = .str z ∧ R (Its z) H1) := by
  subst hk
  refine ⟨fun pins s σ H R I h => ?_⟩
  refine thn (hl.run pins s σ H _ I h) fun v s1 ⟨x, H1, I1, r1, q1⟩ => ?_
  rcases q1 with ⟨a, xs, e, q⟩ | ⟨z, e, q⟩
  · subst e
    cases r1
    have fin : ∀ b ∈ [s1.heap.objs.size], FpOk X pins H1 b := fun b hb => by
      have e : b = s1.heap.objs.size := by simpa using hb
      subst e
      exact I1.fpOk (Nat.le_refl _) (I1.hok.fresh (Nat.le_refl _))
    rcases q with ⟨hq, q⟩ | ⟨hq, q⟩
    · obtain ⟨its, rv, p, hz⟩ := I1.list hq
      exact wpAny_pyIter_list p.isList ⟨s1.heap.objs.size, [s1.heap.objs.size], _, _, H1, rfl, I1.kept (t' := s1.toks) fun b o e => Heap.get?_push_of_some _ e, turn_list a _, ⟨_, Heap.get?_push_size _ rfl, rfl, rfl⟩, fin, q⟩
    · obtain ⟨its, rv, p, hz⟩ := I1.tuple hq
      exact wpAny_pyIter_tuple (show s1.heap.IsTuple a its.toArray from p) ⟨s1.heap.objs.size, [s1.heap.objs.size], _, _, H1, rfl, I1.kept (t' := s1.toks) fun b o e => Heap.get?_push_of_some _ e, turn_tuple a _, ⟨_, Heap.get?_push_size _ rfl, rfl, rfl⟩, fin, q⟩
  · subst e
    obtain ⟨t, rfl⟩ := r1
    cases ha : z.cps.all (· < 128)
    · exact wpAny_pyIter_wide ha (pi_one (tk := s1.toks) I1 _ (turn_str _ z t "str_iterator" (.inr rfl)) ⟨_, Heap.get?_push_size _ rfl, rfl, rfl⟩ q)
    · exact wpAny_pyIter_ascii ha (pi_one (tk := s1.toks) I1 _ (turn_str _ z t "str_ascii_iterator" (.inl rfl)) ⟨_, Heap.get?_push_size _ rfl, rfl, rfl⟩ q)
/-- what one walks -/
def iterL? : D → Option (List D)
  | .str z => some (z.cps.toList.map fun c => .str ⟨#[c]⟩)
  | d => tupL? d
theorem src_s {M : MS} (z : Str) : SrcOk S M H (Its z) (z.cps.toList.map fun c => .str ⟨#[c]⟩) := fun M2 H2 k tr i => by
  refine ⟨fun d hd => ?_, fun hi => ?_⟩
  · rw [List.getElem?_map] at hd
    obtain ⟨c, h1, rfl⟩ := Option.map_eq_some_iff.mp hd
    have hi := (List.getElem?_eq_some_iff.mp h1).1
    have hc : z.cps[i]? = some c := by simpa using h1
    refine ⟨(by simpa using hi : i < z.cps.size), fun x H3 ⟨e1, c', e2, e3⟩ => ?_⟩
    subst e1 e3
    rw [hc] at e2; cases e2
    exact ⟨.rfl', rfl⟩
  · rw [List.length_map, Array.length_toList] at hi
    exact Nat.le_of_eq hi
theorem LAt.move {K : PySem.W.Frag} {M M2 : MS} {H2 : Hp} {a : Addr} {xs : List V} (k : ∀ a o, Nt o → ¬ M a → H a = some o → H2 a = some o ∧ ¬ M2 a) (h : LAt K M H a xs) : LAt K M2 H2 a xs := by
  rcases h with ⟨n, r⟩ | h
  · exact .inl (Rd.mv .lst (k a) n r)
  · exact .inr h
theorem src_l {M : MS} {a : Addr} {ds : List D} {vs : List V} (h : LAt S.K M H a vs) (l : RepL S M H ds vs) (inj : ∀ {H2 : Hp} {xs ys : List V}, SqL S.K H2 a xs → SqL S.K H2 a ys → xs = ys) : SrcOk S M H (Itl S.K a) ds := fun M2 H2 k tr i => by
  have h2 := LAt.move k h
  have l2 := RepL.move k _ _ l
  refine ⟨fun d hd => ?_, fun hi => ⟨vs, h2.seq, by rw [← l2.len, hi]; exact Nat.le_refl _⟩⟩
  obtain ⟨v, e1, e2⟩ := l2.get hd
  exact ⟨⟨vs, v, h2.seq, e1⟩, fun x H3 ⟨e3, y⟩ => by
    subst e3
    have := y vs h2.seq
    rw [e1] at this; cases this
    exact ⟨.rfl', e2⟩⟩
theorem src_t {M : MS} {a : Addr} {ds : List D} {vs : List V} (n : ¬ M a) (h : ∀ H2 : Hp, (∀ o, Nt o → H a = some o → H2 a = some o) → SqT S.K H2 a vs) (ht : ∃ o, H a = some o) (l : RepL S M H ds vs) : SrcOk S M H (Itt S.K a) ds := fun M2 H2 k tr i => by
  have h2 := h H2 fun o t e => (k a o t n e).1
  have l2 := RepL.move k _ _ l
  refine ⟨fun d hd => ?_, fun hi => ⟨vs, h2, by rw [← l2.len, hi]; exact Nat.le_refl _⟩⟩
  obtain ⟨v, e1, e2⟩ := l2.get hd
  exact ⟨⟨vs, v, h2, e1⟩, fun x H3 ⟨e3, y⟩ => by
    subst e3
    have := y vs h2
    rw [e1] at this; cases this
    exact ⟨.rfl', e2⟩⟩
def seqI (F : Nat → List Str) (f : EF) : LF where
  r := fun env P X => f.r env (fun e env1 => ∃ d, e.keep F = some d ∧ ∃ ds, iterL? d = some ds ∧ P ds env1) X
  m := fun hp hx h => f.m (fun _ _ ⟨d, h1, ds, h2, h3⟩ => ⟨d, h1, ds, h2, hp _ _ h3⟩) hx h
/-- what a sequence holds -/
theorem seq_v {M : MS} {H : Hp} {d : D} {ds : List D} {v : V} (r : Rep S M H d v) (h : tupL? d = some ds) : ∃ a vs, v = .ref a ∧ RepL S M H ds vs ∧ (LAt S.K M H a vs ∨ (¬ M a ∧ (∃ o, H a = some o) ∧ ∀ H2 : Hp, (∀ o, Nt o → H a = some o → H2 a = some o) → SqT S.K H2 a vs)) := by
  unfold tupL? at h
  split at h
  · cases h
    obtain ⟨a, us, rfl, n, ra, l⟩ := r
    exact ⟨a, us, rfl, l, .inr ⟨n, ⟨_, ra⟩, fun H2 k => .of (k _ .tup ra)⟩⟩
  · cases h
    obtain ⟨a, ob, rfl, n, ra, _⟩ := r
    exact ⟨a, _, rfl, strs_rep _, .inr ⟨n, ⟨_, ra⟩, fun H2 k => .inl (.inr ⟨ob, k _ .frz ra⟩)⟩⟩
  · cases h
    obtain ⟨a, us, rfl, ra, l⟩ := r
    exact ⟨a, us, rfl, l, .inl ra⟩
  · cases h
theorem i_seq (hk : X.K = S.K) (he : PE X e (tE S M0 E f)) : PI X tg e (tI S M0 E (seqI S.flds f)) := PI.imp (pi_seqA hk he) fun σ H R h => by
  obtain ⟨B, ow, env, s, h⟩ := h
  refine ⟨B, ow, env, s, f.m (fun e1 env1 h1 v H1 ow1 st1 nw1 ok1 => ?_) (fun _ _ h => h) h⟩
  obtain ⟨d, q, ds, h1, h2⟩ := h1
  obtain ⟨s1, r1⟩ := ok1.keep q
  by_cases hz : ∃ z, d = .str z
  · obtain ⟨z, rfl⟩ := hz
    cases h1
    cases r1
    exact .inr ⟨z, rfl, h2 _ H1 ow1 st1 s1 (src_s z)⟩
  have h1 : tupL? d = some ds := by
    cases d <;> first | exact h1 | exact absurd ⟨_, rfl⟩ hz
  obtain ⟨a, vs, rfl, l, hs⟩ := seq_v r1 h1
  refine .inl ?_
  rcases hs with hs | ⟨n, ⟨o, ho⟩, hs⟩
  · refine ⟨a, vs, rfl, .inl ⟨hs.seq, h2 _ H1 ow1 st1 s1 ?_⟩⟩
    refine fun M2 H2 k tr i => ?_
    have h2 := LAt.move k hs
    have l2 := RepL.move k _ _ l
    refine ⟨fun d hd => ?_, fun hi => ⟨vs, h2.seq, by rw [← l2.len, hi]; exact Nat.le_refl _⟩⟩
    obtain ⟨v, e1, e2⟩ := l2.get hd
    exact ⟨⟨vs, v, h2.seq, e1⟩, fun x H3 ⟨e3, y⟩ => by
      subst e3
      have := y vs h2.seq
      rw [e1] at this; cases this
      exact ⟨.rfl', e2⟩⟩
  · exact ⟨a, vs, rfl, .inr ⟨hs H1 fun _ _ h => h, h2 _ H1 ow1 st1 s1 (src_t n hs ⟨o, ho⟩ l)⟩⟩
/-- lo, lo + 1, .. -/
def intsD (lo : Int) (n : Nat) : List D := (List.range n).map fun i : Nat => D.int (lo + (i : Int))
theorem src_r (M : MS) (lo : Int) (n : Nat) : SrcOk S M H (Itr lo n) (intsD lo n) := fun M2 H2 k tr i => by
  refine ⟨fun d hd => ?_, fun hi => ?_⟩
  · unfold intsD at hd
    rw [List.getElem?_map] at hd
    obtain ⟨j, h1, rfl⟩ := Option.map_eq_some_iff.mp hd
    have hi := (List.getElem?_eq_some_iff.mp h1).1
    rw [List.length_range] at hi
    rw [List.getElem?_range hi] at h1
    cases h1
    exact ⟨hi, fun x H3 ⟨e1, e2⟩ => by subst e1; exact ⟨.rfl', e2⟩⟩
  · simp [intsD] at hi
    exact Nat.le_of_eq hi
def rngI (f : EF) : LF where
  r := fun env P X => f.r env (fun e env1 => ∃ n, e = .val (.int n) ∧ (-1000000 ≤ n ∧ n ≤ 1000000) ∧ P (intsD 0 n.toNat) env1) X
  m := fun hp hx h => f.m (fun _ _ ⟨n, h1, h2, h3⟩ => ⟨n, h1, h2, hp _ _ h3⟩) hx h
def rngI2 (f f2 : EF) : LF where
  r := fun env P X => f.r env (fun e env1 => ∃ i, e = .val (.int i) ∧ (-1000000 ≤ i ∧ i ≤ 1000000) ∧ f2.r env1 (fun e2 env2 => ∃ n, e2 = .val (.int n) ∧ (-1000000 ≤ n ∧ n ≤ 1000000) ∧ P (intsD i (n - i).toNat) env2) X) X
  m := fun hp hx h => f.m (fun _ _ ⟨i, h1, h2, h3⟩ => ⟨i, h1, h2, f2.m (fun _ _ ⟨n, h4, h5, h6⟩ => ⟨n, h4, h5, hp _ _ h6⟩) hx h3⟩) hx h
theorem i_rng (hm : X.mg "range" = none) (ha : PE X a (tE S M0 E f)) (hg : Gl X "range" := by rfl) (hs : starEach [a] X.env = [(false, eval a X.env)] := by rfl) : PI X tg (.Call (.Name "range" p) [a] [] pos) (tI S M0 E (rngI f)) :=
  PI.imp (pi_range1 hg hm (pa_cons ha pa_nil hs) hs) fun σ H R h => by
    obtain ⟨B, ow, env, s, h⟩ := h
    refine ⟨B, ow, env, s, f.m (fun e1 env1 h1 v H1 ow1 st1 nw1 ok1 => ?_) (fun _ _ h => h) h⟩
    obtain ⟨n, rfl, h2, h3⟩ := h1
    obtain ⟨s1, r1⟩ := ok1
    cases r1
    exact ⟨n, rfl, by omega, by omega, h3 _ H1 ow1 st1 s1 (src_r _ _ _)⟩
theorem i_rng2 (hm : X.mg "range" = none) (ha : PE X a (tE S M0 E f)) (hb : PE X b (tE S M0 E f2)) (hg : Gl X "range" := by rfl) (hs : starEach [a, b] X.env = [(false, eval a X.env), (false, eval b X.env)] := by rfl) (hs2 : starEach [b] X.env = [(false, eval b X.env)] := by rfl)
    (he : starEach [a, b] X.env = (false, eval a X.env) :: starEach [b] X.env := by rfl) (he2 : starEach [b] X.env = (false, eval b X.env) :: starEach [] X.env := by rfl) : PI X tg (.Call (.Name "range" p) [a, b] [] pos) (tI S M0 E (rngI2 f f2)) :=
  PI.imp (pi_range2 hg hm (pa_cons ha (pa_cons hb pa_nil he2) he) hs hs2) fun σ H R h => by
    obtain ⟨B, ow, env, s, h⟩ := h
    refine ⟨B, ow, env, s, f.m (fun e1 env1 h1 v H1 ow1 st1 nw1 ok1 => ?_) (fun _ _ h => h) h⟩
    obtain ⟨i, rfl, h2, h3⟩ := h1
    obtain ⟨s1, r1⟩ := ok1
    cases r1
    refine ⟨B, ow1, env1, s1, f2.m (fun e2 env2 h4 v H2 ow2 st2 nw2 ok2 => ?_) (fun _ _ h => h.stp st1) h3⟩
    obtain ⟨n, rfl, h5, h6⟩ := h4
    obtain ⟨s2, r2⟩ := ok2
    cases r2
    exact ⟨i, n, rfl, ⟨by omega, by omega, by omega, by omega⟩, h6 _ H2 ow2 (st1.trans st2) s2 (src_r _ _ _)⟩
/-- the items in pairs with their places -/
def enumD (ds : List D) : List D := ds.zipIdx.map fun q => D.tup [.int ((q.2 : Nat) : Int), q.1]
theorem enumD_get {ds : List D} {i : Nat} {d : D} (h : (enumD ds)[i]? = some d) : ∃ z, ds[i]? = some z ∧ d = .tup [.int (i : Int), z] := by
  unfold enumD at h
  rw [List.getElem?_map, List.getElem?_zipIdx] at h
  cases q : ds[i]? with
  | none => rw [q] at h; cases h
  | some z => rw [q] at h; simp at h; exact ⟨z, rfl, h.symm⟩
theorem enumD_len (ds : List D) : (enumD ds).length = ds.length := by simp [enumD]
def enumI (F : Nat → List Str) (f : EF) : LF where
  r := fun env P X => f.r env (fun e env1 => ∃ d, e.keep F = some d ∧ ∃ ds, tupL? d = some ds ∧ P (enumD ds) env1) X
  m := fun hp hx h => f.m (fun _ _ ⟨d, h1, ds, h2, h3⟩ => ⟨d, h1, ds, h2, hp _ _ h3⟩) hx h
theorem pair_rep {M2 : MS} {H2 : Hp} {T : Addr} {d : D} {v : V} {i : Int} (tr : ∀ a, M2 a → ∃ u, H2 a = some u) (hT : H2 T = none) (r : Rep S M2 H2 d v) : Rep S M2 (upd H2 T (.tup [.int i, v])) (.tup [.int i, d]) (.ref T) :=
  ⟨T, _, rfl, fresh_nm tr hT, upd_same, ⟨_, _, rfl, rfl, ⟨_, _, rfl, Rep.move (fun a o _ n e => ⟨Grow.upd hT a o e, n⟩) _ _ r, rfl⟩⟩⟩
theorem i_enum (hk : X.K = S.K) (hm : X.mg "enumerate" = none) (ha : PE X a (tE S M0 E f)) (hg : Gl X "enumerate" := by rfl) (hs : starEach [a] X.env = [(false, eval a X.env)] := by rfl) : PI X (.Tuple elts kk tpos) (.Call (.Name "enumerate" p) [a] [] pos) (tI S M0 E (enumI S.flds f)) :=
  PI.imp (pi_enumT hg hm (pa_cons ha pa_nil hs) hs) fun σ H R h => by
    obtain ⟨B, ow, env, s, h⟩ := h
    refine ⟨B, ow, env, s, f.m (fun e1 env1 h1 v H1 ow1 st1 nw1 ok1 => ?_) (fun _ _ h => h) h⟩
    obtain ⟨d, q, ds, h1, h2⟩ := h1
    obtain ⟨s1, r1⟩ := ok1.keep q
    obtain ⟨a, vs, rfl, l, hs⟩ := seq_v r1 h1
    rw [hk]
    rcases hs with hs | ⟨n, ⟨o, ho⟩, hs⟩
    · refine ⟨a, vs, rfl, .inl ⟨hs.seq, h2 _ H1 ow1 st1 s1 fun M2 H2 k tr i => ?_⟩⟩
      have g2 := LAt.move k hs
      have l2 := RepL.move k _ _ l
      refine ⟨fun d hd => ?_, fun hi => ⟨vs, g2.seq, by rw [← l2.len, ← enumD_len, hi]; exact Nat.le_refl _⟩⟩
      obtain ⟨z, hz, rfl⟩ := enumD_get hd
      obtain ⟨v, e1, e2⟩ := l2.get hz
      exact ⟨⟨vs, v, g2.seq, e1⟩, fun x H3 ⟨T, w, ex, hT, e3, y⟩ => by
        subst ex e3
        have := y vs g2.seq
        rw [e1] at this; cases this
        exact ⟨.upd hT, pair_rep tr hT e2⟩⟩
    · refine ⟨a, vs, rfl, .inr ⟨hs H1 fun _ _ h => h, h2 _ H1 ow1 st1 s1 fun M2 H2 k tr i => ?_⟩⟩
      have g2 := hs H2 fun o t e => (k a o t n e).1
      have l2 := RepL.move k _ _ l
      refine ⟨fun d hd => ?_, fun hi => ⟨vs, g2, by rw [← l2.len, ← enumD_len, hi]⟩⟩
      obtain ⟨z, hz, rfl⟩ := enumD_get hd
      obtain ⟨v, e1, e2⟩ := l2.get hz
      exact ⟨⟨vs, v, g2, e1⟩, fun x H3 ⟨T, w, ex, hT, e3, y⟩ => by
        subst ex e3
        have := y vs g2
        rw [e1] at this; cases this
        exact ⟨.upd hT, pair_rep tr hT e2⟩⟩
/-! ### for -/
def forL (p : Pat) (body : SF) (P : Pst) (X : Exx) : List D → Env' → Prop
  | [], env => P.nx env
  | d :: ds, env => ∃ env1, p.put d env = some env1 ∧ body.r env1 { P with nx := forL p body P X ds, ct := forL p body P X ds, bk := P.nx } X
theorem forL_m {p : Pat} {body : SF} {P P' : Pst} {X X' : Exx} (hp : P.Le P') (hx : ∀ c fs, X c fs → X' c fs) : ∀ {ds : List D} {env : Env'}, forL p body P X ds env → forL p body P' X' ds env
  | [], _, h => hp.nx _ h
  | d :: ds, _, ⟨env1, h1, h2⟩ => ⟨env1, h1, body.m (P := { P with nx := forL p body P X ds, ct := forL p body P X ds, bk := P.nx }) (P' := { P' with nx := forL p body P' X' ds, ct := forL p body P' X' ds, bk := P'.nx })
      ⟨fun _ h => forL_m hp hx h, hp.rt, hp.nx, fun _ h => forL_m hp hx h⟩ hx h2⟩
def forS (it : LF) (p : Pat) (body : SF) : SF where
  r := fun env P X => it.r env (fun ds env1 => forL p body P X ds env1) X
  m := fun hp hx h => it.m (fun _ _ h => forL_m hp hx h) hx h
theorem s_for {it : LF} {p : Pat} {vs : List Nat} {body : List Stmt} {sb : SF} (hc : X.calm = true) (hp : PassesOwn (model X.prog X.w) X.A X.env X.xe) (hi : PI X tg iter (tI S M0 E it)) (hg : PG X tg (tGp S M0 p vs)) (hb : PSs X body (tS S M0 E sb))
    (hs : ∀ x, foldedSetIterable iter X.env x = pure x := by intro _; rfl) : PS X (.For tg iter body [] pos) (tS S M0 E (forS it p sb)) := PS.imp (ps_for hp hc hi hg hb hs) fun D σ H h => by
  obtain ⟨B, ow, env, s, h⟩ := h
  refine ⟨B, ow, env, s, it.m (fun ds env1 h1 J H1 ow1 st1 s1 src => ?_) (fun _ _ h => h) h⟩
  let W : Nat → Nat → L2.St → Hp → Prop := fun i m σ2 H2 => ∃ ow2 env2, m = ds.length - i ∧ i ≤ ds.length ∧ Stp ow1 H1 ow2 H2 ∧ Sim S M0 B ow2 env2 σ2 H2 ∧ forL p sb (pst S M0 B ow H D) (XP S M0 E ow H) (ds.drop i) env2
  refine ⟨W, ⟨_, ow1, env1, rfl, Nat.zero_le _, .refl, s1, h1⟩, ?_⟩
  rintro i m σ2 H2 ⟨ow2, env2, rfl, hi, st2, s2, h2⟩
  have mv : ∀ a o, Nt o → ¬ Md B ow1 a → H1 a = some o → H2 a = some o ∧ ¬ Md B ow2 a := fun a o t n e => ⟨st2.kp a o t (fun z => n (.inr z)) e, fun z => z.elim (fun z => n (.inl z)) fun z => (st2.nw a z).elim (fun z => n (.inr z)) fun z => by rw [z] at e; cases e⟩
  obtain ⟨k1, k2⟩ := src (Md B ow2) H2 mv s2.trkA i
  by_cases hlt : i < ds.length
  · right
    have hd : ds[i]? = some ds[i] := List.getElem?_eq_getElem hlt
    obtain ⟨g1, g2⟩ := k1 _ hd
    rw [List.drop_eq_getElem_cons hlt] at h2
    obtain ⟨env3, h3, h4⟩ := h2
    refine ⟨g1, fun σ' H' => ∃ ow' env', Stp ow1 H1 ow' H' ∧ Sim S M0 B ow' env' σ' H' ∧ forL p sb (pst S M0 B ow H D) (XP S M0 E ow H) (ds.drop (i + 1)) env', fun σ' H' ⟨ow', env', z1, z2, z3⟩ => ⟨ds.length - (i + 1), by omega, ow', env', rfl, hlt, z1, z2, z3⟩, fun x H' y => ?_⟩
    obtain ⟨gr, r⟩ := g2 x H' y
    refine ⟨B, ow2, env2, ds[i], env3, s2.grow gr, r, h3, fun σ3 ow3 st3 s3 _ => ?_⟩
    have st : Stp ow1 H1 ow3 H' := (st2.trans (.grow gr)).trans st3
    have sto : Stp ow H ow3 H' := st1.trans st
    refine ⟨B, ow3, env3, s3, sb.m ⟨fun env4 h σ' H' ow' st' s' => ?_, fun e env4 h v σ' H' ow' st' nw s' => ?_, fun env4 h σ' H' ow' st' s' => ?_, fun env4 h σ' H' ow' st' s' => ?_⟩ (fun _ _ h => h.stp sto) h4⟩
    · exact ⟨ow', env4, st.trans st', s', h⟩
    · exact h v σ' H' ow' (sto.trans st') (nw.back sto) s'
    · exact h σ' H' ow' (sto.trans st') s'
    · exact ⟨ow', env4, st.trans st', s', h⟩
  · have e : i = ds.length := by omega
    subst e
    rw [List.drop_length] at h2
    exact .inl ⟨k2 rfl, h2 σ2 H2 ow2 (st1.trans st2) s2⟩
/-! ### while -/
def whileN (t : TF) (body : SF) (P : Pst) (X : Exx) : Nat → Env' → Prop
  | 0, _ => False
  | n + 1, env => t.r env (fun k env1 => if k = true then body.r env1 { P with nx := whileN t body P X n, ct := whileN t body P X n, bk := P.nx } X else P.nx env1) X
theorem whileN_m {t : TF} {body : SF} {P P' : Pst} {X X' : Exx} (hp : P.Le P') (hx : ∀ c fs, X c fs → X' c fs) : ∀ {n : Nat} {env : Env'}, whileN t body P X n env → whileN t body P' X' n env
  | 0, _, h => h
  | n + 1, _, h => t.m (fun k env1 h => by
      split at h
      · rename_i z; rw [if_pos z]
        exact body.m (P := { P with nx := whileN t body P X n, ct := whileN t body P X n, bk := P.nx }) (P' := { P' with nx := whileN t body P' X' n, ct := whileN t body P' X' n, bk := P'.nx })
          ⟨fun _ h => whileN_m hp hx h, hp.rt, hp.nx, fun _ h => whileN_m hp hx h⟩ hx h
      · rename_i z; rw [if_neg z]; exact hp.nx _ h) hx h
def whileS (t : TF) (body : SF) : SF where
  r := fun env P X => ∃ n, whileN t body P X n env
  m := fun hp hx ⟨n, h⟩ => ⟨n, whileN_m hp hx h⟩
theorem s_while {c : Expr} {body : List Stmt} {sb : SF} (hp : PassesOwn (model X.prog X.w) X.A X.env X.xe) (hc : PT X c (tT S M0 E t)) (hb : PSs X body (tS S M0 E sb)) : PS X (.While c body [] pos) (tS S M0 E (whileS t sb)) := PS.imp (ps_while hp hc hb) fun D σ H h => by
  obtain ⟨B, ow, env, s, n, h⟩ := h
  refine ⟨fun m σ2 H2 => ∃ ow2 env2, Stp ow H ow2 H2 ∧ Sim S M0 B ow2 env2 σ2 H2 ∧ whileN t sb (pst S M0 B ow H D) (XP S M0 E ow H) m env2, ⟨n, ow, env, .refl, s, h⟩, ?_⟩
  rintro m σ2 H2 ⟨ow2, env2, st2, s2, h2⟩
  cases m with
  | zero => exact h2.elim
  | succ m =>
    refine ⟨B, ow2, env2, s2, t.m (fun k env3 h3 H3 ow3 st3 s3 => ?_) (fun _ _ h => h.stp st2) h2⟩
    have st := st2.trans st3
    cases k with
    | false =>
      rw [if_neg Bool.false_ne_true] at h3
      show D.nx σ2 H3
      exact h3 σ2 H3 ow3 st s3
    | true =>
      rw [if_pos rfl] at h3
      show ∃ N : L2.St → Hp → Prop, _
      refine ⟨fun σ' H' => ∃ ow' env', Stp ow H ow' H' ∧ Sim S M0 B ow' env' σ' H' ∧ whileN t sb (pst S M0 B ow H D) (XP S M0 E ow H) m env', fun σ' H' z => ⟨m, Nat.lt_succ_self m, z⟩, ?_⟩
      refine ⟨B, ow3, env3, s3, sb.m ⟨fun env4 h σ' H' ow' st' s' => ?_, fun e env4 h v σ' H' ow' st' nw s' => ?_, fun env4 h σ' H' ow' st' s' => ?_, fun env4 h σ' H' ow' st' s' => ?_⟩ (fun _ _ h => h.stp st) h3⟩
      · exact ⟨ow', env4, st.trans st', s', h⟩
      · exact h v σ' H' ow' (st.trans st') (nw.back st) s'
      · exact h σ' H' ow' (st.trans st') s'
      · exact ⟨ow', env4, st.trans st', s', h⟩
end
end En
set_option Elab.async false
set_option linter.all false
set_option maxRecDepth 100000
namespace En
open PySem PySem.Spec PyProof.Rows L2
section
variable {X : Cx} {S : Sg} {M0 B : MS} {E : XK} {ow ow0 : OW} {env env1 : Env'} {σ : L2.St} {H H0 : Hp}
variable {a b c e e2 elt : Expr} {es ifs : List Expr} {f f2 f3 : EF} {t t2 : TF} {pos p apos tpos : Pos} {x : Str} {l it : LF} {tg iter : Expr} {kk : Nat} {elts : List Expr}
/-! ### comprehensions -/
def wipeE (env : Env') : List Nat → Env'
  | [] => env
  | v :: vs => (wipeE env vs).set v .un
def Slot.plain : Slot → Bool
  | .un => true
  | .val _ => true
  | _ => false
def okW (env : Env') (vs : List Nat) : Bool := vs.all fun v => match env[v]? with
  | some s => s.plain
  | none => true
def restE (env env1 : Env') : List Nat → Env'
  | [] => env
  | v :: vs => match env1[v]? with
    | some s => (restE env env1 vs).set v s
    | none => restE env env1 vs
theorem wipeE_len : ∀ vs : List Nat, (wipeE env vs).length = env.length
  | [] => rfl
  | v :: vs => by unfold wipeE; rw [List.length_set, wipeE_len vs]
theorem wipeE_get : ∀ (vs : List Nat) (j : Nat), (wipeE env vs)[j]? = if j ∈ vs then (env[j]?).map fun _ => Slot.un else env[j]?
  | [], j => by simp [wipeE]
  | v :: vs, j => by
    unfold wipeE
    by_cases hj : v = j
    · subst hj
      rw [if_pos List.mem_cons_self]
      by_cases hv : v < env.length
      · rw [List.getElem?_set_self (by rw [wipeE_len]; exact hv), List.getElem?_eq_getElem hv]; rfl
      · rw [List.getElem?_eq_none (by rw [List.length_set, wipeE_len]; omega), List.getElem?_eq_none (by omega)]; rfl
    · rw [List.getElem?_set_ne hj, wipeE_get vs j]
      by_cases hm : j ∈ vs
      · rw [if_pos hm, if_pos (List.mem_cons_of_mem _ hm)]
      · rw [if_neg hm, if_neg (by simp [hm, Ne.symm hj])]
theorem restE_len : ∀ vs : List Nat, (restE env env1 vs).length = env.length
  | [] => rfl
  | v :: vs => by
    unfold restE
    split
    · rw [List.length_set, restE_len vs]
    · exact restE_len vs
theorem restE_get (hl : env.length = env1.length) : ∀ (vs : List Nat) (j : Nat), (restE env env1 vs)[j]? = if j ∈ vs then env1[j]? else env[j]?
  | [], j => by simp [restE]
  | v :: vs, j => by
    unfold restE
    by_cases hj : v = j
    · subst hj
      rw [if_pos List.mem_cons_self]
      cases q : env1[v]? with
      | none =>
        rw [List.getElem?_eq_none_iff] at q
        exact List.getElem?_eq_none (by rw [restE_len]; omega)
      | some s =>
        have := (List.getElem?_eq_some_iff.mp q).1
        exact List.getElem?_set_self (by rw [restE_len]; omega)
    · have g : (restE env env1 vs)[j]? = if j ∈ v :: vs then env1[j]? else env[j]? := by
        rw [restE_get hl vs j]
        by_cases hm : j ∈ vs
        · rw [if_pos hm, if_pos (List.mem_cons_of_mem _ hm)]
        · rw [if_neg hm, if_neg (by simp [hm, Ne.symm hj])]
      split
      · rw [List.getElem?_set_ne hj]; exact g
      · exact g
theorem okW_of {vs : List Nat} {v : Nat} {s : Slot} (h : okW env vs = true) (hv : v ∈ vs) (e : env[v]? = some s) : s.plain = true := by
  unfold okW at h
  rw [List.all_eq_true] at h
  have := h v hv
  rw [e] at this
  exact this
theorem okW_wipe (vs : List Nat) : okW (wipeE env vs) vs = true := by
  unfold okW
  rw [List.all_eq_true]
  intro v hv
  rw [wipeE_get, if_pos hv]
  cases env[v]? <;> rfl
theorem Sim.wipe {vs : List Nat} (s : Sim S M0 B ow env σ H) (h : okW env vs = true) : Sim S M0 B ow (wipeE env vs) (L2.wipe σ vs) H where
  l1 := by rw [wipeE_len, wipe_length]; exact s.l1
  l2 := by rw [wipe_length]; exact s.l2
  val := fun i d e => by
    rw [wipeE_get] at e
    rw [wipe_get]
    by_cases hi : i ∈ vs
    · rw [if_pos hi] at e
      cases q : env[i]? <;> rw [q] at e <;> cases e
    · rw [if_neg hi] at e ⊢
      exact s.val i d e
  own := fun i o e => by
    rw [wipeE_get] at e
    rw [wipe_get]
    by_cases hi : i ∈ vs
    · rw [if_pos hi] at e
      cases q : env[i]? <;> rw [q] at e <;> cases e
    · rw [if_neg hi] at e ⊢
      exact s.own i o e
  io := fun i o e => by
    rw [wipeE_get] at e
    rw [wipe_get]
    by_cases hi : i ∈ vs
    · rw [if_pos hi] at e
      cases q : env[i]? <;> rw [q] at e <;> cases e
    · rw [if_neg hi] at e ⊢
      exact s.io i o e
  live := fun i a ha => by
    obtain ⟨o, q⟩ := s.live i a ha
    have hi : i ∉ vs := fun hi => by
      rcases q with q | q
      · cases okW_of h hi q
      · cases okW_of h hi q
    rw [wipeE_get, if_neg hi]
    exact ⟨o, q⟩
  inj := s.inj
  dis := s.dis
  trk := s.trk
  m0 := s.m0
  tb := s.tb
theorem Sim.rest {vs : List Nat} {σ1 : L2.St} (s : Sim S M0 B ow env σ1 H) (hw : okW env vs = true) (h1 : okW env1 vs = true) (hl : env1.length = env.length) (hs : ∀ j, j ∉ vs → σ1[j]? = σ[j]?) (hsl : σ1.length = σ.length)
    (hv : ∀ j d, j ∈ vs → env1[j]? = some (.val d) → ∃ v, σ[j]? = some (some v) ∧ Rep S (Md B ow) H d v) : Sim S M0 B ow (restE env env1 vs) σ H where
  l1 := by rw [restE_len, s.l1, hsl]
  l2 := by rw [s.l2, hsl]
  val := fun i d e => by
    rw [restE_get hl.symm] at e
    by_cases hi : i ∈ vs
    · rw [if_pos hi] at e
      exact hv i d hi e
    · rw [if_neg hi] at e
      rw [← hs i hi]
      exact s.val i d e
  own := fun i o e => by
    rw [restE_get hl.symm] at e
    by_cases hi : i ∈ vs
    · rw [if_pos hi] at e
      cases okW_of h1 hi e
    · rw [if_neg hi] at e
      rw [← hs i hi]
      exact s.own i o e
  io := fun i o e => by
    rw [restE_get hl.symm] at e
    by_cases hi : i ∈ vs
    · rw [if_pos hi] at e
      cases okW_of h1 hi e
    · rw [if_neg hi] at e
      rw [← hs i hi]
      exact s.io i o e
  live := fun i a ha => by
    obtain ⟨o, q⟩ := s.live i a ha
    have hi : i ∉ vs := fun hi => by
      rcases q with q | q
      · cases okW_of hw hi q
      · cases okW_of hw hi q
    rw [restE_get hl.symm, if_neg hi]
    exact ⟨o, q⟩
  inj := s.inj
  dis := s.dis
  trk := s.trk
  m0 := s.m0
  tb := s.tb
def X0 : Exx := fun _ _ => False
def yesT : TF where
  r := fun env P _ => P true env
  m := fun hp _ h => hp _ _ h
theorem t_none : PTs X [] (tT S M0 E yesT) := ⟨fun pins s σ H Q I h => by
  obtain ⟨B, ow, env, sm, h⟩ := h
  exact pts_nil.run pins s σ H Q I (h H ow .refl sm)⟩
theorem t_some (h : PT X c (tT S M0 E t)) : PTs X [c] (tT S M0 E t) := pts_one h
def compL (F : Nat → List Str) (p : Pat) (t : TF) (f : EF) (vs : List Nat) (P : List D → Env' → Prop) : List D → List D → Env' → Prop
  | [], acc, env => P acc env
  | d :: ds, acc, env => ∃ env2, p.put d env = some env2 ∧ t.r env2 (fun b env3 => if b = true then f.r env3 (fun e env4 => ∃ d', e.keep F = some d' ∧ acc.length < 100000 ∧ okW env4 vs = true ∧ compL F p t f vs P ds (acc ++ [d']) (wipeE env4 vs)) X0
      else okW env3 vs = true ∧ compL F p t f vs P ds acc (wipeE env3 vs)) X0
theorem compL_m {F : Nat → List Str} {p : Pat} {t : TF} {f : EF} {vs : List Nat} {P P' : List D → Env' → Prop} (hp : ∀ a e, P a e → P' a e) : ∀ {ds acc : List D} {env : Env'}, compL F p t f vs P ds acc env → compL F p t f vs P' ds acc env
  | [], _, _, h => hp _ _ h
  | d :: ds, acc, env, ⟨env2, h1, h2⟩ => ⟨env2, h1, t.m (fun b env3 h => by
      split at h
      · rename_i z; rw [if_pos z]
        exact f.m (fun e env4 ⟨d', q1, q2, q3, q4⟩ => ⟨d', q1, q2, q3, compL_m hp q4⟩) (fun _ _ h => h) h
      · rename_i z; rw [if_neg z]; exact ⟨h.1, compL_m hp h.2⟩) (fun _ _ h => h) h2⟩
def lcF (F : Nat → List Str) (it : LF) (p : Pat) (t : TF) (f : EF) (vs : List Nat) : EF where
  r := fun env P X => it.r env (fun ds env1 => okW env1 vs = true ∧ compL F p t f vs (fun acc envW => P (.new (.lst acc)) (restE envW env1 vs)) ds [] (wipeE env1 vs)) X
  m := fun hp hx h => it.m (fun ds env1 h => ⟨h.1, compL_m (fun _ _ h => hp _ _ h) h.2⟩) hx h
/-- another's object changes -/
theorem Sim.other {a : Addr} {ho : HO} (s : Sim S M0 B ow env σ H) (ha : B a) {u : HO} (hu : H a = some u) (hn : Nt u) (hcc : ∀ b q, u ≠ LamX.CodeO b q) : Sim S M0 B ow env σ (upd H a ho) := by
  have hm : Md B ow a := .inl ha
  have mv : ∀ b o, Nt o → ¬ Md B ow b → H b = some o → (upd H a ho) b = some o ∧ ¬ Md B ow b := fun b o _ n e => ⟨by rw [upd_ne (fun z => n (by rw [z]; exact hm))]; exact e, n⟩
  have nw : ∀ {i : Nat} {b : Addr}, ow[i]? = some (some b) → b ≠ a := fun h z => s.dis a ha (by rw [← z]; exact List.mem_of_getElem? h)
  exact {
    l1 := s.l1
    l2 := s.l2
    val := fun i d e => by
      obtain ⟨v, h1, h2⟩ := s.val i d e
      exact ⟨v, h1, Rep.move mv _ _ h2⟩
    own := fun i o e => by
      obtain ⟨b, h1, h2, h3, h4⟩ := s.own i o e
      exact ⟨b, h1, h2, h3.move (fun u _ z => by rw [upd_ne (nw h1)]; exact z) mv, h4⟩
    io := fun i o e => by
      obtain ⟨b, h1, h2, h3⟩ := s.io i o e
      exact ⟨b, h1, h2, h3.move (fun u _ z => by rw [upd_ne (nw h1)]; exact z) mv⟩
    live := s.live
    inj := s.inj
    dis := s.dis
    trk := fun b hb => by
      by_cases hz : b = a
      · exact ⟨_, by rw [hz]; exact upd_same⟩
      · rw [upd_ne hz]; exact s.trk b hb
    m0 := s.m0
    tb := s.tb.move mv (tbl_upd hu hn) }
theorem lc_of {p : Pat} {vs : List Nat} {Q : VK} (h : tE S M0 E (lcF S.flds it p t f vs) σ H Q) : tLc (tI S M0 E it) (tGp S M0 p vs) (tT S M0 E0 t) (tE S M0 E0 f) vs σ H Q := by
  obtain ⟨B, ow, env, s, h⟩ := h
  refine ⟨B, ow, env, s, it.m (fun ds env1 h1 J H1 ow1 st1 s1 src Dl hD => ?_) (fun _ _ h => h) h⟩
  obtain ⟨hok, h1⟩ := h1
  have nD : ¬ Md B ow1 Dl := fun z => by
    obtain ⟨u, hu⟩ := s1.trkA Dl z
    rw [hD] at hu; cases hu
  have nD0 : ¬ M0 Dl := fun z => nD (s1.m0 Dl z)
  have gr1 : Grow H1 (upd H1 Dl (.lst [])) := .upd hD
  let Pv : List D → Env' → Prop := fun acc envW => ∀ v H' ow', Stp ow H ow' H' → Nw H (.new (.lst acc)) v → EVOk S M0 B ow' (restE envW env1 vs) σ H' (.new (.lst acc)) v → Q v H'
  let W : Nat → Nat → Hp → Prop := fun i m H2 => ∃ ow2 envW acc us, m = ds.length - i ∧ i ≤ ds.length ∧ Stp ow1 H1 ow2 H2 ∧ Sim S M0 (plus B Dl) ow2 envW (L2.wipe σ vs) H2 ∧ okW envW vs = true ∧ envW.length = env1.length ∧ H2 Dl = some (.lst us) ∧ RepL S (Md (plus B Dl) ow2) H2 acc us ∧
    compL S.flds p t f vs Pv (ds.drop i) acc envW
  have sD : Sim S M0 (plus B Dl) ow1 (wipeE env1 vs) (L2.wipe σ vs) (upd H1 Dl (.lst [])) := by
    have := new_ok (ho := .lst []) (o := .lst []) (s1.wipe hok) hD fun M hM => ⟨[], upd_same, rfl⟩
    obtain ⟨p, ep, _, _, z, _⟩ := this
    cases ep
    exact z
  refine ⟨W, ⟨_, ow1, wipeE env1 vs, [], [], rfl, Nat.zero_le _, .grow gr1, sD, okW_wipe vs, wipeE_len vs, upd_same, rfl, h1⟩, ?_⟩
  rintro i m H2 ⟨ow2, envW, acc, us, rfl, hi, st2, s2, hoW, hlW, hD2, rl, h2⟩
  have mv : ∀ a o, Nt o → ¬ Md B ow1 a → H1 a = some o → H2 a = some o ∧ ¬ Md (plus B Dl) ow2 a := fun a o t n e => ⟨st2.kp a o t (fun z => n (.inr z)) e, fun z => by
    rcases z with (z | z) | z
    · exact n (.inl z)
    · subst z; rw [hD] at e; cases e
    · rcases st2.nw a z with z | z
      · exact n (.inr z)
      · rw [z] at e; cases e⟩
  obtain ⟨k1, k2⟩ := src (Md (plus B Dl) ow2) H2 mv s2.trkA i
  have noD : ∀ {ow3 : OW} {env3 : Env'} {σ3 : L2.St} {H3 : Hp}, Sim S M0 (plus B Dl) ow3 env3 σ3 H3 → some Dl ∉ ow3 := fun s3 => s3.dis Dl (.inr rfl)
  by_cases hlt : i < ds.length
  · right
    have hd : ds[i]? = some ds[i] := List.getElem?_eq_getElem hlt
    obtain ⟨g1, g2⟩ := k1 _ hd
    rw [List.drop_eq_getElem_cons hlt] at h2
    obtain ⟨env3, h3, h4⟩ := h2
    refine ⟨g1, fun H' => ∃ ow' envW' acc' us', Stp ow1 H1 ow' H' ∧ Sim S M0 (plus B Dl) ow' envW' (L2.wipe σ vs) H' ∧ okW envW' vs = true ∧ envW'.length = env1.length ∧ H' Dl = some (.lst us') ∧ RepL S (Md (plus B Dl) ow') H' acc' us' ∧ compL S.flds p t f vs Pv (ds.drop (i + 1)) acc' envW',
      fun H' ⟨ow', envW', acc', us', z⟩ => ⟨ds.length - (i + 1), by omega, ow', envW', acc', us', rfl, hlt, z⟩, fun x H' y => ?_⟩
    obtain ⟨gr, r⟩ := g2 x H' y
    have wid : ∀ σ', L2.wipe σ' vs = L2.wipe (L2.wipe σ vs) vs → L2.wipe σ' vs = L2.wipe σ vs := fun σ' z => z.trans wipe_idem
    refine ⟨plus B Dl, ow2, envW, ds[i], env3, s2.grow gr, r, h3, fun σ3 ow3 st3 s3 w3' => ?_⟩
    have w3 := wid σ3 w3'
    refine ⟨w3, ?_⟩
    have st : Stp ow1 H1 ow3 H' := (st2.trans (.grow gr)).trans st3
    refine ⟨plus B Dl, ow3, env3, s3, t.m (fun k env4 h H4 ow4 st4 s4 => ?_) (fun _ _ z => z.elim) h4⟩
    have st4' := st.trans st4
    have len4 : ∀ {envx : Env'} {owx : OW} {Hx : Hp}, Sim S M0 (plus B Dl) owx envx σ3 Hx → (wipeE envx vs).length = env1.length := fun sx => by
      rw [wipeE_len, sx.l1, ← hlW, s2.l1, ← wipe_length σ3 vs, w3]
    have hD4 : H4 Dl = some (.lst us) := st4.kp Dl _ .lst (noD s3) (gr Dl _ hD2)
    have rl4 : RepL S (Md (plus B Dl) ow4) H4 acc us := RepL.stp (((Stp.grow gr).trans st3).trans st4) rl
    cases k with
    | false =>
      rw [if_neg Bool.false_ne_true] at h
      have s4' := s4.wipe h.1
      rw [w3] at s4'
      show ∃ ow' envW' acc' us', _
      exact ⟨ow4, wipeE env4 vs, acc, us, st4', s4', okW_wipe vs, len4 s4, hD4, rl4, h.2⟩
    | true =>
      rw [if_pos rfl] at h
      show tE S M0 E0 f σ3 H4 _
      refine ⟨plus B Dl, ow4, env4, s4, f.m (fun e env5 h v H5 ow5 st5 nw5 ok5 => ?_) (fun _ _ z => z.elim) h⟩
      obtain ⟨d', q1, q2, q3, q4⟩ := h
      obtain ⟨s5, r5⟩ := ok5.keep q1
      have hD5 : H5 Dl = some (.lst us) := st5.kp Dl _ .lst (noD s4) hD4
      have rl5 := RepL.stp st5 rl4
      refine ⟨us, hD5, by rw [← rl5.len]; exact line5 q2, ?_⟩
      have hm : Md (plus B Dl) ow5 Dl := .inl (.inr rfl)
      have s5w := s5.wipe q3
      rw [w3] at s5w
      refine ⟨ow5, wipeE env5 vs, acc ++ [d'], us ++ [v], ?_, ?_, okW_wipe vs, len4 s5, upd_same, (rl5.upd_at hm).append ⟨v, [], rfl, r5.upd_at hm, rfl⟩, q4⟩
      · have stz := st4'.trans st5
        refine ⟨fun a o t n e => ?_, stz.nwp, fun a o e => ?_⟩
        · rw [upd_ne (fun z => by rw [z, hD] at e; cases e)]; exact stz.kp a o t n e
        · by_cases hz : a = Dl
          · exact ⟨_, by rw [hz]; exact upd_same⟩
          · rw [upd_ne hz]; exact stz.gr a o e
      · exact s5w.other (.inr rfl) hD5 .lst fun _ _ z => nomatch z
  · have e : i = ds.length := by omega
    subst e
    rw [List.drop_length] at h2
    refine .inl ⟨k2 rfl, ?_⟩
    have h2 : Pv acc envW := h2
    refine h2 _ H2 ow2 (st1.trans st2) (.at (st1.fresh hD)) ⟨Dl, rfl, fun z => ?_, nD0, ?_, us, hD2, rl⟩
    · rcases z with z | z
      · exact nD (.inl z)
      · exact noD s2 z
    · refine s2.rest hoW hok hlW.symm (fun j hj => ?_) (wipe_length _ _) (fun j d hj ej => ?_)
      · rw [wipe_get, if_neg hj]
      · obtain ⟨v, e1, e2⟩ := s1.val j d ej
        exact ⟨v, e1, Rep.move mv _ _ e2⟩
theorem r_lc {scope : Scope} {own : List (Str × Nat)} {p : Pat} (hk : X.K = S.K) (hc : X.calm = true) (hN : X.N.Nodup) (hi : PI X tg iter (tI S M0 E it)) (ok : BlkOk X.N X.env.scope scope own)
    (hg : ∀ (s : Shared) (H : Hp) (C : Addr) (cl : List (Str × Addr)) (fp : List Addr), PG (X.blk s H scope (compEnvC scope cl C X.env) fp) tg (tGp S M0 p (own.map (·.2)))) (ht : ∀ (s : Shared) (H : Hp) (C : Addr) (cl : List (Str × Addr)) (fp : List Addr), PTs (X.blk s H scope (compEnvC scope cl C X.env) fp) ifs (tT S M0 E0 t))
    (he : ∀ (s : Shared) (H : Hp) (C : Addr) (cl : List (Str × Addr)) (fp : List Addr), PE (X.blk s H scope (compEnvC scope cl C X.env) fp) elt (tE S M0 E0 f)) (hs : ∀ x, foldedSetIterable iter X.env x = pure x := by intro _; rfl) :
    PE X (.ListComp elt [⟨tg, iter, ifs, 0⟩] scope pos) (tE S M0 E (lcF S.flds it p t f (own.map (·.2)))) := PE.imp (pe_lc hc hN hi ok hg ht he hs) fun σ H Q h => lc_of h
/-- name = [..] on one line, the name a local -/
theorem s_setLc {i : Nat} {y : Str} {py spos : Pos} {scope : Scope} {own : List (Str × Nat)} {p : Pat} (hk : X.K = S.K) (hc : X.calm = true) (hN : X.N.Nodup) (hi : PI X tg iter (tI S M0 E it)) (ok : BlkOk X.N X.env.scope scope own)
    (hg : ∀ (s : Shared) (H : Hp) (C : Addr) (cl : List (Str × Addr)) (fp : List Addr), PG (X.blk s H scope (compEnvC scope cl C X.env) fp) tg (tGp S M0 p (own.map (·.2)))) (ht : ∀ (s : Shared) (H : Hp) (C : Addr) (cl : List (Str × Addr)) (fp : List Addr), PTs (X.blk s H scope (compEnvC scope cl C X.env) fp) ifs (tT S M0 E0 t))
    (he : ∀ (s : Shared) (H : Hp) (C : Addr) (cl : List (Str × Addr)) (fp : List Addr), PE (X.blk s H scope (compEnvC scope cl C X.env) fp) elt (tE S M0 E0 f))
    (hy : X.N[i]? = some y := by rfl) (hyl : X.env.scope.names.lookup y = some .local := by rfl) (hfn : X.env.scope.kind = .function := by rfl) (hl : (py.line == pos.line) = true := by rfl)
    (hany : (scope.names.any fun (n, k) => n == y && (k == .local || k == .cell)) = false := by rfl) (hs : ∀ x, foldedSetIterable iter X.env x = pure x := by intro _; rfl) :
    PS X (.Assign [.Name y py] (.ListComp elt [⟨tg, iter, ifs, 0⟩] scope pos) spos) (tS S M0 E (asgS i (lcF S.flds it p t f (own.map (·.2))))) :=
  PS.imp (ps_setLc (te := tE S M0 E0 f) hc hN hy hyl (sw_true hfn hyl hl hany) hi ok hg ht he hs) fun D σ H h => by
    obtain ⟨B, ow, env, s, h⟩ := h
    have h : (lcF S.flds it p t f (own.map (·.2))).r env (fun e env1 => ∃ env2, putE i e env1 = some env2 ∧ (pst S M0 B ow H D).nx env2) (XP S M0 E ow H) := h
    refine lc_of (E := E) ⟨B, ow, env, s, (lcF S.flds it p t f (own.map (·.2))).m (fun e env1 h v H1 ow1 st1 nw1 ok1 => ?_) (fun _ _ h => h) h⟩
    obtain ⟨env2, h1, h2⟩ := h
    obtain ⟨ow', st', s'⟩ := ok1.put st1 nw1 h1
    exact h2 _ H1 ow' st' s'
end
end En
set_option Elab.async false
set_option linter.all false
set_option maxRecDepth 100000
namespace En
open PySem PySem.Spec PyProof.Rows L2
section
variable {X : Cx} {S : Sg} {M0 B : MS} {E : XK} {ow ow0 ow1 : OW} {env env1 : Env'} {σ : L2.St} {H H0 H1 : Hp}
variable {a b c e e2 elt o i : Expr} {es ifs : List Expr} {f f2 f3 : EF} {t t2 : TF} {pos p apos tpos pos' : Pos} {x y z : Str} {l it : LF} {tg iter : Expr} {kk : Nat} {elts : List Expr}
/-! ### several at once -/
structure LE where
  r : Env' → (List EV → Env' → Prop) → Exx → Prop
  m : ∀ {env P P' X X'}, (∀ e env', P e env' → P' e env') → (∀ c fs, X c fs → X' c fs) → r env P X → r env P' X'
def EVs (S : Sg) (M0 : MS) (H0 : Hp) (σ : L2.St) (H : Hp) (ow : OW) (env : Env') (M : MS) : MS → List EV → List V → Prop
  | B, [], vs => vs = [] ∧ Sim S M0 B ow env σ H ∧ ∀ b, Md B ow b ↔ M b
  | B, .val d :: es, vs => ∃ v r, vs = v :: r ∧ Rep S M H d v ∧ EVs S M0 H0 σ H ow env M B es r
  | B, .new o :: es, vs => ∃ a r, vs = .ref a :: r ∧ H0 a = none ∧ ¬ Md B ow a ∧ ¬ M0 a ∧ ObRep S M H a o ∧ EVs S M0 H0 σ H ow env M (plus B a) es r
  | _, .own _ :: _, _ => False
theorem EVs.back (st : Stp ow0 H0 ow1 H1) {M : MS} : ∀ {es : List EV} {B : MS} {vs : List V}, EVs S M0 H1 σ H ow env M B es vs → EVs S M0 H0 σ H ow env M B es vs
  | [], _, _, h => h
  | .val d :: es, _, _, ⟨v, r, e, h1, h2⟩ => ⟨v, r, e, h1, EVs.back st h2⟩
  | .new o :: es, _, _, ⟨a, r, e, h0, h1, h2, h3, h4⟩ => ⟨a, r, e, st.fresh h0, h1, h2, h3, EVs.back st h4⟩
  | .own _ :: _, _, _, h => h.elim
theorem EVs.sub {M : MS} : ∀ {es : List EV} {B : MS} {vs : List V}, EVs S M0 H0 σ H ow env M B es vs → ∀ b, M b → Md B ow b ∨ H0 b = none
  | [], _, _, h, b, hb => .inl ((h.2.2 b).mpr hb)
  | .val d :: es, _, _, ⟨v, r, e, h1, h2⟩, b, hb => EVs.sub h2 b hb
  | .new o :: es, _, _, ⟨a, r, e, h0, h1, h2, h3, h4⟩, b, hb => by
    rcases EVs.sub h4 b hb with (z | z) | z
    · rcases z with z | z
      · exact .inl (.inl z)
      · subst z; exact .inr h0
    · exact .inl (.inr z)
    · exact .inr z
  | .own _ :: _, _, _, h, _, _ => h.elim
def tP (S : Sg) (M0 : MS) (E : XK) (F : LE) : TA := fun σ H Q => ∃ B ow env, Sim S M0 B ow env σ H ∧
  F.r env (fun es env' => ∀ vs H' ow' M, Stp ow H ow' H' → EVs S M0 H σ H' ow' env' M B es vs → Q vs H') (XP S M0 E ow H)
def nilP : LE where
  r := fun env P _ => P [] env
  m := fun hp _ h => hp _ _ h
def EV.isOwn : EV → Bool
  | .own _ => true
  | _ => false
def consP (f : EF) (l : LE) : LE where
  r := fun env P X => f.r env (fun e env1 => e.isOwn = false ∧ l.r env1 (fun es env2 => P (e :: es) env2) X) X
  m := fun hp hx h => f.m (fun e env1 h => ⟨h.1, l.m (fun _ _ h => hp _ _ h) hx h.2⟩) hx h
variable {lp : LE}
theorem p_nil : PA X [] (tP S M0 E nilP) := PA.imp pa_nil fun σ H Q h => by
  obtain ⟨B, ow, env, s, h⟩ := h
  exact h [] H ow (Md B ow) .refl ⟨rfl, s, fun _ => Iff.rfl⟩
theorem p_cons (ha : PE X e (tE S M0 E f)) (hr : PA X es (tP S M0 E lp)) (hs : starEach (e :: es) X.env = (false, eval e X.env) :: starEach es X.env := by rfl) : PA X (e :: es) (tP S M0 E (consP f lp)) :=
  PA.imp (pa_cons ha hr hs) fun σ H Q h => by
    obtain ⟨B, ow, env, s, h⟩ := h
    refine ⟨B, ow, env, s, f.m (fun e1 env1 h1 v H1 ow1 st1 nw1 ok1 => ?_) (fun _ _ h => h) h⟩
    obtain ⟨q, h1⟩ := h1
    cases e1 with
    | own j => cases q
    | val d =>
      obtain ⟨s1, r1⟩ := ok1
      refine ⟨B, ow1, env1, s1, lp.m (fun es env2 h2 vs H2 ow2 M st2 k => ?_) (fun _ _ h => h.stp st1) h1⟩
      refine h2 (v :: vs) H2 ow2 M (st1.trans st2) ⟨v, vs, rfl, ?_, k.back st1⟩
      refine Rep.move (fun a o t n e => ⟨st2.kp a o t (fun z => n (.inr z)) e, fun z => ?_⟩) _ _ r1
      rcases k.sub a z with (z | z) | z
      · exact n (.inl z)
      · rcases st2.nw a z with z | z
        · exact n (.inr z)
        · rw [z] at e; cases e
      · rw [z] at e; cases e
    | new o =>
      obtain ⟨a, rfl, na, n0, s1, r1⟩ := ok1
      refine ⟨plus B a, ow1, env1, s1, lp.m (fun es env2 h2 vs H2 ow2 M st2 k => ?_) (fun _ _ h => h.stp st1) h1⟩
      have ha1 : ∃ u, H1 a = some u := s1.trk a (.inr rfl)
      obtain ⟨u, hu⟩ := ha1
      have no1 : some a ∉ ow1 := fun z => na (.inr z)
      refine h2 (.ref a :: vs) H2 ow2 M (st1.trans st2) ⟨a, vs, rfl, nw1 a rfl, fun z => ?_, n0, ?_, k.back st1⟩
      · rcases z with z | z
        · exact na (.inl z)
        · rcases st2.nw a z with z | z
          · exact no1 z
          · rw [z] at hu; cases hu
      · refine r1.move (fun w t hw => st2.kp a w t no1 hw) (fun b o t n e => ⟨st2.kp b o t (fun z => n (.inr z)) e, fun z => ?_⟩)
        rcases k.sub b z with (z | z) | z
        · exact n (.inl z)
        · rcases st2.nw b z with z | z
          · exact n (.inr z)
          · rw [z] at e; cases e
        · rw [z] at e; cases e
def putEs : List Nat → List EV → Env' → Option Env'
  | [], [], env => some env
  | i :: is, e :: es, env => (putEs is es env).bind (putE i e)
  | _, _, _ => none
def setAll (σ : L2.St) : List Nat → List V → L2.St
  | i :: is, v :: vs => (setAll σ is vs).set i (some v)
  | _, _ => σ
theorem EVs.put {M : MS} : ∀ {es : List EV} {is : List Nat} {B : MS} {vs : List V} {env' : Env'}, EVs S M0 H0 σ H ow env M B es vs → Stp ow0 H0 ow H → putEs is es env = some env' →
    ∃ ow', Stp ow0 H0 ow' H ∧ Sim S M0 B ow' env' (setAll σ is vs) H ∧ ∀ b, Md B ow' b → M b
  | [], [], B, vs, env', h, st, q => by
    cases q
    obtain ⟨rfl, s, m⟩ := h
    exact ⟨ow, st, s, fun b hb => (m b).mp hb⟩
  | [], _ :: _, _, _, _, _, _, q => by cases q
  | _ :: _, [], _, _, _, _, _, q => by cases q
  | e :: es, i :: is, B, vs, env', h, st, q => by
    obtain ⟨env1, q1, q2⟩ := Option.bind_eq_some_iff.mp (show (putEs is es env).bind (putE i e) = some env' from q)
    cases e with
    | own j => exact h.elim
    | val d =>
      obtain ⟨v, r, rfl, h1, h2⟩ := h
      obtain ⟨ow1, st1, s1, sub⟩ := EVs.put h2 st q1
      unfold putE at q2
      split at q2
      · cases q2
      · rename_i sl he
        split at q2
        · cases q2
        · rename_i n
          cases q2
          exact ⟨_, st1.setNone, s1.setV he (by simpa using n) (.inr ⟨d, v, rfl, rfl, h1.anti fun b z => sub b (md_set b z)⟩), fun b z => sub b (md_set b z)⟩
    | new o =>
      obtain ⟨a, r, rfl, h0, na, n0, h1, h2⟩ := h
      obtain ⟨ow1, st1, s1, sub⟩ := EVs.put h2 st q1
      unfold putE at q2
      split at q2
      · cases q2
      · rename_i sl he
        split at q2
        · cases q2
        · rename_i n
          cases q2
          refine ⟨_, st1.setNew h0, s1.setNew (fun z => ?_) n0 (h1.anti sub) he (by simpa using n), fun b z => sub b ?_⟩
          · rcases z with z | z
            · exact na (.inl z)
            · exact s1.dis a (.inr rfl) z
          · rcases z with z | z
            · exact .inl (.inl z)
            · rcases mem_set z with z | z
              · exact .inr z
              · cases z; exact .inl (.inr rfl)
def parS (is : List Nat) (l : LE) : SF where
  r := fun env P X => l.r env (fun es env1 => ∃ env2, putEs is es env1 = some env2 ∧ P.nx env2) X
  m := fun hp hx h => l.m (fun _ _ ⟨env2, h1, h2⟩ => ⟨env2, h1, hp.nx _ h2⟩) hx h
theorem putEs_len : ∀ {is : List Nat} {es : List EV} {env env' : Env'}, putEs is es env = some env' → es.length = is.length
  | [], [], _, _, _ => rfl
  | i :: is, e :: es, env, env', h => by
    obtain ⟨env1, h1, _⟩ := Option.bind_eq_some_iff.mp (show (putEs is es env).bind (putE i e) = some env' from h)
    simp [putEs_len h1]
  | [], _ :: _, _, _, h => by cases h
  | _ :: _, [], _, _, h => by cases h
theorem EVs.len {M : MS} : ∀ {es : List EV} {B : MS} {vs : List V}, EVs S M0 H0 σ H ow env M B es vs → vs.length = es.length
  | [], _, _, h => by rw [h.1]; rfl
  | .val d :: es, _, _, ⟨v, r, e, h1, h2⟩ => by rw [e]; simp [EVs.len h2]
  | .new o :: es, _, _, ⟨a, r, e, h0, h1, h2, h3, h4⟩ => by rw [e]; simp [EVs.len h4]
  | .own _ :: _, _, _, h => h.elim
theorem s_par {i j : Nat} {a b : Expr} {px py pt : Pos} {kt k2 pt2} (hc : X.calm = true) (hN : X.N.Nodup) (ha : PA X [a, b] (tP S M0 E lp))
    (hw : swappedStores [.Tuple [.Name x px, .Name y py] kt pt] (.Tuple [a, b] k2 pt2) X.env = pure (some [x, y]) := by rfl)
    (hij : i ≠ j := by decide) (hi : X.N[i]? = some x := by rfl) (hj : X.N[j]? = some y := by rfl) 
    (hx : X.env.scope.names.lookup x = some .local := by rfl) (hy : X.env.scope.names.lookup y = some .local := by rfl)
    (hs : swapsWithSole [.Tuple [.Name x px, .Name y py] kt pt] (.Tuple [a, b] k2 pt2) pos.line X.env = pure false := by rfl) :
    PS X (.Assign [.Tuple [.Name x px, .Name y py] kt pt] (.Tuple [a, b] k2 pt2) pos) (tS S M0 E (parS [i, j] lp)) := PS.imp (ps_par hc hN hi hj hij hx hy ha hw hs) fun D σ H h => by
  obtain ⟨B, ow, env, s, h⟩ := h
  refine ⟨B, ow, env, s, lp.m (fun es env1 h1 vs H1 ow1 M st1 k => ?_) (fun _ _ h => h) h⟩
  obtain ⟨env2, q, h2⟩ := h1
  have hl := k.len
  rw [putEs_len q] at hl
  obtain ⟨ow2, st2, s2, _⟩ := k.put st1 q
  match vs, hl with
  | [v, w], _ =>
    refine ⟨v, w, rfl, ?_⟩
    rw [List.set_comm _ _ hij]
    exact h2 _ H1 ow2 st2 s2
theorem s_par3 {i j k : Nat} {a b c : Expr} {px py pz pt : Pos} {kt k2 pt2} (hc : X.calm = true) (hN : X.N.Nodup) (ha : PA X [a, b, c] (tP S M0 E lp))
    (hw : swappedStores [.Tuple [.Name x px, .Name y py, .Name z pz] kt pt] (.Tuple [a, b, c] k2 pt2) X.env = pure (some [x, y, z]) := by rfl)
    (hij : i ≠ j := by decide) (hik : i ≠ k := by decide) (hjk : j ≠ k := by decide) (hi : X.N[i]? = some x := by rfl) (hj : X.N[j]? = some y := by rfl) (hk : X.N[k]? = some z := by rfl)
    (hx : X.env.scope.names.lookup x = some .local := by rfl) (hy : X.env.scope.names.lookup y = some .local := by rfl) (hz : X.env.scope.names.lookup z = some .local := by rfl)
    (hs : swapsWithSole [.Tuple [.Name x px, .Name y py, .Name z pz] kt pt] (.Tuple [a, b, c] k2 pt2) pos.line X.env = pure false := by rfl) :
    PS X (.Assign [.Tuple [.Name x px, .Name y py, .Name z pz] kt pt] (.Tuple [a, b, c] k2 pt2) pos) (tS S M0 E (parS [i, j, k] lp)) := PS.imp (ps_par3 hc hN hi hj hk hij hik hjk hx hy hz ha hw hs) fun D σ H h => by
  obtain ⟨B, ow, env, s, h⟩ := h
  refine ⟨B, ow, env, s, lp.m (fun es env1 h1 vs H1 ow1 M st1 kk1 => ?_) (fun _ _ h => h) h⟩
  obtain ⟨env2, q, h2⟩ := h1
  have hl := kk1.len
  rw [putEs_len q] at hl
  obtain ⟨ow2, st2, s2, _⟩ := kk1.put st1 q
  match vs, hl with
  | [u, v, w], _ =>
    refine ⟨u, v, w, rfl, ?_⟩
    have e : ((σ.set i (some u)).set j (some v)).set k (some w) = ((σ.set k (some w)).set j (some v)).set i (some u) := by
      rw [List.set_comm _ _ hij, List.set_comm _ _ hik, List.set_comm _ _ hjk]
    rw [e]
    exact h2 _ H1 ow2 st2 s2
/-! ### stores into one's own lists and dicts -/
def putD {κ : Type} [DecidableEq κ] (ks : List κ) (ds : List D) (k : κ) (d : D) : List κ × List D :=
  if (ks.any fun j => decide (j = k)) = true then (ks, List.zipWith (fun j x => if j = k then d else x) ks ds) else (ks ++ [k], ds ++ [d])
theorem zipWith_rep {κ : Type} [DecidableEq κ] {M : MS} {k : κ} {d : D} {v : V} (r : Rep S M H d v) : ∀ {ks : List κ} {ds : List D} {vs : List V}, RepL S M H ds vs → RepL S M H (List.zipWith (fun j x => if j = k then d else x) ks ds) (List.zipWith (fun j x => if j = k then v else x) ks vs)
  | [], _, _, _ => by simp [RepL]
  | j :: ks, [], _, h => by cases h; simp [RepL]
  | j :: ks, x :: ds, _, h => by
    obtain ⟨w, rr, rfl, h1, h2⟩ := h
    refine ⟨_, _, rfl, ?_, zipWith_rep r h2⟩
    show Rep S M H (if j = k then d else x) (if j = k then v else w)
    by_cases hj : j = k
    · rw [if_pos hj, if_pos hj]; exact r
    · rw [if_neg hj, if_neg hj]; exact h1
theorem put_zip {κ : Type} [DecidableEq κ] {k : κ} {v : V} : ∀ {ks : List κ} {vs : List V}, ks.length = vs.length → (ks.zip vs).map (fun kv => if kv.1 = k then (kv.1, v) else kv) = ks.zip (List.zipWith (fun j x => if j = k then v else x) ks vs)
  | [], _, _ => by simp
  | j :: ks, [], h => by simp at h
  | j :: ks, x :: vs, h => by
    rw [List.zip_cons_cons, List.map_cons, List.zipWith_cons_cons, List.zip_cons_cons, put_zip (by simpa using h)]
    congr 1
    by_cases hj : j = k
    · simp [hj]
    · simp [hj]
theorem any_zip {κ : Type} [DecidableEq κ] {k : κ} : ∀ {ks : List κ} {vs : List V}, ks.length = vs.length → ((ks.zip vs).any fun kv => decide (kv.1 = k)) = ks.any fun j => decide (j = k)
  | [], _, _ => by simp
  | j :: ks, [], h => by simp at h
  | j :: ks, x :: vs, h => by
    rw [List.zip_cons_cons, List.any_cons, List.any_cons, any_zip (by simpa using h)]
theorem putD_v {κ : Type} [DecidableEq κ] {M : MS} {ks : List κ} {ds : List D} {vs : List V} {k : κ} {d : D} {v : V} (l : RepL S M H ds vs) (r : Rep S M H d v) (z : ks.length = vs.length) :
    ∃ vs', putK (ks.zip vs) k v = (putD ks ds k d).1.zip vs' ∧ (putD ks ds k d).1.length = vs'.length ∧ RepL S M H (putD ks ds k d).2 vs' := by
  unfold putK putD
  rw [any_zip z]
  by_cases ha : (ks.any fun j => decide (j = k)) = true
  · rw [if_pos ha, if_pos ha]
    exact ⟨_, put_zip z, by simp [z], zipWith_rep r l⟩
  · rw [if_neg ha, if_neg ha]
    refine ⟨vs ++ [v], ?_, by simp [z], l.append ⟨v, [], rfl, r, rfl⟩⟩
    rw [List.zip_append z]; rfl
def putOb : Ob → D → D → Option Ob
  | .dK ks ds, k, d => (keyD? k).bind fun k => if ds.length < 100000 then some (.dK (putD ks ds k d).1 (putD ks ds k d).2) else none
  | .dT ks ds, k, d => (keyT? k).bind fun k => if ds.length < 100000 then some (.dT (putD ks ds k d).1 (putD ks ds k d).2) else none
  | .lst ds, .int i, d => (ixN ds.length i).map fun j => .lst (ds.set j d)
  | _, _, _ => none
structure GF where
  r : D → Env' → (Env' → Prop) → Exx → Prop
  m : ∀ {d env P P' X X'}, (∀ env', P env' → P' env') → (∀ c fs, X c fs → X' c fs) → r d env P X → r d env P' X'
structure GFs where
  r : List D → Env' → (Env' → Prop) → Exx → Prop
  m : ∀ {d env P P' X X'}, (∀ env', P env' → P' env') → (∀ c fs, X c fs → X' c fs) → r d env P X → r d env P' X'
def tG (S : Sg) (M0 : MS) (E : XK) (g : GF) : TG := fun v σ H Q => ∃ B ow env d, Sim S M0 B ow env σ H ∧ Rep S (Md B ow) H d v ∧ g.r d env (fun env' => ∀ σ' H' ow', Stp ow H ow' H' → Sim S M0 B ow' env' σ' H' → Q σ' H') (XP S M0 E ow H)
def tGs (S : Sg) (M0 : MS) (E : XK) (g : GFs) : TGs := fun vs σ H Q => ∃ B ow env ds, Sim S M0 B ow env σ H ∧ RepL S (Md B ow) H ds vs ∧ g.r ds env (fun env' => ∀ σ' H' ow', Stp ow H ow' H' → Sim S M0 B ow' env' σ' H' → Q σ' H') (XP S M0 E ow H)
def patG (p : Pat) : GF where
  r := fun d env P _ => ∃ env', p.put d env = some env' ∧ P env'
  m := fun hp _ ⟨e, h1, h2⟩ => ⟨e, h1, hp _ h2⟩
theorem g_pat {p : Pat} {vs : List Nat} (h : PG X tg (tGp S M0 p vs)) : PG X tg (tG S M0 E (patG p)) := PG.imp h fun v σ H Q h => by
  obtain ⟨B, ow, env, d, s, r, env', h1, h2⟩ := h
  exact ⟨B, ow, env, d, env', s, r, h1, fun σ' ow' st s' _ => h2 σ' H ow' st s'⟩
def subG (F : Nat → List Str) (i : Nat) (f : EF) : GF where
  r := fun d env P X => (∃ sl o, env[i]? = some sl ∧ sl.ob = some o) ∧ f.r env (fun e env1 => ∃ e', e.settle F = some e' ∧ ∃ k, e'.rd F env1 = some k ∧ ∃ sl o o', env1[i]? = some sl ∧ sl.ob = some o ∧ putOb o k d = some o' ∧ P (env1.set i (sl.put o'))) X
  m := fun hp hx h => ⟨h.1, f.m (fun e env1 ⟨e', q, k, h1, sl, o, o', h2, h3, h4, h5⟩ => ⟨e', q, k, h1, sl, o, o', h2, h3, h4, hp _ h5⟩) hx h.2⟩
def rSetA : TSet := fun o i v H Q => rSetD o i v H Q ∨ rSetL o i v H Q
theorem set_any (hu : X.A.units + 1 < cLine) : PSet X rSetA := by
  intro pins s σ H o i v ov iv u Q I ro ri rv h
  rcases h with h | h
  · exact set_dict hu pins s σ H o i v ov iv u Q I ro ri rv h
  · exact set_list pins s σ H o i v ov iv u Q I ro ri rv h
theorem g_sub {j : Nat} {p2 : Pos} {i : Expr} (hu : X.A.units + 100 < cLine) (hi : PE X i (tE S M0 E f)) (hN : X.N[j]? = some x := by rfl) (hv : Vis X.env.scope x := by first | exact Or.inl rfl | exact Or.inr (Or.inl rfl) | exact Or.inr (Or.inr rfl)) (hd : (x == ("__debug__" : Str)) = false := by decide)
    (hcd : (x == ("__classdict__" : Str)) = false := by decide)
    (ha : ∀ v, assign (.Subscript (.Name x p2) i pos) X.env v = (do
      let ov ← holding [v] (eval (.Name x p2) X.env)
      let iv ← holding [v, ov] (eval i X.env)
      standAt pos
      holding [v, ov, iv] (setItem ov iv v)
      release [v, ov, iv] []) := by intro _; rfl) : PG X (.Subscript (.Name x p2) i pos) (tG S M0 E (subG S.flds j f)) :=
  PG.imp (pg_sub (pe_var hN hv hd hcd) hi (set_any (by omega)) ha) fun v σ H Q h => by
    obtain ⟨B, ow, env, d, s, r, ⟨sl0, o0, h1, h2⟩, h3⟩ := h
    obtain ⟨a, k1, k2, k3⟩ := s.slot h1 h2
    refine ⟨_, k2, B, ow, env, s, f.m (fun e1 env1 g w H1 ow1 st1 nw1 ok1 => ?_) (fun _ _ h => h) h3⟩
    obtain ⟨e', q, k, g1, sl, o, o', g2, g3, g4, g5⟩ := g
    have ok1' := ok1.settle q
    have s1 := ok1'.sim (EV.settle_old q)
    have rk := ok1'.rd .refl s1 g1
    obtain ⟨b1, b2⟩ := slot_fix s1 g2 g3 k2
    have hm : Md B ow1 a := .inr (List.mem_of_getElem? b1)
    have r1 := Rep.stp st1 r
    have fin : ∀ ho, ObRep S (Md B ow1) (upd H1 a ho) a o' → Q σ (upd H1 a ho) := fun ho ob => by
      obtain ⟨p1, p2⟩ := s1.put (o' := o') (ho := ho) g2 g3 b1 ob
      exact g5 σ _ ow1 (st1.trans p2) p1
    unfold putOb at g4
    split at g4
    · obtain ⟨kk, e1, e2⟩ := Option.bind_eq_some_iff.mp g4
      split at e2
      · rename_i hz
        cases e2
        obtain ⟨vs, c1, c2, c3⟩ := b2
        obtain ⟨vs', d1, d2, d3⟩ := putD_v (k := kk) c3 r1 c2
        refine .inl ⟨a, _, rfl, .inl ⟨_, kk, c1, key_v rk e1, ?_, rfl⟩, fin _ ⟨vs', ?_, d2, d3.upd_at hm⟩⟩
        · rw [List.length_zip, c2, Nat.min_self, ← c3.len]; exact line5 hz
        · rw [upd_same, d1]
      · cases e2
    · obtain ⟨kk, e1, e2⟩ := Option.bind_eq_some_iff.mp g4
      split at e2
      · rename_i hz
        cases e2
        obtain ⟨vs, c1, c2, c3⟩ := b2
        obtain ⟨vs', d1, d2, d3⟩ := putD_v (k := kk) c3 r1 c2
        obtain ⟨b, rfl, rb⟩ := keyT_v rk e1
        refine .inl ⟨a, _, rfl, .inr ⟨_, kk, b, c1, rfl, rb, ?_, rfl⟩, fin _ ⟨vs', ?_, d2, d3.upd_at hm⟩⟩
        · rw [List.length_zip, c2, Nat.min_self, ← c3.len]; exact line5 hz
        · rw [upd_same, d1]
      · cases e2
    · obtain ⟨jj, e1, rfl⟩ := Option.map_eq_some_iff.mp g4
      obtain ⟨vs, c1, c2⟩ := b2
      cases rk
      refine .inr ⟨a, vs, _, jj, rfl, rfl, c1, by rw [← c2.len]; exact e1, fin _ ⟨_, upd_same, (c2.upd_at hm).set (r1.upd_at hm)⟩⟩
    · cases g4
def nilG : GFs where
  r := fun ds env P _ => ds = [] ∧ P env
  m := fun hp _ h => ⟨h.1, hp _ h.2⟩
def consG (g : GF) (gs : GFs) : GFs where
  r := fun ds env P X => ∃ d r, ds = d :: r ∧ g.r d env (fun env1 => gs.r r env1 P X) X
  m := fun hp hx ⟨d, r, e, h⟩ => ⟨d, r, e, g.m (fun _ h => gs.m hp hx h) hx h⟩
def tupG (n : Nat) (gs : GFs) : GF where
  r := fun d env P X => ∃ ds, d = .tup ds ∧ ds.length = n ∧ gs.r ds env P X
  m := fun hp hx ⟨ds, e, n, h⟩ => ⟨ds, e, n, gs.m hp hx h⟩
theorem gs_nil : PGs X [] (tGs S M0 E nilG) := PGs.imp' pgs_nil fun vs σ H Q h => by
  obtain ⟨B, ow, env, ds, s, r, e, h⟩ := h
  subst e
  cases r
  exact ⟨rfl, h σ H ow .refl s⟩
theorem gs_cons {g : GF} {gs : GFs} (h1 : PG X e (tG S M0 E g)) (h2 : PGs X es (tGs S M0 E gs)) (hs : (assignEach (e :: es) X.env).map (·.2) = assign e X.env :: (assignEach es X.env).map (·.2) := by rfl) : PGs X (e :: es) (tGs S M0 E (consG g gs)) :=
  PGs.imp' (pgs_cons h1 h2 hs) fun vs σ H Q h => by
    obtain ⟨B, ow, env, ds, s, r, d, dr, e, h⟩ := h
    subst e
    obtain ⟨v, vr, rfl, r1, r2⟩ := r
    refine ⟨v, vr, rfl, B, ow, env, d, s, r1, g.m (fun env1 h σ1 H1 ow1 st1 s1 => ?_) (fun _ _ h => h) h⟩
    exact ⟨B, ow1, env1, dr, s1, RepL.stp st1 r2, gs.m (fun env2 h σ2 H2 ow2 st2 s2 => h σ2 H2 ow2 (st1.trans st2) s2) (fun _ _ h => h.stp st1) h⟩
theorem g_tupG {gs : GFs} {kk n : Nat} (hk : X.K = S.K) (hc : X.calm = true) (h : PGs X es (tGs S M0 E gs)) (hn : (assignEach es X.env).length = n := by rfl) (hst : (assignEach es X.env).findIdx? (·.1) = none := by rfl) : PG X (.Tuple es kk pos) (tG S M0 E (tupG n gs)) :=
  PG.imp (pg_tup hc h hn hst) fun v σ H Q h => by
    obtain ⟨B, ow, env, d, s, r, ds, rfl, hl, h⟩ := h
    obtain ⟨a, us, rfl, _, ra, l⟩ := r
    exact ⟨a, us, rfl, .of ra, by rw [← l.len, hl], B, ow, env, ds, s, l, h⟩
/-- target = e -/
def tgtS (F : Nat → List Str) (g : GF) (f : EF) : SF where
  r := fun env P X => f.r env (fun e env1 => ∃ d, e.keep F = some d ∧ g.r d env1 P.nx X) X
  m := fun hp hx h => f.m (fun _ _ ⟨d, h0, h1⟩ => ⟨d, h0, g.m hp.nx hx h1⟩) hx h
theorem s_tgt {g : GF} (he : PE X e (tE S M0 E f)) (hg : PG X tg (tG S M0 E g)) (hs : swapsWithSole [tg] e pos.line X.env = pure false := by rfl) (hw : swappedStores [tg] e X.env = pure none := by rfl)
    (h1 : (assignEach [tg] X.env).map (·.2) = [assign tg X.env] := by rfl) : PS X (.Assign [tg] e pos) (tS S M0 E (tgtS S.flds g f)) := PS.imp (ps_asg he hg hs hw h1) fun D σ H h => by
  obtain ⟨B, ow, env, s, h⟩ := h
  refine ⟨B, ow, env, s, f.m (fun e env1 h v H1 ow1 st1 nw1 ok1 => ?_) (fun _ _ h => h) h⟩
  obtain ⟨d, q, h1⟩ := h
  obtain ⟨s1, r1⟩ := ok1.keep q
  exact ⟨B, ow1, env1, d, s1, r1, g.m (fun env2 h σ' H' ow' st' s' => h σ' H' ow' (st1.trans st') s') (fun _ _ h => h.stp st1) h1⟩
/-! ### dict displays -/
def dispR (F : Nat → List Str) : List (EF × EF) → (List (D × D) → Env' → Prop) → Exx → Env' → Prop
  | [], P, _, env => P [] env
  | q :: r, P, X, env => q.1.r env (fun ek env1 => ∃ dk, ek.keep F = some dk ∧ q.2.r env1 (fun ev env2 => ∃ dv, ev.keep F = some dv ∧ dispR F r (fun ps env3 => P ((dk, dv) :: ps) env3) X env2) X) X
theorem dispR_m {F : Nat → List Str} : ∀ {fs : List (EF × EF)} {P P' : List (D × D) → Env' → Prop} {X X' : Exx} {env : Env'}, (∀ a e, P a e → P' a e) → (∀ c fs, X c fs → X' c fs) → dispR F fs P X env → dispR F fs P' X' env
  | [], _, _, _, _, _, hp, _, h => hp _ _ h
  | q :: r, _, _, _, _, _, hp, hx, h => q.1.m (fun _ _ ⟨dk, h1, h2⟩ => ⟨dk, h1, q.2.m (fun _ _ ⟨dv, h3, h4⟩ => ⟨dv, h3, dispR_m (fun _ _ h => hp _ _ h) hx h4⟩) hx h2⟩) hx h
def RepP (S : Sg) (M : MS) (H : Hp) : List (D × D) → List (V × V) → Prop
  | [], vs => vs = []
  | q :: r, vs => ∃ v w t, vs = (v, w) :: t ∧ Rep S M H q.1 v ∧ Rep S M H q.2 w ∧ RepP S M H r t
theorem pairs_of : ∀ {fs : List (EF × EF)} {P : List (D × D) → Env' → Prop} {B : MS} {ow : OW} {env : Env'} {H : Hp} {Q : List (V × V) → Hp → Prop}, Sim S M0 B ow env σ H → dispR S.flds fs P (XP S M0 E ow H) env →
    (∀ ps env', P ps env' → ∀ vs H' ow', Stp ow H ow' H' → Sim S M0 B ow' env' σ H' → RepP S (Md B ow') H' ps vs → Q vs H') → tPairs (fs.map fun q => (tE S M0 E q.1, tE S M0 E q.2)) σ H Q
  | [], P, B, ow, env, H, Q, s, h, k => k [] env h [] H ow .refl s rfl
  | q :: r, P, B, ow, env, H, Q, s, h, k => by
    refine ⟨B, ow, env, s, q.1.m (fun ek env1 h1 v H1 ow1 st1 nw1 ok1 => ?_) (fun _ _ h => h) h⟩
    obtain ⟨dk, q1, h1⟩ := h1
    obtain ⟨s1, r1⟩ := ok1.keep q1
    refine ⟨B, ow1, env1, s1, q.2.m (fun ev env2 h2 w H2 ow2 st2 nw2 ok2 => ?_) (fun _ _ h => h.stp st1) h1⟩
    obtain ⟨dv, q2, h2⟩ := h2
    obtain ⟨s2, r2⟩ := ok2.keep q2
    refine pairs_of (P := fun ps env3 => P ((dk, dv) :: ps) env3) s2 (dispR_m (fun _ _ h => h) (fun _ _ h => h.stp (st1.trans st2)) h2) fun ps env3 h3 vs H3 ow3 st3 s3 r3 => ?_
    exact k _ env3 h3 _ H3 ow3 ((st1.trans st2).trans st3) s3 ⟨v, w, vs, rfl, Rep.stp (st2.trans st3) r1, Rep.stp st3 r2, r3⟩
theorem repP_keys {M : MS} : ∀ {ps : List (D × D)} {vs : List (V × V)} {ks : List Key}, RepP S M H ps vs → keysD? (ps.map (·.1)) = some ks → ∃ ws, vs = (ks.zip ws).map (fun kv => (kV kv.1, kv.2)) ∧ ks.length = ws.length ∧ RepL S M H (ps.map (·.2)) ws
  | [], _, _, h, e => by cases h; cases e; exact ⟨[], rfl, rfl, rfl⟩
  | q :: r, _, ks, h, e => by
    obtain ⟨v, w, t, rfl, h1, h2, h3⟩ := h
    have e : keysD? (q.1 :: r.map (·.1)) = some ks := e
    unfold keysD? at e
    split at e
    · rename_i k ks' e1 e2
      cases e
      obtain ⟨ws, rfl, z, l⟩ := repP_keys h3 e2
      refine ⟨w :: ws, ?_, by simp [z], ⟨w, ws, rfl, h2, l⟩⟩
      rw [List.zip_cons_cons, List.map_cons, key_v h1.top e1]
    · cases e
theorem merge_nodup : ∀ (ks : List Key) (ws : List V) (acc : List (Key × V)), ks.Nodup → (∀ k ∈ ks, (acc.any fun kv => decide (kv.1 = k)) = false) → mergeK acc (ks.zip ws) = acc ++ ks.zip ws
  | [], ws, acc, _, _ => by simp [mergeK]
  | k :: ks, [], acc, _, _ => by simp [mergeK]
  | k :: ks, w :: ws, acc, n, h => by
    rw [List.nodup_cons] at n
    have e : mergeK acc ((k, w) :: ks.zip ws) = mergeK (putK acc k w) (ks.zip ws) := rfl
    rw [List.zip_cons_cons, e]
    have hp : putK acc k w = acc ++ [(k, w)] := by
      unfold putK
      rw [if_neg (by rw [h k List.mem_cons_self]; decide)]
    rw [hp, merge_nodup ks ws _ n.2 (fun j hj => ?_), List.append_assoc]; rfl
    rw [List.any_append, h j (List.mem_cons_of_mem _ hj)]
    have : k ≠ j := fun z => n.1 (by rw [z]; exact hj)
    simp [this]
def dispF (F : Nat → List Str) (fs : List (EF × EF)) : EF where
  r := fun env P X => dispR F fs (fun ps env1 => ∃ ks, keysD? (ps.map (·.1)) = some ks ∧ ks.Nodup ∧ ks.length ≤ 15 ∧ P (.new (.dK ks (ps.map (·.2)))) env1) X env
  m := fun hp hx h => dispR_m (fun _ _ ⟨ks, h1, h2, h3, h4⟩ => ⟨ks, h1, h2, h3, hp _ _ h4⟩) hx h
theorem r_disp {fs : List (EF × EF)} {keys : List (Option Expr)} {values : List Expr} (h : PPs X pos keys values (fs.map fun q => (tE S M0 E q.1, tE S M0 E q.2))) (hall : keys.all (·.isSome) = true := by rfl) (hl : keys.length = values.length := by rfl) (h0 : keys ≠ [] := by exact List.cons_ne_nil _ _)
    (h15 : keys.length ≤ 15 := by decide) : PE X (.Dict keys values pos) (tE S M0 E (dispF S.flds fs)) := PE.imp (pe_disp h hall hl h0 h15) fun σ H Q h p hp => by
  obtain ⟨B, ow, env, s, h⟩ := h
  have np : ¬ Md B ow p := fresh_nm s.trkA hp
  have ok := new_ok (ho := .dK []) (o := .dK [] []) s hp fun M hM => ⟨[], upd_same, rfl, rfl⟩
  obtain ⟨p', ep, _, n0, s1, _⟩ := ok
  cases ep
  have g : Stp ow H ow (upd H p (.dK [])) := .grow (.upd hp)
  refine pairs_of s1 (dispR_m (fun _ _ h => h) (fun _ _ h => h.stp g) h) fun ps env1 h1 vs H1 ow1 st1 s2 r => ?_
  obtain ⟨ks, e1, e2, e3, h1⟩ := h1
  obtain ⟨ws, rfl, z, l⟩ := repP_keys r e1
  have npo : some p ∉ ow := fun z => np (.inr z)
  have hp1 : H1 p = some (.dK []) := st1.kp p _ .dK npo upd_same
  refine ⟨hp1, ks.zip ws, rfl, by rw [List.length_zip]; omega, ?_⟩
  rw [merge_nodup ks ws [] e2 (fun _ _ => rfl), List.nil_append]
  have hm : Md (plus B p) ow1 p := .inl (.inr rfl)
  have sto : Stp ow H ow1 (upd H1 p (.dK (ks.zip ws))) := by
    have stz := g.trans st1
    refine ⟨fun a o t n e => ?_, stz.nwp, fun a o e => ?_⟩
    · rw [upd_ne (fun z => by rw [z, hp] at e; cases e)]; exact stz.kp a o t n e
    · by_cases hz : a = p
      · exact ⟨_, by rw [hz]; exact upd_same⟩
      · rw [upd_ne hz]; exact stz.gr a o e
  refine h1 _ _ ow1 sto (.at hp) ⟨p, rfl, fun z => ?_, n0, s2.other (.inr rfl) hp1 .dK (fun _ _ z => nomatch z), ws, upd_same, z, l.upd_at hm⟩
  rcases z with z | z
  · exact np (.inl z)
  · exact s2.dis p (.inr rfl) z
end
end En
set_option Elab.async false
set_option linter.all false
set_option maxRecDepth 100000
namespace En
open PySem PySem.Spec PyProof.Rows L2
section
variable {X : Cx} {S : Sg} {M0 B : MS} {E : XK} {ow ow0 ow1 : OW} {env env1 : Env'} {σ : L2.St} {H H0 H1 : Hp}
variable {a b c e e2 elt : Expr} {es ifs : List Expr} {f f2 f3 : EF} {t t2 : TF} {pos p apos tpos pos' : Pos} {x y z : Str}
/-! ### arguments: values, or one's own objects -/
inductive AV where
  | val (d : D)
  | ref (j : Nat)
structure LA where
  r : Env' → (List AV → Env' → Prop) → Exx → Prop
  m : ∀ {env P P' X X'}, (∀ e env', P e env' → P' e env') → (∀ c fs, X c fs → X' c fs) → r env P X → r env P' X'
def EV.av (F : Nat → List Str) : EV → Option AV
  | .val d => some (.val d)
  | .new o => (o.fr F).map .val
  | .own j => some (.ref j)
def ArgsOk (S : Sg) (M : MS) (H : Hp) (σ : L2.St) : List AV → List V → Prop
  | [], vs => vs = []
  | .val d :: r, vs => ∃ v t, vs = v :: t ∧ Rep S M H d v ∧ ArgsOk S M H σ r t
  | .ref j :: r, vs => ∃ v t, vs = v :: t ∧ σ[j]? = some (some v) ∧ ArgsOk S M H σ r t
def tAg (S : Sg) (M0 : MS) (E : XK) (F : LA) : TA := fun σ H Q => ∃ B ow env, Sim S M0 B ow env σ H ∧
  F.r env (fun as env' => ∀ vs H' ow', Stp ow H ow' H' → Sim S M0 B ow' env' σ H' → ArgsOk S (Md B ow') H' σ as vs → Q vs H') (XP S M0 E ow H)
def nilA : LA where
  r := fun env P _ => P [] env
  m := fun hp _ h => hp _ _ h
def consA (F : Nat → List Str) (f : EF) (l : LA) : LA where
  r := fun env P X => f.r env (fun e env1 => ∃ a, e.av F = some a ∧ l.r env1 (fun as env2 => P (a :: as) env2) X) X
  m := fun hp hx h => f.m (fun e env1 ⟨a, h1, h2⟩ => ⟨a, h1, l.m (fun _ _ h => hp _ _ h) hx h2⟩) hx h
variable {la : LA}
theorem a_nil : PA X [] (tAg S M0 E nilA) := PA.imp pa_nil fun σ H Q h => by
  obtain ⟨B, ow, env, s, h⟩ := h
  exact h [] H ow .refl s rfl
theorem a_cons (ha : PE X e (tE S M0 E f)) (hr : PA X es (tAg S M0 E la)) (hs : starEach (e :: es) X.env = (false, eval e X.env) :: starEach es X.env := by rfl) : PA X (e :: es) (tAg S M0 E (consA S.flds f la)) :=
  PA.imp (pa_cons ha hr hs) fun σ H Q h => by
    obtain ⟨B, ow, env, s, h⟩ := h
    refine ⟨B, ow, env, s, f.m (fun e1 env1 h1 v H1 ow1 st1 nw1 ok1 => ?_) (fun _ _ h => h) h⟩
    obtain ⟨a, q, h1⟩ := h1
    have ok1' := ok1.simA
    refine ⟨B, ow1, env1, ok1', la.m (fun as env2 h2 vs H2 ow2 st2 s2 r2 => ?_) (fun _ _ h => h.stp st1) h1⟩
    refine h2 _ H2 ow2 (st1.trans st2) s2 ?_
    cases e1 with
    | val d => cases q; exact ⟨v, vs, rfl, Rep.stp st2 ok1.2, r2⟩
    | new o =>
      obtain ⟨d, hd, rfl⟩ := Option.map_eq_some_iff.mp (show (o.fr S.flds).map AV.val = some a from q)
      exact ⟨v, vs, rfl, Rep.stp st2 (ok1.unplus hd).2, r2⟩
    | own j =>
      cases q
      obtain ⟨s1, b, ob, rfl, h3, h4⟩ := ok1
      refine ⟨_, vs, rfl, ?_, r2⟩
      rcases h4 with h4 | h4
      · obtain ⟨b', e1, e2, _⟩ := s1.own j ob h4; rw [h3] at e1; cases e1; exact e2
      · obtain ⟨b', e1, e2, _⟩ := s1.io j ob h4; rw [h3] at e1; cases e1; exact e2
theorem ArgsOk.len {M : MS} : ∀ {as : List AV} {vs : List V}, ArgsOk S M H σ as vs → vs.length = as.length
  | [], _, h => by rw [show _ = [] from h]; rfl
  | .val d :: r, _, ⟨v, t, e, _, h⟩ => by rw [e]; simp [h.len]
  | .ref j :: r, _, ⟨v, t, e, _, h⟩ => by rw [e]; simp [h.len]
theorem ArgsOk.val {M : MS} : ∀ {as : List AV} {vs : List V} {i : Nat} {d : D}, ArgsOk S M H σ as vs → as[i]? = some (.val d) → ∃ v, vs[i]? = some v ∧ Rep S M H d v
  | .val d :: r, _, 0, d', ⟨v, t, e, h1, h⟩, q => by simp at q; subst q; rw [e]; exact ⟨v, rfl, h1⟩
  | .ref j :: r, _, 0, d', ⟨v, t, e, h1, h⟩, q => by simp at q
  | .val d :: r, _, i + 1, d', ⟨v, t, e, h1, h⟩, q => by
    obtain ⟨w, h2, h3⟩ := h.val (i := i) (by simpa using q)
    rw [e]; exact ⟨w, by simpa using h2, h3⟩
  | .ref j :: r, _, i + 1, d', ⟨v, t, e, h1, h⟩, q => by
    obtain ⟨w, h2, h3⟩ := h.val (i := i) (by simpa using q)
    rw [e]; exact ⟨w, by simpa using h2, h3⟩
theorem ArgsOk.ref {M : MS} : ∀ {as : List AV} {vs : List V} {i : Nat} {j : Nat}, ArgsOk S M H σ as vs → as[i]? = some (.ref j) → ∃ v, vs[i]? = some v ∧ σ[j]? = some (some v)
  | .val d :: r, _, 0, d', ⟨v, t, e, h1, h⟩, q => by simp at q
  | .ref j :: r, _, 0, d', ⟨v, t, e, h1, h⟩, q => by simp at q; subst q; rw [e]; exact ⟨v, rfl, h1⟩
  | .val d :: r, _, i + 1, d', ⟨v, t, e, h1, h⟩, q => by
    obtain ⟨w, h2, h3⟩ := h.ref (i := i) (by simpa using q)
    rw [e]; exact ⟨w, by simpa using h2, h3⟩
  | .ref j :: r, _, i + 1, d', ⟨v, t, e, h1, h⟩, q => by
    obtain ⟨w, h2, h3⟩ := h.ref (i := i) (by simpa using q)
    rw [e]; exact ⟨w, by simpa using h2, h3⟩
/-- what the callee is given -/
def slotOf (env : Env') : AV → Slot
  | .val d => .val d
  | .ref j => match (env[j]?).bind Slot.ob with
    | some o => .io o
    | none => .un
def awOf (ow : OW) : AV → Option Addr
  | .val _ => none
  | .ref j => (ow[j]?).join
/-- the changed ones come back -/
def backE : List AV → List Slot → Env' → Option Env'
  | [], _, env => some env
  | .val _ :: as, os, env => backE as os.tail env
  | .ref j :: as, .io o :: os, env => match env[j]? with
    | some sl => backE as os (env.set j (sl.put o))
    | none => none
  | _, _, _ => none
def refs : List AV → List Nat
  | [] => []
  | .val _ :: r => refs r
  | .ref j :: r => j :: refs r
theorem mem_refs : ∀ {as : List AV} {i j : Nat}, as[i]? = some (.ref j) → j ∈ refs as
  | .val d :: r, 0, j, q => by simp at q
  | .ref k :: r, 0, j, q => by simp at q; subst q; exact List.mem_cons_self
  | .val d :: r, i + 1, j, q => mem_refs (as := r) (i := i) (by simpa using q)
  | .ref k :: r, i + 1, j, q => List.mem_cons_of_mem _ (mem_refs (as := r) (i := i) (by simpa using q))
theorem of_refs : ∀ {as : List AV} {j : Nat}, j ∈ refs as → ∃ i : Nat, as[i]? = some (.ref j)
  | .val d :: r, j, q => by obtain ⟨i, h⟩ := of_refs (as := r) q; exact ⟨i + 1, by simpa using h⟩
  | .ref k :: r, j, q => by
    rcases List.mem_cons.mp q with rfl | q
    · exact ⟨0, rfl⟩
    · obtain ⟨i, h⟩ := of_refs (as := r) q; exact ⟨i + 1, by simpa using h⟩
theorem refs_inj : ∀ {as : List AV} {i k j : Nat}, (refs as).Nodup → as[i]? = some (.ref j) → as[k]? = some (.ref j) → i = k
  | .val d :: r, 0, k, j, n, h1, h2 => by simp at h1
  | .val d :: r, i + 1, 0, j, n, h1, h2 => by simp at h2
  | .val d :: r, i + 1, k + 1, j, n, h1, h2 => by rw [refs_inj (as := r) (i := i) (k := k) n (by simpa using h1) (by simpa using h2)]
  | .ref m :: r, 0, 0, j, n, h1, h2 => rfl
  | .ref m :: r, 0, k + 1, j, n, h1, h2 => by
    simp at h1; subst h1
    have n : (m :: refs r).Nodup := n
    rw [List.nodup_cons] at n
    exact absurd (mem_refs (as := r) (i := k) (by simpa using h2)) n.1
  | .ref m :: r, i + 1, 0, j, n, h1, h2 => by
    simp at h2; subst h2
    have n : (m :: refs r).Nodup := n
    rw [List.nodup_cons] at n
    exact absurd (mem_refs (as := r) (i := i) (by simpa using h1)) n.1
  | .ref m :: r, i + 1, k + 1, j, n, h1, h2 => by
    have n : (m :: refs r).Nodup := n
    rw [List.nodup_cons] at n
    rw [refs_inj (as := r) (i := i) (k := k) n.2 (by simpa using h1) (by simpa using h2)]
theorem backE_get : ∀ {as : List AV} {os : List Slot} {env env2 : Env'}, (refs as).Nodup → backE as os env = some env2 → env2.length = env.length ∧ (∀ j : Nat, j ∉ refs as → env2[j]? = env[j]?) ∧
    ∀ (i j : Nat), as[i]? = some (.ref j) → ∃ sl o, env[j]? = some sl ∧ os[i]? = some (.io o) ∧ env2[j]? = some (sl.put o)
  | [], os, env, env2, n, h => by
    cases h
    exact ⟨rfl, fun _ _ => rfl, fun i j q => by simp at q⟩
  | .val d :: as, os, env, env2, n, h => by
    obtain ⟨h1, h2, h3⟩ := backE_get (as := as) (os := os.tail) n h
    refine ⟨h1, h2, fun i j q => ?_⟩
    cases i with
    | zero => simp at q
    | succ i =>
      obtain ⟨sl, o, g1, g2, g3⟩ := h3 i j (by simpa using q)
      refine ⟨sl, o, g1, ?_, g3⟩
      cases os with
      | nil => simp at g2
      | cons s os => simpa using g2
  | .ref k :: as, os, env, env2, n, h => by
    have n : (k :: refs as).Nodup := n
    rw [List.nodup_cons] at n
    match os, h with
    | .io o :: os, h =>
      have h : (match env[k]? with
        | some sl => backE as os (env.set k (sl.put o))
        | none => none) = some env2 := h
      cases q : env[k]? with
      | none => rw [q] at h; cases h
      | some sl =>
        rw [q] at h
        have hk := (List.getElem?_eq_some_iff.mp q).1
        obtain ⟨h1, h2, h3⟩ := backE_get (as := as) (os := os) n.2 h
        refine ⟨by rw [h1, List.length_set], fun j hj => ?_, fun i j e => ?_⟩
        · have hj : j ∉ k :: refs as := hj
          rw [List.mem_cons, not_or] at hj
          rw [h2 j hj.2, List.getElem?_set_ne (Ne.symm hj.1)]
        · cases i with
          | zero =>
            simp at e; subst e
            exact ⟨sl, o, q, rfl, by rw [h2 _ n.1, List.getElem?_set_self hk]⟩
          | succ i =>
            have e' : as[i]? = some (.ref j) := by simpa using e
            obtain ⟨sl', o', g1, g2, g3⟩ := h3 i j e'
            have hne : k ≠ j := fun z => n.1 (by rw [z]; exact mem_refs e')
            rw [List.getElem?_set_ne hne] at g1
            exact ⟨sl', o', g1, by simpa using g2, g3⟩
    | [], h => cases h
    | .un :: _, h => cases h
    | .val _ :: _, h => cases h
    | .own _ :: _, h => cases h
/-- what a call gives back: M the mutable objects behind it -/
def Outs (S : Sg) (M : MS) (H' : Hp) (aw : OW) (outs : List Slot) : Prop := ∀ (i : Nat) (a : Addr), aw[i]? = some (some a) → ∃ o, outs[i]? = some (.io o) ∧ ObRep S M H' a o
def Res (S : Sg) (B : MS) (aw : OW) (H : Hp) (outs : List Slot) (v : V) (H' : Hp) : EV → Prop
  | .val d => Rep S (Md B aw) H' d v ∧ Outs S (Md B aw) H' aw outs
  | .new o => ∃ a, v = .ref a ∧ H a = none ∧ ObRep S (Md (plus B a) aw) H' a o ∧ Outs S (Md (plus B a) aw) H' aw outs
  | .own _ => False
/-- a function's promise -/
def spD (S : Sg) (FS : EF) (n : Nat) : Sp := fun vs H Q E => ∃ B aw as, vs.length = n ∧ Sim S (Md B aw) B aw as (vs.map some) H ∧ (∀ (i : Nat) (o : Ob), as[i]? ≠ some (.own o)) ∧
  FS.r as (fun e outs => ∀ v H', Kp aw H H' → TbM S.tabs (Md B aw) H' → Dom H H' → Res S B aw H outs v H' e → Q v H') (XP S (Md B aw) E aw H)
/-- the caller's side, behind a call -/
theorem after_call {aw : OW} {B2 : MS} {as : List AV} {outs : List Slot} {env2 : Env'} {H' : Hp} (s : Sim S M0 B ow1 env1 σ H1) (n : (refs as).Nodup) (kp : Kp aw H1 H') (kt : TbM S.tabs (Md B2 ow1) H') (dm : Dom H1 H')
    (haw : ∀ a, some a ∈ aw → Md B ow1 a) (hno : ∀ (j : Nat) (b : Addr), j ∉ refs as → ow1[j]? = some (some b) → some b ∉ aw) (hB : ∀ b, B b → B2 b) (hB2 : ∀ b, B2 b → B b ∨ H1 b = none) (tr : ∀ b, B2 b → ∃ u, H' b = some u)
    (ho : ∀ (i j : Nat) (a : Addr), as[i]? = some (.ref j) → ow1[j]? = some (some a) → ∃ o, outs[i]? = some (.io o) ∧ ObRep S (Md B2 ow1) H' a o) (he : backE as outs env1 = some env2) :
    Sim S M0 B2 ow1 env2 σ H' := by
  obtain ⟨g1, g2, g3⟩ := backE_get n he
  have mv : ∀ a o, Nt o → ¬ Md B ow1 a → H1 a = some o → H' a = some o ∧ ¬ Md B2 ow1 a := fun a o t n e => ⟨kp a o t (fun z => n (haw a z)) e, fun z => by
    rcases z with z | z
    · rcases hB2 a z with z | z
      · exact n (.inl z)
      · rw [z] at e; cases e
    · exact n (.inr z)⟩
  have plainp : ∀ (sl : Slot) (o : Ob) d, sl.put o = .val d → sl = .val d := fun sl o d e => by cases sl <;> first | exact e | cases e
  exact {
    l1 := by rw [g1]; exact s.l1
    l2 := s.l2
    val := fun j d ej => by
      by_cases hj : j ∈ refs as
      · obtain ⟨i, hi⟩ := of_refs hj
        obtain ⟨sl, o, q1, q2, q3⟩ := g3 i j hi
        rw [q3] at ej
        have := plainp sl o d (Option.some.inj ej)
        rw [this] at q1
        obtain ⟨v, h1, h2⟩ := s.val j d q1
        exact ⟨v, h1, Rep.move mv _ _ h2⟩
      · rw [g2 j hj] at ej
        obtain ⟨v, h1, h2⟩ := s.val j d ej
        exact ⟨v, h1, Rep.move mv _ _ h2⟩
    own := fun j o ej => by
      by_cases hj : j ∈ refs as
      · obtain ⟨i, hi⟩ := of_refs hj
        obtain ⟨sl, o', q1, q2, q3⟩ := g3 i j hi
        rw [q3] at ej
        cases sl with
        | own o0 =>
          cases ej
          obtain ⟨b, h1, h2, h3, h4⟩ := s.own j o0 q1
          obtain ⟨o2, r1, r2⟩ := ho i j b hi h1
          rw [q2] at r1; cases r1
          exact ⟨b, h1, h2, r2, h4⟩
        | un => cases ej
        | val d => cases ej
        | io o => cases ej
      · rw [g2 j hj] at ej
        obtain ⟨b, h1, h2, h3, h4⟩ := s.own j o ej
        exact ⟨b, h1, h2, h3.move (fun u t z => kp b u t (hno j b hj h1) z) mv, h4⟩
    io := fun j o ej => by
      by_cases hj : j ∈ refs as
      · obtain ⟨i, hi⟩ := of_refs hj
        obtain ⟨sl, o', q1, q2, q3⟩ := g3 i j hi
        rw [q3] at ej
        cases sl with
        | io o0 =>
          cases ej
          obtain ⟨b, h1, h2, h3⟩ := s.io j o0 q1
          obtain ⟨o2, r1, r2⟩ := ho i j b hi h1
          rw [q2] at r1; cases r1
          exact ⟨b, h1, h2, r2⟩
        | un => cases ej
        | val d => cases ej
        | own o => cases ej
      · rw [g2 j hj] at ej
        obtain ⟨b, h1, h2, h3⟩ := s.io j o ej
        exact ⟨b, h1, h2, h3.move (fun u t z => kp b u t (hno j b hj h1) z) mv⟩
    live := fun j a ha => by
      obtain ⟨o, q⟩ := s.live j a ha
      by_cases hj : j ∈ refs as
      · obtain ⟨i, hi⟩ := of_refs hj
        obtain ⟨sl, o', q1, q2, q3⟩ := g3 i j hi
        rw [q3]
        rcases q with q | q
        · rw [q] at q1; cases q1; exact ⟨o', .inl rfl⟩
        · rw [q] at q1; cases q1; exact ⟨o', .inr rfl⟩
      · rw [g2 j hj]; exact ⟨o, q⟩
    inj := s.inj
    dis := fun a ha z => by
      rcases hB2 a ha with q | q
      · exact s.dis a q z
      · obtain ⟨u, hu⟩ := s.trkA a (.inr z)
        rw [q] at hu; cases hu
    trk := tr
    m0 := fun a ha => (s.m0 a ha).imp (hB a) id
    tb := kt }
/-- a function's promise, used -/
def runF (FS : EF) (as : List Slot) (P : EV → List Slot → Prop) (X : Exx) : Prop := FS.r as P X
def callF (FS : EF) (n : Nat) (l : LA) : EF where
  r := fun env P X => l.r env (fun as env1 => as.length = n ∧ (refs as).Nodup ∧ runF FS (as.map (slotOf env1)) (fun e outs => e.isOwn = false ∧ ∃ env2, backE as outs env1 = some env2 ∧ P e env2) X) X
  m := fun hp hx h => l.m (fun as env1 ⟨h1, h2, h3⟩ => ⟨h1, h2, FS.m (fun e outs ⟨q, env2, h4, h5⟩ => ⟨q, env2, h4, hp _ _ h5⟩) hx h3⟩) hx h
/-- the callee's entry -/
theorem aw_sub {as : List AV} (a : Addr) (h : some a ∈ as.map (awOf ow1)) : ∃ i j : Nat, as[i]? = some (.ref j) ∧ ow1[j]? = some (some a) := by
  obtain ⟨av, h1, h2⟩ := List.mem_map.mp h
  obtain ⟨i, hi, e⟩ := List.getElem_of_mem h1
  cases av with
  | val d => cases h2
  | ref j =>
    refine ⟨i, j, by rw [List.getElem?_eq_getElem hi, e], ?_⟩
    have h2 : (ow1[j]?).join = some a := h2
    cases q : ow1[j]? with
    | none => rw [q] at h2; cases h2
    | some w => rw [q] at h2; rw [show w = some a from h2]
theorem aw_get {as : List AV} {i : Nat} {a : Addr} (h : (as.map (awOf ow1))[i]? = some (some a)) : ∃ j : Nat, as[i]? = some (.ref j) ∧ ow1[j]? = some (some a) := by
  rw [List.getElem?_map] at h
  obtain ⟨av, h1, h2⟩ := Option.map_eq_some_iff.mp h
  cases av with
  | val d => cases h2
  | ref j =>
    refine ⟨j, h1, ?_⟩
    have h2 : (ow1[j]?).join = some a := h2
    cases q : ow1[j]? with
    | none => rw [q] at h2; cases h2
    | some w => rw [q] at h2; rw [show w = some a from h2]
/-- those of the caller's that are not handed over -/
def Bc (B : MS) (ow1 aw : OW) : MS := fun a => Md B ow1 a ∧ some a ∉ aw
theorem md_bc {aw : OW} (h : ∀ a, some a ∈ aw → Md B ow1 a) : Md (Bc B ow1 aw) aw = Md B ow1 := by
  funext a
  apply propext
  constructor
  · rintro (z | z)
    · exact z.1
    · exact h a z
  · intro z
    by_cases q : some a ∈ aw
    · exact .inr q
    · exact .inl ⟨z, q⟩
theorem md_bcp {aw : OW} {x : Addr} (h : ∀ a, some a ∈ aw → Md B ow1 a) : Md (plus (Bc B ow1 aw) x) aw = Md (plus B x) ow1 := by
  have := md_bc h
  funext a
  apply propext
  have h1 : Md (Bc B ow1 aw) aw a ↔ Md B ow1 a := by rw [this]
  constructor
  · rintro ((z | z) | z)
    · rcases h1.mp (.inl z) with z | z
      · exact .inl (.inl z)
      · exact .inr z
    · exact .inl (.inr z)
    · rcases h1.mp (.inr z) with z | z
      · exact .inl (.inl z)
      · exact .inr z
  · rintro ((z | z) | z)
    · rcases h1.mpr (.inl z) with z | z
      · exact .inl (.inl z)
      · exact .inr z
    · exact .inl (.inr z)
    · rcases h1.mpr (.inr z) with z | z
      · exact .inl (.inl z)
      · exact .inr z
theorem arg_aw {as : List AV} : ∀ a, some a ∈ as.map (awOf ow1) → Md B ow1 a := fun a h => by
  obtain ⟨i, j, _, h2⟩ := aw_sub a h
  exact .inr (List.mem_of_getElem? h2)
theorem Sim.callee {as : List AV} {vs : List V} (s : Sim S M0 B ow1 env1 σ H1) (n : (refs as).Nodup) (ok : ArgsOk S (Md B ow1) H1 σ as vs) :
    Sim S (Md (Bc B ow1 (as.map (awOf ow1))) (as.map (awOf ow1))) (Bc B ow1 (as.map (awOf ow1))) (as.map (awOf ow1)) (as.map (slotOf env1)) (vs.map some) H1 ∧ ∀ (i : Nat) (o : Ob), (as.map (slotOf env1))[i]? ≠ some (.own o) := by
  have hM := md_bc (B := B) (ow1 := ow1) (aw := as.map (awOf ow1)) arg_aw
  have slot_io : ∀ {i : Nat} {o : Ob}, (as.map (slotOf env1))[i]? = some (.io o) → ∃ j sl, as[i]? = some (.ref j) ∧ env1[j]? = some sl ∧ sl.ob = some o := fun {i o} h => by
    rw [List.getElem?_map] at h
    obtain ⟨av, h1, h2⟩ := Option.map_eq_some_iff.mp h
    cases av with
    | val d => cases h2
    | ref j =>
      have h2 : (match (env1[j]?).bind Slot.ob with | some o => Slot.io o | none => .un) = .io o := h2
      cases q : (env1[j]?).bind Slot.ob with
      | none => rw [q] at h2; cases h2
      | some o' =>
        rw [q] at h2; cases h2
        obtain ⟨sl, q1, q2⟩ := Option.bind_eq_some_iff.mp q
        exact ⟨j, sl, h1, q1, q2⟩
  have noown : ∀ (i : Nat) (o : Ob), (as.map (slotOf env1))[i]? ≠ some (.own o) := fun i o h => by
    rw [List.getElem?_map] at h
    obtain ⟨av, h1, h2⟩ := Option.map_eq_some_iff.mp h
    cases av with
    | val d => cases h2
    | ref j =>
      have h2 : (match (env1[j]?).bind Slot.ob with | some o => Slot.io o | none => .un) = .own o := h2
      split at h2 <;> cases h2
  refine ⟨{
    l1 := by rw [List.length_map, List.length_map, ok.len]
    l2 := by rw [List.length_map, List.length_map, ok.len]
    val := fun i d h => by
      rw [hM]
      rw [List.getElem?_map] at h
      obtain ⟨av, h1, h2⟩ := Option.map_eq_some_iff.mp h
      cases av with
      | val d' =>
        cases h2
        obtain ⟨v, g1, g2⟩ := ok.val h1
        exact ⟨v, by rw [List.getElem?_map, g1]; rfl, g2⟩
      | ref j =>
        have h2 : (match (env1[j]?).bind Slot.ob with | some o => Slot.io o | none => .un) = .val d := h2
        split at h2 <;> cases h2
    own := fun i o h => absurd h (noown i o)
    io := fun i o h => by
      rw [hM]
      obtain ⟨j, sl, h1, h2, h3⟩ := slot_io h
      obtain ⟨a, g1, g2, g3⟩ := s.slot h2 h3
      obtain ⟨v, k1, k2⟩ := ok.ref h1
      rw [g2] at k2; cases k2
      refine ⟨a, ?_, by rw [List.getElem?_map, k1]; rfl, g3⟩
      rw [List.getElem?_map, h1]
      show some ((ow1[j]?).join) = _
      rw [g1]; rfl
    live := fun i a h => by
      obtain ⟨j, h1, h2⟩ := aw_get h
      obtain ⟨o, q⟩ := s.live j a h2
      refine ⟨o, .inr ?_⟩
      rw [List.getElem?_map, h1]
      show some (match (env1[j]?).bind Slot.ob with | some o => Slot.io o | none => .un) = _
      rcases q with q | q <;> rw [q] <;> rfl
    inj := fun i k a h1 h2 => by
      obtain ⟨j, g1, g2⟩ := aw_get h1
      obtain ⟨j', g3, g4⟩ := aw_get h2
      have := s.inj j j' a g2 g4
      subst this
      exact refs_inj n g1 g3
    dis := fun a h => h.2
    trk := fun a h => s.trkA a h.1
    m0 := fun a h => h
    tb := by rw [md_bc (B := B) (ow1 := ow1) (aw := as.map (awOf ow1)) arg_aw]; exact s.tb }, noown⟩
theorem dom_kp {aw : OW} {H' : Hp} (dm : Dom H1 H') {a : Addr} (h : ∃ u, H1 a = some u) : ∃ u, H' a = some u := by
  obtain ⟨u, hu⟩ := h
  exact dm a u hu
theorem ObRep.there {M : MS} {a : Addr} {o : Ob} (h : ObRep S M H a o) : ∃ u, H a = some u := by
  cases o with
  | lst ds => obtain ⟨vs, h1, _⟩ := h; exact ⟨_, h1⟩
  | dK ks ds => obtain ⟨vs, h1, _⟩ := h; exact ⟨_, h1⟩
  | dT ks ds => obtain ⟨vs, h1, _⟩ := h; exact ⟨_, h1⟩
  | ins c fs => obtain ⟨dx, vs, h1, _⟩ := h; exact ⟨_, h1⟩
theorem call_of {FS : EF} {n : Nat} {la : LA} (h : tE S M0 E (callF FS n la) σ H Q) : tCall (spD S FS n) [] E (tAg S M0 E la) σ H Q := by
  obtain ⟨B, ow, env, s, h⟩ := h
  refine ⟨B, ow, env, s, la.m (fun as env1 h1 vs H1 ow1 st1 s1 ok => ?_) (fun _ _ h => h) h⟩
  obtain ⟨hn, hnd, h1⟩ := h1
  obtain ⟨c1, c2⟩ := s1.callee hnd ok
  have hM := md_bc (B := B) (ow1 := ow1) (aw := as.map (awOf ow1)) arg_aw
  rw [List.append_nil]
  refine ⟨_, _, _, by rw [ok.len, hn], c1, c2, FS.m (fun e outs g v H' kp kt dm res => ?_) (fun c fs g dx H' kp dmx kt r => ?_) h1⟩
  · obtain ⟨q, env2, g1, g2⟩ := g
    rw [hM] at kt
    have hsub : ∀ a, some a ∈ as.map (awOf ow1) → some a ∈ ow1 := fun a ha => by
      obtain ⟨i, j, _, h2⟩ := aw_sub a ha
      exact List.mem_of_getElem? h2
    have st2 : Stp ow1 H1 ow1 H' := ⟨fun a o t n e => kp a o t (fun z => n (hsub a z)) e, fun _ _ h => .inl h, dm⟩
    have hno : ∀ (j : Nat) (b : Addr), j ∉ refs as → ow1[j]? = some (some b) → some b ∉ as.map (awOf ow1) := fun j b hj hb z => by
      obtain ⟨i, j', h1, h2⟩ := aw_sub b z
      have := s1.inj j j' b hb h2
      subst this
      exact hj (mem_refs h1)
    have outk : ∀ {M : MS}, Outs S M H' (as.map (awOf ow1)) outs → ∀ (i j : Nat) (a : Addr), as[i]? = some (.ref j) → ow1[j]? = some (some a) → ∃ o, outs[i]? = some (.io o) ∧ ObRep S M H' a o := fun ho i j a h1 h2 => ho i a (by
      rw [List.getElem?_map, h1]
      show some ((ow1[j]?).join) = _
      rw [h2]; rfl)
    cases e with
    | own j => cases q
    | val d =>
      obtain ⟨r1, r2⟩ := res
      rw [hM] at r1 r2
      have s2 := after_call s1 hnd kp kt dm (arg_aw (B := B)) hno (B2 := B) (fun _ h => h) (fun _ h => .inl h) (fun b hb => dom_kp (aw := as.map (awOf ow1)) dm (s1.trk b hb)) (outk r2) g1
      exact g2 v H' ow1 (st1.trans st2) trivial ⟨s2, r1⟩
    | new o =>
      obtain ⟨a, rfl, ha, r1, r2⟩ := res
      rw [md_bcp arg_aw] at r1 r2
      have kt2 : TbM S.tabs (Md (plus B a) ow1) H' := by
        obtain ⟨u, hu, _, hcu⟩ := ob_is r1
        exact kt.but hu hcu fun b z => by
          rcases z with (z | z) | z
          · exact .inl (.inl z)
          · exact .inr z
          · exact .inl (.inr z)
      have s2 := after_call s1 hnd kp kt2 dm (arg_aw (B := B)) hno (B2 := plus B a) (fun _ h => .inl h) (fun b hb => hb.imp id fun z => by rw [z]; exact ha) (fun b hb => by
        rcases hb with hb | hb
        · exact dom_kp (aw := as.map (awOf ow1)) dm (s1.trk b hb)
        · rw [hb]; exact r1.there) (outk r2) g1
      have na : ¬ Md B ow1 a := fun z => by
        obtain ⟨u, hu⟩ := s1.trkA a z
        rw [ha] at hu; cases hu
      exact g2 _ H' ow1 (st1.trans st2) (.at (st1.fresh ha)) ⟨a, rfl, na, fun z => na (s1.m0 a z), s2, r1⟩
  · refine XP.stp st1 g dx H' (fun a o t n e => kp a o t (fun z => n ?_) e) dmx (by rw [hM] at kt; exact kt.anti s1.m0) ?_
    · obtain ⟨i, j, _, h2⟩ := aw_sub a z
      exact List.mem_of_getElem? h2
    · rw [hM] at r
      obtain ⟨l, r1, rn, r2, r3⟩ := r
      refine ⟨l, r1, fun z => rn (s1.m0 _ z), r2, fun i f d e1 e2 => ?_⟩
      obtain ⟨v, k1, k2⟩ := r3 i f d e1 e2
      exact ⟨v, k1, k2.anti fun a ha => s1.m0 a ha⟩
variable {FS : EF} {CX : CXT} {k n : Nat} {g : Addr} {fd : FuncData} {ps : List Str}
theorem r_call (F : FnOk X.prog X.w X.K X.mg X.base CX k g fd ps (spD S FS n)) (hr : Room k X.A) (hm : X.mg x = some (.ref g)) (hk : PySem.W.keepIn X.K (.ref g) = true) (hb : Binds X.K fd ps []) (hx : Passes CX X E)
    (ha : PA X (e :: es) (tAg S M0 E la)) (hg : Gl X x := by rfl) (hdb : (x == ("__debug__" : Str)) = false := by decide) (he : starEach (e :: es) X.env = (false, eval e X.env) :: starEach es X.env := by rfl) (hpl : (backTo pos (starEach es X.env)).any (·.1) = false := by rfl) :
    PE X (.Call (.Name x p) (e :: es) [] pos) (tE S M0 E (callF FS n la)) :=
  PE.imp (pe_call (dvs := []) F hr hg hm hk hb .nil hx ha hdb he hpl) fun σ H Q h => call_of h
end
end En
set_option Elab.async false
set_option linter.all false
set_option maxRecDepth 100000
namespace En
open PySem PySem.Spec PyProof.Rows L2
section
variable {X : Cx} {S : Sg} {M0 B : MS} {E : XK} {ow ow0 ow1 : OW} {env env1 : Env'} {σ : L2.St} {H H0 H1 : Hp}
variable {a b c e e2 elt value : Expr} {es ifs : List Expr} {f f2 f3 : EF} {t t2 : TF} {pos p apos tpos pos' : Pos} {x y z : Str} {la : LA} {sb : SF}
/-! ### a def's body -/
def retE (env : Env') : EV → Option EV
  | .own i => match env[i]? with
    | some (.own o) => some (.new o)
    | _ => none
  | e => some e
/-- m names, n parameters -/
def bodyF (m n : Nat) (sb : SF) : EF where
  r := fun as P X => sb.r (as ++ List.replicate (m - n) .un) ⟨fun env => P (.val .non) env, fun e env => ∃ e', retE env e = some e' ∧ P e' env, fun _ => False, fun _ => False⟩ X
  m := fun {env P P' X X'} hp hx h => sb.m (P := ⟨fun env => P (.val .non) env, fun e env => ∃ e', retE env e = some e' ∧ P e' env, fun _ => False, fun _ => False⟩) (P' := ⟨fun env => P' (.val .non) env, fun e env => ∃ e', retE env e = some e' ∧ P' e' env, fun _ => False, fun _ => False⟩)
    ⟨fun _ h => hp _ _ h, fun _ _ ⟨e', h1, h2⟩ => ⟨e', h1, hp _ _ h2⟩, fun _ h => h, fun _ h => h⟩ hx h
theorem get_app {α : Type} {xs : List α} {n : Nat} {u v : α} {i : Nat} (h : (xs ++ List.replicate n u)[i]? = some v) (hv : v ≠ u) : xs[i]? = some v := by
  rw [List.getElem?_append] at h
  split at h
  · exact h
  · rw [List.getElem?_replicate] at h
    split at h
    · cases h; exact absurd rfl hv
    · cases h
theorem app_get {α : Type} {xs : List α} {n : Nat} {u v : α} {i : Nat} (h : xs[i]? = some v) : (xs ++ List.replicate n u)[i]? = some v := by
  rw [List.getElem?_append_left (List.getElem?_eq_some_iff.mp h).1]; exact h
theorem mem_app {aw : OW} {n : Nat} {a : Addr} : some a ∈ aw ++ List.replicate n none ↔ some a ∈ aw := by
  rw [List.mem_append]
  constructor
  · rintro (h | h)
    · exact h
    · cases (List.mem_replicate.mp h).2
  · exact .inl
theorem md_app {aw : OW} {n : Nat} : Md B (aw ++ List.replicate n none) = Md B aw := by
  funext a
  apply propext
  constructor
  · rintro (h | h)
    · exact .inl h
    · exact .inr (mem_app.mp h)
  · rintro (h | h)
    · exact .inl h
    · exact .inr (mem_app.mpr h)
theorem Sim.ext {aw : OW} {as : List Slot} {vs : List V} {n : Nat} (s : Sim S M0 B aw as (vs.map some) H) : Sim S M0 B (aw ++ List.replicate n none) (as ++ List.replicate n .un) (vs.map some ++ List.replicate n none) H where
  l1 := by rw [List.length_append, List.length_append, s.l1, List.length_replicate, List.length_replicate]
  l2 := by rw [List.length_append, List.length_append, s.l2, List.length_replicate, List.length_replicate]
  val := fun i d h => by
    rw [md_app]
    obtain ⟨v, h1, h2⟩ := s.val i d (get_app h fun z => by cases z)
    exact ⟨v, app_get h1, h2⟩
  own := fun i d h => by
    rw [md_app]
    obtain ⟨a, h1, h2, h3⟩ := s.own i d (get_app h fun z => by cases z)
    exact ⟨a, app_get h1, app_get h2, h3⟩
  io := fun i d h => by
    rw [md_app]
    obtain ⟨a, h1, h2, h3⟩ := s.io i d (get_app h fun z => by cases z)
    exact ⟨a, app_get h1, app_get h2, h3⟩
  live := fun i a h => by
    obtain ⟨o, q⟩ := s.live i a (get_app h fun z => by cases z)
    exact ⟨o, q.imp app_get app_get⟩
  inj := fun i j a h1 h2 => s.inj i j a (get_app h1 fun z => by cases z) (get_app h2 fun z => by cases z)
  dis := fun a h z => s.dis a h (mem_app.mp z)
  trk := s.trk
  m0 := fun a h => by rw [md_app]; exact s.m0 a h
  tb := by rw [md_app]; exact s.tb
/-- what stands at a body's end -/
theorem outs_of {aw ow' : OW} {as : List Slot} {vs : List V} {n : Nat} {env' : Env'} {σ' : L2.St} {H' : Hp} {B2 : MS} (s : Sim S (Md B aw) B aw as (vs.map some) H) (st : Stp (aw ++ List.replicate n none) H ow' H') (s' : Sim S (Md B aw) B2 ow' env' σ' H') (hB : ∀ b, B2 b → B b ∨ H b = none) :
    Outs S (Md B2 ow') H' aw env' := fun i a h => by
  obtain ⟨u, hu⟩ := s.trkA a (.inr (List.mem_of_getElem? h))
  have h0 : Md B aw a := .inr (List.mem_of_getElem? h)
  have h1 : some a ∈ ow' := by
    rcases s'.m0 a h0 with z | z
    · rcases hB a z with z | z
      · exact absurd (List.mem_of_getElem? h) (s.dis a z)
      · rw [z] at hu; cases hu
    · exact z
  obtain ⟨k, hk, ek⟩ := List.getElem_of_mem h1
  have ek' : ow'[k]? = some (some a) := by rw [List.getElem?_eq_getElem hk, ek]
  have hki : k = i := by
    rcases st.nwp k a ek' with z | z
    · exact s.inj k i a (get_app z fun z => by cases z) h
    · rw [z] at hu; cases hu
  subst hki
  obtain ⟨o, q⟩ := s'.live k a ek'
  rcases q with q | q
  · obtain ⟨b, e1, _, _, e4⟩ := s'.own k o q
    rw [ek'] at e1; cases e1
    exact absurd h0 e4
  · obtain ⟨b, e1, _, e3⟩ := s'.io k o q
    rw [ek'] at e1; cases e1
    exact ⟨o, q, e3⟩
theorem Outs.anti {M M' : MS} {aw : OW} {outs : List Slot} (h : Outs S M H aw outs) (g : ∀ a, M' a → M a) : Outs S M' H aw outs := fun i a q => by
  obtain ⟨o, h1, h2⟩ := h i a q
  exact ⟨o, h1, h2.anti g⟩
theorem body_run {m n : Nat} {vs : List V} {Q : VK} {N : List Str} (hm : N.length = m) (h : spD S (bodyF m n sb) n vs H Q E) : ∃ M, tS S M E sb { nx := fun _ H' => Q .non H', rt := Q } (L2.start N vs) H := by
  obtain ⟨B, aw, as, hl, s, no, h⟩ := h
  refine ⟨Md B aw, B, aw ++ List.replicate (m - n) none, as ++ List.replicate (m - n) .un, ?_, ?_⟩
  · show Sim S (Md B aw) B _ _ (vs.map some ++ List.replicate (N.length - vs.length) none) H
    rw [hm, hl]
    exact s.ext
  have dom : ∀ {ow' : OW} {H' : Hp}, Stp (aw ++ List.replicate (m - n) none) H ow' H' → Kp aw H H' ∧ Dom H H' := fun st => ⟨fun a o t n e => st.kp a o t (fun z => n (mem_app.mp z)) e, st.gr⟩
  refine sb.m ⟨fun env h σ' H' ow' st s' => ?_, fun e env h v σ' H' ow' st nw s' => ?_, fun _ (h : False) => h.elim, fun _ (h : False) => h.elim⟩ (fun c fs h dx H' k dmx kt r => h dx H' (fun a o t n e => k a o t (fun z => n (mem_app.mp z)) e) dmx kt r) h
  · obtain ⟨k1, k2⟩ := dom st
    exact h .non H' k1 (s'.tb.anti s'.m0) k2 ⟨rfl, (outs_of s st s' fun _ h => .inl h).anti s'.m0⟩
  · obtain ⟨k1, k2⟩ := dom st
    obtain ⟨e', q, h⟩ := h
    cases e with
    | val d =>
      cases q
      exact h v H' k1 (s'.1.tb.anti s'.1.m0) k2 ⟨s'.2.anti s'.1.m0, (outs_of s st s'.1 fun _ h => .inl h).anti s'.1.m0⟩
    | new o =>
      cases q
      obtain ⟨a, rfl, na, n0, s2, r⟩ := s'
      have ha := nw a rfl
      have sub : ∀ b, Md (plus B a) aw b → Md (plus B a) ow' b := fun b z => by
        rcases z with (z | z) | z
        · exact .inl (.inl z)
        · exact .inl (.inr z)
        · exact s2.m0 b (.inr z)
      exact h _ H' k1 (s2.tb.anti fun b z => sub b (z.imp .inl id)) k2 ⟨a, rfl, ha, r.anti sub, (outs_of s st s2 fun b hb => hb.imp (fun z => z) fun z => by rw [z]; exact ha).anti sub⟩
    | own i =>
      have q : (match env[i]? with | some (.own o) => some (EV.new o) | _ => none) = some e' := q
      split at q
      · rename_i o ho
        cases q
        obtain ⟨s2, a, o', rfl, h1, h2⟩ := s'
        obtain ⟨b, g1, g2, g3, g4⟩ := s2.own i o ho
        rw [h1] at g1; cases g1
        have ha : H a = none := by
          rcases st.nwp i a h1 with z | z
          · exact absurd (.inr (List.mem_of_getElem? (get_app z fun z => by cases z))) g4
          · exact z
        have sub : ∀ b, Md (plus B a) aw b → Md B ow' b := fun b z => by
          rcases z with (z | z) | z
          · exact .inl z
          · rw [z]; exact .inr (List.mem_of_getElem? h1)
          · exact s2.m0 b (.inr z)
        exact h _ H' k1 (s2.tb.anti fun b z => sub b (z.imp .inl id)) k2 ⟨a, rfl, ha, g3.anti sub, (outs_of s st s2 fun _ h => .inl h).anti sub⟩
      · cases q
theorem spD_len {FS : EF} {n : Nat} : ∀ vs H Q E, spD S FS n vs H Q E → vs.length = n := fun vs H Q E h => by
  obtain ⟨_, _, _, h, _⟩ := h
  exact h
/-- a def, by its body -/
theorem fn_D {P : Program} {w : World} {mg : Str → Option Value} {base : Heap} {qual : Str} {st : Stmt} {g : Addr} {fd : FuncData} {N ps : List Str} {k : Nat} (F : Fun S.K x qual st g fd) (Sc : FnScope N ps (defScope st))
    (hb : ∀ (M : MS) (cdv : Value) (A : Around) (outer : List Env) (s : Shared) (H : Hp) (E : XK), Room k (A.deeper (envOfC qual (defScope st) s.heap.objs.size g cdv)) → PSs (cxOf (L2.CX P w) P w S.K mg base N qual (defScope st) g cdv A outer s H E) (defBody st) (tS S M E sb)) :
    FnOk P w S.K mg base (L2.CX P w) (k + 1) g fd ps (spD S (bodyF N.length ps.length sb) ps.length) :=
  F.okX Sc spD_len fun cdv A outer s H vs Q E hr hsp => by
    obtain ⟨M, hM⟩ := body_run rfl hsp
    exact ⟨_, hb M cdv A outer s H E hr, hM⟩
/-- what is not promised anything of -/
def nevF : EF where
  r := fun _ _ _ => False
  m := fun _ _ h => h
theorem fn_nev {P : Program} {w : World} {K : PySem.W.Frag} {mg : Str → Option Value} {base : Heap} {CX : CXT} {k : Nat} {g : Addr} {fd : FuncData} {ps : List Str} : FnOk P w K mg base CX k g fd ps (spD S nevF ps.length) :=
  ⟨spD_len, fun A outer s H args us vs Q E _ _ _ _ h => by
    obtain ⟨_, _, _, _, _, _, h⟩ := h
    exact h.elim⟩
/-! ### o.f = e -/
def putFs (nm : Str) (d : D) : List (Str × D) → List (Str × D)
  | [] => [(nm, d)]
  | q :: r => if q.1 = nm then (q.1, d) :: r else q :: putFs nm d r
theorem putFs_v {M : MS} {nm : Str} {d : D} {v : V} (r : Rep S M H d v) : ∀ {fs : List (Str × D)} {vs : List V}, RepL S M H (fs.map (·.2)) vs → ∃ vs', putF nm v ((fs.map (·.1)).zip vs) = ((putFs nm d fs).map (·.1)).zip vs' ∧ (putFs nm d fs).length = vs'.length ∧ RepL S M H ((putFs nm d fs).map (·.2)) vs'
  | [], vs, h => by cases h; exact ⟨[v], rfl, rfl, ⟨v, [], rfl, r, rfl⟩⟩
  | q :: fs, _, h => by
    obtain ⟨w, t, rfl, h1, h2⟩ := h
    by_cases hq : q.1 = nm
    · refine ⟨v :: t, ?_, ?_, ?_⟩
      · show (if q.1 = nm then (q.1, v) :: _ else _) = ((if q.1 = nm then (q.1, d) :: fs else _).map (·.1)).zip _
        rw [if_pos hq, if_pos hq]; rfl
      · have := h2.len
        rw [List.length_map] at this
        show (if q.1 = nm then (q.1, d) :: fs else _).length = _
        rw [if_pos hq]; simp [this]
      · show RepL S M H ((if q.1 = nm then (q.1, d) :: fs else _).map (·.2)) _
        rw [if_pos hq]
        exact ⟨v, t, rfl, r, h2⟩
    · obtain ⟨vs', e1, e2, e3⟩ := putFs_v (nm := nm) r h2
      refine ⟨w :: vs', ?_, ?_, ?_⟩
      · show (if q.1 = nm then _ else (q.1, w) :: putF nm v _) = ((if q.1 = nm then _ else q :: putFs nm d fs).map (·.1)).zip _
        rw [if_neg hq, if_neg hq]
        show (q.1, w) :: putF nm v ((fs.map (·.1)).zip t) = _
        rw [e1]; rfl
      · show (if q.1 = nm then _ else q :: putFs nm d fs).length = _
        rw [if_neg hq]; simp [e2]
      · show RepL S M H ((if q.1 = nm then _ else q :: putFs nm d fs).map (·.2)) _
        rw [if_neg hq]
        exact ⟨w, vs', rfl, h1, e3⟩
def setF (F : Nat → List Str) (ics : List Nat) (i : Nat) (nm : Str) (f : EF) : SF where
  r := fun env P X => f.r env (fun e env1 => ∃ d, e.keep F = some d ∧ ∃ sl c fs, env1[i]? = some sl ∧ sl.ob = some (.ins c fs) ∧ c ∈ ics ∧ nm ∈ F c ∧ fs.length < 1000 ∧ P.nx (env1.set i (sl.put (.ins c (putFs nm d fs))))) X
  m := fun hp hx h => f.m (fun _ _ ⟨d, h0, sl, c, fs, h1, h2, h3, h4, h5, h6⟩ => ⟨d, h0, sl, c, fs, h1, h2, h3, h4, h5, hp.nx _ h6⟩) hx h
theorem s_fld {i : Nat} {ics : List Nat} {nm : Str} (hk : X.K = S.K) (ok : SgOk S ics) (he : PE X value (tE S M0 E f)) (hN : X.N[i]? = some x := by rfl) (hs : swapsWith value (some (.Attribute (.Name x p) nm pos')) pos.line X.env = pure false := by rfl)
    (hv : Vis X.env.scope x := by first | exact Or.inl rfl | exact Or.inr (Or.inl rfl) | exact Or.inr (Or.inr rfl)) (hd : (x == ("__debug__" : Str)) = false := by decide) (hcd : (x == ("__classdict__" : Str)) = false := by decide) :
    PS X (.Assign [.Attribute (.Name x p) nm pos'] value pos) (tS S M0 E (setF S.flds ics i nm f)) := PS.imp (ps_fld (pe_var hN hv hd hcd) he hs) fun D σ H h => by
  obtain ⟨B, ow, env, s, h⟩ := h
  refine ⟨B, ow, env, s, f.m (fun e env1 h v H1 ow1 st1 nw1 ok1 => ?_) (fun _ _ h => h) h⟩
  obtain ⟨d, q, sl, c, fs, h1, h2, h3, h4, h5, h6⟩ := h
  obtain ⟨s1, r1⟩ := ok1.keep q
  obtain ⟨a, k1, k2, dx, vs, k3, k4, k5⟩ := s1.slot h1 h2
  have q := ok.c _ h3
  have hm : Md B ow1 a := .inr (List.mem_of_getElem? k1)
  obtain ⟨vs', e1, e2, e3⟩ := putFs_v (nm := nm) r1 k5
  rw [hk]
  refine ⟨_, k2, a, _, dx, _, rfl, k3, q.cl, q.nf nm h4, by rw [List.length_zip, List.length_map, k4, Nat.min_self, ← k4]; exact h5, ?_⟩
  rw [e1]
  obtain ⟨p1, p2⟩ := s1.put (o' := .ins c (putFs nm d fs)) (ho := .ins (S.cls c) dx _) h1 h2 k1 ⟨dx, vs', upd_same, e2, e3.upd_at hm⟩
  exact h6 σ _ ow1 (st1.trans p2) p1
/-! ### C(..) -/
def mkF (c : Nat) (FS : EF) (n : Nat) (l : LA) : EF where
  r := fun env P X => l.r env (fun as env1 => as.length + 1 = n ∧ (refs as).Nodup ∧ runF FS (.io (.ins c []) :: as.map (slotOf env1)) (fun e outs => e = .val .non ∧ ∃ o os, outs = .io o :: os ∧ ∃ env2, backE as os env1 = some env2 ∧ P (.new o) env2) X) X
  m := fun hp hx h => l.m (fun as env1 ⟨h1, h2, h3⟩ => ⟨h1, h2, FS.m (fun e outs ⟨q, o, os, h4, env2, h5, h6⟩ => ⟨q, o, os, h4, env2, h5, hp _ _ h6⟩) hx h3⟩) hx h
def rm (B : MS) (x : Addr) : MS := fun b => B b ∧ b ≠ x
theorem md_rm {aw : OW} {x : Addr} (hx : B x) : Md (rm B x) (some x :: aw) = Md B aw := by
  funext b
  apply propext
  constructor
  · rintro (z | z)
    · exact .inl z.1
    · rcases List.mem_cons.mp z with z | z
      · cases z; exact .inl hx
      · exact .inr z
  · rintro (z | z)
    · by_cases hb : b = x
      · rw [hb]; exact .inr List.mem_cons_self
      · exact .inl ⟨z, hb⟩
    · exact .inr (List.mem_cons_of_mem _ z)
theorem Sim.cons {aw : OW} {as : List Slot} {vs : List V} {x : Addr} {o : Ob} (s : Sim S (Md B aw) B aw as (vs.map some) H) (hx : B x) (r : ObRep S (Md B aw) H x o) :
    Sim S (Md (rm B x) (some x :: aw)) (rm B x) (some x :: aw) (.io o :: as) ((V.ref x :: vs).map some) H := by
  have hM := md_rm (aw := aw) hx
  have nx : some x ∉ aw := s.dis x hx
  exact {
    l1 := by simp [s.l1]
    l2 := by simp [s.l2]
    val := fun i d h => by
      rw [hM]
      cases i with
      | zero => cases h
      | succ i => exact s.val i d (by simpa using h)
    own := fun i o h => by
      cases i with
      | zero => cases h
      | succ i =>
        obtain ⟨a, h1, h2, h3, h4⟩ := s.own i o (by simpa using h)
        exact absurd (.inr (List.mem_of_getElem? h1)) h4
    io := fun i o' h => by
      rw [hM]
      cases i with
      | zero => cases h; exact ⟨x, rfl, rfl, r⟩
      | succ i => exact s.io i o' (by simpa using h)
    live := fun i a h => by
      cases i with
      | zero => cases h; exact ⟨o, .inr rfl⟩
      | succ i =>
        obtain ⟨o', q⟩ := s.live i a (by simpa using h)
        exact ⟨o', q⟩
    inj := fun i j a h1 h2 => by
      cases i with
      | zero =>
        cases j with
        | zero => rfl
        | succ j => cases h1; exact absurd (List.mem_of_getElem? (i := j) (by simpa using h2)) nx
      | succ i =>
        cases j with
        | zero => cases h2; exact absurd (List.mem_of_getElem? (i := i) (by simpa using h1)) nx
        | succ j => rw [s.inj i j a (by simpa using h1) (by simpa using h2)]
    dis := fun a h z => by
      rcases List.mem_cons.mp z with z | z
      · cases z; exact h.2 rfl
      · exact s.dis a h.1 z
    trk := fun a h => s.trk a h.1
    m0 := fun a h => h
    tb := by rw [hM]; exact s.tb }
theorem make_of {c : Nat} {FS : EF} {n : Nat} {la : LA} (h : tE S M0 E (mkF c FS n la) σ H Q) : tMake (S.cls c) (spD S FS n) [] E (tAg S M0 E la) σ H Q := by
  obtain ⟨B, ow, env, s, h⟩ := h
  refine ⟨B, ow, env, s, la.m (fun as env1 h1 vs H1 ow1 st1 s1 ok x dx hx hdx hne => ?_) (fun _ _ h => h) h⟩
  obtain ⟨hn, hnd, h1⟩ := h1
  have g0 : Grow H1 (upd H1 dx (.own x)) := .upd hdx
  have hx2 : (upd H1 dx (.own x)) x = none := by rw [upd_ne (Ne.symm hne)]; exact hx
  obtain ⟨p', ep, np, n0, s2, ob⟩ := new_ok (ho := .ins (S.cls c) dx []) (o := .ins c []) (s1.grow g0) hx2 fun M hM => ⟨dx, [], upd_same, rfl, rfl⟩
  cases ep
  generalize hHx : upd (upd H1 dx (.own x)) x (.ins (S.cls c) dx []) = Hx at *
  have gx : Grow H1 Hx := by rw [← hHx]; exact g0.trans (.upd hx2)
  have hHxx : Hx x = some (.ins (S.cls c) dx []) := by rw [← hHx]; exact upd_same
  have ok2 : ArgsOk S (Md (plus B x) ow1) Hx σ as vs := by
    clear h1 hn hnd
    have mv : ∀ d v, Rep S (Md B ow1) H1 d v → Rep S (Md (plus B x) ow1) Hx d v := fun d v r => Rep.move (fun a o _ n e => ⟨gx a o e, fun z => by
      rcases z with (z | z) | z
      · exact n (.inl z)
      · rw [z, hx] at e; cases e
      · exact n (.inr z)⟩) _ _ r
    induction as generalizing vs with
    | nil => exact ok
    | cons a as ih =>
      cases a with
      | val d => obtain ⟨v, t, e, h1, h2⟩ := ok; exact ⟨v, t, e, mv _ _ h1, ih _ h2⟩
      | ref j => obtain ⟨v, t, e, h1, h2⟩ := ok; exact ⟨v, t, e, h1, ih _ h2⟩
  obtain ⟨c1, c2⟩ := s2.callee hnd ok2
  have hM := md_bc (B := plus B x) (ow1 := ow1) (aw := as.map (awOf ow1)) arg_aw
  have nxo : some x ∉ ow1 := s2.dis x (.inr rfl)
  have nxa : some x ∉ as.map (awOf ow1) := fun z => by
    obtain ⟨i, j, _, h2⟩ := aw_sub x z
    exact nxo (List.mem_of_getElem? h2)
  have hbx : Bc (plus B x) ow1 (as.map (awOf ow1)) x := ⟨.inl (.inr rfl), nxa⟩
  have c3 := c1.cons hbx (by rw [hM]; exact ob)
  have hM2 := md_rm (aw := as.map (awOf ow1)) hbx
  rw [hM] at hM2
  rw [List.append_nil]
  have nxH : ¬ Md B ow1 x := fun z => by
    obtain ⟨u, hu⟩ := s1.trkA x z
    rw [hx] at hu; cases hu
  refine ⟨_, _, _, by rw [List.length_cons, ok.len, hn], c3, fun i o q => ?_, FS.m (fun e outs g v H' kp kt dm res => ?_) (fun c fs g dx' H' kp dmx kt r => ?_) h1⟩
  · cases i with
    | zero => cases q
    | succ i => exact c2 i o (by simpa using q)
  · obtain ⟨rfl, o, os, rfl, env2, g1, g2⟩ := g
    obtain ⟨r1, r2⟩ := res
    cases r1
    refine ⟨rfl, ?_⟩
    rw [hM2] at r2 kt
    obtain ⟨o', q1, q2⟩ := r2 0 x rfl
    cases q1
    have hno : ∀ (j : Nat) (b : Addr), j ∉ refs as → ow1[j]? = some (some b) → some b ∉ (some x :: as.map (awOf ow1)) := fun j b hj hb z => by
      rcases List.mem_cons.mp z with z | z
      · cases z; exact nxo (List.mem_of_getElem? hb)
      · obtain ⟨i, j', h1, h2⟩ := aw_sub b z
        have := s1.inj j j' b hb h2
        subst this
        exact hj (mem_refs h1)
    have s3 := after_call s2 hnd kp kt dm (fun a ha => by
      rcases List.mem_cons.mp ha with z | z
      · cases z; exact .inl (.inr rfl)
      · exact arg_aw a z) hno (B2 := plus B x) (fun _ h => h) (fun _ h => .inl h) (fun b hb => dom_kp (aw := as.map (awOf ow1)) dm (s2.trk b hb)) (fun i j a h1 h2 => by
        obtain ⟨o'', q3, q4⟩ := r2 (i + 1) a (by
          rw [List.getElem?_cons_succ, List.getElem?_map, h1]
          show some ((ow1[j]?).join) = _
          rw [h2]; rfl)
        exact ⟨o'', by simpa using q3, q4⟩) g1
    have st2 : Stp ow1 H1 ow1 H' := ⟨fun a o t n e => kp a o t (fun z => by
      rcases List.mem_cons.mp z with z | z
      · cases z; rw [hx] at e; cases e
      · obtain ⟨i, j, _, h2⟩ := aw_sub a z
        exact n (List.mem_of_getElem? h2)) (gx a o e), fun _ _ h => .inl h, fun a o e => dm a o (gx a o e)⟩
    exact g2 _ H' ow1 (st1.trans st2) (.at (st1.fresh hx)) ⟨x, rfl, nxH, fun z => nxH (s1.m0 x z), s3, q2⟩
  · refine XP.stp st1 g dx' H' (fun a o t n e => kp a o t (fun z => ?_) (gx a o e)) (fun a o e => dmx a o (gx a o e)) (by rw [hM2] at kt; exact kt.anti fun a ha => (s1.m0 a ha).elim (fun z => .inl (.inl z)) .inr) ?_
    · rcases List.mem_cons.mp z with z | z
      · cases z; rw [hx] at e; cases e
      · obtain ⟨i, j, _, h2⟩ := aw_sub a z
        exact n (List.mem_of_getElem? h2)
    · rw [hM2] at r
      obtain ⟨l, r1, rn, r2, r3⟩ := r
      refine ⟨l, r1, fun z => rn ((s1.m0 _ z).elim (fun z => .inl (.inl z)) .inr), r2, fun i f d e1 e2 => ?_⟩
      obtain ⟨v, k1, k2⟩ := r3 i f d e1 e2
      exact ⟨v, k1, k2.anti fun a ha => (s1.m0 a ha).elim (fun z => .inl (.inl z)) .inr⟩
variable {FS : EF} {CX : CXT} {k n cn : Nat} {g : Addr} {fd : FuncData} {ps : List Str}
theorem r_make (M : Mk X.K (S.cls cn) g) (F : FnOk X.prog X.w X.K X.mg X.base CX k g fd ps (spD S FS n)) (hr : Room (k + 1) X.A) (hm : X.mg x = some (.ref (S.cls cn))) (hb : Binds X.K fd ps []) (hx : Passes CX X E)
    (ha : PA X (e :: es) (tAg S M0 E la)) (hg : Gl X x := by rfl) (hdb : (x == ("__debug__" : Str)) = false := by decide) (he : starEach (e :: es) X.env = (false, eval e X.env) :: starEach es X.env := by rfl) (hpl : (backTo pos (starEach es X.env)).any (·.1) = false := by rfl) :
    PE X (.Call (.Name x p) (e :: es) [] pos) (tE S M0 E (mkF cn FS n la)) :=
  PE.imp (pe_make (dvs := []) M F hr hg hm hb .nil hx ha hdb he hpl) fun σ H Q h => make_of h
end
end En
set_option Elab.async false
set_option linter.all false
set_option maxRecDepth 100000
namespace En
open PySem PySem.Spec PyProof.Rows L2
section
variable {X : Cx} {S : Sg} {M0 B : MS} {E : XK} {ow ow0 ow1 : OW} {env env1 : Env'} {σ : L2.St} {H H0 H1 : Hp}
variable {a b : Expr} {f f2 : EF} {pos : Pos}
theorem looks_ref {M : Model} {h : Heap} {a : Addr} {T : String} (x : ∃ o, h.get? a = some o ∧ o.cls = .type T) : PySem.W.Looks M h (typeOf (.ref a)) (.type T) := fun A Q E s k q => by
  obtain ⟨o, h1, h2⟩ := x
  exact wpAny_typeOf (⟨o, k a o h1, h2⟩ : s.TypeIs (.ref a) T) q
theorem looks_of {pins : List (Addr × Obj)} {s : Shared} {x : V} {u t : Value} (I : Inv X pins σ H s) (rx : RelV x u) (ty : TyX X.K H x t) (hb : ∀ y, x ≠ .byt y) (hf : ∀ y, x ≠ .flt y) : PySem.W.Looks (model X.prog X.w) s.heap (typeOf u) t := by
  cases ty with
  | base b =>
    cases b with
    | non => cases (show u = Value.none from rx); exact fun A Q E s k q => wpAny_typeOf (typeIs_none s) q
    | bl y => cases (show u = Value.bool y from rx); exact fun A Q E s k q => wpAny_typeOf (PySem.typeIs_bool s y) q
    | int i => obtain ⟨t, q⟩ := (show ∃ t, u = Value.int i t from rx); cases q; exact fun A Q E s k q => wpAny_typeOf (typeIs_int s i t) q
    | str y => obtain ⟨t, q⟩ := (show ∃ t, u = Value.str y t from rx); cases q; exact fun A Q E s k q => wpAny_typeOf (typeIs_str s y t) q
    | flt y => exact absurd rfl (hf y)
    | @lst a xs ea =>
      cases (show u = Value.ref a from rx)
      obtain ⟨_, _, n, _, h1⟩ := (show ObjOk X.prog X.w H s.heap a (.lst xs) from I.hok a _ ea)
      exact looks_ref ⟨_, h1, rfl⟩
    | @frz a ob xs ea =>
      cases (show u = Value.ref a from rx)
      obtain ⟨_, _, _, n, _, h1⟩ := (show ObjOk X.prog X.w H s.heap a (.frz ob (.lst xs)) from I.hok a _ ea)
      exact looks_ref ⟨_, h1, rfl⟩
    | @tup a xs ea =>
      cases (show u = Value.ref a from rx)
      obtain ⟨_, _, _, o, h1, h2, _⟩ := (show ObjOk X.prog X.w H s.heap a (.tup xs) from I.hok a _ ea)
      exact looks_ref ⟨o, h1, h2⟩
    | @dK a kvs ea =>
      cases (show u = Value.ref a from rx)
      obtain ⟨_, _, vs, _, o, es, ep, h1, h2, _⟩ := (show ObjOk X.prog X.w H s.heap a (.dK kvs) from I.hok a _ ea)
      exact looks_ref ⟨o, h1, h2.1⟩
    | @dT a kvs ea =>
      cases (show u = Value.ref a from rx)
      obtain ⟨_, _, xs, _, o, es, ep, h1, h2, _⟩ := (show ObjOk X.prog X.w H s.heap a (.dT kvs) from I.hok a _ ea)
      exact looks_ref ⟨o, h1, h2.1⟩
    | @ins a C dx fs ea cl ha hn htk hm =>
      cases (show u = Value.ref a from rx)
      obtain ⟨mA, O, _⟩ := ins_get I.hok ea
      obtain ⟨od, J, _⟩ := O.look
      exact J.type
  | byt y => exact absurd rfl (hb y)
  | @set a S n ea =>
    cases (show u = Value.ref a from rx)
    obtain ⟨o, _, _, _, e, ex, _⟩ := I.hok a _ ea
    exact looks_ref ⟨o, e, ex.1⟩
  | @kList a o e c =>
    cases (show u = Value.ref a from rx)
    exact looks_ref ⟨o, I.kIn a o e, c⟩
  | @kTuple a o e c =>
    cases (show u = Value.ref a from rx)
    exact looks_ref ⟨o, I.kIn a o e, c⟩
  | @kDict a o e c =>
    cases (show u = Value.ref a from rx)
    exact looks_ref ⟨o, I.kIn a o e, c⟩
  | @fTuple a ob xs ea =>
    cases (show u = Value.ref a from rx)
    obtain ⟨_, _, _, _, o, h1, h2, _⟩ := (show ObjOk X.prog X.w H s.heap a (.frz ob (.tup xs)) from I.hok a _ ea)
    exact looks_ref ⟨o, h1, h2⟩
  | @fDict a ob kvs ea =>
    cases (show u = Value.ref a from rx)
    obtain ⟨_, _, _, vs, _, o, es, ep, h1, h2, _⟩ := (show ObjOk X.prog X.w H s.heap a (.frz ob (.dK kvs)) from I.hok a _ ea)
    exact looks_ref ⟨o, h1, h2.1⟩
/-- x op y, x an instance whose class says how -/
theorem op_own {CX : CXT} {k : Nat} {C g : Addr} {fd : FuncData} {ps : List Str} {sp : Sp} {op : CmpOp} (hop : compareOp op = richCompare op) (F : FnOk X.prog X.w X.K X.mg X.base CX k g fd ps sp) (hr : Room k X.A)
    (hs : PySem.W.findIn X.K (.ref C) (cmpInfo op).2.1 = some (some (.ref g))) (hf : PySem.W.isFn X.K (.ref g) = true) (hb : Binds X.K fd ps []) (hx : Passes CX X E) :
    OpR X (compareOp op) (fun x y H Q => ∃ a dx fs t, x = .ref a ∧ H a = some (.ins C dx fs) ∧ TyX X.K H y t ∧ (∀ z, y ≠ .byt z) ∧ (∀ z, y ≠ .flt z) ∧ PySem.W.notFirst X.K C t = true ∧ sp [.ref a, y] H (fun v H' => ∃ b, v = .bl b ∧ Q (.bl b) H') E) := by
  intro pins s σ H x y u v Q I rx ry h
  obtain ⟨a, dx, fs, t, rfl, ha, ty, n1, n2, nf, q⟩ := h
  cases rx
  have hl := looks_of I ry ty n1 n2
  obtain ⟨mA, J, _⟩ := ins_get I.hok ha
  obtain ⟨od, J, _⟩ := J.look
  obtain ⟨m, hF⟩ := I.fr
  rw [hop]
  refine PySem.W.cmp_K (op := op) (tb := t) hr.units0 hF I.ok.mod.kin J hl nf hs hf ?_
  refine wpAny_mono (run_fn (dvs := []) (vs := [.ref a, y]) (us := [.ref a, v]) F hr hb .nil hx I (.cons rfl (.cons ry .nil)) (by rw [List.append_nil]; exact q)) (fun w s' z => ?_) fun _ _ z => z
  obtain ⟨vv, H', I', rv, b, rfl, qb⟩ := z
  cases rv
  exact ⟨.bl b, H', I', rfl, qb⟩
theorem two_noown {d d2 : D} : ∀ (i : Nat) (o : Ob), [Slot.val d, Slot.val d2][i]? ≠ some (.own o) := fun i o h => by
  match i, h with
  | 0, h => cases h
  | 1, h => cases h
  | i + 2, h => cases h
/-- == and != by the class's own method; nf: what the other's type is -/
def cmpF (F : Nat → List Str) (ics : List Nat) (c : Nat) (FS : EF) (f f2 : EF) : EF where
  r := fun env P X => f.r env (fun e env1 => ∃ d1, e.keep F = some d1 ∧ (∃ ds, d1 = .ins c ds) ∧ f2.r env1 (fun e2 env2 => ∃ d2, e2.keep F = some d2 ∧ (tqD ics d2).isSome = true ∧ runF FS [.val d1, .val d2] (fun e3 _ => ∃ b, e3 = .val (.bl b) ∧ P (.val (.bl b)) env2) X) X) X
  m := fun hp hx h => f.m (fun e env1 ⟨d1, h1, hi, h2⟩ => ⟨d1, h1, hi, f2.m (fun e2 env2 ⟨d2, h3, h4, h5⟩ => ⟨d2, h3, h4, FS.m (fun e3 _ ⟨b, h6, h7⟩ => ⟨b, h6, hp _ _ h7⟩) hx h5⟩) hx h2⟩) hx h
theorem r_own {CX : CXT} {k : Nat} {c : Nat} {g : Addr} {fd : FuncData} {ps : List Str} {op : CmpOp} {ics : List Nat} {FS : EF} (hk : X.K = S.K) (ok : SgOk S ics) (hop : compareOp op = richCompare op) (F : FnOk X.prog X.w X.K X.mg X.base CX k g fd ps (spD S FS 2)) (hr : Room k X.A)
    (hs : PySem.W.findIn X.K (.ref (S.cls c)) (cmpInfo op).2.1 = some (some (.ref g))) (hf : PySem.W.isFn X.K (.ref g) = true) (hb : Binds X.K fd ps []) (hx : Passes CX X E) (nfb : ∀ t : Tq, t.ok ics → PySem.W.notFirst X.K (S.cls c) (t.v S) = true)
    (ha : PE X a (tE S M0 E f)) (hb' : PE X b (tE S M0 E f2)) (hm : behindInMarks op b = false := by first | exact nomark _ | rfl) : PE X (.Compare a [op] [b] pos) (tE S M0 E (cmpF S.flds ics c FS f f2)) :=
  PE.imp (pe_cmpR (op_own hop F hr hs hf hb hx) ha hb' hm) fun σ H Q h => by
    obtain ⟨B, ow, env, s, h⟩ := h
    refine ⟨B, ow, env, s, f.m (fun e1 env1 h1 v H1 ow1 st1 nw1 ok1 => ?_) (fun _ _ h => h) h⟩
    obtain ⟨d1, q1, ⟨ds, rfl⟩, h1⟩ := h1
    obtain ⟨s1, r1⟩ := ok1.keep q1
    refine ⟨B, ow1, env1, s1, f2.m (fun e2 env2 h2 u H2 ow2 st2 nw2 ok2 => ?_) (fun _ _ h => h.stp st1) h1⟩
    obtain ⟨d2, q2, q3, h2⟩ := h2
    obtain ⟨s2, r2⟩ := ok2.keep q2
    have r1' := Rep.stp st2 r1
    obtain ⟨x, dx, vs, rfl, nx, hx1, hl, rl⟩ := id r1'
    obtain ⟨t, ht⟩ := Option.isSome_iff_exists.mp q3
    obtain ⟨k1, k2⟩ := tq_v hk ok r2.top ht
    have nby : ∀ z, u ≠ .byt z := fun z e => by subst e; cases d2 <;> first | (cases r2; done) | (obtain ⟨a, _, e, _⟩ := r2; cases e; done) | (obtain ⟨a, _, _, e, _⟩ := r2; cases e; done) | (obtain ⟨a, _, _, _, _, e, _⟩ := r2; cases e; done) | (obtain ⟨a, _, _, _, e, _⟩ := r2; cases e; done) | skip
    have nfl : ∀ z, u ≠ .flt z := fun z e => by subst e; cases d2 <;> first | (cases r2; done) | (obtain ⟨a, _, e, _⟩ := r2; cases e; done) | (obtain ⟨a, _, _, e, _⟩ := r2; cases e; done) | (obtain ⟨a, _, _, _, _, e, _⟩ := r2; cases e; done) | (obtain ⟨a, _, _, _, e, _⟩ := r2; cases e; done) | skip
    refine ⟨x, dx, _, t.v S, rfl, hx1, k2, nby, nfl, nfb t k1, ?_⟩
    refine ⟨Md B ow2, [none, none], [.val (.ins c ds), .val d2], rfl, {
      l1 := rfl
      l2 := rfl
      val := fun i d h => by
        have e : Md (Md B ow2) [none, none] = Md B ow2 := by
          funext b; apply propext
          exact ⟨fun z => z.elim (fun z => z) fun z => by simp at z, fun z => .inl z⟩
        rw [e]
        match i, h with
        | 0, h => cases h; exact ⟨_, rfl, r1'⟩
        | 1, h => cases h; exact ⟨_, rfl, r2⟩
        | i + 2, h => cases h
      own := fun i o h => by
        match i, h with
        | 0, h => cases h
        | 1, h => cases h
        | i + 2, h => cases h
      io := fun i o h => by
        match i, h with
        | 0, h => cases h
        | 1, h => cases h
        | i + 2, h => cases h
      live := fun i o h => by
        match i, h with
        | 0, h => cases h
        | 1, h => cases h
        | i + 2, h => cases h
      inj := fun i j o h h2 => by
        match i, h with
        | 0, h => cases h
        | 1, h => cases h
        | i + 2, h => cases h
      dis := fun a h z => by simp at z
      trk := fun a h => s2.trkA a h
      m0 := fun a h => h
      tb := s2.tb.anti fun a z => z.elim id fun z => by simp at z }, two_noown, FS.m (fun e3 outs g v H' kp kt dm res => ?_) (fun cc fs g dx' H' kp dmx kt r => ?_) h2⟩
    · obtain ⟨b, rfl, g⟩ := g
      obtain ⟨rb, _⟩ := res
      cases rb
      refine ⟨b, rfl, ?_⟩
      have gr : ∀ a o, Nt o → H2 a = some o → H' a = some o := fun a o t e => kp a o t (by simp) e
      exact g _ H' ow2 ((st1.trans st2).trans ⟨fun a o t _ e => gr a o t e, fun _ _ h => .inl h, dm⟩) trivial ⟨s2.kept gr dm (kt.anti fun a z => .inl z), rfl⟩
    · refine XP.stp (st1.trans st2) g dx' H' (fun a o t n e => kp a o t (by simp) e) dmx (kt.anti fun a z => .inl (s2.m0 a z)) ?_
      obtain ⟨l, r1, rn, r2, r3⟩ := r
      refine ⟨l, r1, fun z => rn (.inl (s2.m0 _ z)), r2, fun i f d e1 e2 => ?_⟩
      obtain ⟨v, k1, k2⟩ := r3 i f d e1 e2
      exact ⟨v, k1, k2.anti fun a ha => .inl (s2.m0 a ha)⟩
end
end En
set_option Elab.async false
set_option linter.all false
set_option maxRecDepth 100000
namespace En
open PySem PySem.Spec PyProof.Rows L2
/-! ### the context of a body, what a name stands for -/
structure Bd (X : Cx) (S : Sg) (k : Nat) (E : XK) : Prop where
  q : X.K = S.K
  c : X.calm = true
  n : X.N.Nodup
  r : Room k X.A
  tk : L2.Takes X (fun cls d _ H => E cls d H)
theorem Bd.u {X : Cx} {S : Sg} {k : Nat} {E : XK} (z : Bd X S k E) : X.A.units + 100 < cLine := by
  have := z.r.un
  omega
theorem Bd.hx {X : Cx} {S : Sg} {k : Nat} {E : XK} (z : Bd X S k E) : Passes (L2.CX X.prog X.w) X E := passes_call z.tk fun _ _ _ _ h => h
theorem Bd.blk {X : Cx} {S : Sg} {k : Nat} {E : XK} (z : Bd X S k E) (s : Shared) (H : Hp) (scope : Scope) (cenv : Env) (fp : List Addr) : Bd (X.blk s H scope cenv fp) S k L2.E0 := ⟨z.q, z.c, z.n, z.r, LamX.takes0⟩
structure FnC (P : Program) (w : World) (S : Sg) (mg : Str → Option Value) (base : Heap) (k : Nat) (x : Str) (FS : EF) (n : Nat) : Prop where
  ex : ∃ (f : Addr) (fd : FuncData) (ps : List Str), FnOk P w S.K mg base (L2.CX P w) k f fd ps (spD S FS n) ∧ mg x = some (.ref f) ∧ PySem.W.keepIn S.K (.ref f) = true ∧ Binds S.K fd ps []
/-- .. by its address -/
structure FnA (P : Program) (w : World) (S : Sg) (mg : Str → Option Value) (base : Heap) (k : Nat) (f : Addr) (fd : FuncData) (ps : List Str) (FS : EF) (n : Nat) : Prop where
  fn : FnOk P w S.K mg base (L2.CX P w) k f fd ps (spD S FS n)
  kp : PySem.W.keepIn S.K (.ref f) = true
  bd : Binds S.K fd ps []
/-- what a call asks of the one that is called, at the place of the call -/
structure FnR (P : Program) (w : World) (S : Sg) (mg : Str → Option Value) (base : Heap) (A : Around) (x : Str) (FS : EF) (n : Nat) : Prop where
  ex : ∃ (f : Addr) (fd : FuncData) (ps : List Str), ((∀ vs H Q E, spD S FS n vs H Q E → vs.length = ps.length) ∧ ∀ (stk : List Env) (s : Shared) (H : Hp) (ags : Args) (us : List Value) (vs : List V) (Q : VK) (E : XK), Env0 P w S.K mg base A stk s H →
    BindsTo s fd ags (ps.zip us) → Vals vs us → spD S FS n vs H Q E → codeAny (model P w) A (.call (.ref f) ags) (CR (L2.CX P w) stk P w H s Q E) s) ∧ mg x = some (.ref f) ∧ PySem.W.keepIn S.K (.ref f) = true ∧ Binds S.K fd ps []
theorem FnC.at {P : Program} {w : World} {S : Sg} {mg : Str → Option Value} {base : Heap} {x : Str} {j n : Nat} {FS : EF} {A : Around} (c : FnC P w S mg base j x FS n) (r : Room j A) : FnR P w S mg base A x FS n := by
  obtain ⟨f, fd, ps, h1, h2, h3, h4⟩ := c.ex
  exact ⟨f, fd, ps, ⟨h1.len, fun stk s H ags us vs Q E => h1.run A stk s H ags us vs Q E r⟩, h2, h3, h4⟩
section
variable {P : Program} {w : World} {S : Sg} {mg : Str → Option Value} {base : Heap} {x qual : Str} {st : Stmt} {g : Addr} {fd : FuncData} {N ps : List Str} {k n : Nat} {sb : SF} {FS : EF}
theorem FnA.c {f : Addr} (h : FnA P w S mg base k f fd ps FS n) (hm : mg x = some (.ref f)) : FnC P w S mg base k x FS n := by
  exact ⟨f, fd, ps, h.fn, hm, h.kp, h.bd⟩
/-- a def of the text -/
theorem fn_A (F : Fun S.K x qual st g fd) (hb : Binds S.K fd ps []) (Sc : FnScope N ps (defScope st))
    (body : ∀ (M : MS) (cdv : Value) (A : Around) (outer : List Env) (s : Shared) (H : Hp) (E : XK), Bd (cxOf (L2.CX P w) P w S.K mg base N qual (defScope st) g cdv A outer s H E) S k E →
      PSs (cxOf (L2.CX P w) P w S.K mg base N qual (defScope st) g cdv A outer s H E) (defBody st) (tS S M E sb)) : FnA P w S mg base (k + 1) g fd ps (bodyF N.length ps.length sb) ps.length :=
  ⟨fn_D F Sc fun M cdv A outer s H E hr => body M cdv A outer s H E ⟨rfl, rfl, Sc.nd, hr, L2.takes_of rfl rfl rfl rfl⟩, F.kp, hb⟩
theorem fn_N (F : Fun S.K x qual st g fd) (hb : Binds S.K fd ps []) : FnA P w S mg base k g fd ps nevF ps.length := ⟨fn_nev, F.kp, hb⟩
end
section
variable {X : Cx} {S : Sg} {M0 : MS} {E : XK} {k j n : Nat} {x : Str} {FS : EF} {la : LA} {p pos : Pos} {e : Expr} {es : List Expr}
theorem r_c (z : Bd X S k E) (c : FnC X.prog X.w S X.mg X.base j x FS n) (ha : PA X (e :: es) (tAg S M0 E la)) (hj : j ≤ k := by decide) (hg : Gl X x := by rfl) (hdb : (x == ("__debug__" : Str)) = false := by decide) (he : starEach (e :: es) X.env = (false, eval e X.env) :: starEach es X.env := by rfl) (hpl : (backTo pos (starEach es X.env)).any (·.1) = false := by rfl) :
    PE X (.Call (.Name x p) (e :: es) [] pos) (tE S M0 E (callF FS n la)) := by
  obtain ⟨f, fd, ps, h1, h2, h3, h4⟩ := c.ex
  rw [← z.q] at h1 h3 h4
  exact r_call h1 (z.r.mono hj) h2 h3 h4 z.hx ha hg hdb he hpl
/-- a class that may be made -/
structure MkC (P : Program) (w : World) (S : Sg) (mg : Str → Option Value) (base : Heap) (k : Nat) (x : Str) (cn : Nat) (FS : EF) (n : Nat) : Prop where
  ex : ∃ (f : Addr) (fd : FuncData) (ps : List Str), Mk S.K (S.cls cn) f ∧ FnOk P w S.K mg base (L2.CX P w) k f fd ps (spD S FS n) ∧ mg x = some (.ref (S.cls cn)) ∧ Binds S.K fd ps []
theorem FnA.mkc {P : Program} {w : World} {mg : Str → Option Value} {base : Heap} {f : Addr} {fd : FuncData} {ps : List Str} {cn : Nat} (h : FnA P w S mg base k f fd ps FS n) (M : Mk S.K (S.cls cn) f) (hm : mg x = some (.ref (S.cls cn))) : MkC P w S mg base k x cn FS n := by
  exact ⟨f, fd, ps, M, h.fn, hm, h.bd⟩
theorem r_mk {cn : Nat} (z : Bd X S k E) (c : MkC X.prog X.w S X.mg X.base j x cn FS n) (ha : PA X (e :: es) (tAg S M0 E la)) (hj : j + 1 ≤ k := by decide) (hg : Gl X x := by rfl) (hdb : (x == ("__debug__" : Str)) = false := by decide) (he : starEach (e :: es) X.env = (false, eval e X.env) :: starEach es X.env := by rfl) (hpl : (backTo pos (starEach es X.env)).any (·.1) = false := by rfl) :
    PE X (.Call (.Name x p) (e :: es) [] pos) (tE S M0 E (mkF cn FS n la)) := by
  obtain ⟨f, fd, ps, h0, h1, h2, h4⟩ := c.ex
  rw [← z.q] at h0 h1 h4
  exact r_make h0 h1 (z.r.mono hj) h2 h4 z.hx ha hg hdb he hpl
end
/-- a class's own == and != -/
structure EqC (P : Program) (w : World) (S : Sg) (mg : Str → Option Value) (base : Heap) (k : Nat) (cn : Nat) (nm : Str) (FS : EF) : Prop where
  ex : ∃ (f : Addr) (fd : FuncData) (ps : List Str), FnOk P w S.K mg base (L2.CX P w) k f fd ps (spD S FS 2) ∧ Binds S.K fd ps [] ∧ PySem.W.findIn S.K (.ref (S.cls cn)) nm = some (some (.ref f)) ∧ PySem.W.isFn S.K (.ref f) = true
theorem FnA.eq {P : Program} {w : World} {S : Sg} {mg : Str → Option Value} {base : Heap} {k : Nat} {f : Addr} {fd : FuncData} {ps : List Str} {cn : Nat} {nm : Str} {FS : EF} (h : FnA P w S mg base k f fd ps FS 2) (h1 : PySem.W.findIn S.K (.ref (S.cls cn)) nm = some (some (.ref f))) (h2 : PySem.W.isFn S.K (.ref f) = true) : EqC P w S mg base k cn nm FS := by
  exact ⟨f, fd, ps, h.fn, h.bd, h1, h2⟩
section
variable {X : Cx} {S : Sg} {M0 : MS} {E : XK} {k j cn : Nat} {FS : EF} {pos : Pos} {a b : Expr} {f f2 : EF} {ics : List Nat}
theorem r_eqO (z : Bd X S k E) (ok : SgOk S ics) (nfb : ∀ t : Tq, t.ok ics → PySem.W.notFirst S.K (S.cls cn) (t.v S) = true) (c : EqC X.prog X.w S X.mg X.base j cn "__eq__" FS) (ha : PE X a (tE S M0 E f)) (hb : PE X b (tE S M0 E f2)) (hj : j ≤ k := by decide) (hm : behindInMarks .Eq b = false := by first | exact nomark _ | rfl) :
    PE X (.Compare a [.Eq] [b] pos) (tE S M0 E (cmpF S.flds ics cn FS f f2)) := by
  obtain ⟨g, fd, ps, h1, h2, h3, h4⟩ := c.ex
  rw [← z.q] at h1 h2 h3 h4
  exact r_own z.q ok rfl h1 (z.r.mono hj) h3 h4 h2 z.hx (by rw [z.q]; exact nfb) ha hb hm
theorem r_neO (z : Bd X S k E) (ok : SgOk S ics) (nfb : ∀ t : Tq, t.ok ics → PySem.W.notFirst S.K (S.cls cn) (t.v S) = true) (c : EqC X.prog X.w S X.mg X.base j cn "__ne__" FS) (ha : PE X a (tE S M0 E f)) (hb : PE X b (tE S M0 E f2)) (hj : j ≤ k := by decide) (hm : behindInMarks .NotEq b = false := by first | exact nomark _ | rfl) :
    PE X (.Compare a [.NotEq] [b] pos) (tE S M0 E (cmpF S.flds ics cn FS f f2)) := by
  obtain ⟨g, fd, ps, h1, h2, h3, h4⟩ := c.ex
  rw [← z.q] at h1 h2 h3 h4
  exact r_own z.q ok rfl h1 (z.r.mono hj) h3 h4 h2 z.hx (by rw [z.q]; exact nfb) ha hb hm
end
/-! ### the end -/
theorem one_noown {d : D} : ∀ (i : Nat) (o : Ob), [Slot.val d][i]? ≠ some (.own o) := fun i o h => by
  match i, h with
  | 0, h => cases h
  | i + 1, h => cases h
/-- as walk_of, the loose names told -/
theorem walk_X {l : PySem.W.OpenLaw} {n k : Nat} {q : Program} {loose : List Str} {XP : (Str → Option Value) → Heap → Prop} {YP : World → Heap → Prop} {d : DefRec} {K : Params → PySem.W.Frag} {x : Str}
    (hn : l.most = some n) (hn2 : n ≤ sizeLine) (hdf : d.params.defaults = []) (hr : Room k callerA)
    (hY : ∀ (w : World) (h : Heap), YP w h → (K w.params).In h)
    (F : ∀ (w : World) (mg : Str → Option Value) (fa : Addr) (h : Heap), XP mg h → (K w.params).In h → h.Ns mainGlobals mg → mg d.name = some (.ref fa) →
      ∃ (S : Sg) (FS : EF) (fd : FuncData), S.K = K w.params ∧ S.tabs = [] ∧ (∀ (s : Shared) (u : Value), BindsTo s fd ⟨[u], []⟩ [(x, u)]) ∧ (∀ ns : List Int, ns.length ≤ n → FS.r [.val (.lst (ns.map D.int))] (fun e _ => e = .val (.bl true)) X0) ∧
        ∀ base : Heap, (K w.params).In base → base.Ns mainGlobals mg → FnOk l.prog w S.K mg base (L2.CX l.prog w) k fa fd [x] (spD S FS 1)) :
    PySem.W.WalkO q loose XP YP l.row.toRowW d [] (fun f vs => PySem.call f vs) := by
  refine Att.attach_call hn hdf fun w s₀ s₁ mg mb fa o pm cd doc a vs ns G Y ho hd hcd hmg hobj hints hlen hg => ?_
  have KX := hY w _ Y
  obtain ⟨S, FS, fd, hK, htabs, hb, hsp, hF⟩ := F w mg fa _ G.X KX G.T.g hmg
  rw [hK] at hF
  refine law_call KX G.T.g G.T.b G.T.builtins G.T.nolimit hg hobj hints (Nat.le_trans hlen hn2) hr hF hb (fun H hO hS => ?_) fun H e s' hc => ?_
  · rw [← hK] at hS
    have e0 : Md (fun _ => False) [none] = fun _ => False := by
      funext b; apply propext
      exact ⟨fun z => z.elim (fun z => z) fun z => by simp at z, fun z => z.elim⟩
    have intsR : ∀ ns : List Int, RepL S (Md (fun _ => False) [none]) H (ns.map D.int) (ns.map V.int) := fun ns => by
      induction ns with
      | nil => rfl
      | cons n ns ih => exact ⟨_, _, rfl, rfl, ih⟩
    refine ⟨fun _ => False, [none], [.val (.lst (ns.map D.int))], rfl, {
      l1 := rfl
      l2 := rfl
      val := fun i d h => by
        match i, h with
        | 0, h =>
          cases h
          refine ⟨_, rfl, a, _, rfl, ?_, intsR ns⟩
          rcases hS with z | z
          · exact .inl ⟨fun z => by rw [e0] at z; exact z, z⟩
          · exact .inr z
        | i + 1, h => cases h
      own := fun i o h => by
        match i, h with
        | 0, h => cases h
        | i + 1, h => cases h
      io := fun i o h => by
        match i, h with
        | 0, h => cases h
        | i + 1, h => cases h
      live := fun i o h => by
        match i, h with
        | 0, h => cases h
        | i + 1, h => cases h
      inj := fun i j o h h2 => by
        match i, h with
        | 0, h => cases h
        | i + 1, h => cases h
      dis := fun a h z => h
      trk := fun a h => h.elim
      m0 := fun a h => h
      tb := fun _ h => absurd h (by rw [htabs]; simp) }, one_noown, ?_⟩
    refine FS.m (fun e outs g v H' kp _ dm res => ?_) (fun _ _ z => z.elim) (hsp ns hlen)
    subst g
    exact res.1
  · obtain ⟨_, _, _, _, _, _, _, _, _, _, _, _, z⟩ := hc
    exact z.elim
end En
set_option Elab.async false
set_option linter.all false
set_option maxRecDepth 100000
namespace En
open PySem PySem.Spec PyProof.Rows L2
theorem bt_len : bootBuiltins "len" = some (.builtin "len") := by decide +kernel
theorem bt_all : bootBuiltins "all" = some (.builtin "all") := by decide +kernel
theorem bt_any : bootBuiltins "any" = some (.builtin "any") := by decide +kernel
theorem bt_int : bootBuiltins "int" = some (.type "int") := by decide +kernel
theorem bt_str : bootBuiltins "str" = some (.type "str") := by decide +kernel
theorem bt_bool : bootBuiltins "bool" = some (.type "bool") := by decide +kernel
theorem bt_list : bootBuiltins "list" = some (.type "list") := by decide +kernel
theorem bt_tuple : bootBuiltins "tuple" = some (.type "tuple") := by decide +kernel
theorem bt_dict : bootBuiltins "dict" = some (.type "dict") := by decide +kernel
theorem meta_bt (t : BT) : PySem.W.kitMeta t.nm = true := by cases t <;> decide +kernel
theorem kit_ct {K : PySem.W.Frag} {C : Addr} {t : BT} (hs : PySem.W.subIn K (.ref C) (.type t.nm) = some false) : PySem.W.kitOne K (.ref C) (.type t.nm) = some false := by
  unfold PySem.W.kitOne
  rw [if_neg (show ¬ ((Value.ref C == Value.type t.nm) = true) from Bool.false_ne_true)]
  show (if PySem.W.kitMeta t.nm = true then PySem.W.subIn K (.ref C) (.type t.nm) else none) = _
  rw [if_pos (meta_bt t), hs]
theorem kit_tc {K : PySem.W.Frag} {C : Addr} {t : BT} (hs : PySem.W.subIn K (.type t.nm) (.ref C) = some false) (hc : PySem.W.isClsIn K C = true) (ht : PySem.W.typeIn K (.ref C) = some (.type "type")) : PySem.W.kitOne K (.type t.nm) (.ref C) = some false := by
  unfold PySem.W.kitOne
  rw [if_neg (show ¬ ((Value.type t.nm == Value.ref C) = true) from Bool.false_ne_true)]
  have hc : (PySem.W.clsIn K C).isSome = true := hc
  show (if ((PySem.W.clsIn K C).isSome && PySem.W.typeIn K (.ref C) == some (.type "type")) = true then PySem.W.subIn K (.type t.nm) (.ref C) else none) = _
  rw [hc, ht, if_pos (by rfl), hs]
theorem kit_cc {K : PySem.W.Frag} {C D : Addr} (hn : (Value.ref C == Value.ref D) = false) (hs : PySem.W.subIn K (.ref C) (.ref D) = some false) (hc : PySem.W.isClsIn K D = true) (ht : PySem.W.typeIn K (.ref D) = some (.type "type")) : PySem.W.kitOne K (.ref C) (.ref D) = some false := by
  unfold PySem.W.kitOne
  rw [if_neg (by rw [hn]; exact Bool.false_ne_true)]
  have hc : (PySem.W.clsIn K D).isSome = true := hc
  show (if ((PySem.W.clsIn K D).isSome && PySem.W.typeIn K (.ref D) == some (.type "type")) = true then PySem.W.subIn K (.ref C) (.ref D) else none) = _
  rw [hc, ht, if_pos (by rfl), hs]
/-- a look at the names of a def's scope -/
def scK (N P : List Str) (sc : Scope) : Bool :=
  (match sc.kind with | .function => true | _ => false) && !sc.isCoroutine && !sc.isGenerator && decide N.Nodup && decide (N.take P.length = P) && P.all (fun x => match sc.names.lookup x with | some .local => true | some .cell => true | _ => false) && sc.names.all (fun y => match y.2 with | .free => false | _ => true)
theorem fnScope_K {N P : List Str} {sc : Scope} (h : scK N P sc = true) : FnScope N P sc := by
  unfold scK at h
  simp only [Bool.and_eq_true, Bool.not_eq_true', decide_eq_true_eq, List.all_eq_true] at h
  obtain ⟨⟨⟨⟨⟨⟨h1, h2⟩, h3⟩, h4⟩, h5⟩, h6⟩, h7⟩ := h
  refine ⟨?_, h2, h3, h4, h5, fun x hx => ?_, fun y hy e => ?_⟩
  · split at h1
    · assumption
    · cases h1
  · have q := h6 x hx
    split at q
    · exact .inl (by assumption)
    · exact .inr (by assumption)
    · cases q
  · have q := h7 y hy
    rw [e] at q
    cases q
section
variable {X : Cx} {S : Sg} {k : Nat} {E : XK}
theorem onG {tg : Expr} {g : TG} (z : Bd X S k E) (h : Bd X S k E → PG X tg g) : PG X tg g := h z
theorem onT {cs : List Expr} {t : TT} (z : Bd X S k E) (h : Bd X S k E → PTs X cs t) : PTs X cs t := h z
theorem onE {e : Expr} {t : TE} (z : Bd X S k E) (h : Bd X S k E → PE X e t) : PE X e t := h z
end
section
variable {X : Cx} {S : Sg} {M0 B : MS} {E : XK} {ow ow0 ow1 : OW} {env env1 : Env'} {σ : L2.St} {H H0 H1 H2 : Hp}
theorem EVs.grow {M : MS} (g : Grow H H2) : ∀ {es : List EV} {B : MS} {vs : List V}, EVs S M0 H0 σ H ow env M B es vs → EVs S M0 H0 σ H2 ow env M B es vs
  | [], _, _, h => ⟨h.1, h.2.1.grow g, h.2.2⟩
  | .val d :: es, _, _, ⟨v, r, e, h1, h2⟩ => ⟨v, r, e, Rep.move (fun a o _ n e => ⟨g a o e, n⟩) _ _ h1, EVs.grow g h2⟩
  | .new o :: es, _, _, ⟨a, r, e, h0, h1, h2, h3, h4⟩ => ⟨a, r, e, h0, h1, h2, h3.move (fun u _ z => g a u z) fun b u _ n e => ⟨g b u e, n⟩, EVs.grow g h4⟩
  | .own _ :: _, _, _, h => h.elim
variable {a b c : Expr} {lp : LE} {pos : Pos} {x y z : Str} {i j k : Nat}
/-- the pair is made, then taken apart -/
theorem s_parT {px py pt : Pos} {kt k2 pt2} (hc : X.calm = true) (hN : X.N.Nodup) (ha : PA X [a, b] (tP S M0 E lp)) (hi : X.N[i]? = some x := by rfl) (hj : X.N[j]? = some y := by rfl)
    (hx : Loc X.env.scope x := by first | exact Or.inl rfl | exact Or.inr rfl) (hy : Loc X.env.scope y := by first | exact Or.inl rfl | exact Or.inr rfl)
    (fx : X.fn x = true ∨ X.env.scope.names.lookup x = some .local := by first | exact .inl rfl | exact .inr rfl) (fy : X.fn y = true ∨ X.env.scope.names.lookup y = some .local := by first | exact .inl rfl | exact .inr rfl) (hij : i ≠ j := by decide)
    (hs : swapsWithSole [.Tuple [.Name x px, .Name y py] kt pt] (.Tuple [a, b] k2 pt2) pos.line X.env = pure false := by rfl) (hw : swappedStores [.Tuple [.Name x px, .Name y py] kt pt] (.Tuple [a, b] k2 pt2) X.env = pure none := by rfl)
    (h1 : (assignEach [.Tuple [.Name x px, .Name y py] kt pt] X.env).map (·.2) = [assign (.Tuple [.Name x px, .Name y py] kt pt) X.env] := by rfl)
    (hn : (assignEach [.Name x px, .Name y py] X.env).length = 2 := by rfl) (hst : (assignEach [.Name x px, .Name y py] X.env).findIdx? (·.1) = none := by rfl)
    (hs1 : (assignEach [.Name x px, .Name y py] X.env).map (·.2) = assign (.Name x px) X.env :: (assignEach [.Name y py] X.env).map (·.2) := by rfl) (hs2 : (assignEach [.Name y py] X.env).map (·.2) = assign (.Name y py) X.env :: (assignEach [] X.env).map (·.2) := by rfl) :
    PS X (.Assign [.Tuple [.Name x px, .Name y py] kt pt] (.Tuple [a, b] k2 pt2) pos) (tS S M0 E (parS [i, j] lp)) :=
  PS.imp (ps_asg (pe_tup ha) (pg_tup hc (pgs_cons (pg_name hN hi hx fx) (pgs_cons (pg_name hN hj hy fy) pgs_nil hs2) hs1) hn hst) hs hw h1) fun D σ H h => by
    obtain ⟨B, ow, env, s, h⟩ := h
    refine ⟨B, ow, env, s, lp.m (fun es env1 h1 vs H1 ow1 M st1 kk1 => ?_) (fun _ _ h => h) h⟩
    obtain ⟨env2, q, h2⟩ := h1
    have hl := kk1.len
    rw [putEs_len q] at hl
    refine ⟨by rw [hl]; exact line100 (by simp), fun p hp => ?_⟩
    have gr : Grow H1 (upd H1 p (.tup vs)) := .upd hp
    obtain ⟨ow2, st2, s2, _⟩ := (kk1.grow gr).put (st1.trans (.grow gr)) q
    refine ⟨p, vs, rfl, .of upd_same, by rw [hl]; rfl, ?_⟩
    match vs, hl, s2, st2 with
    | [v, w], _, s2, st2 =>
      refine ⟨v, [w], rfl, w, [], rfl, rfl, ?_⟩
      rw [List.set_comm _ _ hij]
      exact h2 _ _ ow2 st2 s2
/-- three -/
theorem s_parT3 {px py pz pt : Pos} {kt k2 pt2} (hc : X.calm = true) (hN : X.N.Nodup) (ha : PA X [a, b, c] (tP S M0 E lp)) (hi : X.N[i]? = some x := by rfl) (hj : X.N[j]? = some y := by rfl) (hk : X.N[k]? = some z := by rfl)
    (hx : Loc X.env.scope x := by first | exact Or.inl rfl | exact Or.inr rfl) (hy : Loc X.env.scope y := by first | exact Or.inl rfl | exact Or.inr rfl) (hz : Loc X.env.scope z := by first | exact Or.inl rfl | exact Or.inr rfl)
    (fx : X.fn x = true ∨ X.env.scope.names.lookup x = some .local := by first | exact .inl rfl | exact .inr rfl) (fy : X.fn y = true ∨ X.env.scope.names.lookup y = some .local := by first | exact .inl rfl | exact .inr rfl) (fz : X.fn z = true ∨ X.env.scope.names.lookup z = some .local := by first | exact .inl rfl | exact .inr rfl) (hij : i ≠ j := by decide) (hik : i ≠ k := by decide) (hjk : j ≠ k := by decide)
    (hs : swapsWithSole [.Tuple [.Name x px, .Name y py, .Name z pz] kt pt] (.Tuple [a, b, c] k2 pt2) pos.line X.env = pure false := by rfl) (hw : swappedStores [.Tuple [.Name x px, .Name y py, .Name z pz] kt pt] (.Tuple [a, b, c] k2 pt2) X.env = pure none := by rfl)
    (h1 : (assignEach [.Tuple [.Name x px, .Name y py, .Name z pz] kt pt] X.env).map (·.2) = [assign (.Tuple [.Name x px, .Name y py, .Name z pz] kt pt) X.env] := by rfl)
    (hn : (assignEach [.Name x px, .Name y py, .Name z pz] X.env).length = 3 := by rfl) (hst : (assignEach [.Name x px, .Name y py, .Name z pz] X.env).findIdx? (·.1) = none := by rfl)
    (hs1 : (assignEach [.Name x px, .Name y py, .Name z pz] X.env).map (·.2) = assign (.Name x px) X.env :: (assignEach [.Name y py, .Name z pz] X.env).map (·.2) := by rfl) (hs2 : (assignEach [.Name y py, .Name z pz] X.env).map (·.2) = assign (.Name y py) X.env :: (assignEach [.Name z pz] X.env).map (·.2) := by rfl) (hs3 : (assignEach [.Name z pz] X.env).map (·.2) = assign (.Name z pz) X.env :: (assignEach [] X.env).map (·.2) := by rfl) :
    PS X (.Assign [.Tuple [.Name x px, .Name y py, .Name z pz] kt pt] (.Tuple [a, b, c] k2 pt2) pos) (tS S M0 E (parS [i, j, k] lp)) :=
  PS.imp (ps_asg (pe_tup ha) (pg_tup hc (pgs_cons (pg_name hN hi hx fx) (pgs_cons (pg_name hN hj hy fy) (pgs_cons (pg_name hN hk hz fz) pgs_nil hs3) hs2) hs1) hn hst) hs hw h1) fun D σ H h => by
    obtain ⟨B, ow, env, s, h⟩ := h
    refine ⟨B, ow, env, s, lp.m (fun es env1 h1 vs H1 ow1 M st1 kk1 => ?_) (fun _ _ h => h) h⟩
    obtain ⟨env2, q, h2⟩ := h1
    have hl := kk1.len
    rw [putEs_len q] at hl
    refine ⟨by rw [hl]; exact line100 (by simp), fun p hp => ?_⟩
    have gr : Grow H1 (upd H1 p (.tup vs)) := .upd hp
    obtain ⟨ow2, st2, s2, _⟩ := (kk1.grow gr).put (st1.trans (.grow gr)) q
    refine ⟨p, vs, rfl, .of upd_same, by rw [hl]; rfl, ?_⟩
    match vs, hl, s2, st2 with
    | [u, v, w], _, s2, st2 =>
      refine ⟨u, [v, w], rfl, v, [w], rfl, w, [], rfl, rfl, ?_⟩
      have e : ((σ.set i (some u)).set j (some v)).set k (some w) = ((σ.set k (some w)).set j (some v)).set i (some u) := by
        rw [List.set_comm _ _ hij, List.set_comm _ _ hik, List.set_comm _ _ hjk]
      rw [e]
      exact h2 _ _ ow2 st2 s2
end
end En
set_option Elab.async false
set_option linter.all false
set_option maxRecDepth 100000
namespace En
open PySem PySem.Spec PyProof.Rows L2
/-! ### the meanings, read -/
section
variable {env : Env'} {P : EV → Env' → Prop} {PT : Bool → Env' → Prop} {PL : List D → Env' → Prop} {PA : List AV → Env' → Prop} {PE : List EV → Env' → Prop} {PO : Option Int → Env' → Prop} {PG : Env' → Prop} {X : Exx} {Ps : Pst} {F : Nat → List Str} {f g f2 f3 : EF} {t u : TF} {l : LF} {la : LA} {le : LE} {a b : SF} {o oh : OF} {i n m : Nat} {FS : EF} {gf : GF} {gs : GFs} {d : D} {ds : List D}
@[simp] theorem varF_v (h : env[i]? = some (.val d)) : (varF i).r env P X = P (.val d) env := by show (match env[i]? with | some (.val d) => _ | some (.own _) => _ | some (.io _) => _ | _ => False) = _; rw [h]
@[simp] theorem varF_o {ob : Ob} (h : env[i]? = some (.own ob)) : (varF i).r env P X = P (.own i) env := by show (match env[i]? with | some (.val d) => _ | some (.own _) => _ | some (.io _) => _ | _ => False) = _; rw [h]
@[simp] theorem varF_i {ob : Ob} (h : env[i]? = some (.io ob)) : (varF i).r env P X = P (.own i) env := by show (match env[i]? with | some (.val d) => _ | some (.own _) => _ | some (.io _) => _ | _ => False) = _; rw [h]
@[simp] theorem kvF_v (h : env[i]? = some (.val d)) : (kvF F i).r env P X = P (.val d) env := by show (match env[i]? with | some (.val d) => _ | some (.own _) => _ | _ => False) = _; rw [h]
@[simp] theorem kvF_o {ob : Ob} (h : env[i]? = some (.own ob)) : (kvF F i).r env P X = ∃ d, ob.fr F = some d ∧ P (.val d) (env.set i (.val d)) := by show (match env[i]? with | some (.val d) => _ | some (.own _) => _ | _ => False) = _; rw [h]
@[simp] theorem litF_r : (litF d).r env P X = P (.val d) env := rfl
@[simp] theorem binF_r {op : D → D → Option D} : (binF F op f f2).r env P X = f.r env (fun e env1 => ∃ e', e.settle F = some e' ∧ f2.r env1 (fun e2 env2 => ∃ e2', e2.settle F = some e2' ∧ ∃ d d2 c, e'.rd F env2 = some d ∧ e2'.rd F env2 = some d2 ∧ op d d2 = some c ∧ P (.val c) env2) X) X := rfl
@[simp] theorem unF_r {op : D → Option D} : (unF F op f).r env P X = f.r env (fun e env1 => ∃ e', e.settle F = some e' ∧ ∃ d c, e'.rd F env1 = some d ∧ op d = some c ∧ P (.val c) env1) X := rfl
@[simp] theorem unNF_r {op : D → Option Ob} : (unNF F op f).r env P X = f.r env (fun e env1 => ∃ e', e.settle F = some e' ∧ ∃ d c, e'.rd F env1 = some d ∧ op d = some c ∧ P (.new c) env1) X := rfl
@[simp] theorem nilL_r : nilL.r env PL X = PL [] env := rfl
@[simp] theorem consL_r : (consL F f l).r env PL X = f.r env (fun e env1 => ∃ d, e.keep F = some d ∧ l.r env1 (fun ds env2 => PL (d :: ds) env2) X) X := rfl
@[simp] theorem tupF_r : (tupF l).r env P X = l.r env (fun ds env1 => ds.length ≤ 100 ∧ P (.val (.tup ds)) env1) X := rfl
@[simp] theorem lstF_r : (lstF l).r env P X = l.r env (fun ds env1 => ds.length ≤ 100 ∧ P (.new (.lst ds)) env1) X := rfl
@[simp] theorem dnewK_r : dnewK.r env P X = P (.new (.dK [] [])) env := rfl
@[simp] theorem dnewT_r : dnewT.r env P X = P (.new (.dT [] [])) env := rfl
@[simp] theorem truF_r : (truF F f).r env PT X = f.r env (fun e env1 => ∃ e', e.settle F = some e' ∧ ∃ d b, e'.rd F env1 = some d ∧ truD d = some b ∧ PT b env1) X := rfl
@[simp] theorem blF_r : (blF F f).r env PT X = f.r env (fun e env1 => ∃ b, e = .val (.bl b) ∧ PT b env1) X := rfl
@[simp] theorem notT_r : (notT t).r env PT X = t.r env (fun b env1 => PT (!b) env1) X := rfl
@[simp] theorem andT_r : (andT t u).r env PT X = t.r env (fun b env1 => if b = true then u.r env1 PT X else PT false env1) X := rfl
@[simp] theorem orT_r : (orT t u).r env PT X = t.r env (fun b env1 => if b = true then PT true env1 else u.r env1 PT X) X := rfl
@[simp] theorem andF_r : (andF f g).r env P X = f.r env (fun e env1 => ∃ b, e = .val (.bl b) ∧ if b = true then g.r env1 P X else P (.val (.bl false)) env1) X := rfl
@[simp] theorem orF_r : (orF f g).r env P X = f.r env (fun e env1 => ∃ b, e = .val (.bl b) ∧ if b = true then P (.val (.bl true)) env1 else g.r env1 P X) X := rfl
@[simp] theorem notF_r : (notF f).r env P X = f.r env (fun e env1 => ∃ b, e = .val (.bl b) ∧ P (.val (.bl (!b))) env1) X := rfl
@[simp] theorem iteF_r : (iteF' t f g).r env P X = t.r env (fun b env1 => if b = true then f.r env1 P X else g.r env1 P X) X := rfl
@[simp] theorem chainF_r {op op' : D → D → Option D} : (chainF F op op' f f2 f3).r env P X = f.r env (fun e env1 => ∃ i, e = .val (.int i) ∧ f2.r env1 (fun e2 env2 => ∃ j, e2 = .val (.int j) ∧ ∃ b, op (.int i) (.int j) = some (.bl b) ∧
    if b = true then f3.r env2 (fun e3 env3 => ∃ k, e3 = .val (.int k) ∧ ∃ c, op' (.int j) (.int k) = some (.bl c) ∧ P (.val (.bl c)) env3) X else P (.val (.bl false)) env2) X) X := rfl
@[simp] theorem noO_r : noO.r env PO X = PO none env := rfl
@[simp] theorem someO_r : (someO f).r env PO X = f.r env (fun e env1 => ∃ i, e = .val (.int i) ∧ PO (some i) env1) X := rfl
@[simp] theorem slF_r : (slF F f o oh).r env P X = f.r env (fun e env1 => ∃ e', e.settle F = some e' ∧ o.r env1 (fun i env2 => oh.r env2 (fun j env3 => ∃ d c, e'.rd F env3 = some d ∧ slD d i j = some c ∧ P (.val c) env3) X) X) X := rfl
@[simp] theorem idxF_r : (idxF F f f2).r env P X = f.r env (fun e env1 => ∃ d, e.keep F = some d ∧ f2.r env1 (fun e2 env2 => ∃ e2', e2.settle F = some e2' ∧ ∃ d2 c, e2'.rd F env2 = some d2 ∧ idxD d d2 = some c ∧ P (.val c) env2) X ∧ ((∃ xs, d = .nms xs) ∨ ∃ ds, d = .lst ds)) X := rfl
@[simp] theorem appF_r : (appF F i f).r env P X = ((∃ sl, env[i]? = some sl ∧ (∃ ds, sl.lst? = some ds)) ∧ f.r env (fun e env1 => ∃ d, e.keep F = some d ∧ ∃ sl ds, env1[i]? = some sl ∧ sl.lst? = some ds ∧ ds.length < 100000 ∧ P (.val .non) (env1.set i (sl.put (.lst (ds ++ [d]))))) X) := rfl
@[simp] theorem popF_r : (popF i).r env P X = ∃ sl ds d, env[i]? = some sl ∧ sl.lst? = some ds ∧ ds[ds.length - 1]? = some d ∧ P (.val d) (env.set i (sl.put (.lst ds.dropLast))) := rfl
@[simp] theorem skipS_r : skipS.r env Ps X = Ps.nx env := rfl
@[simp] theorem seqS_r : (seqS a b).r env Ps X = a.r env { Ps with nx := fun env1 => b.r env1 Ps X } X := rfl
@[simp] theorem brkS_r : brkS.r env Ps X = Ps.bk env := rfl
@[simp] theorem cntS_r : cntS.r env Ps X = Ps.ct env := rfl
@[simp] theorem nevS_r : nevS.r env Ps X = False := rfl
@[simp] theorem retS_r : (retS f).r env Ps X = f.r env Ps.rt X := rfl
@[simp] theorem dropS_r : (dropS f).r env Ps X = f.r env (fun _ env1 => Ps.nx env1) X := rfl
@[simp] theorem ifS_r : (ifS t a b).r env Ps X = t.r env (fun k env1 => if k = true then a.r env1 Ps X else b.r env1 Ps X) X := rfl
@[simp] theorem asgS_r : (asgS i f).r env Ps X = f.r env (fun e env1 => ∃ env2, putE i e env1 = some env2 ∧ Ps.nx env2) X := rfl
@[simp] theorem patS_r {p : Pat} : (patS F p f).r env Ps X = f.r env (fun e env1 => ∃ d, e.keep F = some d ∧ ∃ env2, p.put d env1 = some env2 ∧ Ps.nx env2) X := rfl
theorem forS_r {p : Pat} : (forS l p a).r env Ps X = l.r env (fun ds env1 => forL p a Ps X ds env1) X := rfl
theorem whileS_r : (whileS t a).r env Ps X = ∃ n, whileN t a Ps X n env := rfl
@[simp] theorem seqI_r : (seqI F f).r env PL X = f.r env (fun e env1 => ∃ d, e.keep F = some d ∧ ∃ ds, iterL? d = some ds ∧ PL ds env1) X := rfl
@[simp] theorem enumI_r : (enumI F f).r env PL X = f.r env (fun e env1 => ∃ d, e.keep F = some d ∧ ∃ ds, tupL? d = some ds ∧ PL (enumD ds) env1) X := rfl
@[simp] theorem rngI_r : (rngI f).r env PL X = f.r env (fun e env1 => ∃ n, e = .val (.int n) ∧ (-1000000 ≤ n ∧ n ≤ 1000000) ∧ PL (intsD 0 n.toNat) env1) X := rfl
theorem lcF_r {it : LF} {p : Pat} {vs : List Nat} : (lcF F it p t f vs).r env P X = it.r env (fun ds env1 => okW env1 vs = true ∧ compL F p t f vs (fun acc envW => P (.new (.lst acc)) (restE envW env1 vs)) ds [] (wipeE env1 vs)) X := rfl
@[simp] theorem yesT_r : yesT.r env PT X = PT true env := rfl
@[simp] theorem nilP_r : nilP.r env PE X = PE [] env := rfl
@[simp] theorem consP_r : (consP f le).r env PE X = f.r env (fun e env1 => e.isOwn = false ∧ le.r env1 (fun es env2 => PE (e :: es) env2) X) X := rfl
@[simp] theorem parS_r {is : List Nat} : (parS is le).r env Ps X = le.r env (fun es env1 => ∃ env2, putEs is es env1 = some env2 ∧ Ps.nx env2) X := rfl
@[simp] theorem tgtS_r : (tgtS F gf f).r env Ps X = f.r env (fun e env1 => ∃ d, e.keep F = some d ∧ gf.r d env1 Ps.nx X) X := rfl
@[simp] theorem subG_r : (subG F i f).r d env PG X = ((∃ sl o, env[i]? = some sl ∧ sl.ob = some o) ∧ f.r env (fun e env1 => ∃ e', e.settle F = some e' ∧ ∃ k, e'.rd F env1 = some k ∧ ∃ sl o o', env1[i]? = some sl ∧ sl.ob = some o ∧ putOb o k d = some o' ∧ PG (env1.set i (sl.put o'))) X) := rfl
@[simp] theorem tupG_r : (tupG n gs).r d env PG X = ∃ ds, d = .tup ds ∧ ds.length = n ∧ gs.r ds env PG X := rfl
@[simp] theorem nilG_r : nilG.r ds env PG X = (ds = [] ∧ PG env) := rfl
@[simp] theorem consG_r : (consG gf gs).r ds env PG X = ∃ d r, ds = d :: r ∧ gf.r d env (fun env1 => gs.r r env1 PG X) X := rfl
@[simp] theorem dispF_r {fs : List (EF × EF)} : (dispF F fs).r env P X = dispR F fs (fun ps env1 => ∃ ks, keysD? (ps.map (·.1)) = some ks ∧ ks.Nodup ∧ ks.length ≤ 15 ∧ P (.new (.dK ks (ps.map (·.2)))) env1) X env := rfl
@[simp] theorem nilA_r : nilA.r env PA X = PA [] env := rfl
@[simp] theorem consA_r : (consA F f la).r env PA X = f.r env (fun e env1 => ∃ a, e.av F = some a ∧ la.r env1 (fun as env2 => PA (a :: as) env2) X) X := rfl
@[simp] theorem callF_r : (callF FS n la).r env P X = la.r env (fun as env1 => as.length = n ∧ (refs as).Nodup ∧ runF FS (as.map (slotOf env1)) (fun e outs => e.isOwn = false ∧ ∃ env2, backE as outs env1 = some env2 ∧ P e env2) X) X := rfl
@[simp] theorem mkF_r {c : Nat} : (mkF c FS n la).r env P X = la.r env (fun as env1 => as.length + 1 = n ∧ (refs as).Nodup ∧ runF FS (.io (.ins c []) :: as.map (slotOf env1)) (fun e outs => e = .val .non ∧ ∃ o os, outs = .io o :: os ∧ ∃ env2, backE as os env1 = some env2 ∧ P (.new o) env2) X) X := rfl
@[simp] theorem setF_r {ics : List Nat} {nm : Str} : (setF F ics i nm f).r env Ps X = f.r env (fun e env1 => ∃ d, e.keep F = some d ∧ ∃ sl c fs, env1[i]? = some sl ∧ sl.ob = some (.ins c fs) ∧ c ∈ ics ∧ nm ∈ F c ∧ fs.length < 1000 ∧ Ps.nx (env1.set i (sl.put (.ins c (putFs nm d fs))))) X := rfl
@[simp] theorem cmpF_r {ics : List Nat} {c : Nat} : (cmpF F ics c FS f f2).r env P X = f.r env (fun e env1 => ∃ d1, e.keep F = some d1 ∧ (∃ ds, d1 = .ins c ds) ∧ f2.r env1 (fun e2 env2 => ∃ d2, e2.keep F = some d2 ∧ (tqD ics d2).isSome = true ∧ runF FS [.val d1, .val d2] (fun e3 _ => ∃ b, e3 = .val (.bl b) ∧ P (.val (.bl b)) env2) X) X) X := rfl
theorem bodyF_r : (bodyF m n a).r env P X = a.r (env ++ List.replicate (m - n) .un) ⟨fun env => P (.val .non) env, fun e env => ∃ e', retE env e = some e' ∧ P e' env, fun _ => False, fun _ => False⟩ X := rfl
end
/-! values of the small functions on closed shapes -/
section
variable {F : Nat → List Str} {env : Env'} {d : D} {o : Ob} {i : Nat}
@[simp] theorem settle_v : (EV.val d).settle F = some (.val d) := rfl
@[simp] theorem settle_o : (EV.own i).settle F = some (.own i) := rfl
@[simp] theorem settle_n : (EV.new o).settle F = (o.fr F).map .val := rfl
@[simp] theorem rd_v : (EV.val d).rd F env = some d := rfl
@[simp] theorem rd_o : (EV.own i).rd F env = (env[i]?).bind fun s => s.ob.bind fun o => o.fr F := rfl
@[simp] theorem keep_v : (EV.val d).keep F = some d := rfl
@[simp] theorem keep_o : (EV.own i).keep F = none := rfl
@[simp] theorem keep_n : (EV.new o).keep F = o.fr F := rfl
@[simp] theorem av_v : (EV.val d).av F = some (.val d) := rfl
@[simp] theorem av_o : (EV.own i).av F = some (.ref i) := rfl
@[simp] theorem av_n : (EV.new o).av F = (o.fr F).map .val := rfl
@[simp] theorem fr_l {ds : List D} : (Ob.lst ds).fr F = some (.lst ds) := rfl
@[simp] theorem fr_k {ks : List Key} {ds : List D} : (Ob.dK ks ds).fr F = some (.dK ks ds) := rfl
@[simp] theorem fr_t {ks : List (List Key)} {ds : List D} : (Ob.dT ks ds).fr F = some (.dT ks ds) := rfl
@[simp] theorem fr_i {c : Nat} {fs : List (Str × D)} : (Ob.ins c fs).fr F = if fs.map (·.1) = F c then some (.ins c (fs.map (·.2))) else none := rfl
@[simp] theorem ob_own : (Slot.own o).ob = some o := rfl
@[simp] theorem ob_io : (Slot.io o).ob = some o := rfl
@[simp] theorem put_own {o' : Ob} : (Slot.own o).put o' = .own o' := rfl
@[simp] theorem put_io {o' : Ob} : (Slot.io o).put o' = .io o' := rfl
@[simp] theorem lst_own {ds : List D} : (Slot.own (.lst ds)).lst? = some ds := rfl
@[simp] theorem lst_io {ds : List D} : (Slot.io (.lst ds)).lst? = some ds := rfl
@[simp] theorem isOwn_v : (EV.val d).isOwn = false := rfl
@[simp] theorem isOwn_n : (EV.new o).isOwn = false := rfl
@[simp] theorem slotOf_v : slotOf env (.val d) = .val d := rfl
@[simp] theorem slotOf_r : slotOf env (.ref i) = match (env[i]?).bind Slot.ob with | some o => .io o | none => .un := rfl
@[simp] theorem refs_n : refs [] = [] := rfl
@[simp] theorem refs_v {r : List AV} : refs (.val d :: r) = refs r := rfl
@[simp] theorem refs_r {r : List AV} : refs (.ref i :: r) = i :: refs r := rfl
@[simp] theorem backE_n {os : List Slot} : backE [] os env = some env := rfl
@[simp] theorem backE_v {r : List AV} {os : List Slot} : backE (.val d :: r) os env = backE r os.tail env := rfl
@[simp] theorem backE_r {r : List AV} {os : List Slot} : backE (.ref i :: r) (.io o :: os) env = match env[i]? with | some sl => backE r os (env.set i (sl.put o)) | none => none := rfl
@[simp] theorem retE_v : retE env (.val d) = some (.val d) := rfl
@[simp] theorem retE_n : retE env (.new o) = some (.new o) := rfl
@[simp] theorem retE_o : retE env (.own i) = match env[i]? with | some (.own o) => some (.new o) | _ => none := rfl
@[simp] theorem putE_r {e : EV} : putE i e env = match env[i]? with
  | none => none
  | some sl => if sl.isIo then none else match e with
    | .val d => some (env.set i (.val d))
    | .new o => some (env.set i (.own o))
    | .own _ => none := rfl
@[simp] theorem isIo_u : Slot.un.isIo = false := rfl
@[simp] theorem isIo_v : (Slot.val d).isIo = false := rfl
@[simp] theorem isIo_o : (Slot.own o).isIo = false := rfl
@[simp] theorem isIo_i : (Slot.io o).isIo = true := rfl
@[simp] theorem putEs_n : putEs [] [] env = some env := rfl
@[simp] theorem putEs_c {is : List Nat} {e : EV} {es : List EV} : putEs (i :: is) (e :: es) env = (putEs is es env).bind (putE i e) := rfl
@[simp] theorem pput_nm : (Pat.nm i).put d env = putE i (.val d) env := by simp [Pat.put]
@[simp] theorem pput_tp {ps : List Pat} {ds : List D} : (Pat.tp ps).put (.tup ds) env = Pat.putL ps ds env := by simp [Pat.put, tupL?]
@[simp] theorem pput_tl {ps : List Pat} {ds : List D} : (Pat.tp ps).put (.lst ds) env = Pat.putL ps ds env := by simp [Pat.put, tupL?]
@[simp] theorem pputL_n : Pat.putL [] [] env = some env := by simp [Pat.putL]
@[simp] theorem pputL_c {p : Pat} {ps : List Pat} {ds : List D} : Pat.putL (p :: ps) (d :: ds) env = (p.put d env).bind fun env1 => Pat.putL ps ds env1 := by simp [Pat.putL]
@[simp] theorem tupL_t {ds : List D} : tupL? (.tup ds) = some ds := rfl
@[simp] theorem tupL_l {ds : List D} : tupL? (.lst ds) = some ds := rfl
@[simp] theorem tupL_n {xs : List Str} : tupL? (.nms xs) = some (xs.map .str) := rfl
@[simp] theorem wipeE_n : wipeE env [] = env := rfl
@[simp] theorem wipeE_c {vs : List Nat} : wipeE env (i :: vs) = (wipeE env vs).set i .un := rfl
@[simp] theorem restE_n {env1 : Env'} : restE env env1 [] = env := rfl
@[simp] theorem restE_c {env1 : Env'} {vs : List Nat} : restE env env1 (i :: vs) = match env1[i]? with | some s => (restE env env1 vs).set i s | none => restE env env1 vs := rfl
@[simp] theorem okW_n : okW env [] = true := rfl
@[simp] theorem okW_c {vs : List Nat} : okW env (i :: vs) = ((match env[i]? with | some s => s.plain | none => true) && okW env vs) := rfl
@[simp] theorem plain_u : Slot.un.plain = true := rfl
@[simp] theorem plain_v : (Slot.val d).plain = true := rfl
end
/-! ### loops, by an invariant -/
theorem forL_inv {p : Pat} {body : SF} {P : Pst} {X : Exx} (ds : List D) {env : Env'} (I : Nat → Env' → Prop) (h0 : I 0 env)
    (step : ∀ k d env, ds[k]? = some d → I k env → ∃ env1, p.put d env = some env1 ∧ body.r env1 { P with nx := I (k + 1), ct := I (k + 1), bk := P.nx } X) (hend : ∀ env, I ds.length env → P.nx env) : forL p body P X ds env := by
  have key : ∀ (n k : Nat) env, ds.length = k + n → I k env → forL p body P X (ds.drop k) env := by
    intro n
    induction n with
    | zero =>
      intro k env h hi
      have hk : k = ds.length := by omega
      subst hk
      rw [List.drop_length]
      exact hend env hi
    | succ n ih =>
      intro k env h hi
      have hlt : k < ds.length := by omega
      rw [List.drop_eq_getElem_cons hlt]
      obtain ⟨env1, h1, h2⟩ := step k ds[k] env (List.getElem?_eq_getElem hlt) hi
      refine ⟨env1, h1, body.m (P := { P with nx := I (k + 1), ct := I (k + 1), bk := P.nx }) ⟨fun e h => ih (k + 1) e (by omega) h, fun _ _ h => h, fun _ h => h, fun e h => ih (k + 1) e (by omega) h⟩ (fun _ _ h => h) h2⟩
  exact key ds.length 0 env (by omega) h0
theorem compL_inv {F : Nat → List Str} {p : Pat} {t : TF} {f : EF} {vs : List Nat} {P : List D → Env' → Prop} (ds : List D) {env : Env'} (I : Nat → List D → Env' → Prop) (h0 : I 0 [] env)
    (step : ∀ k d acc env, ds[k]? = some d → I k acc env → ∃ env2, p.put d env = some env2 ∧ t.r env2 (fun b env3 => if b = true then f.r env3 (fun e env4 => ∃ d', e.keep F = some d' ∧ acc.length < 100000 ∧ okW env4 vs = true ∧ I (k + 1) (acc ++ [d']) (wipeE env4 vs)) X0
      else okW env3 vs = true ∧ I (k + 1) acc (wipeE env3 vs)) X0) (hend : ∀ acc env, I ds.length acc env → P acc env) : compL F p t f vs P ds [] env := by
  have key : ∀ (n k : Nat) acc env, ds.length = k + n → I k acc env → compL F p t f vs P (ds.drop k) acc env := by
    intro n
    induction n with
    | zero =>
      intro k acc env h hi
      have hk : k = ds.length := by omega
      subst hk
      rw [List.drop_length]
      exact hend acc env hi
    | succ n ih =>
      intro k acc env h hi
      have hlt : k < ds.length := by omega
      rw [List.drop_eq_getElem_cons hlt]
      obtain ⟨env2, h1, h2⟩ := step k ds[k] acc env (List.getElem?_eq_getElem hlt) hi
      refine ⟨env2, h1, t.m (fun b env3 h => ?_) (fun _ _ h => h) h2⟩
      split at h
      · rename_i hb
        rw [if_pos hb]
        exact f.m (fun e env4 ⟨d', q1, q2, q3, q4⟩ => ⟨d', q1, q2, q3, ih (k + 1) _ _ (by omega) q4⟩) (fun _ _ h => h) h
      · rename_i hb
        rw [if_neg hb]
        exact ⟨h.1, ih (k + 1) _ _ (by omega) h.2⟩
  exact key ds.length 0 [] env (by omega) h0
theorem while_inv {t : TF} {body : SF} {P : Pst} {X : Exx} {env : Env'} (I : Nat → Env' → Prop) (n : Nat) (h0 : I n env)
    (step : ∀ k env, I k env → t.r env (fun b env1 => if b = true then body.r env1 { P with nx := fun e => ∃ j, j < k ∧ I j e, ct := fun e => ∃ j, j < k ∧ I j e, bk := P.nx } X else P.nx env1) X) : ∃ n, whileN t body P X n env := by
  refine ⟨n + 1, ?_⟩
  have key : ∀ (m k : Nat) env, k < m → I k env → whileN t body P X m env := by
    intro m
    induction m with
    | zero => intro k env h; omega
    | succ m ih =>
      intro k env h hi
      refine t.m (fun b env1 h1 => ?_) (fun _ _ h => h) (step k env hi)
      split at h1
      · rename_i hb
        rw [if_pos hb]
        have go : ∀ e, (∃ j, j < k ∧ I j e) → whileN t body P X m e := fun e ⟨j, hj, hi⟩ => ih j e (by omega) hi
        exact body.m (P := { P with nx := fun e => ∃ j, j < k ∧ I j e, ct := fun e => ∃ j, j < k ∧ I j e, bk := P.nx }) ⟨go, fun _ _ h => h, fun _ h => h, go⟩ (fun _ _ h => h) h1
      · rename_i hb
        rw [if_neg hb]
        exact h1
  exact key (n + 1) n env (Nat.lt_succ_self n) h0
end En
set_option Elab.async false
set_option linter.all false
set_option maxRecDepth 100000
namespace En
open PySem PySem.Spec PyProof.Rows L2
/-! ### what a plain expression is worth -/
def Ev (f : EF) (env : Env') (e : EV) (env' : Env') : Prop := ∀ P X, P e env' → f.r env P X
def EvT (f : TF) (env : Env') (e : Bool) (env' : Env') : Prop := ∀ P X, P e env' → f.r env P X
def EvL (f : LF) (env : Env') (e : List D) (env' : Env') : Prop := ∀ P X, P e env' → f.r env P X
def EvA (f : LA) (env : Env') (e : List AV) (env' : Env') : Prop := ∀ P X, P e env' → f.r env P X
def EvP (f : LE) (env : Env') (e : List EV) (env' : Env') : Prop := ∀ P X, P e env' → f.r env P X
def EvO (f : OF) (env : Env') (e : Option Int) (env' : Env') : Prop := ∀ P X, P e env' → f.r env P X
section
variable {F : Nat → List Str} {f f2 f3 g : EF} {t u : TF} {l : LF} {la : LA} {le : LE} {o oh : OF} {env env1 env2 env3 : Env'} {e e1 e1' e2 e2' : EV} {d d2 d3 c c' : D} {ds : List D} {b b2 : Bool} {i j k : Nat} {ob : Ob} {a : AV} {as : List AV} {es : List EV} {lo hi : Option Int} {P : EV → Env' → Prop} {X : Exx}
theorem ev_lit : Ev (litF d) env (.val d) env := fun _ _ h => h
theorem ev_var (h : env[i]? = some (.val d)) : Ev (varF i) env (.val d) env := fun P X k => by rw [varF_v h]; exact k
theorem ev_varo (h : env[i]? = some (.own ob)) : Ev (varF i) env (.own i) env := fun P X k => by rw [varF_o h]; exact k
theorem ev_vari (h : env[i]? = some (.io ob)) : Ev (varF i) env (.own i) env := fun P X k => by rw [varF_i h]; exact k
theorem ev_kv (h : env[i]? = some (.val d)) : Ev (kvF F i) env (.val d) env := fun P X k => by rw [kvF_v h]; exact k
theorem ev_kvo (h : env[i]? = some (.own ob)) (h2 : ob.fr F = some d) : Ev (kvF F i) env (.val d) (env.set i (.val d)) := fun P X k => by rw [kvF_o h]; exact ⟨d, h2, k⟩
theorem ev_bin {op : D → D → Option D} (h1 : Ev f env e1 env1) (s1 : e1.settle F = some e1') (h2 : Ev f2 env1 e2 env2) (s2 : e2.settle F = some e2') (r1 : e1'.rd F env2 = some d) (r2 : e2'.rd F env2 = some d2) (ho : op d d2 = some c) : Ev (binF F op f f2) env (.val c) env2 :=
  fun P X k => h1 _ _ ⟨e1', s1, h2 _ _ ⟨e2', s2, d, d2, c, r1, r2, ho, k⟩⟩
theorem ev_un {op : D → Option D} (h1 : Ev f env e1 env1) (s1 : e1.settle F = some e1') (r1 : e1'.rd F env1 = some d) (ho : op d = some c) : Ev (unF F op f) env (.val c) env1 :=
  fun P X k => h1 _ _ ⟨e1', s1, d, c, r1, ho, k⟩
theorem ev_unN {op : D → Option Ob} (h1 : Ev f env e1 env1) (s1 : e1.settle F = some e1') (r1 : e1'.rd F env1 = some d) (ho : op d = some ob) : Ev (unNF F op f) env (.new ob) env1 :=
  fun P X k => h1 _ _ ⟨e1', s1, d, ob, r1, ho, k⟩
theorem evl_nil : EvL nilL env [] env := fun _ _ h => h
theorem evl_cons (h1 : Ev f env e1 env1) (k1 : e1.keep F = some d) (h2 : EvL l env1 ds env2) : EvL (consL F f l) env (d :: ds) env2 := fun P X k => h1 _ _ ⟨d, k1, h2 _ _ k⟩
theorem ev_tup (h : EvL l env ds env1) (hz : ds.length ≤ 100) : Ev (tupF l) env (.val (.tup ds)) env1 := fun P X k => h _ _ ⟨hz, k⟩
theorem ev_lst (h : EvL l env ds env1) (hz : ds.length ≤ 100) : Ev (lstF l) env (.new (.lst ds)) env1 := fun P X k => h _ _ ⟨hz, k⟩
theorem ev_dK : Ev dnewK env (.new (.dK [] [])) env := fun _ _ h => h
theorem evt_tru (h1 : Ev f env e1 env1) (s1 : e1.settle F = some e1') (r1 : e1'.rd F env1 = some d) (ho : truD d = some b) : EvT (truF F f) env b env1 := fun P X k => h1 _ _ ⟨e1', s1, d, b, r1, ho, k⟩
theorem evt_bl (h1 : Ev f env (.val (.bl b)) env1) : EvT (blF F f) env b env1 := fun P X k => h1 _ _ ⟨b, rfl, k⟩
theorem evt_not (h : EvT t env b env1) : EvT (notT t) env (!b) env1 := fun P X k => h _ _ k
theorem evt_and (h : EvT t env b env) (h2 : b = true → EvT u env b2 env) : EvT (andT t u) env (b && b2) env := fun P X k => h _ _ (by
  cases b with
  | true => exact (if_pos rfl : (if true = true then u.r env P X else P false env) = _) ▸ h2 rfl _ _ k
  | false => exact k)
theorem evt_or (h : EvT t env b env) (h2 : b = false → EvT u env b2 env) : EvT (orT t u) env (b || b2) env := fun P X k => h _ _ (by
  cases b with
  | true => exact k
  | false => exact h2 rfl _ _ k)
theorem ev_and (h : Ev f env (.val (.bl b)) env) (h2 : b = true → Ev g env (.val (.bl b2)) env) : Ev (andF f g) env (.val (.bl (b && b2))) env := fun P X k => h _ _ ⟨b, rfl, by
  cases b with
  | true => exact h2 rfl _ _ k
  | false => exact k⟩
theorem ev_or (h : Ev f env (.val (.bl b)) env) (h2 : b = false → Ev g env (.val (.bl b2)) env) : Ev (orF f g) env (.val (.bl (b || b2))) env := fun P X k => h _ _ ⟨b, rfl, by
  cases b with
  | true => exact k
  | false => exact h2 rfl _ _ k⟩
theorem ev_not (h : Ev f env (.val (.bl b)) env1) : Ev (notF f) env (.val (.bl (!b))) env1 := fun P X k => h _ _ ⟨b, rfl, k⟩
theorem ev_chain {op op' : D → D → Option D} {x y z : Int} (h1 : Ev f env (.val (.int x)) env1) (h2 : Ev f2 env1 (.val (.int y)) env2) (o1 : op (.int x) (.int y) = some (.bl b)) (h3 : Ev f3 env2 (.val (.int z)) env2) (o2 : op' (.int y) (.int z) = some (.bl b2)) : Ev (chainF F op op' f f2 f3) env (.val (.bl (b && b2))) env2 :=
  fun P X k => h1 _ _ ⟨x, rfl, h2 _ _ ⟨y, rfl, b, o1, by
    cases b with
    | true => exact h3 _ _ ⟨z, rfl, b2, o2, k⟩
    | false => exact k⟩⟩
theorem evo_no : EvO noO env none env := fun _ _ h => h
theorem evo_some {x : Int} (h : Ev f env (.val (.int x)) env1) : EvO (someO f) env (some x) env1 := fun P X k => h _ _ ⟨x, rfl, k⟩
theorem ev_sl (h1 : Ev f env e1 env1) (s1 : e1.settle F = some e1') (h2 : EvO o env1 lo env2) (h3 : EvO oh env2 hi env3) (r1 : e1'.rd F env3 = some d) (ho : slD d lo hi = some c) : Ev (slF F f o oh) env (.val c) env3 :=
  fun P X k => h1 _ _ ⟨e1', s1, h2 _ _ (h3 _ _ ⟨d, c, r1, ho, k⟩)⟩
theorem ev_idx (h1 : Ev f env e1 env1) (k1 : e1.keep F = some d) (h2 : Ev f2 env1 e2 env2) (s2 : e2.settle F = some e2') (r2 : e2'.rd F env2 = some d2) (ho : idxD d d2 = some c) (hz : (∃ xs, d = .nms xs) ∨ ∃ ds, d = .lst ds) : Ev (idxF F f f2) env (.val c) env2 :=
  fun P X k => h1 _ _ ⟨d, k1, h2 _ _ ⟨e2', s2, d2, c, r2, ho, k⟩, hz⟩
theorem eva_nil : EvA nilA env [] env := fun _ _ h => h
theorem eva_cons (h1 : Ev f env e1 env1) (k1 : e1.av F = some a) (h2 : EvA la env1 as env2) : EvA (consA F f la) env (a :: as) env2 := fun P X k => h1 _ _ ⟨a, k1, h2 _ _ k⟩
theorem evp_nil : EvP nilP env [] env := fun _ _ h => h
theorem evp_cons (h1 : Ev f env e1 env1) (k1 : e1.isOwn = false) (h2 : EvP le env1 es env2) : EvP (consP f le) env (e1 :: es) env2 := fun P X k => h1 _ _ ⟨k1, h2 _ _ k⟩
theorem eva_seq (h1 : Ev f env e1 env1) (k1 : e1.keep F = some d) (ht : iterL? d = some ds) : EvL (seqI F f) env ds env1 := fun P X k => h1 _ _ ⟨d, k1, ds, ht, k⟩
theorem evl_enum (h1 : Ev f env e1 env1) (k1 : e1.keep F = some d) (ht : tupL? d = some ds) : EvL (enumI F f) env (enumD ds) env1 := fun P X k => h1 _ _ ⟨d, k1, ds, ht, k⟩
theorem evl_rng {n : Int} (h1 : Ev f env (.val (.int n)) env1) (hz : -1000000 ≤ n ∧ n ≤ 1000000) : EvL (rngI f) env (intsD 0 n.toNat) env1 := fun P X k => h1 _ _ ⟨n, rfl, hz, k⟩
/-! .. in its place -/
theorem call_i {FS : EF} {n : Nat} (h : EvA la env as env1) (hn : as.length = n) (hd : (refs as).Nodup) (k : runF FS (as.map (slotOf env1)) (fun e outs => e.isOwn = false ∧ ∃ env2, backE as outs env1 = some env2 ∧ P e env2) X) : (callF FS n la).r env P X := h _ _ ⟨hn, hd, k⟩
theorem mk_i {FS : EF} {n c : Nat} (h : EvA la env as env1) (hn : as.length + 1 = n) (hd : (refs as).Nodup) (k : runF FS (.io (.ins c []) :: as.map (slotOf env1)) (fun e outs => e = .val .non ∧ ∃ o os, outs = .io o :: os ∧ ∃ env2, backE as os env1 = some env2 ∧ P (.new o) env2) X) : (mkF c FS n la).r env P X := h _ _ ⟨hn, hd, k⟩
theorem backE_vals : ∀ {as : List AV} {outs env : List Slot}, refs as = [] → backE as outs env = some env
  | [], _, _, _ => rfl
  | .val d :: as, outs, env, h => backE_vals (as := as) (outs := outs.tail) h
  | .ref j :: as, _, _, h => by cases h
/-- a call whose result is told -/
theorem ev_call {FS : EF} {n : Nat} {e : EV} (h : EvA la env as env1) (hn : as.length = n) (hd : (refs as).Nodup) (hr : refs as = []) (ho : e.isOwn = false) (k : ∀ P X, (∀ outs, P e outs) → runF FS (as.map (slotOf env1)) P X) : Ev (callF FS n la) env e env1 := fun P X kk => call_i h hn hd (k _ _ fun outs => ⟨ho, env1, backE_vals hr, kk⟩)
variable {Ps : Pst} {sa sb : SF}
theorem seq_i (h : sa.r env { Ps with nx := fun env1 => sb.r env1 Ps X } X) : (seqS sa sb).r env Ps X := h
theorem asg_i (h : Ev f env e env1) (hp : putE i e env1 = some env2) (k : Ps.nx env2) : (asgS i f).r env Ps X := h _ _ ⟨env2, hp, k⟩
theorem asg_c (h : f.r env (fun e env1 => ∃ env2, putE i e env1 = some env2 ∧ Ps.nx env2) X) : (asgS i f).r env Ps X := h
theorem pat_i {p : Pat} (h : Ev f env e env1) (hk : e.keep F = some d) (hp : p.put d env1 = some env2) (k : Ps.nx env2) : (patS F p f).r env Ps X := h _ _ ⟨d, hk, env2, hp, k⟩
theorem ret_i (h : Ev f env e env1) (k : Ps.rt e env1) : (retS f).r env Ps X := h _ _ k
theorem drop_i (h : Ev f env e env1) (k : Ps.nx env1) : (dropS f).r env Ps X := h _ _ k
theorem if_i (h : EvT t env b env1) (k1 : b = true → sa.r env1 Ps X) (k2 : b = false → sb.r env1 Ps X) : (ifS t sa sb).r env Ps X := h _ _ (by
  cases b with
  | true => exact (if_pos rfl : (if true = true then sa.r env1 Ps X else sb.r env1 Ps X) = _) ▸ k1 rfl
  | false => exact k2 rfl)
theorem par_i {is : List Nat} (h : EvP le env es env1) (hp : putEs is es env1 = some env2) (k : Ps.nx env2) : (parS is le).r env Ps X := h _ _ ⟨env2, hp, k⟩
theorem app_i (h0 : ∃ sl, env[i]? = some sl ∧ ∃ ds, sl.lst? = some ds) (h : Ev f env e env1) (hk : e.keep F = some d) {sl : Slot} (h1 : env1[i]? = some sl) (h2 : sl.lst? = some ds) (hz : ds.length < 100000) : Ev (appF F i f) env (.val .non) (env1.set i (sl.put (.lst (ds ++ [d])))) := fun P X k => ⟨h0, h _ _ ⟨d, hk, sl, ds, h1, h2, hz, k⟩⟩
theorem tgt_i {gf : GF} (h : Ev f env e env1) (hk : e.keep F = some d) (k : gf.r d env1 Ps.nx X) : (tgtS F gf f).r env Ps X := h _ _ ⟨d, hk, k⟩
theorem sub_i {Q : Env' → Prop} {sl : Slot} {ob ob' ob2 : Ob} {kd : D} (h0 : env[i]? = some sl) (h0' : sl.ob = some ob) (h : Ev f env e env1) (hs : e.settle F = some e1') (hr : e1'.rd F env1 = some kd) {sl1 : Slot} (h1 : env1[i]? = some sl1) (h2 : sl1.ob = some ob') (hp : putOb ob' kd d = some ob2) (k : Q (env1.set i (sl1.put ob2))) : (subG F i f).r d env Q X :=
  ⟨⟨sl, ob, h0, h0'⟩, h _ _ ⟨e1', hs, kd, hr, sl1, ob', ob2, h1, h2, hp, k⟩⟩
theorem set_i {ics : List Nat} {nm : Str} {cn : Nat} {fs : List (Str × D)} {sl : Slot} (h : Ev f env e env1) (hk : e.keep F = some d) (h1 : env1[i]? = some sl) (h2 : sl.ob = some (.ins cn fs)) (h3 : cn ∈ ics) (h4 : nm ∈ F cn) (h5 : fs.length < 1000) (k : Ps.nx (env1.set i (sl.put (.ins cn (putFs nm d fs))))) : (setF F ics i nm f).r env Ps X := h _ _ ⟨d, hk, sl, cn, fs, h1, h2, h3, h4, h5, k⟩
theorem for_i {p : Pat} (h : EvL l env ds env1) (k : forL p sa Ps X ds env1) : (forS l p sa).r env Ps X := h _ _ k
theorem body_i {m n : Nat} {as : List Slot} (h : sa.r (as ++ List.replicate (m - n) .un) ⟨fun env => P (.val .non) env, fun e env => ∃ e', retE env e = some e' ∧ P e' env, fun _ => False, fun _ => False⟩ X) : runF (bodyF m n sa) as P X := h
theorem lc_i {it : LF} {p : Pat} {vs : List Nat} (h : EvL it env ds env1) (ho : okW env1 vs = true) (k : compL F p t f vs (fun acc envW => P (.new (.lst acc)) (restE envW env1 vs)) ds [] (wipeE env1 vs)) : (lcF F it p t f vs).r env P X := h _ _ ⟨ho, k⟩
end
/-- a comprehension whose every turn is plain -/
def lcD (g : D → Option D) (q : D → Option Bool) : List D → Option (List D)
  | [] => some []
  | d :: ds => match q d with
    | some true => match g d, lcD g q ds with
      | some x, some r => some (x :: r)
      | _, _ => none
    | some false => lcD g q ds
    | none => none
theorem lc_plain {F : Nat → List Str} {p : Pat} {t : TF} {f : EF} {vs : List Nat} {env : Env'} {P : List D → Env' → Prop} (g : D → Option D) (q : D → Option Bool)
    (hp : ∀ d, (q d).isSome = true → ∃ env2, p.put d env = some env2 ∧ (∀ b, q d = some b → EvT t env2 b env2) ∧ (q d = some true → ∀ x, g d = some x → ∃ e, Ev f env2 e env2 ∧ e.keep F = some x) ∧ okW env2 vs = true ∧ wipeE env2 vs = env) :
    ∀ (ds acc : List D) {r : List D}, lcD g q ds = some r → acc.length + ds.length < 100000 → P (acc ++ r) env → compL F p t f vs P ds acc env
  | [], acc, r, h, hz, k => by cases h; rw [List.append_nil] at k; exact k
  | d :: ds, acc, r, h, hz, k => by
    unfold lcD at h
    split at h
    · rename_i hq
      obtain ⟨env2, h1, h2, h3, h4, h5⟩ := hp d (by rw [hq]; rfl)
      split at h
      · rename_i x r' hg hr
        cases h
        obtain ⟨e, e1, e2⟩ := h3 hq x hg
        refine ⟨env2, h1, h2 true hq _ _ ?_⟩
        rw [if_pos rfl]
        refine e1 _ _ ⟨x, e2, by simp at hz; omega, h4, ?_⟩
        rw [h5]
        exact lc_plain g q hp ds (acc ++ [x]) hr (by simp at hz ⊢; omega) (by rw [List.append_assoc]; exact k)
      · cases h
    · rename_i hq
      obtain ⟨env2, h1, h2, h3, h4, h5⟩ := hp d (by rw [hq]; rfl)
      refine ⟨env2, h1, h2 false hq _ _ ?_⟩
      rw [if_neg Bool.false_ne_true]
      refine ⟨h4, ?_⟩
      rw [h5]
      exact lc_plain g q hp ds acc h (by simp at hz; omega) k
    · cases h
section
theorem mul_l {i j : Int} (h1 : -18446744073709551616 < i) (h2 : i < 18446744073709551616) : mulD (.int i) (.int j) = some (.int (i * j)) := by
  have : cmul i j = true := by
    unfold cmul
    simp only [Bool.or_eq_true, Bool.and_eq_true, decide_eq_true_eq]
    exact .inl ⟨h1, h2⟩
  show (if cmul i j then some (D.int (i * j)) else none) = _
  rw [this]; rfl
theorem mul_r {i j : Int} (h1 : -18446744073709551616 < j) (h2 : j < 18446744073709551616) : mulD (.int i) (.int j) = some (.int (i * j)) := by
  have : cmul i j = true := by
    unfold cmul
    simp only [Bool.or_eq_true, Bool.and_eq_true, decide_eq_true_eq]
    exact .inr ⟨h1, h2⟩
  show (if cmul i j then some (D.int (i * j)) else none) = _
  rw [this]; rfl
theorem mod_ok {i j : Int} (h : 0 < j) : modD (.int i) (.int j) = some (.int (i % j)) := by
  show (if decide (0 < j) then some (D.int (i % j)) else none) = _
  rw [decide_eq_true h]; rfl
theorem div_ok {i j : Int} (h : 0 < j) (h2 : j < 1073741824) : divD (.int i) (.int j) = some (.int (i / j)) := by
  show (if (decide (0 < j) && decide (j < 1073741824)) then some (D.int (i / j)) else none) = _
  rw [decide_eq_true h, decide_eq_true h2]; rfl
theorem eqB_int (i j : Int) : eqB (.int i) (.int j) = decide (i = j) := by simp [eqB, D.py, PyData.eqv, Bool.beq_eq_decide_eq]
theorem ix_l {ds : List D} {j : Nat} {d : D} (h : ds[j]? = some d) : ixD (.lst ds) (.int (j : Int)) = some d := by
  have hj := (List.getElem?_eq_some_iff.mp h).1
  show atI ds (j : Int) = _
  unfold atI
  rw [show ixN ds.length (j : Int) = some j from by unfold ixN; simp; omega]; exact h
theorem ix_t {ds : List D} {j : Nat} {d : D} (h : ds[j]? = some d) : ixD (.tup ds) (.int (j : Int)) = some d := ix_l h
end
end En
namespace En
open PySem PySem.Spec PyProof.Rows L2
theorem seq_cut {sa sb : SF} {env : Env'} {Ps : Pst} {X : Exx} (Q : Env' → Prop) (h : sa.r env { Ps with nx := Q } X) (k : ∀ env1, Q env1 → sb.r env1 Ps X) : (seqS sa sb).r env Ps X :=
  sa.m (P := { Ps with nx := Q }) (P' := { Ps with nx := fun env1 => sb.r env1 Ps X }) ⟨k, fun _ _ h => h, fun _ h => h, fun _ h => h⟩ (fun _ _ h => h) h
theorem ix_int {cs : List Int} {a : Int} (h0 : 0 ≤ a) (h : a < cs.length) : ∃ v, v ∈ cs ∧ ixD (.lst (cs.map D.int)) (.int a) = some (.int v) := by
  have hj : a.toNat < cs.length := by omega
  refine ⟨cs[a.toNat], List.getElem_mem hj, ?_⟩
  have := ix_l (ds := cs.map D.int) (j := a.toNat) (d := .int cs[a.toNat]) (by rw [List.getElem?_map, List.getElem?_eq_getElem hj]; rfl)
  rwa [Int.toNat_of_nonneg h0] at this
end En
namespace En
open PySem PySem.Spec PyProof.Rows L2
section
variable {F : Nat → List Str} {f f2 g : EF} {t u : TF} {l : LF} {la : LA} {le : LE} {env env1 env2 : Env'} {e e1 e1' : EV} {d : D} {P : EV → Env' → Prop} {PT : Bool → Env' → Prop} {PL : List D → Env' → Prop} {X : Exx} {Ps : Pst} {sa sb : SF}
theorem ret_c (h : f.r env Ps.rt X) : (retS f).r env Ps X := h
theorem drop_c (h : f.r env (fun _ env1 => Ps.nx env1) X) : (dropS f).r env Ps X := h
theorem bin_r {op : D → D → Option D} (h1 : Ev f env e1 env1) (s1 : e1.settle F = some e1') (k : f2.r env1 (fun e2 env2 => ∃ e2', e2.settle F = some e2' ∧ ∃ d d2 c, e1'.rd F env2 = some d ∧ e2'.rd F env2 = some d2 ∧ op d d2 = some c ∧ P (.val c) env2) X) : (binF F op f f2).r env P X := h1 _ _ ⟨e1', s1, k⟩
theorem bin_l {op : D → D → Option D} (k : f.r env (fun e env1 => ∃ e', e.settle F = some e' ∧ f2.r env1 (fun e2 env2 => ∃ e2', e2.settle F = some e2' ∧ ∃ d d2 c, e'.rd F env2 = some d ∧ e2'.rd F env2 = some d2 ∧ op d d2 = some c ∧ P (.val c) env2) X) X) : (binF F op f f2).r env P X := k
theorem un_c {op : D → Option D} (k : f.r env (fun e env1 => ∃ e', e.settle F = some e' ∧ ∃ d c, e'.rd F env1 = some d ∧ op d = some c ∧ P (.val c) env1) X) : (unF F op f).r env P X := k
theorem if_c (h : t.r env (fun k env1 => if k = true then sa.r env1 Ps X else sb.r env1 Ps X) X) : (ifS t sa sb).r env Ps X := h
theorem tru_c (k : f.r env (fun e env1 => ∃ e', e.settle F = some e' ∧ ∃ d b, e'.rd F env1 = some d ∧ truD d = some b ∧ PT b env1) X) : (truF F f).r env PT X := k
theorem not_c (k : t.r env (fun b env1 => PT (!b) env1) X) : (notT t).r env PT X := k
theorem par_c {is : List Nat} (h : le.r env (fun es env1 => ∃ env2, putEs is es env1 = some env2 ∧ Ps.nx env2) X) : (parS is le).r env Ps X := h
theorem consP_c {PP : List EV → Env' → Prop} (h : f.r env (fun e env1 => e.isOwn = false ∧ le.r env1 (fun es env2 => PP (e :: es) env2) X) X) : (consP f le).r env PP X := h
theorem consL_c (h : f.r env (fun e env1 => ∃ d, e.keep F = some d ∧ l.r env1 (fun ds env2 => PL (d :: ds) env2) X) X) : (consL F f l).r env PL X := h
theorem consA_c {PA : List AV → Env' → Prop} (h : f.r env (fun e env1 => ∃ a, e.av F = some a ∧ la.r env1 (fun as env2 => PA (a :: as) env2) X) X) : (consA F f la).r env PA X := h
theorem consA_e {PA : List AV → Env' → Prop} {a : AV} (h : Ev f env e env1) (h2 : e.av F = some a) (k : la.r env1 (fun as env2 => PA (a :: as) env2) X) : (consA F f la).r env PA X := h _ _ ⟨a, h2, k⟩
theorem call_c {FS : EF} {n : Nat} (h : la.r env (fun as env1 => as.length = n ∧ (refs as).Nodup ∧ runF FS (as.map (slotOf env1)) (fun e outs => e.isOwn = false ∧ ∃ env2, backE as outs env1 = some env2 ∧ P e env2) X) X) : (callF FS n la).r env P X := h
theorem seqI_c (h : f.r env (fun e env1 => ∃ d, e.keep F = some d ∧ ∃ ds, iterL? d = some ds ∧ PL ds env1) X) : (seqI F f).r env PL X := h
theorem for_c {l : LF} {p : Pat} (h : l.r env (fun ds env1 => forL p sa Ps X ds env1) X) : (forS l p sa).r env Ps X := h
theorem rng_c (h : f.r env (fun e env1 => ∃ n, e = .val (.int n) ∧ (-1000000 ≤ n ∧ n ≤ 1000000) ∧ PL (intsD 0 n.toNat) env1) X) : (rngI f).r env PL X := h
theorem app_c {i : Nat} (h0 : ∃ sl, env[i]? = some sl ∧ ∃ ds, sl.lst? = some ds) (h : f.r env (fun e env1 => ∃ d, e.keep F = some d ∧ ∃ sl ds, env1[i]? = some sl ∧ sl.lst? = some ds ∧ ds.length < 100000 ∧ P (.val .non) (env1.set i (sl.put (.lst (ds ++ [d]))))) X) : (appF F i f).r env P X := ⟨h0, h⟩
theorem tgt_c {gf : GF} (h : f.r env (fun e env1 => ∃ d, e.keep F = some d ∧ gf.r d env1 Ps.nx X) X) : (tgtS F gf f).r env Ps X := h
end
theorem intsD_get {lo : Int} {n k : Nat} {d : D} (h : (intsD lo n)[k]? = some d) : k < n ∧ d = .int (lo + (k : Int)) := by
  unfold intsD at h
  rw [List.getElem?_map] at h
  obtain ⟨j, h1, rfl⟩ := Option.map_eq_some_iff.mp h
  have hi := (List.getElem?_eq_some_iff.mp h1).1
  rw [List.length_range] at hi
  rw [List.getElem?_range hi] at h1
  cases h1
  exact ⟨hi, rfl⟩
theorem intsD_len (lo : Int) (n : Nat) : (intsD lo n).length = n := by simp [intsD]
/-- the text of these code points -/
abbrev St (l : List Nat) : Str := ⟨l.toArray⟩
theorem ix_st {l : List Nat} {r : Int} (hz : l.length ≤ 1000) (h0 : 0 ≤ r) (h1 : r < l.length) : ∃ c, c ∈ l ∧ ixD (.str (St l)) (.int r) = some (.str (St [c])) := by
  have hj : r.toNat < l.length := by omega
  refine ⟨l[r.toNat], List.getElem_mem hj, ?_⟩
  show (if (St l).length ≤ sizeLine then (atI (St l).cps.toList r).map fun c => D.str ⟨#[c]⟩ else none) = _
  have hs : (St l).length ≤ sizeLine := by
    rw [sizeLine_eq]
    show l.toArray.size ≤ _
    simp; omega
  rw [if_pos hs]
  unfold atI ixN
  simp only [List.toList_toArray]
  rw [if_pos h0, if_pos h1]
  show Option.map _ (l[r.toNat]?) = _
  rw [List.getElem?_eq_getElem hj]; rfl
theorem len_st {l : List Nat} (hz : l.length ≤ 1000) : lenD (.str (St l)) = some (.int l.length) := by
  show (if (St l).length ≤ sizeLine then some (D.int (St l).length) else none) = _
  have e : (St l).length = l.length := by show l.toArray.size = _; simp
  rw [e, if_pos (by rw [sizeLine_eq]; omega)]
theorem join_one : ∀ cs : List Nat, TL.joinL [] (cs.map fun c => [c]) = cs
  | [] => rfl
  | [c] => rfl
  | c :: d :: r => by
    have ih := join_one (d :: r)
    show [c] ++ ([] ++ TL.joinL [] ((d :: r).map fun c => [c])) = _
    rw [ih]; rfl
theorem strsD_one : ∀ cs : List Nat, strsD? (cs.map fun c => D.str (St [c])) = some (cs.map fun c => St [c])
  | [] => rfl
  | c :: r => by
    show (strsD? (r.map fun c => D.str (St [c]))).map (St [c] :: ·) = _
    rw [strsD_one r]; rfl
theorem join_st {cs : List Nat} (hz : cs.length ≤ 1000) : joinD "" (.lst (cs.map fun c => .str (St [c]))) = some (.str (St cs)) := by
  show (strsD? _).bind _ = _
  rw [strsD_one]
  have e : (("" : Str) : Str) = SX.S [] := by decide +kernel
  have hs : ((cs.map fun c => St [c]).map (·.length)).sum + (cs.map fun c => St [c]).length * ("" : Str).length ≤ 16777216 := by
    have h1 : ((cs.map fun c => St [c]).map (·.length)).sum = cs.length := by
      clear hz
      induction cs with
      | nil => rfl
      | cons c r ih =>
        rw [List.map_cons, List.map_cons, List.sum_cons, ih, List.length_cons]
        show 1 + _ = _
        omega
    have h2 : ("" : Str).length = 0 := by decide +kernel
    rw [h1, h2]; omega
  show (if _ then some (D.str (Txt.join "" (cs.map fun c => St [c]))) else none) = _
  rw [if_pos hs, e]
  have := SX.join_S [] (cs.map fun c => [c])
  rw [join_one, List.map_map] at this
  exact congrArg (fun x => some (D.str x)) this
theorem add_st {a b : List Nat} (h : a.length + b.length ≤ 1000) : addD (.str (St a)) (.str (St b)) = some (.str (St (a ++ b))) := by
  show (if (St a).length + (St b).length ≤ sizeLine then some (D.str (St a ++ St b)) else none) = _
  have e : ∀ l : List Nat, (St l).length = l.length := fun l => by show l.toArray.size = _; simp
  rw [e, e, if_pos (by rw [sizeLine_eq]; omega)]
  show some (D.str ⟨a.toArray ++ b.toArray⟩) = _
  simp
end En
namespace En
open PySem PySem.Spec PyProof.Rows L2
theorem yes_i {env : Env'} {X : Exx} {A B : Env' → Prop} (h : A env) : yesT.r env (fun b env3 => if b = true then A env3 else B env3) X := by
  show (if true = true then A env else B env)
  rw [if_pos rfl]; exact h
end En
namespace En
open PySem PySem.Spec PyProof.Rows L2
section
variable {F : Nat → List Str} {f g : EF} {t : TF} {env : Env'} {P : EV → Env' → Prop} {PT : Bool → Env' → Prop} {X : Exx} {i : Nat} {ds : List D} {s : Slot}
theorem ite_c (h : t.r env (fun b env1 => if b = true then f.r env1 P X else g.r env1 P X) X) : (iteF' t f g).r env P X := h
theorem bl_c (h : f.r env (fun e env1 => ∃ b, e = .val (.bl b) ∧ PT b env1) X) : (blF F f).r env PT X := h
theorem ev_kvB (h : env[i]? = some s) (hs : s = .own (.lst ds) ∨ s = .val (.lst ds)) : Ev (kvF F i) env (.val (.lst ds)) (env.set i (.val (.lst ds))) := by
  rcases hs with rfl | rfl
  · exact ev_kvo h rfl
  · have : env.set i (.val (.lst ds)) = env := by
      apply List.ext_getElem?
      intro j
      by_cases hj : i = j
      · subst hj
        rw [h, List.getElem?_set_self (List.getElem?_eq_some_iff.mp h).1]
      · rw [List.getElem?_set_ne hj]
    rw [this]; exact ev_kv h
end
end En
namespace En
open PySem PySem.Spec PyProof.Rows L2
section
variable {F : Nat → List Str} {f g : EF} {t : TF} {env env1 : Env'} {P : EV → Env' → Prop} {PT : Bool → Env' → Prop} {X : Exx} {b : Bool}
theorem or_i (h : Ev f env (.val (.bl b)) env1) (k1 : b = true → P (.val (.bl true)) env1) (k2 : b = false → g.r env1 P X) : (orF f g).r env P X := h _ _ ⟨b, rfl, by
  cases b with
  | true => exact k1 rfl
  | false => exact k2 rfl⟩
theorem and_i (h : Ev f env (.val (.bl b)) env1) (k1 : b = true → g.r env1 P X) (k2 : b = false → P (.val (.bl false)) env1) : (andF f g).r env P X := h _ _ ⟨b, rfl, by
  cases b with
  | true => exact k1 rfl
  | false => exact k2 rfl⟩
end
end En
set_option Elab.async false
set_option linter.all false
set_option maxRecDepth 100000
namespace En
open PySem PySem.Spec PyProof.Rows L2
section
variable {F : Nat → List Str} {f g : EF} {t u : TF} {it : LF} {p : Pat} {vs : List Nat} {env env1 : Env'} {PT : Bool → Env' → Prop} {X : Exx} {b : Bool} {ds : List D}
theorem orT_i (h : EvT t env b env1) (k1 : b = true → PT true env1) (k2 : b = false → u.r env1 PT X) : (orT t u).r env PT X := h _ _ (by
  cases b with
  | true => exact k1 rfl
  | false => exact k2 rfl)
theorem andT_i (h : EvT t env b env1) (k1 : b = true → u.r env1 PT X) (k2 : b = false → PT false env1) : (andT t u).r env PT X := h _ _ (by
  cases b with
  | true => exact k1 rfl
  | false => exact k2 rfl)
theorem skip_i {Ps : Pst} (h : Ps.nx env) : skipS.r env Ps X := h
/-- a comprehension without a test whose element is plain -/
theorem compL_map {P : List D → Env' → Prop} (g : D → D) : ∀ (ds acc : List D), (∀ d ∈ ds, ∃ env2 e, p.put d env = some env2 ∧ Ev f env2 e env2 ∧ e.keep F = some (g d) ∧ okW env2 vs = true ∧ wipeE env2 vs = env) → acc.length + ds.length < 100000 → P (acc ++ ds.map g) env → compL F p yesT f vs P ds acc env
  | [], acc, _, _, k => by rwa [List.map_nil, List.append_nil] at k
  | d :: ds, acc, hp, hz, k => by
    obtain ⟨env2, e, h1, h2, h3, h4, h5⟩ := hp d List.mem_cons_self
    refine ⟨env2, h1, yes_i (h2 _ _ ⟨g d, h3, by simp at hz; omega, h4, ?_⟩)⟩
    rw [h5]
    exact compL_map g ds _ (fun x hx => hp x (List.mem_cons_of_mem _ hx)) (by simp at hz ⊢; omega) (by rw [List.append_assoc]; exact k)
/-- .. with a test -/
theorem compL_filt {P : List D → Env' → Prop} (q : D → Bool) (g : D → D) : ∀ (ds acc : List D), (∀ d ∈ ds, ∃ env2 e, p.put d env = some env2 ∧ EvT t env2 (q d) env2 ∧ (q d = true → Ev f env2 e env2 ∧ e.keep F = some (g d)) ∧ okW env2 vs = true ∧ wipeE env2 vs = env) → acc.length + ds.length < 100000 → P (acc ++ (ds.filter q).map g) env → compL F p t f vs P ds acc env
  | [], acc, _, _, k => by
    have k : P acc env := by simpa using k
    exact k
  | d :: ds, acc, hp, hz, k => by
    obtain ⟨env2, e, h1, h2, h3, h4, h5⟩ := hp d List.mem_cons_self
    refine ⟨env2, h1, h2 _ _ ?_⟩
    rw [List.filter_cons] at k
    cases hq : q d with
    | true =>
      rw [if_pos rfl]
      rw [if_pos hq] at k
      obtain ⟨h6, h7⟩ := h3 hq
      refine h6 _ _ ⟨g d, h7, by simp at hz; omega, h4, ?_⟩
      rw [h5]
      exact compL_filt q g ds _ (fun x hx => hp x (List.mem_cons_of_mem _ hx)) (by simp at hz ⊢; omega) (by rw [List.append_assoc]; exact k)
    | false =>
      rw [if_neg Bool.false_ne_true]
      rw [if_neg (by rw [hq]; exact Bool.false_ne_true)] at k
      refine ⟨h4, ?_⟩
      rw [h5]
      exact compL_filt q g ds _ (fun x hx => hp x (List.mem_cons_of_mem _ hx)) (by simp at hz ⊢; omega) k
theorem ev_lc (g : D → D) (hit : EvL it env ds env1) (hw : okW env1 vs = true) (hz : ds.length < 100000) (hr : restE (wipeE env1 vs) env1 vs = env1)
    (hp : ∀ d ∈ ds, ∃ env2 e, p.put d (wipeE env1 vs) = some env2 ∧ Ev f env2 e env2 ∧ e.keep F = some (g d) ∧ okW env2 vs = true ∧ wipeE env2 vs = wipeE env1 vs) : Ev (lcF F it p yesT f vs) env (.new (.lst (ds.map g))) env1 := fun P X k =>
  lc_i hit hw (compL_map g ds [] hp (by simpa using hz) (by rw [hr]; exact k))
theorem ev_lcq (q : D → Bool) (g : D → D) (hit : EvL it env ds env1) (hw : okW env1 vs = true) (hz : ds.length < 100000) (hr : restE (wipeE env1 vs) env1 vs = env1)
    (hp : ∀ d ∈ ds, ∃ env2 e, p.put d (wipeE env1 vs) = some env2 ∧ EvT t env2 (q d) env2 ∧ (q d = true → Ev f env2 e env2 ∧ e.keep F = some (g d)) ∧ okW env2 vs = true ∧ wipeE env2 vs = wipeE env1 vs) : Ev (lcF F it p t f vs) env (.new (.lst ((ds.filter q).map g))) env1 := fun P X k =>
  lc_i hit hw (compL_filt q g ds [] hp (by simpa using hz) (by rw [hr]; exact k))
theorem bls_map (h : D → Bool) : ∀ ds : List D, blsD? (ds.map fun d => D.bl (h d)) = some (ds.map h)
  | [] => rfl
  | d :: ds => by
    show (blsD? (ds.map fun d => D.bl (h d))).map (h d :: ·) = _
    rw [bls_map h ds]; rfl
theorem all_bls {h : D → Bool} : allD (.lst (ds.map fun d => D.bl (h d))) = some (.bl (ds.all h)) := by
  show (blsD? _).map _ = _
  rw [bls_map]; simp
theorem any_bls {h : D → Bool} : anyD (.lst (ds.map fun d => D.bl (h d))) = some (.bl (ds.any h)) := by
  show (blsD? _).map _ = _
  rw [bls_map]; simp
theorem evl_rngN {n : Nat} (h1 : Ev f env (.val (.int (n : Int))) env1) (hz : n ≤ 1000000) : EvL (rngI f) env (intsD 0 n) env1 := by
  have := evl_rng (n := (n : Int)) h1 ⟨by omega, by omega⟩
  rwa [show ((n : Int)).toNat = n from Int.toNat_natCast n] at this
theorem ite_i {P : EV → Env' → Prop} (h : EvT t env b env1) (k1 : b = true → f.r env1 P X) (k2 : b = false → g.r env1 P X) : (iteF' t f g).r env P X := h _ _ (by
  cases b with
  | true => exact (if_pos rfl : (if true = true then f.r env1 P X else g.r env1 P X) = _) ▸ k1 rfl
  | false => exact k2 rfl)
end
end En
set_option Elab.async false
set_option linter.all false
set_option maxRecDepth 100000
namespace En
open PySem PySem.Spec PyProof.Rows L2
/-! ### another signature: other lambdas, another caught exception -/
mutual
def D.pl : D → Bool
  | .non => true
  | .bl _ => true
  | .int _ => true
  | .str _ => true
  | .nms _ => true
  | .tup ds => D.plL ds
  | .lst ds => D.plL ds
  | .dK _ ds => D.plL ds
  | .dT _ ds => D.plL ds
  | .ins _ ds => D.plL ds
  | .fn _ _ => false
  | .exc _ _ => false
def D.plL : List D → Bool
  | [] => true
  | d :: ds => D.pl d && D.plL ds
end
def Ob.pl : Ob → Bool
  | .lst ds => D.plL ds
  | .dK _ ds => D.plL ds
  | .dT _ ds => D.plL ds
  | .ins _ fs => D.plL (fs.map (·.2))
def Slot.pl : Slot → Bool
  | .un => true
  | .val d => d.pl
  | .own o => o.pl
  | .io o => o.pl
def EV.pl : EV → Bool
  | .val d => d.pl
  | .own _ => true
  | .new o => o.pl
abbrev Pl (env : Env') : Prop := env.all Slot.pl = true
theorem Pl.get {env : Env'} {i : Nat} {s : Slot} (h : Pl env) (e : env[i]? = some s) : s.pl = true := List.all_eq_true.mp h s (List.mem_of_getElem? e)
structure Like (S S' : Sg) : Prop where
  k : S.K = S'.K
  c : S.cls = S'.cls
  f : S.flds = S'.flds
  t : S.tabs = S'.tabs
theorem Like.symm {S S' : Sg} (l : Like S S') : Like S' S := ⟨l.k.symm, l.c.symm, l.f.symm, l.t.symm⟩
section
variable {S S' : Sg} {M M0 B : MS} {H H' : Hp} {ow : OW} {env : Env'} {σ : L2.St} {E : XK}
mutual
theorem Rep.sw (l : Like S S') : ∀ (d : D) (v : V), d.pl = true → Rep S M H d v → Rep S' M H d v
  | .non, v, _, h => h
  | .bl _, v, _, h => h
  | .int _, v, _, h => h
  | .str _, v, _, h => h
  | .tup ds, v, p, h => by
    obtain ⟨a, vs, e, n, r, m⟩ := h
    exact ⟨a, vs, e, n, r, RepL.sw l ds vs (by simpa [D.pl] using p) m⟩
  | .lst ds, v, p, h => by
    obtain ⟨a, vs, e, q, m⟩ := h
    exact ⟨a, vs, e, by rw [← l.k]; exact q, RepL.sw l ds vs (by simpa [D.pl] using p) m⟩
  | .dK ks ds, v, p, h => by
    obtain ⟨a, vs, e, n, r, z, m⟩ := h
    exact ⟨a, vs, e, n, r, z, RepL.sw l ds vs (by simpa [D.pl] using p) m⟩
  | .dT ks ds, v, p, h => by
    obtain ⟨a, vs, e, n, r, z, m⟩ := h
    exact ⟨a, vs, e, n, r, z, RepL.sw l ds vs (by simpa [D.pl] using p) m⟩
  | .ins c ds, v, p, h => by
    obtain ⟨a, dx, vs, e, n, r, z, m⟩ := h
    exact ⟨a, dx, vs, e, n, by rw [← l.c, ← l.f]; exact r, by rw [← l.f]; exact z, RepL.sw l ds vs (by simpa [D.pl] using p) m⟩
  | .nms xs, v, _, h => h
  | .fn _ _, v, p, h => by simp [D.pl] at p
  | .exc _ _, v, p, h => by simp [D.pl] at p
theorem RepL.sw (l : Like S S') : ∀ (ds : List D) (vs : List V), D.plL ds = true → RepL S M H ds vs → RepL S' M H ds vs
  | [], vs, _, h => h
  | d :: ds, vs, p, h => by
    obtain ⟨v, r, e, h1, h2⟩ := h
    have p : d.pl = true ∧ D.plL ds = true := by simpa [D.plL] using p
    exact ⟨v, r, e, Rep.sw l d v p.1 h1, RepL.sw l ds r p.2 h2⟩
end
theorem ObRep.sw (l : Like S S') {a : Addr} {o : Ob} (p : o.pl = true) (h : ObRep S M H a o) : ObRep S' M H a o := by
  cases o with
  | lst ds => obtain ⟨vs, h1, h2⟩ := h; exact ⟨vs, h1, RepL.sw l _ _ p h2⟩
  | dK ks ds => obtain ⟨vs, h1, z, h2⟩ := h; exact ⟨vs, h1, z, RepL.sw l _ _ p h2⟩
  | dT ks ds => obtain ⟨vs, h1, z, h2⟩ := h; exact ⟨vs, h1, z, RepL.sw l _ _ p h2⟩
  | ins c fs => obtain ⟨dx, vs, h1, z, h2⟩ := h; exact ⟨dx, vs, by rw [← l.c]; exact h1, z, RepL.sw l _ _ p h2⟩
theorem Sim.sw (l : Like S S') (p : Pl env) (h : Sim S M0 B ow env σ H) : Sim S' M0 B ow env σ H where
  l1 := h.l1
  l2 := h.l2
  val := fun i d e => by
    obtain ⟨v, h1, h2⟩ := h.val i d e
    exact ⟨v, h1, Rep.sw l d v (p.get e) h2⟩
  own := fun i o e => by
    obtain ⟨a, h1, h2, h3, h4⟩ := h.own i o e
    exact ⟨a, h1, h2, h3.sw l (p.get e), h4⟩
  io := fun i o e => by
    obtain ⟨a, h1, h2, h3⟩ := h.io i o e
    exact ⟨a, h1, h2, h3.sw l (p.get e)⟩
  live := h.live
  inj := h.inj
  dis := h.dis
  trk := h.trk
  m0 := h.m0
  tb := by rw [← l.t]; exact h.tb
theorem EVOk.sw (l : Like S S') {e : EV} {v : V} (p : Pl env) (pe : e.pl = true) (h : EVOk S M0 B ow env σ H e v) : EVOk S' M0 B ow env σ H e v := by
  cases e with
  | val d => exact ⟨h.1.sw l p, Rep.sw l d v pe h.2⟩
  | own i => exact ⟨h.1.sw l p, h.2⟩
  | new o =>
    obtain ⟨a, h1, h2, h3, h4, h5⟩ := h
    exact ⟨a, h1, h2, h3, h4.sw l p, h5.sw l pe⟩
theorem XRep.sw (l : Like S S') {c : Nat} {fs : List D} {dx : Addr} (p : D.plL fs = true) (h : XRep S M0 H c fs dx) : XRep S' M0 H c fs dx := by
  obtain ⟨xl, h1, hn, h2, h3⟩ := h
  refine ⟨xl, h1, hn, by rw [← l.f]; exact h2, fun i f d e1 e2 => ?_⟩
  rw [← l.f] at e1
  obtain ⟨v, g1, g2⟩ := h3 i f d e1 e2
  have pd : ∀ {ds : List D} {i : Nat} {d : D}, D.plL ds = true → ds[i]? = some d → d.pl = true := by
    intro ds
    induction ds with
    | nil => intro i d _ h; simp at h
    | cons x ds ih =>
      intro i d q h
      have q : x.pl = true ∧ D.plL ds = true := by simpa [D.plL] using q
      cases i with
      | zero => simp at h; subst h; exact q.1
      | succ i => exact ih q.2 (by simpa using h)
  exact ⟨v, g1, Rep.sw l d v (pd p e2) g2⟩
/-- a block read with another signature: what goes in and out is plain -/
def swS (sb : SF) : SF where
  r := fun env P X => Pl env ∧ sb.r env ⟨fun e => Pl e ∧ P.nx e, fun e env => e.pl = true ∧ Pl env ∧ P.rt e env, fun e => Pl e ∧ P.bk e, fun e => Pl e ∧ P.ct e⟩ (fun c fs => D.plL fs = true ∧ X c fs)
  m := fun {env P P' X X'} hp hx h => ⟨h.1, sb.m (P := ⟨fun e => Pl e ∧ P.nx e, fun e env => e.pl = true ∧ Pl env ∧ P.rt e env, fun e => Pl e ∧ P.bk e, fun e => Pl e ∧ P.ct e⟩) (P' := ⟨fun e => Pl e ∧ P'.nx e, fun e env => e.pl = true ∧ Pl env ∧ P'.rt e env, fun e => Pl e ∧ P'.bk e, fun e => Pl e ∧ P'.ct e⟩)
    ⟨fun _ h => ⟨h.1, hp.nx _ h.2⟩, fun _ _ h => ⟨h.1, h.2.1, hp.rt _ _ h.2.2⟩, fun _ h => ⟨h.1, hp.bk _ h.2⟩, fun _ h => ⟨h.1, hp.ct _ h.2⟩⟩ (fun _ _ h => ⟨h.1, hx _ _ h.2⟩) h.2⟩
theorem swS_of (l : Like S S') {sb : SF} {D : Ends} (h : tS S M0 E (swS sb) D σ H) : tS S' M0 E sb D σ H := by
  obtain ⟨B, ow, env, s, hp, h⟩ := h
  refine ⟨B, ow, env, s.sw l hp, sb.m ⟨fun e h σ' H' ow' st s' => ?_, fun e env h v σ' H' ow' st nw s' => ?_, fun e h σ' H' ow' st s' => ?_, fun e h σ' H' ow' st s' => ?_⟩ (fun c fs h dx H' k dmx kt r => ?_) h⟩
  · exact h.2 σ' H' ow' st (s'.sw l.symm h.1)
  · exact h.2.2 v σ' H' ow' st nw (s'.sw l.symm h.2.1 h.1)
  · exact h.2 σ' H' ow' st (s'.sw l.symm h.1)
  · exact h.2 σ' H' ow' st (s'.sw l.symm h.1)
  · have r' : XRep S M0 H' c fs dx := r.sw l.symm h.1
    have := h.2 dx H' k dmx (by rw [l.t]; exact kt) r'
    rw [l.c] at this
    exact this
theorem s_sw {X : Cx} {ss : List Stmt} {sb : SF} (l : Like S S') (h : PSs X ss (tS S' M0 E sb)) : PSs X ss (tS S M0 E (swS sb)) := PSs.imp h fun D σ H z => swS_of l z
end
end En
set_option Elab.async false
set_option linter.all false
set_option maxRecDepth 100000
namespace En
open PySem PySem.Spec PyProof.Rows L2
/-! ### exceptions of the program's own, over one base -/
section
variable {X : Cx} {e : Expr} {es : List Expr} {ta : TA} {p1 p2 pos : Pos}
theorem pe_hi {x : Str} {C0 : Addr} {mc : Value} {pl : Sem Bool} (hg : Gl X x) (hm : X.mg x = some (.ref C0)) (hsp : PySem.W.specialIn X.K (.ref C0) "__getattribute__" = some (some (.builtin "type.__getattribute__")))
    (hrd : PySem.W.readsIn X.K C0 mc = true) (hfi : PySem.W.findCls X.K (.ref C0) mc "__init__" = some (.val (.builtin "ValueError.__init__"))) (ha : PA X (e :: es) ta) (hdb : (x == ("__debug__" : Str)) = false := by decide)
    (hcall : eval (.Call (.Attribute (.Name x p1) "__init__" p2) (e :: es) [] pos) X.env = (do
      let q ← eval (.Name x p1) X.env
      standAt p2.atName
      let (g, fst) ← holding [q] (getMethod q "__init__" pl)
      callWith pos g fst (backTo pos (starEach (e :: es) X.env)) (backToKw pos (keywordEach [] X.env))) := by rfl)
    (hse : starEach (e :: es) X.env = (false, eval e X.env) :: starEach es X.env := by rfl) (hpl : (backTo pos (starEach es X.env)).any (·.1) = false := by rfl) :
    PE X (.Call (.Attribute (.Name x p1) "__init__" p2) (e :: es) [] pos) (tVeI X.K ta) := by
  refine ⟨fun pins s σ H Q I h => PySem.W.methodCall_KW (ld_glob I hg hm ?_ hdb) hcall⟩
  refine PySem.W.method_cls I.kIn hsp (PySem.W.cls_value I.kIn hrd hfi (by decide +kernel) ?_)
  show wpAny _ _ (callWith pos (Value.builtin "ValueError.__init__") [] (backTo pos (starEach (e :: es) X.env)) []) _ _ _
  refine PyProof.Rows.callWith_method1 (thn (ha.run pos pins _ σ H _ (I.tok _) h) fun us s1 hq => ?_) hse hpl
  obtain ⟨vs, H1, I1, r1, a, C, ws, rfl, hl, T, ea, q⟩ := hq
  cases r1 with
  | @cons _ u _ ur ra rw' =>
    cases ra
    have hn : ur.length ≤ sizeLine := by
      have := Paired.length rw'
      rw [sizeLine_eq]; omega
    exact oinit_ok T I1 ea hn fun s' J => ⟨.non, H1, J, rfl, q⟩
end
/-- what an own exception's __init__ leaves -/
def spI (K : PySem.W.Frag) (C : Addr) (fl : List Str) : Sp := fun vs H Q _ => ∃ a ws, vs = .ref a :: ws ∧ ws.length = fl.length ∧ OexC K C ∧ (∀ f ∈ fl, PySem.W.findIn K (.ref C) f = some none) ∧ H a = some (exo a C none) ∧
  ∀ d H2, H d = none → d ≠ a → (∀ b, b ≠ a → b ≠ d → H2 b = H b) → H2 a = some (exo a C (some d)) → H2 d = some (exd d ((fl.zip ws).reverse)) → Q .non H2
theorem spI_len {K : PySem.W.Frag} {C : Addr} {fl ps : List Str} (h : ps.length = fl.length + 1) : ∀ vs H Q E, spI K C fl vs H Q E → vs.length = ps.length := fun vs H Q E ⟨a, ws, e, l, _⟩ => by rw [e, List.length_cons, l, h]
/-- the base's own facts -/
structure BaseX (K : PySem.W.Frag) (mg : Str → Option Value) (x : Str) : Prop where
  ex : ∃ (C0 : Addr) (mc : Value), mg x = some (.ref C0) ∧ PySem.W.specialIn K (.ref C0) "__getattribute__" = some (some (.builtin "type.__getattribute__")) ∧ PySem.W.readsIn K C0 mc = true ∧ PySem.W.findCls K (.ref C0) mc "__init__" = some (.val (.builtin "ValueError.__init__"))
section
variable {P : Program} {w : World} {K : PySem.W.Frag} {mg : Str → Option Value} {base : Heap} {nm qual : Str} {st : Stmt} {g C : Addr} {fd : FuncData} {k : Nat} {x m f1 f2 f3 a1 a2 a3 : Str} {s0 : Stmt} {j j2 : Nat} {q1 q2 q3 q4 q5 q6 q7 q8 q9 q10 q11 q12 q13 q14 q15 q16 q17 q18 : Pos}
theorem init1 (F : Fun K nm qual st g fd) (hi : ∀ (cdv : Value) (A : Around) (outer : List Env) (s : Shared) (H : Hp) (E : XK), PS (cxOf (L2.CX P w) P w K mg base ["self", a1] qual (defScope st) g cdv A outer s H E) s0 (tDrop (tVeI K (tCons (tVar 0) (tCons (tC (.str m)) tNil))))) (Sc : FnScope ["self", a1] ["self", a1] (defScope st)) (hda : (a1 == ("__debug__" : Str)) = false) (hdc : (a1 == ("__classdict__" : Str)) = false) (hv0 : Loc (defScope st) "self") (hv1 : Loc (defScope st) a1)
    (hb : defBody st = [s0, .Assign [.Attribute (.Name "self" q7) f1 q8] (.Name a1 q9) q10]) : FnOk P w K mg base (L2.CX P w) (k + 1) g fd ["self", a1] (spI K C [f1]) :=
  F.okX Sc (spI_len rfl) fun cdv A outer s H vs Q E hr hsp => by
    obtain ⟨a, ws, rfl, hl, T, hf, ha, kq⟩ := hsp
    match ws, hl with
    | [y], _ =>
      have v0 : Vis (defScope st) "self" := hv0.elim .inl fun z => .inr (.inl z)
      have v1 : Vis (defScope st) a1 := hv1.elim .inl fun z => .inr (.inl z)
      rw [hb]
      refine ⟨_, pss_cons (hi cdv A outer s H E) (pss_one (ps_ost (pe_var (i := 0) rfl v0) (pe_var (i := 1) rfl v1 hda hdc))), ?_⟩
      refine ⟨_, rfl, a, C, [.str m], rfl, by simp, T, ha, ?_⟩
      refine ⟨y, rfl, _, rfl, a, C, rfl, T, hf f1 (by simp), .inl ⟨ha, fun dx hd hne => ?_⟩⟩
      refine kq dx _ hd hne (fun b h1 h2 => by rw [upd_ne h1, upd_ne h2]) upd_same (by rw [upd_ne hne]; exact upd_same)
theorem init2 (F : Fun K nm qual st g fd) (hi : ∀ (cdv : Value) (A : Around) (outer : List Env) (s : Shared) (H : Hp) (E : XK), PS (cxOf (L2.CX P w) P w K mg base ["self", a1, a2] qual (defScope st) g cdv A outer s H E) s0 (tDrop (tVeI K (tCons (tVar 0) (tCons (tC (.str m)) tNil))))) (Sc : FnScope ["self", a1, a2] ["self", a1, a2] (defScope st)) (hda : (a1 == ("__debug__" : Str)) = false) (hdc : (a1 == ("__classdict__" : Str)) = false) (hda2 : (a2 == ("__debug__" : Str)) = false) (hdc2 : (a2 == ("__classdict__" : Str)) = false)
    (hv0 : Loc (defScope st) "self") (hv1 : Loc (defScope st) a1) (hv2 : Loc (defScope st) a2)
    (hb : defBody st = [s0, .Assign [.Attribute (.Name "self" q7) f1 q8] (.Name a1 q9) q10, .Assign [.Attribute (.Name "self" q11) f2 q12] (.Name a2 q13) q14]) : FnOk P w K mg base (L2.CX P w) (k + 1) g fd ["self", a1, a2] (spI K C [f1, f2]) :=
  F.okX Sc (spI_len rfl) fun cdv A outer s H vs Q E hr hsp => by
    obtain ⟨a, ws, rfl, hl, T, hf, ha, kq⟩ := hsp
    match ws, hl with
    | [y, z], _ =>
      have v0 : Vis (defScope st) "self" := hv0.elim .inl fun z => .inr (.inl z)
      have v1 : Vis (defScope st) a1 := hv1.elim .inl fun z => .inr (.inl z)
      have v2 : Vis (defScope st) a2 := hv2.elim .inl fun z => .inr (.inl z)
      rw [hb]
      refine ⟨_, pss_cons (hi cdv A outer s H E) (pss_cons (ps_ost (pe_var (i := 0) rfl v0) (pe_var (i := 1) rfl v1 hda hdc)) (pss_one (ps_ost (pe_var (i := 0) rfl v0) (pe_var (i := 2) rfl v2 hda2 hdc2)))), ?_⟩
      refine ⟨_, rfl, a, C, [.str m], rfl, by simp, T, ha, ?_⟩
      refine ⟨y, rfl, _, rfl, a, C, rfl, T, hf f1 (by simp), .inl ⟨ha, fun dx hd hne => ?_⟩⟩
      refine ⟨z, rfl, _, rfl, a, C, rfl, T, hf f2 (by simp), .inr ⟨dx, [(f1, y)], upd_same, by rw [upd_ne hne]; exact upd_same, by simp, ?_⟩⟩
      refine kq dx _ hd hne (fun b h1 h2 => by rw [upd_ne h2, upd_ne h1, upd_ne h2]) (by rw [upd_ne (Ne.symm hne)]; exact upd_same) upd_same
theorem init3 (F : Fun K nm qual st g fd) (hi : ∀ (cdv : Value) (A : Around) (outer : List Env) (s : Shared) (H : Hp) (E : XK), PS (cxOf (L2.CX P w) P w K mg base ["self", a1, a2, a3] qual (defScope st) g cdv A outer s H E) s0 (tDrop (tVeI K (tCons (tVar 0) (tCons (tC (.str m)) tNil))))) (Sc : FnScope ["self", a1, a2, a3] ["self", a1, a2, a3] (defScope st)) (hda : (a1 == ("__debug__" : Str)) = false) (hdc : (a1 == ("__classdict__" : Str)) = false) (hda2 : (a2 == ("__debug__" : Str)) = false) (hdc2 : (a2 == ("__classdict__" : Str)) = false) (hda3 : (a3 == ("__debug__" : Str)) = false) (hdc3 : (a3 == ("__classdict__" : Str)) = false)
    (hv0 : Loc (defScope st) "self") (hv1 : Loc (defScope st) a1) (hv2 : Loc (defScope st) a2) (hv3 : Loc (defScope st) a3)
    (hb : defBody st = [s0, .Assign [.Attribute (.Name "self" q7) f1 q8] (.Name a1 q9) q10, .Assign [.Attribute (.Name "self" q11) f2 q12] (.Name a2 q13) q14, .Assign [.Attribute (.Name "self" q15) f3 q16] (.Name a3 q17) q18]) : FnOk P w K mg base (L2.CX P w) (k + 1) g fd ["self", a1, a2, a3] (spI K C [f1, f2, f3]) :=
  F.okX Sc (spI_len rfl) fun cdv A outer s H vs Q E hr hsp => by
    obtain ⟨a, ws, rfl, hl, T, hf, ha, kq⟩ := hsp
    match ws, hl with
    | [y, z, u], _ =>
      have v0 : Vis (defScope st) "self" := hv0.elim .inl fun z => .inr (.inl z)
      have v1 : Vis (defScope st) a1 := hv1.elim .inl fun z => .inr (.inl z)
      have v2 : Vis (defScope st) a2 := hv2.elim .inl fun z => .inr (.inl z)
      have v3 : Vis (defScope st) a3 := hv3.elim .inl fun z => .inr (.inl z)
      rw [hb]
      refine ⟨_, pss_cons (hi cdv A outer s H E) (pss_cons (ps_ost (pe_var (i := 0) rfl v0) (pe_var (i := 1) rfl v1 hda hdc)) (pss_cons (ps_ost (pe_var (i := 0) rfl v0) (pe_var (i := 2) rfl v2 hda2 hdc2)) (pss_one (ps_ost (pe_var (i := 0) rfl v0) (pe_var (i := 3) rfl v3 hda3 hdc3))))), ?_⟩
      refine ⟨_, rfl, a, C, [.str m], rfl, by simp, T, ha, ?_⟩
      refine ⟨y, rfl, _, rfl, a, C, rfl, T, hf f1 (by simp), .inl ⟨ha, fun dx hd hne => ?_⟩⟩
      refine ⟨z, rfl, _, rfl, a, C, rfl, T, hf f2 (by simp), .inr ⟨dx, [(f1, y)], upd_same, by rw [upd_ne hne]; exact upd_same, by simp, ?_⟩⟩
      refine ⟨u, rfl, _, rfl, a, C, rfl, T, hf f3 (by simp), .inr ⟨dx, [(f2, z), (f1, y)], by rw [upd_ne (Ne.symm hne)]; exact upd_same, upd_same, by simp, ?_⟩⟩
      refine kq dx _ hd hne (fun b h1 h2 => by rw [upd_ne h2, upd_ne h2, upd_ne h1, upd_ne h2]) (by rw [upd_ne (Ne.symm hne), upd_ne (Ne.symm hne)]; exact upd_same) upd_same
end
end En
set_option Elab.async false
set_option linter.all false
set_option maxRecDepth 100000
namespace En
open PySem PySem.Spec PyProof.Rows L2
/-- an exception's class that may be raised -/
structure ExC (P : Program) (w : World) (S : Sg) (mg : Str → Option Value) (base : Heap) (k : Nat) (x : Str) (c : Nat) : Prop where
  ex : ∃ (f : Addr) (fd : FuncData) (ps : List Str), OexC S.K (S.cls c) ∧ PySem.W.findIn S.K (.ref (S.cls c)) "__init__" = some (some (.ref f)) ∧ PySem.W.typeIn S.K (.ref f) = some (.type "function") ∧
    FnOk P w S.K mg base (L2.CX P w) k f fd ps (spI S.K (S.cls c) (S.flds c)) ∧ Binds S.K fd ps [] ∧ mg x = some (.ref (S.cls c)) ∧ (∀ f ∈ S.flds c, PySem.W.findIn S.K (.ref (S.cls c)) f = some none) ∧ (S.flds c).Nodup
theorem lookup_nd {α : Type} : ∀ {l : List (Str × α)} {f : Str} {v : α}, (l.map (·.1)).Nodup → (f, v) ∈ l → l.lookup f = some v
  | q :: l, f, v, n, h => by
    rw [List.map_cons, List.nodup_cons] at n
    rw [List.lookup_cons]
    rcases List.mem_cons.mp h with e | h
    · subst e
      simp
    · have : (f == q.1) = false := by
        cases hz : f == q.1 with
        | false => rfl
        | true =>
          have e : f = q.1 := beq_iff_eq.mp hz
          exact absurd (List.mem_map.mpr ⟨_, h, e⟩) n.1
      rw [this]
      exact lookup_nd n.2 h
theorem zip_keys {α : Type} : ∀ {fl : List Str} {vs : List α}, fl.length = vs.length → (fl.zip vs).map (·.1) = fl
  | [], [], _ => rfl
  | [], _ :: _, h => by simp at h
  | _ :: _, [], h => by simp at h
  | f :: fl, v :: vs, h => by
    rw [List.zip_cons_cons, List.map_cons, zip_keys (by simpa using h)]
theorem zip_mem {α : Type} {fl : List Str} {vs : List α} {i : Nat} {f : Str} {v : α} (h1 : fl[i]? = some f) (h2 : vs[i]? = some v) : (f, v) ∈ fl.zip vs := by
  refine List.mem_of_getElem? (i := i) ?_
  rw [List.getElem?_zip_eq_some]
  exact ⟨h1, h2⟩
def raiseS (F : Nat → List Str) (c : Nat) (l : LF) : SF where
  r := fun env _ X => l.r env (fun ds _ => ds.length = (F c).length ∧ ds.length ≤ 100 ∧ X c ds) X
  m := fun _ hx h => l.m (fun _ _ h => ⟨h.1, h.2.1, hx _ _ h.2.2⟩) hx h
section
variable {X : Cx} {S : Sg} {M0 : MS} {E : XK} {k j cn : Nat} {x : Str} {l : LF} {p pos pos' : Pos} {e : Expr} {es : List Expr}
theorem s_raise (z : Bd X S k E) (c : ExC X.prog X.w S X.mg X.base j x cn) (ha : PA X (e :: es) (tL S M0 E l)) (hj : j + 1 ≤ k := by decide) (hg : Gl X x := by rfl) (hdb : (x == ("__debug__" : Str)) = false := by decide)
    (he : starEach (e :: es) X.env = (false, eval e X.env) :: starEach es X.env := by rfl) (hpl : (backTo pos (starEach es X.env)).any (·.1) = false := by rfl) :
    PS X (.Raise (some (.Call (.Name x p) (e :: es) [] pos)) none pos') (tS S M0 E (raiseS S.flds cn l)) := by
  obtain ⟨f, fd, ps, T, h1, h2, h3, h4, h5, h6, h7⟩ := c.ex
  rw [← z.q] at T h1 h2 h3 h4 h6
  refine PS.imp (ps_raise z.c z.tk (pmk_oex (dvs := []) T h1 h2 h3 (z.r.mono hj) h4 .nil (passes_call z.tk fun _ _ _ _ w => w.elim) hg h5 ha hdb he hpl)) fun D σ H h => ?_
  obtain ⟨B, ow, env, s, h⟩ := h
  refine ⟨B, ow, env, s, l.m (fun ds env1 g vs H1 ow1 st1 s1 r1 => ?_) (fun _ _ h => h) h⟩
  obtain ⟨g1, g2, g3⟩ := g
  have hl := r1.len
  refine ⟨by omega, fun a ha => ?_⟩
  refine ⟨a, vs, by rw [List.append_nil], by omega, T, h6, upd_same, fun d H2 hd hne hag ha2 hd2 => ?_⟩
  have hd1 : H1 d = none := by rw [upd_ne hne] at hd; exact hd
  refine ⟨rfl, d, _, ha2, hd2, hd1, ?_⟩
  have gr : Grow H1 (upd (del H2 a) d (.xd (((S.flds cn).zip vs).reverse))) := fun b o e => by
    have nb1 : b ≠ d := fun z => by rw [z, hd1] at e; cases e
    have nb2 : b ≠ a := fun z => by rw [z, ha] at e; cases e
    rw [upd_ne nb1, del_ne nb2, hag b nb2 nb1, upd_ne nb2]; exact e
  refine XP.stp st1 g3 d _ (fun b o _ _ e => gr b o e) (fun b o e => ⟨o, gr b o e⟩) ((s1.tb.move (fun b o _ n e => ⟨gr b o e, n⟩) fun b ps e => gr b _ e).anti s1.m0) ?_
  refine ⟨_, upd_same, (fun z => by
    obtain ⟨u, hu⟩ := s1.trkA d (s1.m0 d z)
    rw [hd1] at hu; cases hu), g1.symm, fun i f dd e1 e2 => ?_⟩
  obtain ⟨v, e3, r⟩ := r1.get e2
  refine ⟨v, lookup_nd ?_ (List.mem_reverse.mpr (zip_mem e1 e3)), Rep.move (fun b o _ n e => ⟨gr b o e, fun m => n (s1.m0 b m)⟩) _ _ r⟩
  rw [List.map_reverse, zip_keys (by omega)]
  unfold List.Nodup
  rw [List.pairwise_reverse]
  exact List.Pairwise.imp (fun q => Ne.symm q) h7
end
end En
set_option Elab.async false
set_option linter.all false
set_option maxRecDepth 100000
namespace En
open PySem PySem.Spec PyProof.Rows L2
/-! ### lambdas -/
abbrev LRec := Arguments × Expr × Scope
/-- the object of a lambda -/
def lamOb (q : Str) (cl : List (Str × Addr)) (r : LRec) (pm : Value) (c : Addr) (ct : Value) : Obj := PySem.W.kla_obj "<lambda>" q r.1 r.2.1 r.2.2 (cloFrom cl r.2.2.names []) pm c ct
def lmOf (q : Str) (cl : List (Str × Addr)) (tab : Nat → LRec) (ct : Nat → List V → Prop) : Lm := ⟨fun k pm c t => lamOb q cl (tab k) pm c t, fun _ => q, ct⟩
theorem pin_ok {P : Program} {w : World} {H : Hp} {h : Heap} {a : Addr} {o : Obj} (e : h.get? a = some o) : ObjOk P w H h a (PinO a o) := ⟨e, ⟨_, e⟩, fun _ _ q st => st _ q⟩
section
variable {X : Cx} {pins : List (Addr × Obj)} {σ : L2.St} {H : Hp} {s : Shared}
/-- a lambda is made -/
theorem lam_mk {T : List (Addr × Str)} {M : MS} {c P : Addr} {r : LRec} {q : Str} {po : Pos} {E : Value → Shared → Prop} {Q : Value → Shared → Prop} (hq : q = X.env.qual ++ "<lambda>") (I : Inv X pins σ H s) (TB : LamX.TabB X.base X.mg c P) (hco : X.env.code = .ref c)
    (hm : (P, q) ∈ T) (hu : ∀ p ∈ T, p.1 = P → p.2 = q) (hT : TbM T M H) (hMt : ∀ a, M a → ∃ u, H a = some u) (hdef : defaultsOf r.1 X.env = ([], [])) (hfree : ∀ y ∈ r.2.2.names, y.2 = .free → ∃ c, X.env.cells.lookup y.1 = some c)
    (h : ∀ (f c' : Addr) (pm ctv : Value) (H2 : Hp) (s' : Shared), Inv X pins σ H2 s' → (∀ b o, Nt o → H b = some o → H2 b = some o) → Dom H H2 → TbM T M H2 → H f = none → H2 f = some (PinO f (lamOb q X.env.cells r pm c' ctv)) → ¬ M c' → H2 c' = some (LamX.CodeO c' q) → Q (.ref f) s') :
    wpAny (model X.prog X.w) X.A (eval (.Lambda r.1 r.2.1 r.2.2 po) X.env) Q E s := by
  subst hq
  obtain ⟨ps, hP, ht, ha⟩ := hT _ hm
  refine PySem.W.kla_eval hdef ?_
  have hPs : s.heap.get? P = some { cls := .none, data := .fields ps } := I.hok P _ hP
  cases hc : codeAmong po ps.toList with
  | none =>
    refine PySem.W.kla_makeFunction (mg := X.mg) (c := c) (P := P) (ps := ps) (closure_ok hfree) I.ok.glob (I.mod.glob.keeps I.bk) hco (TB.code.keeps I.bk) hPs ht hc TB.gP (TB.bm.keeps I.bk) fun c' ctv h' tk hx hge hlt hrec htb => ?_
    obtain ⟨c2, oc, vs, t, e2, hoc, hd, hv⟩ := hrec
    cases e2
    have nC : H c' = none := I.hok.fresh hge
    have I1 := LamX.inv_table (t' := tk) (more := #[rawInt po.line, rawInt po.col, .ref c']) (h' := h') I hP (fun b o hb e => hx b o hb e) htb hge ⟨oc, vs, t, hoc, hd, hv⟩
    generalize hH1 : upd (upd H P (.tbl (ps ++ #[rawInt po.line, rawInt po.col, .ref c']))) c' (LamX.CodeO c' (X.env.qual ++ "<lambda>")) = H1 at I1
    have hsz : s.heap.objs.size ≤ h'.objs.size := Nat.le_trans hge (Nat.le_of_lt hlt)
    have nf : H1 h'.objs.size = none := I1.hok.fresh (Nat.le_refl _)
    have nf0 : H h'.objs.size = none := I.hok.fresh hsz
    have I2 := I1.laid (t' := tk) (a := h'.objs.size) (o := PinO h'.objs.size (lamOb (X.env.qual ++ "<lambda>") X.env.cells r ((X.mg "__name__").getD .none) c' ctv)) (h' := h'.push (lamOb (X.env.qual ++ "<lambda>") X.env.cells r ((X.mg "__name__").getD .none) c' ctv)) (fun b o e => Heap.get?_push_of_some _ e) (Nat.le_refl _) (pin_ok (Heap.get?_push_size _ rfl))
    have hPc : P ≠ c' := ne_of_none hP nC
    have keep1 : ∀ b o, Nt o → H b = some o → H1 b = some o := fun b o n e => by
      rw [← hH1, upd_ne (ne_of_none e nC), upd_ne (fun z => n ps (Option.some.inj (e.symm.trans (by rw [z]; exact hP))))]; exact e
    have hPn : H1 P = some (.tbl (ps ++ #[rawInt po.line, rawInt po.col, .ref c'])) := by rw [← hH1, upd_ne hPc, upd_same]
    have hCn : H1 c' = some (LamX.CodeO c' (X.env.qual ++ "<lambda>")) := by rw [← hH1, upd_same]
    have up : ∀ b o, H1 b = some o → upd H1 h'.objs.size (PinO h'.objs.size (lamOb (X.env.qual ++ "<lambda>") X.env.cells r ((X.mg "__name__").getD .none) c' ctv)) b = some o := fun b o e => by rw [upd_ne (ne_of_none e nf)]; exact e
    have nM : ¬ M c' := fun z => by
      obtain ⟨u, hu⟩ := hMt _ z
      rw [nC] at hu; cases hu
    have eL : (ps ++ #[rawInt po.line, rawInt po.col, .ref c']).toList = ps.toList ++ [rawInt po.line, rawInt po.col, .ref c'] := by simp
    refine h _ c' _ ctv _ _ I2 (fun b o n e => up _ _ (keep1 b o n e)) (fun b o e => ?_) (fun p hp => ?_) nf0 upd_same nM (up _ _ hCn)
    · by_cases hb : b = P
      · exact ⟨_, by rw [hb]; exact up _ _ hPn⟩
      · refine ⟨o, up _ _ ?_⟩
        rw [← hH1, upd_ne (ne_of_none e nC), upd_ne hb]; exact e
    · obtain ⟨ps', a1, a2, a3⟩ := hT p hp
      by_cases hb : p.1 = P
      · rw [hu p hp hb, hb]
        refine ⟨_, up _ _ hPn, by rw [eL]; exact PySem.TriplesOk_snoc _ _ _ _ ht, fun p' cv hcv => ?_⟩
        rw [eL] at hcv
        rcases LamX.among_app _ ht hcv with z | z
        · obtain ⟨c0, e1, e2, e3⟩ := ha p' cv z
          exact ⟨c0, e1, e2, up _ _ (keep1 _ _ .code e3)⟩
        · exact ⟨c', z, nM, up _ _ hCn⟩
      · refine ⟨ps', up _ _ (by rw [← hH1, upd_ne (ne_of_none a1 nC), upd_ne hb]; exact a1), a2, fun p' cv hcv => ?_⟩
        obtain ⟨c0, e1, e2, e3⟩ := a3 p' cv hcv
        exact ⟨c0, e1, e2, up _ _ (keep1 _ _ .code e3)⟩
  | some cv =>
    obtain ⟨c', e, hnM, hcode⟩ := ha po cv hc
    subst e
    refine PySem.W.kla_makeFunctionHit (mg := X.mg) (c := c) (P := P) (ps := ps) (closure_ok hfree) I.ok.glob (I.mod.glob.keeps I.bk) hco (TB.code.keeps I.bk) hPs ht hc (TB.bm.keeps I.bk) fun ctv h' tk hx hsz => ?_
    have I1 : Inv X pins σ H { s with heap := h', toks := tk } := I.kept (t' := tk) hx
    have nf : H h'.objs.size = none := I.hok.fresh hsz
    have I2 := I1.laid (t' := tk) (a := h'.objs.size) (o := PinO h'.objs.size (lamOb (X.env.qual ++ "<lambda>") X.env.cells r ((X.mg "__name__").getD .none) c' ctv)) (h' := h'.push (lamOb (X.env.qual ++ "<lambda>") X.env.cells r ((X.mg "__name__").getD .none) c' ctv)) (fun b o e => Heap.get?_push_of_some _ e) (Nat.le_refl _) (pin_ok (Heap.get?_push_size _ rfl))
    have up : ∀ b o, H b = some o → upd H h'.objs.size (PinO h'.objs.size (lamOb (X.env.qual ++ "<lambda>") X.env.cells r ((X.mg "__name__").getD .none) c' ctv)) b = some o := fun b o e => by rw [upd_ne (ne_of_none e nf)]; exact e
    exact h _ c' _ ctv _ _ I2 (fun b o _ e => up b o e) (fun b o e => ⟨o, up b o e⟩) (hT.move (fun a o _ n e => ⟨up a o e, n⟩) fun a ps e => up a _ e) nf upd_same hnM (up _ _ hcode)
end
/-- what is captured: values -/
def capD (env : Env') : List Nat → Option (List D)
  | [] => some []
  | i :: is => match env[i]? with
    | some (.val d) => (capD env is).map (d :: ·)
    | _ => none
def lamF (k : Nat) (caps : List Nat) : EF where
  r := fun env P _ => ∃ ds, capD env caps = some ds ∧ P (.val (.fn k ds)) env
  m := fun hp _ ⟨ds, h1, h2⟩ => ⟨ds, h1, hp _ _ h2⟩
/-- where lambdas are made -/
structure LmX (X : Cx) (S : Sg) (tab : Nat → LRec) : Prop where
  lm : S.lm = lmOf (X.env.qual ++ "<lambda>") X.env.cells tab (fun _ _ => True)
  ex : ∃ c P : Addr, LamX.TabB X.base X.mg c P ∧ X.env.code = .ref c ∧ (P, X.env.qual ++ "<lambda>") ∈ S.tabs ∧ ∀ p ∈ S.tabs, p.1 = P → p.2 = X.env.qual ++ "<lambda>"
section
variable {X : Cx} {S : Sg} {M0 B : MS} {E : XK} {ow : OW} {env : Env'} {σ : L2.St} {H : Hp} {tab : Nat → LRec}
theorem capD_rep (s : Sim S M0 B ow env σ H) : ∀ {is : List Nat} {ds : List D}, capD env is = some ds → ∃ vs, RepL S (Md B ow) H ds vs ∧ vs.length = is.length ∧ ∀ (j : Nat) i v, is[j]? = some i → vs[j]? = some v → σ[i]? = some (some v)
  | [], ds, h => by cases h; exact ⟨[], rfl, rfl, fun j i v h => by simp at h⟩
  | i :: is, ds, h => by
    unfold capD at h
    split at h
    · rename_i d e
      obtain ⟨ds', h1, rfl⟩ := Option.map_eq_some_iff.mp h
      obtain ⟨vs, r, l, k⟩ := capD_rep s h1
      obtain ⟨v, e1, e2⟩ := s.val i d e
      refine ⟨v :: vs, ⟨v, vs, rfl, e2, r⟩, by simp [l], fun j i' v' g1 g2 => ?_⟩
      cases j with
      | zero => simp at g1 g2; subst g1 g2; exact e1
      | succ j => exact k j i' v' (by simpa using g1) (by simpa using g2)
    · cases h
theorem r_lam {k : Nat} {caps : List Nat} {params : Arguments} {body : Expr} {scope : Scope} {pos : Pos} (L : LmX X S tab) (ht : tab k = (params, body, scope) := by rfl) (hdef : defaultsOf params X.env = ([], []) := by rfl) (hl : LamX.LamS X.env.scope scope) :
    PE X (.Lambda params body scope pos) (tE S M0 E (lamF k caps)) := by
  obtain ⟨c, P, TB, hco, hm, hu⟩ := L.ex
  refine ⟨fun pins s σ H Q I h => ?_⟩
  obtain ⟨B, ow, env, sm, ds, hc, h⟩ := h
  refine lam_mk (r := (params, body, scope)) (M := Md B ow) rfl I TB hco hm hu sm.tb sm.trkA hdef (hl.has I.ok) fun f c' pm ctv H2 s' I2 kp dm tb hf hf2 hnc hc2 => ?_
  have s2 := sm.kept kp dm tb
  obtain ⟨vs, rl, _, _⟩ := capD_rep s2 hc
  refine ⟨.ref f, H2, I2, rfl, h (.ref f) H2 ow ⟨fun a o t _ e => kp a o t e, fun _ _ h => .inl h, dm⟩ trivial ⟨s2, f, pm, c', ctv, vs, rfl, fun z => ?_, hnc, ?_, ?_, ?_, rl⟩⟩
  · obtain ⟨u, hu⟩ := sm.trkA f z
    rw [hf] at hu; cases hu
  · rw [L.lm]
    show H2 f = some (PinO f (lamOb _ _ (tab k) pm c' ctv))
    rw [ht]; exact hf2
  · rw [L.lm]; exact hc2
  · rw [L.lm]; trivial
end
end En
set_option Elab.async false
set_option linter.all false
set_option maxRecDepth 100000
namespace En
open PySem PySem.Spec PyProof.Rows L2
/-! ### a lambda runs -/
abbrev thEnv (q : Str) (scope : Scope) (L f c : Addr) (cl : List (Str × Addr)) : Env := PySem.W.envX q scope L f (.ref c) (cloFrom cl scope.names [])
/-- the context of its body -/
def thCx (P : Program) (w : World) (K : PySem.W.Frag) (mg : Str → Option Value) (base : Heap) (A : Around) (N : List Str) (q : Str) (scope : Scope) (f c : Addr) (cl : List (Str × Addr)) (outer : List Env) (s : Shared) (H : Hp) (E : XK) : Cx where
  prog := P
  w := w
  K := K
  mg := mg
  base := base
  A := A.deeper (thEnv q scope s.heap.objs.size f c cl)
  N := N
  s_0 := s
  H_0 := H
  env := thEnv q scope s.heap.objs.size f c cl
  outer := outer
  stack := thEnv q scope s.heap.objs.size f c cl :: outer
  ex := []
  fn := fun _ => false
  calm := true
  pn := []
  xe := fun e s' => wpAny (model P w) (A.deeper (thEnv q scope s.heap.objs.size f c cl)) (leaving (thEnv q scope s.heap.objs.size f c cl) e) (fun _ s'' => L2.CX P w outer H s E e s'') (fun e' s'' => L2.CX P w outer H s E e' s'') s'
/-- the cells hold vs -/
def CellsHold (base : Heap) (N : List Str) (cl : List (Str × Addr)) (caps : List Nat) (vs : List V) : Prop :=
  vs.length = caps.length ∧ ∀ (j i : Nat) (y : Str) (v : V), caps[j]? = some i → N[i]? = some y → vs[j]? = some v → ∃ (c : Addr) (u : Value) (o : Obj), cl.lookup y = some c ∧ base.get? c = some o ∧ o.data = .cell (some u) ∧ RelV v u
/-- what a look at a lambda shows -/
structure ThS (N : List Str) (sc : Scope) (r : LRec) (caps : List Nat) : Prop where
  L : LamX.LamS sc r.2.2
  nl : r.2.2.names.all (fun y => match y.2 with | .local => false | .cell => false | _ => true) = true
  bind : ∀ (q : Str) (cl : List (Str × Addr)) (pm cv ctv : Value), bindArgs (PySem.W.kla_fn "<lambda>" q r.1 r.2.1 r.2.2 cl pm cv ctv) ⟨[], []⟩ = pure []
  cov : ∀ y ∈ r.2.2.names, y.2 = .free → ∃ j i : Nat, caps[j]? = some i ∧ N[i]? = some y.1
def thE (m : Nat) (caps : List Nat) (ds : List D) : Env' := (List.range m).map fun i => match (caps.zip ds).lookup i with
  | some d => .val d
  | none => .un
def thV (m : Nat) (caps : List Nat) (vs : List V) : L2.St := (List.range m).map fun i => (caps.zip vs).lookup i
theorem thE_get {m i : Nat} {caps : List Nat} {ds : List D} {sl : Slot} (h : (thE m caps ds)[i]? = some sl) : i < m ∧ sl = match (caps.zip ds).lookup i with | some d => .val d | none => .un := by
  unfold thE at h
  rw [List.getElem?_map] at h
  obtain ⟨j, h1, rfl⟩ := Option.map_eq_some_iff.mp h
  have hi := (List.getElem?_eq_some_iff.mp h1).1
  rw [List.length_range] at hi
  rw [List.getElem?_range hi] at h1
  cases h1
  exact ⟨hi, rfl⟩
theorem thV_get {m i : Nat} {caps : List Nat} {vs : List V} (h : i < m) : (thV m caps vs)[i]? = some ((caps.zip vs).lookup i) := by
  unfold thV
  rw [List.getElem?_map, List.getElem?_range h]; rfl
/-- the lambda's meaning, once its captured values are known -/
def thF (m : Nat) (caps : List Nat) (lb : EF) (ds : List D) : EF where
  r := fun _ P X => lb.r (thE m caps ds) (fun e _ => e.isOwn = false ∧ P e []) X
  m := fun hp hx h => lb.m (fun _ _ h => ⟨h.1, hp _ _ h.2⟩) hx h
section
variable {S : Sg} {M : MS} {H : Hp}
theorem rep_lookup {i : Nat} : ∀ {caps : List Nat} {ds : List D} {vs : List V} {d : D}, RepL S M H ds vs → (caps.zip ds).lookup i = some d → ∃ v, (caps.zip vs).lookup i = some v ∧ Rep S M H d v
  | [], ds, vs, d, r, h => by simp at h
  | c :: caps, [], vs, d, r, h => by simp at h
  | c :: caps, e :: ds, _, d, ⟨v, t, rfl, h1, h2⟩, h => by
    rw [List.zip_cons_cons, List.lookup_cons] at h ⊢
    cases hz : i == c with
    | true => rw [hz] at h; cases h; exact ⟨v, rfl, h1⟩
    | false => rw [hz] at h; exact rep_lookup h2 h
end
theorem lookup_at {α : Type} {i : Nat} : ∀ {caps : List Nat} {vs : List α} {v : α}, (caps.zip vs).lookup i = some v → ∃ j : Nat, caps[j]? = some i ∧ vs[j]? = some v
  | [], _, _, h => by simp at h
  | _ :: _, [], _, h => by simp at h
  | c :: caps, u :: vs, v, h => by
    rw [List.zip_cons_cons, List.lookup_cons] at h
    cases hz : i == c with
    | true => rw [hz] at h; cases h; exact ⟨0, by rw [beq_iff_eq.mp hz]; rfl, rfl⟩
    | false =>
      rw [hz] at h
      obtain ⟨j, h1, h2⟩ := lookup_at h
      exact ⟨j + 1, by simpa using h1, by simpa using h2⟩
section
variable {P : Program} {w : World} {K : PySem.W.Frag} {mg : Str → Option Value} {base : Heap} {A : Around} {N : List Str} {q : Str} {f c : Addr} {cl : List (Str × Addr)} {outer : List Env} {s1 : Shared} {HZ : Hp} {E : XK} {r : LRec} {sc : Scope} {caps : List Nat} {vs : List V} {h₁ : Heap} {tk : Nat}
theorem th_start (e0 : Env0 P w K mg base A outer s1 HZ) (hd : A.handled = none) (T : ThS N sc r caps) (hc : CellsHold base N cl caps vs) (inj : ∀ x y a, cl.lookup x = some a → cl.lookup y = some a → x = y) (hn : N.Nodup)
    (hns : h₁.Ns s1.heap.objs.size fun y => ([] : List (Str × Value)).reverse.lookup y) (kp : ∀ b o, s1.heap.get? b = some o → h₁.get? b = some o) :
    Inv (thCx P w K mg base A N q r.2.2 f c cl outer s1 HZ E) [] (thV N.length caps vs) HZ { s1 with heap := h₁, toks := tk } := by
  have at_ : ∀ y, (y, NameKind.free) ∈ r.2.2.names → ∃ (a : Addr) (o : Obj) (u : Value) (j i : Nat) (v : V), cl.lookup y = some a ∧ base.get? a = some o ∧ o.data = .cell (some u) ∧ caps[j]? = some i ∧ N[i]? = some y ∧ vs[j]? = some v ∧ RelV v u := fun y hy => by
    obtain ⟨j, i, h1, h2⟩ := T.cov _ hy rfl
    have hj : j < vs.length := by rw [hc.1]; exact (List.getElem?_eq_some_iff.mp h1).1
    obtain ⟨a, u, o, g1, g2, g3, g4⟩ := hc.2 j i y _ h1 h2 (List.getElem?_eq_getElem hj)
    exact ⟨a, o, u, j, i, _, g1, g2, g3, h1, h2, List.getElem?_eq_getElem hj, g4⟩
  have cm : ∀ {y a}, (cloFrom cl r.2.2.names []).lookup y = some a → cl.lookup y = some a ∧ (y, NameKind.free) ∈ r.2.2.names := fun {y a} e => by
    rcases cloFrom_mem (PySem.mem_of_lookup e) with hm | ⟨h1, h2⟩
    · cases hm
    · obtain ⟨a1, _, _, _, _, _, g1, _⟩ := at_ y h1
      rw [g1] at h2
      have h2 : a = a1 := h2
      rw [h2]; exact ⟨g1, h1⟩
  have look : ∀ {y}, r.2.2.names.lookup y = some .free → ∃ a, (cloFrom cl r.2.2.names []).lookup y = some a := fun {y} hl =>
    mem_lookup (cloFrom_has (cells := cl) (acc := []) (show (y, NameKind.free) ∈ r.2.2.names from PySem.mem_of_lookup hl))
  have inb : ∀ {a : Addr} {o : Obj}, base.get? a = some o → h₁.get? a = some o ∧ HZ a = none := fun {a o} e => ⟨kp _ _ (e0.bs a o e).1, (e0.bs a o e).2⟩
  have nol : ∀ y, r.2.2.names.lookup y ≠ some .local ∧ r.2.2.names.lookup y ≠ some .cell := fun y => by
    refine ⟨fun z => ?_, fun z => ?_⟩
    · have := List.all_eq_true.mp T.nl _ (PySem.mem_of_lookup z)
      cases this
    · have := List.all_eq_true.mp T.nl _ (PySem.mem_of_lookup z)
      cases this
  refine ⟨⟨e0.mod, T.L.kind, rfl, rfl, Nat.le_refl _, fun y z a e1 e2 => inj y z a (cm e1).1 (cm e2).1, fun y hy => ?_, (fun y a z => absurd (show false = true from z) Bool.false_ne_true), fun _ => hd, Around.frames_deeper e0.frames, .inr ⟨rfl, rfl⟩, (fun b z => absurd (show b ∈ ([] : List Addr) from z) (by simp)), e0.bs, e0.bsz,
      (fun b _ _ z => absurd (show b ∈ ([] : List Addr) from z) (by simp)), (fun b z => absurd (show b ∈ ([] : List Addr) from z) (by simp)), e0.funs, e0.frf⟩,
    rfl, e0.bare, Un.kept kp, ⟨_, hns, fun i y v e1 e2 e3 => ?_⟩, fun y a e => ?_, e0.hok.fresh (Nat.le_refl _), fun y a e => ?_, (fun p hp => absurd (show p ∈ ([] : List (Addr × Obj)) ++ [] from hp) (by simp)), e0.hok.kept kp, ?_⟩
  · have hy : r.2.2.names.lookup y = some .cell ∨ r.2.2.names.lookup y = some .free := hy
    rcases hy with hy | hy
    · exact absurd hy (nol y).2
    · exact look hy
  · have e3 : Vis r.2.2 y := e3
    have e1 : N[i]? = some y := e1
    rcases e3 with k | k | k
    · exact absurd k (nol y).1
    · exact absurd k (nol y).2
    · have hi : i < N.length := (List.getElem?_eq_some_iff.mp e1).1
      rw [thV_get hi] at e2
      have e2 : (caps.zip vs).lookup i = some v := Option.some.inj e2
      obtain ⟨j, h1, h2⟩ := lookup_at e2
      obtain ⟨a, u, o, g1, g2, g3, g4⟩ := hc.2 j i y v h1 e1 h2
      obtain ⟨a2, h3⟩ := look k
      have : a2 = a := by
        have := (cm h3).1
        rw [g1] at this; exact (Option.some.inj this).symm
      subst this
      exact ⟨u, g4, .inr ⟨.inr k, a2, h3, o, (inb g2).1, g3⟩⟩
  · obtain ⟨h1, h2⟩ := cm e
    obtain ⟨a1, o, u, _, _, _, g1, g2, g3, _⟩ := at_ y h2
    rw [h1] at g1; cases g1
    exact ⟨_, o, (inb g2).1, g3⟩
  · obtain ⟨h1, h2⟩ := cm e
    obtain ⟨a1, o, u, _, _, _, g1, g2, g3, _⟩ := at_ y h2
    rw [h1] at g1; cases g1
    exact (inb g2).2
  · show (thV N.length caps vs).length = N.length
    unfold thV; simp
/-- a thunk's promise -/
structure Acts (P : Program) (w : World) (S : Sg) (mg : Str → Option Value) (base : Heap) (lv : Nat) (TH : Nat → List D → EF) : Prop where
  fa : ∀ (k : Nat) (f c : Addr) (pm ct : Value) (h : Heap), h.get? f = some (S.lm.ob k pm c ct) → PySem.W.FnAt f h
  run : ∀ (k : Nat) (f c : Addr) (pm ct : Value) (ds : List D) (vs : List V) (A : Around) (outer : List Env) (s1 : Shared) (HZ : Hp) (M : MS) (Q : VK) (E : XK), Room lv A → Env0 P w S.K mg base A outer s1 HZ →
    HZ f = some (PinO f (S.lm.ob k pm c ct)) → HZ c = some (LamX.CodeO c (S.lm.q k)) → S.lm.ct k vs → RepL S M HZ ds vs → (∀ a, M a → ∃ u, HZ a = some u) → TbM S.tabs M HZ →
    (TH k ds).r [] (fun e _ => ∀ v H', Kp [] HZ H' → TbM S.tabs M H' → Dom HZ H' → Res S M [] HZ [] v H' e → Q v H') (XP S M E [] HZ) →
    codeAny (model P w) A (.call (.ref f) ⟨[], []⟩) (CR (L2.CX P w) outer P w HZ s1 Q E) s1
theorem md_un {B : MS} {n : Nat} : Md B (List.replicate n none) = B := by
  funext a; apply propext
  exact ⟨fun z => z.elim id fun z => by simp at z, .inl⟩
theorem md_nil {B : MS} : Md B [] = B := by
  funext a; apply propext
  exact ⟨fun z => z.elim id fun z => by simp at z, .inl⟩
theorem th_acts {S : Sg} {lv : Nat} {tab : Nat → LRec} {capk : Nat → List Nat} {LB : Nat → EF} (hK : S.K = K) (hS : S.lm = lmOf q cl tab (fun k vs => CellsHold base N cl (capk k) vs)) (inj : ∀ x y a, cl.lookup x = some a → cl.lookup y = some a → x = y) (hn : N.Nodup)
    (st : ∀ k, ThS N sc (tab k) (capk k) ∨ ∀ env P X, ¬ (LB k).r env P X)
    (body : ∀ (k : Nat) (A : Around) (outer : List Env) (s : Shared) (H : Hp) (E : XK) (f c : Addr) (M : MS), Bd (thCx P w K mg base A N q (tab k).2.2 f c cl outer s H E) S lv E → (∀ env P X, ¬ (LB k).r env P X) ∨ PE (thCx P w K mg base A N q (tab k).2.2 f c cl outer s H E) (tab k).2.1 (tE S M E (LB k))) :
    Acts P w S mg base (lv + 1) (fun k ds => thF N.length (capk k) (LB k) ds) := by
  refine ⟨fun k f c pm ct h e => by rw [hS] at e; exact ⟨_, _, _, _, e⟩, fun k f c pm ct ds vs A outer s1 HZ M Q E hr e0 hf hc hct rl tr tb h => ?_⟩
  have h : (LB k).r (thE N.length (capk k) ds) (fun e _ => e.isOwn = false ∧ ∀ v H', Kp [] HZ H' → TbM S.tabs M H' → Dom HZ H' → Res S M [] HZ [] v H' e → Q v H') (XP S M E [] HZ) := h
  rcases st k with T | nev
  rotate_left
  · exact absurd h (nev _ _ _)
  rw [hS] at hf hc hct
  subst hK
  obtain ⟨fd0, _, _⟩ := e0.hok f _ hf
  have hfo : s1.heap.get? f = some (lamOb q cl (tab k) pm c ct) := fd0
  obtain ⟨⟨oc, us, t, hoc, hdc, hvc⟩, _, _⟩ := e0.hok c _ hc
  refine PySem.W.kla_callFunE hr.depth hfo rfl T.L.co T.L.gen rfl ⟨c, oc, us, t, rfl, hoc, hdc, hvc⟩ ?_
  rw [T.bind]
  have lim : s1.heap.NoLimit := e0.mod.nolimit.keeps fun b o e => (e0.bs b o e).1
  refine wpAny_pure (wpAny_newFunctionEnv (fun y hy => (T.L.own y hy).2) (fun y hy => absurd hy (by simp)) (fun h₁ hns hsb => ⟨lim.fresh _ hsb, ?_⟩) T.L.kind)
  show codeAny _ _ (.expr (tab k).2.1 (thEnv q (tab k).2.2 s1.heap.objs.size f c cl)) _ _
  have kp : ∀ b o, s1.heap.get? b = some o → h₁.get? b = some o := fun b o e => hsb.extBut b o (Nat.ne_of_lt (Heap.lt_size e)) (Heap.get?_push_of_some _ e)
  have J : Inv (thCx P w S.K mg base A N q (tab k).2.2 f c cl outer s1 HZ E) [] (thV N.length (capk k) vs) HZ { s1 with heap := h₁, toks := s1.toks + ([] : List (Str × Value)).length } :=
    th_start e0 hr.hd T hct inj hn hns kp
  have z : Bd (thCx P w S.K mg base A N q (tab k).2.2 f c cl outer s1 HZ E) S lv E := ⟨rfl, rfl, hn, hr.deeper _, L2.takes_of rfl rfl rfl rfl⟩
  rcases body k A outer s1 HZ E f c M z with nev | hb
  · exact absurd h (nev _ _ _)
  have sim : Sim S M M (List.replicate N.length none) (thE N.length (capk k) ds) (thV N.length (capk k) vs) HZ := {
    l1 := by unfold thE thV; simp
    l2 := by unfold thV; simp
    val := fun i d e => by
      rw [md_un]
      obtain ⟨hi, e2⟩ := thE_get e
      split at e2
      · rename_i d' hd'
        cases e2
        obtain ⟨v, g1, g2⟩ := rep_lookup rl hd'
        exact ⟨v, by rw [thV_get hi, g1], g2⟩
      · cases e2
    own := fun i o e => by
      obtain ⟨_, e2⟩ := thE_get e
      split at e2 <;> cases e2
    io := fun i o e => by
      obtain ⟨_, e2⟩ := thE_get e
      split at e2 <;> cases e2
    live := fun i a e => by
      rw [List.getElem?_replicate] at e
      split at e <;> cases e
    inj := fun i j a e => by
      rw [List.getElem?_replicate] at e
      split at e <;> cases e
    dis := fun a _ z => by simp at z
    trk := tr
    m0 := fun a z => .inl z
    tb := by rw [md_un]; exact tb }
  refine PySem.W.kla_codeExpr (wpAny_mono (hb.run [] _ _ HZ Q J ⟨M, _, _, sim, (LB k).m (fun e env' g v H' ow' st nw ok => ?_) (fun cc fs g dx H' k dmx kt r => g dx H' (fun a o t _ e => k a o t (by simp) e) dmx kt r) h⟩) (fun v s' hq => ?_) fun e s' hq => hq)
  · obtain ⟨g1, g2⟩ := g
    have kp' : Kp [] HZ H' := fun a o t _ e => st.kp a o t (by simp) e
    cases e with
    | own i => cases g1
    | val d =>
      have s' : Sim S M M ow' env' _ H' := ok.1
      refine g2 v H' kp' (s'.tb.anti s'.m0) st.gr ⟨?_, fun i a z => by simp at z⟩
      rw [md_nil]; exact ok.2.anti s'.m0
    | new o =>
      obtain ⟨a, rfl, na, n0, s2, r⟩ := ok
      have sub : ∀ b, Md (plus M a) [] b → Md (plus M a) ow' b := fun b z => by
        rw [md_nil] at z
        exact .inl z
      refine g2 _ H' kp' (s2.tb.anti fun b z => .inl (.inl z)) st.gr ⟨a, rfl, nw a rfl, r.anti sub, fun i a z => by simp at z⟩
  · obtain ⟨w', H', J', rv, q'⟩ := hq
    exact ⟨w', H', J'.os, J'.bare, J'.base, J'.hok, rv, q'⟩
end
end En
set_option Elab.async false
set_option linter.all false
set_option maxRecDepth 100000
namespace En
open PySem PySem.Spec PyProof.Rows L2
/-! ### a(), a standing for a lambda -/
def actF (TH : Nat → List D → EF) (i : Nat) : EF where
  r := fun env P X => ∃ j ds, env[i]? = some (.val (.fn j ds)) ∧ (TH j ds).r [] (fun e _ => e.isOwn = false ∧ P e env) X
  m := fun hp hx ⟨j, ds, h1, h2⟩ => ⟨j, ds, h1, (TH j ds).m (fun _ _ h => ⟨h.1, hp _ _ h.2⟩) hx h2⟩
section
variable {X : Cx} {S : Sg} {M0 : MS} {E : XK} {k lv i : Nat} {a : Str} {p1 p2 : Pos} {TH : Nat → List D → EF}
/-- what the call of a thunk gives, from the state behind its name -/
theorem act_run0 {pins : List (Addr × Obj)} {s : Shared} {σ : L2.St} {H : Hp} {Q : VK} {B : MS} {ow : OW} {env : Env'} {j : Nat} {ds : List D} {f : Addr} (hA : Acts X.prog X.w S X.mg X.base lv TH) (hq : X.K = S.K) (hr : Room lv X.A) (hx : ∀ (e : Value) (s' : Shared), L2.CX X.prog X.w X.stack H s E e s' → X.xe e s') (I : Inv X pins σ H s)
    (sm : Sim S M0 B ow env σ H) (rp : Rep S (Md B ow) H (.fn j ds) (.ref f))
    (h : (TH j ds).r [] (fun e _ => e.isOwn = false ∧ ∀ v H' ow', Stp ow H ow' H' → Nw H e v → EVOk S M0 B ow' env σ H' e v → Q v H') (XP S (Md B ow) E [] H)) :
    PySem.W.FnAt f s.heap ∧ wpAny (model X.prog X.w) X.A (call (.ref f) []) (EP X pins σ Q) X.xe s := by
  obtain ⟨f', pm, c, ct, vs, e, nf, nc, hf, hc, hct, rl⟩ := rp
  cases e
  have hfo : s.heap.get? f = some (S.lm.ob j pm c ct) := (I.hok f _ hf).1
  refine ⟨hA.fa j f c pm ct _ hfo, ?_⟩
  have e0 := I.env0
  rw [hq] at e0
  have rc := hA.run j f c pm ct ds vs X.A X.stack s H (Md B ow) Q E hr e0 hf hc hct rl sm.trkA sm.tb ((TH j ds).m (fun e _ g v H' kp tb dm res => ?_) (fun cc fs g dx H' kp dmx tb r => ?_) h)
  · refine wpAny_call (codeAny_mono rc fun r s' hq' => ?_)
    cases r with
    | error er => exact hx er s' hq'
    | ok fl =>
      cases fl with
      | ret u => exact I.after hq'
      | next => exact False.elim hq'
      | brk => exact False.elim hq'
      | cont => exact False.elim hq'
  · obtain ⟨g1, g2⟩ := g
    have gr : ∀ a o, Nt o → H a = some o → H' a = some o := fun a o t e => kp a o t (by simp) e
    have st : Stp ow H ow H' := ⟨fun a o t _ e => gr a o t e, fun _ _ h => .inl h, dm⟩
    have s2 := sm.kept gr dm tb
    cases e with
    | own i => cases g1
    | val d =>
      obtain ⟨r1, _⟩ := res
      rw [md_nil] at r1
      exact g2 v H' ow st trivial ⟨s2, r1⟩
    | new o =>
      obtain ⟨a, rfl, ha, r1, _⟩ := res
      rw [md_nil] at r1
      have na : ¬ Md B ow a := fun z => by
        obtain ⟨u, hu⟩ := sm.trkA a z
        rw [ha] at hu; cases hu
      have sub : ∀ b, Md (plus B a) ow b → plus (Md B ow) a b := fun b z => by
        rcases z with (z | z) | z
        · exact .inl (.inl z)
        · exact .inr z
        · exact .inl (.inr z)
      have s3 : Sim S M0 (plus B a) ow env σ H' := {
        l1 := s2.l1
        l2 := s2.l2
        val := fun i d e => by
          obtain ⟨v, h1, h2⟩ := sm.val i d e
          refine ⟨v, h1, Rep.move (fun b o t n e => ⟨gr b o t e, fun z => ?_⟩) _ _ h2⟩
          rcases sub b z with z | z
          · exact n z
          · rw [z, ha] at e; cases e
        own := fun i o e => by
          obtain ⟨b, h1, h2, h3, h4⟩ := sm.own i o e
          refine ⟨b, h1, h2, h3.move (gr b) fun b o t n e => ⟨gr b o t e, fun z => ?_⟩, h4⟩
          rcases sub b z with z | z
          · exact n z
          · rw [z, ha] at e; cases e
        io := fun i o e => by
          obtain ⟨b, h1, h2, h3⟩ := sm.io i o e
          refine ⟨b, h1, h2, h3.move (gr b) fun b o t n e => ⟨gr b o t e, fun z => ?_⟩⟩
          rcases sub b z with z | z
          · exact n z
          · rw [z, ha] at e; cases e
        live := s2.live
        inj := s2.inj
        dis := fun b z => by
          rcases z with z | z
          · exact s2.dis b z
          · rw [z]; exact fun z => na (.inr z)
        trk := fun b z => by
          rcases z with z | z
          · exact s2.trk b z
          · obtain ⟨u, hu, _⟩ := ob_is r1; rw [z]; exact ⟨u, hu⟩
        m0 := fun b z => (s2.m0 b z).imp .inl id
        tb := by
          obtain ⟨u, hu, _, hcu⟩ := ob_is r1
          exact tb.but hu hcu sub }
      exact g2 _ H' ow st (.at ha) ⟨a, rfl, na, fun z => na (sm.m0 a z), s3, r1.anti sub⟩
  · exact g dx H' kp dmx tb r
theorem act_run {pins : List (Addr × Obj)} {s : Shared} {σ : L2.St} {H : Hp} {Q : VK} {B : MS} {ow : OW} {env : Env'} {j : Nat} {ds : List D} {f : Addr} (hA : Acts X.prog X.w S X.mg X.base lv TH) (hq : X.K = S.K) (hr : Room lv X.A) (hx : ∀ (e : Value) (s' : Shared), L2.CX X.prog X.w X.stack H s E e s' → X.xe e s') (I : Inv X pins σ H s)
    (sm : Sim S M0 B ow env σ H) (rp : Rep S (Md B ow) H (.fn j ds) (.ref f))
    (h : (TH j ds).r [] (fun e _ => e.isOwn = false ∧ ∀ v H' ow', Stp ow H ow' H' → Nw H e v → EVOk S M0 B ow' env σ H' e v → Q v H') (XP S M0 E ow H)) :
    PySem.W.FnAt f s.heap ∧ wpAny (model X.prog X.w) X.A (call (.ref f) []) (EP X pins σ Q) X.xe s :=
  act_run0 hA hq hr hx I sm rp ((TH j ds).m (fun _ _ h => h) (fun c fs g dx H' kp dmx tb r => g dx H' (fun a o t _ e => kp a o t (by simp) e) dmx (tb.anti fun a z => sm.m0 a z) (by
    obtain ⟨l, h1, hn, h2, h3⟩ := r
    refine ⟨l, h1, fun z => hn (sm.m0 _ z), h2, fun i f d e1 e2 => ?_⟩
    obtain ⟨v, k1, k2⟩ := h3 i f d e1 e2
    exact ⟨v, k1, k2.anti fun a z => sm.m0 a z⟩)) h)
theorem r_act (z : Bd X S k E) (hA : Acts X.prog X.w S X.mg X.base lv TH) (hj : lv ≤ k) (hN : X.N[i]? = some a := by rfl) (hv : Vis X.env.scope a := by first | exact Or.inl rfl | exact Or.inr (Or.inl rfl) | exact Or.inr (Or.inr rfl)) (hd : (a == ("__debug__" : Str)) = false := by decide) (hcd : (a == ("__classdict__" : Str)) = false := by decide) :
    PE X (.Call (.Name a p1) [] [] p2) (tE S M0 E (actF TH i)) := by
  refine ⟨fun pins s σ H Q I h => ?_⟩
  obtain ⟨B, ow, env, sm, j, ds, he, h⟩ := h
  obtain ⟨v, hv1, rp⟩ := sm.val i _ he
  obtain ⟨f, rfl⟩ : ∃ f, v = .ref f := by obtain ⟨f, _, _, _, _, e, _⟩ := id rp; exact ⟨f, e⟩
  refine wpAny_Call_Name_kw (thn ((pe_var (pos := p1) (i := i) hN hv hd hcd).run pins s σ H (fun v H1 => v = .ref f ∧ H1 = H) I ⟨.ref f, hv1, rfl, rfl⟩) fun u s1 ⟨v, H1, I1, r1, q1⟩ => ?_)
  obtain ⟨ev, eH⟩ := q1
  subst ev
  rw [eH] at I1
  obtain rfl : u = Value.ref f := r1
  obtain ⟨g1, g2⟩ := act_run (Q := Q) hA z.q (z.r.mono hj) (fun e s' hq => z.hx pins σ H s1 e s' I1 hq) I1 sm rp h
  exact PySem.W.callWith_F0 g1 g2
end
end En
set_option Elab.async false
set_option linter.all false
set_option maxRecDepth 100000
namespace En
open PySem PySem.Spec PyProof.Rows L2
/-! ### a call that hands lambdas on -/
mutual
/-- all lambdas in it are so -/
def D.FO (φ : Nat → List D → Prop) : D → Prop
  | .tup ds => D.FOL φ ds
  | .lst ds => D.FOL φ ds
  | .dK _ ds => D.FOL φ ds
  | .dT _ ds => D.FOL φ ds
  | .ins _ ds => D.FOL φ ds
  | .fn k ds => φ k ds ∧ D.plL ds = true
  | .exc _ _ => False
  | .non => True
  | .bl _ => True
  | .int _ => True
  | .str _ => True
  | .nms _ => True
def D.FOL (φ : Nat → List D → Prop) : List D → Prop
  | [] => True
  | d :: ds => D.FO φ d ∧ D.FOL φ ds
end
section
variable {S S' : Sg} {M : MS} {H : Hp} {φ : Nat → List D → Prop}
mutual
/-- read with the cells' contents -/
theorem Rep.fo (l : Like S S') (ho : S.lm.ob = S'.lm.ob) (hq : S.lm.q = S'.lm.q) (hc : ∀ k ds, φ k ds → ∃ vs, S'.lm.ct k vs ∧ RepL S M H ds vs) : ∀ (d : D) (v : V), D.FO φ d → Rep S M H d v → Rep S' M H d v
  | .non, v, _, h => h
  | .bl _, v, _, h => h
  | .int _, v, _, h => h
  | .str _, v, _, h => h
  | .tup ds, v, p, h => by
    obtain ⟨a, vs, e, n, r, m⟩ := h
    exact ⟨a, vs, e, n, r, RepL.fo l ho hq hc ds vs (by simpa [D.FO] using p) m⟩
  | .lst ds, v, p, h => by
    obtain ⟨a, vs, e, q, m⟩ := h
    exact ⟨a, vs, e, by rw [← l.k]; exact q, RepL.fo l ho hq hc ds vs (by simpa [D.FO] using p) m⟩
  | .dK ks ds, v, p, h => by
    obtain ⟨a, vs, e, n, r, z, m⟩ := h
    exact ⟨a, vs, e, n, r, z, RepL.fo l ho hq hc ds vs (by simpa [D.FO] using p) m⟩
  | .dT ks ds, v, p, h => by
    obtain ⟨a, vs, e, n, r, z, m⟩ := h
    exact ⟨a, vs, e, n, r, z, RepL.fo l ho hq hc ds vs (by simpa [D.FO] using p) m⟩
  | .ins c ds, v, p, h => by
    obtain ⟨a, dx, vs, e, n, r, z, m⟩ := h
    exact ⟨a, dx, vs, e, n, by rw [← l.c, ← l.f]; exact r, by rw [← l.f]; exact z, RepL.fo l ho hq hc ds vs (by simpa [D.FO] using p) m⟩
  | .nms xs, v, _, h => h
  | .fn k ds, v, p, h => by
    obtain ⟨f, pm, c, ct, vs, e, n, n2, r, r2, z, m⟩ := h
    have p : φ k ds ∧ D.plL ds = true := by simpa [D.FO] using p
    obtain ⟨vs', h1, h2⟩ := hc k ds p.1
    exact ⟨f, pm, c, ct, vs', e, n, n2, by rw [← ho]; exact r, by rw [← hq]; exact r2, h1, RepL.sw l ds vs' p.2 h2⟩
  | .exc _ _, v, p, h => by simp [D.FO] at p
theorem RepL.fo (l : Like S S') (ho : S.lm.ob = S'.lm.ob) (hq : S.lm.q = S'.lm.q) (hc : ∀ k ds, φ k ds → ∃ vs, S'.lm.ct k vs ∧ RepL S M H ds vs) : ∀ (ds : List D) (vs : List V), D.FOL φ ds → RepL S M H ds vs → RepL S' M H ds vs
  | [], vs, _, h => h
  | d :: ds, vs, p, h => by
    obtain ⟨v, r, e, h1, h2⟩ := h
    have p : D.FO φ d ∧ D.FOL φ ds := by simpa [D.FOL] using p
    exact ⟨v, r, e, Rep.fo l ho hq hc d v p.1 h1, RepL.fo l ho hq hc ds r p.2 h2⟩
end
end
def callLF (F : Nat → List Str) (FS : EF) (capk : Nat → List Nat) (f : EF) : EF where
  r := fun env P X => f.r env (fun e env1 => ∃ d, e.keep F = some d ∧ D.FO (fun k ds => capD env1 (capk k) = some ds) d ∧ runF FS [.val d] (fun e2 _ => ∃ d2, e2 = .val d2 ∧ d2.pl = true ∧ P (.val d2) env1) (fun c fs => D.plL fs = true ∧ X c fs)) X
  m := fun hp hx h => f.m (fun e env1 ⟨d, h1, h2, h3⟩ => ⟨d, h1, h2, FS.m (fun e2 _ ⟨d2, g1, g2, g3⟩ => ⟨d2, g1, g2, hp _ _ g3⟩) (fun _ _ h => ⟨h.1, hx _ _ h.2⟩) h3⟩) hx h
section
variable {X : Cx} {pins : List (Addr × Obj)} {σ : L2.St} {H : Hp} {s : Shared}
/-- the base and the cells -/
theorem base_with (I : Inv X pins σ H s) (hfn : ∀ y, X.fn y = true) : ∃ base' : Heap, Env0 X.prog X.w X.K X.mg base' X.A X.stack s H ∧ ∀ y a o, X.env.cells.lookup y = some a → s.heap.get? a = some o → base'.get? a = some o := by
  let p : Addr → Prop := fun a => X.base.get? a = none ∧ ∀ y, X.env.cells.lookup y ≠ some a
  let L := (List.range s.heap.objs.size).filter fun a => @decide (p a) (Classical.propDecidable _)
  have memL : ∀ a o, s.heap.get? a = some o → (a ∈ L ↔ p a) := fun a o e => by
    constructor
    · intro h
      exact @of_decide_eq_true _ (Classical.propDecidable _) (List.mem_filter.mp h).2
    · intro h
      exact List.mem_filter.mpr ⟨List.mem_range.mpr (Heap.lt_size e), @decide_eq_true _ (Classical.propDecidable _) h⟩
  have kb : ∀ b o, X.base.get? b = some o → (PySem.W.hideAll s.heap L).get? b = some o := fun b o e => by
    have e2 := (I.bs b o e).1
    refine PySem.W.hideAll_get _ e2 fun h => ?_
    have := ((memL b o e2).mp h).1
    rw [e] at this; cases this
  have md := I.ok.mod
  have mod' : Mod X.K X.mg (PySem.W.hideAll s.heap L) := by
    obtain ⟨mb, h1, h2⟩ := md.blt
    exact ⟨md.kin.keeps kb, md.glob.keeps kb, ⟨mb, h1.keeps kb, h2⟩, md.nolimit.keeps kb⟩
  have fr : ∀ {L0 : Addr}, L0 ∈ frs X.stack → X.base.get? L0 = none → (∃ o, s.heap.get? L0 = some o) → (PySem.W.hideAll s.heap L).get? L0 = none := fun {L0} hm hb ⟨o, ho⟩ => by
    refine PySem.W.hideAll_none _ ((memL L0 o ho).mpr ⟨hb, fun y z => ?_⟩)
    rcases List.mem_cons.mp (I.stkSub L0 hm) with e | hfs
    · exact I.cne y L0 z e
    · obtain ⟨_, o', ho', _⟩ := I.ok.funs.mem hfs
      have h1 := Heap.lt_size ho'
      have h2 := I.ok.cab y L0 (hfn y) z
      exact absurd (Nat.lt_of_lt_of_le h1 h2) (Nat.lt_irrefl _)
  have ff : ∀ l : List Env, (∀ b ∈ frs l, b ∈ frs X.stack) → s.heap.FunFrames X.base l → s.heap.FunFrames (PySem.W.hideAll s.heap L) l := by
    intro l
    induction l with
    | nil => intro _ _; trivial
    | cons env r ih =>
      intro hs hl
      obtain ⟨hk, ⟨L0, o, hf, hn, ho, hd⟩, hr⟩ := hl
      have hL : L0 ∈ frs X.stack := hs L0 (by unfold frs; rw [List.filterMap_cons, hf]; exact List.mem_cons_self)
      exact ⟨hk, ⟨L0, o, hf, fr hL hn ⟨o, ho⟩, ho, hd⟩, ih (fun b hb => hs b (by unfold frs; rw [List.filterMap_cons, hf]; exact List.mem_cons_of_mem _ hb)) hr⟩
  refine ⟨PySem.W.hideAll s.heap L, ⟨I.ok.frames, mod', fun b o e => ?_, Nat.le_of_eq (PySem.W.hideAll_size _ _), ff _ (fun _ h => h) I.stack, I.stkFree, I.hok, I.bare⟩, fun y a o hy ho => ?_⟩
  · have e1 := PySem.W.of_hideAll L e
    refine ⟨e1, ?_⟩
    by_cases hp : p b
    · rw [PySem.W.hideAll_none L ((memL b o e1).mpr hp)] at e; cases e
    · have hp : X.base.get? b = none → ∃ y, X.env.cells.lookup y = some b := fun h => by
        apply Classical.byContradiction
        intro z
        exact hp ⟨h, fun y hy => z ⟨y, hy⟩⟩
      cases hb : X.base.get? b with
      | some o' => exact (I.bs b o' hb).2
      | none =>
        obtain ⟨y, hy⟩ := hp hb
        exact I.freeC y b hy
  · refine PySem.W.hideAll_get _ ho fun h => ?_
    exact ((memL a o ho).mp h).2 y hy
end
/-- the lambdas of a body: what a look shows, and their bodies' derivations -/
structure LmY (X : Cx) (S : Sg) (tab : Nat → LRec) (capk : Nat → List Nat) (LB : Nat → EF) (lv : Nat) : Prop where
  L : LmX X S tab
  hfn : ∀ y, X.fn y = true
  st : ∀ k, ThS X.N X.env.scope (tab k) (capk k) ∨ ∀ env P X, ¬ (LB k).r env P X
  cc : ∀ k i, i ∈ capk k → ∃ y, X.N[i]? = some y ∧ X.env.scope.names.lookup y = some .cell
  body : ∀ (base' : Heap) (S' : Sg), Like S S' → S'.cau = none → ∀ (k : Nat) (A : Around) (outer : List Env) (s : Shared) (H : Hp) (E : XK) (f c : Addr) (M : MS), Bd (thCx X.prog X.w S.K X.mg base' A X.N (X.env.qual ++ "<lambda>") (tab k).2.2 f c X.env.cells outer s H E) S' lv E →
    (∀ env P X, ¬ (LB k).r env P X) ∨ PE (thCx X.prog X.w S.K X.mg base' A X.N (X.env.qual ++ "<lambda>") (tab k).2.2 f c X.env.cells outer s H E) (tab k).2.1 (tE S' M E (LB k))
section
variable {X : Cx} {S : Sg} {M0 : MS} {E : XK} {k j lv : Nat} {x : Str} {FS : EF} {f : EF} {p pos : Pos} {e : Expr} {tab : Nat → LRec} {capk : Nat → List Nat} {LB : Nat → EF} {g : Addr}
theorem r_callL (z : Bd X S k E) (Y : LmY X S tab capk LB lv) (hF : ∀ (S' : Sg) (base' : Heap), Like S S' → S'.cau = none → Acts X.prog X.w S' X.mg base' (lv + 1) (fun k ds => thF X.N.length (capk k) (LB k) ds) → FnR X.prog X.w S' X.mg base' X.A x FS 1) (he : PE X e (tE S M0 E f))
    (hm : X.mg x = some (.ref g)) (hk : PySem.W.keepIn X.K (.ref g) = true) (hg : Gl X x := by rfl) (hdb : (x == ("__debug__" : Str)) = false := by decide) (hst : starEach [e] X.env = (false, eval e X.env) :: starEach [] X.env := by rfl) (hpl : (backTo pos (starEach [] X.env)).any (·.1) = false := by rfl) :
    PE X (.Call (.Name x p) [e] [] pos) (tE S M0 E (callLF S.flds FS capk f)) := by
  refine ⟨fun pins s σ H Q I h => ?_⟩
  obtain ⟨B, ow, env, sm, h⟩ := h
  refine wpAny_Call_Name_kw (ld_glob I hg hm ?_ hdb)
  refine PySem.W.callWith_K (h₀ := X.base) I.ok.mod.kin hk (thn ((pa_cons he pa_nil hst).run pos pins s σ H (fun vs H1 => ∃ v ow1 env1 d, vs = [v] ∧ Stp ow H ow1 H1 ∧ Sim S M0 B ow1 env1 σ H1 ∧ Rep S (Md B ow1) H1 d v ∧ D.FO (fun k ds => capD env1 (capk k) = some ds) d ∧
      runF FS [.val d] (fun e2 _ => ∃ d2, e2 = .val d2 ∧ d2.pl = true ∧ ∀ v H' ow', Stp ow H ow' H' → Nw H (.val d2) v → EVOk S M0 B ow' env1 σ H' (.val d2) v → Q v H') (fun c fs => D.plL fs = true ∧ XP S M0 E ow H c fs)) I ?_) fun us s1 hq => ?_) hst hpl
  · refine ⟨B, ow, env, sm, f.m (fun e1 env1 h1 v H1 ow1 st1 nw1 ok1 => ?_) (fun _ _ h => h) h⟩
    obtain ⟨d, q1, q2, q3⟩ := h1
    obtain ⟨s1, r1⟩ := ok1.keep q1
    exact ⟨v, ow1, env1, d, rfl, st1, s1, r1, q2, q3⟩
  obtain ⟨vs, H1, I1, r1, v, ow1, env1, d, rfl, st1, sm1, rp, hfo, hrun⟩ := hq
  refine ⟨I1.kIn, ?_⟩
  show wpAny _ _ (call (.ref g) us) _ _ _
  obtain ⟨base', e0, hcell⟩ := base_with I1 Y.hfn
  let S' : Sg := { K := S.K, cls := S.cls, flds := S.flds, lm := lmOf (X.env.qual ++ "<lambda>") X.env.cells tab (fun k vs => CellsHold base' X.N X.env.cells (capk k) vs), cau := none, tabs := S.tabs }
  have lk : Like S S' := ⟨rfl, rfl, rfl, rfl⟩
  have hA : Acts X.prog X.w S' X.mg base' (lv + 1) (fun k ds => thF X.N.length (capk k) (LB k) ds) := th_acts (K := S.K) (sc := X.env.scope) rfl rfl (fun x y a h1 h2 => I1.ok.inj x y a h1 h2) z.n Y.st fun k A outer s H E f c M zz => Y.body base' S' lk rfl k A outer s H E f c M zz
  obtain ⟨g', fd, ps, h1, h2, h3, h4⟩ := (hF S' base' lk rfl hA).ex
  rw [hm] at h2
  cases h2
  have rS : Rep S' (Md B ow1) H1 d v := Rep.fo lk (by rw [Y.L.lm]; rfl) (by rw [Y.L.lm]; rfl) (fun k' ds hc => by
    obtain ⟨vs, rl, hl, hat⟩ := capD_rep sm1 hc
    refine ⟨vs, ⟨hl, fun j i y w e1 e2 e3 => ?_⟩, rl⟩
    have hsl := hat j i w e1 e3
    obtain ⟨y', hy1, hy2⟩ := Y.cc k' i (List.mem_of_getElem? e1)
    rw [e2] at hy1; cases hy1
    obtain ⟨m, hn, hlk⟩ := I1.loc
    obtain ⟨u, ru, lo⟩ := hlk i y w e2 hsl (.inr (.inl hy2))
    rcases lo with ⟨kd, _⟩ | ⟨_, c, hc1, o, ho, hd⟩
    · have kd : X.env.scope.names.lookup y = some .local := kd
      rw [hy2] at kd; cases kd
    · exact ⟨c, u, o, hc1, hcell y c o hc1 ho, hd, ru⟩) d v hfo rp
  have e1 : Md (Md B ow1) [none] = Md B ow1 := by
    funext a; apply propext
    exact ⟨fun z => z.elim id fun z => by simp at z, .inl⟩
  have sp : spD S' FS 1 [v] H1 Q E := by
    refine ⟨Md B ow1, [none], [.val d], rfl, {
      l1 := rfl
      l2 := rfl
      val := fun i d' h => by
        rw [e1]
        match i, h with
        | 0, h => cases h; exact ⟨_, rfl, rS⟩
        | i + 1, h => cases h
      own := fun i o h => by
        match i, h with
        | 0, h => cases h
        | i + 1, h => cases h
      io := fun i o h => by
        match i, h with
        | 0, h => cases h
        | i + 1, h => cases h
      live := fun i o h => by
        match i, h with
        | 0, h => cases h
        | i + 1, h => cases h
      inj := fun i j o h _ => by
        match i, h with
        | 0, h => cases h
        | i + 1, h => cases h
      dis := fun a _ z => by simp at z
      trk := fun a h => sm1.trkA a h
      m0 := fun a h => h
      tb := by rw [e1]; exact sm1.tb }, one_noown, FS.m (fun e2 outs gg v' H' kp tb dm res => ?_) (fun cc fs gg dx H' kp dmx tb r => ?_) hrun⟩
    · obtain ⟨d2, rfl, hpl2, gg⟩ := gg
      obtain ⟨r2, _⟩ := res
      rw [e1] at r2
      have gr : ∀ a o, Nt o → H1 a = some o → H' a = some o := fun a o t e => kp a o t (by simp) e
      have st : Stp ow1 H1 ow1 H' := ⟨fun a o t _ e => gr a o t e, fun _ _ h => .inl h, dm⟩
      have tb2 : TbM S.tabs (Md B ow1) H' := by rw [← e1]; exact tb.anti fun a z => by rw [e1] at *; exact z
      exact gg v' H' ow1 (st1.trans st) trivial ⟨sm1.kept gr dm tb2, Rep.sw lk.symm d2 v' hpl2 r2⟩
    · refine XP.stp st1 gg.2 dx H' (fun a o t _ e => kp a o t (by simp) e) dmx (tb.anti fun a z => .inl (sm1.m0 a z)) ?_
      obtain ⟨l, h1, hn, h2, h3⟩ := r.sw lk.symm gg.1
      refine ⟨l, h1, fun z => hn (.inl (sm1.m0 _ z)), h2, fun i f d e1 e2 => ?_⟩
      obtain ⟨v, k1, k2⟩ := h3 i f d e1 e2
      exact ⟨v, k1, k2.anti fun a z => .inl (sm1.m0 a z)⟩
  have hz := z.q
  rw [hz] at e0
  have hlen : us.length = ps.length := by
    have q1 := h1.1 _ _ _ _ sp
    have q2 := r1.length
    omega
  have hbind : BindsTo s1 fd ⟨us, []⟩ (ps.zip us) := by
    have kin := I1.kIn
    rw [hz] at kin
    have := h4 s1 us kin (by simpa using hlen)
    rwa [List.append_nil] at this
  have rc := h1.2 X.stack s1 H1 ⟨us, []⟩ us [v] Q E e0 hbind r1 sp
  refine wpAny_call (codeAny_mono rc fun r s2 hq => ?_)
  cases r with
  | error er => exact z.hx pins σ H1 s1 er s2 I1 hq
  | ok fl =>
    cases fl with
    | ret u => exact I1.after hq
    | next => exact False.elim hq
    | brk => exact False.elim hq
    | cont => exact False.elim hq
end
end En
set_option Elab.async false
set_option linter.all false
set_option maxRecDepth 100000
namespace En
open PySem PySem.Spec PyProof.Rows L2
/-! ### a caught exception -/
mutual
/-- no caught exception in it -/
def D.ne : D → Bool
  | .non => true
  | .bl _ => true
  | .int _ => true
  | .str _ => true
  | .nms _ => true
  | .tup ds => D.neL ds
  | .lst ds => D.neL ds
  | .dK _ ds => D.neL ds
  | .dT _ ds => D.neL ds
  | .ins _ ds => D.neL ds
  | .fn _ ds => D.neL ds
  | .exc _ _ => false
def D.neL : List D → Bool
  | [] => true
  | d :: ds => D.ne d && D.neL ds
end
def Ob.ne : Ob → Bool
  | .lst ds => D.neL ds
  | .dK _ ds => D.neL ds
  | .dT _ ds => D.neL ds
  | .ins _ fs => D.neL (fs.map (·.2))
def Slot.ne : Slot → Bool
  | .un => true
  | .val d => d.ne
  | .own o => o.ne
  | .io o => o.ne
abbrev Ne' (env : Env') : Prop := env.all Slot.ne = true
theorem Ne'.get {env : Env'} {i : Nat} {s : Slot} (h : Ne' env) (e : env[i]? = some s) : s.ne = true := List.all_eq_true.mp h s (List.mem_of_getElem? e)
structure LikeC (S S' : Sg) : Prop where
  l : Like S S'
  m : S.lm = S'.lm
theorem LikeC.symm {S S' : Sg} (l : LikeC S S') : LikeC S' S := ⟨l.l.symm, l.m.symm⟩
mutual
theorem ne_of_pl : ∀ d : D, d.pl = true → d.ne = true
  | .non, _ => rfl
  | .bl _, _ => rfl
  | .int _, _ => rfl
  | .str _, _ => rfl
  | .nms _, _ => rfl
  | .tup ds, h => neL_of_pl ds h
  | .lst ds, h => neL_of_pl ds h
  | .dK _ ds, h => neL_of_pl ds h
  | .dT _ ds, h => neL_of_pl ds h
  | .ins _ ds, h => neL_of_pl ds h
  | .fn _ _, h => by simp [D.pl] at h
  | .exc _ _, h => by simp [D.pl] at h
theorem neL_of_pl : ∀ ds : List D, D.plL ds = true → D.neL ds = true
  | [], _ => rfl
  | d :: ds, h => by
    have h : d.pl = true ∧ D.plL ds = true := by simpa [D.plL] using h
    show (D.ne d && D.neL ds) = true
    rw [ne_of_pl d h.1, neL_of_pl ds h.2]; rfl
end
section
variable {S S' : Sg} {M M0 B : MS} {H H' : Hp} {ow : OW} {env : Env'} {σ : L2.St} {E : XK}
mutual
theorem Rep.cs (l : LikeC S S') : ∀ (d : D) (v : V), d.ne = true → Rep S M H d v → Rep S' M H d v
  | .non, v, _, h => h
  | .bl _, v, _, h => h
  | .int _, v, _, h => h
  | .str _, v, _, h => h
  | .tup ds, v, p, h => by
    obtain ⟨a, vs, e, n, r, m⟩ := h
    exact ⟨a, vs, e, n, r, RepL.cs l ds vs (by simpa [D.ne] using p) m⟩
  | .lst ds, v, p, h => by
    obtain ⟨a, vs, e, q, m⟩ := h
    exact ⟨a, vs, e, by rw [← l.l.k]; exact q, RepL.cs l ds vs (by simpa [D.ne] using p) m⟩
  | .dK ks ds, v, p, h => by
    obtain ⟨a, vs, e, n, r, z, m⟩ := h
    exact ⟨a, vs, e, n, r, z, RepL.cs l ds vs (by simpa [D.ne] using p) m⟩
  | .dT ks ds, v, p, h => by
    obtain ⟨a, vs, e, n, r, z, m⟩ := h
    exact ⟨a, vs, e, n, r, z, RepL.cs l ds vs (by simpa [D.ne] using p) m⟩
  | .ins c ds, v, p, h => by
    obtain ⟨a, dx, vs, e, n, r, z, m⟩ := h
    exact ⟨a, dx, vs, e, n, by rw [← l.l.c, ← l.l.f]; exact r, by rw [← l.l.f]; exact z, RepL.cs l ds vs (by simpa [D.ne] using p) m⟩
  | .nms xs, v, _, h => h
  | .fn k ds, v, p, h => by
    obtain ⟨f, pm, c, ct, vs, e, n, n2, r, r2, z, m⟩ := h
    exact ⟨f, pm, c, ct, vs, e, n, n2, by rw [← l.m]; exact r, by rw [← l.m]; exact r2, by rw [← l.m]; exact z, RepL.cs l ds vs (by simpa [D.ne] using p) m⟩
  | .exc _ _, v, p, h => by simp [D.ne] at p
theorem RepL.cs (l : LikeC S S') : ∀ (ds : List D) (vs : List V), D.neL ds = true → RepL S M H ds vs → RepL S' M H ds vs
  | [], vs, _, h => h
  | d :: ds, vs, p, h => by
    obtain ⟨v, r, e, h1, h2⟩ := h
    have p : d.ne = true ∧ D.neL ds = true := by simpa [D.neL] using p
    exact ⟨v, r, e, Rep.cs l d v p.1 h1, RepL.cs l ds r p.2 h2⟩
end
theorem ObRep.cs (l : LikeC S S') {a : Addr} {o : Ob} (p : o.ne = true) (h : ObRep S M H a o) : ObRep S' M H a o := by
  cases o with
  | lst ds => obtain ⟨vs, h1, h2⟩ := h; exact ⟨vs, h1, RepL.cs l _ _ p h2⟩
  | dK ks ds => obtain ⟨vs, h1, z, h2⟩ := h; exact ⟨vs, h1, z, RepL.cs l _ _ p h2⟩
  | dT ks ds => obtain ⟨vs, h1, z, h2⟩ := h; exact ⟨vs, h1, z, RepL.cs l _ _ p h2⟩
  | ins c fs => obtain ⟨dx, vs, h1, z, h2⟩ := h; exact ⟨dx, vs, by rw [← l.l.c]; exact h1, z, RepL.cs l _ _ p h2⟩
theorem Sim.cs (l : LikeC S S') (p : Ne' env) (h : Sim S M0 B ow env σ H) : Sim S' M0 B ow env σ H where
  l1 := h.l1
  l2 := h.l2
  val := fun i d e => by
    obtain ⟨v, h1, h2⟩ := h.val i d e
    exact ⟨v, h1, Rep.cs l d v (p.get e) h2⟩
  own := fun i o e => by
    obtain ⟨a, h1, h2, h3, h4⟩ := h.own i o e
    exact ⟨a, h1, h2, h3.cs l (p.get e), h4⟩
  io := fun i o e => by
    obtain ⟨a, h1, h2, h3⟩ := h.io i o e
    exact ⟨a, h1, h2, h3.cs l (p.get e)⟩
  live := h.live
  inj := h.inj
  dis := h.dis
  trk := h.trk
  m0 := h.m0
  tb := by rw [← l.l.t]; exact h.tb
theorem set_none {ow : OW} {i : Nat} (h : ow[i]? = some none) : ow.set i none = ow := by
  refine List.ext_getElem? fun j => ?_
  by_cases hj : i = j
  · subst hj
    rw [List.getElem?_set_self (List.getElem?_eq_some_iff.mp h).1, h]
  · rw [List.getElem?_set_ne hj]
def Slot.vu : Slot → Bool
  | .un => true
  | .val _ => true
  | _ => false
theorem Sim.vu {i : Nat} {sl : Slot} (s : Sim S M0 B ow env σ H) (e : env[i]? = some sl) (h : sl.vu = true) : ow[i]? = some none := by
  have hi : i < ow.length := by rw [s.l2, ← s.l1]; exact (List.getElem?_eq_some_iff.mp e).1
  rw [List.getElem?_eq_getElem hi]
  cases hz : ow[i] with
  | none => rfl
  | some a =>
    obtain ⟨o, q⟩ := s.live i a (by rw [List.getElem?_eq_getElem hi, hz])
    rcases q with q | q <;> · rw [e] at q; cases q; cases h
end
/-- the slot of the caught one may be let go -/
def OkE (i : Nat) (env : Env') : Prop := (∃ sl, env[i]? = some sl ∧ sl.vu = true) ∧ Ne' (env.set i .un)
/-- try: a() / except X as n: suite -/
def tryF (ecs : List Nat) (TH : Nat → List D → EF) (ia i : Nat) (sb : SF) : SF where
  r := fun env P X => ∃ j ds, env[ia]? = some (.val (.fn j ds)) ∧ env[i]? = some .un ∧ Ne' env ∧ (TH j ds).r [] (fun e _ => e.isOwn = false ∧ P.nx env) (fun c fs => c ∈ ecs ∧ D.plL fs = true ∧
    sb.r (env.set i (.val (.exc c fs))) ⟨fun env' => OkE i env' ∧ P.nx (env'.set i .un), fun e env' => ∃ d, e = .val d ∧ d.pl = true ∧ OkE i env' ∧ P.rt (.val d) (env'.set i .un), fun _ => False, fun _ => False⟩ (fun _ _ => False))
  m := fun {env P P' X X'} hp hx ⟨j, ds, h1, h2, h3, h4⟩ => ⟨j, ds, h1, h2, h3, (TH j ds).m (fun _ _ h => ⟨h.1, hp.nx _ h.2⟩) (fun c fs h => ⟨h.1, h.2.1,
    sb.m (P := ⟨fun env' => OkE i env' ∧ P.nx (env'.set i .un), fun e env' => ∃ d, e = .val d ∧ d.pl = true ∧ OkE i env' ∧ P.rt (.val d) (env'.set i .un), fun _ => False, fun _ => False⟩) (P' := ⟨fun env' => OkE i env' ∧ P'.nx (env'.set i .un), fun e env' => ∃ d, e = .val d ∧ d.pl = true ∧ OkE i env' ∧ P'.rt (.val d) (env'.set i .un), fun _ => False, fun _ => False⟩)
      ⟨fun _ h => ⟨h.1, hp.nx _ h.2⟩, fun _ _ ⟨d, a, b, c, e⟩ => ⟨d, a, b, c, hp.rt _ _ e⟩, fun _ h => h, fun _ h => h⟩ (fun _ _ h => h) h.2.2⟩) h4⟩
section
variable {X : Cx} {S : Sg} {M0 : MS} {E : XK} {k lv ia i : Nat} {a x n : Str} {p1 p2 p3 np pos pos' : Pos} {TH : Nat → List D → EF} {HE : Addr} {ecs : List Nat} {suite : List Stmt} {b₀ : Stmt} {sb : SF}
theorem s_try (z : Bd X S k E) (hA : Acts X.prog X.w S X.mg X.base lv TH) (hj : lv ≤ k) (hs : X.stack = X.env :: X.outer) (hf : X.env.frame = some X.env.locals) (hc : Names X x (.ref HE)) (hE : ∀ c ∈ ecs, PySem.W.exmOne S.K (.ref (S.cls c)) (.ref HE) = some true)
    (hsu : ∀ (ae : Addr) (oe : Obj) (pn : List (Addr × Obj)) (c : Nat) (dx : Addr), c ∈ ecs → Zc (.ref (S.cls c)) (some dx) oe → (∃ vs, oe.data = .fields vs) → PSs (X.suite ae ((ae, oe) :: pn)) (b₀ :: suite) (tS { S with cau := some (ae, dx, c) } M0 E sb))
    (hN : X.N[ia]? = some a := by rfl) (hi : X.N[i]? = some n := by rfl) (hln : X.env.kindOf n = some .local := by rfl) (hv : Vis X.env.scope a := by first | exact Or.inl rfl | exact Or.inr (Or.inl rfl) | exact Or.inr (Or.inr rfl)) (hd : (a == ("__debug__" : Str)) = false := by decide) (hcd : (a == ("__classdict__" : Str)) = false := by decide)
    (hsw : ∀ pn xe, swapsWith (.Call (.Name a p1) [] [] p2) none p3.line (X.tr pn xe).env = pure false := by intro _ _; rfl) :
    PS X (.Try [.Expr (.Call (.Name a p1) [] [] p2) p3] [.ExceptHandler (some (.Name x np)) (some n) (b₀ :: suite) pos'] [] [] pos) (tS S M0 E (tryF ecs TH ia i sb)) := by
  let te : WX → TE := fun W σ H Q => ∃ B ow env, Sim S M0 B ow env σ H ∧ ∃ j ds, env[ia]? = some (.val (.fn j ds)) ∧ (TH j ds).r [] (fun e _ => e.isOwn = false ∧ ∀ v H' ow', Stp ow H ow' H' → Nw H e v → EVOk S M0 B ow' env σ H' e v → Q v H') (XP S (Md B ow) (fun cls d H' => W cls d σ H') [] H)
  let ts : Addr → Value → Option Addr → TS := fun ae cls d D σ H => ∃ c dx, cls = .ref (S.cls c) ∧ d = some dx ∧ c ∈ ecs ∧ tS { S with cau := some (ae, dx, c) } M0 E sb D σ H
  refine PS.imp (ps_try_as (i := i) (tb := fun W => tDrop (te W)) (ts := ts) (Wout := fun _ _ _ _ => False) hs hf z.n hi hln hc (z.tk.imp fun _ _ _ _ h => h.elim) (fun W pn xe tk pso => pss_one (ps_expr ?_ (hsw pn xe))) fun ae oe cls d pn hz hfd => ⟨fun pins s σ H DE I h => ?_⟩) fun DE σ H h => ?_
  · refine ⟨fun pins s σ H Q I h => ?_⟩
    obtain ⟨B, ow, env, sm, j, ds, he, h⟩ := h
    obtain ⟨v, hv1, rp⟩ := sm.val ia _ he
    obtain ⟨f, rfl⟩ : ∃ f, v = .ref f := by obtain ⟨f, _, _, _, _, e, _⟩ := id rp; exact ⟨f, e⟩
    refine wpAny_Call_Name_kw (thn ((pe_var (X := X.tr pn xe) (pos := p1) (i := ia) hN hv hd hcd).run pins s σ H (fun v H1 => v = .ref f ∧ H1 = H) I ⟨.ref f, hv1, rfl, rfl⟩) fun u s1 ⟨v, H1, I1, r1, q1⟩ => ?_)
    obtain ⟨ev, eH⟩ := q1
    subst ev
    rw [eH] at I1
    obtain rfl : u = Value.ref f := r1
    obtain ⟨g1, g2⟩ := act_run0 (X := X.tr pn xe) (Q := Q) (E := fun cls d H' => W cls d σ H') hA z.q (z.r.mono hj) (fun e s' hq => tk e s' (XE.of_call I1 (fun _ _ _ h => h) hq)) I1 sm rp h
    exact PySem.W.callWith_F0 g1 g2
  · obtain ⟨c, dx, rfl, rfl, hce, h⟩ := h
    exact (hsu ae oe pn c dx hce hz hfd).run pins s σ H DE I h
  · obtain ⟨B, ow, env, sm, j, ds, he, hun, hne, h⟩ := h
    refine ⟨B, ow, env, sm, j, ds, he, (TH j ds).m (fun e _ g => ⟨g.1, fun v H' ow' st nw ok => g.2 σ H' ow' st ok.simA⟩) (fun c fs g dx H' kp dm tb xr => ?_) h⟩
    obtain ⟨hce, hpl, hsu2⟩ := g
    refine ⟨true, by rw [z.q]; exact hE c hce, fun _ ae hae => ⟨c, dx, rfl, rfl, hce, ?_⟩, fun q => by cases q⟩
    have gr : ∀ a o, Nt o → H a = some o → H' a = some o := fun a o t e => kp a o t (by simp) e
    have st0 : Stp ow H ow H' := ⟨fun a o t _ e => gr a o t e, fun _ _ h => .inl h, dm⟩
    have lc : ∀ q, LikeC S { S with cau := q } := fun q => ⟨⟨rfl, rfl, rfl, rfl⟩, rfl⟩
    have hon := sm.vu hun rfl
    have s2 := (sm.kept gr dm tb).cs (lc (some (ae, dx, c))) hne
    have rx : Rep { S with cau := some (ae, dx, c) } (Md B (ow.set i none)) H' (.exc c fs) (.ref ae) := by
      rw [set_none hon]
      obtain ⟨l, x1, xn, x2, x3⟩ := xr
      have key : ∀ (fl : List Str) (fs : List D), fl.length = fs.length → D.plL fs = true → (∀ (i : Nat) f d, fl[i]? = some f → fs[i]? = some d → ∃ v, l.lookup f = some v ∧ Rep S (Md B ow) H' d v) →
          ∃ vs : List V, fl.length = vs.length ∧ (∀ (i : Nat) f w, fl[i]? = some f → vs[i]? = some w → l.lookup f = some w) ∧ RepL { S with cau := some (ae, dx, c) } (Md B ow) H' fs vs := by
        intro fl
        induction fl with
        | nil =>
          intro fs hl _ _
          cases fs with
          | nil => exact ⟨[], rfl, fun i f w h => by simp at h, rfl⟩
          | cons _ _ => simp at hl
        | cons f fl ih =>
          intro fs hl hp hg
          cases fs with
          | nil => simp at hl
          | cons d fs =>
            have hp : d.pl = true ∧ D.plL fs = true := by simpa [D.plL] using hp
            obtain ⟨v, v1, v2⟩ := hg 0 f d rfl rfl
            obtain ⟨vs, w1, w2, w3⟩ := ih fs (by simpa using hl) hp.2 fun i g e a b => hg (i + 1) g e (by simpa using a) (by simpa using b)
            refine ⟨v :: vs, by simp [w1], fun i g w a b => ?_, v, vs, rfl, Rep.cs (lc _) d v (ne_of_pl d hp.1) v2, w3⟩
            cases i with
            | zero => simp at a b; subst a b; exact v1
            | succ i => exact w2 i g w (by simpa using a) (by simpa using b)
      obtain ⟨vs, w1, w2, w3⟩ := key _ _ x2 hpl x3
      exact ⟨ae, dx, l, vs, rfl, rfl, xn, x1, w1, w2, w3⟩
    have s3 := s2.setV (i := i) (w := some (.ref ae)) hun rfl (.inr ⟨_, _, rfl, rfl, rx⟩)
    rw [set_none hon] at s3
    have back : ∀ {env' : Env'} {σ' : L2.St} {H2 : Hp} {ow' : OW} {w : Option V}, OkE i env' → Sim { S with cau := some (ae, dx, c) } M0 B ow' env' σ' H2 → Sim S M0 B ow' (env'.set i .un) (σ'.set i none) H2 := by
      intro env' σ' H2 ow' w ok s
      obtain ⟨⟨sl, e1, e2⟩, e3⟩ := ok
      have o2 := s.vu e1 e2
      have s4 := s.setV (i := i) (w := none) e1 (by cases sl <;> first | rfl | cases e2) (.inl rfl)
      rw [set_none o2] at s4
      exact s4.cs (lc _).symm e3
    refine ⟨B, ow, _, s3, sb.m ⟨fun env' g σ' H2 ow' st s4 => ?_, fun e env' g v σ' H2 ow' st nw ok => ?_, fun _ (h : False) => h.elim, fun _ (h : False) => h.elim⟩ (fun _ _ (h : False) => h.elim) hsu2⟩
    · exact g.2 _ H2 ow' (st0.trans st) (back (w := none) g.1 s4)
    · obtain ⟨d, rfl, hdp, g1, g2⟩ := g
      exact g2 v _ H2 ow' (st0.trans st) trivial ⟨back (w := none) g1 ok.1, Rep.cs (lc _).symm d v (ne_of_pl d hdp) ok.2⟩
end
end En
set_option Elab.async false
set_option linter.all false
set_option maxRecDepth 100000
namespace En
open PySem PySem.Spec PyProof.Rows L2
/-! ### in the suite: isinstance(e, C), e.f; repr of a plain value -/
/-- the classes of errors -/
structure EcOk (S : Sg) (ecs jcs : List Nat) : Prop where
  c : ∀ k ∈ ecs, L2.ExcC S.K (S.cls k)
  k1 : ∀ k ∈ ecs, PySem.W.kitOne S.K (.ref (S.cls k)) (.ref (S.cls k)) = some true
  k2 : ∀ k ∈ ecs, ∀ j ∈ jcs, k ≠ j → PySem.W.kitOne S.K (.ref (S.cls k)) (.ref (S.cls j)) = some false
  xf : ∀ k ∈ ecs, L2.XfC S.K (S.cls k)
  nf : ∀ k ∈ ecs, ∀ f ∈ S.flds k, PySem.W.findIn S.K (.ref (S.cls k)) f = some none
def isiX (ecs jcs : List Nat) (j : Nat) : D → Option D
  | .exc c _ => if c ∈ ecs ∧ j ∈ jcs then some (.bl (c == j)) else none
  | _ => none
def fldX (F : Nat → List Str) (ecs : List Nat) (nm : Str) : D → Option D
  | .exc c ds => if c ∈ ecs then ((F c).zip ds).lookup nm else none
  | _ => none
def reprD : D → Option D
  | .non => some (.str "None")
  | .bl b => some (.str (if b then "True" else "False"))
  | .int i => if i.natAbs.log2 < 1920 then some (.str (toString i)) else none
  | .str x => if (reprText x).length ≤ sizeLine then some (.str (reprText x)) else none
  | _ => none
section
variable {X : Cx} {ae : Addr} {oe : Obj} {pn : List (Addr × Obj)} {S : Sg} {M0 : MS} {E : XK} {c : Nat} {dx : Addr} {ecs jcs : List Nat} {e : Expr} {f : EF} {p p2 pos : Pos} {x nm : Str} {j : Nat}
theorem call_isX {D : Addr} (C : L2.ExcC X.K D) (hz : Zc (.ref D) (some dx) oe) (hf : ∃ vs, oe.data = .fields vs) : CallR (X.suite ae ((ae, oe) :: pn)) (.builtin "isinstance") (fun xs H Q => ∃ (T : Addr) (b : Bool) (fs : List (Str × V)), xs = [.ref ae, .ref T] ∧ H dx = some (.xd fs) ∧ PySem.W.kitOne X.K (.ref D) (.ref T) = some b ∧ Q (.bl b) H) := by
  intro pins s σ H xs us Q I r h
  obtain ⟨T, b, fs, rfl, hd, e, q⟩ := h
  obtain ⟨u, t, rfl, r1, r2⟩ : ∃ u t, us = [u, t] ∧ RelV (.ref ae) u ∧ RelV (.ref T) t := by
    cases r with
    | cons rx rr =>
      cases rr with
      | cons rt rr =>
        cases rr
        exact ⟨_, _, rfl, rx, rt⟩
  obtain rfl : u = Value.ref ae := r1
  obtain rfl : t = Value.ref T := r2
  obtain ⟨hget, _⟩ := I.pin (ae, oe) (List.mem_append.mpr (.inl List.mem_cons_self))
  obtain ⟨vs, hv⟩ := hf
  obtain ⟨mA, hns, _⟩ := show L2.ObjOk X.prog X.w H s.heap dx (.xd fs) from I.hok dx _ hd
  obtain ⟨od, ho, _⟩ := lookIn_ns hns
  have J : PySem.W.InstAt s.heap ae oe D (some od) := ⟨hget, hz.1, by unfold PySem.W.notCls; rw [hv] <;> rfl, by rw [hz.2]; exact ho⟩
  have hcl : (PySem.W.clsIn X.K D).isSome = true := by
    obtain ⟨cd, hc, _⟩ := PySem.W.any_some C.hd
    rw [hc]; rfl
  exact PySem.W.kia_one (PySem.W.kitx_exc hcl C.hg C.hk C.hs C.ha C.hn C.ht C.hm) I.kIn J e (fun z => nomatch z) fun tk => ⟨.bl b, H, I.kept (t' := tk) fun _ _ z => z, rfl, q⟩
/-- isinstance(e, C), e the caught one -/
theorem r_isX (hk : X.K = S.K) (ok : EcOk S ecs jcs) (hcau : S.cau = some (ae, dx, c)) (hc : c ∈ ecs) (hz : Zc (.ref (S.cls c)) (some dx) oe) (hfd : ∃ vs, oe.data = .fields vs) (hm : X.mg "isinstance" = none) (hT : X.mg x = some (.ref (S.cls j))) (ha : PE (X.suite ae ((ae, oe) :: pn)) e (tE S M0 E f))
    (hg : Gl (X.suite ae ((ae, oe) :: pn)) "isinstance" := by rfl) (hg2 : Gl (X.suite ae ((ae, oe) :: pn)) x := by rfl) (hdb : (x == ("__debug__" : Str)) = false := by decide)
    (he : starEach [e, .Name x p2] X.env = (false, eval e X.env) :: starEach [.Name x p2] X.env := by rfl) (he2 : starEach [.Name x p2] X.env = (false, eval (.Name x p2) X.env) :: starEach [] X.env := by rfl)
    (hpl : (backTo pos (starEach [.Name x p2] X.env)).any (·.1) = false := by rfl) : PE (X.suite ae ((ae, oe) :: pn)) (.Call (.Name "isinstance" p) [e, .Name x p2] [] pos) (tE S M0 E (unF S.flds (isiX ecs jcs j) f)) :=
  PE.imp (pe_callB (X := X.suite ae ((ae, oe) :: pn)) (call_isX (by rw [hk]; exact ok.c c hc) hz hfd) hg hm (by decide +kernel) (pa_cons ha (pa_cons (pe_glob (X := X.suite ae ((ae, oe) :: pn)) (v := .ref (S.cls j)) hg2 hT rfl hdb) pa_nil he2) he) (by decide) (by decide) he hpl) fun σ H Q h =>
    un_of (T := fun y H Q => ∃ (T : Addr) (b : Bool) (fs : List (Str × V)), [y, V.ref (S.cls j)] = [.ref ae, .ref T] ∧ H dx = some (.xd fs) ∧ PySem.W.kitOne X.K (.ref (S.cls c)) (.ref T) = some b ∧ Q (.bl b) H) (fun y H Q ⟨M, d, r, hd, hg, ht, k⟩ => by
      unfold isiX at hg
      split at hg
      · split at hg
        · rename_i c' ds hh
          cases hg
          obtain ⟨a, dy, l, vs, rfl, e1, e2, e3, _⟩ := hd
          rw [hcau] at e1
          cases e1
          refine ⟨_, (c == j), l, rfl, e3, ?_, k _ H .rfl' rfl⟩
          rw [hk]
          by_cases hcj : c = j
          · subst hcj
            rw [show (c == c) = true from by simp]
            exact ok.k1 c hc
          · rw [show (c == j) = false from by simpa using hcj]
            exact ok.k2 c hc j hh.2 hcj
        · cases hg
      · cases hg) h
/-- e.f, e the caught one -/
theorem r_fldX (hk : X.K = S.K) (ok : EcOk S ecs jcs) (hcau : S.cau = some (ae, dx, c)) (hc : c ∈ ecs) (hz : Zc (.ref (S.cls c)) (some dx) oe) (hfd : ∃ vs, oe.data = .fields vs) (ha : PE (X.suite ae ((ae, oe) :: pn)) e (tE S M0 E f)) (hb : attributeBase e nm X.env (eval e X.env) = eval e X.env := by rfl) :
    PE (X.suite ae ((ae, oe) :: pn)) (.Attribute e nm pos) (tE S M0 E (unF S.flds (fldX S.flds ecs nm) f)) := by
  have main : ∀ σ H Q, tE S M0 E (unF S.flds (fldX S.flds ecs nm) f) σ H Q → tE S M0 E f σ H fun y H1 => y = .ref ae ∧ nm ∈ S.flds c ∧ ∃ fs v, H1 dx = some (.xd fs) ∧ fs.lookup nm = some v ∧ Q v H1 := fun σ H Q h =>
    un_of (T := fun y H1 Q => y = .ref ae ∧ nm ∈ S.flds c ∧ ∃ fs v, H1 dx = some (.xd fs) ∧ fs.lookup nm = some v ∧ Q v H1) (fun y H Q ⟨M, d, r, hd, hg, ht, k⟩ => by
      unfold fldX at hg
      split at hg
      · split at hg
        · rename_i c' ds hh
          obtain ⟨a, dy, l, vs, rfl, e1, e2, e3, e4, e5, e6⟩ := hd
          rw [hcau] at e1
          cases e1
          obtain ⟨m, v, h1, h2⟩ := lookup_zip e6 hg
          refine ⟨rfl, m, l, v, e3, ?_, k v H .rfl' h2⟩
          obtain ⟨i, f1, f2⟩ : ∃ i, (S.flds c)[i]? = some nm ∧ vs[i]? = some v := by
            have hm := PySem.mem_of_lookup h1
            obtain ⟨i, hi, he⟩ := List.getElem_of_mem hm
            refine ⟨i, ?_⟩
            have hz := List.getElem?_eq_getElem hi
            rw [he] at hz
            exact List.getElem?_zip_eq_some.mp hz
          exact e5 i nm v f1 f2
        · cases hg
      · cases hg) h
  by_cases hn : nm ∈ S.flds c
  · refine PE.imp (pe_xf (C := S.cls c) (cls := .ref (S.cls c)) (d := some dx) (by rw [hk]; exact ok.xf c hc) (by rw [hk]; exact ok.nf c hc nm hn) hz hfd ha hb) fun σ H Q h => ?_
    obtain ⟨B, ow, env, sm, h⟩ := main σ H Q h
    refine ⟨B, ow, env, sm, f.m (fun e1 env1 g v H1 ow1 st nw ok => ?_) (fun _ _ h => h) h⟩
    obtain ⟨q1, _, fs, w, q2, q3, q4⟩ := g v H1 ow1 st nw ok
    exact ⟨q1, rfl, dx, fs, w, rfl, q2, q3, q4⟩
  · refine ⟨fun pins s σ H Q I h => ?_⟩
    exact attr_of hb (thn (ha.run pins s σ H _ I (main σ H Q h)) fun u s1 ⟨_, _, _, _, _, q, _⟩ => absurd q hn)
end
section
variable {X : Cx} {S : Sg} {M0 : MS} {E : XK} {e : Expr} {f : EF} {p pos : Pos}
theorem call_reprP : CallR X (.builtin "repr") (fun xs H Q => ∃ x d c, xs = [x] ∧ Rep S (fun _ => False) H d x ∧ reprD d = some c ∧ ∀ v, Rep S (fun _ => False) H c v → Q v H) := by
  intro pins s σ H xs us Q I r h
  obtain ⟨x, d, c, rfl, rx, hc, q⟩ := h
  obtain ⟨u, rfl, ru⟩ := vals1 r
  unfold reprD at hc
  split at hc
  · cases hc; cases rx; cases ru
    exact PySem.P.repr_of_none ⟨.str _, H, I.tok _, ⟨_, rfl⟩, q _ rfl⟩
  · cases hc; cases rx; cases ru
    exact PySem.P.repr_of_bool ⟨.str _, H, I.tok _, ⟨_, rfl⟩, q _ rfl⟩
  · split at hc
    · rename_i hz
      cases hc; cases rx; obtain ⟨t, rfl⟩ := ru
      exact PySem.P.repr_of_int hz ⟨.str _, H, I.tok _, ⟨_, rfl⟩, q _ rfl⟩
    · cases hc
  · split at hc
    · rename_i hz
      cases hc; cases rx; obtain ⟨t, rfl⟩ := ru
      exact PySem.P.repr_of_str ⟨.str _, H, I.tok _, ⟨_, rfl⟩, q _ rfl⟩ hz
    · cases hc
  · cases hc
theorem r_repr (hm : X.mg "repr" = none) (ha : PE X e (tE S M0 E f)) (hg : Gl X "repr" := by rfl)
    (he : starEach [e] X.env = (false, eval e X.env) :: starEach [] X.env := by rfl) (hpl : (backTo pos (starEach [] X.env)).any (·.1) = false := by rfl) : PE X (.Call (.Name "repr" p) [e] [] pos) (tE S M0 E (unF S.flds reprD f)) :=
  PE.imp (pe_callB (call_reprP (S := S)) hg hm (by decide +kernel) (pa_cons ha pa_nil he) (by decide) (by decide) he hpl) fun σ H Q h =>
    un_of (T := fun y H Q => ∃ x d c, [y] = [x] ∧ Rep S (fun _ => False) H d x ∧ reprD d = some c ∧ ∀ v, Rep S (fun _ => False) H c v → Q v H) (fun y H Q ⟨M, d, r, hd, hg, ht, k⟩ => by
      refine ⟨y, d, r, rfl, ?_, hg, fun v hv => k v H .rfl' ?_⟩
      · unfold reprD at hg
        split at hg <;> first | exact hd | cases hg
      · unfold reprD at hg
        split at hg <;> (try split at hg) <;> first | (cases hg; exact hv) | cases hg) h
end
end En
set_option Elab.async false
set_option linter.all false
set_option maxRecDepth 100000
namespace En
open PySem PySem.Spec PyProof.Rows L2
/-! ### a def that makes lambdas; the end with tables -/
/-- what the head tells of the table of a def of the text -/
def OwnT (K : PySem.W.Frag) (mg : Str → Option Value) (h : Heap) (x : Str) : Prop := ∀ (fa c T : Addr) (o : Obj) (fd : FuncData) (oc : Obj) (vs : Array Value), mg x = some (.ref fa) → K.lookup fa = some o → o.data = .func fd → fd.code = .ref c → K.lookup c = some oc → oc.data = .fields vs → vs[11]? = some (.ref T) →
  h.get? T = some { cls := .none, data := .fields #[] } ∧ PySem.W.CodeHd h c T
theorem fn_AC {P : Program} {w : World} {S : Sg} {mg : Str → Option Value} {base : Heap} {x qual : Str} {st : Stmt} {g c : Addr} {N ps : List Str} {k : Nat} {sb : SF} {oc dV kV doc pm ct : Value} {od an : Option Addr} {osl : Array (Option Value)}
    (lk : S.K.lookup g = some ⟨oc, od, .func (PySem.W.fnOf x qual (defArgs st) (defBody st) (defScope st) dV kV doc pm an (.ref c) ct), osl⟩) (hcd : PySem.W.codeIn S.K (.ref c) qual = true) (kp : PySem.W.keepIn S.K (.ref g) = true)
    (hb : Binds S.K (PySem.W.fnOf x qual (defArgs st) (defBody st) (defScope st) dV kV doc pm an (.ref c) ct) ps []) (Sc : FnScope N ps (defScope st))
    (body : ∀ (M : MS) (A : Around) (outer : List Env) (s : Shared) (H : Hp) (E : XK), Bd (cxOf (L2.CX P w) P w S.K mg base N qual (defScope st) g (.ref c) A outer s H E) S k E →
      PSs (cxOf (L2.CX P w) P w S.K mg base N qual (defScope st) g (.ref c) A outer s H E) (defBody st) (tS S M E sb)) : FnA P w S mg base (k + 1) g (PySem.W.fnOf x qual (defArgs st) (defBody st) (defScope st) dV kV doc pm an (.ref c) ct) ps (bodyF N.length ps.length sb) ps.length :=
  ⟨fn_of lk hcd Sc spD_len fun A outer s H vs Q E hr hsp => by
    obtain ⟨M, hM⟩ := body_run rfl hsp
    exact ⟨_, body M A outer s H E ⟨rfl, rfl, Sc.nd, hr, L2.takes_of rfl rfl rfl rfl⟩, hM⟩, kp, hb⟩
end En
set_option Elab.async false
set_option linter.all false
set_option maxRecDepth 100000
namespace En
open PySem PySem.Spec PyProof.Rows L2
/-! ### the body of a def that makes lambdas: read with its own signature, what is not plain is let go at its end -/
def plS (s : Slot) : Slot := if s.pl = true then s else match s with
  | .io o => .io o
  | _ => .un
def plz (env : Env') : Env' := env.map plS
def owS (s : Slot) (a : Option Addr) : Option Addr := if s.pl = true then a else match s with
  | .io _ => a
  | _ => none
def owz (env : Env') (ow : OW) : OW := List.zipWith owS env ow
def IoPl (env : Env') : Prop := ∀ (i : Nat) (o : Ob), env[i]? = some (.io o) → o.pl = true
theorem plz_get {env : Env'} {i : Nat} {s : Slot} (h : (plz env)[i]? = some s) : ∃ t, env[i]? = some t ∧ s = plS t := by
  unfold plz at h
  rw [List.getElem?_map] at h
  obtain ⟨t, h1, h2⟩ := Option.map_eq_some_iff.mp h
  exact ⟨t, h1, h2.symm⟩
theorem owz_get {env : Env'} {ow : OW} {i : Nat} {a : Addr} (h : (owz env ow)[i]? = some (some a)) : ow[i]? = some (some a) ∧ ∃ t, env[i]? = some t ∧ (t.pl = true ∨ ∃ o, t = .io o) := by
  unfold owz at h
  rw [List.getElem?_zipWith] at h
  split at h
  · rename_i t b e1 e2
    unfold owS at h
    split at h
    · rename_i hp
      cases h
      exact ⟨e2, t, e1, .inl hp⟩
    · split at h
      · rename_i o _
        cases h
        exact ⟨e2, _, e1, .inr ⟨o, rfl⟩⟩
      · cases h
  · cases h
theorem owz_of {env : Env'} {ow : OW} {i : Nat} {t : Slot} {a : Option Addr} (h1 : env[i]? = some t) (h2 : ow[i]? = some a) : (owz env ow)[i]? = some (owS t a) := by
  unfold owz
  rw [List.getElem?_zipWith, h1, h2]
section
variable {S S' : Sg} {M M0 B : MS} {H H' : Hp} {ow ow0 : OW} {env : Env'} {σ : L2.St} {E : XK}
theorem owz_sub : ∀ b, Md B (owz env ow) b → Md B ow b := fun b z => z.elim .inl fun z => by
  obtain ⟨i, hi, e⟩ := List.getElem_of_mem z
  have := List.getElem?_eq_getElem hi
  rw [e] at this
  exact .inr (List.mem_of_getElem? (owz_get this).1)
theorem Sim.plz (s : Sim S M0 B ow env σ H) : Sim S M0 B (owz env ow) (plz env) σ H where
  l1 := by unfold En.plz; rw [List.length_map]; exact s.l1
  l2 := by unfold En.owz; rw [List.length_zipWith, s.l1, s.l2, Nat.min_self]
  val := fun i d e => by
    obtain ⟨t, h1, h2⟩ := plz_get e
    unfold plS at h2
    split at h2
    · subst h2
      obtain ⟨v, g1, g2⟩ := s.val i d h1
      exact ⟨v, g1, g2.anti owz_sub⟩
    · split at h2 <;> cases h2
  own := fun i o e => by
    obtain ⟨t, h1, h2⟩ := plz_get e
    unfold plS at h2
    split at h2
    · rename_i hp
      subst h2
      obtain ⟨a, g1, g2, g3, g4⟩ := s.own i o h1
      refine ⟨a, ?_, g2, g3.anti owz_sub, g4⟩
      rw [owz_of h1 g1]; unfold owS; rw [if_pos hp]
    · split at h2 <;> cases h2
  io := fun i o e => by
    obtain ⟨t, h1, h2⟩ := plz_get e
    unfold plS at h2
    split at h2
    · rename_i hp
      subst h2
      obtain ⟨a, g1, g2, g3⟩ := s.io i o h1
      refine ⟨a, ?_, g2, g3.anti owz_sub⟩
      rw [owz_of h1 g1]; unfold owS; rw [if_pos hp]
    · rename_i hp
      split at h2
      · cases h2
        obtain ⟨a, g1, g2, g3⟩ := s.io i _ h1
        refine ⟨a, ?_, g2, g3.anti owz_sub⟩
        rw [owz_of h1 g1]; unfold owS; rw [if_neg hp]
      · cases h2
  live := fun i a e => by
    obtain ⟨e1, t, e2, e3⟩ := owz_get e
    obtain ⟨o, h⟩ := s.live i a e1
    have pz : (En.plz env)[i]? = some (plS t) := by unfold En.plz; rw [List.getElem?_map, e2]; rfl
    rcases h with h | h
    · rw [e2] at h; cases h
      refine ⟨o, .inl ?_⟩
      rw [pz]
      rcases e3 with e3 | ⟨o', e3⟩
      · unfold plS; rw [if_pos e3]
      · cases e3
    · rw [e2] at h; cases h
      refine ⟨o, .inr ?_⟩
      rw [pz]
      by_cases hp : (Slot.io o).pl = true
      · unfold plS; rw [if_pos hp]
      · unfold plS; rw [if_neg hp]
  inj := fun i j a h1 h2 => s.inj i j a (owz_get h1).1 (owz_get h2).1
  dis := fun a ha z => by
    obtain ⟨i, hi, e⟩ := List.getElem_of_mem z
    have := List.getElem?_eq_getElem hi
    rw [e] at this
    exact s.dis a ha (List.mem_of_getElem? (owz_get this).1)
  trk := s.trk
  m0 := fun a ha => by
    rcases s.m0 a ha with z | z
    · exact .inl z
    · obtain ⟨i, hi, e⟩ := List.getElem_of_mem z
      have e1 := List.getElem?_eq_getElem hi
      rw [e] at e1
      obtain ⟨o, h⟩ := s.live i a e1
      rcases h with h | h
      · obtain ⟨b, g1, _, _, g4⟩ := s.own i o h
        rw [e1] at g1; cases g1
        exact absurd ha g4
      · refine .inr (List.mem_of_getElem? (i := i) ?_)
        rw [owz_of h e1]
        unfold owS
        split <;> rfl
  tb := s.tb.anti owz_sub
theorem Stp.plz (st : Stp ow0 H ow H') : Stp ow0 H (owz env ow) H' := ⟨st.kp, fun i a h => st.nwp i a (owz_get h).1, st.gr⟩
theorem plz_pl (h : IoPl env) : Pl (plz env) := List.all_eq_true.mpr fun s hs => by
  unfold plz at hs
  obtain ⟨t, h1, rfl⟩ := List.mem_map.mp hs
  obtain ⟨i, hi, e⟩ := List.getElem_of_mem h1
  unfold plS
  split
  · assumption
  · split
    · have := List.getElem?_eq_getElem hi
      rw [e] at this
      exact h i _ this
    · rfl
end
/-- a body read with another signature -/
def mkS (sb : SF) : SF where
  r := fun env P X => Pl env ∧ sb.r env ⟨fun e => IoPl e ∧ P.nx (plz e), fun e env => e.isOwn = false ∧ e.pl = true ∧ IoPl env ∧ P.rt e (plz env), fun e => IoPl e ∧ P.bk (plz e), fun e => IoPl e ∧ P.ct (plz e)⟩ (fun c fs => D.plL fs = true ∧ X c fs)
  m := fun {env P P' X X'} hp hx h => ⟨h.1, sb.m (P := ⟨fun e => IoPl e ∧ P.nx (plz e), fun e env => e.isOwn = false ∧ e.pl = true ∧ IoPl env ∧ P.rt e (plz env), fun e => IoPl e ∧ P.bk (plz e), fun e => IoPl e ∧ P.ct (plz e)⟩) (P' := ⟨fun e => IoPl e ∧ P'.nx (plz e), fun e env => e.isOwn = false ∧ e.pl = true ∧ IoPl env ∧ P'.rt e (plz env), fun e => IoPl e ∧ P'.bk (plz e), fun e => IoPl e ∧ P'.ct (plz e)⟩)
    ⟨fun _ h => ⟨h.1, hp.nx _ h.2⟩, fun _ _ h => ⟨h.1, h.2.1, h.2.2.1, hp.rt _ _ h.2.2.2⟩, fun _ h => ⟨h.1, hp.bk _ h.2⟩, fun _ h => ⟨h.1, hp.ct _ h.2⟩⟩ (fun _ _ h => ⟨h.1, hx _ _ h.2⟩) h.2⟩
section
variable {S S' : Sg} {M M0 B : MS} {H H' : Hp} {ow ow0 : OW} {env : Env'} {σ : L2.St} {E : XK}
theorem mkS_of (l : Like S S') {sb : SF} {D : Ends} (h : tS S M0 E (mkS sb) D σ H) : tS S' M0 E sb D σ H := by
  obtain ⟨B, ow, env, s, hp, h⟩ := h
  refine ⟨B, ow, env, s.sw l hp, sb.m ⟨fun e h σ' H' ow' st s' => ?_, fun e env h v σ' H' ow' st nw s' => ?_, fun e h σ' H' ow' st s' => ?_, fun e h σ' H' ow' st s' => ?_⟩ (fun c fs h dx H' k dmx kt r => ?_) h⟩
  · exact h.2 σ' H' _ (st.plz (env := e)) (s'.plz.sw l.symm (plz_pl h.1))
  · obtain ⟨h1, h2, h3, h4⟩ := h
    refine h4 v σ' H' _ (st.plz (env := env)) nw ?_
    cases e with
    | own i => cases h1
    | val d => exact ⟨s'.1.plz.sw l.symm (plz_pl h3), Rep.sw l.symm d v h2 (s'.2.anti owz_sub)⟩
    | new o =>
      obtain ⟨a, g1, g2, g3, g4, g5⟩ := s'
      exact ⟨a, g1, fun z => g2 (owz_sub _ z), g3, g4.plz.sw l.symm (plz_pl h3), (g5.anti owz_sub).sw l.symm h2⟩
  · exact h.2 σ' H' _ (st.plz (env := e)) (s'.plz.sw l.symm (plz_pl h.1))
  · exact h.2 σ' H' _ (st.plz (env := e)) (s'.plz.sw l.symm (plz_pl h.1))
  · have r' : XRep S M0 H' c fs dx := r.sw l.symm h.1
    have := h.2 dx H' k dmx (by rw [l.t]; exact kt) r'
    rw [l.c] at this
    exact this
theorem s_mk {X : Cx} {ss : List Stmt} {sb : SF} (l : Like S S') (h : PSs X ss (tS S' M0 E sb)) : PSs X ss (tS S M0 E (mkS sb)) := PSs.imp h fun D σ H z => mkS_of l z
end
/-- the names of a lambda of x -/
def lamQ (x : Str) : Str := x ++ ".<locals>." ++ "<lambda>"
theorem Bd.sg {X : Cx} {S S' : Sg} {k : Nat} {E : XK} (z : Bd X S k E) (l : Like S S') : Bd X S' k E := ⟨z.q.trans l.k, z.c, z.n, z.r, z.tk⟩
theorem Acts.mono {P : Program} {w : World} {S : Sg} {mg : Str → Option Value} {base : Heap} {j k : Nat} {TH : Nat → List D → EF} (A : Acts P w S mg base j TH) (h : j ≤ k) : Acts P w S mg base k TH :=
  ⟨A.fa, fun i f c pm ct ds vs A1 outer s1 HZ M Q E hr => A.run i f c pm ct ds vs A1 outer s1 HZ M Q E (hr.mono h)⟩
end En
set_option Elab.async false
set_option linter.all false
set_option maxRecDepth 100000
namespace En
open PySem PySem.Spec PyProof.Rows L2
/-! ### what the walk's text calls on -/
abbrev sgOf (K : PySem.W.Frag) (cl : Nat → Addr) (fl : Nat → List Str) (lm : Lm) (tb : List (Addr × Str)) : Sg := { K := K, cls := cl, flds := fl, lm := lm, tabs := tb }
theorem sg_like {K : PySem.W.Frag} {cl : Nat → Addr} {fl : Nat → List Str} {lm : Lm} {tb : List (Addr × Str)} {S' : Sg} (l : Like (sgOf K cl fl lm tb) S') (h : S'.cau = none) : ∃ lm', S' = sgOf K cl fl lm' tb := by
  obtain ⟨K', cl', fl', lm', cau', tb'⟩ := S'
  obtain ⟨h1, h2, h3, h4⟩ := l
  cases h1; cases h2; cases h3; cases h4; cases h
  exact ⟨lm', rfl⟩
def thSB (N : List Str) (sc : Scope) (r : LRec) (caps : List Nat) : Bool :=
  LamX.lamSB sc r.2.2 && (r.2.2.names.all (fun y => match y.2 with | .local => false | .cell => false | _ => true) && r.2.2.names.all fun y => match y.2 with | .free => caps.any fun i => N[i]? == some y.1 | _ => true)
theorem thS_by {N : List Str} {sc : Scope} {r : LRec} {caps : List Nat} (h : thSB N sc r caps = true) (hb : ∀ (q : Str) (cl : List (Str × Addr)) (pm cv ctv : Value), bindArgs (PySem.W.kla_fn "<lambda>" q r.1 r.2.1 r.2.2 cl pm cv ctv) ⟨[], []⟩ = pure []) : ThS N sc r caps := by
  unfold thSB at h
  rw [Bool.and_eq_true, Bool.and_eq_true] at h
  obtain ⟨h1, h2, h3⟩ := h
  refine ⟨LamX.lamS_by h1, h2, hb, fun y hy e => ?_⟩
  have := List.all_eq_true.mp h3 y hy
  rw [e] at this
  obtain ⟨i, hi, e2⟩ := List.any_eq_true.mp this
  obtain ⟨j, hj, e3⟩ := List.getElem_of_mem hi
  have e4 := List.getElem?_eq_getElem hj
  rw [e3] at e4
  exact ⟨j, i, e4, by simpa using e2⟩
section
variable {X : Cx} {K : PySem.W.Frag} {cl : Nat → Addr} {fl : Nat → List Str} {lm : Lm} {tb : List (Addr × Str)} {M0 : MS} {E : XK} {k j lv : Nat} {tab : Nat → LRec} {capk : Nat → List Nat} {LB : Nat → EF} {sb : SF} {ss : List Stmt}
/-- a body that makes lambdas -/
theorem s_maker {c T : Addr} (z : Bd X (sgOf K cl fl lm tb) k E) (TB : LamX.TabB X.base X.mg c T) (hm : (T, X.env.qual ++ "<lambda>") ∈ tb) (hu : ∀ p ∈ tb, p.1 = T → p.2 = X.env.qual ++ "<lambda>") (hcc : ∀ k i, i ∈ capk k → ∃ y, X.N[i]? = some y ∧ X.env.scope.names.lookup y = some .cell)
    (st : ∀ k, ThS X.N X.env.scope (tab k) (capk k) ∨ ∀ env P X, ¬ (LB k).r env P X)
    (body : ∀ (base' : Heap) (lm' : Lm) (k : Nat) (A : Around) (outer : List Env) (s : Shared) (H : Hp) (E : XK) (f c : Addr) (M : MS), Bd (thCx X.prog X.w K X.mg base' A X.N (X.env.qual ++ "<lambda>") (tab k).2.2 f c X.env.cells outer s H E) (sgOf K cl fl lm' tb) lv E →
      (∀ env P X, ¬ (LB k).r env P X) ∨ PE (thCx X.prog X.w K X.mg base' A X.N (X.env.qual ++ "<lambda>") (tab k).2.2 f c X.env.cells outer s H E) (tab k).2.1 (tE (sgOf K cl fl lm' tb) M E (LB k)))
    (h : Bd X (sgOf K cl fl (lmOf (X.env.qual ++ "<lambda>") X.env.cells tab fun _ _ => True) tb) k E → LmY X (sgOf K cl fl (lmOf (X.env.qual ++ "<lambda>") X.env.cells tab fun _ _ => True) tb) tab capk LB lv → PSs X ss (tS (sgOf K cl fl (lmOf (X.env.qual ++ "<lambda>") X.env.cells tab fun _ _ => True) tb) M0 E sb))
    (hco : X.env.code = .ref c := by rfl) (hfn : ∀ y, X.fn y = true := by intro _; rfl) : PSs X ss (tS (sgOf K cl fl lm tb) M0 E (mkS sb)) :=
  s_mk (S' := sgOf K cl fl (lmOf (X.env.qual ++ "<lambda>") X.env.cells tab fun _ _ => True) tb) ⟨rfl, rfl, rfl, rfl⟩ (h (z.sg ⟨rfl, rfl, rfl, rfl⟩) ⟨⟨rfl, c, T, TB, hco, hm, hu⟩, hfn, st, hcc, fun base' S' l hc k A outer s H E f c M zz => by
    obtain ⟨lm', rfl⟩ := sg_like l hc
    exact body base' lm' k A outer s H E f c M zz⟩)
variable {x : Str} {FS : EF} {f : EF} {p pos : Pos} {e : Expr} {g : Addr}
theorem r_callS (z : Bd X (sgOf K cl fl lm tb) k E) (Y : LmY X (sgOf K cl fl lm tb) tab capk LB lv) (hF : ∀ (lm' : Lm) (base' : Heap), Acts X.prog X.w (sgOf K cl fl lm' tb) X.mg base' (lv + 1) (fun k ds => thF X.N.length (capk k) (LB k) ds) → FnC X.prog X.w (sgOf K cl fl lm' tb) X.mg base' j x FS 1) (hj : j ≤ k) (he : PE X e (tE (sgOf K cl fl lm tb) M0 E f))
    (hm : X.mg x = some (.ref g)) (hk : PySem.W.keepIn X.K (.ref g) = true) (hg : Gl X x := by rfl) (hdb : (x == ("__debug__" : Str)) = false := by decide) (hst : starEach [e] X.env = (false, eval e X.env) :: starEach [] X.env := by rfl) (hpl : (backTo pos (starEach [] X.env)).any (·.1) = false := by rfl) :
    PE X (.Call (.Name x p) [e] [] pos) (tE (sgOf K cl fl lm tb) M0 E (callLF fl FS capk f)) :=
  r_callL z Y (fun S' base' l hc hA => by
    obtain ⟨lm', rfl⟩ := sg_like l hc
    exact (hF lm' base' hA).at (z.r.mono hj)) he hm hk hg hdb hst hpl
theorem r_callSR (z : Bd X (sgOf K cl fl lm tb) k E) (Y : LmY X (sgOf K cl fl lm tb) tab capk LB lv) (hF : ∀ (lm' : Lm) (base' : Heap), Acts X.prog X.w (sgOf K cl fl lm' tb) X.mg base' (lv + 1) (fun k ds => thF X.N.length (capk k) (LB k) ds) → FnR X.prog X.w (sgOf K cl fl lm' tb) X.mg base' X.A x FS 1) (he : PE X e (tE (sgOf K cl fl lm tb) M0 E f))
    (hm : X.mg x = some (.ref g)) (hk : PySem.W.keepIn X.K (.ref g) = true) (hg : Gl X x := by rfl) (hdb : (x == ("__debug__" : Str)) = false := by decide) (hst : starEach [e] X.env = (false, eval e X.env) :: starEach [] X.env := by rfl) (hpl : (backTo pos (starEach [] X.env)).any (·.1) = false := by rfl) :
    PE X (.Call (.Name x p) [e] [] pos) (tE (sgOf K cl fl lm tb) M0 E (callLF fl FS capk f)) :=
  r_callL z Y (fun S' base' l hc hA => by
    obtain ⟨lm', rfl⟩ := sg_like l hc
    exact hF lm' base' hA) he hm hk hg hdb hst hpl
end
/-- a def whose code object is told -/
structure FunC (K : PySem.W.Frag) (x qual : Str) (st : Stmt) (g : Addr) (fd : FuncData) (c : Addr) : Prop where
  ex : ∃ (oc dV kV doc pm ct : Value) (od an : Option Addr) (osl : Array (Option Value)), fd = PySem.W.fnOf x qual (defArgs st) (defBody st) (defScope st) dV kV doc pm an (.ref c) ct ∧ K.lookup g = some ⟨oc, od, .func fd, osl⟩ ∧ PySem.W.codeIn K (.ref c) qual = true
theorem fn_AD {P : Program} {w : World} {S : Sg} {mg : Str → Option Value} {base : Heap} {x qual : Str} {st : Stmt} {g c : Addr} {fd : FuncData} {N ps : List Str} {k : Nat} {sb : SF} (F : FunC S.K x qual st g fd c) (kp : PySem.W.keepIn S.K (.ref g) = true) (hb : Binds S.K fd ps []) (Sc : FnScope N ps (defScope st))
    (body : ∀ (M : MS) (A : Around) (outer : List Env) (s : Shared) (H : Hp) (E : XK), Bd (cxOf (L2.CX P w) P w S.K mg base N qual (defScope st) g (.ref c) A outer s H E) S k E →
      PSs (cxOf (L2.CX P w) P w S.K mg base N qual (defScope st) g (.ref c) A outer s H E) (defBody st) (tS S M E sb)) : FnA P w S mg base (k + 1) g fd ps (bodyF N.length ps.length sb) ps.length := by
  obtain ⟨oc, dV, kV, doc, pm, ct, od, an, osl, rfl, lk, hcd⟩ := F.ex
  exact fn_AC lk hcd kp hb Sc body
/-- what the written part says of an exception's class -/
def oexB (K : PySem.W.Frag) (C : Addr) : Bool := match K.lookup C with
  | some ⟨.type "type", _, .cls cd, sl⟩ => (match cd.mro, sl.toList with
    | .ref C' :: bm, [_, _, _, _, some (.builtin n), _] => C' == C && n == "ValueError.__new__" && !cd.hasDel && cd.hasDict && PySem.HandSPX.refsVE bm
    | _, _ => false)
  | _ => false
theorem oex_by {K : PySem.W.Frag} {C : Addr} (q : oexB K C = true) (h1 : PySem.W.findIn K (.ref C) "__setattr__" = some (some (.builtin "object.__setattr__"))) (h2 : PySem.W.subIn K (.ref C) (.type "BaseException") = some true) (h3 : PySem.W.typeIn K (.ref C) = some (.type "type")) (h4 : PySem.W.keepIn K (.ref C) = true) : OexC K C := by
  refine ⟨?_, h1, h2, h3, h4⟩
  unfold oexB at q
  split at q
  · rename_i dd cd sl ho
    split at q
    · rename_i C' bm k0 k1 k2 k3 n k5 hm hs
      simp only [Bool.and_eq_true, beq_iff_eq, Bool.not_eq_true'] at q
      obtain ⟨⟨⟨⟨rfl, rfl⟩, hdel⟩, hdi⟩, ht⟩ := q
      obtain ⟨nm, bs, mro, ns, qn, hd, sn, sub, ab, col, del⟩ := cd
      dsimp only at hm hdel hdi
      subst hm hdel hdi
      have hsl : sl = #[k0, k1, k2, k3, some (.builtin "ValueError.__new__"), k5] := by
        obtain ⟨l⟩ := sl
        simp only at hs
        rw [hs]
      subst hsl
      exact ⟨nm, qn, ns, bs, bm, sn, sub, ab, col, dd, k0, k1, k2, k3, k5, ho, ht⟩
    · cases q
  · cases q
end En
set_option Elab.async false
set_option linter.all false
set_option maxRecDepth 100000
namespace En
open PySem PySem.Spec PyProof.Rows L2
/-! ### where a lambda stands in a body -/
def sAt (ss : List Stmt) (i : Nat) : Stmt := ss.getD i (.Pass ⟨0, 0, 0, 0⟩)
def sSub : Stmt → List Stmt
  | .For _ _ b _ _ => b
  | .If _ b _ _ => b
  | .While _ b _ _ => b
  | _ => []
def sElse : Stmt → List Stmt
  | .For _ _ _ b _ => b
  | .If _ _ b _ => b
  | .While _ _ b _ => b
  | _ => []
def sVal : Stmt → Expr
  | .Assign _ v _ => v
  | .Expr v _ => v
  | .Return (some v) _ => v
  | .If t _ _ _ => t
  | _ => .Name "" ⟨0, 0, 0, 0⟩
def eSub : Expr → List Expr
  | .Call _ l _ _ => l
  | .List l _ => l
  | .Tuple l _ _ => l
  | .UnaryOp _ e _ => [e]
  | .BoolOp _ l _ => l
  | _ => []
def eAt (es : List Expr) (i : Nat) : Expr := es.getD i (.Name "" ⟨0, 0, 0, 0⟩)
def lamR : Expr → LRec
  | .Lambda a b s _ => (a, b, s)
  | e => (⟨[], [], none, [], [], none, []⟩, e, ⟨.function, [], false, false, []⟩)
end En
namespace En
open PySem PySem.Spec
theorem capOk {caps : List Nat} {N : List Str} {sc : Scope} (h : (caps.all fun i => match N[i]? with | some y => decide (sc.names.lookup y = some .cell) | none => false) = true) (i : Nat) (hi : i ∈ caps) : ∃ y, N[i]? = some y ∧ sc.names.lookup y = some .cell := by
  have := List.all_eq_true.mp h i hi
  split at this
  · rename_i y e
    exact ⟨y, e, of_decide_eq_true this⟩
  · cases this
end En
set_option Elab.async false
set_option linter.all false
set_option maxRecDepth 100000
namespace En
open PySem PySem.Spec PyProof.Rows L2
/-! ### d[k], x, y = e, {}, f -/
def parGS (g : GF) (j k : Nat) (l : LE) : SF where
  r := fun env P X => l.r env (fun es env1 => ∃ d o d3, es = [.val d, .new o, .val d3] ∧ g.r d env1 (fun env2 => ∃ env3, putEs [j, k] [.new o, .val d3] env2 = some env3 ∧ P.nx env3) X) X
  m := fun hp hx h => l.m (fun _ _ ⟨d, o, d3, e, h1⟩ => ⟨d, o, d3, e, g.m (fun _ ⟨env3, h1, h2⟩ => ⟨env3, h1, hp.nx _ h2⟩) hx h1⟩) hx h
section
variable {X : Cx} {S : Sg} {M0 : MS} {E : XK} {a b c tg : Expr} {lp : LE} {g : GF} {pos : Pos} {y z : Str} {j k : Nat}
theorem s_parG {py pz pt : Pos} {kt k2 pt2} (hc : X.calm = true) (hN : X.N.Nodup) (ha : PA X [a, b, c] (tP S M0 E lp)) (hg : PG X tg (tG S M0 E g)) (hj : X.N[j]? = some y := by rfl) (hk : X.N[k]? = some z := by rfl)
    (hy : Loc X.env.scope y := by first | exact Or.inl rfl | exact Or.inr rfl) (hz : Loc X.env.scope z := by first | exact Or.inl rfl | exact Or.inr rfl)
    (fy : X.fn y = true ∨ X.env.scope.names.lookup y = some .local := by first | exact .inl rfl | exact .inr rfl) (fz : X.fn z = true ∨ X.env.scope.names.lookup z = some .local := by first | exact .inl rfl | exact .inr rfl) (hjk : j ≠ k := by decide)
    (hs : swapsWithSole [.Tuple [tg, .Name y py, .Name z pz] kt pt] (.Tuple [a, b, c] k2 pt2) pos.line X.env = pure false := by rfl) (hw : swappedStores [.Tuple [tg, .Name y py, .Name z pz] kt pt] (.Tuple [a, b, c] k2 pt2) X.env = pure none := by rfl)
    (h1 : (assignEach [.Tuple [tg, .Name y py, .Name z pz] kt pt] X.env).map (·.2) = [assign (.Tuple [tg, .Name y py, .Name z pz] kt pt) X.env] := by rfl)
    (hn : (assignEach [tg, .Name y py, .Name z pz] X.env).length = 3 := by rfl) (hst : (assignEach [tg, .Name y py, .Name z pz] X.env).findIdx? (·.1) = none := by rfl)
    (hs1 : (assignEach [tg, .Name y py, .Name z pz] X.env).map (·.2) = assign tg X.env :: (assignEach [.Name y py, .Name z pz] X.env).map (·.2) := by rfl) (hs2 : (assignEach [.Name y py, .Name z pz] X.env).map (·.2) = assign (.Name y py) X.env :: (assignEach [.Name z pz] X.env).map (·.2) := by rfl) (hs3 : (assignEach [.Name z pz] X.env).map (·.2) = assign (.Name z pz) X.env :: (assignEach [] X.env).map (·.2) := by rfl) :
    PS X (.Assign [.Tuple [tg, .Name y py, .Name z pz] kt pt] (.Tuple [a, b, c] k2 pt2) pos) (tS S M0 E (parGS g j k lp)) :=
  PS.imp (ps_asg (pe_tup ha) (pg_tup hc (pgs_cons hg (pgs_cons (pg_name hN hj hy fy) (pgs_cons (pg_name hN hk hz fz) pgs_nil hs3) hs2) hs1) hn hst) hs hw h1) fun D σ H h => by
    obtain ⟨B, ow, env, s, h⟩ := h
    refine ⟨B, ow, env, s, lp.m (fun es env1 h1 vs H1 ow1 M st1 kk1 => ?_) (fun _ _ h => h) h⟩
    obtain ⟨d, o, d3, rfl, hg⟩ := h1
    obtain ⟨u, _, rfl, ru, q, _, rfl, h0, na, n0, ro, w, _, rfl, rw, rfl, s1, hm⟩ := kk1
    refine ⟨line100 (by simp), fun p hp => ?_⟩
    have gr : Grow H1 (upd H1 p (.tup [u, .ref q, w])) := .upd hp
    refine ⟨p, _, rfl, .of upd_same, rfl, u, _, rfl, ?_⟩
    have s2 := s1.grow gr
    have sub : ∀ b, Md (plus B q) ow1 b → M b := fun b z => (hm b).mp z
    have bus : ∀ b, M b → Md (plus B q) ow1 b := fun b z => (hm b).mpr z
    have mv : ∀ b o, Nt o → ¬ M b → H1 b = some o → upd H1 p (.tup [u, .ref q, w]) b = some o ∧ ¬ Md (plus B q) ow1 b := fun b o _ n e => ⟨gr b o e, fun z => n (sub b z)⟩
    refine ⟨plus B q, ow1, env1, d, s2, Rep.move mv _ _ ru, g.m (fun env2 hq σ2 H2 ow2 st2 s3 => ?_) (fun _ _ h => h.stp (st1.trans (.grow gr))) hg⟩
    obtain ⟨env3, q1, q2⟩ := hq
    obtain ⟨env4, q3, q4⟩ := Option.bind_eq_some_iff.mp (show (putEs [k] [.val d3] env2).bind (putE j (.new o)) = some env3 from q1)
    obtain ⟨env5, q5, q6⟩ := Option.bind_eq_some_iff.mp (show (putEs [] [] env2).bind (putE k (.val d3)) = some env4 from q3)
    cases q5
    have no1 : some q ∉ ow1 := s1.dis q (.inr rfl)
    obtain ⟨ho', hho⟩ := s2.trk q (.inr rfl)
    have nq2 : some q ∉ ow2 := s3.dis q (.inr rfl)
    have mv2 : ∀ b o, Nt o → ¬ Md (plus B q) ow1 b → upd H1 p (.tup [u, .ref q, w]) b = some o → H2 b = some o ∧ ¬ Md (plus B q) ow2 b := fun b o t n e => ⟨st2.kp b o t (fun z => n (.inr z)) e, fun z => by
      rcases z with z | z
      · exact n (.inl z)
      · rcases st2.nw b z with z | z
        · exact n (.inr z)
        · rw [z] at e; cases e⟩
    have rw2 : Rep S (Md (plus B q) ow2) H2 d3 w := Rep.move mv2 _ _ (Rep.move mv _ _ rw)
    have ro1 : ObRep S (Md (plus B q) ow1) (upd H1 p (.tup [u, .ref q, w])) q o := ro.move (fun u _ e => gr q u e) mv
    have ro2 : ObRep S (Md (plus B q) ow2) H2 q o := ro1.move (fun u t e => st2.kp q u t no1 e) mv2
    have nq : ¬ Md B ow2 q := fun z => by
      rcases z with z | z
      · exact na (.inl z)
      · exact nq2 z
    unfold putE at q6
    split at q6
    · cases q6
    · rename_i sl he
      split at q6
      · cases q6
      · rename_i n
        cases q6
        have s4 := s3.setV (i := k) (w := some w) he (by simpa using n) (.inr ⟨d3, w, rfl, rfl, rw2.anti fun b z => md_set b z⟩)
        have ro3 : ObRep S (Md (plus B q) (ow2.set k none)) H2 q o := ro2.anti fun b z => md_set b z
        unfold putE at q4
        split at q4
        · cases q4
        · rename_i sl2 he2
          split at q4
          · cases q4
          · rename_i n2
            cases q4
            have s5 := s4.setNew (fun z => nq (md_set q z)) n0 ro3 he2 (by simpa using n2)
            refine ⟨.ref q, _, rfl, w, [], rfl, rfl, ?_⟩
            rw [List.set_comm _ _ hjk]
            refine q2 _ _ _ ?_ s5
            exact ((st1.trans (.grow gr)).trans st2).setNone.setNew h0
end
end En
set_option Elab.async false
set_option linter.all false
set_option maxRecDepth 100000
namespace En
open PySem PySem.Spec PyProof.Rows L2
/-! ### where nothing is being shown: the promises of defs that call repr -/
structure FnG (P : Program) (w : World) (K : PySem.W.Frag) (mg : Str → Option Value) (base : Heap) (CX : CXT) (k : Nat) (f : Addr) (fd : FuncData) (ps : List Str) (sp : Sp) : Prop where
  ln : ∀ vs H Q E, sp vs H Q E → vs.length = ps.length
  go : ∀ (A : Around) (stk : List Env) (s : Shared) (H : Hp) (ags : Args) (us : List Value) (vs : List V) (Q : VK) (E : XK), A.guards = some [] → Room k A → Env0 P w K mg base A stk s H →
    BindsTo s fd ags (ps.zip us) → Vals vs us → sp vs H Q E → codeAny (model P w) A (.call (.ref f) ags) (CR CX stk P w H s Q E) s
theorem FnG.of {P : Program} {w : World} {K : PySem.W.Frag} {mg : Str → Option Value} {base : Heap} {CX : CXT} {k : Nat} {f : Addr} {fd : FuncData} {ps : List Str} {sp : Sp} (F : FnOk P w K mg base CX k f fd ps sp) : FnG P w K mg base CX k f fd ps sp :=
  ⟨F.len, fun A stk s H ags us vs Q E _ => F.run A stk s H ags us vs Q E⟩
/-- a def of the text, by its body -/
theorem fn_ofG {CX : CXT} {P : Program} {w : World} {K : PySem.W.Frag} {mg : Str → Option Value} {base : Heap} {k : Nat} {g : Addr} {nm ql : Str} {prm : Arguments} {bdy : List Stmt} {sc : Scope} {dV kV doc pm cdv ct oc : Value} {an od : Option Addr} {osl : Array (Option Value)} {N ps : List Str} {sp : Sp}
    (at_ : K.lookup g = some ⟨oc, od, .func (PySem.W.fnOf nm ql prm bdy sc dV kV doc pm an cdv ct), osl⟩) (cin : PySem.W.codeIn K cdv ql = true) (Sc : FnScope N ps sc) (ln : ∀ vs H Q E, sp vs H Q E → vs.length = ps.length)
    (hb : ∀ (A : Around) (stk : List Env) (s : Shared) (H : Hp) (vs : List V) (Q : VK) (E : XK), A.guards = some [] → Room k (A.deeper (envOfC ql sc s.heap.objs.size g cdv)) → sp vs H Q E →
      ∃ t, PSs (cxOf CX P w K mg base N ql sc g cdv A stk s H E) bdy t ∧ t { nx := fun _ H1 => Q .non H1, rt := Q } (L2.start N vs) H) :
    FnG P w K mg base CX (k + 1) g (PySem.W.fnOf nm ql prm bdy sc dV kV doc pm an cdv ct) ps sp := ⟨ln, fun A stk s H ags us vs Q E gd rm ev bd rv hq => by
  have old : ∀ b o, base.get? b = some o → s.heap.get? b = some o := fun b o e => (ev.bs b o e).1
  have kin : K.In s.heap := ev.mod.kin.keeps old
  have nol : s.heap.NoLimit := ev.mod.nolimit.keeps old
  have kinds : ∀ y ∈ ps.zip us, sc.names.lookup y.1 = some .local ∨ (sc.names.lookup y.1 = some .cell ∧ ((cellsFrom (s.heap.objs.size + 1) sc.names []).lookup y.1).isSome = true) := by
    rintro ⟨n, v⟩ hy
    cases Sc.par n (List.of_mem_zip hy).1 with
    | inl q => exact .inl q
    | inr q => exact .inr ⟨q, PySem.W.cellsFrom_some _ _ _ (.inl q)⟩
  refine codeAny_call_function rm.depth (kin _ _ at_) rfl Sc.co Sc.gen rfl (PySem.W.codeRec_of kin cin) (bd _ _ _ _ (wpAny_newFunctionEnv_cells Sc.kind kinds fun env he s1 x => ?_))
  subst he
  obtain ⟨t, ht, tq⟩ := hb A stk s H vs Q E gd (rm.deeper _) hq
  refine ⟨nol.keeps x.toInCall.keep, codeAny_func (wpAny_mono (ht.run [] s1 (L2.start N vs) H _ (inv_start Sc rm.hd ev (ln _ _ _ _ hq) rv x) tq) (fun fl s2 z => ?_) fun _ _ z => z)⟩
  match fl, z with
  | .ret u, ⟨v, σ1, H1, J, ru, q⟩ => exact ⟨v, H1, J.os, J.bare, J.base, J.hok, ru, q⟩
  | .next, ⟨σ1, H1, J, q⟩ => exact ⟨V.non, H1, J.os, J.bare, J.base, J.hok, rfl, q⟩
  | .brk, ⟨_, _, _, q⟩ => exact q.elim
  | .cont, ⟨_, _, _, q⟩ => exact q.elim⟩
structure FnGA (P : Program) (w : World) (S : Sg) (mg : Str → Option Value) (base : Heap) (k : Nat) (f : Addr) (fd : FuncData) (ps : List Str) (FS : EF) (n : Nat) : Prop where
  fn : FnG P w S.K mg base (L2.CX P w) k f fd ps (spD S FS n)
  kp : PySem.W.keepIn S.K (.ref f) = true
  bd : Binds S.K fd ps []
structure FnGC (P : Program) (w : World) (S : Sg) (mg : Str → Option Value) (base : Heap) (k : Nat) (x : Str) (FS : EF) (n : Nat) : Prop where
  ex : ∃ (f : Addr) (fd : FuncData) (ps : List Str), FnG P w S.K mg base (L2.CX P w) k f fd ps (spD S FS n) ∧ mg x = some (.ref f) ∧ PySem.W.keepIn S.K (.ref f) = true ∧ Binds S.K fd ps []
section
variable {P : Program} {w : World} {S : Sg} {mg : Str → Option Value} {base : Heap} {x qual : Str} {st : Stmt} {g : Addr} {fd : FuncData} {N ps : List Str} {k j n : Nat} {sb : SF} {FS : EF} {A : Around}
theorem FnGA.c {f : Addr} (h : FnGA P w S mg base k f fd ps FS n) (hm : mg x = some (.ref f)) : FnGC P w S mg base k x FS n := ⟨f, fd, ps, h.fn, hm, h.kp, h.bd⟩
theorem FnGC.at (c : FnGC P w S mg base j x FS n) (r : Room j A) (gd : A.guards = some []) : FnR P w S mg base A x FS n := by
  obtain ⟨f, fd, ps, h1, h2, h3, h4⟩ := c.ex
  exact ⟨f, fd, ps, ⟨h1.ln, fun stk s H ags us vs Q E => h1.go A stk s H ags us vs Q E gd r⟩, h2, h3, h4⟩
theorem fn_AG (F : Fun S.K x qual st g fd) (hb : Binds S.K fd ps []) (Sc : FnScope N ps (defScope st))
    (body : ∀ (M : MS) (cdv : Value) (A : Around) (outer : List Env) (s : Shared) (H : Hp) (E : XK), A.guards = some [] → Bd (cxOf (L2.CX P w) P w S.K mg base N qual (defScope st) g cdv A outer s H E) S k E →
      PSs (cxOf (L2.CX P w) P w S.K mg base N qual (defScope st) g cdv A outer s H E) (defBody st) (tS S M E sb)) : FnGA P w S mg base (k + 1) g fd ps (bodyF N.length ps.length sb) ps.length := by
  obtain ⟨oc, od, kV, doc, pm, an, cdv, ct, osl, rfl, lk, hcd⟩ := F.ex
  exact ⟨fn_ofG lk hcd Sc spD_len fun A outer s H vs Q E gd hr hsp => by
    obtain ⟨M, hM⟩ := body_run rfl hsp
    exact ⟨_, body M cdv A outer s H E gd ⟨rfl, rfl, Sc.nd, hr, L2.takes_of rfl rfl rfl rfl⟩, hM⟩, F.kp, hb⟩
theorem fn_ADG {c : Addr} (F : FunC S.K x qual st g fd c) (kp : PySem.W.keepIn S.K (.ref g) = true) (hb : Binds S.K fd ps []) (Sc : FnScope N ps (defScope st))
    (body : ∀ (M : MS) (A : Around) (outer : List Env) (s : Shared) (H : Hp) (E : XK), A.guards = some [] → Bd (cxOf (L2.CX P w) P w S.K mg base N qual (defScope st) g (.ref c) A outer s H E) S k E →
      PSs (cxOf (L2.CX P w) P w S.K mg base N qual (defScope st) g (.ref c) A outer s H E) (defBody st) (tS S M E sb)) : FnGA P w S mg base (k + 1) g fd ps (bodyF N.length ps.length sb) ps.length := by
  obtain ⟨oc, dV, kV, doc, pm, ct, od, an, osl, rfl, lk, hcd⟩ := F.ex
  exact ⟨fn_ofG lk hcd Sc spD_len fun A outer s H vs Q E gd hr hsp => by
    obtain ⟨M, hM⟩ := body_run rfl hsp
    exact ⟨_, body M A outer s H E gd ⟨rfl, rfl, Sc.nd, hr, L2.takes_of rfl rfl rfl rfl⟩, hM⟩, kp, hb⟩
end
section
variable {X : Cx} {S : Sg} {M0 : MS} {E : XK} {k j n : Nat} {x : Str} {FS : EF} {la : LA} {p pos : Pos} {e : Expr} {es : List Expr}
theorem r_cR (z : Bd X S k E) (c : FnR X.prog X.w S X.mg X.base X.A x FS n) (ha : PA X (e :: es) (tAg S M0 E la)) (hg : Gl X x := by rfl) (hdb : (x == ("__debug__" : Str)) = false := by decide) (he : starEach (e :: es) X.env = (false, eval e X.env) :: starEach es X.env := by rfl) (hpl : (backTo pos (starEach es X.env)).any (·.1) = false := by rfl) :
    PE X (.Call (.Name x p) (e :: es) [] pos) (tE S M0 E (callF FS n la)) := by
  obtain ⟨f, fd, ps, ⟨h1, h1'⟩, h2, h3, h4⟩ := c.ex
  rw [← z.q] at h1' h3 h4
  refine PE.imp (t := tCall (spD S FS n) [] E (tAg S M0 E la)) ⟨fun pins s σ H Q I h => ?_⟩ fun σ H Q h => call_of h
  refine wpAny_Call_Name_kw (ld_glob I hg h2 ?_ hdb)
  refine PySem.W.callWith_K (h₀ := X.base) I.ok.mod.kin h3 (thn (ha.run pos pins s σ H _ I h) fun us s1 ⟨vs, H1, I1, r, q⟩ => ⟨I1.kIn, ?_⟩) he hpl
  have q : spD S FS n (vs ++ []) H1 Q E := q
  rw [List.append_nil] at q
  show wpAny _ _ (call (.ref f) us) _ _ _
  have len : us.length = ps.length := by rw [← r.length]; exact h1 _ _ _ _ q
  have bnd := h4 s1 us I1.kIn (by simpa using len)
  rw [List.append_nil] at bnd
  refine wpAny_call (codeAny_mono (h1' X.stack s1 H1 ⟨us, []⟩ us vs Q E I1.env0 bnd r q) fun res s2 hq => ?_)
  match res, hq with
  | .error er, hq => exact z.hx pins σ H1 s1 er s2 I1 hq
  | .ok (.ret u), hq => exact I1.after hq
  | .ok .next, hq => exact hq.elim
  | .ok .brk, hq => exact hq.elim
  | .ok .cont, hq => exact hq.elim
end
/-! ### repr, where nothing is being shown -/
/-- the text that repr gives -/
def shB (d : D) : Bool := okN d 60 && PyData.showable d.py && decide (d.py.shown.length ≤ sizeLine)
def reprG : D → Option D
  | .tup ds => if shB (.tup ds) then some (.str (D.tup ds).py.shown) else none
  | .lst ds => if shB (.lst ds) then some (.str (D.lst ds).py.shown) else none
  | .nms xs => if shB (.nms xs) then some (.str (D.nms xs).py.shown) else none
  | d => reprD d
mutual
theorem okN_nd : ∀ (d : D) (n : Nat), okN d n = true → d.py.hasDict = false
  | .non, _, _ => by simp [D.py, PyData.hasDict]
  | .bl _, _, _ => by simp [D.py, PyData.hasDict]
  | .int _, _, _ => by simp [D.py, PyData.hasDict]
  | .str _, _, _ => by simp [D.py, PyData.hasDict]
  | .tup ds, 0, h => by simp [okN] at h
  | .tup ds, n + 1, h => by
    have := okL_nd ds n (by simpa [okN] using h)
    simp [D.py, PyData.hasDict, this]
  | .lst ds, 0, h => by simp [okN] at h
  | .lst ds, n + 1, h => by
    have := okL_nd ds n (by simpa [okN] using h)
    simp [D.py, PyData.hasDict, this]
  | .dK _ _, n, h => by simp [okN] at h
  | .dT _ _, n, h => by simp [okN] at h
  | .ins _ _, n, h => by simp [okN] at h
  | .fn _ _, n, h => by simp [okN] at h
  | .exc _ _, n, h => by simp [okN] at h
  | .nms xs, 0, h => by simp [okN] at h
  | .nms xs, n + 1, h => by
    have : PyData.hasDictAll (xs.map PyData.str) = false := by
      clear h
      induction xs with
      | nil => simp [PyData.hasDictAll]
      | cons x xs ih => simp [PyData.hasDictAll, PyData.hasDict, ih]
    simp [D.py, PyData.hasDict, this]
theorem okL_nd : ∀ (ds : List D) (n : Nat), okL ds n = true → PyData.hasDictAll (D.pyL ds) = false
  | [], n, _ => by simp [D.pyL, PyData.hasDictAll]
  | d :: ds, n, h => by
    have h : okN d n = true ∧ okL ds n = true := by simpa [okL] using h
    simp [D.pyL, PyData.hasDictAll, okN_nd d n h.1, okL_nd ds n h.2]
end
section
variable {X : Cx} {S : Sg} {M0 : MS} {E : XK} {e : Expr} {f : EF} {p pos : Pos}
theorem repr_big {pins : List (Addr × Obj)} {σ : L2.St} {H : Hp} {s : Shared} {M : MS} {d : D} {x : V} {u : Value} {Q : VK} (I : Inv X pins σ H s) (hk : X.K = S.K) (gd : X.A.guards = some []) (hu : X.A.units + 100 < cLine) (hr : RepT S M H d x) (rv : RelV x u) (hx : ∃ a, x = .ref a) (hs : shB d = true) (q : Q (.str d.py.shown) H) :
    wpAny (model X.prog X.w) X.A (call (.builtin "repr") [u]) (EP X pins σ Q) X.xe s := by
  unfold shB at hs
  simp only [Bool.and_eq_true, decide_eq_true_eq] at hs
  obtain ⟨⟨h1, h2⟩, h3⟩ := hs
  have dp := Rep.dp d 60 x h1 hr
  rw [← hk] at dp
  obtain ⟨as, rd⟩ := Dp.reads I _ _ _ dp rv
  obtain ⟨a, rfl⟩ := hx
  obtain rfl : u = .ref a := rv
  have dep := (okN_py d 60 h1).2
  exact repr_of_reads' rd h2 (PyData.noDict_hsm (okN_nd d 60 h1)) gd (by omega) (fun _ _ z => z) (fun h' u tk kp => ⟨V.str d.py.shown, H, I.kept (t' := tk) kp, ⟨_, rfl⟩, q⟩) h3
theorem call_reprG (hk : X.K = S.K) (gd : X.A.guards = some []) (hu : X.A.units + 100 < cLine) : CallR X (.builtin "repr") (fun xs H Q => ∃ M x d t, xs = [x] ∧ RepT S M H d x ∧ reprG d = some (.str t) ∧ Q (.str t) H) := by
  intro pins s σ H xs us Q I r h
  obtain ⟨M, x, d, t, rfl, rx, hc, q⟩ := h
  obtain ⟨u, rfl, ru⟩ := vals1 r
  have small : ∀ c, reprD d = some c → c = .str t → (∀ v, Rep S (fun _ => False) H d v ↔ RepT S M H d v) → wpAny (model X.prog X.w) X.A (call (.builtin "repr") [u]) (EP X pins σ Q) X.xe s := fun c e1 e2 hh =>
    call_reprP (X := X) (S := S) pins s σ H [x] [u] Q I r ⟨x, d, c, rfl, (hh x).mpr rx, e1, fun v hv => by subst e2; rw [show v = _ from hv]; exact q⟩
  unfold reprG at hc
  split at hc
  · split at hc
    · rename_i hz
      cases hc
      obtain ⟨a, vs, rfl, _⟩ := RepT.tup rx
      exact repr_big I hk gd hu rx ru ⟨_, rfl⟩ hz q
    · cases hc
  · split at hc
    · rename_i hz
      cases hc
      obtain ⟨a, vs, rfl, _⟩ := RepT.lst rx
      exact repr_big I hk gd hu rx ru ⟨_, rfl⟩ hz q
    · cases hc
  · split at hc
    · rename_i hz
      cases hc
      have rx' : ∃ a o, x = .ref a ∧ ¬ M a ∧ H a = some (.frz o (.tup _)) ∧ o.dict = none := rx
      obtain ⟨a, o, rfl, _⟩ := rx'
      exact repr_big I hk gd hu rx ru ⟨_, rfl⟩ hz q
    · cases hc
  · cases d with
    | non => exact small _ hc rfl fun v => Iff.rfl
    | bl b => exact small _ hc rfl fun v => Iff.rfl
    | int i => exact small _ hc rfl fun v => Iff.rfl
    | str z => exact small _ hc rfl fun v => Iff.rfl
    | _ => cases hc
theorem reprG_str {d c : D} (h : reprG d = some c) : ∃ t, c = .str t := by
  unfold reprG at h
  split at h
  · split at h <;> cases h; exact ⟨_, rfl⟩
  · split at h <;> cases h; exact ⟨_, rfl⟩
  · split at h <;> cases h; exact ⟨_, rfl⟩
  · unfold reprD at h
    split at h
    · cases h; exact ⟨_, rfl⟩
    · cases h; exact ⟨_, rfl⟩
    · split at h <;> cases h; exact ⟨_, rfl⟩
    · split at h <;> cases h; exact ⟨_, rfl⟩
    · cases h
theorem r_reprG (hk : X.K = S.K) (gd : X.A.guards = some []) (hu : X.A.units + 100 < cLine) (hm : X.mg "repr" = none) (ha : PE X e (tE S M0 E f)) (hg : Gl X "repr" := by rfl)
    (he : starEach [e] X.env = (false, eval e X.env) :: starEach [] X.env := by rfl) (hpl : (backTo pos (starEach [] X.env)).any (·.1) = false := by rfl) : PE X (.Call (.Name "repr" p) [e] [] pos) (tE S M0 E (unF S.flds reprG f)) :=
  PE.imp (pe_callB (call_reprG (S := S) hk gd hu) hg hm (by decide +kernel) (pa_cons ha pa_nil he) (by decide) (by decide) he hpl) fun σ H Q h =>
    un_of (T := fun y H Q => ∃ M x d t, [y] = [x] ∧ RepT S M H d x ∧ reprG d = some (.str t) ∧ Q (.str t) H) (fun y H Q ⟨M, d, r, hd, hg, ht, k⟩ => by
      obtain ⟨t, rfl⟩ := reprG_str hg
      exact ⟨M, y, d, t, rfl, hd, hg, k _ H .rfl' rfl⟩) h
end
/-! ### the end, where nothing is being shown -/
/-- the tables, and the script where it is no object of the written part -/
def hpOf (K : PySem.W.Frag) (cs : List (Addr × Addr)) (a : Addr) (ob : Obj) (xs : List V) : Hp := fun b =>
  if b ∈ cs.map (·.2) then some (.tbl #[]) else if b = a ∧ (K.lookup a).isNone = true then some (.frz ob (.lst xs)) else none
theorem law_atG {P : Program} {w : World} {K : PySem.W.Frag} {mg mb : Str → Option Value} {CX : CXT} {k : Nat} {fa a : Addr} {cs : List (Addr × Addr)} {fd : FuncData} {x : Str} {sp : Sp} {s1 : Shared} {vs : List Value} {ns : List Int}
    (kin : K.In s1.heap) (gl : s1.heap.Ns mainGlobals mg) (bl : s1.heap.Ns builtinsNs mb) (bb : ∀ y : Str, y ≠ "__name__" → mb y = bootBuiltins y) (nol : s1.heap.NoLimit) (ng : s1.gens = #[])
    (tE : ∀ p ∈ cs, s1.heap.get? p.2 = some { cls := .none, data := .fields #[] }) (tN : ∀ p ∈ cs, K.lookup p.2 = none) (tC : ∀ p ∈ cs, PySem.W.CodeHd s1.heap p.1 p.2)
    (bmn : ∃ (bm : Addr) (ob : Obj), mg "__builtins__" = some (.ref bm) ∧ bm ≠ builtinsNs ∧ s1.heap.get? bm = some ob ∧ ob.cls = .type "module" ∧ ob.dict = some builtinsNs ∧ ob.data = .plain)
    (sc : s1.heap.get? a = some { cls := .type "list", data := .seq vs.toArray }) (hin : IntsAre vs ns) (sz : ns.length ≤ sizeLine) (rm : Room k callerA)
    (F : ∀ base : Heap, K.In base → base.Ns mainGlobals mg → (∀ p ∈ cs, LamX.TabB base mg p.1 p.2) → FnG P w K mg base CX k fa fd [x] sp) (bnd : ∀ (s : Shared) (u : Value), BindsTo s fd ⟨[u], []⟩ [(x, u)])
    (hsp : ∀ H : Hp, (∀ p ∈ cs, H p.2 = some (.tbl #[])) → SqL K H a (ns.map V.int) → sp [.ref a] H (fun v _ => v = .bl true) fun _ _ _ => False)
    (nox : ∀ H e s2, CX [] H s1 (fun _ _ _ => False) e s2 → False) :
    codeAny (model P w) callerA (.call (.ref fa) ⟨[.ref a], []⟩) (fun r s2 => r = .ok (.ret (.bool true)) ∧ OldK s1.heap s2.heap ∧ s2.os = s1.os ∧ AllBare s2.gens) s1 := by
  have vi := vals_ints hin
  have nv := hin.length
  have tmem : ∀ p ∈ cs, p.2 ∈ cs.map (·.2) := fun p hp => List.mem_map_of_mem hp
  have tobj : ∀ b ∈ cs.map (·.2), s1.heap.get? b = some { cls := .none, data := .fields #[] } := by
    intro b hb
    obtain ⟨p, hp, rfl⟩ := List.mem_map.mp hb
    exact tE p hp
  have anT : a ∉ cs.map (·.2) := fun z => by
    have := (tobj a z).symm.trans sc
    cases Option.some.inj this
  generalize hHd : hpOf K cs a { cls := .type "list", data := .seq vs.toArray } (ns.map V.int) = H
  have hT : ∀ b ∈ cs.map (·.2), H b = some (.tbl #[]) := fun b hb => by rw [← hHd]; exact if_pos hb
  have hA : (K.lookup a).isNone = true → H a = some (.frz { cls := .type "list", data := .seq vs.toArray } (.lst (ns.map V.int))) := fun z => by
    rw [← hHd]; exact (if_neg anT).trans (if_pos ⟨rfl, z⟩)
  have hN : ∀ b, b ∉ cs.map (·.2) → ¬ (b = a ∧ (K.lookup a).isNone = true) → H b = none := fun b h1 h2 => by rw [← hHd]; exact (if_neg h1).trans (if_neg h2)
  have cases3 : ∀ b, b ∈ cs.map (·.2) ∨ (b = a ∧ (K.lookup a).isNone = true) ∨ H b = none := fun b => by
    by_cases h1 : b ∈ cs.map (·.2)
    · exact .inl h1
    · by_cases h2 : b = a ∧ (K.lookup a).isNone = true
      · exact .inr (.inl h2)
      · exact .inr (.inr (hN b h1 h2))
  have hok : HOk P w H s1.heap := fun b u e => by
    rcases cases3 b with h | h | h
    · rw [hT b h] at e
      cases e
      exact tobj b h
    · rw [h.1, hA h.2] at e
      cases e
      rw [h.1]
      exact ⟨sc, by simpa using sz, vs, _, vi, sc⟩
    · rw [h] at e; cases e
  have free : ∀ {b : Addr} {o : Obj}, s1.heap.get? b = some o → (∀ q n, o.data ≠ .seq q n) → o.data ≠ .fields #[] → H b = none := fun {b o} e n1 n2 => by
    rcases cases3 b with h | h | h
    · rw [tobj b h] at e; cases e; exact absurd rfl n2
    · rw [h.1, sc] at e; cases e; exact absurd rfl (n1 _ _)
    · exact h
  have keep : ∀ {b : Addr} {o : Obj}, s1.heap.get? b = some o → (∀ q n, o.data ≠ .seq q n) → o.data ≠ .fields #[] → (hidT s1.heap H).get? b = some o := fun e n1 n2 => hidT_get e (free e n1 n2)
  have dct : ∀ {es : Array DictEntry} {ep : Nat}, (∀ q n, Data.dict es ep ≠ .seq q n) ∧ Data.dict es ep ≠ .fields #[] := ⟨fun _ _ z => (nomatch z), fun z => (nomatch z)⟩
  have nsK : ∀ {b : Addr} {m : Str → Option Value}, s1.heap.Ns b m → (hidT s1.heap H).Ns b m := by
    rintro b m ⟨o, es, ep, e, d, r⟩
    exact ⟨o, es, ep, keep e (by rw [d]; exact dct.1) (by rw [d]; exact dct.2), d, r⟩
  have kinB : K.In (hidT s1.heap H) := fun b o e => hidT_get (kin b o e) (by
    rcases cases3 b with h | h | h
    · obtain ⟨p, hp, rfl⟩ := List.mem_map.mp h
      rw [tN p hp] at e; cases e
    · rw [h.1] at e
      have := h.2
      rw [e] at this; cases this
    · exact h)
  have md : L2.Mod K mg (hidT s1.heap H) := ⟨kinB, nsK gl, ⟨mb, nsK bl, bb⟩, by obtain ⟨mc, z1, z2⟩ := nol; exact ⟨mc, nsK z1, z2⟩⟩
  have mainT : ∀ p ∈ cs, mainGlobals ≠ p.2 := fun p hp z => by
    obtain ⟨o, es, ep, e, hd, _⟩ := gl
    rw [z, tE p hp] at e; cases e; cases hd
  have tB : ∀ p ∈ cs, LamX.TabB (hidT s1.heap H) mg p.1 p.2 := fun p hp => by
    refine ⟨?_, ?_, mainT p hp⟩
    · obtain ⟨o, us, file, tf, flags, tg, inF, text, tt, e1, r1, r2, r3, rest⟩ := tC p hp
      refine ⟨o, us, file, tf, flags, tg, inF, text, tt, keep e1 (fun q n z => by rw [r2] at z; cases z) (fun z => by rw [r2] at z; cases z; simp at r3), r1, r2, r3, rest⟩
    · obtain ⟨bm, ob, b1, b2, b3, b4, b5, b6⟩ := bmn
      refine ⟨bm, ob, b1, b2, fun q => ?_, fun q => ?_, keep b3 (fun q n z => by rw [b6] at z; cases z) (fun z => by rw [b6] at z; cases z), b4, b5, b6⟩
      · obtain ⟨o, es, ep, e, hd, _⟩ := gl
        rw [q, e] at b3; cases b3
        rw [hd] at b6; cases b6
      · rw [q, tE p hp] at b3; cases b3; cases b6
  have sq : SqL K H a (ns.map V.int) := by
    cases hl : K.lookup a with
    | none => exact .inl (.inr ⟨_, hA (by rw [hl]; rfl)⟩)
    | some o =>
      have e := kin a o hl
      rw [sc] at e; cases e
      exact .inr ⟨_, vs.toArray, _, hl, rfl, rfl, rfl, by rw [List.size_toArray, nv]; exact sz, by simpa using vi⟩
  have e0 : Env0 P w K mg (hidT s1.heap H) callerA [] s1 H := ⟨rfl, md, fun b o e => of_hidT e, Nat.le_of_eq (hidT_size _ _), trivial, fun b hb => absurd hb (List.not_mem_nil), hok, .of_eq ng⟩
  refine codeAny_mono ((F _ kinB (nsK gl) tB).go callerA [] s1 H ⟨[.ref a], []⟩ [.ref a] [.ref a] _ _ rfl rm e0 (bnd s1 (.ref a)) (.cons rfl .nil) (hsp H (fun p hp => hT _ (tmem p hp)) sq)) fun r s2 hr => ?_
  match r, hr with
  | .error e, hr => exact (nox H e s2 hr).elim
  | .ok .next, hr => exact hr.elim
  | .ok .brk, hr => exact hr.elim
  | .ok .cont, hr => exact hr.elim
  | .ok (.ret u), ⟨v, H2, os, bare, un, hok2, ru, q⟩ =>
    have q : v = .bl true := q
    subst q
    obtain rfl : u = Value.bool true := ru
    have stay : ∀ b o, b ∉ cs.map (·.2) → s1.heap.get? b = some o → s2.heap.get? b = some o := fun b o nb e => by
      rcases cases3 b with h | h | h
      · exact absurd h nb
      · have z1 := hA h.2
        have z2 := un.frzs a _ _ z1
        rw [h.1, sc] at e; cases e
        rw [h.1]; exact (hok2 a _ z2).1
      · exact un.keep b o e h List.not_mem_nil (by simp)
    have grown : ∀ p ∈ cs, ∃ more : Array Value, s2.heap.get? p.2 = some { cls := .none, data := .fields more } := fun p hp => by
      obtain ⟨more, z⟩ := un.tbls p.2 #[] (hT _ (tmem p hp))
      exact ⟨_, hok2 p.2 _ z⟩
    refine ⟨rfl, ⟨fun b o e => ?_, fun b o e => ?_⟩, os, bare⟩
    · by_cases hb : b ∈ cs.map (·.2)
      · obtain ⟨p, hp, rfl⟩ := List.mem_map.mp hb
        obtain ⟨more, hm⟩ := grown p hp
        rw [tE p hp] at e; cases e
        exact .inr (.inl ⟨((tC p hp).tab (tE p hp)).isCodeTable, rfl, #[], more, rfl, by simpa using hm⟩)
      · exact .inl (stay b o hb e)
    · by_cases hb : b ∈ cs.map (·.2)
      · obtain ⟨p, hp, rfl⟩ := List.mem_map.mp hb
        obtain ⟨more, hm⟩ := grown p hp
        exact ⟨_, hm⟩
      · exact ⟨o, stay b o hb e⟩
theorem walk_XG {l : PySem.W.OpenLaw} {n k : Nat} {q : Program} {loose : List Str} {XP : (Str → Option Value) → Heap → Prop} {YP : World → Heap → Prop} {d : DefRec} {K : Params → PySem.W.Frag} {x : Str} (nms : List Str)
    (hn : l.most = some n) (hn2 : n ≤ sizeLine) (hdf : d.params.defaults = []) (hr : Room k callerA) (hnm : ∀ x ∈ nms, ((recsOf q).any fun e => e.name == x) = true)
    (hY : ∀ (w : World) (h : Heap), YP w h → (K w.params).In h)
    (F : ∀ (w : World) (mg : Str → Option Value) (fa : Addr) (h : Heap), XP mg h → (K w.params).In h → h.Ns mainGlobals mg → mg d.name = some (.ref fa) → (∀ x ∈ nms, OwnT (K w.params) mg h x) →
      ∃ (S : Sg) (FS : EF) (fd : FuncData) (cs : List (Addr × Addr)), S.K = K w.params ∧ (∀ p ∈ S.tabs, ∃ c, (c, p.1) ∈ cs) ∧ (∀ p ∈ cs, h.get? p.2 = some { cls := .none, data := .fields #[] } ∧ (K w.params).lookup p.2 = none ∧ PySem.W.CodeHd h p.1 p.2) ∧
        (∀ (s : Shared) (u : Value), BindsTo s fd ⟨[u], []⟩ [(x, u)]) ∧ (∀ ns : List Int, ns.length ≤ n → FS.r [.val (.lst (ns.map D.int))] (fun e _ => e = .val (.bl true)) X0) ∧
        ∀ base : Heap, (K w.params).In base → base.Ns mainGlobals mg → (∀ p ∈ cs, LamX.TabB base mg p.1 p.2) → FnG l.prog w S.K mg base (L2.CX l.prog w) k fa fd [x] (spD S FS 1)) :
    PySem.W.WalkO q loose XP YP l.row.toRowW d [] (fun f vs => PySem.call f vs) := by
  refine Att.attach_call hn hdf fun w s₀ s₁ mg mb fa o pm cd doc a vs ns G Y ho hd hcd hmg hobj hints hlen hg => ?_
  have KX := hY w _ Y
  have own : ∀ x ∈ nms, OwnT (K w.params) mg s₁.heap x := fun x hx fa c T o fd oc vs m k1 k2 k3 k4 k5 k6 => by
    obtain ⟨dL, hm, e1⟩ := List.any_eq_true.mp (hnm x hx)
    obtain ⟨a', o', fd', c', T', h1, h2, h3, h4, h5, h6⟩ := G.T.tab dL hm
    rw [beq_iff_eq.mp e1, m] at h1
    obtain rfl : fa = a' := Value.ref.inj (Option.some.inj h1)
    rw [KX _ _ k1] at h2
    obtain rfl : o = o' := Option.some.inj h2
    rw [k2] at h3
    obtain rfl : fd = fd' := Data.func.inj h3
    rw [k3] at h4
    obtain rfl : c = c' := Value.ref.inj h4
    have hd := PySem.W.CodeHd.of h5 h6
    obtain ⟨o2, vs2, _, _, _, _, _, _, _, g1, _, g3, g4, _⟩ := id hd
    rw [KX _ _ k4] at g1
    obtain rfl : oc = o2 := Option.some.inj g1
    rw [k5] at g3
    obtain rfl : vs = vs2 := Data.fields.inj g3
    rw [k6] at g4
    obtain rfl : T = T' := Value.ref.inj (Option.some.inj g4)
    exact ⟨h6.2, hd⟩
  obtain ⟨S, FS, fd, cs, hK, htabs, hcs, hb, hsp, hF⟩ := F w mg fa _ G.X KX G.T.g hmg own
  rw [hK] at hF
  refine law_atG (cs := cs) KX G.T.g G.T.b G.T.builtins G.T.nolimit hg (fun p hp => (hcs p hp).1) (fun p hp => (hcs p hp).2.1) (fun p hp => (hcs p hp).2.2) G.T.bmain hobj hints (Nat.le_trans hlen hn2) hr hF hb (fun H hH hS => ?_) fun H e s' hc => ?_
  · rw [← hK] at hS
    have e0 : Md (fun _ => False) [none] = fun _ => False := by
      funext b; apply propext
      exact ⟨fun z => z.elim (fun z => z) fun z => by simp at z, fun z => z.elim⟩
    have intsR : ∀ ns : List Int, RepL S (Md (fun _ => False) [none]) H (ns.map D.int) (ns.map V.int) := fun ns => by
      induction ns with
      | nil => rfl
      | cons n ns ih => exact ⟨_, _, rfl, rfl, ih⟩
    refine ⟨fun _ => False, [none], [.val (.lst (ns.map D.int))], rfl, {
      l1 := rfl
      l2 := rfl
      val := fun i d h => by
        match i, h with
        | 0, h =>
          cases h
          refine ⟨_, rfl, a, _, rfl, ?_, intsR ns⟩
          rcases hS with z | z
          · exact .inl ⟨fun z => by rw [e0] at z; exact z, z⟩
          · exact .inr z
        | i + 1, h => cases h
      own := fun i o h => by
        match i, h with
        | 0, h => cases h
        | i + 1, h => cases h
      io := fun i o h => by
        match i, h with
        | 0, h => cases h
        | i + 1, h => cases h
      live := fun i o h => by
        match i, h with
        | 0, h => cases h
        | i + 1, h => cases h
      inj := fun i j o h h2 => by
        match i, h with
        | 0, h => cases h
        | i + 1, h => cases h
      dis := fun a h z => h
      trk := fun a h => h.elim
      m0 := fun a h => h
      tb := fun p hp => by
        obtain ⟨c, hc⟩ := htabs p hp
        refine ⟨#[], hH _ hc, trivial, fun po cv z => ?_⟩
        cases z }, one_noown, ?_⟩
    refine FS.m (fun e outs g v H' kp _ dm res => ?_) (fun _ _ z => z.elim) (hsp ns hlen)
    subst g
    exact res.1
  · obtain ⟨_, _, _, _, _, _, _, _, _, _, _, _, z⟩ := hc
    exact z.elim
end En
set_option Elab.async false
set_option linter.all false
set_option maxRecDepth 100000
namespace En
open PySem PySem.Spec PyProof.Rows L2
/-! ### tuple * n, n from 1 on -/
theorem tup_one (l : Addr) (its : Array Value) (n : Nat) (dd : Option Addr) (sl : Array (Option Value)) (u : Tok) :
    Meets (Builtin.«tuple.__mul__» ⟨[.ref l, .int 1 u], []⟩) (fun _ R s => s.heap.get? l = some { cls := .type "tuple", dict := dd, data := .seq its n, slots := sl } ∧ R (.ok (.ret (Value.ref l))) s) :=
  .of_wp fun prog w A R s h => by
    obtain ⟨hp, g, d, tk, os⟩ := s
    obtain ⟨hl, h⟩ := h
    have f1 := AutoSeq1.idx_int
    wp_walk using wpAny_loadPart' hl
    exact ⟨_, rfl, h⟩
section
variable {X : Cx} {S : Sg} {M0 B : MS} {E : XK}
theorem op_tup1 : OpR X (binaryOp .Mult) (fun x y H Q => ∃ l xs, x = .ref l ∧ y = .int 1 ∧ SqT X.K H l xs ∧ Q (.ref l) H) := by
  intro pins s σ H x y v u Q I rx ry h
  obtain ⟨l, xs, rfl, rfl, hT, q⟩ := h
  cases rx
  obtain ⟨t, rfl⟩ := ry
  obtain ⟨its, r, ⟨⟨cls, dd, data, sl⟩, ho, hc, n, hd⟩, hs⟩ := I.tuple hT
  simp only at hc hd
  subst hc hd
  refine wpAny_binaryOp_repeat_ref (T := "tuple") (U := "int") (by decide) ⟨_, ho, rfl⟩ (fun s' => typeIs_int s' 1 t) noFill_tuple_mul F.fills_int_mul F.slot_int_rmul repeat_tuple F.slot_int_index.lookup
    (call_meets F.slot_int_rmul (typeIs_int s 1 t) F.entry_int_rmul (F.args_int_rmul_2 _ _) (int_rmul_tuple 1 t l its.toArray n dd sl)
      ⟨ho, rfl, ⟨_, ho, rfl⟩, call_meets F.slot_tuple_mul ⟨_, ho, rfl⟩ F.entry_tuple_mul (F.args_tuple_mul_2 _ _) (tup_one l its.toArray n dd sl t) ⟨ho, ?_⟩⟩)
  exact ⟨.ref l, H, I, rfl, q⟩
theorem RepL.flat {M : MS} {H : Hp} {ds : List D} {vs : List V} (h : RepL S M H ds vs) : ∀ n : Nat, RepL S M H (List.replicate n ds).flatten (List.replicate n vs).flatten
  | 0 => rfl
  | n + 1 => by
    rw [List.replicate_succ, List.replicate_succ, List.flatten_cons, List.flatten_cons]
    exact h.append (RepL.flat h n)
def mulT : D → D → Option D
  | .tup ds, .int k => if ds ≠ [] ∧ 1 ≤ k ∧ k ≤ 1000 ∧ ds.length ≤ 1000 then some (.tup (List.replicate k.toNat ds).flatten) else none
  | _, _ => none
theorem op_mulT (hk : X.K = S.K) : OpS X S (binaryOp .Mult) mulT := by
  intro pins s σ H x y v u Q I rx ry h
  obtain ⟨M, d, e, c, hd, he, hg, ht, k⟩ := h
  unfold mulT at hg
  split at hg
  · rename_i ds j
    split at hg
    · rename_i hz
      obtain ⟨h0, h1, h2, h3⟩ := hz
      cases hg
      obtain ⟨a, vs, rfl, na, ra, la⟩ := hd.tup
      cases he
      have e1 := la.len
      by_cases hj : j = 1
      · subst hj
        refine op_tup1 pins s σ H _ _ v u Q I rx ry ⟨a, vs, rfl, rfl, .of ra, k _ H .rfl' ⟨a, vs, rfl, na, ra, ?_⟩⟩
        have : (List.replicate (1 : Int).toNat ds).flatten = ds := by simp
        rw [this]; exact la
      · have hne : vs ≠ [] := fun z => h0 (List.eq_nil_of_length_eq_zero (by rw [e1, z]; rfl))
        refine op_repT pins s σ H _ _ v u Q I rx ry ⟨a, j, vs, rfl, rfl, .of ra, hne, by omega, h2, by omega, fun p hp => ?_⟩
        have g : Grow H (upd H p (.tup (List.replicate j.toNat vs).flatten)) := .upd hp
        refine k _ _ g ⟨p, _, rfl, fun z => ?_, upd_same, (la.flat j.toNat).grow g⟩
        obtain ⟨u, hu⟩ := ht p z
        rw [hp] at hu; cases hu
    · cases hg
  · cases hg
/-- + of tuples, one of them of texts -/
def addG : D → D → Option D
  | .nms xs, .tup ys => if xs ≠ [] ∧ ys ≠ [] ∧ xs.length + ys.length ≤ sizeLine then some (.tup (xs.map .str ++ ys)) else none
  | .nms xs, .nms ys => if xs ≠ [] ∧ ys ≠ [] ∧ xs.length + ys.length ≤ sizeLine then some (.tup (xs.map .str ++ ys.map .str)) else none
  | .tup xs, .nms ys => if xs ≠ [] ∧ ys ≠ [] ∧ xs.length + ys.length ≤ sizeLine then some (.tup (xs ++ ys.map .str)) else none
  | d, e => addD d e
theorem seqT_of {M : MS} {H : Hp} {d : D} {v : V} {xs : List D} (h : RepT S M H d v) (e : d = .tup xs ∨ ∃ ys : List Str, d = .nms ys ∧ xs = ys.map .str) : ∃ a vs, v = .ref a ∧ SqT S.K H a vs ∧ RepL S M H xs vs := by
  rcases e with rfl | ⟨ys, rfl, rfl⟩
  · obtain ⟨a, vs, rfl, na, ra, la⟩ := h.tup
    exact ⟨a, vs, rfl, .of ra, la⟩
  · have h : ∃ a o, v = .ref a ∧ ¬ M a ∧ H a = some (.frz o (.tup (ys.map V.str))) ∧ o.dict = none := h
    obtain ⟨a, o, rfl, na, ra, z⟩ := h
    exact ⟨a, _, rfl, .inl (.inr ⟨o, ra⟩), strs_rep _⟩
theorem op_addG (hk : X.K = S.K) : OpS X S (binaryOp .Add) addG := by
  intro pins s σ H x y v u Q I rx ry h
  obtain ⟨M, d, e, c, hd, he, hg, ht, k⟩ := h
  have main : ∀ (xs ys : List D), (d = .tup xs ∨ ∃ zs : List Str, d = .nms zs ∧ xs = zs.map .str) → (e = .tup ys ∨ ∃ zs : List Str, e = .nms zs ∧ ys = zs.map .str) → xs ≠ [] → ys ≠ [] → xs.length + ys.length ≤ sizeLine → c = .tup (xs ++ ys) →
      wpAny (model X.prog X.w) X.A (binaryOp .Add v u) (EP X pins σ Q) X.xe s := fun xs ys hx hy nx ny hz hc => by
    subst hc
    obtain ⟨a, vs, rfl, ra, la⟩ := seqT_of hd hx
    obtain ⟨b, ws, rfl, rb, lb⟩ := seqT_of he hy
    rw [← hk] at ra rb
    have e1 := la.len
    have e2 := lb.len
    refine op_catA pins s σ H _ _ v u Q I rx ry ⟨a, b, vs, ws, rfl, rfl, ra, rb, by omega, fun z => ?_, fun _ z => ?_, fun z1 z2 p hp => ?_⟩
    · subst z; exact absurd (List.eq_nil_of_length_eq_zero (by simpa using e1)) nx
    · subst z; exact absurd (List.eq_nil_of_length_eq_zero (by simpa using e2)) ny
    · have g : Grow H (upd H p (.tup (vs ++ ws))) := .upd hp
      refine k _ _ g ⟨p, _, rfl, fun z => ?_, upd_same, (la.append lb).grow g⟩
      obtain ⟨u, hu⟩ := ht p z
      rw [hp] at hu; cases hu
  unfold addG at hg
  split at hg
  · split at hg
    · rename_i hz
      cases hg
      exact main _ _ (.inr ⟨_, rfl, rfl⟩) (.inl rfl) (by simpa using hz.1) hz.2.1 (by simpa using hz.2.2) rfl
    · cases hg
  · split at hg
    · rename_i hz
      cases hg
      exact main _ _ (.inr ⟨_, rfl, rfl⟩) (.inr ⟨_, rfl, rfl⟩) (by simpa using hz.1) (by simpa using hz.2.1) (by simpa using hz.2.2) rfl
    · cases hg
  · split at hg
    · rename_i hz
      cases hg
      exact main _ _ (.inl rfl) (.inr ⟨_, rfl, rfl⟩) hz.1 (by simpa using hz.2.1) (by simpa using hz.2.2) rfl
    · cases hg
  · exact op_addD hk pins s σ H x y v u Q I rx ry ⟨M, d, e, c, hd, he, hg, ht, k⟩
/-! ### v.pop(e), v.extend(e) -/
def popAF (i : Nat) (f : EF) : EF where
  r := fun env P X => (∃ sl, env[i]? = some sl ∧ (∃ ds, sl.lst? = some ds)) ∧ f.r env (fun e env1 => ∃ k : Nat, e = .val (.int (k : Int)) ∧ k < 100000 ∧ ∃ sl ds d, env1[i]? = some sl ∧ sl.lst? = some ds ∧ ds[k]? = some d ∧ P (.val d) (env1.set i (sl.put (.lst (ds.eraseIdx k))))) X
  m := fun hp hx h => ⟨h.1, f.m (fun e env1 ⟨k, h0, h1, sl, ds, d, h2, h3, h4, h5⟩ => ⟨k, h0, h1, sl, ds, d, h2, h3, h4, hp _ _ h5⟩) hx h.2⟩
theorem RepL.erase {M : MS} {H : Hp} : ∀ {ds : List D} {vs : List V}, RepL S M H ds vs → ∀ k : Nat, RepL S M H (ds.eraseIdx k) (vs.eraseIdx k)
  | [], _, h, k => by cases h; simp [RepL]
  | d :: ds, _, ⟨v, r, rfl, h1, h2⟩, 0 => h2
  | d :: ds, _, ⟨v, r, rfl, h1, h2⟩, k + 1 => ⟨v, _, rfl, h1, RepL.erase h2 k⟩
variable {e : Expr} {es : List Expr} {f f2 : EF} {pos p apos : Pos} {x : Str} {l : LF}
theorem r_popA {i : Nat} (hN : X.N[i]? = some x := by rfl) (ha : PE X e (tE S M0 E f)) (hv : Vis X.env.scope x := by first | exact Or.inl rfl | exact Or.inr (Or.inl rfl) | exact Or.inr (Or.inr rfl)) (hd : (x == ("__debug__" : Str)) = false := by decide)
    (hcd : (x == ("__classdict__" : Str)) = false := by decide)
    (hbase : attributeBase (.Name x p) "pop" X.env (eval (.Name x p) X.env) = eval (.Name x p) X.env := by rfl)
    (hfew : ((backTo pos (starEach [e] X.env)).all (fun x => !x.1) && (backToKw pos (keywordEach [] X.env)).all (fun x => x.1.isSome)
      && decide ([e].length + ([] : List Keyword).length + (if ([] : List Keyword).isEmpty then 0 else 1) < 30)) = true := by rfl)
    (hline : (apos.endLine == pos.line) = true := by rfl) (hs : starEach [e] X.env = (false, eval e X.env) :: starEach [] X.env := by rfl) (hplain : (backTo pos (starEach [] X.env)).any (·.1) = false := by rfl) :
    PE X (.Call (.Attribute (.Name x p) "pop" apos) [e] [] pos) (tE S M0 E (popAF i f)) :=
  PE.imp (pe_bm PySem.F.plainAttrs_list PySem.F.slot_list_pop PySem.F.type_list_pop (r := rPopAt) (fun pins s σ H x xs v us Q => mt_popAt pins s σ H x xs v us Q) (pe_var hN hv hd hcd) (pa_cons ha pa_nil hs) hbase hfew hline hs hplain) fun σ H Q h => by
    obtain ⟨B, ow, env, s, ⟨sl, h1, ds, h2⟩, h3⟩ := h
    obtain ⟨a, k1, k2, k3⟩ := s.slot h1 (lst_ob h2)
    obtain ⟨vs, k4, k5⟩ := k3
    refine ⟨_, k2, .inl ⟨rfl, vs, SqL.of k4⟩, ?_⟩
    refine ⟨B, ow, env, s, f.m (fun e1 env1 g v H1 ow1 st1 nw1 ok1 => ?_) (fun _ _ h => h) h3⟩
    obtain ⟨k, rfl, hk, sl1, ds1, d, g1, g2, g3, g4⟩ := g
    obtain ⟨s1, r1⟩ := ok1
    cases r1
    obtain ⟨b1, b2⟩ := slot_fix s1 g1 (lst_ob g2) k2
    obtain ⟨vs1, b3, b4⟩ := b2
    have hm : Md B ow1 a := .inr (List.mem_of_getElem? b1)
    obtain ⟨w, e1, r2⟩ := b4.get g3
    have hlt : k < vs1.length := (List.getElem?_eq_some_iff.mp e1).1
    refine ⟨a, vs1, (k : Int), k, w, rfl, rfl, b3, by omega, by omega, by rw [seqIndex_of (by omega) (by omega)]; rfl, e1, ?_⟩
    obtain ⟨p1, p2⟩ := s1.put (o' := .lst (ds1.eraseIdx k)) (ho := .lst (vs1.eraseIdx k)) g1 (lst_ob g2) b1 ⟨_, upd_same, (b4.upd_at hm).erase k⟩
    exact g4 _ _ ow1 (st1.trans p2) trivial ⟨p1, r2.upd_at hm⟩
def extF (F : Nat → List Str) (i : Nat) (f : EF) : EF where
  r := fun env P X => (∃ sl, env[i]? = some sl ∧ (∃ ds, sl.lst? = some ds)) ∧ f.r env (fun e env1 => ∃ zs, e = .new (.lst zs) ∧ ∃ sl ds, env1[i]? = some sl ∧ sl.lst? = some ds ∧ ds.length + zs.length < 100000 ∧ P (.val .non) (env1.set i (sl.put (.lst (ds ++ zs))))) X
  m := fun hp hx h => ⟨h.1, f.m (fun e env1 ⟨zs, h1, sl, ds, h2, h3, h4, h5⟩ => ⟨zs, h1, sl, ds, h2, h3, h4, hp _ _ h5⟩) hx h.2⟩
theorem r_ext {i : Nat} (hN : X.N[i]? = some x := by rfl) (ha : PE X e (tE S M0 E f)) (hv : Vis X.env.scope x := by first | exact Or.inl rfl | exact Or.inr (Or.inl rfl) | exact Or.inr (Or.inr rfl)) (hd : (x == ("__debug__" : Str)) = false := by decide)
    (hcd : (x == ("__classdict__" : Str)) = false := by decide)
    (hbase : attributeBase (.Name x p) "extend" X.env (eval (.Name x p) X.env) = eval (.Name x p) X.env := by rfl)
    (hfew : ((backTo pos (starEach [e] X.env)).all (fun x => !x.1) && (backToKw pos (keywordEach [] X.env)).all (fun x => x.1.isSome)
      && decide ([e].length + ([] : List Keyword).length + (if ([] : List Keyword).isEmpty then 0 else 1) < 30)) = true := by rfl)
    (hline : (apos.endLine == pos.line) = true := by rfl) (hs : starEach [e] X.env = (false, eval e X.env) :: starEach [] X.env := by rfl) (hplain : (backTo pos (starEach [] X.env)).any (·.1) = false := by rfl) :
    PE X (.Call (.Attribute (.Name x p) "extend" apos) [e] [] pos) (tE S M0 E (extF S.flds i f)) :=
  PE.imp (pe_bm PySem.F.plainAttrs_list PySem.F.slot_list_extend PySem.F.type_list_extend (r := rExtend) (fun pins s σ H x xs v us Q => mt_extend pins s σ H x xs v us Q) (pe_var hN hv hd hcd) (pa_cons ha pa_nil hs) hbase hfew hline hs hplain) fun σ H Q h => by
    obtain ⟨B, ow, env, s, ⟨sl, h1, ds, h2⟩, h3⟩ := h
    obtain ⟨a, k1, k2, k3⟩ := s.slot h1 (lst_ob h2)
    obtain ⟨vs, k4, k5⟩ := k3
    refine ⟨_, k2, .inl ⟨rfl, vs, SqL.of k4⟩, ?_⟩
    refine ⟨B, ow, env, s, f.m (fun e1 env1 g v H1 ow1 st1 nw1 ok1 => ?_) (fun _ _ h => h) h3⟩
    obtain ⟨zs, rfl, sl1, ds1, g1, g2, g3, g4⟩ := g
    have s1 := (ok1.unplus (d := .lst zs) rfl).1
    obtain ⟨b, rfl, _, _, _, ws', hb, rl0⟩ := ok1
    have rl : RepL S (Md B ow1) H1 zs ws' := RepL.anti (md_plus b) rl0
    obtain ⟨b1, b2⟩ := slot_fix s1 g1 (lst_ob g2) k2
    obtain ⟨vs1, b3, b4⟩ := b2
    have hm : Md B ow1 a := .inr (List.mem_of_getElem? b1)
    have z1 := b4.len
    have z2 := rl.len
    refine ⟨a, b, vs1, ws', rfl, rfl, b3, hb, by rw [sizeLine_eq]; omega, ?_⟩
    obtain ⟨p1, p2⟩ := s1.put (o' := .lst (ds1 ++ zs)) (ho := .lst (vs1 ++ ws')) g1 (lst_ob g2) b1 ⟨_, upd_same, (b4.upd_at hm).append (rl.upd_at hm)⟩
    exact g4 _ _ ow1 (st1.trans p2) trivial ⟨p1, rfl⟩
/-! ### abs, gcd -/
def absD : D → Option D
  | .int i => some (.int (if i < 0 then -i else i))
  | _ => none
theorem c_abs : CallS X S (.builtin "abs") absD := by
  intro pins s σ H xs us Q I r h
  obtain ⟨x, M, d, c, rfl, hd, hg, ht, k⟩ := h
  unfold absD at hg
  split at hg
  · cases hg; cases hd
    exact call_abs pins s σ H _ us Q I r ⟨_, rfl, k _ H .rfl' rfl⟩
  · cases hg
def gcdD : D → D → Option D
  | .int i, .int j => some (.int ((Nat.gcd i.natAbs j.natAbs : Nat) : Int))
  | _, _ => none
variable {a b : Expr}
theorem r_gcd (hm : X.mg x = some (.builtin "math.gcd")) (ha : PE X a (tE S M0 E f)) (hb : PE X b (tE S M0 E f2)) (hg : Gl X x := by rfl) (hdb : (x == ("__debug__" : Str)) = false := by decide) (he : starEach [a, b] X.env = (false, eval a X.env) :: starEach [b] X.env := by rfl) (he2 : starEach [b] X.env = (false, eval b X.env) :: starEach [] X.env := by rfl)
    (hpl : (backTo pos (starEach [b] X.env)).any (·.1) = false := by rfl) : PE X (.Call (.Name x p) [a, b] [] pos) (tE S M0 E (binF S.flds gcdD f f2)) :=
  PE.imp (pe_callBfun cr_gcd hg hm (pa_cons ha (pa_cons hb pa_nil he2) he) hdb he hpl) fun σ H Q h => two_of (fun x y H Q ⟨M, d, e, c, hd, he, hg, ht, k⟩ => by
    unfold gcdD at hg
    split at hg
    · cases hg; cases hd; cases he
      exact ⟨_, _, rfl, k _ H .rfl' rfl⟩
    · cases hg) h
end
theorem bt_abs : bootBuiltins "abs" = some (.builtin "abs") := by decide +kernel
end En
set_option Elab.async false
set_option linter.all false
set_option maxRecDepth 100000
namespace En
open PySem PySem.Spec PyProof.Rows L2
/-! ### the meanings, read in order by simp: what comes behind is not looked at before its turn -/
/-- what is not to be looked at -/
abbrev Dm {α : Sort u} (_ : α) : Type := Unit
def optK {α : Type} (o : Option α) (k : α → Prop) (_ : Dm k := ()) : Prop := ∃ a, o = some a ∧ k a
def iteK (b : Bool) (A B : Prop) (_ : Dm A := ()) (_ : Dm B := ()) : Prop := if b = true then A else B
def andK (p q : Prop) (_ : Dm q := ()) : Prop := p ∧ q
section
variable {α : Type}
theorem optK_s {a : α} {k : α → Prop} : optK (some a) k = k a := propext ⟨fun ⟨_, e, h⟩ => by cases e; exact h, fun h => ⟨a, rfl, h⟩⟩
theorem optK_n {k : α → Prop} : optK none k = False := propext ⟨fun ⟨_, e, _⟩ => (nomatch e), fun h => h.elim⟩
theorem optK_m {β : Type} {f : α → β} {o : Option α} {k : β → Prop} : optK (o.map f) k = optK o fun a => k (f a) := propext ⟨fun ⟨b, e, h⟩ => by
  obtain ⟨a, h1, rfl⟩ := Option.map_eq_some_iff.mp e
  exact ⟨a, h1, h⟩, fun ⟨a, e, h⟩ => ⟨f a, by rw [e]; rfl, h⟩⟩
theorem optK_i {o : Option α} {a : α} {k : α → Prop} (h : o = some a) (q : k a) : optK o k := ⟨a, h, q⟩
theorem iteK_t {A B : Prop} : iteK true A B = A := if_pos rfl
theorem iteK_f {A B : Prop} : iteK false A B = B := if_neg Bool.false_ne_true
theorem iteK_i {b : Bool} {A B : Prop} (h1 : b = true → A) (h2 : b = false → B) : iteK b A B := by
  cases b with
  | true => rw [iteK_t]; exact h1 rfl
  | false => rw [iteK_f]; exact h2 rfl
theorem andK_t {q : Prop} : andK True q = q := propext ⟨fun h => h.2, fun h => ⟨trivial, h⟩⟩
theorem andK_i {p q : Prop} (h : p) (k : q) : andK p q := ⟨h, k⟩
end
def rE (f : EF) (env : Env') (P : EV → Env' → Prop) (X : Exx) (_ : Dm P := ()) (_ : Dm X := ()) (_ : Dm f := ()) : Prop := f.r env P X
def rT (f : TF) (env : Env') (P : Bool → Env' → Prop) (X : Exx) (_ : Dm P := ()) (_ : Dm X := ()) (_ : Dm f := ()) : Prop := f.r env P X
def rL (f : LF) (env : Env') (P : List D → Env' → Prop) (X : Exx) (_ : Dm P := ()) (_ : Dm X := ()) (_ : Dm f := ()) : Prop := f.r env P X
def rA (f : LA) (env : Env') (P : List AV → Env' → Prop) (X : Exx) (_ : Dm P := ()) (_ : Dm X := ()) (_ : Dm f := ()) : Prop := f.r env P X
def rP (f : LE) (env : Env') (P : List EV → Env' → Prop) (X : Exx) (_ : Dm P := ()) (_ : Dm X := ()) (_ : Dm f := ()) : Prop := f.r env P X
def rO (f : OF) (env : Env') (P : Option Int → Env' → Prop) (X : Exx) (_ : Dm P := ()) (_ : Dm X := ()) (_ : Dm f := ()) : Prop := f.r env P X
def rS (f : SF) (env : Env') (P : Pst) (X : Exx) (_ : Dm P := ()) (_ : Dm X := ()) (_ : Dm f := ()) : Prop := f.r env P X
def rG (f : GF) (d : D) (env : Env') (P : Env' → Prop) (X : Exx) (_ : Dm P := ()) (_ : Dm X := ()) (_ : Dm f := ()) : Prop := f.r d env P X
def rGs (f : GFs) (ds : List D) (env : Env') (P : Env' → Prop) (X : Exx) (_ : Dm P := ()) (_ : Dm X := ()) (_ : Dm f := ()) : Prop := f.r ds env P X
def rR (f : EF) (as : List Slot) (P : EV → List Slot → Prop) (X : Exx) (_ : Dm P := ()) (_ : Dm X := ()) (_ : Dm f := ()) : Prop := runF f as P X
def rF (p : Pat) (a : SF) (P : Pst) (X : Exx) (ds : List D) (env : Env') (_ : Dm P := ()) (_ : Dm X := ()) (_ : Dm a := ()) : Prop := forL p a P X ds env
def rC (F : Nat → List Str) (p : Pat) (t : TF) (f : EF) (vs : List Nat) (P : List D → Env' → Prop) (ds acc : List D) (env : Env') (_ : Dm P := ()) (_ : Dm t := ()) (_ : Dm f := ()) : Prop := compL F p t f vs P ds acc env
def varK (s : Option Slot) (i : Nat) (P : EV → Prop) (_ : Dm P := ()) : Prop := match s with
  | some (.val d) => P (.val d)
  | some (.own _) => P (.own i)
  | some (.io _) => P (.own i)
  | _ => False
def kvK (F : Nat → List Str) (s : Option Slot) (i : Nat) (env : Env') (P : EV → Env' → Prop) (_ : Dm P := ()) : Prop := match s with
  | some (.val d) => P (.val d) env
  | some (.own ob) => optK (ob.fr F) fun d => P (.val d) (env.set i (.val d))
  | _ => False
/-- behind a call -/
def aftK (as : List AV) (env1 : Env') (P : EV → Env' → Prop) (e : EV) (outs : List Slot) (_ : Dm P := ()) : Prop := andK (e.isOwn = false) (optK (backE as outs env1) fun env2 => P e env2)
def mkK (as : List AV) (env1 : Env') (P : EV → Env' → Prop) (e : EV) (outs : List Slot) (_ : Dm P := ()) : Prop := e = .val .non ∧ ∃ o os, outs = .io o :: os ∧ ∃ env2, backE as os env1 = some env2 ∧ P (.new o) env2
def intK (e : EV) (k : Int → Prop) (_ : Dm k := ()) : Prop := ∃ i, e = .val (.int i) ∧ k i
def blK (e : EV) (k : Bool → Prop) (_ : Dm k := ()) : Prop := ∃ b, e = .val (.bl b) ∧ k b
def tblK (o : Option D) (k : Bool → Prop) (_ : Dm k := ()) : Prop := ∃ b, o = some (.bl b) ∧ k b
section
variable {F : Nat → List Str} {s s' : Option Slot} {i j n m : Nat} {env env' : Env'} {P : EV → Env' → Prop} {Q : EV → Prop} {d : D} {ob : Ob} {e e' : EV} {f g f2 f3 : EF} {t u : TF} {l : LF} {la : LA} {le : LE} {X : Exx} {Ps : Pst} {a b : SF} {o oh : OF} {PT : Bool → Env' → Prop} {PL : List D → Env' → Prop} {PA : List AV → Env' → Prop} {PE : List EV → Env' → Prop} {PO : Option Int → Env' → Prop} {PG : Env' → Prop} {gf : GF} {gs : GFs} {ds : List D} {as as' : List Slot} {FS : EF} {PR : EV → List Slot → Prop} {ki : Int → Prop} {kb : Bool → Prop}
theorem varK_v : varK (some (.val d)) i Q = Q (.val d) := rfl
theorem varK_o : varK (some (.own ob)) i Q = Q (.own i) := rfl
theorem varK_i : varK (some (.io ob)) i Q = Q (.own i) := rfl
theorem kvK_v : kvK F (some (.val d)) i env P = P (.val d) env := rfl
theorem kvK_o : kvK F (some (.own ob)) i env P = optK (ob.fr F) fun d => P (.val d) (env.set i (.val d)) := rfl
theorem intK_v {x : Int} : intK (.val (.int x)) ki = ki x := propext ⟨fun ⟨_, e, h⟩ => by cases e; exact h, fun h => ⟨x, rfl, h⟩⟩
theorem blK_v {x : Bool} : blK (.val (.bl x)) kb = kb x := propext ⟨fun ⟨_, e, h⟩ => by cases e; exact h, fun h => ⟨x, rfl, h⟩⟩
theorem tblK_s {x : Bool} : tblK (some (.bl x)) kb = kb x := propext ⟨fun ⟨_, e, h⟩ => by cases e; exact h, fun h => ⟨x, rfl, h⟩⟩
theorem varF_K : rE (varF i) env P X = varK env[i]? i fun e => P e env := by
  show (match env[i]? with | some (.val d) => _ | some (.own _) => _ | some (.io _) => _ | _ => False) = (match env[i]? with | some (.val d) => _ | some (.own _) => _ | some (.io _) => _ | _ => False)
  split <;> simp_all
theorem kvF_K : rE (kvF F i) env P X = kvK F env[i]? i env P := by
  show (match env[i]? with | some (.val d) => _ | some (.own _) => _ | _ => False) = (match env[i]? with | some (.val d) => _ | some (.own _) => _ | _ => False)
  split <;> simp_all [optK]
theorem litF_K : rE (litF d) env P X = P (.val d) env := rfl
theorem binF_K {op : D → D → Option D} : rE (binF F op f f2) env P X = rE f env (fun e env1 => optK (e.settle F) fun e' => rE f2 env1 (fun e2 env2 => optK (e2.settle F) fun e2' => optK (e'.rd F env2) fun d => optK (e2'.rd F env2) fun d2 => optK (op d d2) fun c => P (.val c) env2) X) X :=
  propext ⟨fun h => f.m (fun _ _ ⟨e', q, h⟩ => ⟨e', q, f2.m (fun _ _ ⟨e2', q2, d, d2, c, h1, h2, h3, h4⟩ => ⟨e2', q2, d, h1, d2, h2, c, h3, h4⟩) (fun _ _ h => h) h⟩) (fun _ _ h => h) h,
    fun h => f.m (fun _ _ ⟨e', q, h⟩ => ⟨e', q, f2.m (fun _ _ ⟨e2', q2, d, h1, d2, h2, c, h3, h4⟩ => ⟨e2', q2, d, d2, c, h1, h2, h3, h4⟩) (fun _ _ h => h) h⟩) (fun _ _ h => h) h⟩
theorem unF_K {op : D → Option D} : rE (unF F op f) env P X = rE f env (fun e env1 => optK (e.settle F) fun e' => optK (e'.rd F env1) fun d => optK (op d) fun c => P (.val c) env1) X :=
  propext ⟨fun h => f.m (fun _ _ ⟨e', q, d, c, h1, h2, h⟩ => ⟨e', q, d, h1, c, h2, h⟩) (fun _ _ h => h) h, fun h => f.m (fun _ _ ⟨e', q, d, h1, c, h2, h⟩ => ⟨e', q, d, c, h1, h2, h⟩) (fun _ _ h => h) h⟩
theorem unNF_K {op : D → Option Ob} : rE (unNF F op f) env P X = rE f env (fun e env1 => optK (e.settle F) fun e' => optK (e'.rd F env1) fun d => optK (op d) fun c => P (.new c) env1) X :=
  propext ⟨fun h => f.m (fun _ _ ⟨e', q, d, c, h1, h2, h⟩ => ⟨e', q, d, h1, c, h2, h⟩) (fun _ _ h => h) h, fun h => f.m (fun _ _ ⟨e', q, d, h1, c, h2, h⟩ => ⟨e', q, d, c, h1, h2, h⟩) (fun _ _ h => h) h⟩
theorem nilL_K : rL nilL env PL X = PL [] env := rfl
theorem consL_K : rL (consL F f l) env PL X = rE f env (fun e env1 => optK (e.keep F) fun d => rL l env1 (fun ds env2 => PL (d :: ds) env2) X) X := rfl
theorem tupF_K : rE (tupF l) env P X = rL l env (fun ds env1 => andK (ds.length ≤ 100) (P (.val (.tup ds)) env1)) X := rfl
theorem lstF_K : rE (lstF l) env P X = rL l env (fun ds env1 => andK (ds.length ≤ 100) (P (.new (.lst ds)) env1)) X := rfl
theorem dnewK_K : rE dnewK env P X = P (.new (.dK [] [])) env := rfl
theorem dnewT_K : rE dnewT env P X = P (.new (.dT [] [])) env := rfl
theorem truF_K : rT (truF F f) env PT X = rE f env (fun e env1 => optK (e.settle F) fun e' => optK (e'.rd F env1) fun d => optK (truD d) fun b => PT b env1) X :=
  propext ⟨fun h => f.m (fun _ _ ⟨e', q, d, b, h1, h2, h⟩ => ⟨e', q, d, h1, b, h2, h⟩) (fun _ _ h => h) h, fun h => f.m (fun _ _ ⟨e', q, d, h1, b, h2, h⟩ => ⟨e', q, d, b, h1, h2, h⟩) (fun _ _ h => h) h⟩
theorem blF_K : rT (blF F f) env PT X = rE f env (fun e env1 => blK e fun b => PT b env1) X := rfl
theorem notT_K : rT (notT t) env PT X = rT t env (fun b env1 => PT (!b) env1) X := rfl
theorem andT_K : rT (andT t u) env PT X = rT t env (fun b env1 => iteK b (rT u env1 PT X) (PT false env1)) X := rfl
theorem orT_K : rT (orT t u) env PT X = rT t env (fun b env1 => iteK b (PT true env1) (rT u env1 PT X)) X := rfl
theorem andF_K : rE (andF f g) env P X = rE f env (fun e env1 => blK e fun b => iteK b (rE g env1 P X) (P (.val (.bl false)) env1)) X := rfl
theorem orF_K : rE (orF f g) env P X = rE f env (fun e env1 => blK e fun b => iteK b (P (.val (.bl true)) env1) (rE g env1 P X)) X := rfl
theorem notF_K : rE (notF f) env P X = rE f env (fun e env1 => blK e fun b => P (.val (.bl (!b))) env1) X := rfl
theorem iteF_K : rE (iteF' t f g) env P X = rT t env (fun b env1 => iteK b (rE f env1 P X) (rE g env1 P X)) X := rfl
theorem chainF_K {op op' : D → D → Option D} : rE (chainF F op op' f f2 f3) env P X = rE f env (fun e env1 => intK e fun i => rE f2 env1 (fun e2 env2 => intK e2 fun j => tblK (op (.int i) (.int j)) fun b =>
    iteK b (rE f3 env2 (fun e3 env3 => intK e3 fun k => tblK (op' (.int j) (.int k)) fun c => P (.val (.bl c)) env3) X) (P (.val (.bl false)) env2)) X) X := rfl
theorem noO_K : rO noO env PO X = PO none env := rfl
theorem someO_K : rO (someO f) env PO X = rE f env (fun e env1 => intK e fun i => PO (some i) env1) X := rfl
theorem slF_K : rE (slF F f o oh) env P X = rE f env (fun e env1 => optK (e.settle F) fun e' => rO o env1 (fun i env2 => rO oh env2 (fun j env3 => optK (e'.rd F env3) fun d => optK (slD d i j) fun c => P (.val c) env3) X) X) X :=
  propext ⟨fun h => f.m (fun _ _ ⟨e', q, h⟩ => ⟨e', q, o.m (fun _ _ h => oh.m (fun _ _ ⟨d, c, h1, h2, h3⟩ => ⟨d, h1, c, h2, h3⟩) (fun _ _ h => h) h) (fun _ _ h => h) h⟩) (fun _ _ h => h) h,
    fun h => f.m (fun _ _ ⟨e', q, h⟩ => ⟨e', q, o.m (fun _ _ h => oh.m (fun _ _ ⟨d, h1, c, h2, h3⟩ => ⟨d, c, h1, h2, h3⟩) (fun _ _ h => h) h) (fun _ _ h => h) h⟩) (fun _ _ h => h) h⟩
def idxP : D → Prop
  | .nms _ => True
  | .lst _ => True
  | _ => False
theorem idxP_iff {d : D} : idxP d ↔ ((∃ xs, d = .nms xs) ∨ ∃ ds, d = .lst ds) := by
  cases d <;> simp [idxP]
theorem idxF_K : rE (idxF F f f2) env P X = rE f env (fun e env1 => optK (e.keep F) fun d => andK (idxP d) (rE f2 env1 (fun e2 env2 => optK (e2.settle F) fun e2' => optK (e2'.rd F env2) fun d2 => optK (idxD d d2) fun c => P (.val c) env2) X)) X :=
  propext ⟨fun h => f.m (fun _ _ ⟨d, q, h, z⟩ => ⟨d, q, idxP_iff.mpr z, f2.m (fun _ _ ⟨e2', q2, d2, c, h1, h2, h3⟩ => ⟨e2', q2, d2, h1, c, h2, h3⟩) (fun _ _ h => h) h⟩) (fun _ _ h => h) h,
    fun h => f.m (fun _ _ ⟨d, q, z, h⟩ => ⟨d, q, f2.m (fun _ _ ⟨e2', q2, d2, h1, c, h2, h3⟩ => ⟨e2', q2, d2, c, h1, h2, h3⟩) (fun _ _ h => h) h, idxP_iff.mp z⟩) (fun _ _ h => h) h⟩
def lstK (s : Option Slot) (k : Slot → List D → Prop) (_ : Dm k := ()) : Prop := ∃ sl ds, s = some sl ∧ sl.lst? = some ds ∧ k sl ds
theorem lstK_o {kk : Slot → List D → Prop} : lstK (some (.own (.lst ds))) kk = kk (.own (.lst ds)) ds := propext ⟨fun ⟨_, _, e, e2, h⟩ => by cases e; cases e2; exact h, fun h => ⟨_, _, rfl, rfl, h⟩⟩
theorem lstK_i {kk : Slot → List D → Prop} : lstK (some (.io (.lst ds))) kk = kk (.io (.lst ds)) ds := propext ⟨fun ⟨_, _, e, e2, h⟩ => by cases e; cases e2; exact h, fun h => ⟨_, _, rfl, rfl, h⟩⟩
theorem appF_K : rE (appF F i f) env P X = lstK env[i]? fun _ _ => rE f env (fun e env1 => optK (e.keep F) fun d => lstK env1[i]? fun sl ds => andK (ds.length < 100000) (P (.val .non) (env1.set i (sl.put (.lst (ds ++ [d])))))) X :=
  propext ⟨fun ⟨⟨sl, h1, ds, h2⟩, h⟩ => ⟨sl, ds, h1, h2, f.m (fun _ _ ⟨d, q, sl, ds, h1, h2, h3, h4⟩ => ⟨d, q, sl, ds, h1, h2, h3, h4⟩) (fun _ _ h => h) h⟩,
    fun ⟨sl, ds, h1, h2, h⟩ => ⟨⟨sl, h1, ds, h2⟩, f.m (fun _ _ ⟨d, q, sl, ds, h1, h2, h3, h4⟩ => ⟨d, q, sl, ds, h1, h2, h3, h4⟩) (fun _ _ h => h) h⟩⟩
theorem popF_K : rE (popF i) env P X = lstK env[i]? fun sl ds => optK (ds[ds.length - 1]?) fun d => P (.val d) (env.set i (sl.put (.lst ds.dropLast))) :=
  propext ⟨fun ⟨sl, ds, d, h1, h2, h3, h4⟩ => ⟨sl, ds, h1, h2, d, h3, h4⟩, fun ⟨sl, ds, h1, h2, d, h3, h4⟩ => ⟨sl, ds, d, h1, h2, h3, h4⟩⟩
def natK (e : EV) (k : Nat → Prop) (_ : Dm k := ()) : Prop := ∃ i : Nat, e = .val (.int (i : Int)) ∧ k i
theorem natK_v {x : Nat} {kn : Nat → Prop} : natK (.val (.int (x : Int))) kn = kn x := propext ⟨fun ⟨_, e, h⟩ => by
  have : (x : Int) = _ := D.int.inj (EV.val.inj e)
  rw [Int.ofNat.inj this]; exact h, fun h => ⟨x, rfl, h⟩⟩
theorem popAF_K : rE (popAF i f) env P X = lstK env[i]? fun _ _ => rE f env (fun e env1 => natK e fun k => andK (k < 100000) (lstK env1[i]? fun sl ds => optK ds[k]? fun d => P (.val d) (env1.set i (sl.put (.lst (ds.eraseIdx k)))))) X :=
  propext ⟨fun ⟨⟨sl, h1, ds, h2⟩, h⟩ => ⟨sl, ds, h1, h2, f.m (fun _ _ ⟨k, q, hk, sl, ds, d, h1, h2, h3, h4⟩ => ⟨k, q, hk, sl, ds, h1, h2, d, h3, h4⟩) (fun _ _ h => h) h⟩,
    fun ⟨sl, ds, h1, h2, h⟩ => ⟨⟨sl, h1, ds, h2⟩, f.m (fun _ _ ⟨k, q, hk, sl, ds, h1, h2, d, h3, h4⟩ => ⟨k, q, hk, sl, ds, d, h1, h2, h3, h4⟩) (fun _ _ h => h) h⟩⟩
def newLK (e : EV) (k : List D → Prop) (_ : Dm k := ()) : Prop := ∃ zs, e = .new (.lst zs) ∧ k zs
theorem newLK_v {kn : List D → Prop} : newLK (.new (.lst ds)) kn = kn ds := propext ⟨fun ⟨_, e, h⟩ => by cases e; exact h, fun h => ⟨_, rfl, h⟩⟩
theorem extF_K : rE (extF F i f) env P X = lstK env[i]? fun _ _ => rE f env (fun e env1 => newLK e fun zs => lstK env1[i]? fun sl ds => andK (ds.length + zs.length < 100000) (P (.val .non) (env1.set i (sl.put (.lst (ds ++ zs)))))) X :=
  propext ⟨fun ⟨⟨sl, h1, ds, h2⟩, h⟩ => ⟨sl, ds, h1, h2, f.m (fun _ _ ⟨k, q, sl, ds, h1, h2, h3, h4⟩ => ⟨k, q, sl, ds, h1, h2, h3, h4⟩) (fun _ _ h => h) h⟩,
    fun ⟨sl, ds, h1, h2, h⟩ => ⟨⟨sl, h1, ds, h2⟩, f.m (fun _ _ ⟨k, q, sl, ds, h1, h2, h3, h4⟩ => ⟨k, q, sl, ds, h1, h2, h3, h4⟩) (fun _ _ h => h) h⟩⟩
theorem skipS_K : rS skipS env Ps X = Ps.nx env := rfl
theorem seqS_K : rS (seqS a b) env Ps X = rS a env { Ps with nx := fun env1 => rS b env1 Ps X } X := rfl
theorem brkS_K : rS brkS env Ps X = Ps.bk env := rfl
theorem cntS_K : rS cntS env Ps X = Ps.ct env := rfl
theorem nevS_K : rS nevS env Ps X = False := rfl
theorem retS_K : rS (retS f) env Ps X = rE f env Ps.rt X := rfl
theorem dropS_K : rS (dropS f) env Ps X = rE f env (fun _ env1 => Ps.nx env1) X := rfl
theorem ifS_K : rS (ifS t a b) env Ps X = rT t env (fun k env1 => iteK k (rS a env1 Ps X) (rS b env1 Ps X)) X := rfl
theorem asgS_K : rS (asgS i f) env Ps X = rE f env (fun e env1 => optK (putE i e env1) fun env2 => Ps.nx env2) X := rfl
theorem patS_K {p : Pat} : rS (patS F p f) env Ps X = rE f env (fun e env1 => optK (e.keep F) fun d => optK (p.put d env1) fun env2 => Ps.nx env2) X := rfl
theorem forS_K {p : Pat} : rS (forS l p a) env Ps X = rL l env (fun ds env1 => rF p a Ps X ds env1) X := rfl
theorem seqI_K : rL (seqI F f) env PL X = rE f env (fun e env1 => optK (e.keep F) fun d => optK (iterL? d) fun ds => PL ds env1) X := rfl
theorem enumI_K : rL (enumI F f) env PL X = rE f env (fun e env1 => optK (e.keep F) fun d => optK (tupL? d) fun ds => PL (enumD ds) env1) X := rfl
theorem rngI_K : rL (rngI f) env PL X = rE f env (fun e env1 => intK e fun n => andK (-1000000 ≤ n ∧ n ≤ 1000000) (PL (intsD 0 n.toNat) env1)) X := rfl
theorem yesT_K : rT yesT env PT X = PT true env := rfl
theorem nilP_K : rP nilP env PE X = PE [] env := rfl
theorem consP_K : rP (consP f le) env PE X = rE f env (fun e env1 => andK (e.isOwn = false) (rP le env1 (fun es env2 => PE (e :: es) env2) X)) X := rfl
theorem parS_K {is : List Nat} : rS (parS is le) env Ps X = rP le env (fun es env1 => optK (putEs is es env1) fun env2 => Ps.nx env2) X := rfl
theorem tgtS_K : rS (tgtS F gf f) env Ps X = rE f env (fun e env1 => optK (e.keep F) fun d => rG gf d env1 Ps.nx X) X := rfl
def obK (s : Option Slot) (k : Slot → Ob → Prop) (_ : Dm k := ()) : Prop := ∃ sl o, s = some sl ∧ sl.ob = some o ∧ k sl o
theorem obK_o {kk : Slot → Ob → Prop} : obK (some (.own ob)) kk = kk (.own ob) ob := propext ⟨fun ⟨_, _, e, e2, h⟩ => by cases e; cases e2; exact h, fun h => ⟨_, _, rfl, rfl, h⟩⟩
theorem obK_i {kk : Slot → Ob → Prop} : obK (some (.io ob)) kk = kk (.io ob) ob := propext ⟨fun ⟨_, _, e, e2, h⟩ => by cases e; cases e2; exact h, fun h => ⟨_, _, rfl, rfl, h⟩⟩
theorem subG_K : rG (subG F i f) d env PG X = obK env[i]? fun _ _ => rE f env (fun e env1 => optK (e.settle F) fun e' => optK (e'.rd F env1) fun k => obK env1[i]? fun sl o => optK (putOb o k d) fun o' => PG (env1.set i (sl.put o'))) X :=
  propext ⟨fun ⟨⟨sl, o, h1, h2⟩, h⟩ => ⟨sl, o, h1, h2, f.m (fun _ _ ⟨e', q, k, h0, sl, o, o', h1, h2, h3, h4⟩ => ⟨e', q, k, h0, sl, o, h1, h2, o', h3, h4⟩) (fun _ _ h => h) h⟩,
    fun ⟨sl, o, h1, h2, h⟩ => ⟨⟨sl, o, h1, h2⟩, f.m (fun _ _ ⟨e', q, k, h0, sl, o, h1, h2, o', h3, h4⟩ => ⟨e', q, k, h0, sl, o, o', h1, h2, h3, h4⟩) (fun _ _ h => h) h⟩⟩
theorem nilA_K : rA nilA env PA X = PA [] env := rfl
theorem consA_K : rA (consA F f la) env PA X = rE f env (fun e env1 => optK (e.av F) fun a => rA la env1 (fun as env2 => PA (a :: as) env2) X) X := rfl
theorem callF_K : rE (callF FS n la) env P X = rA la env (fun as env1 => andK (as.length = n ∧ (refs as).Nodup) (rR FS (as.map (slotOf env1)) (fun e outs => aftK as env1 P e outs) X)) X :=
  propext ⟨fun h => la.m (fun _ _ ⟨h1, h2, h3⟩ => ⟨⟨h1, h2⟩, h3⟩) (fun _ _ h => h) h, fun h => la.m (fun _ _ ⟨⟨h1, h2⟩, h3⟩ => ⟨h1, h2, h3⟩) (fun _ _ h => h) h⟩
theorem mkF_K {c : Nat} : rE (mkF c FS n la) env P X = rA la env (fun as env1 => andK (as.length + 1 = n ∧ (refs as).Nodup) (rR FS (.io (.ins c []) :: as.map (slotOf env1)) (fun e outs => mkK as env1 P e outs) X)) X :=
  propext ⟨fun h => la.m (fun _ _ ⟨h1, h2, h3⟩ => ⟨⟨h1, h2⟩, h3⟩) (fun _ _ h => h) h, fun h => la.m (fun _ _ ⟨⟨h1, h2⟩, h3⟩ => ⟨h1, h2, h3⟩) (fun _ _ h => h) h⟩
def insK (s : Option Slot) (k : Slot → Nat → List (Str × D) → Prop) (_ : Dm k := ()) : Prop := ∃ sl c fs, s = some sl ∧ sl.ob = some (.ins c fs) ∧ k sl c fs
theorem insK_o {kk : Slot → Nat → List (Str × D) → Prop} {c : Nat} {fs : List (Str × D)} : insK (some (.own (.ins c fs))) kk = kk (.own (.ins c fs)) c fs := propext ⟨fun ⟨_, _, _, e, e2, h⟩ => by cases e; cases e2; exact h, fun h => ⟨_, _, _, rfl, rfl, h⟩⟩
theorem insK_i {kk : Slot → Nat → List (Str × D) → Prop} {c : Nat} {fs : List (Str × D)} : insK (some (.io (.ins c fs))) kk = kk (.io (.ins c fs)) c fs := propext ⟨fun ⟨_, _, _, e, e2, h⟩ => by cases e; cases e2; exact h, fun h => ⟨_, _, _, rfl, rfl, h⟩⟩
theorem setF_K {ics : List Nat} {nm : Str} : rS (setF F ics i nm f) env Ps X = rE f env (fun e env1 => optK (e.keep F) fun d => insK env1[i]? fun sl c fs => andK (c ∈ ics ∧ nm ∈ F c ∧ fs.length < 1000) (Ps.nx (env1.set i (sl.put (.ins c (putFs nm d fs)))))) X :=
  propext ⟨fun h => f.m (fun _ _ ⟨d, q, sl, c, fs, h1, h2, h3, h4, h5, h6⟩ => ⟨d, q, sl, c, fs, h1, h2, ⟨h3, h4, h5⟩, h6⟩) (fun _ _ h => h) h, fun h => f.m (fun _ _ ⟨d, q, sl, c, fs, h1, h2, ⟨h3, h4, h5⟩, h6⟩ => ⟨d, q, sl, c, fs, h1, h2, h3, h4, h5, h6⟩) (fun _ _ h => h) h⟩
theorem lcF_K {it : LF} {p : Pat} {vs : List Nat} : rE (lcF F it p t f vs) env P X = rL it env (fun ds env1 => andK (okW env1 vs = true) (rC F p t f vs (fun acc envW => P (.new (.lst acc)) (restE envW env1 vs)) ds [] (wipeE env1 vs))) X := rfl
def insDP : D → Prop
  | .ins _ _ => True
  | _ => False
theorem insDP_iff {d : D} : insDP d ↔ ∃ c ds, d = .ins c ds := by cases d <;> simp [insDP]
theorem raiseS_K {c : Nat} : rS (raiseS F c l) env Ps X = rL l env (fun ds _ => ds.length = (F c).length ∧ ds.length ≤ 100 ∧ X c ds) X := rfl
theorem body_K (h : rS a (as ++ List.replicate (m - n) .un) ⟨fun env => PR (.val .non) env, fun e env => optK (retE env e) fun e' => PR e' env, fun _ => False, fun _ => False⟩ X) : runF (bodyF m n a) as PR X := h
theorem aftK_K {aa : List AV} {outs : List Slot} : aftK aa env P e outs = andK (e.isOwn = false) (optK (backE aa outs env) fun env2 => P e env2) := rfl
end
end En
set_option Elab.async false
set_option linter.all false
set_option maxRecDepth 100000
namespace En
open PySem PySem.Spec PyProof.Rows L2
/-! ### what the operations are worth, for simp -/
section
variable {i j k : Int} {n : Nat} {x y z : D} {ds es : List D} {b c : Bool} {s t : Str} {xs : List Str} {F : Nat → List Str} {env : Env'} {o : Ob}
theorem o_add : addD (.int i) (.int j) = some (.int (i + j)) := rfl
theorem o_sub : subD (.int i) (.int j) = some (.int (i - j)) := rfl
theorem o_lt : ltD (.int i) (.int j) = some (.bl (decide (i < j))) := rfl
theorem o_le : leD (.int i) (.int j) = some (.bl (decide (i ≤ j))) := rfl
theorem o_gt : gtD (.int i) (.int j) = some (.bl (decide (j < i))) := rfl
theorem o_ge : geD (.int i) (.int j) = some (.bl (decide (j ≤ i))) := rfl
theorem o_neg : negD (.int i) = some (.int (-i)) := rfl
theorem o_eqi : eqD (.int i) (.int j) = some (.bl (decide (i = j))) := by
  show some (D.bl (eqB (.int i) (.int j))) = _
  rw [eqB_int]
theorem o_nei : neD (.int i) (.int j) = some (.bl (!decide (i = j))) := by
  show some (D.bl (!eqB (.int i) (.int j))) = _
  rw [eqB_int]
theorem o_eqs : eqD (.str s) (.str t) = some (.bl (s == t)) := by
  show some (D.bl (eqB (.str s) (.str t))) = _
  rw [eqB_str]
theorem o_nes : neD (.str s) (.str t) = some (.bl (!(s == t))) := by
  show some (D.bl (!eqB (.str s) (.str t))) = _
  rw [eqB_str]
theorem o_inn : isD .non .non = some (.bl true) := rfl
theorem o_iin : isD (.int i) .non = some (.bl false) := rfl
theorem o_isn : isD (.str s) .non = some (.bl false) := rfl
theorem o_itn : isD (.tup ds) .non = some (.bl false) := rfl
theorem o_iln : isD (.lst ds) .non = some (.bl false) := rfl
theorem o_ibn : isD (.bl b) .non = some (.bl false) := rfl
theorem o_icn : isD (.ins n ds) .non = some (.bl false) := rfl
theorem o_imn : isD (.nms xs) .non = some (.bl false) := rfl
theorem o_ibb : isD (.bl b) (.bl c) = some (.bl (b == c)) := rfl
theorem o_iib : isD (.int i) (.bl c) = some (.bl false) := rfl
theorem o_isb : isD (.str s) (.bl c) = some (.bl false) := rfl
theorem o_inb : isD .non (.bl c) = some (.bl false) := rfl
theorem o_itb : isD (.tup ds) (.bl c) = some (.bl false) := rfl
theorem o_imb : isD (.nms xs) (.bl c) = some (.bl false) := rfl
theorem o_isNot : isNotD x y = (isD x y).bind fun d => match d with | .bl b => some (.bl (!b)) | _ => none := by
  unfold isNotD
  cases isD x y with
  | none => rfl
  | some d => cases d <;> rfl
theorem o_nnn : isNotD .non .non = some (.bl false) := rfl
theorem o_nin : isNotD (.int i) .non = some (.bl true) := rfl
theorem o_nsn : isNotD (.str s) .non = some (.bl true) := rfl
theorem o_ntn : isNotD (.tup ds) .non = some (.bl true) := rfl
theorem o_nln : isNotD (.lst ds) .non = some (.bl true) := rfl
theorem o_nbn : isNotD (.bl b) .non = some (.bl true) := rfl
theorem o_ncn : isNotD (.ins n ds) .non = some (.bl true) := rfl
theorem o_nbb : isNotD (.bl b) (.bl c) = some (.bl (!(b == c))) := rfl
theorem o_trb : truD (.bl b) = some b := rfl
theorem o_trn : truD .non = some false := rfl
theorem o_trl : truD (.lst ds) = some (!ds.isEmpty) := rfl
theorem o_trt : truD (.tup ds) = some (!ds.isEmpty) := rfl
theorem o_trm : truD (.nms xs) = some (!xs.isEmpty) := rfl
theorem o_tri : truD (.int i) = some (i != 0) := rfl
theorem o_lnt : lenD (.tup ds) = some (.int ds.length) := rfl
theorem o_lnl : lenD (.lst ds) = some (.int ds.length) := rfl
theorem o_lnm : lenD (.nms xs) = some (.int xs.length) := rfl
theorem o_tul : tupOfD (.lst ds) = some (.tup ds) := rfl
theorem o_tut : tupOfD (.tup ds) = some (.tup ds) := rfl
theorem o_tum : tupOfD (.nms xs) = some (.nms xs) := rfl
theorem o_lsl : lstOfD (.lst ds) = some (.lst ds) := rfl
theorem o_lst : lstOfD (.tup ds) = some (.lst ds) := rfl
theorem o_lsm : lstOfD (.nms xs) = some (.lst (xs.map .str)) := rfl
theorem o_int : intOfD (.int i) = some (.int i) := rfl
theorem o_tnm : tupN (.nms xs) = some (.nms xs) := rfl
theorem o_itl : iterL? (.lst ds) = some ds := rfl
theorem o_itt : iterL? (.tup ds) = some ds := rfl
theorem o_itm : iterL? (.nms xs) = some (xs.map .str) := rfl
theorem o_ix : ∀ {ds : List D} {j : Nat}, ixD (.tup ds) (.int (j : Int)) = ds[j]? := fun {ds j} => by
  show atI ds (j : Int) = _
  unfold atI ixN
  by_cases h : j < ds.length
  · simp [h]
  · have : ¬ ((j : Int) < ds.length) := by omega
    simp [this]
    omega
theorem o_ixl {j : Nat} : ixD (.lst ds) (.int (j : Int)) = ds[j]? := o_ix
theorem o_ix0 : ixD (.tup (x :: ds)) (.int 0) = some x := o_ix (j := 0)
theorem o_ix1 : ixD (.tup (x :: y :: ds)) (.int 1) = some y := o_ix (j := 1)
theorem o_ix2 : ixD (.tup (x :: y :: z :: ds)) (.int 2) = some z := o_ix (j := 2)
theorem o_ix3 {w : D} : ixD (.tup (x :: y :: z :: w :: ds)) (.int 3) = some w := o_ix (j := 3)
theorem o_ix4 {w v : D} : ixD (.tup (x :: y :: z :: w :: v :: ds)) (.int 4) = some v := o_ix (j := 4)
theorem o_ixl0 : ixD (.lst (x :: ds)) (.int 0) = some x := o_ix (j := 0)
theorem o_ixl1 : ixD (.lst (x :: y :: ds)) (.int 1) = some y := o_ix (j := 1)
theorem o_mul (h1 : -18446744073709551616 < j) (h2 : j < 18446744073709551616) : mulD (.int i) (.int j) = some (.int (i * j)) := mul_r h1 h2
theorem o_mul' (h1 : -18446744073709551616 < i) (h2 : i < 18446744073709551616) : mulD (.int i) (.int j) = some (.int (i * j)) := mul_l h1 h2
theorem o_mod (h : 0 < j) : modD (.int i) (.int j) = some (.int (i % j)) := mod_ok h
theorem o_div (h : 0 < j) (h2 : j < 1073741824) : divD (.int i) (.int j) = some (.int (i / j)) := div_ok h h2
theorem o_notin {d e : D} {b : Bool} (h : inD d e = some (.bl b)) : notInD d e = some (.bl (!b)) := by
  unfold inD at h
  unfold notInD
  cases q : inB d e with
  | none => rw [q] at h; cases h
  | some c => rw [q] at h; cases h; rfl
theorem q_settle : (EV.new o).settle F = (o.fr F).map .val := rfl
theorem q_rd {i : Nat} : (EV.own i).rd F env = (env[i]?).bind fun s => s.ob.bind fun o => o.fr F := rfl
theorem q_putv {i : Nat} : putE i (.val x) env = (env[i]?).bind fun sl => bif sl.isIo then none else some (env.set i (.val x)) := by
  unfold putE
  cases env[i]? with
  | none => rfl
  | some sl =>
    show (if sl.isIo = true then none else some _) = _
    cases h : sl.isIo <;> simp [h]
theorem q_putn {i : Nat} : putE i (.new o) env = (env[i]?).bind fun sl => bif sl.isIo then none else some (env.set i (.own o)) := by
  unfold putE
  cases env[i]? with
  | none => rfl
  | some sl =>
    show (if sl.isIo = true then none else some _) = _
    cases h : sl.isIo <;> simp [h]
theorem q_slr {i : Nat} : slotOf env (.ref i) = match (env[i]?).bind Slot.ob with | some o => .io o | none => .un := rfl
theorem q_bkr {i : Nat} {r : List AV} {os : List Slot} : backE (.ref i :: r) (.io o :: os) env = (env[i]?).bind fun sl => backE r os (env.set i (sl.put o)) := by
  show (match env[i]? with | some sl => _ | none => none) = _
  cases env[i]? <;> rfl
theorem q_retv : retE env (.val x) = some (.val x) := rfl
theorem q_retn : retE env (.new o) = some (.new o) := rfl
theorem q_reto {i : Nat} : retE env (.own i) = (env[i]?).bind fun s => match s with | .own o => some (.new o) | _ => none := by
  show (match env[i]? with | some (.own o) => some (EV.new o) | _ => none) = _
  cases env[i]? with
  | none => rfl
  | some s => cases s <;> rfl
theorem q_fri {c : Nat} {fs : List (Str × D)} (h : fs.map (·.1) = F c) : (Ob.ins c fs).fr F = some (.ins c (fs.map (·.2))) := if_pos h
end
end En
set_option Elab.async false
set_option linter.all false
set_option maxRecDepth 100000
namespace En
open PySem PySem.Spec PyProof.Rows L2
theorem forL_K {p : Pat} {body : SF} {P : Pst} {X : Exx} (ds : List D) {env : Env'} (I : Nat → Env' → Prop) (h0 : I 0 env)
    (step : ∀ k d env, ds[k]? = some d → I k env → optK (p.put d env) fun env1 => rS body env1 { P with nx := I (k + 1), ct := I (k + 1), bk := P.nx } X) (hend : ∀ env, I ds.length env → P.nx env) : rF p body P X ds env := forL_inv ds I h0 step hend
theorem compL_K {F : Nat → List Str} {p : Pat} {t : TF} {f : EF} {vs : List Nat} {P : List D → Env' → Prop} (ds : List D) {env : Env'} (I : Nat → List D → Env' → Prop) (h0 : I 0 [] env)
    (step : ∀ k d acc env, ds[k]? = some d → I k acc env → optK (p.put d env) fun env2 => rT t env2 (fun b env3 => iteK b (rE f env3 (fun e env4 => optK (e.keep F) fun d' => andK (acc.length < 100000) (andK (okW env4 vs = true) (I (k + 1) (acc ++ [d']) (wipeE env4 vs)))) X0)
      (andK (okW env3 vs = true) (I (k + 1) acc (wipeE env3 vs)))) X0) (hend : ∀ acc env, I ds.length acc env → P acc env) : rC F p t f vs P ds [] env := compL_inv ds I h0 step hend
/-- a comprehension whose turns are plain: what it makes -/
theorem compL_mapK {F : Nat → List Str} {p : Pat} {f : EF} {vs : List Nat} {P : List D → Env' → Prop} (g : Nat → D → D) (ds : List D) {env : Env'} (hz : ds.length < 100000)
    (step : ∀ (k : Nat) d, ds[k]? = some d → ∀ Q : D → Env' → Prop, Q (g k d) env → optK (p.put d env) fun env2 => rE f env2 (fun e env4 => optK (e.keep F) fun d' => andK (okW env4 vs = true) (Q d' (wipeE env4 vs))) X0)
    (hend : P ((ds.zipIdx.map fun q => g q.2 q.1)) env) : rC F p yesT f vs P ds [] env := by
  refine compL_K ds (fun k acc e => acc = (ds.zipIdx.map fun q => g q.2 q.1).take k ∧ e = env) ⟨by simp, rfl⟩ ?_ ?_
  · rintro k d acc e hk ⟨rfl, rfl⟩
    have hl := (List.getElem?_eq_some_iff.mp hk).1
    obtain ⟨env2, h1, h2⟩ := step k d hk (fun d' e' => (ds.zipIdx.map fun q => g q.2 q.1).take k ++ [d'] = (ds.zipIdx.map fun q => g q.2 q.1).take (k + 1) ∧ e' = e) ⟨by
      rw [List.take_add_one, List.getElem?_map, List.getElem?_zipIdx, hk]; simp, rfl⟩
    refine ⟨env2, h1, ?_⟩
    have h3 := f.m (P' := fun e5 env4 => optK (e5.keep F) fun d' => andK (((ds.zipIdx.map fun q => g q.2 q.1).take k).length < 100000) (andK (okW env4 vs = true) (((ds.zipIdx.map fun q => g q.2 q.1).take k ++ [d'] = (ds.zipIdx.map fun q => g q.2 q.1).take (k + 1)) ∧ wipeE env4 vs = e))) (X' := X0) (fun e env4 ⟨d', q1, q2, q3⟩ => ⟨d', q1, by rw [List.length_take]; omega, q2, q3⟩) (fun _ _ h => h) h2
    show rT yesT env2 _ X0
    rw [yesT_K, iteK_t]
    exact h3
  · rintro acc e ⟨rfl, rfl⟩
    rw [List.take_of_length_le (by simp)]; exact hend
theorem while_K {t : TF} {body : SF} {Ps : Pst} {X : Exx} {env : Env'} (I : Nat → Env' → Prop) (n : Nat) (h0 : I n env)
    (step : ∀ k env, I k env → rT t env (fun b env1 => iteK b (rS body env1 { Ps with nx := fun e => ∃ j, j < k ∧ I j e, ct := fun e => ∃ j, j < k ∧ I j e, bk := Ps.nx } X) (Ps.nx env1)) X) : rS (whileS t body) env Ps X := while_inv I n h0 step
/-- what stands between two statements -/
theorem seq_Q {sa sb : SF} {env : Env'} {Ps : Pst} {X : Exx} (Q : Env' → Prop) (h : rS sa env { Ps with nx := Q } X) (k : ∀ env1, Q env1 → rS sb env1 Ps X) : rS (seqS sa sb) env Ps X := seq_cut Q h k
def insCP (c : Nat) (d : D) : Prop := ∃ ds, d = .ins c ds
theorem insCP_i {c : Nat} {ds : List D} : insCP c (.ins c ds) = True := eq_true ⟨ds, rfl⟩
theorem cmpF_K {F : Nat → List Str} {ics : List Nat} {c : Nat} {FS f f2 : EF} {env : Env'} {P : EV → Env' → Prop} {X : Exx} : rE (cmpF F ics c FS f f2) env P X = rE f env (fun e env1 => optK (e.keep F) fun d1 => andK (insCP c d1) (rE f2 env1 (fun e2 env2 => optK (e2.keep F) fun d2 => andK ((tqD ics d2).isSome = true) (rR FS [.val d1, .val d2] (fun e3 _ => blK e3 fun b => P (.val (.bl b)) env2) X)) X)) X := rfl
theorem mkK_K {as : List AV} {env : Env'} {P : EV → Env' → Prop} {o : Ob} {os : List Slot} : mkK as env P (.val .non) (.io o :: os) = optK (backE as os env) fun env2 => P (.new o) env2 := propext ⟨fun ⟨_, o', os', e, env2, h1, h2⟩ => by cases e; exact ⟨env2, h1, h2⟩, fun ⟨env2, h1, h2⟩ => ⟨rfl, o, os, rfl, env2, h1, h2⟩⟩
theorem idxP_n {xs : List Str} : idxP (.nms xs) = True := rfl
theorem idxP_l {xs : List D} : idxP (.lst xs) = True := rfl
theorem tq_t {ics : List Nat} {ds : List D} : (tqD ics (.tup ds)).isSome = true := rfl
theorem tq_c {ics : List Nat} {c : Nat} {ds : List D} (h : c ∈ ics) : (tqD ics (.ins c ds)).isSome = true := by
  show (if c ∈ ics then some (Tq.c c) else none).isSome = true
  rw [if_pos h]; rfl
theorem q_okW {env : Env'} {i : Nat} {vs : List Nat} : okW env (i :: vs) = (((env[i]?).map Slot.plain).getD true && okW env vs) := by
  show ((match env[i]? with | some s => s.plain | none => true) && _) = _
  cases env[i]? <;> rfl
theorem q_rest {env env1 : Env'} {i : Nat} {vs : List Nat} : restE env env1 (i :: vs) = ((env1[i]?).map fun s => (restE env env1 vs).set i s).getD (restE env env1 vs) := by
  show (match env1[i]? with | some s => _ | none => _) = _
  cases env1[i]? <;> rfl
theorem q_slo {env : Env'} {i : Nat} : slotOf env (.ref i) = (((env[i]?).bind Slot.ob).map Slot.io).getD .un := by
  show (match (env[i]?).bind Slot.ob with | some o => _ | none => _) = _
  cases (env[i]?).bind Slot.ob <;> rfl
theorem o_eql0 : eqD (.lst []) (.lst []) = some (.bl true) := rfl
theorem getK_no {κ : Type} [DecidableEq κ] {k : κ} : ∀ {ks : List κ} {ds : List D}, k ∉ ks → getK ks ds k = none
  | [], _, _ => by unfold getK; rfl
  | j :: ks, [], _ => by unfold getK; rfl
  | j :: ks, d :: ds, h => by
    unfold getK
    rw [if_neg (fun z => h (by rw [z]; exact List.mem_cons_self)), getK_no (fun z => h (List.mem_cons_of_mem _ z))]
theorem getK_yes {κ : Type} [DecidableEq κ] {k : κ} : ∀ {ks : List κ} {ds : List D}, k ∈ ks → ks.length = ds.length → (getK ks ds k).isSome = true
  | j :: ks, d :: ds, h, hl => by
    unfold getK
    by_cases e : j = k
    · rw [if_pos e]; rfl
    · rw [if_neg e]
      exact getK_yes ((List.mem_cons.mp h).resolve_left fun z => e z.symm) (by simpa using hl)
  | j :: ks, [], h, hl => by simp at hl
theorem in_dK {s : Str} {ks : List Key} {ds : List D} (h : (Sum.inr s : Key) ∉ ks) : inD (.str s) (.dK ks ds) = some (.bl false) := by
  show some (D.bl ((getK ks ds (Sum.inr s)).isSome)) = _
  rw [getK_no h]; rfl
theorem in_dKy {s : Str} {ks : List Key} {ds : List D} (h : (Sum.inr s : Key) ∈ ks) (hl : ks.length = ds.length) : inD (.str s) (.dK ks ds) = some (.bl true) := by
  show some (D.bl ((getK ks ds (Sum.inr s)).isSome)) = _
  rw [getK_yes h hl]
theorem putD_new {κ : Type} [DecidableEq κ] {k : κ} {ks : List κ} {ds : List D} {d : D} (h : k ∉ ks) : putD ks ds k d = (ks ++ [k], ds ++ [d]) := by
  unfold putD
  rw [if_neg]
  intro z
  obtain ⟨j, hj, e⟩ := List.any_eq_true.mp z
  exact h (by rw [← of_decide_eq_true e]; exact hj)
theorem put_dK {s : Str} {ks : List Key} {ds : List D} {d : D} (h : (Sum.inr s : Key) ∉ ks) (hz : ds.length < 100000) : putOb (.dK ks ds) (.str s) d = some (.dK (ks ++ [.inr s]) (ds ++ [d])) := by
  show (if ds.length < 100000 then some (Ob.dK (putD ks ds (Sum.inr s) d).1 (putD ks ds (Sum.inr s) d).2) else none) = _
  rw [if_pos hz, putD_new h]
theorem o_min {i j : Int} : minD (.int i) (.int j) = some (.int (if j < i then j else i)) := rfl
theorem o_max {i j : Int} : maxD (.int i) (.int j) = some (.int (if j > i then j else i)) := rfl
theorem cut_nat {ds : List D} {k : Nat} : cutD ds none (some (k : Int)) = ds.take k := by
  unfold cutD
  rw [HT.sIx_nat, show HT.sIx ds.length 0 none = 0 from rfl]
  simp
theorem cut_drop {ds : List D} {k : Nat} : cutD ds (some (k : Int)) none = ds.drop k := by
  unfold cutD
  rw [HT.sIx_nat, show HT.sIx ds.length ds.length none = ds.length from rfl]
  by_cases h : k ≤ ds.length
  · rw [Nat.min_eq_left h, List.take_of_length_le (by simp)]
  · rw [Nat.min_eq_right (by omega), List.drop_of_length_le (Nat.le_refl _), List.drop_of_length_le (by omega)]; simp
theorem o_sltake {ds : List D} {i : Int} (h : 0 ≤ i) : slD (.lst ds) none (some i) = some (.lst (ds.take i.toNat)) := by
  obtain ⟨n, rfl⟩ := Int.eq_ofNat_of_zero_le h
  show some (D.lst (cutD ds none (some (n : Int)))) = _
  rw [cut_nat]; rfl
theorem o_slten {ds : List D} {i : Int} (h : 0 ≤ i) : slD (.tup ds) none (some i) = some (.tup (ds.take i.toNat)) := by
  obtain ⟨n, rfl⟩ := Int.eq_ofNat_of_zero_le h
  show some (D.tup (cutD ds none (some (n : Int)))) = _
  rw [cut_nat]; rfl
theorem o_sldrop {ds : List D} {i : Int} (h : 0 ≤ i) : slD (.lst ds) (some i) none = some (.lst (ds.drop i.toNat)) := by
  obtain ⟨n, rfl⟩ := Int.eq_ofNat_of_zero_le h
  show some (D.lst (cutD ds (some (n : Int)) none)) = _
  rw [cut_drop]; rfl
theorem o_sltd {ds : List D} {i : Int} (h : 0 ≤ i) : slD (.tup ds) (some i) none = some (.tup (ds.drop i.toNat)) := by
  obtain ⟨n, rfl⟩ := Int.eq_ofNat_of_zero_le h
  show some (D.tup (cutD ds (some (n : Int)) none)) = _
  rw [cut_drop]; rfl
theorem o_ixneg {ds : List D} {x : D} : ixD (.tup (ds ++ [x])) (.int (-1)) = some x := by
  show atI (ds ++ [x]) (-1) = _
  unfold atI ixN
  rw [if_neg (by omega), if_pos (by simp; omega)]
  simp
  have : (-1 + ((ds.length : Int) + 1)).toNat = ds.length := by omega
  rw [this]; simp
theorem perm_erase {α : Type} : ∀ {l : List α} {n : Nat} (h : n < l.length), (l[n] :: l.eraseIdx n).Perm l
  | x :: l, 0, _ => List.Perm.refl _
  | x :: l, n + 1, h => by
    have h' : n < l.length := by simpa using h
    exact (List.Perm.swap x l[n] (l.eraseIdx n)).trans (List.Perm.cons x (perm_erase h'))
theorem b_ft : (false == true) = false := rfl
theorem b_tf : (true == false) = false := rfl
end En
set_option Elab.async false
set_option linter.all false
set_option maxRecDepth 100000
namespace En
open PySem PySem.Spec PyProof.Rows L2
/-! ### try, lambda and the calls that take lambdas, as conditions -/
theorem io_none {env : Env'} (h : env.all (fun s => !s.isIo) = true) : IoPl env := fun i o e => by
  have := List.all_eq_true.mp h _ (List.mem_of_getElem? e)
  cases this
theorem mkS_k {sb : SF} {env : Env'} {P : Pst} {X : Exx} (hp : Pl env) (h : rS sb env ⟨fun e => IoPl e ∧ P.nx (plz e), fun e env => e.isOwn = false ∧ e.pl = true ∧ IoPl env ∧ P.rt e (plz env), fun e => IoPl e ∧ P.bk (plz e), fun e => IoPl e ∧ P.ct (plz e)⟩ (fun c fs => D.plL fs = true ∧ X c fs)) : rS (mkS sb) env P X := ⟨hp, h⟩
def plK (e : EV) (k : EV → Prop) : Prop := ∃ d2, e = .val d2 ∧ d2.pl = true ∧ k (.val d2)
theorem plK_b {b : Bool} {k : EV → Prop} : plK (.val (.bl b)) k = k (.val (.bl b)) := propext ⟨fun ⟨_, e, _, h⟩ => by cases e; exact h, fun h => ⟨_, rfl, rfl, h⟩⟩
section
variable {F : Nat → List Str} {env : Env'} {P : EV → Env' → Prop} {X : Exx} {Ps : Pst}
theorem callLF_K {FS f : EF} {capk : Nat → List Nat} : rE (callLF F FS capk f) env P X = rE f env (fun e env1 => optK (e.keep F) fun d => andK (D.FO (fun k ds => capD env1 (capk k) = some ds) d) (rR FS [.val d] (fun e2 _ => plK e2 fun e2 => P e2 env1) (fun c fs => D.plL fs = true ∧ X c fs))) X :=
  propext ⟨fun h => f.m (fun e env1 ⟨d, h1, h2, h3⟩ => ⟨d, h1, h2, FS.m (fun e2 _ ⟨d2, g1, g2, g3⟩ => ⟨d2, g1, g2, g3⟩) (fun _ _ h => h) h3⟩) (fun _ _ h => h) h, fun h => f.m (fun e env1 ⟨d, h1, h2, h3⟩ => ⟨d, h1, h2, FS.m (fun e2 _ ⟨d2, g1, g2, g3⟩ => ⟨d2, g1, g2, g3⟩) (fun _ _ h => h) h3⟩) (fun _ _ h => h) h⟩
theorem lamF_K {k : Nat} {caps : List Nat} : rE (lamF k caps) env P X = optK (capD env caps) fun ds => P (.val (.fn k ds)) env := rfl
theorem capD_n : capD env [] = some [] := rfl
def capV : Option Slot → Option D
  | some (.val d) => some d
  | _ => none
theorem capV_v {d : D} : capV (some (.val d)) = some d := rfl
theorem q_cap {i : Nat} {is : List Nat} : capD env (i :: is) = (capV env[i]?).bind fun d => (capD env is).map (d :: ·) := by
  show (match env[i]? with | some (.val d) => (capD env is).map (d :: ·) | _ => none) = _
  cases h : env[i]? with
  | none => rfl
  | some s => cases s <;> rfl
end
/-- a handler that sees one error -/
theorem try_K {ecs : List Nat} {TH : Nat → List D → EF} {ia i : Nat} {sb : SF} {env : Env'} {P : Pst} {X : Exx} {j : Nat} {ds : List D} {c : Nat} {fs : List D} (h1 : env[ia]? = some (.val (.fn j ds))) (h2 : env[i]? = some .un) (h3 : Ne' env)
    (hc : c ∈ ecs) (hp : D.plL fs = true) (hT : (TH j ds).r [] (fun _ _ => False) (fun c' fs' => c' = c ∧ fs' = fs))
    (h : rS sb (env.set i (.val (.exc c fs))) ⟨fun env' => OkE i env' ∧ P.nx (env'.set i .un), fun e env' => ∃ d, e = .val d ∧ d.pl = true ∧ OkE i env' ∧ P.rt (.val d) (env'.set i .un), fun _ => False, fun _ => False⟩ (fun _ _ => False)) : rS (tryF ecs TH ia i sb) env P X :=
  ⟨j, ds, h1, h2, h3, (TH j ds).m (fun _ _ h => h.elim) (fun c' fs' ⟨e1, e2⟩ => by subst e1; subst e2; exact ⟨hc, hp, h⟩) hT⟩
mutual
theorem fo_pl {φ : Nat → List D → Prop} : ∀ d : D, d.pl = true → D.FO φ d
  | .non, _ => trivial
  | .bl _, _ => trivial
  | .int _, _ => trivial
  | .str _, _ => trivial
  | .nms _, _ => trivial
  | .tup ds, h => fol_pl ds h
  | .lst ds, h => fol_pl ds h
  | .dK _ ds, h => fol_pl ds h
  | .dT _ ds, h => fol_pl ds h
  | .ins _ ds, h => fol_pl ds h
  | .fn _ _, h => nomatch h
  | .exc _ _, h => nomatch h
theorem fol_pl {φ : Nat → List D → Prop} : ∀ ds : List D, D.plL ds = true → D.FOL φ ds
  | [], _ => trivial
  | d :: ds, h => by
    have h : (d.pl && D.plL ds) = true := h
    rw [Bool.and_eq_true] at h
    exact ⟨fo_pl d h.1, fol_pl ds h.2⟩
end
theorem eqv_strs : ∀ xs : List Str, PyData.eqvAll (xs.map PyData.str) (xs.map PyData.str) = true
  | [] => by simp [PyData.eqvAll]
  | x :: xs => by simp [PyData.eqvAll, PyData.eqv, eqv_strs xs]
mutual
theorem eqv_self : ∀ (d : D) (n : Nat), okN d n = true → PyData.eqv d.py d.py = true
  | .non, _, _ => by simp [D.py, PyData.eqv]
  | .bl _, _, _ => by simp [D.py, PyData.eqv]
  | .int _, _, _ => by simp [D.py, PyData.eqv]
  | .str _, _, _ => by simp [D.py, PyData.eqv]
  | .tup ds, 0, h => by simp [okN] at h
  | .tup ds, n + 1, h => by
    have := eqv_selfL ds n (by simpa [okN] using h)
    simp [D.py, PyData.eqv, this]
  | .lst ds, 0, h => by simp [okN] at h
  | .lst ds, n + 1, h => by
    have := eqv_selfL ds n (by simpa [okN] using h)
    simp [D.py, PyData.eqv, this]
  | .dK _ _, n, h => by simp [okN] at h
  | .dT _ _, n, h => by simp [okN] at h
  | .ins _ _, n, h => by simp [okN] at h
  | .fn _ _, n, h => by simp [okN] at h
  | .exc _ _, n, h => by simp [okN] at h
  | .nms xs, 0, h => by simp [okN] at h
  | .nms xs, n + 1, h => by
    simp [D.py, PyData.eqv, eqv_strs]
theorem eqv_selfL : ∀ (ds : List D) (n : Nat), okL ds n = true → PyData.eqvAll (D.pyL ds) (D.pyL ds) = true
  | [], _, _ => by simp [D.pyL, PyData.eqvAll]
  | d :: ds, n, h => by
    have h : (okN d n && okL ds n) = true := h
    rw [Bool.and_eq_true] at h
    simp [D.pyL, PyData.eqvAll, eqv_self d n h.1, eqv_selfL ds n h.2]
end
theorem eqD_self {d : D} (h : okN d 60 = true) : eqD d d = some (.bl true) := by
  unfold eqD eqOk eqB
  rw [h, eqv_self d 60 h]; simp
theorem neD_self {d : D} (h : okN d 60 = true) : neD d d = some (.bl false) := by
  unfold neD eqOk eqB
  rw [h, eqv_self d 60 h]; simp
theorem eqvAll_len : ∀ {xs ys : List PyData}, PyData.eqvAll xs ys = true → xs.length = ys.length
  | [], [], _ => rfl
  | [], _ :: _, h => by simp [PyData.eqvAll] at h
  | _ :: _, [], h => by simp [PyData.eqvAll] at h
  | x :: xs, y :: ys, h => by
    simp only [PyData.eqvAll, Bool.and_eq_true] at h
    simp [eqvAll_len h.2]
theorem pyL_len : ∀ ds : List D, (D.pyL ds).length = ds.length
  | [] => rfl
  | d :: ds => by show (D.pyL ds).length + 1 = _; rw [pyL_len ds]; rfl
/-- the text of a short text -/
theorem repr_short {x : Str} (hx : ∀ c ∈ x.cps.toList, c < 16 ^ 8) (hz : x.length ≤ 100) : reprG (.str x) = some (.str (reprText x)) := by
  have h := PySem.StrLaws.reprText_len x hx
  show (if (reprText x).length ≤ sizeLine then some (D.str (reprText x)) else none) = _
  have e2 : (10000 : Nat) ≤ sizeLine := by decide +kernel
  rw [if_pos (by omega)]
/-- up to the last -/
theorem o_slneg {ds : List D} {x : D} : slD (.tup (ds ++ [x])) none (some (-1)) = some (.tup ds) := by
  show some (D.tup (cutD (ds ++ [x]) none (some (-1)))) = _
  have : cutD (ds ++ [x]) none (some (-1)) = ds := by
    have h : cutD (ds ++ [x]) none (some (-1)) = (ds ++ [x]).take ds.length := by
      unfold cutD
      have h1 : HT.sIx (ds ++ [x]).length 0 none = 0 := rfl
      have h2 : HT.sIx (ds ++ [x]).length (ds ++ [x]).length (some (-1)) = ds.length := by
        unfold HT.sIx
        simp
        try omega
      rw [h1, h2]
      simp
    rw [h]; simp
  rw [this]
end En
set_option Elab.async false
set_option linter.all false
set_option maxRecDepth 100000
namespace En
open PySem PySem.Spec PyProof.Rows L2
section
variable {X : Cx} {S : Sg} {M0 B : MS} {E : XK} {ow ow0 : OW} {env env1 : Env'} {σ : L2.St} {H H0 : Hp}
variable {kx vx tg iter e : Expr} {ifs : List Expr} {f fk fv : EF} {t : TF} {pos p : Pos} {it : LF}
/-! ### dict comprehensions, keys ints or texts -/
def dcL (F : Nat → List Str) (p : Pat) (t : TF) (fk fv : EF) (vs : List Nat) (P : List Key → List D → Env' → Prop) : List D → List Key → List D → Env' → Prop
  | [], ks, acc, env => P ks acc env
  | d :: ds, ks, acc, env => ∃ env2, p.put d env = some env2 ∧ t.r env2 (fun b env3 => if b = true then fk.r env3 (fun e env4 => ∃ d1 k, e = .val d1 ∧ keyD? d1 = some k ∧ fv.r env4 (fun e2 env5 => ∃ d2, e2.keep F = some d2 ∧ acc.length < 100000 ∧ okW env5 vs = true ∧
      dcL F p t fk fv vs P ds (putD ks acc k d2).1 (putD ks acc k d2).2 (wipeE env5 vs)) X0) X0
      else okW env3 vs = true ∧ dcL F p t fk fv vs P ds ks acc (wipeE env3 vs)) X0
theorem dcL_m {F : Nat → List Str} {p : Pat} {vs : List Nat} {P P' : List Key → List D → Env' → Prop} (hp : ∀ k a e, P k a e → P' k a e) : ∀ {ds : List D} {ks : List Key} {acc : List D} {env : Env'}, dcL F p t fk fv vs P ds ks acc env → dcL F p t fk fv vs P' ds ks acc env
  | [], _, _, _, h => hp _ _ _ h
  | d :: ds, ks, acc, env, ⟨env2, h1, h2⟩ => ⟨env2, h1, t.m (fun b env3 h => by
      split at h
      · rename_i z; rw [if_pos z]
        exact fk.m (fun e env4 ⟨d1, k, g1, g2, g3⟩ => ⟨d1, k, g1, g2, fv.m (fun e2 env5 ⟨d2, q1, q2, q3, q4⟩ => ⟨d2, q1, q2, q3, dcL_m hp q4⟩) (fun _ _ h => h) g3⟩) (fun _ _ h => h) h
      · rename_i z; rw [if_neg z]; exact ⟨h.1, dcL_m hp h.2⟩) (fun _ _ h => h) h2⟩
def dcF (F : Nat → List Str) (it : LF) (p : Pat) (t : TF) (fk fv : EF) (vs : List Nat) : EF where
  r := fun env P X => it.r env (fun ds env1 => okW env1 vs = true ∧ dcL F p t fk fv vs (fun ks acc envW => P (.new (.dK ks acc)) (restE envW env1 vs)) ds [] [] (wipeE env1 vs)) X
  m := fun hp hx h => it.m (fun ds env1 h => ⟨h.1, dcL_m (fun _ _ _ h => hp _ _ h) h.2⟩) hx h
theorem dc_of {p : Pat} {vs : List Nat} {Q : VK} (h : tE S M0 E (dcF S.flds it p t fk fv vs) σ H Q) : tDc (tI S M0 E it) (tGp S M0 p vs) (tT S M0 E0 t) (tE S M0 E0 fk) (tE S M0 E0 fv) vs σ H Q := by
  obtain ⟨B, ow, env, s, h⟩ := h
  refine ⟨B, ow, env, s, it.m (fun ds env1 h1 J H1 ow1 st1 s1 src Dl hD => ?_) (fun _ _ h => h) h⟩
  obtain ⟨hok, h1⟩ := h1
  have nD : ¬ Md B ow1 Dl := fun z => by
    obtain ⟨u, hu⟩ := s1.trkA Dl z
    rw [hD] at hu; cases hu
  have nD0 : ¬ M0 Dl := fun z => nD (s1.m0 Dl z)
  have gr1 : Grow H1 (upd H1 Dl (.dK [])) := .upd hD
  let Pv : List Key → List D → Env' → Prop := fun ks acc envW => ∀ v H' ow', Stp ow H ow' H' → Nw H (.new (.dK ks acc)) v → EVOk S M0 B ow' (restE envW env1 vs) σ H' (.new (.dK ks acc)) v → Q v H'
  let W : Nat → Nat → Hp → Prop := fun i m H2 => ∃ ow2 envW ks acc us, m = ds.length - i ∧ i ≤ ds.length ∧ Stp ow1 H1 ow2 H2 ∧ Sim S M0 (plus B Dl) ow2 envW (L2.wipe σ vs) H2 ∧ okW envW vs = true ∧ envW.length = env1.length ∧ H2 Dl = some (.dK (ks.zip us)) ∧ ks.length = us.length ∧ RepL S (Md (plus B Dl) ow2) H2 acc us ∧
    dcL S.flds p t fk fv vs Pv (ds.drop i) ks acc envW
  have sD : Sim S M0 (plus B Dl) ow1 (wipeE env1 vs) (L2.wipe σ vs) (upd H1 Dl (.dK [])) := by
    have := new_ok (ho := .dK []) (o := .dK [] []) (s1.wipe hok) hD fun M hM => ⟨[], upd_same, rfl, rfl⟩
    obtain ⟨p, ep, _, _, z, _⟩ := this
    cases ep
    exact z
  refine ⟨W, ⟨_, ow1, wipeE env1 vs, [], [], [], rfl, Nat.zero_le _, .grow gr1, sD, okW_wipe vs, wipeE_len vs, upd_same, rfl, rfl, h1⟩, ?_⟩
  rintro i m H2 ⟨ow2, envW, ks, acc, us, rfl, hi, st2, s2, hoW, hlW, hD2, hku, rl, h2⟩
  have mv : ∀ a o, Nt o → ¬ Md B ow1 a → H1 a = some o → H2 a = some o ∧ ¬ Md (plus B Dl) ow2 a := fun a o t n e => ⟨st2.kp a o t (fun z => n (.inr z)) e, fun z => by
    rcases z with (z | z) | z
    · exact n (.inl z)
    · subst z; rw [hD] at e; cases e
    · rcases st2.nw a z with z | z
      · exact n (.inr z)
      · rw [z] at e; cases e⟩
  obtain ⟨k1, k2⟩ := src (Md (plus B Dl) ow2) H2 mv s2.trkA i
  have noD : ∀ {ow3 : OW} {env3 : Env'} {σ3 : L2.St} {H3 : Hp}, Sim S M0 (plus B Dl) ow3 env3 σ3 H3 → some Dl ∉ ow3 := fun s3 => s3.dis Dl (.inr rfl)
  by_cases hlt : i < ds.length
  · right
    have hd : ds[i]? = some ds[i] := List.getElem?_eq_getElem hlt
    obtain ⟨g1, g2⟩ := k1 _ hd
    rw [List.drop_eq_getElem_cons hlt] at h2
    obtain ⟨env3, h3, h4⟩ := h2
    refine ⟨g1, fun H' => ∃ ow' envW' ks' acc' us', Stp ow1 H1 ow' H' ∧ Sim S M0 (plus B Dl) ow' envW' (L2.wipe σ vs) H' ∧ okW envW' vs = true ∧ envW'.length = env1.length ∧ H' Dl = some (.dK (ks'.zip us')) ∧ ks'.length = us'.length ∧ RepL S (Md (plus B Dl) ow') H' acc' us' ∧ dcL S.flds p t fk fv vs Pv (ds.drop (i + 1)) ks' acc' envW',
      fun H' ⟨ow', envW', ks', acc', us', z⟩ => ⟨ds.length - (i + 1), by omega, ow', envW', ks', acc', us', rfl, hlt, z⟩, fun x H' y => ?_⟩
    obtain ⟨gr, r⟩ := g2 x H' y
    have wid : ∀ σ', L2.wipe σ' vs = L2.wipe (L2.wipe σ vs) vs → L2.wipe σ' vs = L2.wipe σ vs := fun σ' z => z.trans wipe_idem
    refine ⟨plus B Dl, ow2, envW, ds[i], env3, s2.grow gr, r, h3, fun σ3 ow3 st3 s3 w3' => ?_⟩
    have w3 := wid σ3 w3'
    refine ⟨w3, ?_⟩
    have st : Stp ow1 H1 ow3 H' := (st2.trans (.grow gr)).trans st3
    refine ⟨plus B Dl, ow3, env3, s3, t.m (fun k env4 h H4 ow4 st4 s4 => ?_) (fun _ _ z => z.elim) h4⟩
    have st4' := st.trans st4
    have len4 : ∀ {envx : Env'} {owx : OW} {Hx : Hp}, Sim S M0 (plus B Dl) owx envx σ3 Hx → (wipeE envx vs).length = env1.length := fun sx => by
      rw [wipeE_len, sx.l1, ← hlW, s2.l1, ← wipe_length σ3 vs, w3]
    have hD4 : H4 Dl = some (.dK (ks.zip us)) := st4.kp Dl _ .dK (noD s3) (gr Dl _ hD2)
    have rl4 : RepL S (Md (plus B Dl) ow4) H4 acc us := RepL.stp (((Stp.grow gr).trans st3).trans st4) rl
    cases k with
    | false =>
      rw [if_neg Bool.false_ne_true] at h
      have s4' := s4.wipe h.1
      rw [w3] at s4'
      show ∃ ow' envW' ks' acc' us', _
      exact ⟨ow4, wipeE env4 vs, ks, acc, us, st4', s4', okW_wipe vs, len4 s4, hD4, hku, rl4, h.2⟩
    | true =>
      rw [if_pos rfl] at h
      show tE S M0 E0 fk σ3 H4 _
      refine ⟨plus B Dl, ow4, env4, s4, fk.m (fun e env5 h y H5 ow5 st5 nw5 ok5 => ?_) (fun _ _ z => z.elim) h⟩
      obtain ⟨d1, key, rfl, hk, h⟩ := h
      have s5 := ok5.sim trivial
      have ry : Rep S (Md (plus B Dl) ow5) H5 d1 y := (ok5.keep rfl).2
      have hy : y = kV key := key_v ry.top hk
      have hD5 : H5 Dl = some (.dK (ks.zip us)) := st5.kp Dl _ .dK (noD s4) hD4
      have rl5 := RepL.stp st5 rl4
      refine ⟨plus B Dl, ow5, env5, s5, fv.m (fun e env6 h v H6 ow6 st6 nw6 ok6 => ?_) (fun _ _ z => z.elim) h⟩
      obtain ⟨d', q1, q2, q3, q4⟩ := h
      obtain ⟨s6, r6⟩ := ok6.keep q1
      have hD6 : H6 Dl = some (.dK (ks.zip us)) := st6.kp Dl _ .dK (noD s5) hD5
      have rl6 := RepL.stp st6 rl5
      obtain ⟨us', d1', d2', d3'⟩ := putD_v (k := key) rl6 r6 hku
      have hm : Md (plus B Dl) ow6 Dl := .inl (.inr rfl)
      refine ⟨ks.zip us, key, hy, hD6, by rw [List.length_zip, hku, Nat.min_self, ← rl6.len]; exact line5 q2, ?_⟩
      have s6w := s6.wipe q3
      rw [w3] at s6w
      refine ⟨ow6, wipeE env6 vs, _, _, us', ?_, ?_, okW_wipe vs, len4 s6, by rw [upd_same, d1'], d2', d3'.upd_at hm, q4⟩
      · have stz := (st4'.trans st5).trans st6
        refine ⟨fun a o t n e => ?_, stz.nwp, fun a o e => ?_⟩
        · rw [upd_ne (fun z => by rw [z, hD] at e; cases e)]; exact stz.kp a o t n e
        · by_cases hz : a = Dl
          · exact ⟨_, by rw [hz]; exact upd_same⟩
          · rw [upd_ne hz]; exact stz.gr a o e
      · exact s6w.other (.inr rfl) hD6 .dK fun _ _ z => nomatch z
  · have e : i = ds.length := by omega
    subst e
    rw [List.drop_length] at h2
    refine .inl ⟨k2 rfl, ?_⟩
    have h2 : Pv ks acc envW := h2
    refine h2 _ H2 ow2 (st1.trans st2) (.at (st1.fresh hD)) ⟨Dl, rfl, fun z => ?_, nD0, ?_, us, hD2, hku, rl⟩
    · rcases z with z | z
      · exact nD (.inl z)
      · exact noD s2 z
    · refine s2.rest hoW hok hlW.symm (fun j hj => ?_) (wipe_length _ _) (fun j d hj ej => ?_)
      · rw [wipe_get, if_neg hj]
      · obtain ⟨v, e1, e2⟩ := s1.val j d ej
        exact ⟨v, e1, Rep.move mv _ _ e2⟩
theorem r_dc {scope : Scope} {own : List (Str × Nat)} {p : Pat} (hk : X.K = S.K) (hc : X.calm = true) (hN : X.N.Nodup) (hi : PI X tg iter (tI S M0 E it)) (ok : BlkOk X.N X.env.scope scope own)
    (hg : ∀ (s : Shared) (H : Hp) (C : Addr) (cl : List (Str × Addr)) (fp : List Addr), PG (X.blk s H scope (compEnvC scope cl C X.env) fp) tg (tGp S M0 p (own.map (·.2)))) (ht : ∀ (s : Shared) (H : Hp) (C : Addr) (cl : List (Str × Addr)) (fp : List Addr), PTs (X.blk s H scope (compEnvC scope cl C X.env) fp) ifs (tT S M0 E0 t))
    (hkx : ∀ (s : Shared) (H : Hp) (C : Addr) (cl : List (Str × Addr)) (fp : List Addr), PE (X.blk s H scope (compEnvC scope cl C X.env) fp) kx (tE S M0 E0 fk))
    (he : ∀ (s : Shared) (H : Hp) (C : Addr) (cl : List (Str × Addr)) (fp : List Addr), PE (X.blk s H scope (compEnvC scope cl C X.env) fp) vx (tE S M0 E0 fv)) (hs : ∀ x, foldedSetIterable iter X.env x = pure x := by intro _; rfl) :
    PE X (.DictComp kx vx [⟨tg, iter, ifs, 0⟩] scope pos) (tE S M0 E (dcF S.flds it p t fk fv (own.map (·.2)))) := PE.imp (pe_dc hc hN hi ok hg ht hkx he hs) fun σ H Q h => dc_of h
end
end En
set_option Elab.async false
set_option linter.all false
set_option maxRecDepth 100000
namespace En
open PySem PySem.Spec PyProof.Rows L2
section
variable {X : Cx} {S : Sg} {M0 B : MS} {E : XK} {ow ow0 : OW} {env env1 : Env'} {σ : L2.St} {H H0 : Hp}
variable {e : Expr} {f : EF} {pos p : Pos}
/-! ### sorted of a dict's int keys, max of a list of ints -/
def srtKF (F : Nat → List Str) (f : EF) : EF where
  r := fun env P X => f.r env (fun e env1 => ∃ e', e.settle F = some e' ∧ ∃ (is : List Int) (ds : List D), e'.rd F env1 = some (.dK (is.map Sum.inl) ds) ∧ is.length < 64 ∧ ∀ ys : List Int, ys.Perm is → ys.Pairwise (· ≤ ·) → P (.new (.lst (ys.map .int))) env1) X
  m := fun hp hx h => f.m (fun e env1 ⟨e', q, is, ds, h1, h2, h3⟩ => ⟨e', q, is, ds, h1, h2, fun ys a b => hp _ _ (h3 ys a b)⟩) hx h
def maxAF (F : Nat → List Str) (f : EF) : EF where
  r := fun env P X => f.r env (fun e env1 => ∃ e', e.settle F = some e' ∧ ∃ ns : List Int, e'.rd F env1 = some (.lst (ns.map .int)) ∧ 0 < ns.length ∧ ∀ m, m ∈ ns → (∀ y ∈ ns, y ≤ m) → P (.val (.int m)) env1) X
  m := fun hp hx h => f.m (fun e env1 ⟨e', q, ns, h1, h2, h3⟩ => ⟨e', q, ns, h1, h2, fun m a b => hp _ _ (h3 m a b)⟩) hx h
theorem ints_rep {M : MS} : ∀ xs : List Int, RepL S M H (xs.map D.int) (xs.map V.int)
  | [] => rfl
  | x :: xs => ⟨_, _, rfl, rfl, ints_rep xs⟩
theorem ints_of {M : MS} : ∀ {xs : List Int} {vs : List V}, RepL S M H (xs.map D.int) vs → vs = xs.map V.int
  | [], _, h => by cases h; rfl
  | x :: xs, _, h => by
    obtain ⟨v, r, rfl, h1, h2⟩ := h
    cases h1
    rw [ints_of h2]; rfl
theorem zip_fst {κ : Type} : ∀ {ks : List κ} {vs : List V}, ks.length = vs.length → (ks.zip vs).map (·.1) = ks
  | [], [], _ => rfl
  | k :: ks, v :: vs, h => by
    rw [List.zip_cons_cons, List.map_cons, zip_fst (by simpa using h)]
  | [], _ :: _, h => by simp at h
  | _ :: _, [], h => by simp at h
theorem r_srtK (hc : X.calm = true) (hm : X.mg "sorted" = none) (ha : PE X e (tE S M0 E f)) (hg : Gl X "sorted" := by rfl)
    (he : starEach [e] X.env = (false, eval e X.env) :: starEach [] X.env := by rfl) (hpl : (backTo pos (starEach [] X.env)).any (·.1) = false := by rfl) : PE X (.Call (.Name "sorted" p) [e] [] pos) (tE S M0 E (srtKF S.flds f)) :=
  PE.imp (pe_callB (call_sortedDI hc) hg hm (by decide +kernel) (pa_cons ha pa_nil he) (by decide) (by decide) he hpl) fun σ H Q h => by
    obtain ⟨B, ow, env, s, h⟩ := h
    refine ⟨B, ow, env, s, f.m (fun e1 env1 h1 v H1 ow1 st1 nw1 ok1 => ?_) (fun _ _ h => h) h⟩
    obtain ⟨e', q, is, ds, h1, h2, h3⟩ := h1
    have ok1' := ok1.settle q
    have s1 := ok1'.sim (EV.settle_old q)
    have r := ok1'.rd .refl s1 h1
    obtain ⟨a, vs, rfl, rd, z, l⟩ := r
    refine ⟨a, (is.map Sum.inl).zip vs, is, rfl, rd, zip_fst z, h2, fun ys p hp hs hn => ?_⟩
    exact h3 ys hp hs _ _ ow1 (st1.trans (.grow (.upd hn))) (.at (st1.fresh hn)) (new_ok s1 hn fun M hM => ⟨ys.map V.int, upd_same, ints_rep ys⟩)
theorem r_maxA (hk : X.K = S.K) (hc : X.calm = true) (hm : X.mg "max" = none) (ha : PE X e (tE S M0 E f)) (hg : Gl X "max" := by rfl)
    (he : starEach [e] X.env = (false, eval e X.env) :: starEach [] X.env := by rfl) (hpl : (backTo pos (starEach [] X.env)).any (·.1) = false := by rfl) : PE X (.Call (.Name "max" p) [e] [] pos) (tE S M0 E (maxAF S.flds f)) :=
  PE.imp (pe_callB (cr_max hc) hg hm (by decide +kernel) (pa_cons ha pa_nil he) (by decide) (by decide) he hpl) fun σ H Q h => by
    obtain ⟨B, ow, env, s, h⟩ := h
    refine ⟨B, ow, env, s, f.m (fun e1 env1 h1 v H1 ow1 st1 nw1 ok1 => ?_) (fun _ _ h => h) h⟩
    obtain ⟨e', q, ns, h1, h2, h3⟩ := h1
    have ok1' := ok1.settle q
    have s1 := ok1'.sim (EV.settle_old q)
    have r := ok1'.rd .refl s1 h1
    obtain ⟨a, vs, rfl, ra, l⟩ := RepT.lst r
    rw [ints_of l, ← hk] at ra
    exact ⟨a, ns, rfl, ra, h2, fun m a b => h3 m a b _ H1 ow1 st1 trivial ⟨s1, rfl⟩⟩
end
/-! ### read as conditions -/
def srtK (d : D) (k : List Int → Prop) : Prop := ∃ (is : List Int) (ds : List D), d = .dK (is.map Sum.inl) ds ∧ is.length < 64 ∧ ∀ ys : List Int, ys.Perm is → ys.Pairwise (· ≤ ·) → k ys
def maxK (d : D) (k : Int → Prop) : Prop := ∃ ns : List Int, d = .lst (ns.map .int) ∧ 0 < ns.length ∧ ∀ m, m ∈ ns → (∀ y ∈ ns, y ≤ m) → k m
def keyK (e : EV) (k : Key → Prop) : Prop := ∃ d1 j, e = .val d1 ∧ keyD? d1 = some j ∧ k j
theorem keyK_i {i : Int} {k : Key → Prop} : keyK (.val (.int i)) k = k (.inl i) := propext ⟨fun ⟨d1, j, e, h, q⟩ => by cases e; cases h; exact q, fun h => ⟨_, _, rfl, rfl, h⟩⟩
theorem keyK_s {i : Str} {k : Key → Prop} : keyK (.val (.str i)) k = k (.inr i) := propext ⟨fun ⟨d1, j, e, h, q⟩ => by cases e; cases h; exact q, fun h => ⟨_, _, rfl, rfl, h⟩⟩
section
variable {F : Nat → List Str} {env : Env'} {f fk fv : EF} {P : EV → Env' → Prop} {X : Exx}
theorem srtKF_K : rE (srtKF F f) env P X = rE f env (fun e env1 => optK (e.settle F) fun e' => optK (e'.rd F env1) fun d => srtK d fun ys => P (.new (.lst (ys.map .int))) env1) X :=
  propext ⟨fun h => f.m (fun e env1 ⟨e', q, is, ds, h1, h2, h3⟩ => ⟨e', q, _, h1, is, ds, rfl, h2, h3⟩) (fun _ _ h => h) h, fun h => f.m (fun e env1 ⟨e', q, d, h1, is, ds, h0, h2, h3⟩ => by subst h0; exact ⟨e', q, is, ds, h1, h2, h3⟩) (fun _ _ h => h) h⟩
theorem maxAF_K : rE (maxAF F f) env P X = rE f env (fun e env1 => optK (e.settle F) fun e' => optK (e'.rd F env1) fun d => maxK d fun m => P (.val (.int m)) env1) X :=
  propext ⟨fun h => f.m (fun e env1 ⟨e', q, is, h1, h2, h3⟩ => ⟨e', q, _, h1, is, rfl, h2, h3⟩) (fun _ _ h => h) h, fun h => f.m (fun e env1 ⟨e', q, d, h1, is, h0, h2, h3⟩ => by subst h0; exact ⟨e', q, is, h1, h2, h3⟩) (fun _ _ h => h) h⟩
/-- a dict comprehension's run -/
def rD (F : Nat → List Str) (p : Pat) (t : TF) (fk fv : EF) (vs : List Nat) (P : List Key → List D → Env' → Prop) (ds : List D) (ks : List Key) (acc : List D) (env : Env') : Prop := dcL F p t fk fv vs P ds ks acc env
theorem dcF_K {it : LF} {p : Pat} {t : TF} {vs : List Nat} : rE (dcF F it p t fk fv vs) env P X = rL it env (fun ds env1 => andK (okW env1 vs = true) (rD F p t fk fv vs (fun ks acc envW => P (.new (.dK ks acc)) (restE envW env1 vs)) ds [] [] (wipeE env1 vs))) X := rfl
theorem dcL_inv {p : Pat} {t : TF} {vs : List Nat} {P : List Key → List D → Env' → Prop} (I : Nat → List Key → List D → Env' → Prop) : ∀ (ds : List D) (n : Nat) {ks : List Key} {acc : List D} {env : Env'}, I n ks acc env →
    (∀ k d ks acc env, ds[k]? = some d → I (n + k) ks acc env → optK (p.put d env) fun env2 => rT t env2 (fun b env3 => iteK b (rE fk env3 (fun e env4 => keyK e fun j => rE fv env4 (fun e2 env5 => optK (e2.keep F) fun d' => andK (acc.length < 100000) (andK (okW env5 vs = true) (I (n + k + 1) (putD ks acc j d').1 (putD ks acc j d').2 (wipeE env5 vs)))) X0) X0)
      (andK (okW env3 vs = true) (I (n + k + 1) ks acc (wipeE env3 vs)))) X0) → (∀ ks acc env, I (n + ds.length) ks acc env → P ks acc env) → rD F p t fk fv vs P ds ks acc env
  | [], n, ks, acc, env, h0, _, hend => hend _ _ _ h0
  | d :: ds, n, ks, acc, env, h0, step, hend => by
    obtain ⟨env2, h1, h2⟩ := step 0 d ks acc env rfl h0
    have rcc : ∀ {ks acc env}, I (n + 1) ks acc env → rD F p t fk fv vs P ds ks acc env := fun h => dcL_inv I ds (n + 1) h (fun k d ks acc env hk hI => by
      have := step (k + 1) d ks acc env hk (by rw [show n + (k + 1) = n + 1 + k by omega]; exact hI)
      rw [show n + (k + 1) + 1 = n + 1 + k + 1 by omega] at this
      exact this) fun ks acc env h => hend ks acc env (by rw [List.length_cons, show n + (ds.length + 1) = n + 1 + ds.length by omega]; exact h)
    refine ⟨env2, h1, t.m (fun b env3 h => ?_) (fun _ _ h => h) h2⟩
    cases b with
    | true =>
      rw [iteK_t] at h
      rw [if_pos rfl]
      exact fk.m (fun e env4 ⟨d1, j, g1, g2, g3⟩ => ⟨d1, j, g1, g2, fv.m (fun e2 env5 ⟨d', q1, q2, q3, q4⟩ => ⟨d', q1, q2, q3, rcc q4⟩) (fun _ _ h => h) g3⟩) (fun _ _ h => h) h
    | false =>
      rw [iteK_f] at h
      rw [if_neg Bool.false_ne_true]
      exact ⟨h.1, rcc h.2⟩
theorem dcL_K {p : Pat} {t : TF} {vs : List Nat} {P : List Key → List D → Env' → Prop} (ds : List D) {env : Env'} (I : Nat → List Key → List D → Env' → Prop) (h0 : I 0 [] [] env)
    (step : ∀ k d ks acc env, ds[k]? = some d → I k ks acc env → optK (p.put d env) fun env2 => rT t env2 (fun b env3 => iteK b (rE fk env3 (fun e env4 => keyK e fun j => rE fv env4 (fun e2 env5 => optK (e2.keep F) fun d' => andK (acc.length < 100000) (andK (okW env5 vs = true) (I (k + 1) (putD ks acc j d').1 (putD ks acc j d').2 (wipeE env5 vs)))) X0) X0)
      (andK (okW env3 vs = true) (I (k + 1) ks acc (wipeE env3 vs)))) X0) (hend : ∀ ks acc env, I ds.length ks acc env → P ks acc env) : rD F p t fk fv vs P ds [] [] env :=
  dcL_inv I ds 0 h0 (fun k d ks acc env hk hI => by rw [Nat.zero_add] at hI ⊢; exact step k d ks acc env hk hI) fun ks acc env h => hend ks acc env (by rwa [Nat.zero_add] at h)
end
end En
set_option Elab.async false
set_option linter.all false
set_option maxRecDepth 100000
namespace En
open PySem PySem.Spec PyProof.Rows L2
section
variable {F : Nat → List Str} {env : Env'} {f f2 : EF} {t : TF} {P : EV → Env' → Prop} {PL : List D → Env' → Prop} {X : Exx}
theorem rngI2_K : rL (rngI2 f f2) env PL X = rE f env (fun e env1 => intK e fun i => andK (-1000000 ≤ i ∧ i ≤ 1000000) (rE f2 env1 (fun e2 env2 => intK e2 fun n => andK (-1000000 ≤ n ∧ n ≤ 1000000) (PL (intsD i (n - i).toNat) env2)) X)) X := rfl
theorem o_abs {i : Int} : absD (.int i) = some (.int (if i < 0 then -i else i)) := rfl
theorem o_gcd {i j : Int} : gcdD (.int i) (.int j) = some (.int ((Nat.gcd i.natAbs j.natAbs : Nat) : Int)) := rfl
/-- a comprehension whose turns are plain, with a test -/
theorem compF_K {α : Type} {p : Pat} {vs : List Nat} {P : List D → Env' → Prop} (h g : α → D) (c : α → Bool) (xs : List α) (hz : xs.length < 100000)
    (step : ∀ x ∈ xs, ∀ (acc : List D) (Q : List D → Env' → Prop), acc.length < 100000 → (c x = true → Q (acc ++ [g x]) env) → (c x = false → Q acc env) → optK (p.put (h x) env) fun env2 => rT t env2 (fun b env3 => iteK b (rE f env3 (fun e env4 => optK (e.keep F) fun d' => andK (acc.length < 100000) (andK (okW env4 vs = true) (Q (acc ++ [d']) (wipeE env4 vs)))) X0)
      (andK (okW env3 vs = true) (Q acc (wipeE env3 vs)))) X0)
    (hend : P ((xs.filter c).map g) env) : rC F p t f vs P (xs.map h) [] env := by
  refine compL_K _ (fun k acc e => acc = ((xs.take k).filter c).map g ∧ e = env) ⟨by simp, rfl⟩ ?_ ?_
  · rintro k d acc e hk ⟨rfl, rfl⟩
    rw [List.getElem?_map] at hk
    obtain ⟨x, hx, rfl⟩ := Option.map_eq_some_iff.mp hk
    have htk : xs.take (k + 1) = xs.take k ++ [x] := by rw [List.take_add_one, hx]; rfl
    have hlen : (((xs.take k).filter c).map g).length < 100000 := by
      rw [List.length_map]
      have h1 := List.length_filter_le c (xs.take k)
      have h2 : (xs.take k).length ≤ xs.length := by simp; omega
      omega
    refine step x (List.mem_of_getElem? hx) _ (fun acc e => acc = ((xs.take (k + 1)).filter c).map g ∧ e = _) hlen (fun hc => ⟨?_, rfl⟩) (fun hc => ⟨?_, rfl⟩)
    · rw [htk, List.filter_append]; simp [hc]
    · rw [htk, List.filter_append]; simp [hc]
  · rintro acc e ⟨rfl, rfl⟩
    rw [List.length_map, List.take_length]; exact hend
theorem bls_all {α : Type} (b : α → Bool) : ∀ xs : List α, blsD? (xs.map fun x => D.bl (b x)) = some (xs.map b)
  | [] => rfl
  | x :: xs => by
    show (blsD? (xs.map fun x => D.bl (b x))).map (b x :: ·) = _
    rw [bls_all b xs]; rfl
theorem o_all {α : Type} (b : α → Bool) (xs : List α) : allD (.lst (xs.map fun x => D.bl (b x))) = some (.bl (xs.all b)) := by
  show (blsD? (xs.map fun x => D.bl (b x))).map (fun bs => D.bl (bs.all id)) = _
  rw [bls_all]
  simp [List.all_map]
theorem ints_okN : ∀ (ns : List Int) (n : Nat), okL (ns.map D.int) n = true
  | [], _ => rfl
  | _ :: ns, n => ints_okN ns n
/-- a list of ints against the empty one -/
theorem eq_ints0 (ns : List Int) : eqD (.lst (ns.map .int)) (.lst []) = some (.bl ns.isEmpty) := by
  show (if eqOk _ _ then some (D.bl (eqB _ _)) else none) = _
  have ok : okN (.lst (ns.map D.int)) 60 = true := ints_okN ns 59
  rw [if_pos (by unfold eqOk; rw [ok]; simp [okN, okL])]
  cases ns with
  | nil => rfl
  | cons x l => simp [eqB, D.py, D.pyL, PyData.eqv, PyData.eqvAll]
theorem ne_ints0 (ns : List Int) : neD (.lst (ns.map .int)) (.lst []) = some (.bl (!ns.isEmpty)) := by
  show (if eqOk _ _ then some (D.bl (!eqB _ _)) else none) = _
  have ok : okN (.lst (ns.map D.int)) 60 = true := ints_okN ns 59
  rw [if_pos (by unfold eqOk; rw [ok]; simp [okN, okL])]
  cases ns with
  | nil => rfl
  | cons x l => simp [eqB, D.py, D.pyL, PyData.eqv, PyData.eqvAll]
end
end En
set_option Elab.async false
set_option linter.all false
set_option maxRecDepth 100000
namespace Lw
open PySem PySem.Spec PyProof.Rows L2 En
def top (i : Nat) : Stmt := PySem.Challenge.pw_everyhour_k87_whole_periods.main.body.getD i (.Pass ⟨0, 0, 0, 0⟩)
abbrev st_is_whole : Stmt := top 14
abbrev st_is_number : Stmt := top 15
abbrev st_is_name : Stmt := top 20
abbrev st_need_period : Stmt := top 23
abbrev st_DayLogu_initu : Stmt := inClass (top 25) 0
abbrev st_is_day : Stmt := top 26
abbrev st_times_seen : Stmt := top 27
abbrev st_plan_minute : Stmt := top 28
abbrev st_least_plan : Stmt := top 29
abbrev st_need_late : Stmt := top 30
abbrev st_fits_period : Stmt := top 31
abbrev st_periods_that_fit : Stmt := top 32
abbrev st_planned : Stmt := top 33
abbrev st_common_step : Stmt := top 34
abbrev st__law_pen : Stmt := top 36
abbrev st__law_draw : Stmt := top 37
abbrev st__law_pick : Stmt := top 38
abbrev st__law_is : Stmt := top 39
abbrev st__law_name : Stmt := top 40
abbrev st__law_names : Stmt := top 41
abbrev st__law_caught : Stmt := top 42
abbrev st__law_drawn_log : Stmt := top 43
abbrev st__law_made_log : Stmt := top 44
abbrev st__law_times : Stmt := top 45
abbrev st__law_raise_so : Stmt := top 46
abbrev st__law_plan : Stmt := top 47
abbrev st__law_step : Stmt := top 48
abbrev st_law : Stmt := top 49
def FL : Nat → List Str
  | 0 => ["events", "days"]
  | 1 => ["line", "word"]
  | 2 => ["name"]
  | 3 => ["what", "number"]
  | 4 => ["what", "row"]
  | 5 => ["event"]
  | 6 => ["name"]
  | 7 => ["name"]
  | 8 => ["what"]
  | 9 => []
  | 10 => ["what", "many", "limit"]
  | _ => []
def ICS : List Nat := [0]
def ECS : List Nat := [3]
def JCS : List Nat := [1, 2, 3, 4, 5, 6, 7, 8, 9, 10]
abbrev sg (K : PySem.W.Frag) (cl : Nat → Addr) (lm : Lm) (tb : List (Addr × Str)) : Sg := sgOf K cl FL lm tb
abbrev st_BadNumber_init : Stmt := inClass (top 5) 0
abbrev N_is_whole : List Str := ["value"]
def B_is_whole : SF := (retS (andF (unF FL (isiD ICS [(.b .int)]) (varF 0)) (notF (unF FL (isiD ICS [(.b .bool)]) (varF 0)))))
def F_is_whole : EF := bodyF 1 1 B_is_whole
abbrev N_times_seen : List Str := ["log", "at", "day"]
def B_times_seen : SF := (retS (lcF FL (seqI FL (unF FL (fldD FL ICS ("days" : Str)) (varF 0))) (.nm 2) (blF FL (binF FL isNotD (binF FL ixD (varF 2) (varF 1)) (litF .non))) (binF FL ixD (varF 2) (varF 1)) [2]))
def F_times_seen : EF := bodyF 3 2 B_times_seen
abbrev N_plan_minute : List Str := ["times", "period", "late", "minute", "time"]
def B_plan_minute : SF := (seqS (forS (seqI FL (srtKF FL (dcF FL (seqI FL (kvF FL 0)) (.nm 4) yesT (binF FL modD (varF 4) (varF 1)) (litF (.bl true)) [4]))) (.nm 3) (ifS (truF FL (unF FL allD (lcF FL (seqI FL (kvF FL 0)) (.nm 4) yesT (binF FL leD (binF FL modD (binF FL subD (varF 4) (varF 3)) (varF 1)) (varF 2)) [4]))) (retS (varF 3)) skipS)) (retS (litF .non)))
def F_plan_minute : EF := bodyF 5 3 B_plan_minute
abbrev N_least_plan : List Str := ["times", "period", "late", "first", "spare", "time"]
def B_least_plan : SF := (seqS (ifS (blF FL (binF FL geD (varF 2) (binF FL subD (varF 1) (litF (.int 1))))) (retS (litF (.int 0))) skipS) (seqS (asgS 3 (callF F_plan_minute 3 (consA FL (kvF FL 0) (consA FL (kvF FL 1) (consA FL (kvF FL 2) nilA))))) (seqS (ifS (blF FL (binF FL isD (varF 3) (litF .non))) (retS (litF .non)) skipS) (seqS (asgS 4 (binF FL subD (varF 2) (maxAF FL (lcF FL (seqI FL (kvF FL 0)) (.nm 5) yesT (binF FL modD (binF FL subD (varF 5) (varF 3)) (varF 1)) [5])))) (retS (iteF' (blF FL (binF FL leD (binF FL subD (varF 3) (varF 4)) (litF (.int 0)))) (litF (.int 0)) (binF FL subD (varF 3) (varF 4))))))))
def F_least_plan : EF := bodyF 6 3 B_least_plan
abbrev N_fits_period : List Str := ["log", "period", "late", "at", "times"]
def B_fits_period : SF := (seqS (forS (rngI (unF FL lenD (unF FL (fldD FL ICS ("events" : Str)) (varF 0)))) (.nm 3) (seqS (asgS 4 (callF F_times_seen 2 (consA FL (kvF FL 0) (consA FL (kvF FL 3) nilA)))) (ifS (andT (truF FL (varF 4)) (blF FL (binF FL isD (callF F_least_plan 3 (consA FL (kvF FL 4) (consA FL (kvF FL 1) (consA FL (kvF FL 2) nilA)))) (litF .non)))) (retS (litF (.bl false))) skipS))) (retS (litF (.bl true))))
def F_fits_period : EF := bodyF 5 3 B_fits_period
abbrev N_is_number : List Str := ["value"]
def B_is_number : SF := (retS (andF (callF F_is_whole 1 (consA FL (kvF FL 0) nilA)) (binF FL geD (varF 0) (litF (.int 0)))))
def F_is_number : EF := bodyF 1 1 B_is_number
abbrev N_need_late : List Str := ["late"]
def B_need_late : SF := (ifS (notT (truF FL (callF F_is_number 1 (consA FL (kvF FL 0) nilA)))) (raiseS FL 3 (consL FL (litF (.str "late")) (consL FL (kvF FL 0) nilL))) skipS)
def F_need_late : EF := bodyF 1 1 B_need_late
abbrev N_periods_that_fit : List Str := ["log", "most", "late", "period"]
def B_periods_that_fit : SF := (seqS (ifS (orT (notT (truF FL (callF F_is_whole 1 (consA FL (kvF FL 1) nilA)))) (notT (blF FL (chainF FL leD leD (litF (.int 2)) (varF 1) (litF (.int 1440)))))) (raiseS FL 3 (consL FL (litF (.str "most")) (consL FL (kvF FL 1) nilL))) skipS) (seqS (dropS (callF F_need_late 1 (consA FL (kvF FL 2) nilA))) (retS (unF FL tupOfD (lcF FL (rngI2 (litF (.int 2)) (binF FL addD (varF 1) (litF (.int 1)))) (.nm 3) (truF FL (callF F_fits_period 3 (consA FL (kvF FL 0) (consA FL (kvF FL 3) (consA FL (kvF FL 2) nilA))))) (kvF FL 3) [3])))))
def F_periods_that_fit : EF := bodyF 4 3 B_periods_that_fit
abbrev N_need_period : List Str := ["period"]
def B_need_period : SF := (ifS (orT (notT (truF FL (callF F_is_whole 1 (consA FL (kvF FL 0) nilA)))) (notT (blF FL (chainF FL leD leD (litF (.int 2)) (varF 0) (litF (.int 1440)))))) (raiseS FL 3 (consL FL (litF (.str "period")) (consL FL (kvF FL 0) nilL))) skipS)
def F_need_period : EF := bodyF 1 1 B_need_period
abbrev N_planned : List Str := ["log", "period", "late", "found", "at", "times"]
def B_planned : SF := (seqS (dropS (callF F_need_period 1 (consA FL (kvF FL 1) nilA))) (seqS (dropS (callF F_need_late 1 (consA FL (kvF FL 2) nilA))) (seqS (ifS (notT (truF FL (callF F_fits_period 3 (consA FL (kvF FL 0) (consA FL (kvF FL 1) (consA FL (kvF FL 2) nilA)))))) (retS (litF .non)) skipS) (seqS (asgS 3 (lstF nilL)) (seqS (forS (rngI (unF FL lenD (unF FL (fldD FL ICS ("events" : Str)) (varF 0)))) (.nm 4) (seqS (asgS 5 (callF F_times_seen 2 (consA FL (kvF FL 0) (consA FL (kvF FL 4) nilA)))) (dropS (appF FL 3 (iteF' (truF FL (varF 5)) (callF F_least_plan 3 (consA FL (kvF FL 5) (consA FL (kvF FL 1) (consA FL (kvF FL 2) nilA)))) (litF .non)))))) (retS (unF FL tupOfD (varF 3))))))))
def F_planned : EF := bodyF 6 3 B_planned
abbrev N__law_caught : List Str := ["action", "e", "found"]
def B__law_caught (TH : Nat → List D → EF) : SF := (seqS (tryF ECS TH 0 1 (seqS (asgS 2 (lstF nilL)) (seqS (ifS (truF FL (unF FL (isiX ECS JCS 2) (varF 1))) (dropS (appF FL 2 (tupF (consL FL (litF (.str "name")) (consL FL (unF FL (fldX FL ECS ("name" : Str)) (varF 1)) nilL))))) skipS) (seqS (ifS (truF FL (unF FL (isiX ECS JCS 3) (varF 1))) (dropS (appF FL 2 (tupF (consL FL (litF (.str "number")) (consL FL (unF FL (fldX FL ECS ("what" : Str)) (varF 1)) (consL FL (unF FL (fldX FL ECS ("number" : Str)) (varF 1)) nilL)))))) skipS) (seqS (ifS (truF FL (unF FL (isiX ECS JCS 4) (varF 1))) (dropS (appF FL 2 (tupF (consL FL (litF (.str "row")) (consL FL (unF FL (fldX FL ECS ("what" : Str)) (varF 1)) (consL FL (unF FL (fldX FL ECS ("row" : Str)) (varF 1)) nilL)))))) skipS) (seqS (ifS (truF FL (unF FL (isiX ECS JCS 5) (varF 1))) (dropS (appF FL 2 (tupF (consL FL (litF (.str "event")) (consL FL (unF FL (fldX FL ECS ("event" : Str)) (varF 1)) nilL))))) skipS) (seqS (ifS (truF FL (unF FL (isiX ECS JCS 6) (varF 1))) (dropS (appF FL 2 (tupF (consL FL (litF (.str "bond")) (consL FL (unF FL (fldX FL ECS ("name" : Str)) (varF 1)) nilL))))) skipS) (seqS (ifS (truF FL (unF FL (isiX ECS JCS 9) (varF 1))) (dropS (appF FL 2 (tupF (consL FL (litF (.str "notimes")) nilL)))) skipS) (seqS (ifS (truF FL (unF FL (isiX ECS JCS 7) (varF 1))) (dropS (appF FL 2 (tupF (consL FL (litF (.str "taken")) (consL FL (unF FL (fldX FL ECS ("name" : Str)) (varF 1)) nilL))))) skipS) (seqS (ifS (truF FL (unF FL (isiX ECS JCS 10) (varF 1))) (dropS (appF FL 2 (tupF (consL FL (litF (.str "many")) (consL FL (unF FL (fldX FL ECS ("what" : Str)) (varF 1)) (consL FL (unF FL (fldX FL ECS ("many" : Str)) (varF 1)) (consL FL (unF FL (fldX FL ECS ("limit" : Str)) (varF 1)) nilL))))))) skipS) (seqS (ifS (truF FL (unF FL (isiX ECS JCS 8) (varF 1))) (dropS (appF FL 2 (tupF (consL FL (litF (.str "unlike")) (consL FL (unF FL (fldX FL ECS ("what" : Str)) (varF 1)) nilL))))) skipS) (seqS (ifS (truF FL (unF FL (isiX ECS JCS 1) (varF 1))) (dropS (appF FL 2 (tupF (consL FL (litF (.str "text")) (consL FL (unF FL (fldX FL ECS ("line" : Str)) (varF 1)) (consL FL (unF FL (fldX FL ECS ("word" : Str)) (varF 1)) nilL)))))) skipS) (retS (iteF' (blF FL (binF FL eqD (unF FL lenD (varF 2)) (litF (.int 1)))) (binF FL ixD (varF 2) (litF (.int 0))) (tupF (consL FL (litF (.str "several")) nilL)))))))))))))))) (retS (tupF (consL FL (litF (.str "none")) nilL))))
def F__law_caught (TH : Nat → List D → EF) : EF := bodyF 3 1 (B__law_caught TH)
abbrev N__law_raise_so : List Str := ["calls", "call", "due", "told"]
def B__law_raise_so (TH : Nat → List D → EF) : SF := (seqS (forS (seqI FL (kvF FL 0)) (.tp [(.nm 1), (.nm 2)]) (seqS (asgS 3 (callF (F__law_caught TH) 1 (consA FL (kvF FL 1) nilA))) (ifS (orT (blF FL (binF FL neD (slF FL (varF 3) noO (someO (unF FL negD (litF (.int 1))))) (slF FL (varF 2) noO (someO (unF FL negD (litF (.int 1))))))) (blF FL (binF FL neD (unF FL reprG (binF FL ixD (varF 3) (unF FL negD (litF (.int 1))))) (unF FL reprG (binF FL ixD (varF 2) (unF FL negD (litF (.int 1)))))))) (retS (litF (.bl false))) skipS))) (retS (litF (.bl true))))
def F__law_raise_so (TH : Nat → List D → EF) : EF := bodyF 4 1 (B__law_raise_so TH)
abbrev N__law_draw : List Str := ["pen", "many", "cell", "digit", "blend"]
def B__law_draw : SF := (seqS (tgtS FL (subG FL 0 (litF (.str "count"))) (binF FL addD (binF FL dgetD (varF 0) (litF (.str "count"))) (litF (.int 1)))) (seqS (ifS (andT (blF FL (binF FL eqD (binF FL dgetD (varF 0) (litF (.str "digits"))) (litF (.int 0)))) (blF FL (binF FL ltD (binF FL dgetD (varF 0) (litF (.str "at"))) (unF FL lenD (binF FL dgetD (varF 0) (litF (.str "cells"))))))) (seqS (asgS 2 (binF FL ixD (binF FL dgetD (varF 0) (litF (.str "cells"))) (binF FL dgetD (varF 0) (litF (.str "at"))))) (seqS (tgtS FL (subG FL 0 (litF (.str "at"))) (binF FL addD (binF FL dgetD (varF 0) (litF (.str "at"))) (litF (.int 1)))) (ifS (blF FL (binF FL geD (varF 2) (binF FL powD (litF (.int 10)) (litF (.int 18))))) (tgtS FL (subG FL 0 (litF (.str "digits"))) (binF FL subD (varF 2) (binF FL powD (litF (.int 10)) (litF (.int 18))))) (tgtS FL (subG FL 0 (litF (.str "fold"))) (binF FL modD (unF FL intOfD (binF FL addD (binF FL mulD (binF FL dgetD (varF 0) (litF (.str "fold"))) (litF (.int 69069))) (varF 2))) (litF (.int 2147483587))))))) skipS) (seqS (ifS (blF FL (binF FL gtD (binF FL dgetD (varF 0) (litF (.str "digits"))) (litF (.int 0)))) (seqS (asgS 3 (binF FL modD (unF FL intOfD (binF FL dgetD (varF 0) (litF (.str "digits")))) (varF 1))) (seqS (tgtS FL (subG FL 0 (litF (.str "digits"))) (binF FL divD (binF FL dgetD (varF 0) (litF (.str "digits"))) (varF 1))) (retS (varF 3)))) skipS) (seqS (asgS 4 (binF FL modD (unF FL intOfD (binF FL addD (binF FL addD (binF FL mulD (binF FL dgetD (varF 0) (litF (.str "fold"))) (litF (.int 48271))) (binF FL mulD (binF FL dgetD (varF 0) (litF (.str "count"))) (litF (.int 7919)))) (litF (.int 13)))) (litF (.int 2147483647)))) (seqS (asgS 4 (binF FL modD (unF FL intOfD (binF FL addD (binF FL addD (binF FL mulD (varF 4) (varF 4)) (binF FL mulD (litF (.int 31)) (varF 4))) (binF FL dgetD (varF 0) (litF (.str "count"))))) (litF (.int 2147483629)))) (seqS (tgtS FL (subG FL 0 (litF (.str "fold"))) (binF FL modD (unF FL intOfD (binF FL addD (binF FL mulD (varF 4) (litF (.int 16807))) (litF (.int 7)))) (litF (.int 2147483647)))) (retS (binF FL modD (unF FL intOfD (binF FL divD (varF 4) (litF (.int 64)))) (varF 1)))))))))
def F__law_draw : EF := bodyF 5 2 B__law_draw
abbrev N__law_pick : List Str := ["pen", "some"]
def B__law_pick : SF := (retS (binF FL ixD (varF 1) (callF F__law_draw 2 (consA FL (varF 0) (consA FL (unF FL lenD (varF 1)) nilA)))))
def F__law_pick : EF := bodyF 2 2 B__law_pick
abbrev N__law_name : List Str := ["pen", "letters", "signs", "long", "lap"]
def B__law_name : SF := (seqS (parS [1, 2] (consP (litF (.str "abcdefghijklmnopqrstuvwxyz")) (consP (litF (.str "abcdefghijklmnopqrstuvwxyz0123456789")) nilP))) (seqS (asgS 3 (binF FL ixD (lstF (consL FL (litF (.int 0)) (consL FL (litF (.int 0)) (consL FL (litF (.int 1)) (consL FL (litF (.int 2)) (consL FL (litF (.int 5)) (consL FL (litF (.int 11)) nilL))))))) (callF F__law_draw 2 (consA FL (varF 0) (consA FL (litF (.int 6)) nilA))))) (retS (binF FL addD (callF F__law_pick 2 (consA FL (varF 0) (consA FL (kvF FL 1) nilA))) (unF FL (joinD "") (lcF FL (rngI (varF 3)) (.nm 4) yesT (callF F__law_pick 2 (consA FL (varF 0) (consA FL (kvF FL 2) nilA))) [4]))))))
def F__law_name : EF := bodyF 5 1 B__law_name
abbrev N__law_names : List Str := ["pen", "many", "found", "lap", "name"]
def B__law_names : SF := (seqS (asgS 2 (lstF nilL)) (seqS (forS (rngI (varF 1)) (.nm 3) (seqS (asgS 4 (callF F__law_name 1 (consA FL (varF 0) nilA))) (seqS (ifS (blF FL (binF FL inD (varF 4) (varF 2))) (asgS 4 (binF FL addD (binF FL addD (litF (.str "z")) (unF FL strOfD (varF 3))) (litF (.str "q")))) skipS) (seqS (whileS (blF FL (binF FL inD (varF 4) (varF 2))) (asgS 4 (binF FL addD (varF 4) (litF (.str "0"))))) (dropS (appF FL 2 (kvF FL 4))))))) (retS (unF FL tupN (varF 2)))))
def F__law_names : EF := bodyF 5 2 B__law_names
abbrev N__law_drawn_log : List Str := ["pen", "many", "period", "events", "minutes", "days", "event", "lap", "move", "day", "minute", "time"]
def B__law_drawn_log : SF := (seqS (asgS 3 (callF F__law_names 2 (consA FL (varF 0) (consA FL (kvF FL 1) nilA)))) (seqS (parS [4, 5] (consP (lcF FL (seqI FL (kvF FL 3)) (.nm 6) yesT (callF F__law_draw 2 (consA FL (varF 0) (consA FL (kvF FL 2) nilA))) [6]) (consP (lstF nilL) nilP))) (seqS (forS (rngI (callF F__law_draw 2 (consA FL (varF 0) (consA FL (litF (.int 6)) nilA)))) (.nm 7) (seqS (parS [8, 9] (consP (binF FL subD (callF F__law_draw 2 (consA FL (varF 0) (consA FL (litF (.int 40)) nilA))) (litF (.int 20))) (consP (lstF nilL) nilP))) (seqS (forS (seqI FL (kvF FL 4)) (.nm 10) (seqS (asgS 11 (binF FL addD (binF FL addD (varF 10) (binF FL mulD (varF 8) (varF 2))) (callF F__law_pick 2 (consA FL (varF 0) (consA FL (lstF (consL FL (litF (.int 0)) (consL FL (litF (.int 0)) (consL FL (litF (.int 0)) (consL FL (litF (.int 0)) (consL FL (litF (.int 1)) (consL FL (litF (.int 2)) nilL))))))) nilA))))) (dropS (appF FL 9 (iteF' (blF FL (binF FL eqD (callF F__law_draw 2 (consA FL (varF 0) (consA FL (litF (.int 4)) nilA))) (litF (.int 0)))) (litF .non) (kvF FL 11)))))) (dropS (appF FL 5 (unF FL tupOfD (varF 9))))))) (retS (tupF (consL FL (kvF FL 3) (consL FL (unF FL tupOfD (varF 5)) nilL)))))))
def F__law_drawn_log : EF := bodyF 12 3 B__law_drawn_log
abbrev N__law_is : List Str := ["told", "due", "at"]
def B__law_is (FR : EF) : SF := (seqS (ifS (truF FL (unF FL (isiD ICS [(.b .tuple)]) (varF 1))) (seqS (ifS (orT (notT (truF FL (unF FL (isiD ICS [(.b .tuple)]) (varF 0)))) (blF FL (binF FL neD (unF FL lenD (varF 0)) (unF FL lenD (varF 1))))) (retS (litF (.bl false))) skipS) (retS (binF FL eqD (lcF FL (rngI (unF FL lenD (varF 1))) (.nm 2) (notT (truF FL (callF FR 2 (consA FL (binF FL ixD (varF 0) (varF 2)) (consA FL (binF FL ixD (varF 1) (varF 2)) nilA))))) (kvF FL 2) [2]) (lstF nilL)))) skipS) (seqS (ifS (blF FL (binF FL isD (varF 1) (litF .non))) (retS (binF FL isD (varF 0) (litF .non))) skipS) (seqS (ifS (blF FL (binF FL isD (varF 1) (litF (.bl true)))) (retS (binF FL isD (varF 0) (litF (.bl true)))) skipS) (seqS (ifS (blF FL (binF FL isD (varF 1) (litF (.bl false)))) (retS (binF FL isD (varF 0) (litF (.bl false)))) skipS) (seqS (ifS (truF FL (unF FL (isiD ICS [(.b .str)]) (varF 1))) (retS (andF (unF FL (isiD ICS [(.b .str)]) (varF 0)) (binF FL eqD (varF 0) (varF 1)))) skipS) (retS (andF (unF FL (isiD ICS [(.b .int)]) (varF 0)) (andF (notF (unF FL (isiD ICS [(.b .bool)]) (varF 0))) (binF FL eqD (varF 0) (varF 1))))))))))
def F__law_is : Nat → EF
  | 0 => nevF
  | k + 1 => bodyF 3 2 (B__law_is (F__law_is k))
abbrev N_is_day : List Str := ["many", "value", "time"]
def B_is_day : SF := (seqS (ifS (orT (notT (truF FL (unF FL (isiD ICS [(.b .tuple)]) (varF 1)))) (blF FL (binF FL neD (unF FL lenD (varF 1)) (varF 0)))) (retS (litF (.bl false))) skipS) (retS (unF FL allD (lcF FL (seqI FL (kvF FL 1)) (.nm 2) yesT (orF (binF FL isD (varF 2) (litF .non)) (callF F_is_whole 1 (consA FL (kvF FL 2) nilA))) [2]))))
def F_is_day : EF := bodyF 3 2 B_is_day
abbrev N_is_name : List Str := ["value", "sign"]
def B_is_name : SF := (seqS (ifS (orT (notT (truF FL (unF FL (isiD ICS [(.b .str)]) (varF 0)))) (orT (notT (blF FL (chainF FL leD leD (litF (.int 1)) (unF FL lenD (varF 0)) (litF (.int 12))))) (blF FL (binF FL notInD (binF FL ixD (varF 0) (litF (.int 0))) (litF (.str "abcdefghijklmnopqrstuvwxyz")))))) (retS (litF (.bl false))) skipS) (retS (unF FL allD (lcF FL (seqI FL (kvF FL 0)) (.nm 1) yesT (binF FL inD (varF 1) (litF (.str "abcdefghijklmnopqrstuvwxyz0123456789"))) [1]))))
def F_is_name : EF := bodyF 2 1 B_is_name
abbrev N_DayLogu_initu : List Str := ["self", "events", "days", "at", "event", "day"]
def B_DayLogu_initu : SF := (seqS (ifS (orT (notT (truF FL (unF FL (isiD ICS [(.b .list), (.b .tuple)]) (varF 1)))) (notT (truF FL (varF 1)))) nevS skipS) (seqS (forS (enumI FL (kvF FL 1)) (.tp [(.nm 3), (.nm 4)]) (seqS (ifS (notT (truF FL (callF F_is_name 1 (consA FL (kvF FL 4) nilA)))) nevS skipS) (ifS (blF FL (binF FL inD (varF 4) (slF FL (varF 1) noO (someO (varF 3))))) nevS skipS))) (seqS (ifS (notT (truF FL (unF FL (isiD ICS [(.b .list), (.b .tuple)]) (varF 2)))) nevS skipS) (seqS (forS (seqI FL (kvF FL 2)) (.nm 5) (ifS (notT (truF FL (callF F_is_day 2 (consA FL (unF FL lenD (varF 1)) (consA FL (kvF FL 5) nilA))))) nevS skipS)) (seqS (setF FL ICS 0 ("events" : Str) (unF FL tupN (varF 1))) (setF FL ICS 0 ("days" : Str) (unF FL tupOfD (varF 2))))))))
def F_DayLogu_initu : EF := bodyF 6 3 B_DayLogu_initu
abbrev N__law_made_log : List Str := ["log"]
def B__law_made_log : SF := (retS (mkF 0 F_DayLogu_initu 3 (consA FL (binF FL ixD (varF 0) (litF (.int 0))) (consA FL (binF FL ixD (varF 0) (litF (.int 1))) nilA))))
def F__law_made_log : EF := bodyF 1 1 B__law_made_log
abbrev N__law_pen : List Str := ["script", "fold", "cell"]
def B__law_pen : SF := (seqS (asgS 1 (litF (.int 0))) (seqS (forS (seqI FL (kvF FL 0)) (.nm 2) (asgS 1 (binF FL modD (unF FL intOfD (binF FL addD (binF FL mulD (varF 1) (litF (.int 47))) (varF 2))) (litF (.int 1000000007))))) (retS (dispF FL [((litF (.str "cells")), (unNF FL lstOfD (varF 0))), ((litF (.str "at")), (litF (.int 0))), ((litF (.str "digits")), (litF (.int 0))), ((litF (.str "count")), (litF (.int 0))), ((litF (.str "fold")), (kvF FL 1))]))))
def F__law_pen : EF := bodyF 3 1 B__law_pen
abbrev N__law_times : List Str := ["log", "at", "day"]
def B__law_times : SF := (retS (lcF FL (seqI FL (binF FL ixD (varF 0) (litF (.int 1)))) (.nm 2) (blF FL (binF FL isNotD (binF FL ixD (varF 2) (varF 1)) (litF .non))) (binF FL ixD (varF 2) (varF 1)) [2]))
def F__law_times : EF := bodyF 3 2 B__law_times
abbrev N__law_plan : List Str := ["log", "period", "late", "found", "at", "times", "good", "minute", "time"]
def B__law_plan : SF := (seqS (asgS 3 (lstF nilL)) (seqS (forS (rngI (unF FL lenD (binF FL ixD (varF 0) (litF (.int 0))))) (.nm 4) (seqS (asgS 5 (callF F__law_times 2 (consA FL (kvF FL 0) (consA FL (kvF FL 4) nilA)))) (seqS (asgS 6 (lcF FL (rngI (varF 1)) (.nm 7) (blF FL (binF FL eqD (lcF FL (seqI FL (kvF FL 5)) (.nm 8) (blF FL (binF FL gtD (binF FL modD (unF FL intOfD (binF FL subD (varF 8) (varF 7))) (varF 1)) (varF 2))) (kvF FL 8) [8]) (lstF nilL))) (kvF FL 7) [7])) (seqS (ifS (blF FL (binF FL eqD (varF 6) (lstF nilL))) (retS (litF .non)) skipS) (dropS (appF FL 3 (iteF' (blF FL (binF FL neD (varF 5) (lstF nilL))) (binF FL ixD (varF 6) (litF (.int 0))) (litF .non)))))))) (retS (unF FL tupOfD (varF 3)))))
def F__law_plan : EF := bodyF 9 3 B__law_plan
abbrev N__law_step : List Str := ["log", "step", "at", "times", "time", "one", "other"]
def B__law_step : SF := (seqS (asgS 1 (litF (.int 0))) (seqS (forS (rngI (unF FL lenD (binF FL ixD (varF 0) (litF (.int 0))))) (.nm 2) (seqS (asgS 3 (callF F__law_times 2 (consA FL (kvF FL 0) (consA FL (kvF FL 2) nilA)))) (forS (seqI FL (kvF FL 3)) (.nm 4) (seqS (parS [5, 6] (consP (kvF FL 1) (consP (unF FL absD (binF FL subD (varF 4) (binF FL ixD (varF 3) (litF (.int 0))))) nilP))) (seqS (whileS (blF FL (binF FL neD (varF 6) (litF (.int 0)))) (parS [5, 6] (consP (kvF FL 6) (consP (binF FL modD (unF FL intOfD (varF 5)) (varF 6)) nilP)))) (asgS 1 (kvF FL 5))))))) (retS (varF 1))))
def F__law_step : EF := bodyF 7 1 B__law_step
abbrev N_common_step : List Str := ["log", "step", "at", "times", "time"]
def B_common_step : SF := (seqS (asgS 1 (litF (.int 0))) (seqS (forS (rngI (unF FL lenD (unF FL (fldD FL ICS ("events" : Str)) (varF 0)))) (.nm 2) (seqS (asgS 3 (callF F_times_seen 2 (consA FL (kvF FL 0) (consA FL (kvF FL 2) nilA)))) (forS (seqI FL (kvF FL 3)) (.nm 4) (asgS 1 (binF FL gcdD (varF 1) (binF FL subD (varF 4) (binF FL ixD (varF 3) (litF (.int 0))))))))) (retS (varF 1))))
def F_common_step : EF := bodyF 5 1 B_common_step
abbrev N_law : List Str := ["script", "pen", "lap", "log", "late", "made", "most", "due", "period", "turn", "step", "plain", "number", "odd", "calls"]
abbrev tab_law : Nat → LRec
  | 0 => lamR (eAt (eSub (eAt (eSub (sVal (sAt (sSub (sAt (defBody st_law) 1)) 11))) 0)) 0)
  | 1 => lamR (eAt (eSub (eAt (eSub (sVal (sAt (sSub (sAt (defBody st_law) 1)) 12))) 0)) 0)
  | 2 => lamR (eAt (eSub (eAt (eSub (sVal (sAt (sSub (sAt (defBody st_law) 1)) 13))) 0)) 0)
  | 3 => lamR (eAt (eSub (eAt (eSub (sVal (sAt (sSub (sAt (defBody st_law) 1)) 14))) 0)) 0)
  | _ => lamR (eAt (eSub (eAt (eSub (sVal (sAt (sSub (sAt (defBody st_law) 1)) 11))) 0)) 0)
def capk_law : Nat → List Nat
  | 0 => [5, 12, 13]
  | 1 => [5, 13]
  | 2 => [5, 12, 13]
  | 3 => [5, 13]
  | _ => []
def LB_law : Nat → EF
  | 0 => (callF F_periods_that_fit 3 (consA FL (kvF FL 5) (consA FL (kvF FL 12) (consA FL (kvF FL 13) nilA))))
  | 1 => (callF F_periods_that_fit 3 (consA FL (kvF FL 5) (consA FL (litF (.int 5)) (consA FL (kvF FL 13) nilA))))
  | 2 => (callF F_planned 3 (consA FL (kvF FL 5) (consA FL (kvF FL 12) (consA FL (kvF FL 13) nilA))))
  | 3 => (callF F_planned 3 (consA FL (kvF FL 5) (consA FL (litF (.int 5)) (consA FL (kvF FL 13) nilA))))
  | _ => nevF
def TH_law : Nat → List D → EF := fun k ds => thF 15 (capk_law k) (LB_law k) ds
def B_law : SF := (seqS (asgS 1 (callF F__law_pen 1 (consA FL (kvF FL 0) nilA))) (seqS (forS (rngI (litF (.int 3))) (.nm 2) (seqS (parS [3, 4] (consP (callF F__law_drawn_log 3 (consA FL (varF 1) (consA FL (binF FL addD (litF (.int 1)) (callF F__law_draw 2 (consA FL (varF 1) (consA FL (litF (.int 4)) nilA)))) (consA FL (binF FL addD (litF (.int 2)) (callF F__law_draw 2 (consA FL (varF 1) (consA FL (litF (.int 11)) nilA)))) nilA)))) (consP (callF F__law_pick 2 (consA FL (varF 1) (consA FL (lstF (consL FL (litF (.int 0)) (consL FL (litF (.int 0)) (consL FL (litF (.int 1)) (consL FL (litF (.int 2)) (consL FL (litF (.int 5)) (consL FL (litF (.int 40)) nilL))))))) nilA))) nilP))) (seqS (parS [5, 6] (consP (callF F__law_made_log 1 (consA FL (kvF FL 3) nilA)) (consP (binF FL addD (litF (.int 2)) (callF F__law_draw 2 (consA FL (varF 1) (consA FL (litF (.int 29)) nilA)))) nilP))) (seqS (asgS 7 (unF FL tupOfD (lcF FL (rngI2 (litF (.int 2)) (binF FL addD (varF 6) (litF (.int 1)))) (.nm 8) (blF FL (binF FL isNotD (callF F__law_plan 3 (consA FL (kvF FL 3) (consA FL (kvF FL 8) (consA FL (kvF FL 4) nilA)))) (litF .non))) (kvF FL 8) [8]))) (seqS (ifS (notT (truF FL (callF (F__law_is 4) 2 (consA FL (callF F_periods_that_fit 3 (consA FL (kvF FL 5) (consA FL (kvF FL 6) (consA FL (kvF FL 4) nilA)))) (consA FL (kvF FL 7) nilA))))) (retS (litF (.bl false))) skipS) (seqS (forS (rngI (litF (.int 3))) (.nm 9) (seqS (asgS 8 (binF FL addD (litF (.int 2)) (callF F__law_draw 2 (consA FL (varF 1) (consA FL (litF (.int 20)) nilA))))) (ifS (notT (truF FL (callF (F__law_is 4) 2 (consA FL (callF F_planned 3 (consA FL (kvF FL 5) (consA FL (kvF FL 8) (consA FL (kvF FL 4) nilA)))) (consA FL (callF F__law_plan 3 (consA FL (kvF FL 3) (consA FL (kvF FL 8) (consA FL (kvF FL 4) nilA)))) nilA))))) (retS (litF (.bl false))) skipS))) (seqS (asgS 10 (callF F__law_step 1 (consA FL (kvF FL 3) nilA))) (seqS (ifS (notT (truF FL (callF (F__law_is 4) 2 (consA FL (callF F_common_step 1 (consA FL (kvF FL 5) nilA)) (consA FL (kvF FL 10) nilA))))) (retS (litF (.bl false))) skipS) (seqS (asgS 11 (callF F_periods_that_fit 3 (consA FL (kvF FL 5) (consA FL (kvF FL 6) (consA FL (litF (.int 0)) nilA))))) (seqS (ifS (blF FL (binF FL neD (varF 11) (unF FL tupOfD (lcF FL (rngI2 (litF (.int 2)) (binF FL addD (varF 6) (litF (.int 1)))) (.nm 8) (blF FL (binF FL eqD (binF FL modD (unF FL intOfD (varF 10)) (varF 8)) (litF (.int 0)))) (kvF FL 8) [8])))) (retS (litF (.bl false))) skipS) (seqS (ifS (blF FL (binF FL neD (lcF FL (seqI FL (kvF FL 11)) (.nm 8) (blF FL (binF FL notInD (varF 8) (callF F_periods_that_fit 3 (consA FL (kvF FL 5) (consA FL (kvF FL 6) (consA FL (kvF FL 4) nilA)))))) (kvF FL 8) [8]) (lstF nilL))) (retS (litF (.bl false))) skipS) (seqS (parS [12, 13] (consP (callF F__law_pick 2 (consA FL (varF 1) (consA FL (lstF (consL FL (litF (.int 1)) (consL FL (litF (.int 1441)) (consL FL (litF .non) (consL FL (litF (.bl true)) (consL FL (litF (.str "5")) nilL)))))) nilA))) (consP (callF F__law_pick 2 (consA FL (varF 1) (consA FL (lstF (consL FL (unF FL negD (litF (.int 1))) (consL FL (litF .non) (consL FL (litF (.bl true)) (consL FL (litF (.str "0")) nilL))))) nilA))) nilP))) (seqS (asgS 14 (lstF (consL FL (tupF (consL FL (lamF 0 [5, 12, 13]) (consL FL (tupF (consL FL (litF (.str "number")) (consL FL (litF (.str "most")) (consL FL (kvF FL 12) nilL)))) nilL))) nilL))) (seqS (dropS (appF FL 14 (tupF (consL FL (lamF 1 [5, 13]) (consL FL (tupF (consL FL (litF (.str "number")) (consL FL (litF (.str "late")) (consL FL (kvF FL 13) nilL)))) nilL))))) (seqS (dropS (appF FL 14 (tupF (consL FL (lamF 2 [5, 12, 13]) (consL FL (tupF (consL FL (litF (.str "number")) (consL FL (litF (.str "period")) (consL FL (kvF FL 12) nilL)))) nilL))))) (seqS (dropS (appF FL 14 (tupF (consL FL (lamF 3 [5, 13]) (consL FL (tupF (consL FL (litF (.str "number")) (consL FL (litF (.str "late")) (consL FL (kvF FL 13) nilL)))) nilL))))) (ifS (notT (truF FL (callLF FL (F__law_raise_so TH_law) capk_law (kvF FL 14)))) (retS (litF (.bl false))) skipS))))))))))))))))) (retS (litF (.bl true)))))
def F_law : EF := bodyF 15 1 (mkS B_law)
end Lw
set_option Elab.async false
set_option linter.all false
set_option maxRecDepth 100000
set_option maxHeartbeats 4000000
namespace Lw
open PySem PySem.Spec PyProof.Rows L2 En
theorem fx_0_events {a0 a1 : D} : fldD FL ICS "events" (.ins 0 [a0, a1]) = some a0 := by rfl
theorem fx_0_days {a0 a1 : D} : fldD FL ICS "days" (.ins 0 [a0, a1]) = some a1 := by rfl
theorem ii_0_non  : isiD ICS [(.b .bool)] .non = some (.bl false) := by rfl
theorem ii_0_bl {b : Bool} : isiD ICS [(.b .bool)] (.bl b) = some (.bl true) := by rfl
theorem ii_0_int {i : Int} : isiD ICS [(.b .bool)] (.int i) = some (.bl false) := by rfl
theorem ii_0_str {s : Str} : isiD ICS [(.b .bool)] (.str s) = some (.bl false) := by rfl
theorem ii_0_tup {ds : List D} : isiD ICS [(.b .bool)] (.tup ds) = some (.bl false) := by rfl
theorem ii_0_lst {ds : List D} : isiD ICS [(.b .bool)] (.lst ds) = some (.bl false) := by rfl
theorem ii_0_nms {xs : List Str} : isiD ICS [(.b .bool)] (.nms xs) = some (.bl false) := by rfl
theorem ii_0_c0 {ds : List D} : isiD ICS [(.b .bool)] (.ins 0 ds) = some (.bl false) := by rfl
theorem ii_1_non  : isiD ICS [(.b .int)] .non = some (.bl false) := by rfl
theorem ii_1_bl {b : Bool} : isiD ICS [(.b .int)] (.bl b) = some (.bl true) := by rfl
theorem ii_1_int {i : Int} : isiD ICS [(.b .int)] (.int i) = some (.bl true) := by rfl
theorem ii_1_str {s : Str} : isiD ICS [(.b .int)] (.str s) = some (.bl false) := by rfl
theorem ii_1_tup {ds : List D} : isiD ICS [(.b .int)] (.tup ds) = some (.bl false) := by rfl
theorem ii_1_lst {ds : List D} : isiD ICS [(.b .int)] (.lst ds) = some (.bl false) := by rfl
theorem ii_1_nms {xs : List Str} : isiD ICS [(.b .int)] (.nms xs) = some (.bl false) := by rfl
theorem ii_1_c0 {ds : List D} : isiD ICS [(.b .int)] (.ins 0 ds) = some (.bl false) := by rfl
theorem ii_2_non  : isiD ICS [(.b .list), (.b .tuple)] .non = some (.bl false) := by rfl
theorem ii_2_bl {b : Bool} : isiD ICS [(.b .list), (.b .tuple)] (.bl b) = some (.bl false) := by rfl
theorem ii_2_int {i : Int} : isiD ICS [(.b .list), (.b .tuple)] (.int i) = some (.bl false) := by rfl
theorem ii_2_str {s : Str} : isiD ICS [(.b .list), (.b .tuple)] (.str s) = some (.bl false) := by rfl
theorem ii_2_tup {ds : List D} : isiD ICS [(.b .list), (.b .tuple)] (.tup ds) = some (.bl true) := by rfl
theorem ii_2_lst {ds : List D} : isiD ICS [(.b .list), (.b .tuple)] (.lst ds) = some (.bl true) := by rfl
theorem ii_2_nms {xs : List Str} : isiD ICS [(.b .list), (.b .tuple)] (.nms xs) = some (.bl true) := by rfl
theorem ii_2_c0 {ds : List D} : isiD ICS [(.b .list), (.b .tuple)] (.ins 0 ds) = some (.bl false) := by rfl
theorem ii_3_non  : isiD ICS [(.b .str)] .non = some (.bl false) := by rfl
theorem ii_3_bl {b : Bool} : isiD ICS [(.b .str)] (.bl b) = some (.bl false) := by rfl
theorem ii_3_int {i : Int} : isiD ICS [(.b .str)] (.int i) = some (.bl false) := by rfl
theorem ii_3_str {s : Str} : isiD ICS [(.b .str)] (.str s) = some (.bl true) := by rfl
theorem ii_3_tup {ds : List D} : isiD ICS [(.b .str)] (.tup ds) = some (.bl false) := by rfl
theorem ii_3_lst {ds : List D} : isiD ICS [(.b .str)] (.lst ds) = some (.bl false) := by rfl
theorem ii_3_nms {xs : List Str} : isiD ICS [(.b .str)] (.nms xs) = some (.bl false) := by rfl
theorem ii_3_c0 {ds : List D} : isiD ICS [(.b .str)] (.ins 0 ds) = some (.bl false) := by rfl
theorem ii_4_non  : isiD ICS [(.b .tuple)] .non = some (.bl false) := by rfl
theorem ii_4_bl {b : Bool} : isiD ICS [(.b .tuple)] (.bl b) = some (.bl false) := by rfl
theorem ii_4_int {i : Int} : isiD ICS [(.b .tuple)] (.int i) = some (.bl false) := by rfl
theorem ii_4_str {s : Str} : isiD ICS [(.b .tuple)] (.str s) = some (.bl false) := by rfl
theorem ii_4_tup {ds : List D} : isiD ICS [(.b .tuple)] (.tup ds) = some (.bl true) := by rfl
theorem ii_4_lst {ds : List D} : isiD ICS [(.b .tuple)] (.lst ds) = some (.bl false) := by rfl
theorem ii_4_nms {xs : List Str} : isiD ICS [(.b .tuple)] (.nms xs) = some (.bl true) := by rfl
theorem ii_4_c0 {ds : List D} : isiD ICS [(.b .tuple)] (.ins 0 ds) = some (.bl false) := by rfl
theorem fr_0 {a0 a1 : D} : (Ob.ins 0 [("events", a0), ("days", a1)]).fr FL = some (.ins 0 [a0, a1]) := by rfl
theorem in_0 : (0 ∈ ICS) = True := eq_true (by decide)
theorem if_0_events : (("events" : Str) ∈ FL 0) = True := eq_true List.mem_cons_self
theorem pf_0_events {a0 : D} : putFs "events" a0 ([] : List (Str × D)) = ([("events", a0)] : List (Str × D)) := by rfl
theorem if_0_days : (("days" : Str) ∈ FL 0) = True := eq_true (List.mem_cons_of_mem _ List.mem_cons_self)
theorem pf_0_days {a0 a1 : D} : putFs "days" a1 ([("events", a0)] : List (Str × D)) = ([("events", a0), ("days", a1)] : List (Str × D)) := by rfl
theorem ix_3_1 {ds : List D} : isiX ECS JCS 1 (.exc 3 ds) = some (.bl false) := by rfl
theorem ix_3_2 {ds : List D} : isiX ECS JCS 2 (.exc 3 ds) = some (.bl false) := by rfl
theorem ix_3_3 {ds : List D} : isiX ECS JCS 3 (.exc 3 ds) = some (.bl true) := by rfl
theorem ix_3_4 {ds : List D} : isiX ECS JCS 4 (.exc 3 ds) = some (.bl false) := by rfl
theorem ix_3_5 {ds : List D} : isiX ECS JCS 5 (.exc 3 ds) = some (.bl false) := by rfl
theorem ix_3_6 {ds : List D} : isiX ECS JCS 6 (.exc 3 ds) = some (.bl false) := by rfl
theorem ix_3_7 {ds : List D} : isiX ECS JCS 7 (.exc 3 ds) = some (.bl false) := by rfl
theorem ix_3_8 {ds : List D} : isiX ECS JCS 8 (.exc 3 ds) = some (.bl false) := by rfl
theorem ix_3_9 {ds : List D} : isiX ECS JCS 9 (.exc 3 ds) = some (.bl false) := by rfl
theorem ix_3_10 {ds : List D} : isiX ECS JCS 10 (.exc 3 ds) = some (.bl false) := by rfl
theorem ex_3_what {a0 a1 : D} : fldX FL ECS "what" (.exc 3 [a0, a1]) = some a0 := by rfl
theorem ex_3_number {a0 a1 : D} : fldX FL ECS "number" (.exc 3 [a0, a1]) = some a1 := by rfl
end Lw
set_option Elab.async false
set_option linter.all false
set_option maxRecDepth 100000
set_option maxHeartbeats 4000000
namespace Lw
open PySem PySem.Spec L2 En
local macro_rules | `(tactic| walk_at "op") => `(tactic| first | assumption | rfl | (exact mod_ok (by first | decide | omega)) | (exact mul_r (by first | decide | omega) (by first | decide | omega)) | (exact mul_l (by first | decide | omega) (by first | decide | omega)) | (exact div_ok (by first | decide | omega) (by first | decide | omega)) | assumption)
local macro_rules | `(tactic| walk_at "ev") => `(tactic| first
  | exact ev_lit | exact ev_var rfl | exact ev_kv rfl | exact ev_varo rfl | exact ev_vari rfl | exact ev_kvo rfl rfl
  | (apply ev_bin; walk_at "ev"; rfl; walk_at "ev"; rfl; rfl; rfl; walk_at "op")
  | (apply ev_un; walk_at "ev"; rfl; rfl; walk_at "op")
  | (apply ev_unN; walk_at "ev"; rfl; rfl; walk_at "op")
  | (apply ev_tup; walk_at "evl"; (first | decide | simp))
  | (apply ev_lst; walk_at "evl"; (first | decide | simp))
  | exact ev_dK
  | (apply ev_not; walk_at "ev")
  | (apply ev_and; walk_at "ev"; (intro _; walk_at "ev")) | (apply ev_or; walk_at "ev"; (intro _; walk_at "ev"))
  | (apply ev_chain; walk_at "ev"; walk_at "ev"; rfl; walk_at "ev"; rfl)
  | (apply ev_sl; walk_at "ev"; rfl; walk_at "evo"; walk_at "evo"; rfl; walk_at "op"))
local macro_rules | `(tactic| walk_at "evo") => `(tactic| first | exact evo_no | (apply evo_some; walk_at "ev"))
local macro_rules | `(tactic| walk_at "evl") => `(tactic| first | exact evl_nil | (apply evl_cons; walk_at "ev"; rfl; walk_at "evl") | (apply eva_seq; walk_at "ev"; rfl; rfl) | (apply evl_enum; walk_at "ev"; rfl; rfl) | (apply evl_rng; walk_at "ev"; omega))
local macro_rules | `(tactic| walk_at "eva") => `(tactic| first | exact eva_nil | (apply eva_cons; walk_at "ev"; rfl; walk_at "eva"))
local macro_rules | `(tactic| walk_at "evp") => `(tactic| first | exact evp_nil | (apply evp_cons; walk_at "ev"; rfl; walk_at "evp"))
local macro_rules | `(tactic| walk_at "evt") => `(tactic| first
  | (apply evt_bl; walk_at "ev") | (apply evt_tru; walk_at "ev"; rfl; rfl; walk_at "op") | (apply evt_not; walk_at "evt")
  | (apply evt_and; walk_at "evt"; (intro _; walk_at "evt")) | (apply evt_or; walk_at "evt"; (intro _; walk_at "evt")))
local macro_rules | `(tactic| walk_at "seq") => `(tactic| ((try simp only [skipS_r]); apply seq_i))
local macro_rules | `(tactic| walk_at "asg") => `(tactic| ((try simp only [skipS_r]); apply asg_i; walk_at "ev"; rfl))
local macro_rules | `(tactic| walk_at "if") => `(tactic| ((try simp only [skipS_r]); apply if_i; walk_at "evt"))
local macro_rules | `(tactic| walk_at "ret") => `(tactic| ((try simp only [skipS_r]); apply ret_i; walk_at "ev"))
local macro_rules | `(tactic| walk_at "n") => `(tactic| (try simp only [skipS_r]))
/-- the law's pen -/
def penK : List Key := [.inr "cells", .inr "at", .inr "digits", .inr "count", .inr "fold"]
def penOb (cs : List Int) (a g c f : Int) : Ob := .dK penK [.lst (cs.map .int), .int a, .int g, .int c, .int f]
def PenOk (o : Ob) : Prop := ∃ cs a g c f, o = penOb cs a g c f ∧ 0 ≤ a ∧ 0 ≤ g
theorem pp_at {cs : List Int} {a g c f x : Int} : putOb (penOb cs a g c f) (.str "at") (.int x) = some (penOb cs x g c f) := rfl
theorem pp_digits {cs : List Int} {a g c f x : Int} : putOb (penOb cs a g c f) (.str "digits") (.int x) = some (penOb cs a x c f) := rfl
theorem pp_count {cs : List Int} {a g c f x : Int} : putOb (penOb cs a g c f) (.str "count") (.int x) = some (penOb cs a g x f) := rfl
theorem pp_fold {cs : List Int} {a g c f x : Int} : putOb (penOb cs a g c f) (.str "fold") (.int x) = some (penOb cs a g c x) := rfl
local macro_rules | `(tactic| walk_at "pput") => `(tactic| ((try simp only [skipS_r]); apply tgt_i; walk_at "ev"; rfl; apply sub_i; rfl; rfl; walk_at "ev"; rfl; rfl; rfl; rfl; first | exact pp_at | exact pp_digits | exact pp_count | exact pp_fold))
theorem spec_draw {o : Ob} {m : Int} {P : EV → Env' → Prop} {X : Exx} (ho : PenOk o) (hm : 0 < m) (hm2 : m < 1073741824) (k : ∀ r o' t, 0 ≤ r → r < m → PenOk o' → P (.val (.int r)) (.io o' :: t)) : runF F__law_draw [.io o, .val (.int m)] P X := by
  obtain ⟨cs, a, g, c, f, rfl, ha, hg⟩ := ho
  apply body_i
  walk_at "seq"
  walk_at "pput"
  dsimp only
  apply seq_cut (Q := fun e => ∃ a g c f x, e = [.io (penOb cs a g c f), .val (.int m), x, .un, .un] ∧ 0 ≤ a ∧ 0 ≤ g)
  · walk_at "if"
    · intro hb
      have hb : (eqB (.int g) (.int 0) && decide (a < ((cs.map D.int).length : Int))) = true := hb
      simp [eqB_int] at hb
      obtain ⟨v, _, hv⟩ := ix_int ha hb.2
      walk_at "seq"
      walk_at "asg"
      walk_at "seq"
      walk_at "pput"
      walk_at "if"
      · intro hb2
        have hb2 : decide (((10 : Int) ^ (18 : Int).toNat) ≤ v) = true := hb2
        simp at hb2
        walk_at "pput"
        exact ⟨_, _, _, _, _, rfl, by omega, by show 0 ≤ v - (10 : Int) ^ (18 : Int).toNat; simp; omega⟩
      · intro _
        walk_at "pput"
        exact ⟨_, _, _, _, _, rfl, by omega, hg⟩
    · intro _
      exact ⟨_, _, _, _, _, rfl, ha, hg⟩
  · rintro _ ⟨a, g, c, f, x, rfl, ha, hg⟩
    walk_at "seq"
    walk_at "if"
    · intro hb
      have hb : decide ((0 : Int) < g) = true := hb
      simp at hb
      walk_at "seq"
      walk_at "asg"
      walk_at "seq"
      walk_at "pput"
      walk_at "ret"
      exact ⟨_, rfl, k _ _ _ (Int.emod_nonneg _ (by omega)) (Int.emod_lt_of_pos _ hm) ⟨_, _, _, _, _, rfl, ha, Int.ediv_nonneg hg (by omega)⟩⟩
    · intro _
      walk_at "seq"
      walk_at "asg"
      have h1 := Int.emod_nonneg (f * 48271 + c * 7919 + 13) (by decide : (2147483647 : Int) ≠ 0)
      have h2 := Int.emod_lt_of_pos (f * 48271 + c * 7919 + 13) (by decide : (0 : Int) < 2147483647)
      generalize (f * 48271 + c * 7919 + 13) % 2147483647 = b at *
      walk_at "seq"
      walk_at "asg"
      have h3 := Int.emod_nonneg (b * b + 31 * b + c) (by decide : (2147483629 : Int) ≠ 0)
      generalize (b * b + 31 * b + c) % 2147483629 = b2 at *
      walk_at "seq"
      walk_at "pput"
      walk_at "ret"
      exact ⟨_, rfl, k _ _ _ (Int.emod_nonneg _ (by omega)) (Int.emod_lt_of_pos _ hm) ⟨_, _, _, _, _, rfl, ha, hg⟩⟩
end Lw
set_option Elab.async false
set_option linter.all false
set_option maxRecDepth 100000
set_option maxHeartbeats 4000000
namespace Lw
open PySem PySem.Spec L2 En
local macro_rules | `(tactic| walk_at "op") => `(tactic| first | assumption | rfl | (exact mod_ok (by first | decide | omega)) | (exact mul_r (by first | decide | omega) (by first | decide | omega)) | (exact mul_l (by first | decide | omega) (by first | decide | omega)) | (exact div_ok (by first | decide | omega) (by first | decide | omega)) | assumption)
local macro_rules | `(tactic| walk_at "ev") => `(tactic| first
  | exact ev_lit | exact ev_var rfl | exact ev_kv rfl | exact ev_varo rfl | exact ev_vari rfl | exact ev_kvo rfl rfl
  | (apply ev_bin; walk_at "ev"; rfl; walk_at "ev"; rfl; rfl; rfl; walk_at "op")
  | (apply ev_un; walk_at "ev"; rfl; rfl; walk_at "op")
  | (apply ev_unN; walk_at "ev"; rfl; rfl; walk_at "op")
  | (apply ev_tup; walk_at "evl"; (first | decide | simp))
  | (apply ev_lst; walk_at "evl"; (first | decide | simp))
  | exact ev_dK
  | (apply ev_not; walk_at "ev")
  | (apply ev_and; walk_at "ev"; (intro _; walk_at "ev")) | (apply ev_or; walk_at "ev"; (intro _; walk_at "ev"))
  | (apply ev_chain; walk_at "ev"; walk_at "ev"; rfl; walk_at "ev"; rfl)
  | (apply ev_sl; walk_at "ev"; rfl; walk_at "evo"; walk_at "evo"; rfl; walk_at "op"))
local macro_rules | `(tactic| walk_at "evo") => `(tactic| first | exact evo_no | (apply evo_some; walk_at "ev"))
local macro_rules | `(tactic| walk_at "evl") => `(tactic| first | exact evl_nil | (apply evl_cons; walk_at "ev"; rfl; walk_at "evl") | (apply eva_seq; walk_at "ev"; rfl; rfl) | (apply evl_enum; walk_at "ev"; rfl; rfl) | (apply evl_rng; walk_at "ev"; omega))
local macro_rules | `(tactic| walk_at "eva") => `(tactic| first | exact eva_nil | (apply eva_cons; walk_at "ev"; rfl; walk_at "eva"))
local macro_rules | `(tactic| walk_at "evp") => `(tactic| first | exact evp_nil | (apply evp_cons; walk_at "ev"; rfl; walk_at "evp"))
local macro_rules | `(tactic| walk_at "evt") => `(tactic| first
  | (apply evt_bl; walk_at "ev") | (apply evt_tru; walk_at "ev"; rfl; rfl; walk_at "op") | (apply evt_not; walk_at "evt")
  | (apply evt_and; walk_at "evt"; (intro _; walk_at "evt")) | (apply evt_or; walk_at "evt"; (intro _; walk_at "evt")))
local macro_rules | `(tactic| walk_at "seq") => `(tactic| ((try simp only [skipS_r]); apply seq_i))
local macro_rules | `(tactic| walk_at "asg") => `(tactic| ((try simp only [skipS_r]); apply asg_i; walk_at "ev"; rfl))
local macro_rules | `(tactic| walk_at "if") => `(tactic| ((try simp only [skipS_r]); apply if_i; walk_at "evt"))
local macro_rules | `(tactic| walk_at "ret") => `(tactic| ((try simp only [skipS_r]); apply ret_i; walk_at "ev"))
local macro_rules | `(tactic| walk_at "n") => `(tactic| (try simp only [skipS_r]))
theorem spec_pick {o : Ob} {d : D} {n : Int} {P : EV → Env' → Prop} {X : Exx} (ho : PenOk o) (hl : lenD d = some (.int n)) (hn : 0 < n) (hn2 : n < 1073741824)
    (hx : ∀ r, 0 ≤ r → r < n → ∃ v, ixD d (.int r) = some v ∧ ∀ o' t, PenOk o' → P (.val v) (.io o' :: t)) : runF F__law_pick [.io o, .val d] P X := by
  apply body_i
  apply ret_c
  apply bin_r
  · exact ev_var rfl
  · rfl
  apply call_i
  · apply eva_cons
    · exact ev_vari rfl
    · rfl
    apply eva_cons
    · apply ev_un
      · exact ev_var rfl
      · rfl
      · rfl
      · exact hl
    · rfl
    exact eva_nil
  · rfl
  · simp
  refine spec_draw ho hn hn2 fun r o' t h0 h1 ho' => ?_
  refine ⟨rfl, _, rfl, _, rfl, ?_⟩
  obtain ⟨v, hv, k⟩ := hx r h0 h1
  exact ⟨_, _, _, rfl, rfl, hv, _, rfl, k o' _ ho'⟩
theorem int_map {ns : List Int} {k : Nat} {d : D} (h : (ns.map D.int)[k]? = some d) : ∃ i, ns[k]? = some i ∧ d = .int i := by
  rw [List.getElem?_map] at h
  obtain ⟨i, h1, rfl⟩ := Option.map_eq_some_iff.mp h
  exact ⟨i, h1, rfl⟩
theorem penK_nd : penK.Nodup := by
  have e : penK = [.inr ⟨#[99, 101, 108, 108, 115]⟩, .inr ⟨#[97, 116]⟩, .inr ⟨#[100, 105, 103, 105, 116, 115]⟩, .inr ⟨#[99, 111, 117, 110, 116]⟩, .inr ⟨#[102, 111, 108, 100]⟩] := by
    simp only [penK, Str.ofString_eq_toList]; rfl
  rw [e]; decide
theorem spec_pen {ns : List Int} {P : EV → Env' → Prop} {X : Exx} (hz : ns.length ≤ 63) (k : ∀ o t, PenOk o → P (.new o) t) : runF F__law_pen [.val (.lst (ns.map .int))] P X := by
  apply body_i
  walk_at "seq"
  walk_at "asg"
  walk_at "n"
  apply seq_cut (Q := fun e => ∃ f x, e = [.val (.lst (ns.map .int)), .val (.int f), x] ∧ x.isIo = false)
  · apply for_i
    · walk_at "evl"
    refine forL_inv _ (fun _ e => ∃ f x, e = [.val (.lst (ns.map .int)), .val (.int f), x] ∧ x.isIo = false) ⟨_, _, rfl, rfl⟩ ?_ fun e h => h
    rintro j d e hj ⟨f, x, rfl, hx⟩
    obtain ⟨i, _, rfl⟩ := int_map hj
    refine ⟨[.val (.lst (ns.map .int)), .val (.int f), .val (.int i)], by simp [hx], ?_⟩
    walk_at "asg"
    exact ⟨_, _, rfl, rfl⟩
  · rintro _ ⟨f, x, rfl, hx⟩
    apply ret_c
    refine ⟨_, rfl, ?_⟩
    refine (by walk_at "ev" : Ev _ _ _ _) _ _ ?_
    refine ⟨_, rfl, ?_⟩
    refine ⟨_, rfl, _, rfl, _, rfl, _, rfl, _, rfl, _, rfl, _, rfl, ?_⟩
    refine (ev_kv rfl : Ev (kvF FL 1) _ _ _) _ _ ?_
    refine ⟨_, rfl, penK, rfl, penK_nd, by decide, _, rfl, ?_⟩
    exact k _ _ ⟨ns, 0, 0, 0, f, rfl, by omega, by omega⟩
def LET : List Nat := (List.range 26).map (97 + ·)
def SGN : List Nat := LET ++ (List.range 10).map (48 + ·)
theorem let_eq : ("abcdefghijklmnopqrstuvwxyz" : Str) = St LET := by rw [Str.ofString_eq_toList]; rfl
theorem sgn_eq : ("abcdefghijklmnopqrstuvwxyz0123456789" : Str) = St SGN := by rw [Str.ofString_eq_toList]; rfl
/-- a name's signs -/
def NmOk (cs : List Nat) : Prop := ∃ c r, cs = c :: r ∧ c ∈ LET ∧ (∀ x ∈ r, x ∈ SGN) ∧ r.length ≤ 11 ∧ (r.length ≠ 8 ∨ c = 122)
/-- what is_name takes -/
def NmW (cs : List Nat) : Prop := ∃ c r, cs = c :: r ∧ c ∈ LET ∧ (∀ x ∈ r, x ∈ SGN) ∧ r.length ≤ 11
theorem NmOk.w {cs : List Nat} (h : NmOk cs) : NmW cs := by
  obtain ⟨c, r, h1, h2, h3, h4, _⟩ := h
  exact ⟨c, r, h1, h2, h3, h4⟩
theorem pick_st {o : Ob} {l : List Nat} {P : EV → Env' → Prop} {X : Exx} (ho : PenOk o) (hn : 0 < l.length) (hz : l.length ≤ 1000) (k : ∀ c ∈ l, ∀ o' t, PenOk o' → P (.val (.str (St [c]))) (.io o' :: t)) : runF F__law_pick [.io o, .val (.str (St l))] P X :=
  spec_pick ho (len_st hz) (by omega) (by omega) fun r h0 h1 => by
    obtain ⟨c, hc, e⟩ := ix_st hz h0 h1
    exact ⟨_, e, k c hc⟩
end Lw
set_option Elab.async false
set_option linter.all false
set_option maxRecDepth 100000
set_option maxHeartbeats 4000000
namespace Lw
open PySem PySem.Spec L2 En
local macro_rules | `(tactic| walk_at "op") => `(tactic| first | assumption | rfl | (exact mod_ok (by first | decide | omega)) | (exact mul_r (by first | decide | omega) (by first | decide | omega)) | (exact mul_l (by first | decide | omega) (by first | decide | omega)) | (exact div_ok (by first | decide | omega) (by first | decide | omega)) | assumption)
local macro_rules | `(tactic| walk_at "ev") => `(tactic| first
  | exact ev_lit | exact ev_var rfl | exact ev_kv rfl | exact ev_varo rfl | exact ev_vari rfl | exact ev_kvo rfl rfl
  | (apply ev_bin; walk_at "ev"; rfl; walk_at "ev"; rfl; rfl; rfl; walk_at "op")
  | (apply ev_un; walk_at "ev"; rfl; rfl; walk_at "op")
  | (apply ev_unN; walk_at "ev"; rfl; rfl; walk_at "op")
  | (apply ev_tup; walk_at "evl"; (first | decide | simp))
  | (apply ev_lst; walk_at "evl"; (first | decide | simp))
  | exact ev_dK
  | (apply ev_not; walk_at "ev")
  | (apply ev_and; walk_at "ev"; (intro _; walk_at "ev")) | (apply ev_or; walk_at "ev"; (intro _; walk_at "ev"))
  | (apply ev_chain; walk_at "ev"; walk_at "ev"; rfl; walk_at "ev"; rfl)
  | (apply ev_sl; walk_at "ev"; rfl; walk_at "evo"; walk_at "evo"; rfl; walk_at "op"))
local macro_rules | `(tactic| walk_at "evo") => `(tactic| first | exact evo_no | (apply evo_some; walk_at "ev"))
local macro_rules | `(tactic| walk_at "evl") => `(tactic| first | exact evl_nil | (apply evl_cons; walk_at "ev"; rfl; walk_at "evl") | (apply eva_seq; walk_at "ev"; rfl; rfl) | (apply evl_enum; walk_at "ev"; rfl; rfl) | (apply evl_rng; walk_at "ev"; omega))
local macro_rules | `(tactic| walk_at "eva") => `(tactic| first | exact eva_nil | (apply eva_cons; walk_at "ev"; rfl; walk_at "eva"))
local macro_rules | `(tactic| walk_at "evp") => `(tactic| first | exact evp_nil | (apply evp_cons; walk_at "ev"; rfl; walk_at "evp"))
local macro_rules | `(tactic| walk_at "evt") => `(tactic| first
  | (apply evt_bl; walk_at "ev") | (apply evt_tru; walk_at "ev"; rfl; rfl; walk_at "op") | (apply evt_not; walk_at "evt")
  | (apply evt_and; walk_at "evt"; (intro _; walk_at "evt")) | (apply evt_or; walk_at "evt"; (intro _; walk_at "evt")))
local macro_rules | `(tactic| walk_at "seq") => `(tactic| ((try simp only [skipS_r]); apply seq_i))
local macro_rules | `(tactic| walk_at "asg") => `(tactic| ((try simp only [skipS_r]); apply asg_i; walk_at "ev"; rfl))
local macro_rules | `(tactic| walk_at "if") => `(tactic| ((try simp only [skipS_r]); apply if_i; walk_at "evt"))
local macro_rules | `(tactic| walk_at "ret") => `(tactic| ((try simp only [skipS_r]); apply ret_i; walk_at "ev"))
local macro_rules | `(tactic| walk_at "n") => `(tactic| (try simp only [skipS_r]))
theorem spec_name {o : Ob} {P : EV → Env' → Prop} {X : Exx} (ho : PenOk o) (k : ∀ cs o' t, NmOk cs → PenOk o' → P (.val (.str (St cs))) (.io o' :: t)) : runF F__law_name [.io o] P X := by
  apply body_i
  walk_at "seq"
  apply par_i
  · walk_at "evp"
  · rfl
  simp only [let_eq, sgn_eq]
  walk_at "seq"
  apply asg_c
  apply bin_r
  · walk_at "ev"
  · rfl
  apply call_i
  · walk_at "eva"
  · rfl
  · simp
  refine spec_draw ho (by decide) (by decide) fun r o1 t h0 h1 ho1 => ?_
  refine ⟨rfl, _, rfl, _, rfl, ?_⟩
  have hr : ∃ n : Int, 0 ≤ n ∧ n ≤ 11 ∧ n ≠ 8 ∧ ixD (.lst [.int 0, .int 0, .int 1, .int 2, .int 5, .int 11]) (.int r) = some (.int n) := by
    have : r = 0 ∨ r = 1 ∨ r = 2 ∨ r = 3 ∨ r = 4 ∨ r = 5 := by omega
    rcases this with rfl | rfl | rfl | rfl | rfl | rfl <;> exact ⟨_, by decide, by decide, by decide, rfl⟩
  obtain ⟨n, n0, n1, n8, hn⟩ := hr
  refine ⟨_, _, _, rfl, rfl, hn, _, rfl, ?_⟩
  walk_at "n"
  apply ret_c
  apply bin_l
  apply call_i
  · walk_at "eva"
  · rfl
  · simp
  refine pick_st ho1 (by decide) (by decide) fun c hc o2 t2 ho2 => ?_
  refine ⟨rfl, _, rfl, _, rfl, ?_⟩
  apply un_c
  apply lc_i
  · apply evl_rng
    · exact ev_var rfl
    · omega
  · rfl
  refine compL_inv _ (fun j acc e => ∃ cs o3, acc = cs.map (fun c => D.str (St [c])) ∧ cs.length = j ∧ (∀ x ∈ cs, x ∈ SGN) ∧ PenOk o3 ∧ e = [.io o3, .val (.str (St LET)), .val (.str (St SGN)), .val (.int n), .un]) ⟨[], o2, rfl, rfl, (fun _ h => nomatch h), ho2, rfl⟩ ?_ ?_
  · rintro j d acc e hj ⟨cs, o3, rfl, hl, hs, ho3, rfl⟩
    obtain ⟨hj1, rfl⟩ := intsD_get hj
    refine ⟨_, by simp; rfl, ?_⟩
    apply yes_i
    apply call_i
    · walk_at "eva"
    · rfl
    · simp
    refine pick_st ho3 (by decide) (by decide) fun c hc o4 t4 ho4 => ?_
    refine ⟨rfl, _, rfl, _, rfl, by rw [List.length_map]; omega, rfl, cs ++ [c], o4, by simp, by simp [hl], ?_, ho4, rfl⟩
    intro x hx
    rcases List.mem_append.mp hx with hx | hx
    · exact hs x hx
    · rw [List.mem_singleton.mp hx]; exact hc
  · rintro acc e ⟨cs, o3, rfl, hl, hs, ho3, rfl⟩
    rw [intsD_len] at hl
    refine ⟨_, rfl, _, _, rfl, join_st (by omega), _, rfl, _, _, _, rfl, rfl, add_st (by simp; omega), _, rfl, ?_⟩
    exact k _ _ _ ⟨c, cs, rfl, hc, hs, by omega, .inl (by omega)⟩ ho3
end Lw
set_option Elab.async false
set_option linter.all false
set_option maxRecDepth 100000
set_option maxHeartbeats 4000000
namespace Lw
open PySem PySem.Spec L2 En
local macro_rules | `(tactic| walk_at "op") => `(tactic| first | assumption | rfl | (exact mod_ok (by first | decide | omega)) | (exact mul_r (by first | decide | omega) (by first | decide | omega)) | (exact mul_l (by first | decide | omega) (by first | decide | omega)) | (exact div_ok (by first | decide | omega) (by first | decide | omega)) | assumption)
local macro_rules | `(tactic| walk_at "ev") => `(tactic| first
  | exact ev_lit | exact ev_var rfl | exact ev_kv rfl | exact ev_varo rfl | exact ev_vari rfl | exact ev_kvo rfl rfl
  | (apply ev_bin; walk_at "ev"; rfl; walk_at "ev"; rfl; rfl; rfl; walk_at "op")
  | (apply ev_un; walk_at "ev"; rfl; rfl; walk_at "op")
  | (apply ev_unN; walk_at "ev"; rfl; rfl; walk_at "op")
  | (apply ev_tup; walk_at "evl"; (first | decide | simp))
  | (apply ev_lst; walk_at "evl"; (first | decide | simp))
  | exact ev_dK
  | (apply ev_not; walk_at "ev")
  | (apply ev_and; walk_at "ev"; (intro _; walk_at "ev")) | (apply ev_or; walk_at "ev"; (intro _; walk_at "ev"))
  | (apply ev_chain; walk_at "ev"; walk_at "ev"; rfl; walk_at "ev"; rfl)
  | (apply ev_sl; walk_at "ev"; rfl; walk_at "evo"; walk_at "evo"; rfl; walk_at "op"))
local macro_rules | `(tactic| walk_at "evo") => `(tactic| first | exact evo_no | (apply evo_some; walk_at "ev"))
local macro_rules | `(tactic| walk_at "evl") => `(tactic| first | exact evl_nil | (apply evl_cons; walk_at "ev"; rfl; walk_at "evl") | (apply eva_seq; walk_at "ev"; rfl; rfl) | (apply evl_enum; walk_at "ev"; rfl; rfl) | (apply evl_rng; walk_at "ev"; omega))
local macro_rules | `(tactic| walk_at "eva") => `(tactic| first | exact eva_nil | (apply eva_cons; walk_at "ev"; rfl; walk_at "eva"))
local macro_rules | `(tactic| walk_at "evp") => `(tactic| first | exact evp_nil | (apply evp_cons; walk_at "ev"; rfl; walk_at "evp"))
local macro_rules | `(tactic| walk_at "evt") => `(tactic| first
  | (apply evt_bl; walk_at "ev") | (apply evt_tru; walk_at "ev"; rfl; rfl; walk_at "op") | (apply evt_not; walk_at "evt")
  | (apply evt_and; walk_at "evt"; (intro _; walk_at "evt")) | (apply evt_or; walk_at "evt"; (intro _; walk_at "evt")))
local macro_rules | `(tactic| walk_at "seq") => `(tactic| ((try simp only [skipS_r]); apply seq_i))
local macro_rules | `(tactic| walk_at "asg") => `(tactic| ((try simp only [skipS_r]); apply asg_i; walk_at "ev"; rfl))
local macro_rules | `(tactic| walk_at "if") => `(tactic| ((try simp only [skipS_r]); apply if_i; walk_at "evt"))
local macro_rules | `(tactic| walk_at "ret") => `(tactic| ((try simp only [skipS_r]); apply ret_i; walk_at "ev"))
local macro_rules | `(tactic| walk_at "n") => `(tactic| (try simp only [skipS_r]))
theorem zq_eq : ("z" : Str) = St [122] ∧ ("q" : Str) = St [113] ∧ ("0" : Str) = St [48] := by
  refine ⟨?_, ?_, ?_⟩ <;> (rw [Str.ofString_eq_toList]; rfl)
abbrev nmD (css : List (List Nat)) : List D := css.map fun cs => D.str (St cs)
theorem st_inj {a b : List Nat} : (St a == St b) = decide (b = a) := by
  by_cases h : b = a
  · subst h; simp
  · have : St a ≠ St b := fun z => h (by
      have := congrArg (fun s => s.cps.toList) z
      simpa using this.symm)
    simp [h, this]
theorem in_st {cs : List Nat} {css : List (List Nat)} : inD (.str (St cs)) (.lst (nmD css)) = some (.bl (decide (cs ∈ css))) := by
  have h1 : ((nmD css).all flatD) = true := by
    rw [List.all_eq_true]
    intro d hd
    obtain ⟨x, _, rfl⟩ := List.mem_map.mp hd
    rfl
  show (if (flatD (.str (St cs)) && (nmD css).all flatD) then some ((nmD css).any fun z => eqB z (.str (St cs))) else none).map D.bl = _
  rw [h1]
  show some (D.bl ((nmD css).any fun z => eqB z (.str (St cs)))) = _
  congr 2
  induction css with
  | nil => rfl
  | cons x css ih =>
    have h1 : ((nmD css).all flatD) = true := by
      rw [List.all_eq_true]
      intro d hd
      obtain ⟨x, _, rfl⟩ := List.mem_map.mp hd
      rfl
    show (eqB (.str (St x)) (.str (St cs)) || (nmD css).any fun z => eqB z (.str (St cs))) = _
    rw [ih h1, eqB_str, st_inj]
    by_cases h : cs = x <;> simp [h]
theorem str_lap {j : Nat} (h : j < 4) : strOfD (.int (j : Int)) = some (.str (St [48 + j])) := by
  have : j = 0 ∨ j = 1 ∨ j = 2 ∨ j = 3 := by omega
  rcases this with rfl | rfl | rfl | rfl <;> (unfold strOfD; dsimp only; rw [if_pos (by decide), Str.ofString_eq_toList]; rfl)
theorem filt_mono (n : Nat) : ∀ l : List (List Nat), (l.filter fun c => decide (n + 1 ≤ c.length)).length ≤ (l.filter fun c => decide (n ≤ c.length)).length
  | [] => Nat.le_refl _
  | z :: l => by
    have ih := filt_mono n l
    rw [List.filter_cons, List.filter_cons]
    by_cases h1 : n + 1 ≤ z.length
    · rw [if_pos (by simpa using h1), if_pos (by simp; omega), List.length_cons, List.length_cons]; omega
    · rw [if_neg (by simpa using h1)]
      split
      · rw [List.length_cons]; omega
      · exact ih
theorem filt_lt {n : Nat} {x : List Nat} (hx : x.length = n) : ∀ {l : List (List Nat)}, x ∈ l → (l.filter fun c => decide (n + 1 ≤ c.length)).length < (l.filter fun c => decide (n ≤ c.length)).length
  | z :: l, h => by
    rw [List.filter_cons, List.filter_cons]
    rcases List.mem_cons.mp h with rfl | h
    · rw [if_neg (by simp; omega), if_pos (by simp; omega), List.length_cons]
      have := filt_mono n l
      omega
    · have ih := filt_lt hx h
      by_cases h1 : n + 1 ≤ z.length
      · rw [if_pos (by simpa using h1), if_pos (by simp; omega), List.length_cons, List.length_cons]; omega
      · rw [if_neg (by simpa using h1)]
        split
        · rw [List.length_cons]; omega
        · exact ih
theorem dig_sgn {j : Nat} (h : j < 4) : 48 + j ∈ SGN := by
  have : j = 0 ∨ j = 1 ∨ j = 2 ∨ j = 3 := by omega
  rcases this with rfl | rfl | rfl | rfl <;> decide
theorem spec_names {o : Ob} {m : Nat} {P : EV → Env' → Prop} {X : Exx} (ho : PenOk o) (hm : m ≤ 4)
    (k : ∀ (css : List (List Nat)) o' t, css.length = m → css.Nodup → (∀ cs ∈ css, NmOk cs) → PenOk o' → P (.val (.nms (css.map St))) (.io o' :: t)) : runF F__law_names [.io o, .val (.int (m : Int))] P X := by
  apply body_i
  walk_at "seq"
  walk_at "asg"
  walk_at "n"
  apply seq_cut (Q := fun e => ∃ css o' a b, e = [.io o', .val (.int (m : Int)), .own (.lst (nmD css)), a, b] ∧ css.length = m ∧ css.Nodup ∧ (∀ cs ∈ css, NmOk cs) ∧ PenOk o')
  · apply for_i
    · apply evl_rng
      · exact ev_var rfl
      · omega
    refine forL_inv _ (fun j e => ∃ css o' a b, e = [.io o', .val (.int (m : Int)), .own (.lst (nmD css)), a, b] ∧ a.isIo = false ∧ b.isIo = false ∧ css.length = j ∧ css.Nodup ∧ (∀ cs ∈ css, NmOk cs) ∧ PenOk o') ⟨[], o, _, _, rfl, rfl, rfl, rfl, List.nodup_nil, (fun _ h => nomatch h), ho⟩ ?_ ?_
    · rintro j d e hj ⟨css, o1, a, b, rfl, ha, hb, hl, hn, hk, ho1⟩
      obtain ⟨hj1, rfl⟩ := intsD_get hj
      have hj4 : j < 4 := by simp at hj1; omega
      refine ⟨[.io o1, .val (.int (m : Int)), .own (.lst (nmD css)), .val (.int (j : Int)), b], by simp [ha], ?_⟩
      walk_at "seq"
      apply asg_c
      apply call_i
      · walk_at "eva"
      · rfl
      · simp
      refine spec_name ho1 fun cs o2 t hcs ho2 => ?_
      refine ⟨rfl, _, rfl, [.io o2, .val (.int (m : Int)), .own (.lst (nmD css)), .val (.int (j : Int)), .val (.str (St cs))], by simp [hb], ?_⟩
      walk_at "n"
      apply seq_cut (Q := fun e => ∃ nm, e = [.io o2, .val (.int (m : Int)), .own (.lst (nmD css)), .val (.int (j : Int)), .val (.str (St nm))] ∧ NmOk nm ∧ (nm ∈ css → nm.length ≤ 3))
      · apply if_i
        · apply evt_bl
          apply ev_bin
          · exact ev_var rfl
          · rfl
          · exact ev_varo rfl
          · rfl
          · rfl
          · rfl
          · exact in_st
        · intro _
          simp only [zq_eq.1, zq_eq.2.1]
          apply asg_i
          · apply ev_bin
            · apply ev_bin
              · exact ev_lit
              · rfl
              · apply ev_un
                · exact ev_var rfl
                · rfl
                · rfl
                · exact str_lap hj4
              · rfl
              · rfl
              · rfl
              · exact add_st (by simp)
            · rfl
            · exact ev_lit
            · rfl
            · rfl
            · rfl
            · exact add_st (by simp)
          · rfl
          exact ⟨_, rfl, ⟨122, [48 + j, 113], rfl, by decide, by
            intro x hx
            simp at hx
            rcases hx with rfl | rfl
            · exact dig_sgn hj4
            · decide, by simp, .inr rfl⟩, fun _ => by simp⟩
        · intro h
          have h : decide (cs ∈ css) = false := h
          simp at h
          exact ⟨cs, rfl, hcs, fun z => absurd z h⟩
      · rintro _ ⟨nm, rfl, hnm, hn3⟩
        walk_at "n"
        apply seq_cut (Q := fun e => ∃ nm, e = [.io o2, .val (.int (m : Int)), .own (.lst (nmD css)), .val (.int (j : Int)), .val (.str (St nm))] ∧ NmOk nm ∧ nm ∉ css)
        · refine while_inv (fun k e => ∃ nm, e = [.io o2, .val (.int (m : Int)), .own (.lst (nmD css)), .val (.int (j : Int)), .val (.str (St nm))] ∧ NmOk nm ∧ (css.filter fun c => decide (nm.length ≤ c.length)).length ≤ k ∧ (nm ∈ css → nm.length + k ≤ 8)) css.length ⟨nm, rfl, hnm, List.length_filter_le _ _, fun z => by have := hn3 z; omega⟩ ?_
          rintro k _ ⟨nm, rfl, hnm, hf, h8⟩
          refine (evt_bl (ev_bin (ev_var rfl) rfl (ev_varo rfl) rfl rfl rfl in_st) : EvT _ _ _ _) _ _ ?_
          by_cases hc : nm ∈ css
          · rw [if_pos (by simpa using hc)]
            simp only [zq_eq.2.2]
            have hz := h8 hc
            obtain ⟨c0, r0, rfl, g1, g2, g3, g4⟩ := hnm
            apply asg_i
            · apply ev_bin
              · exact ev_var rfl
              · rfl
              · exact ev_lit
              · rfl
              · rfl
              · rfl
              · exact add_st (by simp; omega)
            · rfl
            have hlt := filt_lt (n := (c0 :: r0).length) rfl hc
            have hl2 : (c0 :: r0 ++ [48]).length = (c0 :: r0).length + 1 := by simp
            refine ⟨k - 1, by omega, c0 :: r0 ++ [48], rfl, ⟨c0, r0 ++ [48], rfl, g1, ?_, by simp at hz ⊢; omega, .inl (by
              have : (c0 :: r0).length + k ≤ 8 := hz
              rw [List.length_append, List.length_singleton]
              rw [List.length_cons] at this
              omega)⟩, by rw [hl2]; omega, fun _ => by rw [hl2]; omega⟩
            intro x hx
            rcases List.mem_append.mp hx with hx | hx
            · exact g2 x hx
            · rw [List.mem_singleton.mp hx]; decide
          · rw [if_neg (by simpa using hc)]
            exact ⟨nm, rfl, hnm, hc⟩
        · rintro _ ⟨nm, rfl, hnm, hc⟩
          apply drop_i
          · apply app_i
            · exact ⟨_, rfl, _, rfl⟩
            · exact ev_kv rfl
            · rfl
            · rfl
            · rfl
            · simp; omega
          refine ⟨css ++ [nm], o2, _, _, by simp; exact ⟨rfl, rfl⟩, rfl, rfl, by simp [hl], ?_, ?_, ho2⟩
          · rw [List.nodup_append]
            refine ⟨hn, by simp, fun a ha b hb => ?_⟩
            rw [List.mem_singleton.mp hb]
            exact fun z => hc (by rw [← z]; exact ha)
          · intro x hx
            rcases List.mem_append.mp hx with hx | hx
            · exact hk x hx
            · rw [List.mem_singleton.mp hx]; exact hnm
    · rintro e ⟨css, o', a, b, rfl, _, _, hl, hn, hk, ho'⟩
      rw [intsD_len] at hl
      exact ⟨css, o', a, b, rfl, by simpa using hl, hn, hk, ho'⟩
  · rintro _ ⟨css, o', a, b, rfl, hl, hn, hk, ho'⟩
    apply ret_i
    · apply ev_un
      · exact ev_varo rfl
      · rfl
      · rfl
      · show (strsD? (nmD css)).map D.nms = _
        have : strsD? (nmD css) = some (css.map St) := by
          clear hl hn hk
          induction css with
          | nil => rfl
          | cons c r ih =>
            show (strsD? (nmD r)).map (St c :: ·) = _
            rw [ih]; rfl
        rw [this]; rfl
    exact ⟨_, rfl, k css _ _ hl hn hk ho'⟩
end Lw
set_option Elab.async false
set_option linter.all false
set_option maxRecDepth 100000
set_option maxHeartbeats 4000000
namespace Lw
open PySem PySem.Spec L2 En
local macro_rules | `(tactic| walk_at "op") => `(tactic| first | assumption | rfl | (exact mod_ok (by first | decide | omega)) | (exact mul_r (by first | decide | omega) (by first | decide | omega)) | (exact mul_l (by first | decide | omega) (by first | decide | omega)) | (exact div_ok (by first | decide | omega) (by first | decide | omega)) | assumption)
local macro_rules | `(tactic| walk_at "ev") => `(tactic| first
  | exact ev_lit | exact ev_var rfl | exact ev_kv rfl | exact ev_varo rfl | exact ev_vari rfl | exact ev_kvo rfl rfl
  | (apply ev_bin; walk_at "ev"; rfl; walk_at "ev"; rfl; rfl; rfl; walk_at "op")
  | (apply ev_un; walk_at "ev"; rfl; rfl; walk_at "op")
  | (apply ev_unN; walk_at "ev"; rfl; rfl; walk_at "op")
  | (apply ev_tup; walk_at "evl"; (first | decide | simp))
  | (apply ev_lst; walk_at "evl"; (first | decide | simp))
  | exact ev_dK
  | (apply ev_not; walk_at "ev")
  | (apply ev_and; walk_at "ev"; (intro _; walk_at "ev")) | (apply ev_or; walk_at "ev"; (intro _; walk_at "ev"))
  | (apply ev_chain; walk_at "ev"; walk_at "ev"; rfl; walk_at "ev"; rfl)
  | (apply ev_sl; walk_at "ev"; rfl; walk_at "evo"; walk_at "evo"; rfl; walk_at "op"))
local macro_rules | `(tactic| walk_at "evo") => `(tactic| first | exact evo_no | (apply evo_some; walk_at "ev"))
local macro_rules | `(tactic| walk_at "evl") => `(tactic| first | exact evl_nil | (apply evl_cons; walk_at "ev"; rfl; walk_at "evl") | (apply eva_seq; walk_at "ev"; rfl; rfl) | (apply evl_enum; walk_at "ev"; rfl; rfl) | (apply evl_rng; walk_at "ev"; omega))
local macro_rules | `(tactic| walk_at "eva") => `(tactic| first | exact eva_nil | (apply eva_cons; walk_at "ev"; rfl; walk_at "eva"))
local macro_rules | `(tactic| walk_at "evp") => `(tactic| first | exact evp_nil | (apply evp_cons; walk_at "ev"; rfl; walk_at "evp"))
local macro_rules | `(tactic| walk_at "evt") => `(tactic| first
  | (apply evt_bl; walk_at "ev") | (apply evt_tru; walk_at "ev"; rfl; rfl; walk_at "op") | (apply evt_not; walk_at "evt")
  | (apply evt_and; walk_at "evt"; (intro _; walk_at "evt")) | (apply evt_or; walk_at "evt"; (intro _; walk_at "evt")))
local macro_rules | `(tactic| walk_at "seq") => `(tactic| ((try simp only [skipS_r]); apply seq_i))
local macro_rules | `(tactic| walk_at "asg") => `(tactic| ((try simp only [skipS_r]); apply asg_i; walk_at "ev"; rfl))
local macro_rules | `(tactic| walk_at "if") => `(tactic| ((try simp only [skipS_r]); apply if_i; walk_at "evt"))
local macro_rules | `(tactic| walk_at "ret") => `(tactic| ((try simp only [skipS_r]); apply ret_i; walk_at "ev"))
local macro_rules | `(tactic| walk_at "n") => `(tactic| (try simp only [skipS_r]))
def tmD : Option Int → D
  | none => .non
  | some i => .int i
abbrev dayD (ts : List (Option Int)) : D := .tup (ts.map tmD)
theorem lstI_len {mns : List Int} : (mns.map D.int).length = mns.length := by simp
theorem spec_drawn_log {o : Ob} {m : Nat} {p : Int} {P : EV → Env' → Prop} {X : Exx} (ho : PenOk o) (hm : m ≤ 4) (hp : 0 < p) (hp2 : p < 1000)
    (k : ∀ (css : List (List Nat)) (dss : List (List (Option Int))) o' t, css.length = m → css.Nodup → (∀ cs ∈ css, NmOk cs) → (∀ ts ∈ dss, ts.length = m) → dss.length ≤ 6 → PenOk o' → P (.val (.tup [.nms (css.map St), .tup (dss.map dayD)])) (.io o' :: t)) :
    runF F__law_drawn_log [.io o, .val (.int (m : Int)), .val (.int p)] P X := by
  apply body_i
  walk_at "seq"
  apply asg_c
  apply call_i
  · walk_at "eva"
  · rfl
  · simp
  refine spec_names ho hm fun css o1 t1 hl hn hk ho1 => ?_
  refine ⟨rfl, _, rfl, [.io o1, .val (.int (m : Int)), .val (.int p), .val (.nms (css.map St)), .un, .un, .un, .un, .un, .un, .un, .un], rfl, ?_⟩
  walk_at "n"
  apply seq_cut (Q := fun e => ∃ (mns : List Int) (o2 : Ob), e = [.io o2, .val (.int (m : Int)), .val (.int p), .val (.nms (css.map St)), .own (.lst (mns.map D.int)), .own (.lst []), .un, .un, .un, .un, .un, .un] ∧ mns.length = m ∧ PenOk o2)
  · apply par_c
    apply consP_c
    apply lc_i
    · walk_at "evl"
    · rfl
    refine compL_inv _ (fun j acc e => ∃ (mns : List Int) (o3 : Ob), acc = mns.map D.int ∧ mns.length = j ∧ PenOk o3 ∧ e = [.io o3, .val (.int (m : Int)), .val (.int p), .val (.nms (css.map St)), .un, .un, .un, .un, .un, .un, .un, .un]) ⟨[], o1, rfl, rfl, ho1, rfl⟩ ?_ ?_
    · rintro j d acc e hj ⟨mns, o3, rfl, hl3, ho3, rfl⟩
      have hj4 : j < m := by
        have := (List.getElem?_eq_some_iff.mp hj).1
        simp at this; omega
      refine ⟨_, by simp; rfl, ?_⟩
      apply yes_i
      apply call_i
      · walk_at "eva"
      · rfl
      · simp
      refine spec_draw ho3 hp (by omega) fun r o4 t4 h0 h1 ho4 => ?_
      exact ⟨rfl, _, rfl, _, rfl, by rw [List.length_map]; omega, rfl, mns ++ [r], o4, by simp, by simp [hl3], ho4, rfl⟩
    · rintro acc e ⟨mns, o3, rfl, hl3, ho3, rfl⟩
      rw [List.length_map, List.length_map] at hl3
      refine ⟨rfl, (by walk_at "evp" : EvP _ _ _ _) _ _ ⟨_, rfl, mns, o3, rfl, by omega, ho3⟩⟩
  rintro _ ⟨mns, o2, rfl, hil, ho2⟩
  walk_at "n"
  apply seq_cut (Q := fun e => ∃ (dss : List (List (Option Int))) (o3 : Ob) (s4 a7 a8 a9 a10 a11 : En.Slot), e = [.io o3, .val (.int (m : Int)), .val (.int p), .val (.nms (css.map St)), s4, .own (.lst (dss.map dayD)), .un, a7, a8, a9, a10, a11] ∧ dss.length ≤ 6 ∧ (∀ ts ∈ dss, ts.length = m) ∧ PenOk o3)
  · apply for_c
    apply rng_c
    apply call_i
    · walk_at "eva"
    · rfl
    · simp
    refine spec_draw ho2 (by decide) (by decide) fun r o3 t3 h0 h1 ho3 => ?_
    refine ⟨rfl, _, rfl, r, rfl, by omega, ?_⟩
    refine forL_inv _ (fun j e => ∃ (dss : List (List (Option Int))) (o3 : Ob) (s4 a7 a8 a9 a10 a11 : En.Slot), e = [.io o3, .val (.int (m : Int)), .val (.int p), .val (.nms (css.map St)), s4, .own (.lst (dss.map dayD)), .un, a7, a8, a9, a10, a11] ∧ dss.length = j ∧ (∀ ts ∈ dss, ts.length = m) ∧ PenOk o3 ∧
      (s4 = .own (.lst (mns.map D.int)) ∨ s4 = .val (.lst (mns.map D.int))) ∧ a7.isIo = false ∧ a8.isIo = false ∧ a9.isIo = false ∧ a10.isIo = false ∧ a11.isIo = false) ⟨[], o3, _, _, _, _, _, _, rfl, rfl, (fun _ h => nomatch h), ho3, .inl rfl, rfl, rfl, rfl, rfl, rfl⟩ ?_ ?_
    · rintro j d e hj ⟨dss, o4, s4, a7, a8, a9, a10, a11, rfl, hdl, hdk, ho4, hs4, h7, h8, h9, h10, h11⟩
      obtain ⟨hj1, rfl⟩ := intsD_get hj
      refine ⟨[.io o4, .val (.int (m : Int)), .val (.int p), .val (.nms (css.map St)), s4, .own (.lst (dss.map dayD)), .un, .val (.int (j : Int)), a8, a9, a10, a11], by simp [h7], ?_⟩
      walk_at "seq"
      apply par_c
      apply consP_c
      apply bin_l
      apply call_i
      · walk_at "eva"
      · rfl
      · simp
      refine spec_draw ho4 (by decide) (by decide) fun mv o5 t5 m0 m1 ho5 => ?_
      refine ⟨rfl, _, rfl, _, rfl, ?_⟩
      refine ⟨_, rfl, _, _, _, rfl, rfl, rfl, rfl, ?_⟩
      refine (by walk_at "evp" : EvP _ _ _ _) _ _ ⟨[.io o5, .val (.int (m : Int)), .val (.int p), .val (.nms (css.map St)), s4, .own (.lst (dss.map dayD)), .un, .val (.int (j : Int)), .val (.int (mv - 20)), .own (.lst []), a10, a11], by simp [h8, h9], ?_⟩
      walk_at "n"
      apply seq_cut (Q := fun e => ∃ (ts : List (Option Int)) (o6 : Ob) (a10 a11 : En.Slot), e = [.io o6, .val (.int (m : Int)), .val (.int p), .val (.nms (css.map St)), .val (.lst (mns.map D.int)), .own (.lst (dss.map dayD)), .un, .val (.int (j : Int)), .val (.int (mv - 20)), .own (.lst (ts.map tmD)), a10, a11] ∧ ts.length = m ∧ PenOk o6 ∧ a10.isIo = false ∧ a11.isIo = false)
      · apply for_i
        · apply eva_seq
          · exact ev_kvB (i := 4) rfl hs4
          · rfl
          · rfl
        refine forL_inv _ (fun i e => ∃ (ts : List (Option Int)) (o6 : Ob) (a10 a11 : En.Slot), e = [.io o6, .val (.int (m : Int)), .val (.int p), .val (.nms (css.map St)), .val (.lst (mns.map D.int)), .own (.lst (dss.map dayD)), .un, .val (.int (j : Int)), .val (.int (mv - 20)), .own (.lst (ts.map tmD)), a10, a11] ∧ ts.length = i ∧ PenOk o6 ∧ a10.isIo = false ∧ a11.isIo = false) ⟨[], o5, _, _, rfl, rfl, ho5, h10, h11⟩ ?_ ?_
        · rintro i d e hi ⟨ts, o6, a10, a11, rfl, hts, ho6, h10, h11⟩
          obtain ⟨mn, hmn, rfl⟩ := int_map hi
          have him : i < m := by
            have := (List.getElem?_eq_some_iff.mp hmn).1
            omega
          refine ⟨[.io o6, .val (.int (m : Int)), .val (.int p), .val (.nms (css.map St)), .val (.lst (mns.map D.int)), .own (.lst (dss.map dayD)), .un, .val (.int (j : Int)), .val (.int (mv - 20)), .own (.lst (ts.map tmD)), .val (.int mn), a11], by simp [h10], ?_⟩
          walk_at "seq"
          apply asg_c
          apply bin_r
          · apply ev_bin
            · exact ev_var rfl
            · rfl
            · apply ev_bin
              · exact ev_var rfl
              · rfl
              · exact ev_var rfl
              · rfl
              · rfl
              · rfl
              · exact mul_r (by omega) (by omega)
            · rfl
            · rfl
            · rfl
            · rfl
          · rfl
          apply call_i
          · walk_at "eva"
          · rfl
          · simp
          refine spec_pick (n := 6) ho6 rfl (by decide) (by decide) fun r r0 r1 => ?_
          have hr : ∃ n : Int, ixD (.lst [.int 0, .int 0, .int 0, .int 0, .int 1, .int 2]) (.int r) = some (.int n) := by
            have : r = 0 ∨ r = 1 ∨ r = 2 ∨ r = 3 ∨ r = 4 ∨ r = 5 := by omega
            rcases this with rfl | rfl | rfl | rfl | rfl | rfl <;> exact ⟨_, rfl⟩
          obtain ⟨n, hn⟩ := hr
          refine ⟨_, hn, fun o7 t7 ho7 => ?_⟩
          refine ⟨rfl, _, rfl, _, rfl, _, _, _, rfl, rfl, rfl, [.io o7, .val (.int (m : Int)), .val (.int p), .val (.nms (css.map St)), .val (.lst (mns.map D.int)), .own (.lst (dss.map dayD)), .un, .val (.int (j : Int)), .val (.int (mv - 20)), .own (.lst (ts.map tmD)), .val (.int mn), .val (.int (mn + (mv - 20) * p + n))], by simp [h11], ?_⟩
          walk_at "n"
          apply drop_c
          apply app_c
          · exact ⟨_, rfl, _, rfl⟩
          apply ite_c
          apply bl_c
          apply bin_l
          apply call_i
          · walk_at "eva"
          · rfl
          · simp
          refine spec_draw ho7 (by decide) (by decide) fun r2 o8 t8 _ _ ho8 => ?_
          refine ⟨rfl, _, rfl, _, rfl, _, rfl, _, _, _, rfl, rfl, rfl, _, rfl, ?_⟩
          split
          · exact ⟨_, rfl, _, _, rfl, rfl, by rw [List.length_map]; omega, ts ++ [none], o8, _, _, by simp [tmD]; exact ⟨rfl, rfl⟩, by simp [hts], ho8, rfl, rfl⟩
          · refine (ev_kv rfl : Ev (kvF FL 11) _ _ _) _ _ ?_
            exact ⟨_, rfl, _, _, rfl, rfl, by rw [List.length_map]; omega, ts ++ [some (mn + (mv - 20) * p + n)], o8, _, _, by simp [tmD]; exact ⟨rfl, rfl⟩, by simp [hts], ho8, rfl, rfl⟩
        · rintro e ⟨ts, o6, a10, a11, rfl, hts, ho6, h10, h11⟩
          rw [List.length_map] at hts
          exact ⟨ts, o6, a10, a11, rfl, by omega, ho6, h10, h11⟩
      · rintro _ ⟨ts, o6, a10, a11, rfl, hts, ho6, h10, h11⟩
        apply drop_i
        · apply app_i
          · exact ⟨_, rfl, _, rfl⟩
          · apply ev_un
            · exact ev_varo rfl
            · rfl
            · rfl
            · rfl
          · rfl
          · rfl
          · rfl
          · rw [List.length_map]; omega
        refine ⟨dss ++ [ts], o6, .val (.lst (mns.map D.int)), .val (.int (j : Int)), .val (.int (mv - 20)), .own (.lst (ts.map tmD)), a10, a11, by simp, by simp [hdl], ?_, ho6, .inr rfl, rfl, rfl, rfl, h10, h11⟩
        intro x hx
        rcases List.mem_append.mp hx with hx | hx
        · exact hdk x hx
        · rw [List.mem_singleton.mp hx]; exact hts
    · rintro e ⟨dss, o4, s4, a7, a8, a9, a10, a11, rfl, hdl, hdk, ho4, _⟩
      rw [intsD_len] at hdl
      exact ⟨dss, o4, s4, a7, a8, a9, a10, a11, rfl, by omega, hdk, ho4⟩
  · rintro _ ⟨dss, o3, s4, a7, a8, a9, a10, a11, rfl, hdl, hdk, ho3⟩
    apply ret_i
    · apply ev_tup
      · apply evl_cons
        · exact ev_kv rfl
        · rfl
        apply evl_cons
        · apply ev_un
          · exact ev_varo rfl
          · rfl
          · rfl
          · rfl
        · rfl
        exact evl_nil
      · simp
    exact ⟨_, rfl, k css dss _ _ hl hn hk hdk hdl ho3⟩
end Lw
set_option Elab.async false
set_option linter.all false
set_option maxRecDepth 100000
set_option maxHeartbeats 4000000
namespace Lw
open PySem PySem.Spec L2 En
local macro_rules | `(tactic| walk_at "op") => `(tactic| first | assumption | rfl | (exact mod_ok (by first | decide | omega)) | (exact mul_r (by first | decide | omega) (by first | decide | omega)) | (exact mul_l (by first | decide | omega) (by first | decide | omega)) | (exact div_ok (by first | decide | omega) (by first | decide | omega)) | assumption)
local macro_rules | `(tactic| walk_at "ev") => `(tactic| first
  | exact ev_lit | exact ev_var rfl | exact ev_kv rfl | exact ev_varo rfl | exact ev_vari rfl | exact ev_kvo rfl rfl
  | (apply ev_bin; walk_at "ev"; rfl; walk_at "ev"; rfl; rfl; rfl; walk_at "op")
  | (apply ev_un; walk_at "ev"; rfl; rfl; walk_at "op")
  | (apply ev_unN; walk_at "ev"; rfl; rfl; walk_at "op")
  | (apply ev_tup; walk_at "evl"; (first | decide | simp))
  | (apply ev_lst; walk_at "evl"; (first | decide | simp))
  | exact ev_dK
  | (apply ev_not; walk_at "ev")
  | (apply ev_and; walk_at "ev"; (intro _; walk_at "ev")) | (apply ev_or; walk_at "ev"; (intro _; walk_at "ev"))
  | (apply ev_chain; walk_at "ev"; walk_at "ev"; rfl; walk_at "ev"; rfl)
  | (apply ev_sl; walk_at "ev"; rfl; walk_at "evo"; walk_at "evo"; rfl; walk_at "op"))
local macro_rules | `(tactic| walk_at "evo") => `(tactic| first | exact evo_no | (apply evo_some; walk_at "ev"))
local macro_rules | `(tactic| walk_at "evl") => `(tactic| first | exact evl_nil | (apply evl_cons; walk_at "ev"; rfl; walk_at "evl") | (apply eva_seq; walk_at "ev"; rfl; rfl) | (apply evl_enum; walk_at "ev"; rfl; rfl) | (apply evl_rng; walk_at "ev"; omega))
local macro_rules | `(tactic| walk_at "eva") => `(tactic| first | exact eva_nil | (apply eva_cons; walk_at "ev"; rfl; walk_at "eva"))
local macro_rules | `(tactic| walk_at "evp") => `(tactic| first | exact evp_nil | (apply evp_cons; walk_at "ev"; rfl; walk_at "evp"))
local macro_rules | `(tactic| walk_at "evt") => `(tactic| first
  | (apply evt_bl; walk_at "ev") | (apply evt_tru; walk_at "ev"; rfl; rfl; walk_at "op") | (apply evt_not; walk_at "evt")
  | (apply evt_and; walk_at "evt"; (intro _; walk_at "evt")) | (apply evt_or; walk_at "evt"; (intro _; walk_at "evt")))
local macro_rules | `(tactic| walk_at "seq") => `(tactic| ((try simp only [skipS_r]); apply seq_i))
local macro_rules | `(tactic| walk_at "asg") => `(tactic| ((try simp only [skipS_r]); apply asg_i; walk_at "ev"; rfl))
local macro_rules | `(tactic| walk_at "if") => `(tactic| ((try simp only [skipS_r]); apply if_i; walk_at "evt"))
local macro_rules | `(tactic| walk_at "ret") => `(tactic| ((try simp only [skipS_r]); apply ret_i; walk_at "ev"))
local macro_rules | `(tactic| walk_at "n") => `(tactic| (try simp only [skipS_r]))
theorem let_sgn : ∀ c ∈ LET, c ∈ SGN := fun c h => List.mem_append_left _ h
theorem in_sign {c : Nat} {l : List Nat} : inB (.str (St [c])) (.str (St l)) = some (decide (c ∈ l)) := by
  show (if (St [c]).length = 1 then some (decide ((St [c]).cps[0]! ∈ (St l).cps.toList)) else none) = _
  rw [if_pos (by rfl)]
  simp
theorem all_true : ∀ n : Nat, allD (.lst (List.replicate n (.bl true))) = some (.bl true) := by
  intro n
  have : blsD? (List.replicate n (D.bl true)) = some (List.replicate n true) := by
    induction n with
    | zero => rfl
    | succ n ih =>
      show (blsD? (List.replicate n (D.bl true))).map (true :: ·) = _
      rw [ih]; rfl
  show (blsD? _).map _ = _
  rw [this]
  simp
theorem spec_is_name {cs : List Nat} {P : EV → Env' → Prop} {X : Exx} (h : NmW cs) (k : ∀ t, P (.val (.bl true)) t) : runF F_is_name [.val (.str (St cs))] P X := by
  obtain ⟨c, r, rfl, h1, h2, h3⟩ := h
  apply body_i
  walk_at "seq"
  simp only [let_eq, sgn_eq]
  have hix : ixD (.str (St (c :: r))) (.int 0) = some (.str (St [c])) := by
    show (if (St (c :: r)).length ≤ sizeLine then (atI (St (c :: r)).cps.toList 0).map fun c => D.str ⟨#[c]⟩ else none) = _
    rw [if_pos (by rw [sizeLine_eq]; show (c :: r).toArray.size ≤ _; simp; omega)]
    have : atI (c :: r) 0 = some c := by unfold atI ixN; simp
    simp only [List.toList_toArray, this]; rfl
  have hl := len_st (l := c :: r) (by simp; omega)
  have hni : notInD (.str (St [c])) (.str (St LET)) = some (.bl false) := by
    show (inB (.str (St [c])) (.str (St LET))).map (fun b => D.bl (!b)) = _
    rw [in_sign, decide_eq_true h1]; rfl
  walk_at "if"
  · intro h
    have h : (!(true || false) || (!(decide ((1 : Int) ≤ ((c :: r).length : Int)) && decide (((c :: r).length : Int) ≤ 12)) || false)) = true := h
    simp at h
    omega
  · intro _
    walk_at "n"
    apply ret_c
    apply un_c
    apply lc_i
    · walk_at "evl"
    · rfl
    refine compL_inv _ (fun j acc e => acc = List.replicate j (.bl true) ∧ e = [.val (.str (St (c :: r))), .un]) ⟨rfl, rfl⟩ ?_ ?_
    · rintro j d acc e hj ⟨rfl, rfl⟩
      have hj' : ((c :: r).map fun c => D.str (St [c]))[j]? = some d := hj
      rw [List.getElem?_map] at hj'
      obtain ⟨x, hx, rfl⟩ := Option.map_eq_some_iff.mp hj'
      have hxs : x ∈ SGN := by
        rcases List.mem_cons.mp (List.mem_of_getElem? hx) with rfl | hm
        · exact let_sgn _ h1
        · exact h2 x hm
      have hjl := (List.getElem?_eq_some_iff.mp hx).1
      refine ⟨_, by simp; rfl, ?_⟩
      apply yes_i
      refine (ev_bin (ev_var rfl) rfl ev_lit rfl rfl rfl (c := .bl true) ?_ : Ev _ _ _ _) _ _ ⟨_, rfl, by simp at hjl ⊢; omega, rfl, by rw [List.replicate_succ'], rfl⟩
      show (inB (.str (St [x])) (.str (St SGN))).map D.bl = _
      rw [in_sign, decide_eq_true hxs]; rfl
    · rintro acc e ⟨rfl, rfl⟩
      exact ⟨_, rfl, _, _, rfl, all_true _, _, rfl, k _⟩
theorem whole_int {i : Int} {P : EV → Env' → Prop} {X : Exx} (k : ∀ t, P (.val (.bl true)) t) : runF F_is_whole [.val (.int i)] P X := by
  apply body_i
  walk_at "ret"
  exact ⟨_, rfl, k _⟩
theorem whole_non {P : EV → Env' → Prop} {X : Exx} (k : ∀ t, P (.val (.bl false)) t) : runF F_is_whole [.val .non] P X := by
  apply body_i
  walk_at "ret"
  exact ⟨_, rfl, k _⟩
theorem whole_bl {b : Bool} {P : EV → Env' → Prop} {X : Exx} (k : ∀ t, P (.val (.bl false)) t) : runF F_is_whole [.val (.bl b)] P X := by
  apply body_i
  walk_at "ret"
  exact ⟨_, rfl, k _⟩
theorem whole_str {x : Str} {P : EV → Env' → Prop} {X : Exx} (k : ∀ t, P (.val (.bl false)) t) : runF F_is_whole [.val (.str x)] P X := by
  apply body_i
  walk_at "ret"
  exact ⟨_, rfl, k _⟩
theorem spec_is_day {m : Nat} {ts : List (Option Int)} {P : EV → Env' → Prop} {X : Exx} (hm : ts.length = m) (hz : m ≤ 1000) (k : ∀ t, P (.val (.bl true)) t) : runF F_is_day [.val (.int (m : Int)), .val (dayD ts)] P X := by
  apply body_i
  walk_at "seq"
  walk_at "if"
  · intro h
    have h : (!(true || false) || !eqB (.int ((ts.map tmD).length : Int)) (.int (m : Int))) = true := h
    rw [eqB_int, List.length_map, hm] at h
    simp at h
  · intro _
    walk_at "n"
    apply ret_c
    apply un_c
    apply lc_i
    · walk_at "evl"
    · rfl
    refine compL_inv _ (fun j acc e => acc = List.replicate j (.bl true) ∧ e = [.val (.int (m : Int)), .val (dayD ts), .un]) ⟨rfl, rfl⟩ ?_ ?_
    · rintro j d acc e hj ⟨rfl, rfl⟩
      have hj' : (ts.map tmD)[j]? = some d := hj
      rw [List.getElem?_map] at hj'
      obtain ⟨x, hx, rfl⟩ := Option.map_eq_some_iff.mp hj'
      have hjl := (List.getElem?_eq_some_iff.mp hx).1
      refine ⟨_, by simp; rfl, ?_⟩
      apply yes_i
      have fin : (List.replicate j (D.bl true)).length < 100000 := by simp; omega
      cases x with
      | none =>
        apply or_i
        · walk_at "ev"
        · intro _
          exact ⟨_, rfl, fin, rfl, by rw [List.replicate_succ'], rfl⟩
        · intro h
          have h : true = false := h
          cases h
      | some i =>
        apply or_i
        · walk_at "ev"
        · intro h
          have h : false = true := h
          cases h
        intro _
        apply call_i
        · walk_at "eva"
        · rfl
        · simp
        refine whole_int fun t => ?_
        exact ⟨rfl, _, rfl, _, rfl, fin, rfl, by rw [List.replicate_succ'], rfl⟩
    · rintro acc e ⟨rfl, rfl⟩
      exact ⟨_, rfl, _, _, rfl, all_true _, _, rfl, k _⟩
end Lw
set_option Elab.async false
set_option linter.all false
set_option maxRecDepth 100000
set_option maxHeartbeats 4000000
namespace Lw
open PySem PySem.Spec L2 En
local macro_rules | `(tactic| walk_at "sx") => `(tactic| simp -dsimp (disch := omega) only [rngI2_K, srtKF_K, maxAF_K, dcF_K, keyK_i, keyK_s, o_abs, o_gcd, callLF_K, lamF_K, plK_b, capD_n, q_cap, capV_v, o_eql0, o_min, o_max, o_sltake, o_slten, o_sldrop, o_sltd, Int.reduceToNat, List.take_succ_cons, List.take_zero, List.drop_succ_cons, List.drop_zero, b_ft, b_tf, tupL_t, tupL_l, tupL_n, Option.getD_some, cmpF_K, mkK_K, insCP_i, idxP_n, idxP_l, tq_t, tq_c, varF_K, kvF_K, litF_K, binF_K, unF_K, unNF_K, nilL_K, consL_K, tupF_K, lstF_K, dnewK_K, dnewT_K, truF_K, blF_K, notT_K, andT_K, orT_K, andF_K, orF_K, notF_K, iteF_K, chainF_K, noO_K, someO_K, slF_K, idxF_K, appF_K, popF_K, popAF_K, extF_K, skipS_K, seqS_K, brkS_K, cntS_K, nevS_K, retS_K, dropS_K, ifS_K, asgS_K, patS_K, forS_K, seqI_K, enumI_K, rngI_K, yesT_K, nilP_K, consP_K, parS_K, tgtS_K, subG_K, nilA_K, consA_K, callF_K, mkF_K, setF_K, lcF_K, raiseS_K, aftK_K, optK_s, optK_n, optK_m, iteK_t, iteK_f, andK_t, varK_v, varK_o, varK_i, kvK_v, kvK_o, intK_v, blK_v, tblK_s, natK_v, newLK_v, lstK_o, lstK_i, obK_o, obK_i, insK_o, insK_i, o_add, o_sub, o_lt, o_le, o_gt, o_ge, o_neg, o_eqi, o_nei, o_eqs, o_nes, o_inn, o_iin, o_isn, o_itn, o_iln, o_ibn, o_icn, o_imn, o_ibb, o_iib, o_isb, o_inb, o_itb, o_imb, o_nnn, o_nin, o_nsn, o_ntn, o_nln, o_nbn, o_ncn, o_nbb, o_trb, o_trn, o_trl, o_trt, o_trm, o_tri, o_lnt, o_lnl, o_lnm, o_tul, o_tut, o_tum, o_lsl, o_lst, o_lsm, o_int, o_tnm, o_itl, o_itt, o_itm, o_ix, o_ixl, o_ix0, o_ix1, o_ix2, o_ix3, o_ix4, o_ixl0, o_ixl1, o_mul, o_mul', o_mod, o_div, settle_v, settle_o, q_settle, rd_v, q_rd, keep_v, keep_o, keep_n, av_v, av_o, av_n, fr_l, fr_k, fr_t, q_putv, q_putn, q_slo, q_bkr, q_retv, q_retn, q_reto, ob_own, ob_io, put_own, put_io, isOwn_v, isOwn_n, slotOf_v, refs_n, refs_v, refs_r, backE_n, backE_v, putEs_n, putEs_c, pput_nm, pput_tp, pput_tl, pputL_n, pputL_c, isIo_u, isIo_v, isIo_o, isIo_i, wipeE_n, wipeE_c, restE_n, q_rest, okW_n, q_okW, plain_u, plain_v, List.getElem?_cons_zero, List.getElem?_cons_succ, List.set_cons_zero, List.set_cons_succ, List.map_cons, List.map_nil, List.cons_append, List.nil_append, List.length_cons, List.length_nil, List.length_map, List.tail_cons, List.nodup_cons, List.nodup_nil, List.not_mem_nil, List.mem_cons, List.mem_singleton, List.replicate, Option.bind_some, Option.map_some, Option.bind_none, Option.map_none, cond_true, cond_false, Bool.not_true, Bool.not_false, Bool.true_and, Bool.and_true, Bool.and_self, decide_true, decide_false, not_false_eq_true, and_self, true_and, and_true, or_false, false_or, Nat.reduceAdd, Nat.reduceSub, Nat.reduceLeDiff, Nat.reduceLT, Nat.reduceEqDiff, Int.reduceLT, Int.reduceLE, Int.reduceNeg, Int.reduceEq, Nat.zero_le, Nat.le_refl, reduceCtorEq, eq_self, beq_self_eq_true, Int.toNat_natCast, Bool.or_false, Bool.or_true, Bool.false_or, Bool.true_or, Bool.and_false, Bool.false_and, fx_0_events, fx_0_days, ii_0_non, ii_0_bl, ii_0_int, ii_0_str, ii_0_tup, ii_0_lst, ii_0_nms, ii_0_c0, ii_1_non, ii_1_bl, ii_1_int, ii_1_str, ii_1_tup, ii_1_lst, ii_1_nms, ii_1_c0, ii_2_non, ii_2_bl, ii_2_int, ii_2_str, ii_2_tup, ii_2_lst, ii_2_nms, ii_2_c0, ii_3_non, ii_3_bl, ii_3_int, ii_3_str, ii_3_tup, ii_3_lst, ii_3_nms, ii_3_c0, ii_4_non, ii_4_bl, ii_4_int, ii_4_str, ii_4_tup, ii_4_lst, ii_4_nms, ii_4_c0, fr_0, in_0, if_0_events, pf_0_events, if_0_days, pf_0_days, ix_3_1, ix_3_2, ix_3_3, ix_3_4, ix_3_5, ix_3_6, ix_3_7, ix_3_8, ix_3_9, ix_3_10, ex_3_what, ex_3_number])
local macro_rules | `(tactic| walk_at "sxh") => `(tactic| simp -dsimp (disch := omega) only [rngI2_K, srtKF_K, maxAF_K, dcF_K, keyK_i, keyK_s, o_abs, o_gcd, callLF_K, lamF_K, plK_b, capD_n, q_cap, capV_v, o_eql0, o_min, o_max, o_sltake, o_slten, o_sldrop, o_sltd, Int.reduceToNat, List.take_succ_cons, List.take_zero, List.drop_succ_cons, List.drop_zero, b_ft, b_tf, tupL_t, tupL_l, tupL_n, Option.getD_some, cmpF_K, mkK_K, insCP_i, idxP_n, idxP_l, tq_t, tq_c, varF_K, kvF_K, litF_K, binF_K, unF_K, unNF_K, nilL_K, consL_K, tupF_K, lstF_K, dnewK_K, dnewT_K, truF_K, blF_K, notT_K, andT_K, orT_K, andF_K, orF_K, notF_K, iteF_K, chainF_K, noO_K, someO_K, slF_K, idxF_K, appF_K, popF_K, popAF_K, extF_K, skipS_K, seqS_K, brkS_K, cntS_K, nevS_K, retS_K, dropS_K, ifS_K, asgS_K, patS_K, forS_K, seqI_K, enumI_K, rngI_K, yesT_K, nilP_K, consP_K, parS_K, tgtS_K, subG_K, nilA_K, consA_K, callF_K, mkF_K, setF_K, lcF_K, raiseS_K, aftK_K, optK_s, optK_n, optK_m, iteK_t, iteK_f, andK_t, varK_v, varK_o, varK_i, kvK_v, kvK_o, intK_v, blK_v, tblK_s, natK_v, newLK_v, lstK_o, lstK_i, obK_o, obK_i, insK_o, insK_i, o_add, o_sub, o_lt, o_le, o_gt, o_ge, o_neg, o_eqi, o_nei, o_eqs, o_nes, o_inn, o_iin, o_isn, o_itn, o_iln, o_ibn, o_icn, o_imn, o_ibb, o_iib, o_isb, o_inb, o_itb, o_imb, o_nnn, o_nin, o_nsn, o_ntn, o_nln, o_nbn, o_ncn, o_nbb, o_trb, o_trn, o_trl, o_trt, o_trm, o_tri, o_lnt, o_lnl, o_lnm, o_tul, o_tut, o_tum, o_lsl, o_lst, o_lsm, o_int, o_tnm, o_itl, o_itt, o_itm, o_ix, o_ixl, o_ix0, o_ix1, o_ix2, o_ix3, o_ix4, o_ixl0, o_ixl1, o_mul, o_mul', o_mod, o_div, settle_v, settle_o, q_settle, rd_v, q_rd, keep_v, keep_o, keep_n, av_v, av_o, av_n, fr_l, fr_k, fr_t, q_putv, q_putn, q_slo, q_bkr, q_retv, q_retn, q_reto, ob_own, ob_io, put_own, put_io, isOwn_v, isOwn_n, slotOf_v, refs_n, refs_v, refs_r, backE_n, backE_v, putEs_n, putEs_c, pput_nm, pput_tp, pput_tl, pputL_n, pputL_c, isIo_u, isIo_v, isIo_o, isIo_i, wipeE_n, wipeE_c, restE_n, q_rest, okW_n, q_okW, plain_u, plain_v, List.getElem?_cons_zero, List.getElem?_cons_succ, List.set_cons_zero, List.set_cons_succ, List.map_cons, List.map_nil, List.cons_append, List.nil_append, List.length_cons, List.length_nil, List.length_map, List.tail_cons, List.nodup_cons, List.nodup_nil, List.not_mem_nil, List.mem_cons, List.mem_singleton, List.replicate, Option.bind_some, Option.map_some, Option.bind_none, Option.map_none, cond_true, cond_false, Bool.not_true, Bool.not_false, Bool.true_and, Bool.and_true, Bool.and_self, decide_true, decide_false, not_false_eq_true, and_self, true_and, and_true, or_false, false_or, Nat.reduceAdd, Nat.reduceSub, Nat.reduceLeDiff, Nat.reduceLT, Nat.reduceEqDiff, Int.reduceLT, Int.reduceLE, Int.reduceNeg, Int.reduceEq, Nat.zero_le, Nat.le_refl, reduceCtorEq, eq_self, beq_self_eq_true, Int.toNat_natCast, Bool.or_false, Bool.or_true, Bool.false_or, Bool.true_or, Bool.and_false, Bool.false_and, fx_0_events, fx_0_days, ii_0_non, ii_0_bl, ii_0_int, ii_0_str, ii_0_tup, ii_0_lst, ii_0_nms, ii_0_c0, ii_1_non, ii_1_bl, ii_1_int, ii_1_str, ii_1_tup, ii_1_lst, ii_1_nms, ii_1_c0, ii_2_non, ii_2_bl, ii_2_int, ii_2_str, ii_2_tup, ii_2_lst, ii_2_nms, ii_2_c0, ii_3_non, ii_3_bl, ii_3_int, ii_3_str, ii_3_tup, ii_3_lst, ii_3_nms, ii_3_c0, ii_4_non, ii_4_bl, ii_4_int, ii_4_str, ii_4_tup, ii_4_lst, ii_4_nms, ii_4_c0, fr_0, in_0, if_0_events, pf_0_events, if_0_days, pf_0_days, ix_3_1, ix_3_2, ix_3_3, ix_3_4, ix_3_5, ix_3_6, ix_3_7, ix_3_8, ix_3_9, ix_3_10, ex_3_what, ex_3_number, *])
local macro_rules | `(tactic| walk_at "io") => `(tactic| first | rfl | assumption)
/-- what DayLog takes for its events -/
structure EvsD (E : D) (evs : List D) : Prop where
  it : tupL? E = some evs
  sl : ∀ j : Nat, j < evs.length → ∃ T, slD E none (some (j : Int)) = some T ∧ (T = .tup (evs.take j) ∨ T = .lst (evs.take j))
  isi : isiD ICS [(.b .list), (.b .tuple)] E = some (.bl true)
  tru : truD E = some (!evs.isEmpty)
  len : lenD E = some (.int evs.length)
theorem sIx_none (n : Nat) : HT.sIx n 0 none = 0 := rfl
theorem sIx_some {n k : Nat} (h : k ≤ n) : HT.sIx n n (some (k : Int)) = k := by
  rw [HT.sIx_nat]; omega
theorem cut_take {ds : List D} {k : Nat} (h : k ≤ ds.length) : cutD ds none (some (k : Int)) = ds.take k := by
  unfold cutD
  rw [sIx_none, sIx_some h]; simp
theorem evs_lst {ds : List D} : EvsD (.lst ds) ds := ⟨rfl, fun j hj => ⟨_, rfl, .inr (by rw [cut_take (by omega)])⟩, rfl, rfl, rfl⟩
theorem evs_tup {ds : List D} : EvsD (.tup ds) ds := ⟨rfl, fun j hj => ⟨_, rfl, .inl (by rw [cut_take (by omega)])⟩, rfl, rfl, rfl⟩
theorem evs_nms {xs : List Str} : EvsD (.nms xs) (xs.map .str) := ⟨rfl, fun j hj => by
  rw [List.length_map] at hj
  refine ⟨.tup ((xs.map D.str).take j), ?_, .inl rfl⟩
  show (if HT.sIx xs.length 0 none = 0 ∧ HT.sIx xs.length xs.length (some (j : Int)) = xs.length then some (D.nms xs) else some (.tup (cutD (xs.map .str) none (some (j : Int))))) = _
  rw [sIx_some (by omega), if_neg (by simp; omega), cut_take (by simp; omega)], rfl, by show some (!xs.isEmpty) = _; simp, by show some (D.int (xs.length : Int)) = _; simp⟩
theorem in_seq {d T : D} {l : List D} (h : T = .tup l ∨ T = .lst l) (hd : flatD d = true) (hl : l.all flatD = true) : inD d T = some (.bl (l.any fun z => eqB z d)) := by
  rcases h with rfl | rfl
  · show (if (flatD d && l.all flatD) then some (l.any fun z => eqB z d) else none).map D.bl = _
    rw [hd, hl]; rfl
  · show (if (flatD d && l.all flatD) then some (l.any fun z => eqB z d) else none).map D.bl = _
    rw [hd, hl]; rfl
theorem nm_flat (css : List (List Nat)) : (nmD css).all flatD = true := by
  rw [List.all_eq_true]
  intro d hd
  obtain ⟨x, _, rfl⟩ := List.mem_map.mp hd
  rfl
theorem nm_any {cs : List Nat} : ∀ css : List (List Nat), ((nmD css).any fun z => eqB z (.str (St cs))) = decide (cs ∈ css)
  | [] => rfl
  | x :: css => by
    show (eqB (.str (St x)) (.str (St cs)) || (nmD css).any fun z => eqB z (.str (St cs))) = _
    rw [nm_any css, eqB_str, st_inj]
    by_cases h : cs = x <;> simp [h]
theorem not_prev {css : List (List Nat)} (hn : css.Nodup) {k : Nat} {cs : List Nat} (h : css[k]? = some cs) : cs ∉ css.take k := by
  intro hm
  obtain ⟨hkl, e⟩ := List.getElem?_eq_some_iff.mp h
  have h2 : css = css.take k ++ cs :: css.drop (k + 1) := by
    rw [← e, ← List.drop_eq_getElem_cons hkl, List.take_append_drop]
  rw [h2, List.nodup_append] at hn
  exact hn.2.2 cs hm cs List.mem_cons_self rfl
def iniB : SF := (seqS (ifS (notT (truF FL (callF F_is_name 1 (consA FL (kvF FL 4) nilA)))) nevS skipS) (ifS (blF FL (binF FL inD (varF 4) (slF FL (varF 1) noO (someO (varF 3))))) nevS skipS))
theorem loopE {E b : D} {css : List (List Nat)} {P : Pst} {X : Exx} (hE : EvsD E (nmD css)) (hn : css.Nodup) (hk : ∀ cs ∈ css, NmW cs)
    (k : ∀ a3 a4, a3.isIo = false → a4.isIo = false → P.nx [.io (.ins 0 []), .val E, .val b, a3, a4, .un]) : rF (.tp [.nm 3, .nm 4]) iniB P X (enumD (nmD css)) [.io (.ins 0 []), .val E, .val b, .un, .un, .un] := by
  refine forL_K _ (fun j e => ∃ (a3 a4 : En.Slot), e = [.io (.ins 0 []), .val E, .val b, a3, a4, .un] ∧ a3.isIo = false ∧ a4.isIo = false) ⟨_, _, rfl, rfl, rfl⟩ ?_ ?_
  · rintro j d e hj ⟨a3, a4, rfl, h3, h4⟩
    obtain ⟨z, hz, rfl⟩ := enumD_get hj
    have hjt := (List.getElem?_eq_some_iff.mp hz).1
    obtain ⟨T, hT, hT2⟩ := hE.sl j hjt
    unfold iniB
    have hjc : j < css.length := by simpa using hjt
    have hz' : z = .str (En.St css[j]) := by
      rw [List.getElem?_map, List.getElem?_eq_getElem hjc] at hz
      exact (Option.some.inj hz).symm
    subst hz'
    have htk : (nmD css).take j = nmD (css.take j) := by simp [nmD, List.map_take]
    rw [htk] at hT2
    have hin := in_seq hT2 (d := .str (En.St css[j])) rfl (nm_flat _)
    rw [nm_any, decide_eq_false (not_prev hn (List.getElem?_eq_getElem hjc))] at hin
    clear hj hz
    walk_at "sxh"
    refine spec_is_name (hk _ (List.getElem_mem hjc)) fun t => ?_
    walk_at "sxh"
    exact ⟨_, _, rfl, rfl, rfl⟩
  · rintro e ⟨a3, a4, rfl, h3, h4⟩
    exact k a3 a4 h3 h4
def iniC : SF := (ifS (notT (truF FL (callF F_is_day 2 (consA FL (unF FL lenD (varF 1)) (consA FL (kvF FL 5) nilA))))) nevS skipS)
theorem spec_init_tup {css : List (List Nat)} {dss : List (List (Option Int))} {P : EV → Env' → Prop} {X : Exx} (h0 : css ≠ []) (hz : css.length ≤ 1000) (hn : css.Nodup) (hk : ∀ cs ∈ css, NmW cs) (hd : ∀ ts ∈ dss, ts.length = css.length)
    (k : ∀ t, P (.val .non) (.io (.ins 0 [("events", .nms (css.map En.St)), ("days", .tup (dss.map dayD))]) :: t)) : runF F_DayLogu_initu [.io (.ins 0 []), .val (.nms (css.map En.St)), .val (.tup (dss.map dayD))] P X := by
  have hE : EvsD (.nms (css.map En.St)) (nmD css) := by
    have := evs_nms (xs := css.map En.St)
    rw [List.map_map] at this
    exact this
  apply body_K
  unfold B_DayLogu_initu
  have h1 := hE.isi
  have h2 := hE.tru
  have h3 := hE.it
  have hlen := hE.len
  rw [List.length_map] at hlen
  have h4 : (nmD css).isEmpty = false := by
    cases css with
    | nil => exact absurd rfl h0
    | cons a l => rfl
  rw [h4] at h2
  have h5 : tupN (.nms (css.map En.St)) = some (.nms (css.map En.St)) := rfl
  generalize hEE : D.nms (css.map En.St) = E at *
  walk_at "sxh"
  refine loopE hE hn hk fun a3 a4 g3 g4 => ?_
  walk_at "sxh"
  refine forL_K _ (fun _ e => ∃ (a5 : En.Slot), e = [.io (.ins 0 []), .val E, .val (.tup (dss.map dayD)), a3, a4, a5] ∧ a5.isIo = false) ⟨_, rfl, rfl⟩ ?_ ?_
  · rintro j d e hj ⟨a5, rfl, h5⟩
    rw [List.getElem?_map] at hj
    obtain ⟨ts, hts, rfl⟩ := Option.map_eq_some_iff.mp hj
    clear hj
    walk_at "sxh"
    refine spec_is_day (hd ts (List.mem_of_getElem? hts)) hz fun t => ?_
    walk_at "sx"
    exact ⟨_, rfl, rfl⟩
  · rintro e ⟨a5, rfl, h5⟩
    walk_at "sxh"
end Lw
set_option Elab.async false
set_option linter.all false
set_option maxRecDepth 100000
set_option maxHeartbeats 4000000
namespace Lw
open PySem PySem.Spec L2 En
local macro_rules | `(tactic| walk_at "sx") => `(tactic| simp -dsimp (disch := omega) only [rngI2_K, srtKF_K, maxAF_K, dcF_K, keyK_i, keyK_s, o_abs, o_gcd, callLF_K, lamF_K, plK_b, capD_n, q_cap, capV_v, o_eql0, o_min, o_max, o_sltake, o_slten, o_sldrop, o_sltd, Int.reduceToNat, List.take_succ_cons, List.take_zero, List.drop_succ_cons, List.drop_zero, b_ft, b_tf, tupL_t, tupL_l, tupL_n, Option.getD_some, cmpF_K, mkK_K, insCP_i, idxP_n, idxP_l, tq_t, tq_c, varF_K, kvF_K, litF_K, binF_K, unF_K, unNF_K, nilL_K, consL_K, tupF_K, lstF_K, dnewK_K, dnewT_K, truF_K, blF_K, notT_K, andT_K, orT_K, andF_K, orF_K, notF_K, iteF_K, chainF_K, noO_K, someO_K, slF_K, idxF_K, appF_K, popF_K, popAF_K, extF_K, skipS_K, seqS_K, brkS_K, cntS_K, nevS_K, retS_K, dropS_K, ifS_K, asgS_K, patS_K, forS_K, seqI_K, enumI_K, rngI_K, yesT_K, nilP_K, consP_K, parS_K, tgtS_K, subG_K, nilA_K, consA_K, callF_K, mkF_K, setF_K, lcF_K, raiseS_K, aftK_K, optK_s, optK_n, optK_m, iteK_t, iteK_f, andK_t, varK_v, varK_o, varK_i, kvK_v, kvK_o, intK_v, blK_v, tblK_s, natK_v, newLK_v, lstK_o, lstK_i, obK_o, obK_i, insK_o, insK_i, o_add, o_sub, o_lt, o_le, o_gt, o_ge, o_neg, o_eqi, o_nei, o_eqs, o_nes, o_inn, o_iin, o_isn, o_itn, o_iln, o_ibn, o_icn, o_imn, o_ibb, o_iib, o_isb, o_inb, o_itb, o_imb, o_nnn, o_nin, o_nsn, o_ntn, o_nln, o_nbn, o_ncn, o_nbb, o_trb, o_trn, o_trl, o_trt, o_trm, o_tri, o_lnt, o_lnl, o_lnm, o_tul, o_tut, o_tum, o_lsl, o_lst, o_lsm, o_int, o_tnm, o_itl, o_itt, o_itm, o_ix, o_ixl, o_ix0, o_ix1, o_ix2, o_ix3, o_ix4, o_ixl0, o_ixl1, o_mul, o_mul', o_mod, o_div, settle_v, settle_o, q_settle, rd_v, q_rd, keep_v, keep_o, keep_n, av_v, av_o, av_n, fr_l, fr_k, fr_t, q_putv, q_putn, q_slo, q_bkr, q_retv, q_retn, q_reto, ob_own, ob_io, put_own, put_io, isOwn_v, isOwn_n, slotOf_v, refs_n, refs_v, refs_r, backE_n, backE_v, putEs_n, putEs_c, pput_nm, pput_tp, pput_tl, pputL_n, pputL_c, isIo_u, isIo_v, isIo_o, isIo_i, wipeE_n, wipeE_c, restE_n, q_rest, okW_n, q_okW, plain_u, plain_v, List.getElem?_cons_zero, List.getElem?_cons_succ, List.set_cons_zero, List.set_cons_succ, List.map_cons, List.map_nil, List.cons_append, List.nil_append, List.length_cons, List.length_nil, List.length_map, List.tail_cons, List.nodup_cons, List.nodup_nil, List.not_mem_nil, List.mem_cons, List.mem_singleton, List.replicate, Option.bind_some, Option.map_some, Option.bind_none, Option.map_none, cond_true, cond_false, Bool.not_true, Bool.not_false, Bool.true_and, Bool.and_true, Bool.and_self, decide_true, decide_false, not_false_eq_true, and_self, true_and, and_true, or_false, false_or, Nat.reduceAdd, Nat.reduceSub, Nat.reduceLeDiff, Nat.reduceLT, Nat.reduceEqDiff, Int.reduceLT, Int.reduceLE, Int.reduceNeg, Int.reduceEq, Nat.zero_le, Nat.le_refl, reduceCtorEq, eq_self, beq_self_eq_true, Int.toNat_natCast, Bool.or_false, Bool.or_true, Bool.false_or, Bool.true_or, Bool.and_false, Bool.false_and, fx_0_events, fx_0_days, ii_0_non, ii_0_bl, ii_0_int, ii_0_str, ii_0_tup, ii_0_lst, ii_0_nms, ii_0_c0, ii_1_non, ii_1_bl, ii_1_int, ii_1_str, ii_1_tup, ii_1_lst, ii_1_nms, ii_1_c0, ii_2_non, ii_2_bl, ii_2_int, ii_2_str, ii_2_tup, ii_2_lst, ii_2_nms, ii_2_c0, ii_3_non, ii_3_bl, ii_3_int, ii_3_str, ii_3_tup, ii_3_lst, ii_3_nms, ii_3_c0, ii_4_non, ii_4_bl, ii_4_int, ii_4_str, ii_4_tup, ii_4_lst, ii_4_nms, ii_4_c0, fr_0, in_0, if_0_events, pf_0_events, if_0_days, pf_0_days, ix_3_1, ix_3_2, ix_3_3, ix_3_4, ix_3_5, ix_3_6, ix_3_7, ix_3_8, ix_3_9, ix_3_10, ex_3_what, ex_3_number])
local macro_rules | `(tactic| walk_at "sxh") => `(tactic| simp -dsimp (disch := omega) only [rngI2_K, srtKF_K, maxAF_K, dcF_K, keyK_i, keyK_s, o_abs, o_gcd, callLF_K, lamF_K, plK_b, capD_n, q_cap, capV_v, o_eql0, o_min, o_max, o_sltake, o_slten, o_sldrop, o_sltd, Int.reduceToNat, List.take_succ_cons, List.take_zero, List.drop_succ_cons, List.drop_zero, b_ft, b_tf, tupL_t, tupL_l, tupL_n, Option.getD_some, cmpF_K, mkK_K, insCP_i, idxP_n, idxP_l, tq_t, tq_c, varF_K, kvF_K, litF_K, binF_K, unF_K, unNF_K, nilL_K, consL_K, tupF_K, lstF_K, dnewK_K, dnewT_K, truF_K, blF_K, notT_K, andT_K, orT_K, andF_K, orF_K, notF_K, iteF_K, chainF_K, noO_K, someO_K, slF_K, idxF_K, appF_K, popF_K, popAF_K, extF_K, skipS_K, seqS_K, brkS_K, cntS_K, nevS_K, retS_K, dropS_K, ifS_K, asgS_K, patS_K, forS_K, seqI_K, enumI_K, rngI_K, yesT_K, nilP_K, consP_K, parS_K, tgtS_K, subG_K, nilA_K, consA_K, callF_K, mkF_K, setF_K, lcF_K, raiseS_K, aftK_K, optK_s, optK_n, optK_m, iteK_t, iteK_f, andK_t, varK_v, varK_o, varK_i, kvK_v, kvK_o, intK_v, blK_v, tblK_s, natK_v, newLK_v, lstK_o, lstK_i, obK_o, obK_i, insK_o, insK_i, o_add, o_sub, o_lt, o_le, o_gt, o_ge, o_neg, o_eqi, o_nei, o_eqs, o_nes, o_inn, o_iin, o_isn, o_itn, o_iln, o_ibn, o_icn, o_imn, o_ibb, o_iib, o_isb, o_inb, o_itb, o_imb, o_nnn, o_nin, o_nsn, o_ntn, o_nln, o_nbn, o_ncn, o_nbb, o_trb, o_trn, o_trl, o_trt, o_trm, o_tri, o_lnt, o_lnl, o_lnm, o_tul, o_tut, o_tum, o_lsl, o_lst, o_lsm, o_int, o_tnm, o_itl, o_itt, o_itm, o_ix, o_ixl, o_ix0, o_ix1, o_ix2, o_ix3, o_ix4, o_ixl0, o_ixl1, o_mul, o_mul', o_mod, o_div, settle_v, settle_o, q_settle, rd_v, q_rd, keep_v, keep_o, keep_n, av_v, av_o, av_n, fr_l, fr_k, fr_t, q_putv, q_putn, q_slo, q_bkr, q_retv, q_retn, q_reto, ob_own, ob_io, put_own, put_io, isOwn_v, isOwn_n, slotOf_v, refs_n, refs_v, refs_r, backE_n, backE_v, putEs_n, putEs_c, pput_nm, pput_tp, pput_tl, pputL_n, pputL_c, isIo_u, isIo_v, isIo_o, isIo_i, wipeE_n, wipeE_c, restE_n, q_rest, okW_n, q_okW, plain_u, plain_v, List.getElem?_cons_zero, List.getElem?_cons_succ, List.set_cons_zero, List.set_cons_succ, List.map_cons, List.map_nil, List.cons_append, List.nil_append, List.length_cons, List.length_nil, List.length_map, List.tail_cons, List.nodup_cons, List.nodup_nil, List.not_mem_nil, List.mem_cons, List.mem_singleton, List.replicate, Option.bind_some, Option.map_some, Option.bind_none, Option.map_none, cond_true, cond_false, Bool.not_true, Bool.not_false, Bool.true_and, Bool.and_true, Bool.and_self, decide_true, decide_false, not_false_eq_true, and_self, true_and, and_true, or_false, false_or, Nat.reduceAdd, Nat.reduceSub, Nat.reduceLeDiff, Nat.reduceLT, Nat.reduceEqDiff, Int.reduceLT, Int.reduceLE, Int.reduceNeg, Int.reduceEq, Nat.zero_le, Nat.le_refl, reduceCtorEq, eq_self, beq_self_eq_true, Int.toNat_natCast, Bool.or_false, Bool.or_true, Bool.false_or, Bool.true_or, Bool.and_false, Bool.false_and, fx_0_events, fx_0_days, ii_0_non, ii_0_bl, ii_0_int, ii_0_str, ii_0_tup, ii_0_lst, ii_0_nms, ii_0_c0, ii_1_non, ii_1_bl, ii_1_int, ii_1_str, ii_1_tup, ii_1_lst, ii_1_nms, ii_1_c0, ii_2_non, ii_2_bl, ii_2_int, ii_2_str, ii_2_tup, ii_2_lst, ii_2_nms, ii_2_c0, ii_3_non, ii_3_bl, ii_3_int, ii_3_str, ii_3_tup, ii_3_lst, ii_3_nms, ii_3_c0, ii_4_non, ii_4_bl, ii_4_int, ii_4_str, ii_4_tup, ii_4_lst, ii_4_nms, ii_4_c0, fr_0, in_0, if_0_events, pf_0_events, if_0_days, pf_0_days, ix_3_1, ix_3_2, ix_3_3, ix_3_4, ix_3_5, ix_3_6, ix_3_7, ix_3_8, ix_3_9, ix_3_10, ex_3_what, ex_3_number, *])
local macro_rules | `(tactic| walk_at "io") => `(tactic| first | rfl | assumption)
/-- what _law_is goes down, so deep -/
def okI : Nat → D → Prop
  | 0, _ => False
  | _ + 1, .non => True
  | _ + 1, .bl _ => True
  | _ + 1, .int _ => True
  | _ + 1, .str _ => True
  | n + 1, .tup ds => ds.length ≤ 1000 ∧ ∀ x ∈ ds, okI n x
  | n + 1, .nms xs => xs.length ≤ 1000 ∧ 0 < n
  | _, _ => False
theorem spec_is : ∀ (n : Nat) (d : D) {P : EV → Env' → Prop} {X : Exx}, okI n d → (∀ t, P (.val (.bl true)) t) → runF (F__law_is n) [.val d, .val d] P X
  | 0, d, P, X, h, k => by cases d <;> exact h.elim
  | n + 1, d, P, X, h, k => by
    show runF (bodyF 3 2 (B__law_is (F__law_is n))) _ _ _
    apply body_K
    unfold B__law_is
    cases d with
    | non => walk_at "sx"; exact k _
    | bl b => cases b <;> (walk_at "sx"; exact k _)
    | int i => walk_at "sx"; exact k _
    | str s => walk_at "sx"; exact k _
    | tup ds =>
      obtain ⟨h1, h2⟩ := h
      walk_at "sx"
      refine andK_i (by omega) ?_
      walk_at "sx"
      refine compL_K _ (fun _ acc e => acc = [] ∧ e = [.val (.tup ds), .val (.tup ds), .un]) ⟨rfl, rfl⟩ ?_ ?_
      · rintro j x acc e hx ⟨rfl, rfl⟩
        obtain ⟨hj, rfl⟩ := intsD_get hx
        rw [Int.zero_add]
        have hix := List.getElem?_eq_getElem hj
        walk_at "sxh"
        refine spec_is n _ (h2 _ (List.getElem_mem hj)) fun t => ?_
        walk_at "sx"
      · rintro acc e ⟨rfl, rfl⟩
        walk_at "sx"
        exact k _
    | nms xs =>
      obtain ⟨h1, h2⟩ := h
      walk_at "sx"
      refine andK_i (by omega) ?_
      walk_at "sx"
      refine compL_K _ (fun _ acc e => acc = [] ∧ e = [.val (.nms xs), .val (.nms xs), .un]) ⟨rfl, rfl⟩ ?_ ?_
      · rintro j x acc e hx ⟨rfl, rfl⟩
        obtain ⟨hj, rfl⟩ := intsD_get hx
        rw [Int.zero_add]
        have hix : ixD (.nms xs) (.int (j : Int)) = some (.str xs[j]) := by
          have := o_ix (ds := xs.map D.str) (j := j)
          rw [List.getElem?_map, List.getElem?_eq_getElem hj] at this
          show (atI xs (j : Int)).map D.str = _
          unfold atI ixN
          simp [hj]
        walk_at "sxh"
        obtain ⟨m, rfl⟩ : ∃ m, n = m + 1 := ⟨n - 1, by omega⟩
        refine spec_is (m + 1) (.str xs[j]) trivial fun t => ?_
        walk_at "sx"
      · rintro acc e ⟨rfl, rfl⟩
        walk_at "sx"
        exact k _
    | lst ds => exact h.elim
    | dK ks ds => exact h.elim
    | dT ks ds => exact h.elim
    | ins c ds => exact h.elim
    | fn c ds => exact h.elim
    | exc c ds => exact h.elim
end Lw
set_option Elab.async false
set_option linter.all false
set_option maxRecDepth 100000
set_option maxHeartbeats 4000000
namespace Lw
open PySem PySem.Spec L2 En
local macro_rules | `(tactic| walk_at "sx") => `(tactic| simp -dsimp (disch := omega) only [rngI2_K, srtKF_K, maxAF_K, dcF_K, keyK_i, keyK_s, o_abs, o_gcd, callLF_K, lamF_K, plK_b, capD_n, q_cap, capV_v, o_eql0, o_min, o_max, o_sltake, o_slten, o_sldrop, o_sltd, Int.reduceToNat, List.take_succ_cons, List.take_zero, List.drop_succ_cons, List.drop_zero, b_ft, b_tf, tupL_t, tupL_l, tupL_n, Option.getD_some, cmpF_K, mkK_K, insCP_i, idxP_n, idxP_l, tq_t, tq_c, varF_K, kvF_K, litF_K, binF_K, unF_K, unNF_K, nilL_K, consL_K, tupF_K, lstF_K, dnewK_K, dnewT_K, truF_K, blF_K, notT_K, andT_K, orT_K, andF_K, orF_K, notF_K, iteF_K, chainF_K, noO_K, someO_K, slF_K, idxF_K, appF_K, popF_K, popAF_K, extF_K, skipS_K, seqS_K, brkS_K, cntS_K, nevS_K, retS_K, dropS_K, ifS_K, asgS_K, patS_K, forS_K, seqI_K, enumI_K, rngI_K, yesT_K, nilP_K, consP_K, parS_K, tgtS_K, subG_K, nilA_K, consA_K, callF_K, mkF_K, setF_K, lcF_K, raiseS_K, aftK_K, optK_s, optK_n, optK_m, iteK_t, iteK_f, andK_t, varK_v, varK_o, varK_i, kvK_v, kvK_o, intK_v, blK_v, tblK_s, natK_v, newLK_v, lstK_o, lstK_i, obK_o, obK_i, insK_o, insK_i, o_add, o_sub, o_lt, o_le, o_gt, o_ge, o_neg, o_eqi, o_nei, o_eqs, o_nes, o_inn, o_iin, o_isn, o_itn, o_iln, o_ibn, o_icn, o_imn, o_ibb, o_iib, o_isb, o_inb, o_itb, o_imb, o_nnn, o_nin, o_nsn, o_ntn, o_nln, o_nbn, o_ncn, o_nbb, o_trb, o_trn, o_trl, o_trt, o_trm, o_tri, o_lnt, o_lnl, o_lnm, o_tul, o_tut, o_tum, o_lsl, o_lst, o_lsm, o_int, o_tnm, o_itl, o_itt, o_itm, o_ix, o_ixl, o_ix0, o_ix1, o_ix2, o_ix3, o_ix4, o_ixl0, o_ixl1, o_mul, o_mul', o_mod, o_div, settle_v, settle_o, q_settle, rd_v, q_rd, keep_v, keep_o, keep_n, av_v, av_o, av_n, fr_l, fr_k, fr_t, q_putv, q_putn, q_slo, q_bkr, q_retv, q_retn, q_reto, ob_own, ob_io, put_own, put_io, isOwn_v, isOwn_n, slotOf_v, refs_n, refs_v, refs_r, backE_n, backE_v, putEs_n, putEs_c, pput_nm, pput_tp, pput_tl, pputL_n, pputL_c, isIo_u, isIo_v, isIo_o, isIo_i, wipeE_n, wipeE_c, restE_n, q_rest, okW_n, q_okW, plain_u, plain_v, List.getElem?_cons_zero, List.getElem?_cons_succ, List.set_cons_zero, List.set_cons_succ, List.map_cons, List.map_nil, List.cons_append, List.nil_append, List.length_cons, List.length_nil, List.length_map, List.tail_cons, List.nodup_cons, List.nodup_nil, List.not_mem_nil, List.mem_cons, List.mem_singleton, List.replicate, Option.bind_some, Option.map_some, Option.bind_none, Option.map_none, cond_true, cond_false, Bool.not_true, Bool.not_false, Bool.true_and, Bool.and_true, Bool.and_self, decide_true, decide_false, not_false_eq_true, and_self, true_and, and_true, or_false, false_or, Nat.reduceAdd, Nat.reduceSub, Nat.reduceLeDiff, Nat.reduceLT, Nat.reduceEqDiff, Int.reduceLT, Int.reduceLE, Int.reduceNeg, Int.reduceEq, Nat.zero_le, Nat.le_refl, reduceCtorEq, eq_self, beq_self_eq_true, Int.toNat_natCast, Bool.or_false, Bool.or_true, Bool.false_or, Bool.true_or, Bool.and_false, Bool.false_and, fx_0_events, fx_0_days, ii_0_non, ii_0_bl, ii_0_int, ii_0_str, ii_0_tup, ii_0_lst, ii_0_nms, ii_0_c0, ii_1_non, ii_1_bl, ii_1_int, ii_1_str, ii_1_tup, ii_1_lst, ii_1_nms, ii_1_c0, ii_2_non, ii_2_bl, ii_2_int, ii_2_str, ii_2_tup, ii_2_lst, ii_2_nms, ii_2_c0, ii_3_non, ii_3_bl, ii_3_int, ii_3_str, ii_3_tup, ii_3_lst, ii_3_nms, ii_3_c0, ii_4_non, ii_4_bl, ii_4_int, ii_4_str, ii_4_tup, ii_4_lst, ii_4_nms, ii_4_c0, fr_0, in_0, if_0_events, pf_0_events, if_0_days, pf_0_days, ix_3_1, ix_3_2, ix_3_3, ix_3_4, ix_3_5, ix_3_6, ix_3_7, ix_3_8, ix_3_9, ix_3_10, ex_3_what, ex_3_number, Int.cast_ofNat_Int, Int.natCast_one, Int.natCast_zero])
local macro_rules | `(tactic| walk_at "sxh") => `(tactic| simp -dsimp (disch := omega) only [rngI2_K, srtKF_K, maxAF_K, dcF_K, keyK_i, keyK_s, o_abs, o_gcd, callLF_K, lamF_K, plK_b, capD_n, q_cap, capV_v, o_eql0, o_min, o_max, o_sltake, o_slten, o_sldrop, o_sltd, Int.reduceToNat, List.take_succ_cons, List.take_zero, List.drop_succ_cons, List.drop_zero, b_ft, b_tf, tupL_t, tupL_l, tupL_n, Option.getD_some, cmpF_K, mkK_K, insCP_i, idxP_n, idxP_l, tq_t, tq_c, varF_K, kvF_K, litF_K, binF_K, unF_K, unNF_K, nilL_K, consL_K, tupF_K, lstF_K, dnewK_K, dnewT_K, truF_K, blF_K, notT_K, andT_K, orT_K, andF_K, orF_K, notF_K, iteF_K, chainF_K, noO_K, someO_K, slF_K, idxF_K, appF_K, popF_K, popAF_K, extF_K, skipS_K, seqS_K, brkS_K, cntS_K, nevS_K, retS_K, dropS_K, ifS_K, asgS_K, patS_K, forS_K, seqI_K, enumI_K, rngI_K, yesT_K, nilP_K, consP_K, parS_K, tgtS_K, subG_K, nilA_K, consA_K, callF_K, mkF_K, setF_K, lcF_K, raiseS_K, aftK_K, optK_s, optK_n, optK_m, iteK_t, iteK_f, andK_t, varK_v, varK_o, varK_i, kvK_v, kvK_o, intK_v, blK_v, tblK_s, natK_v, newLK_v, lstK_o, lstK_i, obK_o, obK_i, insK_o, insK_i, o_add, o_sub, o_lt, o_le, o_gt, o_ge, o_neg, o_eqi, o_nei, o_eqs, o_nes, o_inn, o_iin, o_isn, o_itn, o_iln, o_ibn, o_icn, o_imn, o_ibb, o_iib, o_isb, o_inb, o_itb, o_imb, o_nnn, o_nin, o_nsn, o_ntn, o_nln, o_nbn, o_ncn, o_nbb, o_trb, o_trn, o_trl, o_trt, o_trm, o_tri, o_lnt, o_lnl, o_lnm, o_tul, o_tut, o_tum, o_lsl, o_lst, o_lsm, o_int, o_tnm, o_itl, o_itt, o_itm, o_ix, o_ixl, o_ix0, o_ix1, o_ix2, o_ix3, o_ix4, o_ixl0, o_ixl1, o_mul, o_mul', o_mod, o_div, settle_v, settle_o, q_settle, rd_v, q_rd, keep_v, keep_o, keep_n, av_v, av_o, av_n, fr_l, fr_k, fr_t, q_putv, q_putn, q_slo, q_bkr, q_retv, q_retn, q_reto, ob_own, ob_io, put_own, put_io, isOwn_v, isOwn_n, slotOf_v, refs_n, refs_v, refs_r, backE_n, backE_v, putEs_n, putEs_c, pput_nm, pput_tp, pput_tl, pputL_n, pputL_c, isIo_u, isIo_v, isIo_o, isIo_i, wipeE_n, wipeE_c, restE_n, q_rest, okW_n, q_okW, plain_u, plain_v, List.getElem?_cons_zero, List.getElem?_cons_succ, List.set_cons_zero, List.set_cons_succ, List.map_cons, List.map_nil, List.cons_append, List.nil_append, List.length_cons, List.length_nil, List.length_map, List.tail_cons, List.nodup_cons, List.nodup_nil, List.not_mem_nil, List.mem_cons, List.mem_singleton, List.replicate, Option.bind_some, Option.map_some, Option.bind_none, Option.map_none, cond_true, cond_false, Bool.not_true, Bool.not_false, Bool.true_and, Bool.and_true, Bool.and_self, decide_true, decide_false, not_false_eq_true, and_self, true_and, and_true, or_false, false_or, Nat.reduceAdd, Nat.reduceSub, Nat.reduceLeDiff, Nat.reduceLT, Nat.reduceEqDiff, Int.reduceLT, Int.reduceLE, Int.reduceNeg, Int.reduceEq, Nat.zero_le, Nat.le_refl, reduceCtorEq, eq_self, beq_self_eq_true, Int.toNat_natCast, Bool.or_false, Bool.or_true, Bool.false_or, Bool.true_or, Bool.and_false, Bool.false_and, fx_0_events, fx_0_days, ii_0_non, ii_0_bl, ii_0_int, ii_0_str, ii_0_tup, ii_0_lst, ii_0_nms, ii_0_c0, ii_1_non, ii_1_bl, ii_1_int, ii_1_str, ii_1_tup, ii_1_lst, ii_1_nms, ii_1_c0, ii_2_non, ii_2_bl, ii_2_int, ii_2_str, ii_2_tup, ii_2_lst, ii_2_nms, ii_2_c0, ii_3_non, ii_3_bl, ii_3_int, ii_3_str, ii_3_tup, ii_3_lst, ii_3_nms, ii_3_c0, ii_4_non, ii_4_bl, ii_4_int, ii_4_str, ii_4_tup, ii_4_lst, ii_4_nms, ii_4_c0, fr_0, in_0, if_0_events, pf_0_events, if_0_days, pf_0_days, ix_3_1, ix_3_2, ix_3_3, ix_3_4, ix_3_5, ix_3_6, ix_3_7, ix_3_8, ix_3_9, ix_3_10, ex_3_what, ex_3_number, Int.cast_ofNat_Int, Int.natCast_one, Int.natCast_zero, *])
local macro_rules | `(tactic| walk_at "io") => `(tactic| first | rfl | assumption)
abbrev logV (css : List (List Nat)) (dss : List (List (Option Int))) : D := .ins 0 [.nms (css.map En.St), .tup (dss.map dayD)]
abbrev logT (css : List (List Nat)) (dss : List (List (Option Int))) : D := .tup [.nms (css.map En.St), .tup (dss.map dayD)]
/-- the times of one event -/
def at? (ts : List (Option Int)) (a : Nat) : Option Int := (ts[a]?).join
def col (dss : List (List (Option Int))) (a : Nat) : List Int := dss.filterMap fun ts => at? ts a
theorem isnn_tm (o : Option Int) : isNotD (tmD o) .non = some (.bl o.isSome) := by cases o <;> rfl
theorem day_ix {ts : List (Option Int)} {j : Nat} (h : j < ts.length) : ixD (dayD ts) (.int (j : Int)) = some (tmD (at? ts j)) := by
  rw [o_ix, List.getElem?_map, at?, List.getElem?_eq_getElem h]; rfl
theorem col_eq (a : Nat) : ∀ dss : List (List (Option Int)), (dss.filter fun ts => (at? ts a).isSome).map (fun ts => tmD (at? ts a)) = (col dss a).map .int
  | [] => rfl
  | ts :: dss => by
    have ih := col_eq a dss
    unfold col at ih ⊢
    rw [List.filterMap_cons]
    cases h : at? ts a with
    | none => rw [List.filter_cons_of_neg (by simp [h])]; exact ih
    | some t => rw [List.filter_cons_of_pos (by simp [h]), List.map_cons, h, ih]; rfl
theorem col_len {dss : List (List (Option Int))} {a : Nat} : (col dss a).length ≤ dss.length := List.length_filterMap_le _ _
theorem spec_times_seen {css : List (List Nat)} {dss : List (List (Option Int))} {a : Nat} {P : EV → Env' → Prop} {X : Exx} (hd : ∀ ts ∈ dss, ts.length = css.length) (hz : dss.length ≤ 10) (ha : a < css.length) (k : ∀ t, P (.new (.lst ((col dss a).map .int))) t) :
    runF F_times_seen [.val (logV css dss), .val (.int (a : Int))] P X := by
  apply body_K
  unfold B_times_seen
  walk_at "sx"
  refine compF_K dayD (fun ts => tmD (at? ts a)) (fun ts => (at? ts a).isSome) dss (by omega) ?_ ?_
  · intro ts hts acc Q hl h1 h2
    have hx := day_ix (ts := ts) (j := a) (by rw [hd ts hts]; exact ha)
    have hn := isnn_tm (at? ts a)
    clear k
    walk_at "sxh"
    refine iteK_i (fun hb => ?_) fun hb => ?_
    · walk_at "sxh"
    · walk_at "sxh"
  · rw [col_eq]
    walk_at "sx"
    exact k _
theorem spec_law_times {css : List (List Nat)} {dss : List (List (Option Int))} {a : Nat} {P : EV → Env' → Prop} {X : Exx} (hd : ∀ ts ∈ dss, ts.length = css.length) (hz : dss.length ≤ 10) (ha : a < css.length) (k : ∀ t, P (.new (.lst ((col dss a).map .int))) t) :
    runF F__law_times [.val (logT css dss), .val (.int (a : Int))] P X := by
  apply body_K
  unfold B__law_times
  walk_at "sx"
  refine compF_K dayD (fun ts => tmD (at? ts a)) (fun ts => (at? ts a).isSome) dss (by omega) ?_ ?_
  · intro ts hts acc Q hl h1 h2
    have hx := day_ix (ts := ts) (j := a) (by rw [hd ts hts]; exact ha)
    have hn := isnn_tm (at? ts a)
    clear k
    walk_at "sxh"
    refine iteK_i (fun hb => ?_) fun hb => ?_
    · walk_at "sxh"
    · walk_at "sxh"
  · rw [col_eq]
    walk_at "sx"
    exact k _
end Lw
set_option Elab.async false
set_option linter.all false
set_option maxRecDepth 100000
set_option maxHeartbeats 4000000
namespace Lw
/-! ### minutes that fit: the arithmetic -/
/-- a minute fits: no time is later than it by more than l -/
def fit (p l : Int) (T : List Int) (m : Int) : Bool := T.all fun t => decide ((t - m) % p ≤ l)
theorem fit_iff {p l m : Int} {T : List Int} : fit p l T m = true ↔ ∀ t ∈ T, (t - m) % p ≤ l := by
  unfold fit
  rw [List.all_eq_true]
  exact ⟨fun h t ht => of_decide_eq_true (h t ht), fun h t ht => decide_eq_true (h t ht)⟩
/-- of a list that is not empty the least value of a function is taken -/
theorem least_of (f : Int → Int) : ∀ T : List Int, T ≠ [] → ∃ t ∈ T, ∀ u ∈ T, f t ≤ f u
  | [t], _ => ⟨t, List.mem_cons_self, fun u hu => by rw [List.mem_singleton.mp hu]; exact Int.le_refl _⟩
  | t :: s :: T, _ => by
    obtain ⟨v, hv, h⟩ := least_of f (s :: T) (by simp)
    by_cases hc : f t ≤ f v
    · refine ⟨t, List.mem_cons_self, fun u hu => ?_⟩
      rcases List.mem_cons.mp hu with rfl | hu
      · exact Int.le_refl _
      · exact Int.le_trans hc (h u hu)
    · refine ⟨v, List.mem_cons_of_mem _ hv, fun u hu => ?_⟩
      rcases List.mem_cons.mp hu with rfl | hu
      · omega
      · exact h u hu
theorem mod_shift {p a d : Int} (hp : 0 < p) (h0 : 0 ≤ d) (h1 : d ≤ a % p) : (a - d) % p = a % p - d := by
  have e : a - d = (a % p - d) + p * (a / p) := by
    have := Int.emod_add_ediv_mul a p
    have := Int.mul_comm p (a / p)
    omega
  have hlt := Int.emod_lt_of_pos a hp
  rw [e, Int.add_mul_emod_self_left, Int.emod_eq_of_lt (by omega) (by omega)]
/-- from a minute that fits to a time's own rest that fits -/
theorem fit_rest {p l m : Int} {T : List Int} (hp : 0 < p) (hT : T ≠ []) (h : fit p l T m = true) : ∃ t ∈ T, ∃ d, d = (t - m) % p ∧ (∀ u ∈ T, d ≤ (u - m) % p) ∧ fit p l T (m + d) = true ∧ ∀ u ∈ T, (u - (m + d)) % p = (u - m) % p - d := by
  obtain ⟨t, ht, hmin⟩ := least_of (fun u => (u - m) % p) T hT
  have sh : ∀ u ∈ T, (u - (m + (t - m) % p)) % p = (u - m) % p - (t - m) % p := fun u hu => by
    have := mod_shift (a := u - m) hp (Int.emod_nonneg (t - m) (by omega)) (hmin u hu)
    rw [← this]
    congr 1; omega
  refine ⟨t, ht, _, rfl, hmin, ?_, sh⟩
  rw [fit_iff] at h ⊢
  intro u hu
  rw [sh u hu]
  have := h u hu
  have := Int.emod_nonneg (t - m) (show p ≠ 0 by omega)
  omega
theorem fit_mod {p l m : Int} {T : List Int} (hp : 0 < p) : fit p l T (m % p) = fit p l T m := by
  unfold fit
  congr 1
  funext t
  have : (t - m % p) % p = (t - m) % p := by
    rw [Int.sub_emod, Int.emod_emod_of_dvd m (Int.dvd_refl p), ← Int.sub_emod]
  rw [this]
theorem rest_eq {p t m : Int} (hp : 0 < p) : (m + (t - m) % p) % p = t % p := by
  rw [Int.add_emod, Int.emod_emod_of_dvd (t - m) (Int.dvd_refl p), ← Int.add_emod]
  congr 1; omega
/-- some minute fits just if some time's own rest does -/
theorem fit_some {p l m : Int} {T : List Int} (hp : 0 < p) (hT : T ≠ []) (h : fit p l T m = true) : ∃ t ∈ T, fit p l T (t % p) = true := by
  obtain ⟨t, ht, d, hd, _, hf, _⟩ := fit_rest hp hT h
  refine ⟨t, ht, ?_⟩
  rw [← rest_eq (m := m) hp, ← hd, fit_mod hp]
  exact hf
/-- the least minute: from the least fitting rest, by what is spared -/
theorem fit_least {p l first mx : Int} {T : List Int} (hp : 0 < p) (hT : T ≠ []) (hf0 : 0 ≤ first) (hfp : first < p) (hff : fit p l T first = true) (hfm : ∀ t ∈ T, fit p l T (t % p) = true → first ≤ t % p) (hmx : mx ∈ T.map fun t => (t - first) % p) (hmx2 : ∀ t ∈ T, (t - first) % p ≤ mx) (hlp : l < p - 1)
    (hr : ∃ t ∈ T, t % p = first) :
    let m := if first - (l - mx) ≤ 0 then 0 else first - (l - mx)
    0 ≤ m ∧ m < p ∧ fit p l T m = true ∧ ∀ n, 0 ≤ n → n < m → fit p l T n = false := by
  obtain ⟨u, hu, humx⟩ := List.mem_map.mp hmx
  have hmx0 : 0 ≤ mx := by rw [← humx]; exact Int.emod_nonneg _ (by omega)
  have hml : mx ≤ l := by rw [← humx]; exact (fit_iff.mp hff) u hu
  -- minutes a little before the rest fit
  have back : ∀ s, 0 ≤ s → s ≤ l - mx → fit p l T (first - s) = true := fun s h0 h1 => by
    rw [fit_iff]
    intro t ht
    have h2 := hmx2 t ht
    have h3 := Int.emod_nonneg (t - first) (show p ≠ 0 by omega)
    have e : (t - (first - s)) % p = (t - first) % p + s := by
      have e1 : t - (first - s) = ((t - first) % p + s) + p * ((t - first) / p) := by
        have := Int.emod_add_ediv_mul (t - first) p
        have := Int.mul_comm p ((t - first) / p)
        omega
      rw [e1, Int.add_mul_emod_self_left, Int.emod_eq_of_lt (by omega) (by omega)]
    omega
  -- none before
  have none_before : ∀ n, 0 ≤ n → n < first - (l - mx) → n < first → fit p l T n = false := fun n h0 h1 h2 => by
    cases hfit : fit p l T n with
    | false => rfl
    | true =>
      exfalso
      obtain ⟨t, ht, d, hd, hmin, hfd, hsh⟩ := fit_rest hp hT hfit
      obtain ⟨v, hv, hvf⟩ := hr
      -- the rest of v is first
      have hvn : (v - n) % p = first - n := by
        rw [Int.sub_emod, hvf, Int.emod_eq_of_lt h0 (by omega), Int.emod_eq_of_lt (by omega) (by omega)]
      have hdv := hmin v hv
      rw [hvn] at hdv
      have hd0 : 0 ≤ d := by rw [hd]; exact Int.emod_nonneg _ (by omega)
      have hfr : fit p l T (t % p) = true := by rw [← rest_eq (m := n) hp, ← hd, fit_mod hp]; exact hfd
      have htp : t % p = n + d := by rw [← rest_eq (m := n) hp, ← hd, Int.emod_eq_of_lt (by omega) (by omega)]
      have := hfm t ht hfr
      have hdd : d = first - n := by omega
      have h3 := hsh u hu
      rw [hdd, show n + (first - n) = first by omega, humx] at h3
      have h4 := (fit_iff.mp hfit) u hu
      omega
  intro m
  by_cases hc : first - (l - mx) ≤ 0
  · have hm : m = 0 := if_pos hc
    rw [hm]
    refine ⟨by omega, hp, ?_, fun n h0 h1 => by omega⟩
    have := back first hf0 (by omega)
    rwa [show first - first = 0 by omega] at this
  · have hm : m = first - (l - mx) := if_neg hc
    rw [hm]
    refine ⟨by omega, by omega, back _ (by omega) (by omega), fun n h0 h1 => none_before n h0 h1 (by omega)⟩
end Lw
set_option Elab.async false
set_option linter.all false
set_option maxRecDepth 100000
set_option maxHeartbeats 4000000
namespace Lw
open PySem PySem.Spec L2 En
local macro_rules | `(tactic| walk_at "sx") => `(tactic| simp -dsimp (disch := omega) only [rngI2_K, srtKF_K, maxAF_K, dcF_K, keyK_i, keyK_s, o_abs, o_gcd, callLF_K, lamF_K, plK_b, capD_n, q_cap, capV_v, o_eql0, o_min, o_max, o_sltake, o_slten, o_sldrop, o_sltd, Int.reduceToNat, List.take_succ_cons, List.take_zero, List.drop_succ_cons, List.drop_zero, b_ft, b_tf, tupL_t, tupL_l, tupL_n, Option.getD_some, cmpF_K, mkK_K, insCP_i, idxP_n, idxP_l, tq_t, tq_c, varF_K, kvF_K, litF_K, binF_K, unF_K, unNF_K, nilL_K, consL_K, tupF_K, lstF_K, dnewK_K, dnewT_K, truF_K, blF_K, notT_K, andT_K, orT_K, andF_K, orF_K, notF_K, iteF_K, chainF_K, noO_K, someO_K, slF_K, idxF_K, appF_K, popF_K, popAF_K, extF_K, skipS_K, seqS_K, brkS_K, cntS_K, nevS_K, retS_K, dropS_K, ifS_K, asgS_K, patS_K, forS_K, seqI_K, enumI_K, rngI_K, yesT_K, nilP_K, consP_K, parS_K, tgtS_K, subG_K, nilA_K, consA_K, callF_K, mkF_K, setF_K, lcF_K, raiseS_K, aftK_K, optK_s, optK_n, optK_m, iteK_t, iteK_f, andK_t, varK_v, varK_o, varK_i, kvK_v, kvK_o, intK_v, blK_v, tblK_s, natK_v, newLK_v, lstK_o, lstK_i, obK_o, obK_i, insK_o, insK_i, o_add, o_sub, o_lt, o_le, o_gt, o_ge, o_neg, o_eqi, o_nei, o_eqs, o_nes, o_inn, o_iin, o_isn, o_itn, o_iln, o_ibn, o_icn, o_imn, o_ibb, o_iib, o_isb, o_inb, o_itb, o_imb, o_nnn, o_nin, o_nsn, o_ntn, o_nln, o_nbn, o_ncn, o_nbb, o_trb, o_trn, o_trl, o_trt, o_trm, o_tri, o_lnt, o_lnl, o_lnm, o_tul, o_tut, o_tum, o_lsl, o_lst, o_lsm, o_int, o_tnm, o_itl, o_itt, o_itm, o_ix, o_ixl, o_ix0, o_ix1, o_ix2, o_ix3, o_ix4, o_ixl0, o_ixl1, o_mul, o_mul', o_mod, o_div, settle_v, settle_o, q_settle, rd_v, q_rd, keep_v, keep_o, keep_n, av_v, av_o, av_n, fr_l, fr_k, fr_t, q_putv, q_putn, q_slo, q_bkr, q_retv, q_retn, q_reto, ob_own, ob_io, put_own, put_io, isOwn_v, isOwn_n, slotOf_v, refs_n, refs_v, refs_r, backE_n, backE_v, putEs_n, putEs_c, pput_nm, pput_tp, pput_tl, pputL_n, pputL_c, isIo_u, isIo_v, isIo_o, isIo_i, wipeE_n, wipeE_c, restE_n, q_rest, okW_n, q_okW, plain_u, plain_v, List.getElem?_cons_zero, List.getElem?_cons_succ, List.set_cons_zero, List.set_cons_succ, List.map_cons, List.map_nil, List.cons_append, List.nil_append, List.length_cons, List.length_nil, List.length_map, List.tail_cons, List.nodup_cons, List.nodup_nil, List.not_mem_nil, List.mem_cons, List.mem_singleton, List.replicate, Option.bind_some, Option.map_some, Option.bind_none, Option.map_none, cond_true, cond_false, Bool.not_true, Bool.not_false, Bool.true_and, Bool.and_true, Bool.and_self, decide_true, decide_false, not_false_eq_true, and_self, true_and, and_true, or_false, false_or, Nat.reduceAdd, Nat.reduceSub, Nat.reduceLeDiff, Nat.reduceLT, Nat.reduceEqDiff, Int.reduceLT, Int.reduceLE, Int.reduceNeg, Int.reduceEq, Nat.zero_le, Nat.le_refl, reduceCtorEq, eq_self, beq_self_eq_true, Int.toNat_natCast, Bool.or_false, Bool.or_true, Bool.false_or, Bool.true_or, Bool.and_false, Bool.false_and, fx_0_events, fx_0_days, ii_0_non, ii_0_bl, ii_0_int, ii_0_str, ii_0_tup, ii_0_lst, ii_0_nms, ii_0_c0, ii_1_non, ii_1_bl, ii_1_int, ii_1_str, ii_1_tup, ii_1_lst, ii_1_nms, ii_1_c0, ii_2_non, ii_2_bl, ii_2_int, ii_2_str, ii_2_tup, ii_2_lst, ii_2_nms, ii_2_c0, ii_3_non, ii_3_bl, ii_3_int, ii_3_str, ii_3_tup, ii_3_lst, ii_3_nms, ii_3_c0, ii_4_non, ii_4_bl, ii_4_int, ii_4_str, ii_4_tup, ii_4_lst, ii_4_nms, ii_4_c0, fr_0, in_0, if_0_events, pf_0_events, if_0_days, pf_0_days, ix_3_1, ix_3_2, ix_3_3, ix_3_4, ix_3_5, ix_3_6, ix_3_7, ix_3_8, ix_3_9, ix_3_10, ex_3_what, ex_3_number, Int.cast_ofNat_Int, Int.natCast_one, Int.natCast_zero])
local macro_rules | `(tactic| walk_at "sxh") => `(tactic| simp -dsimp (disch := omega) only [rngI2_K, srtKF_K, maxAF_K, dcF_K, keyK_i, keyK_s, o_abs, o_gcd, callLF_K, lamF_K, plK_b, capD_n, q_cap, capV_v, o_eql0, o_min, o_max, o_sltake, o_slten, o_sldrop, o_sltd, Int.reduceToNat, List.take_succ_cons, List.take_zero, List.drop_succ_cons, List.drop_zero, b_ft, b_tf, tupL_t, tupL_l, tupL_n, Option.getD_some, cmpF_K, mkK_K, insCP_i, idxP_n, idxP_l, tq_t, tq_c, varF_K, kvF_K, litF_K, binF_K, unF_K, unNF_K, nilL_K, consL_K, tupF_K, lstF_K, dnewK_K, dnewT_K, truF_K, blF_K, notT_K, andT_K, orT_K, andF_K, orF_K, notF_K, iteF_K, chainF_K, noO_K, someO_K, slF_K, idxF_K, appF_K, popF_K, popAF_K, extF_K, skipS_K, seqS_K, brkS_K, cntS_K, nevS_K, retS_K, dropS_K, ifS_K, asgS_K, patS_K, forS_K, seqI_K, enumI_K, rngI_K, yesT_K, nilP_K, consP_K, parS_K, tgtS_K, subG_K, nilA_K, consA_K, callF_K, mkF_K, setF_K, lcF_K, raiseS_K, aftK_K, optK_s, optK_n, optK_m, iteK_t, iteK_f, andK_t, varK_v, varK_o, varK_i, kvK_v, kvK_o, intK_v, blK_v, tblK_s, natK_v, newLK_v, lstK_o, lstK_i, obK_o, obK_i, insK_o, insK_i, o_add, o_sub, o_lt, o_le, o_gt, o_ge, o_neg, o_eqi, o_nei, o_eqs, o_nes, o_inn, o_iin, o_isn, o_itn, o_iln, o_ibn, o_icn, o_imn, o_ibb, o_iib, o_isb, o_inb, o_itb, o_imb, o_nnn, o_nin, o_nsn, o_ntn, o_nln, o_nbn, o_ncn, o_nbb, o_trb, o_trn, o_trl, o_trt, o_trm, o_tri, o_lnt, o_lnl, o_lnm, o_tul, o_tut, o_tum, o_lsl, o_lst, o_lsm, o_int, o_tnm, o_itl, o_itt, o_itm, o_ix, o_ixl, o_ix0, o_ix1, o_ix2, o_ix3, o_ix4, o_ixl0, o_ixl1, o_mul, o_mul', o_mod, o_div, settle_v, settle_o, q_settle, rd_v, q_rd, keep_v, keep_o, keep_n, av_v, av_o, av_n, fr_l, fr_k, fr_t, q_putv, q_putn, q_slo, q_bkr, q_retv, q_retn, q_reto, ob_own, ob_io, put_own, put_io, isOwn_v, isOwn_n, slotOf_v, refs_n, refs_v, refs_r, backE_n, backE_v, putEs_n, putEs_c, pput_nm, pput_tp, pput_tl, pputL_n, pputL_c, isIo_u, isIo_v, isIo_o, isIo_i, wipeE_n, wipeE_c, restE_n, q_rest, okW_n, q_okW, plain_u, plain_v, List.getElem?_cons_zero, List.getElem?_cons_succ, List.set_cons_zero, List.set_cons_succ, List.map_cons, List.map_nil, List.cons_append, List.nil_append, List.length_cons, List.length_nil, List.length_map, List.tail_cons, List.nodup_cons, List.nodup_nil, List.not_mem_nil, List.mem_cons, List.mem_singleton, List.replicate, Option.bind_some, Option.map_some, Option.bind_none, Option.map_none, cond_true, cond_false, Bool.not_true, Bool.not_false, Bool.true_and, Bool.and_true, Bool.and_self, decide_true, decide_false, not_false_eq_true, and_self, true_and, and_true, or_false, false_or, Nat.reduceAdd, Nat.reduceSub, Nat.reduceLeDiff, Nat.reduceLT, Nat.reduceEqDiff, Int.reduceLT, Int.reduceLE, Int.reduceNeg, Int.reduceEq, Nat.zero_le, Nat.le_refl, reduceCtorEq, eq_self, beq_self_eq_true, Int.toNat_natCast, Bool.or_false, Bool.or_true, Bool.false_or, Bool.true_or, Bool.and_false, Bool.false_and, fx_0_events, fx_0_days, ii_0_non, ii_0_bl, ii_0_int, ii_0_str, ii_0_tup, ii_0_lst, ii_0_nms, ii_0_c0, ii_1_non, ii_1_bl, ii_1_int, ii_1_str, ii_1_tup, ii_1_lst, ii_1_nms, ii_1_c0, ii_2_non, ii_2_bl, ii_2_int, ii_2_str, ii_2_tup, ii_2_lst, ii_2_nms, ii_2_c0, ii_3_non, ii_3_bl, ii_3_int, ii_3_str, ii_3_tup, ii_3_lst, ii_3_nms, ii_3_c0, ii_4_non, ii_4_bl, ii_4_int, ii_4_str, ii_4_tup, ii_4_lst, ii_4_nms, ii_4_c0, fr_0, in_0, if_0_events, pf_0_events, if_0_days, pf_0_days, ix_3_1, ix_3_2, ix_3_3, ix_3_4, ix_3_5, ix_3_6, ix_3_7, ix_3_8, ix_3_9, ix_3_10, ex_3_what, ex_3_number, Int.cast_ofNat_Int, Int.natCast_one, Int.natCast_zero, *])
local macro_rules | `(tactic| walk_at "io") => `(tactic| first | rfl | assumption)
def optI : Option Int → D
  | some a => .int a
  | none => .non
def intsL (T : List Int) : D := .lst (T.map .int)
theorem putI {is : List Int} {ds : List D} {r : Int} {d : D} : ∃ is' : List Int, (putD (is.map (Sum.inl : Int → Key)) ds (.inl r) d).1 = is'.map Sum.inl ∧ (∀ x, x ∈ is' ↔ x ∈ is ∨ x = r) ∧ is'.length ≤ is.length + 1 ∧ (putD (is.map (Sum.inl : Int → Key)) ds (.inl r) d).2.length ≤ ds.length + 1 := by
  unfold putD
  by_cases h : ((is.map (Sum.inl : Int → Key)).any fun j => decide (j = .inl r)) = true
  · rw [if_pos h]
    refine ⟨is, rfl, fun x => ⟨.inl, fun hx => ?_⟩, by omega, by simp; omega⟩
    rcases hx with hx | rfl
    · exact hx
    · rw [List.any_eq_true] at h
      obtain ⟨y, hy, e⟩ := h
      obtain ⟨z, hz, rfl⟩ := List.mem_map.mp hy
      have := of_decide_eq_true e
      cases this
      exact hz
  · rw [if_neg h]
    exact ⟨is ++ [r], by simp, fun x => by simp, by simp, by simp⟩
/-- what plan_minute tells -/
def First (p l : Int) (T : List Int) : Option Int → Prop
  | some r => (∃ t ∈ T, t % p = r) ∧ fit p l T r = true ∧ ∀ t ∈ T, fit p l T (t % p) = true → r ≤ t % p
  | none => ∀ t ∈ T, fit p l T (t % p) = false
theorem spec_plan_minute {T : List Int} {p l : Int} {P : EV → Env' → Prop} {X : Exx} (hp : 0 < p) (hz : T.length ≤ 10) (k : ∀ o t, First p l T o → P (.val (optI o)) t) :
    runF F_plan_minute [.val (.lst (T.map .int)), .val (.int p), .val (.int l)] P X := by
  apply body_K
  unfold B_plan_minute
  walk_at "sx"
  refine dcL_K _ (fun j ks acc e => e = [.val (.lst (T.map .int)), .val (.int p), .val (.int l), .un, .un] ∧ ∃ is : List Int, ks = is.map Sum.inl ∧ (∀ x, x ∈ is ↔ ∃ t ∈ T.take j, x = t % p) ∧ is.length ≤ j ∧ acc.length ≤ j) ⟨rfl, [], rfl, by simp, by simp, by simp⟩ ?_ ?_
  · rintro j d ks acc e hj ⟨rfl, is, rfl, hm, hl1, hl2⟩
    rw [List.getElem?_map] at hj
    obtain ⟨t, ht, rfl⟩ := Option.map_eq_some_iff.mp hj
    have htl := (List.getElem?_eq_some_iff.mp ht).1
    obtain ⟨is', h1, h2, h3, h4⟩ := putI (is := is) (ds := acc) (r := t % p) (d := .bl true)
    clear hj
    walk_at "sx"
    refine andK_i (by omega) ?_
    walk_at "sx"
    refine ⟨is', h1, fun x => ?_, by omega, by omega⟩
    have htk : T.take (j + 1) = T.take j ++ [t] := by rw [List.take_add_one, ht]; rfl
    rw [h2, hm, htk]
    constructor
    · rintro (⟨u, hu, e⟩ | e)
      · exact ⟨u, List.mem_append_left _ hu, e⟩
      · exact ⟨t, by simp, e⟩
    · rintro ⟨u, hu, e⟩
      rcases List.mem_append.mp hu with hu | hu
      · exact .inl ⟨u, hu, e⟩
      · rw [List.mem_singleton.mp hu] at e; exact .inr e
  · rintro ks acc e ⟨rfl, is, rfl, hm, hl1, hl2⟩
    rw [List.length_map] at hm hl1
    rw [List.take_length] at hm
    walk_at "sx"
    refine ⟨is, acc, rfl, by omega, fun ys hP hS => ?_⟩
    have hy : ∀ x, x ∈ ys ↔ ∃ t ∈ T, x = t % p := fun x => by rw [hP.mem_iff]; exact hm x
    walk_at "sx"
    refine forL_K _ (fun j e => (∀ i, i < j → ∀ r, ys[i]? = some r → fit p l T r = false) ∧ ∃ a3 : En.Slot, e = [.val (.lst (T.map .int)), .val (.int p), .val (.int l), a3, .un] ∧ a3.isIo = false) ⟨fun i h => by omega, _, rfl, rfl⟩ ?_ ?_
    · rintro j d e hj ⟨hno, a3, rfl, h3⟩
      rw [List.getElem?_map] at hj
      obtain ⟨r, hr, rfl⟩ := Option.map_eq_some_iff.mp hj
      clear hj
      walk_at "sxh"
      refine compF_K D.int (fun t => D.bl (decide ((t - r) % p ≤ l))) (fun _ => true) T (by omega) ?_ ?_
      · intro t ht acc Q hl q1 q2
        have q1 := q1 rfl
        clear q2 hno
        walk_at "sxh"
      · have hT : T.filter (fun _ => true) = T := by simp
        rw [hT]
        have ha := o_all (fun t => decide ((t - r) % p ≤ l)) T
        walk_at "sxh"
        have hfit : (T.all fun t => decide ((t - r) % p ≤ l)) = fit p l T r := rfl
        rw [hfit]
        refine iteK_i (fun hb => ?_) fun hb => ?_
        · walk_at "sx"
          refine k (some r) _ ⟨?_, hb, fun t ht htf => ?_⟩
          · obtain ⟨t, ht, e⟩ := (hy r).mp (List.mem_of_getElem? hr)
            exact ⟨t, ht, e.symm⟩
          · obtain ⟨i, hi, e⟩ := List.getElem_of_mem ((hy (t % p)).mpr ⟨t, ht, rfl⟩)
            obtain ⟨hjl, ej⟩ := List.getElem?_eq_some_iff.mp hr
            by_cases hij : i < j
            · have := hno i hij (t % p) (by rw [List.getElem?_eq_getElem hi, e])
              rw [this] at htf; cases htf
            · by_cases hij2 : i = j
              · subst hij2; omega
              · have := (List.pairwise_iff_getElem.mp hS) j i hjl hi (by omega)
                omega
        · walk_at "sx"
          refine ⟨fun i hi x hx => ?_, _, rfl, rfl⟩
          by_cases hij : i < j
          · exact hno i hij x hx
          · have : i = j := by omega
            subst this
            rw [hr] at hx; cases hx
            exact hb
    · rintro e ⟨hno, a3, rfl, h3⟩
      walk_at "sx"
      refine k none _ fun t ht => ?_
      obtain ⟨i, hi, e⟩ := List.getElem_of_mem ((hy (t % p)).mpr ⟨t, ht, rfl⟩)
      exact hno i (by simpa using hi) (t % p) (by rw [List.getElem?_eq_getElem hi, e])
end Lw
set_option Elab.async false
set_option linter.all false
set_option maxRecDepth 100000
set_option maxHeartbeats 4000000
namespace Lw
open PySem PySem.Spec L2 En
local macro_rules | `(tactic| walk_at "sx") => `(tactic| simp -dsimp (disch := omega) only [rngI2_K, srtKF_K, maxAF_K, dcF_K, keyK_i, keyK_s, o_abs, o_gcd, callLF_K, lamF_K, plK_b, capD_n, q_cap, capV_v, o_eql0, o_min, o_max, o_sltake, o_slten, o_sldrop, o_sltd, Int.reduceToNat, List.take_succ_cons, List.take_zero, List.drop_succ_cons, List.drop_zero, b_ft, b_tf, tupL_t, tupL_l, tupL_n, Option.getD_some, cmpF_K, mkK_K, insCP_i, idxP_n, idxP_l, tq_t, tq_c, varF_K, kvF_K, litF_K, binF_K, unF_K, unNF_K, nilL_K, consL_K, tupF_K, lstF_K, dnewK_K, dnewT_K, truF_K, blF_K, notT_K, andT_K, orT_K, andF_K, orF_K, notF_K, iteF_K, chainF_K, noO_K, someO_K, slF_K, idxF_K, appF_K, popF_K, popAF_K, extF_K, skipS_K, seqS_K, brkS_K, cntS_K, nevS_K, retS_K, dropS_K, ifS_K, asgS_K, patS_K, forS_K, seqI_K, enumI_K, rngI_K, yesT_K, nilP_K, consP_K, parS_K, tgtS_K, subG_K, nilA_K, consA_K, callF_K, mkF_K, setF_K, lcF_K, raiseS_K, aftK_K, optK_s, optK_n, optK_m, iteK_t, iteK_f, andK_t, varK_v, varK_o, varK_i, kvK_v, kvK_o, intK_v, blK_v, tblK_s, natK_v, newLK_v, lstK_o, lstK_i, obK_o, obK_i, insK_o, insK_i, o_add, o_sub, o_lt, o_le, o_gt, o_ge, o_neg, o_eqi, o_nei, o_eqs, o_nes, o_inn, o_iin, o_isn, o_itn, o_iln, o_ibn, o_icn, o_imn, o_ibb, o_iib, o_isb, o_inb, o_itb, o_imb, o_nnn, o_nin, o_nsn, o_ntn, o_nln, o_nbn, o_ncn, o_nbb, o_trb, o_trn, o_trl, o_trt, o_trm, o_tri, o_lnt, o_lnl, o_lnm, o_tul, o_tut, o_tum, o_lsl, o_lst, o_lsm, o_int, o_tnm, o_itl, o_itt, o_itm, o_ix, o_ixl, o_ix0, o_ix1, o_ix2, o_ix3, o_ix4, o_ixl0, o_ixl1, o_mul, o_mul', o_mod, o_div, settle_v, settle_o, q_settle, rd_v, q_rd, keep_v, keep_o, keep_n, av_v, av_o, av_n, fr_l, fr_k, fr_t, q_putv, q_putn, q_slo, q_bkr, q_retv, q_retn, q_reto, ob_own, ob_io, put_own, put_io, isOwn_v, isOwn_n, slotOf_v, refs_n, refs_v, refs_r, backE_n, backE_v, putEs_n, putEs_c, pput_nm, pput_tp, pput_tl, pputL_n, pputL_c, isIo_u, isIo_v, isIo_o, isIo_i, wipeE_n, wipeE_c, restE_n, q_rest, okW_n, q_okW, plain_u, plain_v, List.getElem?_cons_zero, List.getElem?_cons_succ, List.set_cons_zero, List.set_cons_succ, List.map_cons, List.map_nil, List.cons_append, List.nil_append, List.length_cons, List.length_nil, List.length_map, List.tail_cons, List.nodup_cons, List.nodup_nil, List.not_mem_nil, List.mem_cons, List.mem_singleton, List.replicate, Option.bind_some, Option.map_some, Option.bind_none, Option.map_none, cond_true, cond_false, Bool.not_true, Bool.not_false, Bool.true_and, Bool.and_true, Bool.and_self, decide_true, decide_false, not_false_eq_true, and_self, true_and, and_true, or_false, false_or, Nat.reduceAdd, Nat.reduceSub, Nat.reduceLeDiff, Nat.reduceLT, Nat.reduceEqDiff, Int.reduceLT, Int.reduceLE, Int.reduceNeg, Int.reduceEq, Nat.zero_le, Nat.le_refl, reduceCtorEq, eq_self, beq_self_eq_true, Int.toNat_natCast, Bool.or_false, Bool.or_true, Bool.false_or, Bool.true_or, Bool.and_false, Bool.false_and, fx_0_events, fx_0_days, ii_0_non, ii_0_bl, ii_0_int, ii_0_str, ii_0_tup, ii_0_lst, ii_0_nms, ii_0_c0, ii_1_non, ii_1_bl, ii_1_int, ii_1_str, ii_1_tup, ii_1_lst, ii_1_nms, ii_1_c0, ii_2_non, ii_2_bl, ii_2_int, ii_2_str, ii_2_tup, ii_2_lst, ii_2_nms, ii_2_c0, ii_3_non, ii_3_bl, ii_3_int, ii_3_str, ii_3_tup, ii_3_lst, ii_3_nms, ii_3_c0, ii_4_non, ii_4_bl, ii_4_int, ii_4_str, ii_4_tup, ii_4_lst, ii_4_nms, ii_4_c0, fr_0, in_0, if_0_events, pf_0_events, if_0_days, pf_0_days, ix_3_1, ix_3_2, ix_3_3, ix_3_4, ix_3_5, ix_3_6, ix_3_7, ix_3_8, ix_3_9, ix_3_10, ex_3_what, ex_3_number, Int.cast_ofNat_Int, Int.natCast_one, Int.natCast_zero])
local macro_rules | `(tactic| walk_at "sxh") => `(tactic| simp -dsimp (disch := omega) only [rngI2_K, srtKF_K, maxAF_K, dcF_K, keyK_i, keyK_s, o_abs, o_gcd, callLF_K, lamF_K, plK_b, capD_n, q_cap, capV_v, o_eql0, o_min, o_max, o_sltake, o_slten, o_sldrop, o_sltd, Int.reduceToNat, List.take_succ_cons, List.take_zero, List.drop_succ_cons, List.drop_zero, b_ft, b_tf, tupL_t, tupL_l, tupL_n, Option.getD_some, cmpF_K, mkK_K, insCP_i, idxP_n, idxP_l, tq_t, tq_c, varF_K, kvF_K, litF_K, binF_K, unF_K, unNF_K, nilL_K, consL_K, tupF_K, lstF_K, dnewK_K, dnewT_K, truF_K, blF_K, notT_K, andT_K, orT_K, andF_K, orF_K, notF_K, iteF_K, chainF_K, noO_K, someO_K, slF_K, idxF_K, appF_K, popF_K, popAF_K, extF_K, skipS_K, seqS_K, brkS_K, cntS_K, nevS_K, retS_K, dropS_K, ifS_K, asgS_K, patS_K, forS_K, seqI_K, enumI_K, rngI_K, yesT_K, nilP_K, consP_K, parS_K, tgtS_K, subG_K, nilA_K, consA_K, callF_K, mkF_K, setF_K, lcF_K, raiseS_K, aftK_K, optK_s, optK_n, optK_m, iteK_t, iteK_f, andK_t, varK_v, varK_o, varK_i, kvK_v, kvK_o, intK_v, blK_v, tblK_s, natK_v, newLK_v, lstK_o, lstK_i, obK_o, obK_i, insK_o, insK_i, o_add, o_sub, o_lt, o_le, o_gt, o_ge, o_neg, o_eqi, o_nei, o_eqs, o_nes, o_inn, o_iin, o_isn, o_itn, o_iln, o_ibn, o_icn, o_imn, o_ibb, o_iib, o_isb, o_inb, o_itb, o_imb, o_nnn, o_nin, o_nsn, o_ntn, o_nln, o_nbn, o_ncn, o_nbb, o_trb, o_trn, o_trl, o_trt, o_trm, o_tri, o_lnt, o_lnl, o_lnm, o_tul, o_tut, o_tum, o_lsl, o_lst, o_lsm, o_int, o_tnm, o_itl, o_itt, o_itm, o_ix, o_ixl, o_ix0, o_ix1, o_ix2, o_ix3, o_ix4, o_ixl0, o_ixl1, o_mul, o_mul', o_mod, o_div, settle_v, settle_o, q_settle, rd_v, q_rd, keep_v, keep_o, keep_n, av_v, av_o, av_n, fr_l, fr_k, fr_t, q_putv, q_putn, q_slo, q_bkr, q_retv, q_retn, q_reto, ob_own, ob_io, put_own, put_io, isOwn_v, isOwn_n, slotOf_v, refs_n, refs_v, refs_r, backE_n, backE_v, putEs_n, putEs_c, pput_nm, pput_tp, pput_tl, pputL_n, pputL_c, isIo_u, isIo_v, isIo_o, isIo_i, wipeE_n, wipeE_c, restE_n, q_rest, okW_n, q_okW, plain_u, plain_v, List.getElem?_cons_zero, List.getElem?_cons_succ, List.set_cons_zero, List.set_cons_succ, List.map_cons, List.map_nil, List.cons_append, List.nil_append, List.length_cons, List.length_nil, List.length_map, List.tail_cons, List.nodup_cons, List.nodup_nil, List.not_mem_nil, List.mem_cons, List.mem_singleton, List.replicate, Option.bind_some, Option.map_some, Option.bind_none, Option.map_none, cond_true, cond_false, Bool.not_true, Bool.not_false, Bool.true_and, Bool.and_true, Bool.and_self, decide_true, decide_false, not_false_eq_true, and_self, true_and, and_true, or_false, false_or, Nat.reduceAdd, Nat.reduceSub, Nat.reduceLeDiff, Nat.reduceLT, Nat.reduceEqDiff, Int.reduceLT, Int.reduceLE, Int.reduceNeg, Int.reduceEq, Nat.zero_le, Nat.le_refl, reduceCtorEq, eq_self, beq_self_eq_true, Int.toNat_natCast, Bool.or_false, Bool.or_true, Bool.false_or, Bool.true_or, Bool.and_false, Bool.false_and, fx_0_events, fx_0_days, ii_0_non, ii_0_bl, ii_0_int, ii_0_str, ii_0_tup, ii_0_lst, ii_0_nms, ii_0_c0, ii_1_non, ii_1_bl, ii_1_int, ii_1_str, ii_1_tup, ii_1_lst, ii_1_nms, ii_1_c0, ii_2_non, ii_2_bl, ii_2_int, ii_2_str, ii_2_tup, ii_2_lst, ii_2_nms, ii_2_c0, ii_3_non, ii_3_bl, ii_3_int, ii_3_str, ii_3_tup, ii_3_lst, ii_3_nms, ii_3_c0, ii_4_non, ii_4_bl, ii_4_int, ii_4_str, ii_4_tup, ii_4_lst, ii_4_nms, ii_4_c0, fr_0, in_0, if_0_events, pf_0_events, if_0_days, pf_0_days, ix_3_1, ix_3_2, ix_3_3, ix_3_4, ix_3_5, ix_3_6, ix_3_7, ix_3_8, ix_3_9, ix_3_10, ex_3_what, ex_3_number, Int.cast_ofNat_Int, Int.natCast_one, Int.natCast_zero, *])
local macro_rules | `(tactic| walk_at "io") => `(tactic| first | rfl | assumption)
/-- the least minute that fits -/
def leastM (p l : Int) (T : List Int) : Option Int := ((List.range p.toNat).find? fun i : Nat => fit p l T (i : Int)).map Int.ofNat
theorem least_some {p l m : Int} {T : List Int} (h0 : 0 ≤ m) (h1 : m < p) (hf : fit p l T m = true) (hl : ∀ n, 0 ≤ n → n < m → fit p l T n = false) : leastM p l T = some m := by
  obtain ⟨k, rfl⟩ := Int.eq_ofNat_of_zero_le h0
  have : (List.range p.toNat).find? (fun i : Nat => fit p l T (i : Int)) = some k := by
    rw [List.find?_range_eq_some]
    refine ⟨hf, by rw [List.mem_range]; omega, fun j hj => ?_⟩
    rw [hl (j : Int) (by omega) (by omega)]; rfl
  unfold leastM
  rw [this]; rfl
theorem least_none {p l : Int} {T : List Int} (h : ∀ n, 0 ≤ n → n < p → fit p l T n = false) : leastM p l T = none := by
  have : (List.range p.toNat).find? (fun i : Nat => fit p l T (i : Int)) = none := by
    rw [List.find?_range_eq_none]
    intro i hi
    rw [h (i : Int) (by omega) (by omega)]; rfl
  unfold leastM
  rw [this]; rfl
theorem least_nil {p l : Int} (hp : 0 < p) : leastM p l [] = some 0 := least_some (by omega) hp rfl (fun n h0 h1 => by omega)
theorem spec_least_plan {T : List Int} {p l : Int} {P : EV → Env' → Prop} {X : Exx} (hp : 2 ≤ p) (hl : 0 ≤ l) (hT : T ≠ []) (hz : T.length ≤ 10) (k : ∀ t, P (.val (optI (leastM p l T))) t) :
    runF F_least_plan [.val (.lst (T.map .int)), .val (.int p), .val (.int l)] P X := by
  apply body_K
  unfold B_least_plan
  walk_at "sx"
  refine iteK_i (fun hb => ?_) fun hb => ?_
  · have hb : p - 1 ≤ l := of_decide_eq_true hb
    have : leastM p l T = some 0 := least_some (by omega) (by omega) (fit_iff.mpr fun t _ => by have := Int.emod_lt_of_pos (t - 0) (show 0 < p by omega); omega) (fun n h0 h1 => by omega)
    rw [this] at k
    walk_at "sx"
    exact k _
  have hb : ¬ p - 1 ≤ l := of_decide_eq_false hb
  walk_at "sx"
  refine spec_plan_minute (by omega) hz fun o t ho => ?_
  cases o with
  | none =>
    have : leastM p l T = none := least_none fun n h0 h1 => by
      cases hf : fit p l T n with
      | false => rfl
      | true =>
        obtain ⟨t, ht, hf2⟩ := fit_some (by omega) hT hf
        have := ho t ht
        rw [this] at hf2; cases hf2
    rw [this] at k
    show aftK _ _ _ (.val .non) _
    walk_at "sx"
    exact k _
  | some first =>
    obtain ⟨h1, h2, h3⟩ := ho
    show aftK _ _ _ (.val (.int first)) _
    walk_at "sx"
    refine compF_K D.int (fun t => D.int ((t - first) % p)) (fun _ => true) T (by omega) ?_ ?_
    · intro t ht acc Q hl q1 q2
      have q1 := q1 rfl
      clear q2 k h1 h2 h3
      walk_at "sxh"
    · have hTT : (T.filter (fun _ => true)).map (fun t => D.int ((t - first) % p)) = (T.map fun t => (t - first) % p).map D.int := by
        rw [show T.filter (fun _ => true) = T by simp, List.map_map]; rfl
      rw [hTT]
      walk_at "sx"
      refine ⟨_, rfl, by rw [List.length_map]; exact List.length_pos_iff.mpr hT, fun mx hm1 hm2 => ?_⟩
      obtain ⟨t0, ht0, hf0⟩ := h1
      have f0 : 0 ≤ first := by rw [← hf0]; exact Int.emod_nonneg _ (by omega)
      have f1 : first < p := by rw [← hf0]; exact Int.emod_lt_of_pos _ (by omega)
      have main := fit_least (mx := mx) (by omega) hT f0 f1 h2 h3 hm1 (fun t ht => hm2 _ (List.mem_map.mpr ⟨t, ht, rfl⟩)) (by omega) ⟨t0, ht0, hf0⟩
      have hlm : leastM p l T = some (if first - (l - mx) ≤ 0 then 0 else first - (l - mx)) := least_some main.1 main.2.1 main.2.2.1 main.2.2.2
      rw [hlm] at k
      clear hlm main hm1 hm2
      refine iteK_i (fun hb => ?_) fun hb => ?_
      · rw [if_pos (of_decide_eq_true hb)] at k
        walk_at "sx"
        exact k _
      · rw [if_neg (of_decide_eq_false hb)] at k
        walk_at "sx"
        exact k _
/-- all events have a minute that fits -/
def okB (p l : Int) (dss : List (List (Option Int))) (n : Nat) : Bool := (List.range n).all fun a => (leastM p l (col dss a)).isSome
theorem okB_s {p l : Int} {dss : List (List (Option Int))} {n : Nat} : okB p l dss (n + 1) = (okB p l dss n && (leastM p l (col dss n)).isSome) := by
  unfold okB
  rw [List.range_succ, List.all_append]; simp
theorem okB_lt {p l : Int} {dss : List (List (Option Int))} {n a : Nat} (h : a < n) (hn : leastM p l (col dss a) = none) : okB p l dss n = false := by
  unfold okB
  rw [List.all_eq_false]
  exact ⟨a, List.mem_range.mpr h, by rw [hn]; simp⟩
theorem isn_opt (o : Option Int) : isD (optI o) .non = some (.bl (!o.isSome)) := by cases o <;> rfl
theorem spec_fits {css : List (List Nat)} {dss : List (List (Option Int))} {p l : Int} {P : EV → Env' → Prop} {X : Exx} (hp : 2 ≤ p) (hl : 0 ≤ l) (hd : ∀ ts ∈ dss, ts.length = css.length) (hz : dss.length ≤ 10) (hc : css.length ≤ 1000) (k : ∀ t, P (.val (.bl (okB p l dss css.length))) t) :
    runF F_fits_period [.val (logV css dss), .val (.int p), .val (.int l)] P X := by
  apply body_K
  unfold B_fits_period
  walk_at "sx"
  refine andK_i (by omega) ?_
  refine forL_K _ (fun j e => okB p l dss j = true ∧ ∃ a3 a4 : En.Slot, e = [.val (logV css dss), .val (.int p), .val (.int l), a3, a4] ∧ a3.isIo = false ∧ a4.isIo = false) ⟨rfl, _, _, rfl, rfl, rfl⟩ ?_ ?_
  · rintro j d e hj ⟨hok, a3, a4, rfl, h3, h4⟩
    obtain ⟨hj1, rfl⟩ := intsD_get hj
    rw [Int.toNat_natCast] at hj1
    rw [Int.zero_add]
    clear hj
    walk_at "sxh"
    refine spec_times_seen hd hz hj1 fun t => ?_
    walk_at "sxh"
    have hcl := Nat.le_trans (col_len (dss := dss) (a := j)) hz
    cases hC : col dss j with
    | nil =>
      walk_at "sx"
      refine ⟨?_, _, _, rfl, rfl, rfl⟩
      rw [okB_s, hok, hC, least_nil (by omega)]; rfl
    | cons x r =>
      have he : (((x :: r).map D.int).isEmpty) = false := rfl
      rw [he]
      rw [hC] at hcl
      walk_at "sx"
      have hx : D.lst (D.int x :: r.map D.int) = D.lst ((x :: r).map D.int) := rfl
      rw [hx]
      refine spec_least_plan hp hl (by simp) hcl fun t => ?_
      have hn := isn_opt (leastM p l (x :: r))
      walk_at "sxh"
      cases ho : leastM p l (x :: r) with
      | none =>
        have : okB p l dss css.length = false := okB_lt hj1 (by rw [hC]; exact ho)
        rw [this] at k
        show iteK (!false) _ _
        walk_at "sx"
        exact k _
      | some m =>
        show iteK (!true) _ _
        walk_at "sx"
        refine ⟨?_, _, _, rfl, rfl, rfl⟩
        rw [okB_s, hok, hC, ho]; rfl
  · rintro e ⟨hok, a3, a4, rfl, h3, h4⟩
    rw [intsD_len, Int.toNat_natCast] at hok
    rw [hok] at k
    walk_at "sx"
    exact k _
end Lw
set_option Elab.async false
set_option linter.all false
set_option maxRecDepth 100000
set_option maxHeartbeats 4000000
namespace Lw
open PySem PySem.Spec L2 En
local macro_rules | `(tactic| walk_at "sx") => `(tactic| simp -dsimp (disch := omega) only [rngI2_K, srtKF_K, maxAF_K, dcF_K, keyK_i, keyK_s, o_abs, o_gcd, callLF_K, lamF_K, plK_b, capD_n, q_cap, capV_v, o_eql0, o_min, o_max, o_sltake, o_slten, o_sldrop, o_sltd, Int.reduceToNat, List.take_succ_cons, List.take_zero, List.drop_succ_cons, List.drop_zero, b_ft, b_tf, tupL_t, tupL_l, tupL_n, Option.getD_some, cmpF_K, mkK_K, insCP_i, idxP_n, idxP_l, tq_t, tq_c, varF_K, kvF_K, litF_K, binF_K, unF_K, unNF_K, nilL_K, consL_K, tupF_K, lstF_K, dnewK_K, dnewT_K, truF_K, blF_K, notT_K, andT_K, orT_K, andF_K, orF_K, notF_K, iteF_K, chainF_K, noO_K, someO_K, slF_K, idxF_K, appF_K, popF_K, popAF_K, extF_K, skipS_K, seqS_K, brkS_K, cntS_K, nevS_K, retS_K, dropS_K, ifS_K, asgS_K, patS_K, forS_K, seqI_K, enumI_K, rngI_K, yesT_K, nilP_K, consP_K, parS_K, tgtS_K, subG_K, nilA_K, consA_K, callF_K, mkF_K, setF_K, lcF_K, raiseS_K, aftK_K, optK_s, optK_n, optK_m, iteK_t, iteK_f, andK_t, varK_v, varK_o, varK_i, kvK_v, kvK_o, intK_v, blK_v, tblK_s, natK_v, newLK_v, lstK_o, lstK_i, obK_o, obK_i, insK_o, insK_i, o_add, o_sub, o_lt, o_le, o_gt, o_ge, o_neg, o_eqi, o_nei, o_eqs, o_nes, o_inn, o_iin, o_isn, o_itn, o_iln, o_ibn, o_icn, o_imn, o_ibb, o_iib, o_isb, o_inb, o_itb, o_imb, o_nnn, o_nin, o_nsn, o_ntn, o_nln, o_nbn, o_ncn, o_nbb, o_trb, o_trn, o_trl, o_trt, o_trm, o_tri, o_lnt, o_lnl, o_lnm, o_tul, o_tut, o_tum, o_lsl, o_lst, o_lsm, o_int, o_tnm, o_itl, o_itt, o_itm, o_ix, o_ixl, o_ix0, o_ix1, o_ix2, o_ix3, o_ix4, o_ixl0, o_ixl1, o_mul, o_mul', o_mod, o_div, settle_v, settle_o, q_settle, rd_v, q_rd, keep_v, keep_o, keep_n, av_v, av_o, av_n, fr_l, fr_k, fr_t, q_putv, q_putn, q_slo, q_bkr, q_retv, q_retn, q_reto, ob_own, ob_io, put_own, put_io, isOwn_v, isOwn_n, slotOf_v, refs_n, refs_v, refs_r, backE_n, backE_v, putEs_n, putEs_c, pput_nm, pput_tp, pput_tl, pputL_n, pputL_c, isIo_u, isIo_v, isIo_o, isIo_i, wipeE_n, wipeE_c, restE_n, q_rest, okW_n, q_okW, plain_u, plain_v, List.getElem?_cons_zero, List.getElem?_cons_succ, List.set_cons_zero, List.set_cons_succ, List.map_cons, List.map_nil, List.cons_append, List.nil_append, List.length_cons, List.length_nil, List.length_map, List.tail_cons, List.nodup_cons, List.nodup_nil, List.not_mem_nil, List.mem_cons, List.mem_singleton, List.replicate, Option.bind_some, Option.map_some, Option.bind_none, Option.map_none, cond_true, cond_false, Bool.not_true, Bool.not_false, Bool.true_and, Bool.and_true, Bool.and_self, decide_true, decide_false, not_false_eq_true, and_self, true_and, and_true, or_false, false_or, Nat.reduceAdd, Nat.reduceSub, Nat.reduceLeDiff, Nat.reduceLT, Nat.reduceEqDiff, Int.reduceLT, Int.reduceLE, Int.reduceNeg, Int.reduceEq, Nat.zero_le, Nat.le_refl, reduceCtorEq, eq_self, beq_self_eq_true, Int.toNat_natCast, Bool.or_false, Bool.or_true, Bool.false_or, Bool.true_or, Bool.and_false, Bool.false_and, fx_0_events, fx_0_days, ii_0_non, ii_0_bl, ii_0_int, ii_0_str, ii_0_tup, ii_0_lst, ii_0_nms, ii_0_c0, ii_1_non, ii_1_bl, ii_1_int, ii_1_str, ii_1_tup, ii_1_lst, ii_1_nms, ii_1_c0, ii_2_non, ii_2_bl, ii_2_int, ii_2_str, ii_2_tup, ii_2_lst, ii_2_nms, ii_2_c0, ii_3_non, ii_3_bl, ii_3_int, ii_3_str, ii_3_tup, ii_3_lst, ii_3_nms, ii_3_c0, ii_4_non, ii_4_bl, ii_4_int, ii_4_str, ii_4_tup, ii_4_lst, ii_4_nms, ii_4_c0, fr_0, in_0, if_0_events, pf_0_events, if_0_days, pf_0_days, ix_3_1, ix_3_2, ix_3_3, ix_3_4, ix_3_5, ix_3_6, ix_3_7, ix_3_8, ix_3_9, ix_3_10, ex_3_what, ex_3_number, Int.cast_ofNat_Int, Int.natCast_one, Int.natCast_zero])
local macro_rules | `(tactic| walk_at "sxh") => `(tactic| simp -dsimp (disch := omega) only [rngI2_K, srtKF_K, maxAF_K, dcF_K, keyK_i, keyK_s, o_abs, o_gcd, callLF_K, lamF_K, plK_b, capD_n, q_cap, capV_v, o_eql0, o_min, o_max, o_sltake, o_slten, o_sldrop, o_sltd, Int.reduceToNat, List.take_succ_cons, List.take_zero, List.drop_succ_cons, List.drop_zero, b_ft, b_tf, tupL_t, tupL_l, tupL_n, Option.getD_some, cmpF_K, mkK_K, insCP_i, idxP_n, idxP_l, tq_t, tq_c, varF_K, kvF_K, litF_K, binF_K, unF_K, unNF_K, nilL_K, consL_K, tupF_K, lstF_K, dnewK_K, dnewT_K, truF_K, blF_K, notT_K, andT_K, orT_K, andF_K, orF_K, notF_K, iteF_K, chainF_K, noO_K, someO_K, slF_K, idxF_K, appF_K, popF_K, popAF_K, extF_K, skipS_K, seqS_K, brkS_K, cntS_K, nevS_K, retS_K, dropS_K, ifS_K, asgS_K, patS_K, forS_K, seqI_K, enumI_K, rngI_K, yesT_K, nilP_K, consP_K, parS_K, tgtS_K, subG_K, nilA_K, consA_K, callF_K, mkF_K, setF_K, lcF_K, raiseS_K, aftK_K, optK_s, optK_n, optK_m, iteK_t, iteK_f, andK_t, varK_v, varK_o, varK_i, kvK_v, kvK_o, intK_v, blK_v, tblK_s, natK_v, newLK_v, lstK_o, lstK_i, obK_o, obK_i, insK_o, insK_i, o_add, o_sub, o_lt, o_le, o_gt, o_ge, o_neg, o_eqi, o_nei, o_eqs, o_nes, o_inn, o_iin, o_isn, o_itn, o_iln, o_ibn, o_icn, o_imn, o_ibb, o_iib, o_isb, o_inb, o_itb, o_imb, o_nnn, o_nin, o_nsn, o_ntn, o_nln, o_nbn, o_ncn, o_nbb, o_trb, o_trn, o_trl, o_trt, o_trm, o_tri, o_lnt, o_lnl, o_lnm, o_tul, o_tut, o_tum, o_lsl, o_lst, o_lsm, o_int, o_tnm, o_itl, o_itt, o_itm, o_ix, o_ixl, o_ix0, o_ix1, o_ix2, o_ix3, o_ix4, o_ixl0, o_ixl1, o_mul, o_mul', o_mod, o_div, settle_v, settle_o, q_settle, rd_v, q_rd, keep_v, keep_o, keep_n, av_v, av_o, av_n, fr_l, fr_k, fr_t, q_putv, q_putn, q_slo, q_bkr, q_retv, q_retn, q_reto, ob_own, ob_io, put_own, put_io, isOwn_v, isOwn_n, slotOf_v, refs_n, refs_v, refs_r, backE_n, backE_v, putEs_n, putEs_c, pput_nm, pput_tp, pput_tl, pputL_n, pputL_c, isIo_u, isIo_v, isIo_o, isIo_i, wipeE_n, wipeE_c, restE_n, q_rest, okW_n, q_okW, plain_u, plain_v, List.getElem?_cons_zero, List.getElem?_cons_succ, List.set_cons_zero, List.set_cons_succ, List.map_cons, List.map_nil, List.cons_append, List.nil_append, List.length_cons, List.length_nil, List.length_map, List.tail_cons, List.nodup_cons, List.nodup_nil, List.not_mem_nil, List.mem_cons, List.mem_singleton, List.replicate, Option.bind_some, Option.map_some, Option.bind_none, Option.map_none, cond_true, cond_false, Bool.not_true, Bool.not_false, Bool.true_and, Bool.and_true, Bool.and_self, decide_true, decide_false, not_false_eq_true, and_self, true_and, and_true, or_false, false_or, Nat.reduceAdd, Nat.reduceSub, Nat.reduceLeDiff, Nat.reduceLT, Nat.reduceEqDiff, Int.reduceLT, Int.reduceLE, Int.reduceNeg, Int.reduceEq, Nat.zero_le, Nat.le_refl, reduceCtorEq, eq_self, beq_self_eq_true, Int.toNat_natCast, Bool.or_false, Bool.or_true, Bool.false_or, Bool.true_or, Bool.and_false, Bool.false_and, fx_0_events, fx_0_days, ii_0_non, ii_0_bl, ii_0_int, ii_0_str, ii_0_tup, ii_0_lst, ii_0_nms, ii_0_c0, ii_1_non, ii_1_bl, ii_1_int, ii_1_str, ii_1_tup, ii_1_lst, ii_1_nms, ii_1_c0, ii_2_non, ii_2_bl, ii_2_int, ii_2_str, ii_2_tup, ii_2_lst, ii_2_nms, ii_2_c0, ii_3_non, ii_3_bl, ii_3_int, ii_3_str, ii_3_tup, ii_3_lst, ii_3_nms, ii_3_c0, ii_4_non, ii_4_bl, ii_4_int, ii_4_str, ii_4_tup, ii_4_lst, ii_4_nms, ii_4_c0, fr_0, in_0, if_0_events, pf_0_events, if_0_days, pf_0_days, ix_3_1, ix_3_2, ix_3_3, ix_3_4, ix_3_5, ix_3_6, ix_3_7, ix_3_8, ix_3_9, ix_3_10, ex_3_what, ex_3_number, Int.cast_ofNat_Int, Int.natCast_one, Int.natCast_zero, *])
local macro_rules | `(tactic| walk_at "io") => `(tactic| first | rfl | assumption)
theorem need_late_ok {l : Int} {P : EV → Env' → Prop} {X : Exx} (hl : 0 ≤ l) (k : ∀ t, P (.val .non) t) : runF F_need_late [.val (.int l)] P X := by
  apply body_K
  unfold B_need_late
  walk_at "sx"
  apply body_K
  unfold B_is_number
  walk_at "sx"
  refine whole_int fun t => ?_
  have : decide ((0 : Int) ≤ l) = true := decide_eq_true hl
  walk_at "sxh"
theorem need_period_ok {p : Int} {P : EV → Env' → Prop} {X : Exx} (h2 : 2 ≤ p) (h3 : p ≤ 1440) (k : ∀ t, P (.val .non) t) : runF F_need_period [.val (.int p)] P X := by
  apply body_K
  unfold B_need_period
  walk_at "sx"
  refine whole_int fun t => ?_
  have a : decide ((2 : Int) ≤ p) = true := decide_eq_true h2
  have b : decide (p ≤ (1440 : Int)) = true := decide_eq_true h3
  walk_at "sxh"
def fitsL (most l : Int) (dss : List (List (Option Int))) (n : Nat) : List Int := ((List.range (most - 1).toNat).filter fun i : Nat => okB (2 + (i : Int)) l dss n).map fun i : Nat => 2 + (i : Int)
theorem spec_periods {css : List (List Nat)} {dss : List (List (Option Int))} {most l : Int} {P : EV → Env' → Prop} {X : Exx} (h2 : 2 ≤ most) (h3 : most ≤ 1440) (hl : 0 ≤ l) (hd : ∀ ts ∈ dss, ts.length = css.length) (hz : dss.length ≤ 10) (hc : css.length ≤ 1000)
    (k : ∀ t, P (.val (.tup ((fitsL most l dss css.length).map .int))) t) : runF F_periods_that_fit [.val (logV css dss), .val (.int most), .val (.int l)] P X := by
  apply body_K
  unfold B_periods_that_fit
  walk_at "sx"
  refine whole_int fun t => ?_
  have a : decide ((2 : Int) ≤ most) = true := decide_eq_true h2
  have b : decide (most ≤ (1440 : Int)) = true := decide_eq_true h3
  walk_at "sxh"
  refine need_late_ok hl fun t => ?_
  walk_at "sx"
  refine andK_i (by omega) ?_
  have e : intsD 2 (most + 1 - 2).toNat = (List.range (most - 1).toNat).map fun i : Nat => D.int (2 + (i : Int)) := by
    rw [show most + 1 - 2 = most - 1 by omega]; rfl
  rw [e]
  walk_at "sx"
  refine compF_K (fun i : Nat => D.int (2 + (i : Int))) (fun i : Nat => D.int (2 + (i : Int))) (fun i : Nat => okB (2 + (i : Int)) l dss css.length) (List.range (most - 1).toNat) (by rw [List.length_range]; omega) ?_ ?_
  · intro i hi acc Q hlen q1 q2
    clear k a b e
    walk_at "sx"
    refine spec_fits (by omega) hl hd hz hc fun t => ?_
    walk_at "sx"
    refine iteK_i (fun hb => ?_) fun hb => ?_ <;> (rw [hb] at q1 q2; walk_at "sxh"; first | exact q1 rfl | exact q2 rfl)
  · have e2 : ((List.range (most - 1).toNat).filter fun i : Nat => okB (2 + (i : Int)) l dss css.length).map (fun i : Nat => D.int (2 + (i : Int))) = (fitsL most l dss css.length).map .int := by
      unfold fitsL
      rw [List.map_map]; rfl
    rw [e2]
    walk_at "sx"
    exact k _
/-- the plan of one event -/
def planI (p l : Int) (T : List Int) : D := if T.isEmpty then .non else optI (leastM p l T)
def planL (p l : Int) (dss : List (List (Option Int))) (n : Nat) : List D := (List.range n).map fun a => planI p l (col dss a)
def planD (p l : Int) (dss : List (List (Option Int))) (n : Nat) : D := if okB p l dss n = true then .tup (planL p l dss n) else .non
theorem planL_s {p l : Int} {dss : List (List (Option Int))} {n : Nat} : planL p l dss (n + 1) = planL p l dss n ++ [planI p l (col dss n)] := by
  unfold planL
  rw [List.range_succ, List.map_append]; rfl
theorem planL_len {p l : Int} {dss : List (List (Option Int))} {n : Nat} : (planL p l dss n).length = n := by simp [planL]
theorem spec_planned {css : List (List Nat)} {dss : List (List (Option Int))} {p l : Int} {P : EV → Env' → Prop} {X : Exx} (h2 : 2 ≤ p) (h3 : p ≤ 1440) (hl : 0 ≤ l) (hd : ∀ ts ∈ dss, ts.length = css.length) (hz : dss.length ≤ 10) (hc : css.length ≤ 1000)
    (k : ∀ t, P (.val (planD p l dss css.length)) t) : runF F_planned [.val (logV css dss), .val (.int p), .val (.int l)] P X := by
  apply body_K
  unfold B_planned
  walk_at "sx"
  refine need_period_ok h2 h3 fun t => ?_
  walk_at "sx"
  refine need_late_ok hl fun t => ?_
  walk_at "sx"
  refine spec_fits h2 hl hd hz hc fun t => ?_
  walk_at "sx"
  cases hok : okB p l dss css.length with
  | false =>
    have : planD p l dss css.length = .non := by unfold planD; rw [hok]; simp
    rw [this] at k
    walk_at "sx"
    exact k _
  | true =>
    have : planD p l dss css.length = .tup (planL p l dss css.length) := by unfold planD; rw [hok]; simp
    rw [this] at k
    walk_at "sx"
    refine andK_i (by omega) ?_
    refine forL_K _ (fun j e => ∃ a4 a5 : En.Slot, e = [.val (logV css dss), .val (.int p), .val (.int l), .own (.lst (planL p l dss j)), a4, a5] ∧ a4.isIo = false ∧ a5.isIo = false) ⟨_, _, rfl, rfl, rfl⟩ ?_ ?_
    · rintro j d e hj ⟨a4, a5, rfl, h4, h5⟩
      obtain ⟨hj1, rfl⟩ := intsD_get hj
      rw [Int.toNat_natCast] at hj1
      rw [Int.zero_add]
      have hlen : (planL p l dss j).length < 100000 := by rw [planL_len]; omega
      clear hj
      walk_at "sxh"
      refine spec_times_seen hd hz hj1 fun t => ?_
      walk_at "sxh"
      have hcl := Nat.le_trans (col_len (dss := dss) (a := j)) hz
      have hs := planL_s (p := p) (l := l) (dss := dss) (n := j)
      cases hC : col dss j with
      | nil =>
        rw [hC] at hs
        have hs : _ = _ ++ [D.non] := hs
        have he : ((([] : List Int).map D.int).isEmpty) = true := rfl
        rw [he]
        walk_at "sx"
        refine andK_i hlen ?_
        exact ⟨_, _, by first | (rw [hs]; done) | (rw [hs]; rfl), by walk_at "io", by walk_at "io"⟩
      | cons x r =>
        rw [hC] at hs hcl
        have hs : _ = _ ++ [optI (leastM p l (x :: r))] := hs
        have he : (((x :: r).map D.int).isEmpty) = false := rfl
        rw [he]
        walk_at "sx"
        have hx : D.lst (D.int x :: r.map D.int) = D.lst ((x :: r).map D.int) := rfl
        rw [hx]
        refine spec_least_plan h2 hl (by simp) hcl fun t => ?_
        walk_at "sx"
        refine andK_i hlen ?_
        exact ⟨_, _, by first | (rw [hs]; done) | (rw [hs]; rfl), by walk_at "io", by walk_at "io"⟩
    · rintro e ⟨a4, a5, rfl, h4, h5⟩
      rw [intsD_len, Int.toNat_natCast]
      walk_at "sx"
      exact k _
end Lw
set_option Elab.async false
set_option linter.all false
set_option maxRecDepth 100000
set_option maxHeartbeats 4000000
namespace Lw
open PySem PySem.Spec L2 En
local macro_rules | `(tactic| walk_at "sx") => `(tactic| simp -dsimp (disch := omega) only [rngI2_K, srtKF_K, maxAF_K, dcF_K, keyK_i, keyK_s, o_abs, o_gcd, callLF_K, lamF_K, plK_b, capD_n, q_cap, capV_v, o_eql0, o_min, o_max, o_sltake, o_slten, o_sldrop, o_sltd, Int.reduceToNat, List.take_succ_cons, List.take_zero, List.drop_succ_cons, List.drop_zero, b_ft, b_tf, tupL_t, tupL_l, tupL_n, Option.getD_some, cmpF_K, mkK_K, insCP_i, idxP_n, idxP_l, tq_t, tq_c, varF_K, kvF_K, litF_K, binF_K, unF_K, unNF_K, nilL_K, consL_K, tupF_K, lstF_K, dnewK_K, dnewT_K, truF_K, blF_K, notT_K, andT_K, orT_K, andF_K, orF_K, notF_K, iteF_K, chainF_K, noO_K, someO_K, slF_K, idxF_K, appF_K, popF_K, popAF_K, extF_K, skipS_K, seqS_K, brkS_K, cntS_K, nevS_K, retS_K, dropS_K, ifS_K, asgS_K, patS_K, forS_K, seqI_K, enumI_K, rngI_K, yesT_K, nilP_K, consP_K, parS_K, tgtS_K, subG_K, nilA_K, consA_K, callF_K, mkF_K, setF_K, lcF_K, raiseS_K, aftK_K, optK_s, optK_n, optK_m, iteK_t, iteK_f, andK_t, varK_v, varK_o, varK_i, kvK_v, kvK_o, intK_v, blK_v, tblK_s, natK_v, newLK_v, lstK_o, lstK_i, obK_o, obK_i, insK_o, insK_i, o_add, o_sub, o_lt, o_le, o_gt, o_ge, o_neg, o_eqi, o_nei, o_eqs, o_nes, o_inn, o_iin, o_isn, o_itn, o_iln, o_ibn, o_icn, o_imn, o_ibb, o_iib, o_isb, o_inb, o_itb, o_imb, o_nnn, o_nin, o_nsn, o_ntn, o_nln, o_nbn, o_ncn, o_nbb, o_trb, o_trn, o_trl, o_trt, o_trm, o_tri, o_lnt, o_lnl, o_lnm, o_tul, o_tut, o_tum, o_lsl, o_lst, o_lsm, o_int, o_tnm, o_itl, o_itt, o_itm, o_ix, o_ixl, o_ix0, o_ix1, o_ix2, o_ix3, o_ix4, o_ixl0, o_ixl1, o_mul, o_mul', o_mod, o_div, settle_v, settle_o, q_settle, rd_v, q_rd, keep_v, keep_o, keep_n, av_v, av_o, av_n, fr_l, fr_k, fr_t, q_putv, q_putn, q_slo, q_bkr, q_retv, q_retn, q_reto, ob_own, ob_io, put_own, put_io, isOwn_v, isOwn_n, slotOf_v, refs_n, refs_v, refs_r, backE_n, backE_v, putEs_n, putEs_c, pput_nm, pput_tp, pput_tl, pputL_n, pputL_c, isIo_u, isIo_v, isIo_o, isIo_i, wipeE_n, wipeE_c, restE_n, q_rest, okW_n, q_okW, plain_u, plain_v, List.getElem?_cons_zero, List.getElem?_cons_succ, List.set_cons_zero, List.set_cons_succ, List.map_cons, List.map_nil, List.cons_append, List.nil_append, List.length_cons, List.length_nil, List.length_map, List.tail_cons, List.nodup_cons, List.nodup_nil, List.not_mem_nil, List.mem_cons, List.mem_singleton, List.replicate, Option.bind_some, Option.map_some, Option.bind_none, Option.map_none, cond_true, cond_false, Bool.not_true, Bool.not_false, Bool.true_and, Bool.and_true, Bool.and_self, decide_true, decide_false, not_false_eq_true, and_self, true_and, and_true, or_false, false_or, Nat.reduceAdd, Nat.reduceSub, Nat.reduceLeDiff, Nat.reduceLT, Nat.reduceEqDiff, Int.reduceLT, Int.reduceLE, Int.reduceNeg, Int.reduceEq, Nat.zero_le, Nat.le_refl, reduceCtorEq, eq_self, beq_self_eq_true, Int.toNat_natCast, Bool.or_false, Bool.or_true, Bool.false_or, Bool.true_or, Bool.and_false, Bool.false_and, fx_0_events, fx_0_days, ii_0_non, ii_0_bl, ii_0_int, ii_0_str, ii_0_tup, ii_0_lst, ii_0_nms, ii_0_c0, ii_1_non, ii_1_bl, ii_1_int, ii_1_str, ii_1_tup, ii_1_lst, ii_1_nms, ii_1_c0, ii_2_non, ii_2_bl, ii_2_int, ii_2_str, ii_2_tup, ii_2_lst, ii_2_nms, ii_2_c0, ii_3_non, ii_3_bl, ii_3_int, ii_3_str, ii_3_tup, ii_3_lst, ii_3_nms, ii_3_c0, ii_4_non, ii_4_bl, ii_4_int, ii_4_str, ii_4_tup, ii_4_lst, ii_4_nms, ii_4_c0, fr_0, in_0, if_0_events, pf_0_events, if_0_days, pf_0_days, ix_3_1, ix_3_2, ix_3_3, ix_3_4, ix_3_5, ix_3_6, ix_3_7, ix_3_8, ix_3_9, ix_3_10, ex_3_what, ex_3_number, Int.cast_ofNat_Int, Int.natCast_one, Int.natCast_zero])
local macro_rules | `(tactic| walk_at "sxh") => `(tactic| simp -dsimp (disch := omega) only [rngI2_K, srtKF_K, maxAF_K, dcF_K, keyK_i, keyK_s, o_abs, o_gcd, callLF_K, lamF_K, plK_b, capD_n, q_cap, capV_v, o_eql0, o_min, o_max, o_sltake, o_slten, o_sldrop, o_sltd, Int.reduceToNat, List.take_succ_cons, List.take_zero, List.drop_succ_cons, List.drop_zero, b_ft, b_tf, tupL_t, tupL_l, tupL_n, Option.getD_some, cmpF_K, mkK_K, insCP_i, idxP_n, idxP_l, tq_t, tq_c, varF_K, kvF_K, litF_K, binF_K, unF_K, unNF_K, nilL_K, consL_K, tupF_K, lstF_K, dnewK_K, dnewT_K, truF_K, blF_K, notT_K, andT_K, orT_K, andF_K, orF_K, notF_K, iteF_K, chainF_K, noO_K, someO_K, slF_K, idxF_K, appF_K, popF_K, popAF_K, extF_K, skipS_K, seqS_K, brkS_K, cntS_K, nevS_K, retS_K, dropS_K, ifS_K, asgS_K, patS_K, forS_K, seqI_K, enumI_K, rngI_K, yesT_K, nilP_K, consP_K, parS_K, tgtS_K, subG_K, nilA_K, consA_K, callF_K, mkF_K, setF_K, lcF_K, raiseS_K, aftK_K, optK_s, optK_n, optK_m, iteK_t, iteK_f, andK_t, varK_v, varK_o, varK_i, kvK_v, kvK_o, intK_v, blK_v, tblK_s, natK_v, newLK_v, lstK_o, lstK_i, obK_o, obK_i, insK_o, insK_i, o_add, o_sub, o_lt, o_le, o_gt, o_ge, o_neg, o_eqi, o_nei, o_eqs, o_nes, o_inn, o_iin, o_isn, o_itn, o_iln, o_ibn, o_icn, o_imn, o_ibb, o_iib, o_isb, o_inb, o_itb, o_imb, o_nnn, o_nin, o_nsn, o_ntn, o_nln, o_nbn, o_ncn, o_nbb, o_trb, o_trn, o_trl, o_trt, o_trm, o_tri, o_lnt, o_lnl, o_lnm, o_tul, o_tut, o_tum, o_lsl, o_lst, o_lsm, o_int, o_tnm, o_itl, o_itt, o_itm, o_ix, o_ixl, o_ix0, o_ix1, o_ix2, o_ix3, o_ix4, o_ixl0, o_ixl1, o_mul, o_mul', o_mod, o_div, settle_v, settle_o, q_settle, rd_v, q_rd, keep_v, keep_o, keep_n, av_v, av_o, av_n, fr_l, fr_k, fr_t, q_putv, q_putn, q_slo, q_bkr, q_retv, q_retn, q_reto, ob_own, ob_io, put_own, put_io, isOwn_v, isOwn_n, slotOf_v, refs_n, refs_v, refs_r, backE_n, backE_v, putEs_n, putEs_c, pput_nm, pput_tp, pput_tl, pputL_n, pputL_c, isIo_u, isIo_v, isIo_o, isIo_i, wipeE_n, wipeE_c, restE_n, q_rest, okW_n, q_okW, plain_u, plain_v, List.getElem?_cons_zero, List.getElem?_cons_succ, List.set_cons_zero, List.set_cons_succ, List.map_cons, List.map_nil, List.cons_append, List.nil_append, List.length_cons, List.length_nil, List.length_map, List.tail_cons, List.nodup_cons, List.nodup_nil, List.not_mem_nil, List.mem_cons, List.mem_singleton, List.replicate, Option.bind_some, Option.map_some, Option.bind_none, Option.map_none, cond_true, cond_false, Bool.not_true, Bool.not_false, Bool.true_and, Bool.and_true, Bool.and_self, decide_true, decide_false, not_false_eq_true, and_self, true_and, and_true, or_false, false_or, Nat.reduceAdd, Nat.reduceSub, Nat.reduceLeDiff, Nat.reduceLT, Nat.reduceEqDiff, Int.reduceLT, Int.reduceLE, Int.reduceNeg, Int.reduceEq, Nat.zero_le, Nat.le_refl, reduceCtorEq, eq_self, beq_self_eq_true, Int.toNat_natCast, Bool.or_false, Bool.or_true, Bool.false_or, Bool.true_or, Bool.and_false, Bool.false_and, fx_0_events, fx_0_days, ii_0_non, ii_0_bl, ii_0_int, ii_0_str, ii_0_tup, ii_0_lst, ii_0_nms, ii_0_c0, ii_1_non, ii_1_bl, ii_1_int, ii_1_str, ii_1_tup, ii_1_lst, ii_1_nms, ii_1_c0, ii_2_non, ii_2_bl, ii_2_int, ii_2_str, ii_2_tup, ii_2_lst, ii_2_nms, ii_2_c0, ii_3_non, ii_3_bl, ii_3_int, ii_3_str, ii_3_tup, ii_3_lst, ii_3_nms, ii_3_c0, ii_4_non, ii_4_bl, ii_4_int, ii_4_str, ii_4_tup, ii_4_lst, ii_4_nms, ii_4_c0, fr_0, in_0, if_0_events, pf_0_events, if_0_days, pf_0_days, ix_3_1, ix_3_2, ix_3_3, ix_3_4, ix_3_5, ix_3_6, ix_3_7, ix_3_8, ix_3_9, ix_3_10, ex_3_what, ex_3_number, Int.cast_ofNat_Int, Int.natCast_one, Int.natCast_zero, *])
local macro_rules | `(tactic| walk_at "io") => `(tactic| first | rfl | assumption)
/-- all minutes that fit -/
def goodL (p l : Int) (T : List Int) (n : Nat) : List Int := ((List.range n).filter fun i : Nat => fit p l T (i : Int)).map Int.ofNat
theorem goodL_s {p l : Int} {T : List Int} {n : Nat} : goodL p l T (n + 1) = goodL p l T n ++ if fit p l T (n : Int) = true then [(n : Int)] else [] := by
  unfold goodL
  rw [List.range_succ, List.filter_append, List.map_append]
  congr 1
  by_cases h : fit p l T (n : Int) = true <;> simp [h]
theorem goodL_len {p l : Int} {T : List Int} {n : Nat} : (goodL p l T n).length ≤ n := by
  unfold goodL
  rw [List.length_map]
  exact Nat.le_trans (List.length_filter_le _ _) (by simp)
theorem good_least {p l : Int} {T : List Int} : leastM p l T = (goodL p l T p.toNat).head? := by
  unfold leastM goodL
  rw [List.head?_map, List.head?_filter]
theorem bad_nil {p l m : Int} {T : List Int} : (T.filter fun t => decide (l < (t - m) % p)).isEmpty = fit p l T m := by
  unfold fit
  induction T with
  | nil => rfl
  | cons t T ih =>
    by_cases h : l < (t - m) % p
    · rw [List.filter_cons_of_pos (by simpa using h), List.all_cons, decide_eq_false (by omega)]; rfl
    · rw [List.filter_cons_of_neg (by simpa using h), List.all_cons, decide_eq_true (show (t - m) % p ≤ l by omega), ih]; rfl
theorem spec_law_plan {css : List (List Nat)} {dss : List (List (Option Int))} {p l : Int} {P : EV → Env' → Prop} {X : Exx} (h2 : 2 ≤ p) (h3 : p ≤ 1440) (hd : ∀ ts ∈ dss, ts.length = css.length) (hz : dss.length ≤ 10) (hc : css.length ≤ 1000)
    (k : ∀ t, P (.val (planD p l dss css.length)) t) : runF F__law_plan [.val (logT css dss), .val (.int p), .val (.int l)] P X := by
  apply body_K
  unfold B__law_plan
  walk_at "sx"
  refine andK_i (by omega) ?_
  refine forL_K _ (fun j e => okB p l dss j = true ∧ ∃ a4 a5 a6 : En.Slot, e = [.val (logT css dss), .val (.int p), .val (.int l), .own (.lst (planL p l dss j)), a4, a5, a6, .un, .un] ∧ a4.isIo = false ∧ a5.isIo = false ∧ a6.isIo = false) ⟨rfl, _, _, _, rfl, rfl, rfl, rfl⟩ ?_ ?_
  · rintro j d e hj ⟨hok, a4, a5, a6, rfl, h4, h5, h6⟩
    obtain ⟨hj1, rfl⟩ := intsD_get hj
    rw [Int.toNat_natCast] at hj1
    rw [Int.zero_add]
    have hlen : (planL p l dss j).length < 100000 := by rw [planL_len]; omega
    have hcl := Nat.le_trans (col_len (dss := dss) (a := j)) hz
    have hs := planL_s (p := p) (l := l) (dss := dss) (n := j)
    clear hj
    walk_at "sxh"
    refine spec_law_times hd hz hj1 fun t => ?_
    generalize hT : col dss j = T at *
    clear hs
    walk_at "sxh"
    refine andK_i (by omega) ?_
    walk_at "sx"
    refine compL_K _ (fun i acc e => acc = (goodL p l T i).map .int ∧ ∃ s5 : En.Slot, e = [.val (logT css dss), .val (.int p), .val (.int l), .own (.lst (planL p l dss j)), .val (.int (j : Int)), s5, a6, .un, .un] ∧ (s5 = .own (.lst (T.map .int)) ∨ s5 = .val (.lst (T.map .int)))) ⟨rfl, _, rfl, .inl rfl⟩ ?_ ?_
    · rintro i d acc e hi ⟨rfl, s5, rfl, h5⟩
      obtain ⟨hi1, rfl⟩ := intsD_get hi
      rw [Int.zero_add]
      have hgl : (goodL p l T i).length < 100000 := by have := goodL_len (p := p) (l := l) (T := T) (n := i); omega
      have hb := bad_nil (p := p) (l := l) (m := (i : Int)) (T := T)
      have hgs := goodL_s (p := p) (l := l) (T := T) (n := i)
      clear hi k
      rcases h5 with rfl | rfl <;>
      · walk_at "sx"
        refine compF_K D.int D.int (fun t => decide (l < (t - (i : Int)) % p)) T (by omega) ?_ ?_
        · intro t ht acc Q hl q1 q2
          clear hgs hb hgl
          walk_at "sx"
          refine iteK_i (fun hb => ?_) fun hb => ?_ <;> (rw [hb] at q1 q2; walk_at "sxh"; first | exact q1 rfl | exact q2 rfl | done)
        · have he := eq_ints0 (T.filter fun t => decide (l < (t - (i : Int)) % p))
          rw [hb] at he
          clear hb
          walk_at "sxh"
          refine iteK_i (fun hf => ?_) fun hf => ?_
          · rw [if_pos hf] at hgs
            walk_at "sx"
            refine andK_i hgl ?_
            walk_at "sx"
            exact ⟨by rw [hgs]; simp, _, rfl, .inr rfl⟩
          · rw [if_neg (by rw [hf]; simp)] at hgs
            walk_at "sx"
            exact ⟨by rw [hgs]; simp, _, rfl, .inr rfl⟩
    · rintro acc e ⟨rfl, s5, rfl, h5⟩
      rw [intsD_len]
      have hl := good_least (p := p) (l := l) (T := T)
      have e1 := eq_ints0 (goodL p l T p.toNat)
      have e2 := ne_ints0 T
      have hs := planL_s (p := p) (l := l) (dss := dss) (n := j)
      have hos := okB_s (p := p) (l := l) (dss := dss) (n := j)
      have hlt := okB_lt (p := p) (l := l) (dss := dss) hj1
      rw [hT] at hs hos hlt
      rw [hok, hl] at hos
      rw [hl] at hlt
      unfold planI at hs
      rw [hl] at hs
      clear hl
      generalize goodL p l T p.toNat = G at *
      have hE : ∀ s5' : En.Slot, s5' = s5 → s5.isIo = false := fun _ _ => by rcases h5 with rfl | rfl <;> rfl
      cases G with
      | nil =>
        have hf := hlt rfl
        have : planD p l dss css.length = .non := by unfold planD; rw [hf]; simp
        rw [this] at k
        clear hs hos hlt hok hE hf this
        have e1 : eqD (.lst (([] : List Int).map .int)) (.lst []) = some (.bl true) := e1
        rcases h5 with rfl | rfl <;> (walk_at "sxh")
      | cons g r =>
        have hok' : okB p l dss (j + 1) = true := hos
        have e1 : eqD (.lst (D.int g :: r.map .int)) (.lst []) = some (.bl false) := e1
        clear hos hlt k hok
        cases T with
        | nil =>
          have e2 : neD (.lst []) (.lst []) = some (.bl false) := e2
          have hs : _ = _ ++ [D.non] := hs
          rcases h5 with rfl | rfl <;>
          · walk_at "sxh"
            exact ⟨_, _, _, by first | (rw [hs]; done) | (rw [hs]; rfl) | rfl, by walk_at "io", by walk_at "io", by walk_at "io"⟩
        | cons x T =>
          have e2 : neD (.lst (D.int x :: T.map .int)) (.lst []) = some (.bl true) := e2
          have hs : _ = _ ++ [D.int g] := hs
          rcases h5 with rfl | rfl <;>
          · walk_at "sxh"
            exact ⟨_, _, _, by first | (rw [hs]; done) | (rw [hs]; rfl) | rfl, by walk_at "io", by walk_at "io", by walk_at "io"⟩
  · rintro e ⟨hok, a4, a5, a6, rfl, h4, h5, h6⟩
    rw [intsD_len, Int.toNat_natCast] at hok ⊢
    have : planD p l dss css.length = .tup (planL p l dss css.length) := by unfold planD; rw [hok]; simp
    rw [this] at k
    walk_at "sx"
    exact k _
end Lw
set_option Elab.async false
set_option linter.all false
set_option maxRecDepth 100000
set_option maxHeartbeats 4000000
namespace Lw
open PySem PySem.Spec L2 En
local macro_rules | `(tactic| walk_at "sx") => `(tactic| simp -dsimp (disch := omega) only [rngI2_K, srtKF_K, maxAF_K, dcF_K, keyK_i, keyK_s, o_abs, o_gcd, callLF_K, lamF_K, plK_b, capD_n, q_cap, capV_v, o_eql0, o_min, o_max, o_sltake, o_slten, o_sldrop, o_sltd, Int.reduceToNat, List.take_succ_cons, List.take_zero, List.drop_succ_cons, List.drop_zero, b_ft, b_tf, tupL_t, tupL_l, tupL_n, Option.getD_some, cmpF_K, mkK_K, insCP_i, idxP_n, idxP_l, tq_t, tq_c, varF_K, kvF_K, litF_K, binF_K, unF_K, unNF_K, nilL_K, consL_K, tupF_K, lstF_K, dnewK_K, dnewT_K, truF_K, blF_K, notT_K, andT_K, orT_K, andF_K, orF_K, notF_K, iteF_K, chainF_K, noO_K, someO_K, slF_K, idxF_K, appF_K, popF_K, popAF_K, extF_K, skipS_K, seqS_K, brkS_K, cntS_K, nevS_K, retS_K, dropS_K, ifS_K, asgS_K, patS_K, forS_K, seqI_K, enumI_K, rngI_K, yesT_K, nilP_K, consP_K, parS_K, tgtS_K, subG_K, nilA_K, consA_K, callF_K, mkF_K, setF_K, lcF_K, raiseS_K, aftK_K, optK_s, optK_n, optK_m, iteK_t, iteK_f, andK_t, varK_v, varK_o, varK_i, kvK_v, kvK_o, intK_v, blK_v, tblK_s, natK_v, newLK_v, lstK_o, lstK_i, obK_o, obK_i, insK_o, insK_i, o_add, o_sub, o_lt, o_le, o_gt, o_ge, o_neg, o_eqi, o_nei, o_eqs, o_nes, o_inn, o_iin, o_isn, o_itn, o_iln, o_ibn, o_icn, o_imn, o_ibb, o_iib, o_isb, o_inb, o_itb, o_imb, o_nnn, o_nin, o_nsn, o_ntn, o_nln, o_nbn, o_ncn, o_nbb, o_trb, o_trn, o_trl, o_trt, o_trm, o_tri, o_lnt, o_lnl, o_lnm, o_tul, o_tut, o_tum, o_lsl, o_lst, o_lsm, o_int, o_tnm, o_itl, o_itt, o_itm, o_ix, o_ixl, o_ix0, o_ix1, o_ix2, o_ix3, o_ix4, o_ixl0, o_ixl1, o_mul, o_mul', o_mod, o_div, settle_v, settle_o, q_settle, rd_v, q_rd, keep_v, keep_o, keep_n, av_v, av_o, av_n, fr_l, fr_k, fr_t, q_putv, q_putn, q_slo, q_bkr, q_retv, q_retn, q_reto, ob_own, ob_io, put_own, put_io, isOwn_v, isOwn_n, slotOf_v, refs_n, refs_v, refs_r, backE_n, backE_v, putEs_n, putEs_c, pput_nm, pput_tp, pput_tl, pputL_n, pputL_c, isIo_u, isIo_v, isIo_o, isIo_i, wipeE_n, wipeE_c, restE_n, q_rest, okW_n, q_okW, plain_u, plain_v, List.getElem?_cons_zero, List.getElem?_cons_succ, List.set_cons_zero, List.set_cons_succ, List.map_cons, List.map_nil, List.cons_append, List.nil_append, List.length_cons, List.length_nil, List.length_map, List.tail_cons, List.nodup_cons, List.nodup_nil, List.not_mem_nil, List.mem_cons, List.mem_singleton, List.replicate, Option.bind_some, Option.map_some, Option.bind_none, Option.map_none, cond_true, cond_false, Bool.not_true, Bool.not_false, Bool.true_and, Bool.and_true, Bool.and_self, decide_true, decide_false, not_false_eq_true, and_self, true_and, and_true, or_false, false_or, Nat.reduceAdd, Nat.reduceSub, Nat.reduceLeDiff, Nat.reduceLT, Nat.reduceEqDiff, Int.reduceLT, Int.reduceLE, Int.reduceNeg, Int.reduceEq, Nat.zero_le, Nat.le_refl, reduceCtorEq, eq_self, beq_self_eq_true, Int.toNat_natCast, Bool.or_false, Bool.or_true, Bool.false_or, Bool.true_or, Bool.and_false, Bool.false_and, fx_0_events, fx_0_days, ii_0_non, ii_0_bl, ii_0_int, ii_0_str, ii_0_tup, ii_0_lst, ii_0_nms, ii_0_c0, ii_1_non, ii_1_bl, ii_1_int, ii_1_str, ii_1_tup, ii_1_lst, ii_1_nms, ii_1_c0, ii_2_non, ii_2_bl, ii_2_int, ii_2_str, ii_2_tup, ii_2_lst, ii_2_nms, ii_2_c0, ii_3_non, ii_3_bl, ii_3_int, ii_3_str, ii_3_tup, ii_3_lst, ii_3_nms, ii_3_c0, ii_4_non, ii_4_bl, ii_4_int, ii_4_str, ii_4_tup, ii_4_lst, ii_4_nms, ii_4_c0, fr_0, in_0, if_0_events, pf_0_events, if_0_days, pf_0_days, ix_3_1, ix_3_2, ix_3_3, ix_3_4, ix_3_5, ix_3_6, ix_3_7, ix_3_8, ix_3_9, ix_3_10, ex_3_what, ex_3_number, Int.cast_ofNat_Int, Int.natCast_one, Int.natCast_zero])
local macro_rules | `(tactic| walk_at "sxh") => `(tactic| simp -dsimp (disch := omega) only [rngI2_K, srtKF_K, maxAF_K, dcF_K, keyK_i, keyK_s, o_abs, o_gcd, callLF_K, lamF_K, plK_b, capD_n, q_cap, capV_v, o_eql0, o_min, o_max, o_sltake, o_slten, o_sldrop, o_sltd, Int.reduceToNat, List.take_succ_cons, List.take_zero, List.drop_succ_cons, List.drop_zero, b_ft, b_tf, tupL_t, tupL_l, tupL_n, Option.getD_some, cmpF_K, mkK_K, insCP_i, idxP_n, idxP_l, tq_t, tq_c, varF_K, kvF_K, litF_K, binF_K, unF_K, unNF_K, nilL_K, consL_K, tupF_K, lstF_K, dnewK_K, dnewT_K, truF_K, blF_K, notT_K, andT_K, orT_K, andF_K, orF_K, notF_K, iteF_K, chainF_K, noO_K, someO_K, slF_K, idxF_K, appF_K, popF_K, popAF_K, extF_K, skipS_K, seqS_K, brkS_K, cntS_K, nevS_K, retS_K, dropS_K, ifS_K, asgS_K, patS_K, forS_K, seqI_K, enumI_K, rngI_K, yesT_K, nilP_K, consP_K, parS_K, tgtS_K, subG_K, nilA_K, consA_K, callF_K, mkF_K, setF_K, lcF_K, raiseS_K, aftK_K, optK_s, optK_n, optK_m, iteK_t, iteK_f, andK_t, varK_v, varK_o, varK_i, kvK_v, kvK_o, intK_v, blK_v, tblK_s, natK_v, newLK_v, lstK_o, lstK_i, obK_o, obK_i, insK_o, insK_i, o_add, o_sub, o_lt, o_le, o_gt, o_ge, o_neg, o_eqi, o_nei, o_eqs, o_nes, o_inn, o_iin, o_isn, o_itn, o_iln, o_ibn, o_icn, o_imn, o_ibb, o_iib, o_isb, o_inb, o_itb, o_imb, o_nnn, o_nin, o_nsn, o_ntn, o_nln, o_nbn, o_ncn, o_nbb, o_trb, o_trn, o_trl, o_trt, o_trm, o_tri, o_lnt, o_lnl, o_lnm, o_tul, o_tut, o_tum, o_lsl, o_lst, o_lsm, o_int, o_tnm, o_itl, o_itt, o_itm, o_ix, o_ixl, o_ix0, o_ix1, o_ix2, o_ix3, o_ix4, o_ixl0, o_ixl1, o_mul, o_mul', o_mod, o_div, settle_v, settle_o, q_settle, rd_v, q_rd, keep_v, keep_o, keep_n, av_v, av_o, av_n, fr_l, fr_k, fr_t, q_putv, q_putn, q_slo, q_bkr, q_retv, q_retn, q_reto, ob_own, ob_io, put_own, put_io, isOwn_v, isOwn_n, slotOf_v, refs_n, refs_v, refs_r, backE_n, backE_v, putEs_n, putEs_c, pput_nm, pput_tp, pput_tl, pputL_n, pputL_c, isIo_u, isIo_v, isIo_o, isIo_i, wipeE_n, wipeE_c, restE_n, q_rest, okW_n, q_okW, plain_u, plain_v, List.getElem?_cons_zero, List.getElem?_cons_succ, List.set_cons_zero, List.set_cons_succ, List.map_cons, List.map_nil, List.cons_append, List.nil_append, List.length_cons, List.length_nil, List.length_map, List.tail_cons, List.nodup_cons, List.nodup_nil, List.not_mem_nil, List.mem_cons, List.mem_singleton, List.replicate, Option.bind_some, Option.map_some, Option.bind_none, Option.map_none, cond_true, cond_false, Bool.not_true, Bool.not_false, Bool.true_and, Bool.and_true, Bool.and_self, decide_true, decide_false, not_false_eq_true, and_self, true_and, and_true, or_false, false_or, Nat.reduceAdd, Nat.reduceSub, Nat.reduceLeDiff, Nat.reduceLT, Nat.reduceEqDiff, Int.reduceLT, Int.reduceLE, Int.reduceNeg, Int.reduceEq, Nat.zero_le, Nat.le_refl, reduceCtorEq, eq_self, beq_self_eq_true, Int.toNat_natCast, Bool.or_false, Bool.or_true, Bool.false_or, Bool.true_or, Bool.and_false, Bool.false_and, fx_0_events, fx_0_days, ii_0_non, ii_0_bl, ii_0_int, ii_0_str, ii_0_tup, ii_0_lst, ii_0_nms, ii_0_c0, ii_1_non, ii_1_bl, ii_1_int, ii_1_str, ii_1_tup, ii_1_lst, ii_1_nms, ii_1_c0, ii_2_non, ii_2_bl, ii_2_int, ii_2_str, ii_2_tup, ii_2_lst, ii_2_nms, ii_2_c0, ii_3_non, ii_3_bl, ii_3_int, ii_3_str, ii_3_tup, ii_3_lst, ii_3_nms, ii_3_c0, ii_4_non, ii_4_bl, ii_4_int, ii_4_str, ii_4_tup, ii_4_lst, ii_4_nms, ii_4_c0, fr_0, in_0, if_0_events, pf_0_events, if_0_days, pf_0_days, ix_3_1, ix_3_2, ix_3_3, ix_3_4, ix_3_5, ix_3_6, ix_3_7, ix_3_8, ix_3_9, ix_3_10, ex_3_what, ex_3_number, Int.cast_ofNat_Int, Int.natCast_one, Int.natCast_zero, *])
local macro_rules | `(tactic| walk_at "io") => `(tactic| first | rfl | assumption)
def hd0 (T : List Int) : Int := T.headD 0
def gI (T U : List Int) (g : Nat) : Nat := U.foldl (fun g t => Nat.gcd g (t - hd0 T).natAbs) g
def stepL (dss : List (List (Option Int))) (n : Nat) : Nat := (List.range n).foldl (fun g a => gI (col dss a) (col dss a) g) 0
theorem stepL_s {dss : List (List (Option Int))} {n : Nat} : stepL dss (n + 1) = gI (col dss n) (col dss n) (stepL dss n) := by
  unfold stepL
  rw [List.range_succ, List.foldl_append]; rfl
theorem gI_s {T U : List Int} {g : Nat} {t : Int} : gI T (U ++ [t]) g = Nat.gcd (gI T U g) (t - hd0 T).natAbs := by
  unfold gI
  rw [List.foldl_append]; rfl
theorem ix_hd {T : List Int} {t : Int} {j : Nat} (h : T[j]? = some t) : ixD (.lst (T.map .int)) (.int 0) = some (.int (hd0 T)) := by
  cases T with
  | nil => cases h
  | cons x T => exact o_ixl0
theorem spec_common {css : List (List Nat)} {dss : List (List (Option Int))} {P : EV → Env' → Prop} {X : Exx} (hd : ∀ ts ∈ dss, ts.length = css.length) (hz : dss.length ≤ 10) (hc : css.length ≤ 1000)
    (k : ∀ t, P (.val (.int (stepL dss css.length : Nat))) t) : runF F_common_step [.val (logV css dss)] P X := by
  apply body_K
  unfold B_common_step
  walk_at "sx"
  refine andK_i (by omega) ?_
  refine forL_K _ (fun j e => ∃ a2 a3 a4 : En.Slot, e = [.val (logV css dss), .val (.int (stepL dss j : Nat)), a2, a3, a4] ∧ a2.isIo = false ∧ a3.isIo = false ∧ a4.isIo = false) ⟨_, _, _, rfl, rfl, rfl, rfl⟩ ?_ ?_
  · rintro j d e hj ⟨a2, a3, a4, rfl, h2, h3, h4⟩
    obtain ⟨hj1, rfl⟩ := intsD_get hj
    rw [Int.toNat_natCast] at hj1
    rw [Int.zero_add]
    clear hj
    walk_at "sxh"
    refine spec_times_seen hd hz hj1 fun t => ?_
    have hs := stepL_s (dss := dss) (n := j)
    generalize hT : col dss j = T at *
    clear hs
    walk_at "sxh"
    refine forL_K _ (fun i e => ∃ a4 : En.Slot, e = [.val (logV css dss), .val (.int (gI T (T.take i) (stepL dss j) : Nat)), .val (.int (j : Int)), .val (.lst (T.map .int)), a4] ∧ a4.isIo = false) ⟨_, rfl, h4⟩ ?_ ?_
    · clear h4
      rintro i d e hi ⟨a4, rfl, h4⟩
      rw [List.getElem?_map] at hi
      obtain ⟨t, ht, rfl⟩ := Option.map_eq_some_iff.mp hi
      clear hi
      have h0 := ix_hd ht
      have htk : T.take (i + 1) = T.take i ++ [t] := by rw [List.take_add_one, ht]; rfl
      have hg : gI T (T.take (i + 1)) (stepL dss j) = Nat.gcd (gI T (T.take i) (stepL dss j)) (t - hd0 T).natAbs := by rw [htk, gI_s]
      rw [hg]
      clear htk hg hT
      walk_at "sxh"
      rw [Int.natAbs_natCast]
      exact ⟨_, rfl, rfl⟩
    · rintro e ⟨a4, rfl, h4⟩
      rw [List.length_map, List.take_length]
      exact ⟨_, _, _, by first | (rw [stepL_s, hT]; done) | (rw [stepL_s, hT]; rfl), by walk_at "io", by walk_at "io", by walk_at "io"⟩
  · rintro e ⟨a2, a3, a4, rfl, h2, h3, h4⟩
    rw [intsD_len, Int.toNat_natCast]
    walk_at "sx"
    exact k _
theorem abs_nat (i : Int) : (if i < 0 then -i else i) = (i.natAbs : Int) := by split <;> omega
theorem spec_law_step {css : List (List Nat)} {dss : List (List (Option Int))} {P : EV → Env' → Prop} {X : Exx} (hd : ∀ ts ∈ dss, ts.length = css.length) (hz : dss.length ≤ 10) (hc : css.length ≤ 1000)
    (k : ∀ t, P (.val (.int (stepL dss css.length : Nat))) t) : runF F__law_step [.val (logT css dss)] P X := by
  apply body_K
  unfold B__law_step
  walk_at "sx"
  refine andK_i (by omega) ?_
  refine forL_K _ (fun j e => ∃ a2 a3 a4 a5 a6 : En.Slot, e = [.val (logT css dss), .val (.int (stepL dss j : Nat)), a2, a3, a4, a5, a6] ∧ a2.isIo = false ∧ a3.isIo = false ∧ a4.isIo = false ∧ a5.isIo = false ∧ a6.isIo = false) ⟨_, _, _, _, _, rfl, rfl, rfl, rfl, rfl, rfl⟩ ?_ ?_
  · rintro j d e hj ⟨a2, a3, a4, a5, a6, rfl, h2, h3, h4, h5, h6⟩
    obtain ⟨hj1, rfl⟩ := intsD_get hj
    rw [Int.toNat_natCast] at hj1
    rw [Int.zero_add]
    clear hj
    walk_at "sxh"
    refine spec_law_times hd hz hj1 fun t => ?_
    generalize hT : col dss j = T at *
    walk_at "sxh"
    refine forL_K _ (fun i e => ∃ a4 a5 a6 : En.Slot, e = [.val (logT css dss), .val (.int (gI T (T.take i) (stepL dss j) : Nat)), .val (.int (j : Int)), .val (.lst (T.map .int)), a4, a5, a6] ∧ a4.isIo = false ∧ a5.isIo = false ∧ a6.isIo = false) ⟨_, _, _, rfl, h4, h5, h6⟩ ?_ ?_
    · clear h4 h5 h6
      rintro i d e hi ⟨a4, a5, a6, rfl, h4, h5, h6⟩
      rw [List.getElem?_map] at hi
      obtain ⟨t, ht, rfl⟩ := Option.map_eq_some_iff.mp hi
      clear hi
      have h0 := ix_hd ht
      have htk : T.take (i + 1) = T.take i ++ [t] := by rw [List.take_add_one, ht]; rfl
      have hg : gI T (T.take (i + 1)) (stepL dss j) = Nat.gcd (gI T (T.take i) (stepL dss j)) (t - hd0 T).natAbs := by rw [htk, gI_s]
      rw [hg]
      clear htk hg hT k
      generalize gI T (T.take i) (stepL dss j) = g at *
      walk_at "sxh"
      rw [abs_nat]
      generalize (t - hd0 T).natAbs = b at *
      refine while_K (fun n e => ∃ a : Nat, Nat.gcd a n = Nat.gcd g b ∧ e = [.val (logT css dss), .val (.int (g : Int)), .val (.int (j : Int)), .val (.lst (T.map .int)), .val (.int t), .val (.int (a : Int)), .val (.int (n : Int))]) b ⟨g, rfl, rfl⟩ ?_
      rintro n e ⟨a, hga, rfl⟩
      walk_at "sx"
      by_cases hn : n = 0
      · subst hn
        have : a = Nat.gcd g b := by rw [← hga, Nat.gcd_zero_right]
        subst this
        have hz0 : decide (((0 : Nat) : Int) = 0) = true := rfl
        walk_at "sxh"
        exact ⟨_, _, _, rfl, rfl, rfl, rfl⟩
      · have hz0 : decide ((n : Int) = 0) = false := decide_eq_false (by omega)
        have hm : (a : Int) % (n : Int) = ((a % n : Nat) : Int) := by omega
        walk_at "sxh"
        exact ⟨a % n, Nat.mod_lt _ (by omega), n, by rw [← hga, Nat.gcd_comm a n, Nat.gcd_rec n a, Nat.gcd_comm], rfl⟩
    · rintro e ⟨a4, a5, a6, rfl, h4, h5, h6⟩
      rw [List.length_map, List.take_length]
      exact ⟨_, _, _, _, _, by first | (rw [stepL_s, hT]; done) | (rw [stepL_s, hT]; rfl), by walk_at "io", by walk_at "io", by walk_at "io", by walk_at "io", by walk_at "io"⟩
  · rintro e ⟨a2, a3, a4, a5, a6, rfl, h2, h3, h4, h5, h6⟩
    rw [intsD_len, Int.toNat_natCast]
    walk_at "sx"
    exact k _
end Lw
set_option Elab.async false
set_option linter.all false
set_option maxRecDepth 100000
set_option maxHeartbeats 4000000
namespace Lw
open PySem PySem.Spec L2 En
local macro_rules | `(tactic| walk_at "sx") => `(tactic| simp -dsimp (disch := omega) only [rngI2_K, srtKF_K, maxAF_K, dcF_K, keyK_i, keyK_s, o_abs, o_gcd, callLF_K, lamF_K, plK_b, capD_n, q_cap, capV_v, o_eql0, o_min, o_max, o_sltake, o_slten, o_sldrop, o_sltd, Int.reduceToNat, List.take_succ_cons, List.take_zero, List.drop_succ_cons, List.drop_zero, b_ft, b_tf, tupL_t, tupL_l, tupL_n, Option.getD_some, cmpF_K, mkK_K, insCP_i, idxP_n, idxP_l, tq_t, tq_c, varF_K, kvF_K, litF_K, binF_K, unF_K, unNF_K, nilL_K, consL_K, tupF_K, lstF_K, dnewK_K, dnewT_K, truF_K, blF_K, notT_K, andT_K, orT_K, andF_K, orF_K, notF_K, iteF_K, chainF_K, noO_K, someO_K, slF_K, idxF_K, appF_K, popF_K, popAF_K, extF_K, skipS_K, seqS_K, brkS_K, cntS_K, nevS_K, retS_K, dropS_K, ifS_K, asgS_K, patS_K, forS_K, seqI_K, enumI_K, rngI_K, yesT_K, nilP_K, consP_K, parS_K, tgtS_K, subG_K, nilA_K, consA_K, callF_K, mkF_K, setF_K, lcF_K, raiseS_K, aftK_K, optK_s, optK_n, optK_m, iteK_t, iteK_f, andK_t, varK_v, varK_o, varK_i, kvK_v, kvK_o, intK_v, blK_v, tblK_s, natK_v, newLK_v, lstK_o, lstK_i, obK_o, obK_i, insK_o, insK_i, o_add, o_sub, o_lt, o_le, o_gt, o_ge, o_neg, o_eqi, o_nei, o_eqs, o_nes, o_inn, o_iin, o_isn, o_itn, o_iln, o_ibn, o_icn, o_imn, o_ibb, o_iib, o_isb, o_inb, o_itb, o_imb, o_nnn, o_nin, o_nsn, o_ntn, o_nln, o_nbn, o_ncn, o_nbb, o_trb, o_trn, o_trl, o_trt, o_trm, o_tri, o_lnt, o_lnl, o_lnm, o_tul, o_tut, o_tum, o_lsl, o_lst, o_lsm, o_int, o_tnm, o_itl, o_itt, o_itm, o_ix, o_ixl, o_ix0, o_ix1, o_ix2, o_ix3, o_ix4, o_ixl0, o_ixl1, o_mul, o_mul', o_mod, o_div, settle_v, settle_o, q_settle, rd_v, q_rd, keep_v, keep_o, keep_n, av_v, av_o, av_n, fr_l, fr_k, fr_t, q_putv, q_putn, q_slo, q_bkr, q_retv, q_retn, q_reto, ob_own, ob_io, put_own, put_io, isOwn_v, isOwn_n, slotOf_v, refs_n, refs_v, refs_r, backE_n, backE_v, putEs_n, putEs_c, pput_nm, pput_tp, pput_tl, pputL_n, pputL_c, isIo_u, isIo_v, isIo_o, isIo_i, wipeE_n, wipeE_c, restE_n, q_rest, okW_n, q_okW, plain_u, plain_v, List.getElem?_cons_zero, List.getElem?_cons_succ, List.set_cons_zero, List.set_cons_succ, List.map_cons, List.map_nil, List.cons_append, List.nil_append, List.length_cons, List.length_nil, List.length_map, List.tail_cons, List.nodup_cons, List.nodup_nil, List.not_mem_nil, List.mem_cons, List.mem_singleton, List.replicate, Option.bind_some, Option.map_some, Option.bind_none, Option.map_none, cond_true, cond_false, Bool.not_true, Bool.not_false, Bool.true_and, Bool.and_true, Bool.and_self, decide_true, decide_false, not_false_eq_true, and_self, true_and, and_true, or_false, false_or, Nat.reduceAdd, Nat.reduceSub, Nat.reduceLeDiff, Nat.reduceLT, Nat.reduceEqDiff, Int.reduceLT, Int.reduceLE, Int.reduceNeg, Int.reduceEq, Nat.zero_le, Nat.le_refl, reduceCtorEq, eq_self, beq_self_eq_true, Int.toNat_natCast, Bool.or_false, Bool.or_true, Bool.false_or, Bool.true_or, Bool.and_false, Bool.false_and, fx_0_events, fx_0_days, ii_0_non, ii_0_bl, ii_0_int, ii_0_str, ii_0_tup, ii_0_lst, ii_0_nms, ii_0_c0, ii_1_non, ii_1_bl, ii_1_int, ii_1_str, ii_1_tup, ii_1_lst, ii_1_nms, ii_1_c0, ii_2_non, ii_2_bl, ii_2_int, ii_2_str, ii_2_tup, ii_2_lst, ii_2_nms, ii_2_c0, ii_3_non, ii_3_bl, ii_3_int, ii_3_str, ii_3_tup, ii_3_lst, ii_3_nms, ii_3_c0, ii_4_non, ii_4_bl, ii_4_int, ii_4_str, ii_4_tup, ii_4_lst, ii_4_nms, ii_4_c0, fr_0, in_0, if_0_events, pf_0_events, if_0_days, pf_0_days, ix_3_1, ix_3_2, ix_3_3, ix_3_4, ix_3_5, ix_3_6, ix_3_7, ix_3_8, ix_3_9, ix_3_10, ex_3_what, ex_3_number, Int.cast_ofNat_Int, Int.natCast_one, Int.natCast_zero])
local macro_rules | `(tactic| walk_at "sxh") => `(tactic| simp -dsimp (disch := omega) only [rngI2_K, srtKF_K, maxAF_K, dcF_K, keyK_i, keyK_s, o_abs, o_gcd, callLF_K, lamF_K, plK_b, capD_n, q_cap, capV_v, o_eql0, o_min, o_max, o_sltake, o_slten, o_sldrop, o_sltd, Int.reduceToNat, List.take_succ_cons, List.take_zero, List.drop_succ_cons, List.drop_zero, b_ft, b_tf, tupL_t, tupL_l, tupL_n, Option.getD_some, cmpF_K, mkK_K, insCP_i, idxP_n, idxP_l, tq_t, tq_c, varF_K, kvF_K, litF_K, binF_K, unF_K, unNF_K, nilL_K, consL_K, tupF_K, lstF_K, dnewK_K, dnewT_K, truF_K, blF_K, notT_K, andT_K, orT_K, andF_K, orF_K, notF_K, iteF_K, chainF_K, noO_K, someO_K, slF_K, idxF_K, appF_K, popF_K, popAF_K, extF_K, skipS_K, seqS_K, brkS_K, cntS_K, nevS_K, retS_K, dropS_K, ifS_K, asgS_K, patS_K, forS_K, seqI_K, enumI_K, rngI_K, yesT_K, nilP_K, consP_K, parS_K, tgtS_K, subG_K, nilA_K, consA_K, callF_K, mkF_K, setF_K, lcF_K, raiseS_K, aftK_K, optK_s, optK_n, optK_m, iteK_t, iteK_f, andK_t, varK_v, varK_o, varK_i, kvK_v, kvK_o, intK_v, blK_v, tblK_s, natK_v, newLK_v, lstK_o, lstK_i, obK_o, obK_i, insK_o, insK_i, o_add, o_sub, o_lt, o_le, o_gt, o_ge, o_neg, o_eqi, o_nei, o_eqs, o_nes, o_inn, o_iin, o_isn, o_itn, o_iln, o_ibn, o_icn, o_imn, o_ibb, o_iib, o_isb, o_inb, o_itb, o_imb, o_nnn, o_nin, o_nsn, o_ntn, o_nln, o_nbn, o_ncn, o_nbb, o_trb, o_trn, o_trl, o_trt, o_trm, o_tri, o_lnt, o_lnl, o_lnm, o_tul, o_tut, o_tum, o_lsl, o_lst, o_lsm, o_int, o_tnm, o_itl, o_itt, o_itm, o_ix, o_ixl, o_ix0, o_ix1, o_ix2, o_ix3, o_ix4, o_ixl0, o_ixl1, o_mul, o_mul', o_mod, o_div, settle_v, settle_o, q_settle, rd_v, q_rd, keep_v, keep_o, keep_n, av_v, av_o, av_n, fr_l, fr_k, fr_t, q_putv, q_putn, q_slo, q_bkr, q_retv, q_retn, q_reto, ob_own, ob_io, put_own, put_io, isOwn_v, isOwn_n, slotOf_v, refs_n, refs_v, refs_r, backE_n, backE_v, putEs_n, putEs_c, pput_nm, pput_tp, pput_tl, pputL_n, pputL_c, isIo_u, isIo_v, isIo_o, isIo_i, wipeE_n, wipeE_c, restE_n, q_rest, okW_n, q_okW, plain_u, plain_v, List.getElem?_cons_zero, List.getElem?_cons_succ, List.set_cons_zero, List.set_cons_succ, List.map_cons, List.map_nil, List.cons_append, List.nil_append, List.length_cons, List.length_nil, List.length_map, List.tail_cons, List.nodup_cons, List.nodup_nil, List.not_mem_nil, List.mem_cons, List.mem_singleton, List.replicate, Option.bind_some, Option.map_some, Option.bind_none, Option.map_none, cond_true, cond_false, Bool.not_true, Bool.not_false, Bool.true_and, Bool.and_true, Bool.and_self, decide_true, decide_false, not_false_eq_true, and_self, true_and, and_true, or_false, false_or, Nat.reduceAdd, Nat.reduceSub, Nat.reduceLeDiff, Nat.reduceLT, Nat.reduceEqDiff, Int.reduceLT, Int.reduceLE, Int.reduceNeg, Int.reduceEq, Nat.zero_le, Nat.le_refl, reduceCtorEq, eq_self, beq_self_eq_true, Int.toNat_natCast, Bool.or_false, Bool.or_true, Bool.false_or, Bool.true_or, Bool.and_false, Bool.false_and, fx_0_events, fx_0_days, ii_0_non, ii_0_bl, ii_0_int, ii_0_str, ii_0_tup, ii_0_lst, ii_0_nms, ii_0_c0, ii_1_non, ii_1_bl, ii_1_int, ii_1_str, ii_1_tup, ii_1_lst, ii_1_nms, ii_1_c0, ii_2_non, ii_2_bl, ii_2_int, ii_2_str, ii_2_tup, ii_2_lst, ii_2_nms, ii_2_c0, ii_3_non, ii_3_bl, ii_3_int, ii_3_str, ii_3_tup, ii_3_lst, ii_3_nms, ii_3_c0, ii_4_non, ii_4_bl, ii_4_int, ii_4_str, ii_4_tup, ii_4_lst, ii_4_nms, ii_4_c0, fr_0, in_0, if_0_events, pf_0_events, if_0_days, pf_0_days, ix_3_1, ix_3_2, ix_3_3, ix_3_4, ix_3_5, ix_3_6, ix_3_7, ix_3_8, ix_3_9, ix_3_10, ex_3_what, ex_3_number, Int.cast_ofNat_Int, Int.natCast_one, Int.natCast_zero, *])
local macro_rules | `(tactic| walk_at "io") => `(tactic| first | rfl | assumption)
theorem caught_ok {k c : Nat} {ds fs : List D} {td : D} (hds : D.neL ds = true) (hp : td.pl = true) : OkE 1 [.val (.fn k ds), .val (.exc c fs), .own (.lst [td])] := by
  refine ⟨⟨_, rfl, rfl⟩, ?_⟩
  have h1 := ne_of_pl _ hp
  show (((D.neL ds) && (true && ((td.ne && true) && true))) = true)
  rw [hds, h1]; rfl
theorem caught3 {TH : Nat → List D → EF} {k : Nat} {ds : List D} {a b : D} {P : EV → Env' → Prop} {X : Exx} (hds : D.neL ds = true) (ha : a.pl = true) (hb : b.pl = true) (hT : (TH k ds).r [] (fun _ _ => False) (fun c' fs' => c' = 3 ∧ fs' = [a, b])) (kk : ∀ t, P (.val (.tup [.str "number", a, b])) t) : runF (F__law_caught TH) [.val (.fn k ds)] P X := by
  apply body_K
  unfold B__law_caught
  refine seq_Q (fun _ => False) ?_ (fun _ h => h.elim)
  have p1 : D.plL [a, b] = true := by
    show (a.pl && (b.pl && true)) = true
    rw [ha, hb]; rfl
  refine try_K (j := k) (ds := ds) (c := 3) (fs := [a, b]) rfl rfl (by simp [Ne', En.Slot.ne, D.ne, hds]) (by decide) p1 hT ?_
  have p2 : (D.tup [.str "number", a, b]).pl = true := by
    show (true && D.plL [a, b]) = true
    rw [p1]; rfl
  walk_at "sx"
  refine ⟨.tup [.str "number", a, b], rfl, p2, caught_ok hds p2, ?_⟩
  first | exact kk _ | exact ⟨_, rfl, kk _⟩
def CallD (TH : Nat → List D → EF) (x : D) : Prop := ∃ k ds hs v s, x = .tup [.fn k ds, .tup (hs ++ [v])] ∧ (∀ {P : EV → Env' → Prop} {X : Exx}, (∀ t, P (.val (.tup (hs ++ [v]))) t) → runF (F__law_caught TH) [.val (.fn k ds)] P X) ∧ neD (.tup hs) (.tup hs) = some (.bl false) ∧ reprG v = some (.str s)
theorem spec_raise_so {TH : Nat → List D → EF} {calls : List D} {P : EV → Env' → Prop} {X : Exx} (hc : ∀ x ∈ calls, CallD TH x) (kk : ∀ t, P (.val (.bl true)) t) : runF (F__law_raise_so TH) [.val (.lst calls)] P X := by
  apply body_K
  unfold B__law_raise_so
  walk_at "sx"
  refine forL_K _ (fun _ e => ∃ c1 c2 c3, e = [.val (.lst calls), c1, c2, c3] ∧ c1.isIo = false ∧ c2.isIo = false ∧ c3.isIo = false) ⟨.un, .un, .un, rfl, rfl, rfl, rfl⟩ ?_ ?_
  · rintro j x e hx ⟨c1, c2, c3, rfl, h1, h2, h3⟩
    obtain ⟨k, ds, hs, v, s, rfl, hcg, hne, hrp⟩ := hc x (List.mem_of_getElem? hx)
    clear hx hc
    have a1 : slD (.tup (hs ++ [v])) none (some (-1)) = some (.tup hs) := o_slneg
    have a2 : ixD (.tup (hs ++ [v])) (.int (-1)) = some v := o_ixneg
    have a3 : (s == s) = true := by simp
    walk_at "sxh"
    refine hcg fun t => ?_
    clear hcg
    walk_at "sxh"
    exact ⟨_, _, _, rfl, rfl, rfl, rfl⟩
  · rintro e ⟨c1, c2, c3, rfl, h1, h2, h3⟩
    walk_at "sx"
    exact kk _
theorem call3 {TH : Nat → List D → EF} {k : Nat} {ds : List D} {w : Str} {a : D} {s : Str} (hw : okN (.tup [.str "number", .str w]) 60 = true) (hds : D.neL ds = true) (hp : a.pl = true) (hT : (TH k ds).r [] (fun _ _ => False) (fun c' fs' => c' = 3 ∧ fs' = [.str w, a])) (hr : reprG a = some (.str s)) : CallD TH (.tup [.fn k ds, .tup [.str "number", .str w, a]]) :=
  ⟨k, ds, [.str "number", .str w], a, s, rfl, fun kk => caught3 hds rfl hp hT kk, neD_self hw, hr⟩
def OddN (v : D) : Prop := v = .int 1 ∨ v = .int 1441 ∨ v = .non ∨ v = .bl true ∨ v = .str "5"
def OddL (v : D) : Prop := v = .int (-1) ∨ v = .non ∨ v = .bl true ∨ v = .str "0"
theorem OddN.pl {v : D} (h : OddN v) : v.pl = true := by rcases h with rfl | rfl | rfl | rfl | rfl <;> rfl
theorem OddL.pl {v : D} (h : OddL v) : v.pl = true := by rcases h with rfl | rfl | rfl | rfl <;> rfl
theorem rp_s {x : Str} (h : (reprText x).length ≤ sizeLine) : ∃ s, reprG (.str x) = some (.str s) := ⟨_, if_pos h⟩
theorem OddN.rp {v : D} (h : OddN v) : ∃ s, reprG v = some (.str s) := by
  rcases h with rfl | rfl | rfl | rfl | rfl
  · exact ⟨_, rfl⟩
  · exact ⟨_, rfl⟩
  · exact ⟨_, rfl⟩
  · exact ⟨_, rfl⟩
  · exact rp_s (by decide +kernel)
theorem OddL.rp {v : D} (h : OddL v) : ∃ s, reprG v = some (.str s) := by
  rcases h with rfl | rfl | rfl | rfl
  · exact ⟨_, rfl⟩
  · exact ⟨_, rfl⟩
  · exact ⟨_, rfl⟩
  · exact rp_s (by decide +kernel)
theorem whole_odd {v : D} (h : v = .non ∨ (∃ b, v = .bl b) ∨ ∃ s, v = .str s) {P : EV → Env' → Prop} {X : Exx} (k : ∀ t, P (.val (.bl false)) t) : runF F_is_whole [.val v] P X := by
  rcases h with rfl | ⟨b, rfl⟩ | ⟨s, rfl⟩
  · exact whole_non k
  · exact whole_bl k
  · exact whole_str k
theorem number_bad {v : D} (h : OddL v) {P : EV → Env' → Prop} {X : Exx} (k : ∀ t, P (.val (.bl false)) t) : runF F_is_number [.val v] P X := by
  apply body_K
  unfold B_is_number
  have odd : ∀ w : D, (w = .non ∨ (∃ b, w = .bl b) ∨ ∃ s, w = .str s) → rS (retS (andF (callF F_is_whole 1 (consA FL (kvF FL 0) nilA)) (binF FL geD (varF 0) (litF (.int 0))))) [.val w] ⟨fun env => P (.val .non) env, fun e env => optK (retE env e) fun e' => P e' env, fun _ => False, fun _ => False⟩ X := fun w hw => by
    walk_at "sx"
    refine whole_odd hw fun t => ?_
    walk_at "sx"
    exact k _
  rcases h with rfl | rfl | rfl | rfl
  · show rS _ [.val (.int (-1))] _ _
    walk_at "sx"
    refine whole_int fun t => ?_
    have : decide ((0 : Int) ≤ -1) = false := rfl
    walk_at "sxh"
  · exact odd _ (.inl rfl)
  · exact odd _ (.inr (.inl ⟨_, rfl⟩))
  · exact odd _ (.inr (.inr ⟨_, rfl⟩))
theorem need_late_bad {v : D} (h : OddL v) {P : EV → Env' → Prop} {X : Exx} (hx : X 3 [.str "late", v]) : runF F_need_late [.val v] P X := by
  apply body_K
  unfold B_need_late
  walk_at "sx"
  refine number_bad h fun t => ?_
  walk_at "sx"
  exact ⟨rfl, hx⟩
theorem need_period_bad {v : D} (h : OddN v) {P : EV → Env' → Prop} {X : Exx} (hx : X 3 [.str "period", v]) : runF F_need_period [.val v] P X := by
  apply body_K
  unfold B_need_period
  rcases h with rfl | rfl | rfl | rfl | rfl
  · show rS _ [.val (.int 1)] _ _
    walk_at "sx"
    refine whole_int fun t => ?_
    walk_at "sx"
    exact ⟨rfl, hx⟩
  · show rS _ [.val (.int 1441)] _ _
    walk_at "sx"
    refine whole_int fun t => ?_
    walk_at "sx"
    exact ⟨rfl, hx⟩
  · show rS _ [.val .non] _ _
    walk_at "sx"
    refine whole_non fun t => ?_
    walk_at "sx"
    exact ⟨rfl, hx⟩
  · show rS _ [.val (.bl true)] _ _
    walk_at "sx"
    refine whole_bl fun t => ?_
    walk_at "sx"
    exact ⟨rfl, hx⟩
  · show rS _ [.val (.str "5")] _ _
    walk_at "sx"
    refine whole_str fun t => ?_
    walk_at "sx"
    exact ⟨rfl, hx⟩
theorem periods_bad1 {L v o : D} (h : OddN v) {P : EV → Env' → Prop} {X : Exx} (hx : X 3 [.str "most", v]) : runF F_periods_that_fit [.val L, .val v, .val o] P X := by
  apply body_K
  unfold B_periods_that_fit
  rcases h with rfl | rfl | rfl | rfl | rfl
  · show rS _ [.val L, .val (.int 1), .val o, .un] _ _
    walk_at "sx"
    refine whole_int fun t => ?_
    walk_at "sx"
    exact ⟨rfl, hx⟩
  · show rS _ [.val L, .val (.int 1441), .val o, .un] _ _
    walk_at "sx"
    refine whole_int fun t => ?_
    walk_at "sx"
    exact ⟨rfl, hx⟩
  · show rS _ [.val L, .val .non, .val o, .un] _ _
    walk_at "sx"
    refine whole_non fun t => ?_
    walk_at "sx"
    exact ⟨rfl, hx⟩
  · show rS _ [.val L, .val (.bl true), .val o, .un] _ _
    walk_at "sx"
    refine whole_bl fun t => ?_
    walk_at "sx"
    exact ⟨rfl, hx⟩
  · show rS _ [.val L, .val (.str "5"), .val o, .un] _ _
    walk_at "sx"
    refine whole_str fun t => ?_
    walk_at "sx"
    exact ⟨rfl, hx⟩
theorem periods_bad2 {L o : D} (h : OddL o) {P : EV → Env' → Prop} {X : Exx} (hx : X 3 [.str "late", o]) : runF F_periods_that_fit [.val L, .val (.int 5), .val o] P X := by
  apply body_K
  unfold B_periods_that_fit
  show rS _ [.val L, .val (.int 5), .val o, .un] _ _
  walk_at "sx"
  refine whole_int fun t => ?_
  walk_at "sx"
  exact need_late_bad h hx
theorem planned_bad1 {L v o : D} (h : OddN v) {P : EV → Env' → Prop} {X : Exx} (hx : X 3 [.str "period", v]) : runF F_planned [.val L, .val v, .val o] P X := by
  apply body_K
  unfold B_planned
  show rS _ [.val L, .val v, .val o, .un, .un, .un] _ _
  walk_at "sx"
  exact need_period_bad h hx
theorem planned_bad2 {L o : D} (h : OddL o) {P : EV → Env' → Prop} {X : Exx} (hx : X 3 [.str "late", o]) : runF F_planned [.val L, .val (.int 5), .val o] P X := by
  apply body_K
  unfold B_planned
  show rS _ [.val L, .val (.int 5), .val o, .un, .un, .un] _ _
  walk_at "sx"
  refine need_period_ok (by omega) (by omega) fun t => ?_
  walk_at "sx"
  exact need_late_bad h hx
end Lw
set_option Elab.async false
set_option linter.all false
set_option maxRecDepth 100000
set_option maxHeartbeats 4000000
namespace Lw
open PySem PySem.Spec L2 En
/-! ### the common step and the periods without lateness -/
theorem least_isSome {p l : Int} {T : List Int} (hp : 0 < p) : (leastM p l T).isSome = true ↔ ∃ m, 0 ≤ m ∧ m < p ∧ fit p l T m = true := by
  constructor
  · intro h
    unfold leastM at h
    rw [Option.isSome_map] at h
    obtain ⟨i, hi⟩ := Option.isSome_iff_exists.mp h
    rw [List.find?_range_eq_some] at hi
    exact ⟨(i : Int), by omega, by have := List.mem_range.mp hi.2.1; omega, hi.1⟩
  · rintro ⟨m, h0, h1, hf⟩
    cases hn : leastM p l T with
    | some m => rfl
    | none =>
      exfalso
      obtain ⟨k, rfl⟩ := Int.eq_ofNat_of_zero_le h0
      unfold leastM at hn
      rw [Option.map_eq_none_iff, List.find?_range_eq_none] at hn
      have := hn k (by omega)
      rw [hf] at this; cases this
theorem fit_mono {p l l' m : Int} {T : List Int} (h : l ≤ l') (hf : fit p l T m = true) : fit p l' T m = true :=
  fit_iff.mpr fun t ht => Int.le_trans (fit_iff.mp hf t ht) h
theorem okB_mono {p l l' : Int} {dss : List (List (Option Int))} {n : Nat} (hp : 0 < p) (h : l ≤ l') (ho : okB p l dss n = true) : okB p l' dss n = true := by
  unfold okB at ho ⊢
  rw [List.all_eq_true] at ho ⊢
  intro a ha
  obtain ⟨m, h0, h1, hf⟩ := (least_isSome hp).mp (ho a ha)
  exact (least_isSome hp).mpr ⟨m, h0, h1, fit_mono h hf⟩
theorem nd {q : Nat} {x : Int} : (q : Int) ∣ x ↔ q ∣ x.natAbs := by rw [← Int.natAbs_dvd_natAbs, Int.natAbs_natCast]
theorem fit0 {q : Nat} {T : List Int} (hq : 0 < q) : (leastM (q : Int) 0 T).isSome = true ↔ ∀ t ∈ T, q ∣ (t - hd0 T).natAbs := by
  rw [least_isSome (by omega)]
  constructor
  · rintro ⟨m, h0, h1, hf⟩ t ht
    have hf := fit_iff.mp hf
    have hm : hd0 T ∈ T := by
      cases T with
      | nil => cases ht
      | cons x T => exact List.mem_cons_self
    have e : ∀ u ∈ T, (q : Int) ∣ u - m := fun u hu => by
      have := hf u hu
      have := Int.emod_nonneg (u - m) (show (q : Int) ≠ 0 by omega)
      exact Int.dvd_of_emod_eq_zero (by omega)
    have := Int.dvd_sub (e t ht) (e _ hm)
    rw [show t - m - (hd0 T - m) = t - hd0 T by omega] at this
    exact nd.mp this
  · intro h
    refine ⟨hd0 T % (q : Int), Int.emod_nonneg _ (by omega), Int.emod_lt_of_pos _ (by omega), fit_iff.mpr fun t ht => ?_⟩
    have h1 : (q : Int) ∣ t - hd0 T := nd.mpr (h t ht)
    have h2 : (t - hd0 T % (q : Int)) % (q : Int) = (t - hd0 T) % (q : Int) := by
      rw [Int.sub_emod, Int.emod_emod_of_dvd _ (Int.dvd_refl _), ← Int.sub_emod]
    rw [h2, Int.emod_eq_zero_of_dvd h1]
    exact Int.le_refl _
theorem gI_dvd {q : Nat} {T : List Int} : ∀ {U : List Int} {g : Nat}, q ∣ gI T U g ↔ q ∣ g ∧ ∀ t ∈ U, q ∣ (t - hd0 T).natAbs
  | [], g => by simp [gI]
  | u :: U, g => by
    show q ∣ gI T U (Nat.gcd g (u - hd0 T).natAbs) ↔ _
    rw [gI_dvd, Nat.dvd_gcd_iff]
    constructor
    · rintro ⟨⟨h1, h2⟩, h3⟩
      refine ⟨h1, fun t ht => ?_⟩
      rcases List.mem_cons.mp ht with rfl | ht
      · exact h2
      · exact h3 t ht
    · rintro ⟨h1, h2⟩
      exact ⟨⟨h1, h2 u List.mem_cons_self⟩, fun t ht => h2 t (List.mem_cons_of_mem _ ht)⟩
theorem ok_step {q : Nat} {dss : List (List (Option Int))} (hq : 0 < q) : ∀ n : Nat, okB (q : Int) 0 dss n = decide (q ∣ stepL dss n)
  | 0 => by
    have : q ∣ stepL dss 0 := Nat.dvd_zero q
    rw [decide_eq_true this]; rfl
  | n + 1 => by
    rw [okB_s, stepL_s, ok_step hq n]
    have h := fit0 (T := col dss n) hq
    by_cases h1 : q ∣ stepL dss n
    · by_cases h2 : ∀ t ∈ col dss n, q ∣ (t - hd0 (col dss n)).natAbs
      · rw [h.mpr h2, decide_eq_true h1, decide_eq_true (gI_dvd.mpr ⟨h1, h2⟩)]; rfl
      · have h3 : (leastM (q : Int) 0 (col dss n)).isSome = false := by
          cases hh : (leastM (q : Int) 0 (col dss n)).isSome with
          | false => rfl
          | true => exact absurd (h.mp hh) h2
        rw [h3, decide_eq_false (fun z => h2 (gI_dvd.mp z).2)]; simp
    · rw [decide_eq_false h1, decide_eq_false (fun z => h1 (gI_dvd.mp z).1)]; rfl
theorem fits0 {most : Int} {dss : List (List (Option Int))} {n : Nat} : fitsL most 0 dss n = ((List.range (most - 1).toNat).filter fun i : Nat => decide ((stepL dss n : Int) % (2 + (i : Int)) = 0)).map fun i : Nat => 2 + (i : Int) := by
  unfold fitsL
  congr 1
  refine List.filter_congr fun i _ => ?_
  have e : (2 : Int) + (i : Int) = ((2 + i : Nat) : Int) := by omega
  rw [e, ok_step (by omega)]
  congr 1
  apply propext
  rw [← Int.natCast_dvd_natCast]
  exact ⟨Int.emod_eq_zero_of_dvd, Int.dvd_of_emod_eq_zero⟩
theorem fits_sub {most l : Int} {dss : List (List (Option Int))} {n : Nat} (hl : 0 ≤ l) {x : Int} (h : x ∈ fitsL most 0 dss n) : x ∈ fitsL most l dss n := by
  unfold fitsL at h ⊢
  obtain ⟨i, hi, rfl⟩ := List.mem_map.mp h
  obtain ⟨h1, h2⟩ := List.mem_filter.mp hi
  exact List.mem_map.mpr ⟨i, List.mem_filter.mpr ⟨h1, okB_mono (by omega) hl h2⟩, rfl⟩
theorem eqB_int {i j : Int} : eqB (.int i) (.int j) = decide (i = j) := by simp [eqB, D.py, PyData.eqv, Bool.beq_eq_decide_eq]
theorem in_ints {i : Int} {L : List Int} : inD (.int i) (.tup (L.map .int)) = some (.bl (decide (i ∈ L))) := by
  have hf : (L.map D.int).all flatD = true := by
    rw [List.all_eq_true]
    intro d hd
    obtain ⟨x, _, rfl⟩ := List.mem_map.mp hd
    rfl
  show (if (flatD (.int i) && (L.map D.int).all flatD) then some ((L.map D.int).any fun z => eqB z (.int i)) else none).map D.bl = _
  rw [hf, show flatD (.int i) = true from rfl, Bool.and_self, if_pos rfl]
  have : ∀ L : List Int, ((L.map D.int).any fun z => eqB z (.int i)) = decide (i ∈ L) := fun L => by
    induction L with
    | nil => rfl
    | cons x L ih =>
      show (eqB (.int x) (.int i) || (L.map D.int).any fun z => eqB z (.int i)) = _
      rw [ih, eqB_int]
      by_cases h : i = x
      · subst h; simp
      · have : ¬ x = i := fun z => h z.symm
        simp [h, this]
  rw [this]; rfl
theorem ne_same (A : List Int) : neD (.tup (A.map .int)) (.tup (A.map .int)) = some (.bl false) := neD_self (ints_okN A 59)
theorem isnn_plan {p l : Int} {dss : List (List (Option Int))} {n : Nat} : isNotD (planD p l dss n) .non = some (.bl (okB p l dss n)) := by
  unfold planD
  cases okB p l dss n <;> rfl
end Lw
set_option Elab.async false
set_option linter.all false
set_option maxRecDepth 100000
set_option maxHeartbeats 4000000
namespace Lw
open PySem PySem.Spec L2 En
local macro_rules | `(tactic| walk_at "sx") => `(tactic| simp -dsimp (disch := omega) only [rngI2_K, srtKF_K, maxAF_K, dcF_K, keyK_i, keyK_s, o_abs, o_gcd, callLF_K, lamF_K, plK_b, capD_n, q_cap, capV_v, o_eql0, o_min, o_max, o_sltake, o_slten, o_sldrop, o_sltd, Int.reduceToNat, List.take_succ_cons, List.take_zero, List.drop_succ_cons, List.drop_zero, b_ft, b_tf, tupL_t, tupL_l, tupL_n, Option.getD_some, cmpF_K, mkK_K, insCP_i, idxP_n, idxP_l, tq_t, tq_c, varF_K, kvF_K, litF_K, binF_K, unF_K, unNF_K, nilL_K, consL_K, tupF_K, lstF_K, dnewK_K, dnewT_K, truF_K, blF_K, notT_K, andT_K, orT_K, andF_K, orF_K, notF_K, iteF_K, chainF_K, noO_K, someO_K, slF_K, idxF_K, appF_K, popF_K, popAF_K, extF_K, skipS_K, seqS_K, brkS_K, cntS_K, nevS_K, retS_K, dropS_K, ifS_K, asgS_K, patS_K, forS_K, seqI_K, enumI_K, rngI_K, yesT_K, nilP_K, consP_K, parS_K, tgtS_K, subG_K, nilA_K, consA_K, callF_K, mkF_K, setF_K, lcF_K, raiseS_K, aftK_K, optK_s, optK_n, optK_m, iteK_t, iteK_f, andK_t, varK_v, varK_o, varK_i, kvK_v, kvK_o, intK_v, blK_v, tblK_s, natK_v, newLK_v, lstK_o, lstK_i, obK_o, obK_i, insK_o, insK_i, o_add, o_sub, o_lt, o_le, o_gt, o_ge, o_neg, o_eqi, o_nei, o_eqs, o_nes, o_inn, o_iin, o_isn, o_itn, o_iln, o_ibn, o_icn, o_imn, o_ibb, o_iib, o_isb, o_inb, o_itb, o_imb, o_nnn, o_nin, o_nsn, o_ntn, o_nln, o_nbn, o_ncn, o_nbb, o_trb, o_trn, o_trl, o_trt, o_trm, o_tri, o_lnt, o_lnl, o_lnm, o_tul, o_tut, o_tum, o_lsl, o_lst, o_lsm, o_int, o_tnm, o_itl, o_itt, o_itm, o_ix, o_ixl, o_ix0, o_ix1, o_ix2, o_ix3, o_ix4, o_ixl0, o_ixl1, o_mul, o_mul', o_mod, o_div, settle_v, settle_o, q_settle, rd_v, q_rd, keep_v, keep_o, keep_n, av_v, av_o, av_n, fr_l, fr_k, fr_t, q_putv, q_putn, q_slo, q_bkr, q_retv, q_retn, q_reto, ob_own, ob_io, put_own, put_io, isOwn_v, isOwn_n, slotOf_v, refs_n, refs_v, refs_r, backE_n, backE_v, putEs_n, putEs_c, pput_nm, pput_tp, pput_tl, pputL_n, pputL_c, isIo_u, isIo_v, isIo_o, isIo_i, wipeE_n, wipeE_c, restE_n, q_rest, okW_n, q_okW, plain_u, plain_v, List.getElem?_cons_zero, List.getElem?_cons_succ, List.set_cons_zero, List.set_cons_succ, List.map_cons, List.map_nil, List.cons_append, List.nil_append, List.length_cons, List.length_nil, List.length_map, List.tail_cons, List.nodup_cons, List.nodup_nil, List.not_mem_nil, List.mem_cons, List.mem_singleton, List.replicate, Option.bind_some, Option.map_some, Option.bind_none, Option.map_none, cond_true, cond_false, Bool.not_true, Bool.not_false, Bool.true_and, Bool.and_true, Bool.and_self, decide_true, decide_false, not_false_eq_true, and_self, true_and, and_true, or_false, false_or, Nat.reduceAdd, Nat.reduceSub, Nat.reduceLeDiff, Nat.reduceLT, Nat.reduceEqDiff, Int.reduceLT, Int.reduceLE, Int.reduceNeg, Int.reduceEq, Nat.zero_le, Nat.le_refl, reduceCtorEq, eq_self, beq_self_eq_true, Int.toNat_natCast, Bool.or_false, Bool.or_true, Bool.false_or, Bool.true_or, Bool.and_false, Bool.false_and, fx_0_events, fx_0_days, ii_0_non, ii_0_bl, ii_0_int, ii_0_str, ii_0_tup, ii_0_lst, ii_0_nms, ii_0_c0, ii_1_non, ii_1_bl, ii_1_int, ii_1_str, ii_1_tup, ii_1_lst, ii_1_nms, ii_1_c0, ii_2_non, ii_2_bl, ii_2_int, ii_2_str, ii_2_tup, ii_2_lst, ii_2_nms, ii_2_c0, ii_3_non, ii_3_bl, ii_3_int, ii_3_str, ii_3_tup, ii_3_lst, ii_3_nms, ii_3_c0, ii_4_non, ii_4_bl, ii_4_int, ii_4_str, ii_4_tup, ii_4_lst, ii_4_nms, ii_4_c0, fr_0, in_0, if_0_events, pf_0_events, if_0_days, pf_0_days, ix_3_1, ix_3_2, ix_3_3, ix_3_4, ix_3_5, ix_3_6, ix_3_7, ix_3_8, ix_3_9, ix_3_10, ex_3_what, ex_3_number, Int.cast_ofNat_Int, Int.natCast_one, Int.natCast_zero])
local macro_rules | `(tactic| walk_at "sxh") => `(tactic| simp -dsimp (disch := omega) only [rngI2_K, srtKF_K, maxAF_K, dcF_K, keyK_i, keyK_s, o_abs, o_gcd, callLF_K, lamF_K, plK_b, capD_n, q_cap, capV_v, o_eql0, o_min, o_max, o_sltake, o_slten, o_sldrop, o_sltd, Int.reduceToNat, List.take_succ_cons, List.take_zero, List.drop_succ_cons, List.drop_zero, b_ft, b_tf, tupL_t, tupL_l, tupL_n, Option.getD_some, cmpF_K, mkK_K, insCP_i, idxP_n, idxP_l, tq_t, tq_c, varF_K, kvF_K, litF_K, binF_K, unF_K, unNF_K, nilL_K, consL_K, tupF_K, lstF_K, dnewK_K, dnewT_K, truF_K, blF_K, notT_K, andT_K, orT_K, andF_K, orF_K, notF_K, iteF_K, chainF_K, noO_K, someO_K, slF_K, idxF_K, appF_K, popF_K, popAF_K, extF_K, skipS_K, seqS_K, brkS_K, cntS_K, nevS_K, retS_K, dropS_K, ifS_K, asgS_K, patS_K, forS_K, seqI_K, enumI_K, rngI_K, yesT_K, nilP_K, consP_K, parS_K, tgtS_K, subG_K, nilA_K, consA_K, callF_K, mkF_K, setF_K, lcF_K, raiseS_K, aftK_K, optK_s, optK_n, optK_m, iteK_t, iteK_f, andK_t, varK_v, varK_o, varK_i, kvK_v, kvK_o, intK_v, blK_v, tblK_s, natK_v, newLK_v, lstK_o, lstK_i, obK_o, obK_i, insK_o, insK_i, o_add, o_sub, o_lt, o_le, o_gt, o_ge, o_neg, o_eqi, o_nei, o_eqs, o_nes, o_inn, o_iin, o_isn, o_itn, o_iln, o_ibn, o_icn, o_imn, o_ibb, o_iib, o_isb, o_inb, o_itb, o_imb, o_nnn, o_nin, o_nsn, o_ntn, o_nln, o_nbn, o_ncn, o_nbb, o_trb, o_trn, o_trl, o_trt, o_trm, o_tri, o_lnt, o_lnl, o_lnm, o_tul, o_tut, o_tum, o_lsl, o_lst, o_lsm, o_int, o_tnm, o_itl, o_itt, o_itm, o_ix, o_ixl, o_ix0, o_ix1, o_ix2, o_ix3, o_ix4, o_ixl0, o_ixl1, o_mul, o_mul', o_mod, o_div, settle_v, settle_o, q_settle, rd_v, q_rd, keep_v, keep_o, keep_n, av_v, av_o, av_n, fr_l, fr_k, fr_t, q_putv, q_putn, q_slo, q_bkr, q_retv, q_retn, q_reto, ob_own, ob_io, put_own, put_io, isOwn_v, isOwn_n, slotOf_v, refs_n, refs_v, refs_r, backE_n, backE_v, putEs_n, putEs_c, pput_nm, pput_tp, pput_tl, pputL_n, pputL_c, isIo_u, isIo_v, isIo_o, isIo_i, wipeE_n, wipeE_c, restE_n, q_rest, okW_n, q_okW, plain_u, plain_v, List.getElem?_cons_zero, List.getElem?_cons_succ, List.set_cons_zero, List.set_cons_succ, List.map_cons, List.map_nil, List.cons_append, List.nil_append, List.length_cons, List.length_nil, List.length_map, List.tail_cons, List.nodup_cons, List.nodup_nil, List.not_mem_nil, List.mem_cons, List.mem_singleton, List.replicate, Option.bind_some, Option.map_some, Option.bind_none, Option.map_none, cond_true, cond_false, Bool.not_true, Bool.not_false, Bool.true_and, Bool.and_true, Bool.and_self, decide_true, decide_false, not_false_eq_true, and_self, true_and, and_true, or_false, false_or, Nat.reduceAdd, Nat.reduceSub, Nat.reduceLeDiff, Nat.reduceLT, Nat.reduceEqDiff, Int.reduceLT, Int.reduceLE, Int.reduceNeg, Int.reduceEq, Nat.zero_le, Nat.le_refl, reduceCtorEq, eq_self, beq_self_eq_true, Int.toNat_natCast, Bool.or_false, Bool.or_true, Bool.false_or, Bool.true_or, Bool.and_false, Bool.false_and, fx_0_events, fx_0_days, ii_0_non, ii_0_bl, ii_0_int, ii_0_str, ii_0_tup, ii_0_lst, ii_0_nms, ii_0_c0, ii_1_non, ii_1_bl, ii_1_int, ii_1_str, ii_1_tup, ii_1_lst, ii_1_nms, ii_1_c0, ii_2_non, ii_2_bl, ii_2_int, ii_2_str, ii_2_tup, ii_2_lst, ii_2_nms, ii_2_c0, ii_3_non, ii_3_bl, ii_3_int, ii_3_str, ii_3_tup, ii_3_lst, ii_3_nms, ii_3_c0, ii_4_non, ii_4_bl, ii_4_int, ii_4_str, ii_4_tup, ii_4_lst, ii_4_nms, ii_4_c0, fr_0, in_0, if_0_events, pf_0_events, if_0_days, pf_0_days, ix_3_1, ix_3_2, ix_3_3, ix_3_4, ix_3_5, ix_3_6, ix_3_7, ix_3_8, ix_3_9, ix_3_10, ex_3_what, ex_3_number, Int.cast_ofNat_Int, Int.natCast_one, Int.natCast_zero, *])
local macro_rules | `(tactic| walk_at "io") => `(tactic| first | rfl | assumption)
def lapS : SF := (seqS (parS [3, 4] (consP (callF F__law_drawn_log 3 (consA FL (varF 1) (consA FL (binF FL addD (litF (.int 1)) (callF F__law_draw 2 (consA FL (varF 1) (consA FL (litF (.int 4)) nilA)))) (consA FL (binF FL addD (litF (.int 2)) (callF F__law_draw 2 (consA FL (varF 1) (consA FL (litF (.int 11)) nilA)))) nilA)))) (consP (callF F__law_pick 2 (consA FL (varF 1) (consA FL (lstF (consL FL (litF (.int 0)) (consL FL (litF (.int 0)) (consL FL (litF (.int 1)) (consL FL (litF (.int 2)) (consL FL (litF (.int 5)) (consL FL (litF (.int 40)) nilL))))))) nilA))) nilP))) (seqS (parS [5, 6] (consP (callF F__law_made_log 1 (consA FL (kvF FL 3) nilA)) (consP (binF FL addD (litF (.int 2)) (callF F__law_draw 2 (consA FL (varF 1) (consA FL (litF (.int 29)) nilA)))) nilP))) (seqS (asgS 7 (unF FL tupOfD (lcF FL (rngI2 (litF (.int 2)) (binF FL addD (varF 6) (litF (.int 1)))) (.nm 8) (blF FL (binF FL isNotD (callF F__law_plan 3 (consA FL (kvF FL 3) (consA FL (kvF FL 8) (consA FL (kvF FL 4) nilA)))) (litF .non))) (kvF FL 8) [8]))) (seqS (ifS (notT (truF FL (callF (F__law_is 4) 2 (consA FL (callF F_periods_that_fit 3 (consA FL (kvF FL 5) (consA FL (kvF FL 6) (consA FL (kvF FL 4) nilA)))) (consA FL (kvF FL 7) nilA))))) (retS (litF (.bl false))) skipS) (seqS (forS (rngI (litF (.int 3))) (.nm 9) (seqS (asgS 8 (binF FL addD (litF (.int 2)) (callF F__law_draw 2 (consA FL (varF 1) (consA FL (litF (.int 20)) nilA))))) (ifS (notT (truF FL (callF (F__law_is 4) 2 (consA FL (callF F_planned 3 (consA FL (kvF FL 5) (consA FL (kvF FL 8) (consA FL (kvF FL 4) nilA)))) (consA FL (callF F__law_plan 3 (consA FL (kvF FL 3) (consA FL (kvF FL 8) (consA FL (kvF FL 4) nilA)))) nilA))))) (retS (litF (.bl false))) skipS))) (seqS (asgS 10 (callF F__law_step 1 (consA FL (kvF FL 3) nilA))) (seqS (ifS (notT (truF FL (callF (F__law_is 4) 2 (consA FL (callF F_common_step 1 (consA FL (kvF FL 5) nilA)) (consA FL (kvF FL 10) nilA))))) (retS (litF (.bl false))) skipS) (seqS (asgS 11 (callF F_periods_that_fit 3 (consA FL (kvF FL 5) (consA FL (kvF FL 6) (consA FL (litF (.int 0)) nilA))))) (seqS (ifS (blF FL (binF FL neD (varF 11) (unF FL tupOfD (lcF FL (rngI2 (litF (.int 2)) (binF FL addD (varF 6) (litF (.int 1)))) (.nm 8) (blF FL (binF FL eqD (binF FL modD (unF FL intOfD (varF 10)) (varF 8)) (litF (.int 0)))) (kvF FL 8) [8])))) (retS (litF (.bl false))) skipS) (seqS (ifS (blF FL (binF FL neD (lcF FL (seqI FL (kvF FL 11)) (.nm 8) (blF FL (binF FL notInD (varF 8) (callF F_periods_that_fit 3 (consA FL (kvF FL 5) (consA FL (kvF FL 6) (consA FL (kvF FL 4) nilA)))))) (kvF FL 8) [8]) (lstF nilL))) (retS (litF (.bl false))) skipS) (seqS (parS [12, 13] (consP (callF F__law_pick 2 (consA FL (varF 1) (consA FL (lstF (consL FL (litF (.int 1)) (consL FL (litF (.int 1441)) (consL FL (litF .non) (consL FL (litF (.bl true)) (consL FL (litF (.str "5")) nilL)))))) nilA))) (consP (callF F__law_pick 2 (consA FL (varF 1) (consA FL (lstF (consL FL (unF FL negD (litF (.int 1))) (consL FL (litF .non) (consL FL (litF (.bl true)) (consL FL (litF (.str "0")) nilL))))) nilA))) nilP))) (seqS (asgS 14 (lstF (consL FL (tupF (consL FL (lamF 0 [5, 12, 13]) (consL FL (tupF (consL FL (litF (.str "number")) (consL FL (litF (.str "most")) (consL FL (kvF FL 12) nilL)))) nilL))) nilL))) (seqS (dropS (appF FL 14 (tupF (consL FL (lamF 1 [5, 13]) (consL FL (tupF (consL FL (litF (.str "number")) (consL FL (litF (.str "late")) (consL FL (kvF FL 13) nilL)))) nilL))))) (seqS (dropS (appF FL 14 (tupF (consL FL (lamF 2 [5, 12, 13]) (consL FL (tupF (consL FL (litF (.str "number")) (consL FL (litF (.str "period")) (consL FL (kvF FL 12) nilL)))) nilL))))) (seqS (dropS (appF FL 14 (tupF (consL FL (lamF 3 [5, 13]) (consL FL (tupF (consL FL (litF (.str "number")) (consL FL (litF (.str "late")) (consL FL (kvF FL 13) nilL)))) nilL))))) (ifS (notT (truF FL (callLF FL (F__law_raise_so TH_law) capk_law (kvF FL 14)))) (retS (litF (.bl false))) skipS))))))))))))))))
theorem pl_ints : ∀ ns : List Int, D.plL (ns.map D.int) = true
  | [] => rfl
  | n :: ns => pl_ints ns
theorem days_pl : ∀ dss : List (List (Option Int)), D.plL (dss.map dayD) = true
  | [] => rfl
  | ts :: dss => by
    show (D.plL (ts.map tmD) && D.plL (dss.map dayD)) = true
    rw [days_pl dss]
    have : D.plL (ts.map tmD) = true := by
      induction ts with
      | nil => rfl
      | cons t ts ih => cases t <;> exact ih
    rw [this]; rfl
theorem okI_ints {L : List Int} (h : L.length ≤ 1000) : okI 4 (.tup (L.map .int)) := by
  refine ⟨by simpa using h, fun x hx => ?_⟩
  obtain ⟨t, _, rfl⟩ := List.mem_map.mp hx
  trivial
theorem okI_plan {p l : Int} {dss : List (List (Option Int))} {n : Nat} (h : n ≤ 1000) : okI 4 (planD p l dss n) := by
  unfold planD
  by_cases ho : okB p l dss n = true
  · rw [if_pos ho]
    refine ⟨by rw [planL_len]; exact h, fun x hx => ?_⟩
    obtain ⟨a, _, rfl⟩ := List.mem_map.mp hx
    unfold planI
    by_cases he : (col dss a).isEmpty = true
    · rw [if_pos he]; trivial
    · rw [if_neg he]
      cases leastM p l (col dss a) <;> trivial
  · rw [if_neg ho]; trivial
theorem fitsL_len {most l : Int} {dss : List (List (Option Int))} {n : Nat} : (fitsL most l dss n).length ≤ (most - 1).toNat := by
  unfold fitsL
  rw [List.length_map]
  exact Nat.le_trans (List.length_filter_le _ _) (by simp)
theorem th_ok {m : Nat} {caps : List Nat} {lb : EF} {ds : List D} {c : Nat} {fs : List D} (h : rE lb (thE m caps ds) (fun _ _ => False) (fun c' fs' => c' = c ∧ fs' = fs)) : (thF m caps lb ds).r [] (fun _ _ => False) (fun c' fs' => c' = c ∧ fs' = fs) :=
  lb.m (fun _ _ h => h.elim) (fun _ _ h => h) h
theorem th0 {L v o : D} (h : OddN v) : (TH_law 0 [L, v, o]).r [] (fun _ _ => False) (fun c' fs' => c' = 3 ∧ fs' = [.str "most", v]) := by
  refine th_ok ?_
  show rE (callF F_periods_that_fit 3 (consA FL (kvF FL 5) (consA FL (kvF FL 12) (consA FL (kvF FL 13) nilA)))) [.un, .un, .un, .un, .un, .val L, .un, .un, .un, .un, .un, .un, .val v, .val o, .un] _ _
  walk_at "sx"
  exact periods_bad1 h ⟨rfl, rfl⟩
theorem th1 {L o : D} (h : OddL o) : (TH_law 1 [L, o]).r [] (fun _ _ => False) (fun c' fs' => c' = 3 ∧ fs' = [.str "late", o]) := by
  refine th_ok ?_
  show rE (callF F_periods_that_fit 3 (consA FL (kvF FL 5) (consA FL (litF (.int 5)) (consA FL (kvF FL 13) nilA)))) [.un, .un, .un, .un, .un, .val L, .un, .un, .un, .un, .un, .un, .un, .val o, .un] _ _
  walk_at "sx"
  exact periods_bad2 h ⟨rfl, rfl⟩
theorem th2 {L v o : D} (h : OddN v) : (TH_law 2 [L, v, o]).r [] (fun _ _ => False) (fun c' fs' => c' = 3 ∧ fs' = [.str "period", v]) := by
  refine th_ok ?_
  show rE (callF F_planned 3 (consA FL (kvF FL 5) (consA FL (kvF FL 12) (consA FL (kvF FL 13) nilA)))) [.un, .un, .un, .un, .un, .val L, .un, .un, .un, .un, .un, .un, .val v, .val o, .un] _ _
  walk_at "sx"
  exact planned_bad1 h ⟨rfl, rfl⟩
theorem th3 {L o : D} (h : OddL o) : (TH_law 3 [L, o]).r [] (fun _ _ => False) (fun c' fs' => c' = 3 ∧ fs' = [.str "late", o]) := by
  refine th_ok ?_
  show rE (callF F_planned 3 (consA FL (kvF FL 5) (consA FL (litF (.int 5)) (consA FL (kvF FL 13) nilA)))) [.un, .un, .un, .un, .un, .val L, .un, .un, .un, .un, .un, .un, .un, .val o, .un] _ _
  walk_at "sx"
  exact planned_bad2 h ⟨rfl, rfl⟩
theorem ix_list {ds : List D} {r : Int} (h0 : 0 ≤ r) (h1 : r < (ds.length : Int)) : ∃ d, d ∈ ds ∧ ixD (.lst ds) (.int r) = some d := by
  obtain ⟨k, rfl⟩ := Int.eq_ofNat_of_zero_le h0
  have hk : k < ds.length := by omega
  exact ⟨ds[k], List.getElem_mem hk, by rw [o_ixl, List.getElem?_eq_getElem hk]⟩
theorem pick_list {o : Ob} {ds : List D} {P : EV → Env' → Prop} {X : Exx} (ho : PenOk o) (hn : 0 < ds.length) (hz : ds.length ≤ 1000) (k : ∀ d ∈ ds, ∀ o' t, PenOk o' → P (.val d) (.io o' :: t)) : runF F__law_pick [.io o, .val (.lst ds)] P X :=
  spec_pick (n := (ds.length : Int)) ho rfl (by omega) (by omega) fun r h0 h1 => by
    obtain ⟨d, hd, e⟩ := ix_list h0 h1
    exact ⟨d, e, k d hd⟩
theorem spec_made_log {css : List (List Nat)} {dss : List (List (Option Int))} {P : EV → Env' → Prop} {X : Exx} (h0 : css ≠ []) (hl : css.length ≤ 4) (hn : css.Nodup) (hk : ∀ cs ∈ css, NmW cs) (hd : ∀ ts ∈ dss, ts.length = css.length)
    (k : ∀ t, P (.new (.ins 0 [("events", .nms (css.map En.St)), ("days", .tup (dss.map dayD))])) t) : runF F__law_made_log [.val (logT css dss)] P X := by
  apply body_K
  unfold B__law_made_log
  walk_at "sx"
  refine spec_init_tup h0 (by omega) hn hk hd fun t => ?_
  walk_at "sx"
  exact k _
def LJ (sc : D) (e : Env') : Prop := ∃ (o : Ob) (a2 a3 a4 a5 a6 a7 a8 a9 a10 a11 a12 a13 a14 : En.Slot), e = [.val sc, .own o, a2, a3, a4, a5, a6, a7, a8, a9, a10, a11, a12, a13, a14] ∧ PenOk o ∧ a8.plain = true ∧ [a2, a3, a4, a5, a6, a7, a8, a9, a10, a11, a12, a13, a14].all (fun s => !s.isIo) = true
theorem lap_ok {sc : D} {o : Ob} {a2 a3 a4 a5 a6 a7 a8 a9 a10 a11 a12 a13 a14 : En.Slot} {P : Pst} {X : Exx} (ho : PenOk o) (g8 : a8.plain = true) (h2 : a2.isIo = false) (h3 : a3.isIo = false) (h4 : a4.isIo = false) (h5 : a5.isIo = false) (h6 : a6.isIo = false) (h7 : a7.isIo = false) (h8 : a8.isIo = false) (h9 : a9.isIo = false)
    (h10 : a10.isIo = false) (h11 : a11.isIo = false) (h12 : a12.isIo = false) (h13 : a13.isIo = false) (h14 : a14.isIo = false) (kk : ∀ e, LJ sc e → P.nx e) :
    rS lapS [.val sc, .own o, a2, a3, a4, a5, a6, a7, a8, a9, a10, a11, a12, a13, a14] P X := by
  unfold lapS
  walk_at "sxh"
  refine spec_draw ho (by decide) (by decide) fun r o1 t1 r0 r1 ho1 => ?_
  obtain ⟨m, rfl⟩ := Int.eq_ofNat_of_zero_le r0
  walk_at "sxh"
  refine spec_draw ho1 (by decide) (by decide) fun q o2 t2 q0 q1 ho2 => ?_
  walk_at "sxh"
  have hm : (1 : Int) + (m : Int) = ((m + 1 : Nat) : Int) := by omega
  rw [hm]
  refine spec_drawn_log (m := m + 1) ho2 (by omega) (by omega) (by omega) fun css dss o3 t3 hcl hcn hck hdl hd6 ho3 => ?_
  have hc1 : 1 ≤ css.length := by omega
  have hc4 : css.length ≤ 4 := by omega
  have hd : ∀ ts ∈ dss, ts.length = css.length := fun ts h => by rw [hcl]; exact hdl ts h
  clear hdl hcl hm r0 r1 q0 q1 ho1 ho2
  have hc0 : css ≠ [] := by intro z; subst z; simp at hc1
  have hcw : ∀ cs ∈ css, NmW cs := fun cs h => (hck cs h).w
  walk_at "sxh"
  refine pick_list ho3 (by simp) (by simp) fun lateD hlate o4 t4 ho4 => ?_
  obtain ⟨l, rfl, hl0, hl1⟩ : ∃ l : Int, lateD = .int l ∧ 0 ≤ l ∧ l ≤ 40 := by
    simp only [List.mem_cons, List.not_mem_nil, or_false] at hlate
    rcases hlate with rfl | rfl | rfl | rfl | rfl | rfl <;> exact ⟨_, rfl, by omega, by omega⟩
  clear hlate
  walk_at "sxh"
  refine spec_made_log hc0 hc4 hcn hcw hd fun t => ?_
  walk_at "sxh"
  refine spec_draw ho4 (by decide) (by decide) fun r o5 t5 r0 r1 ho5 => ?_
  walk_at "sxh"
  have hm1 : 2 ≤ 2 + r := by omega
  have hm2 : 2 + r ≤ 30 := by omega
  generalize (2 + r) = most at *
  clear r0 r1 ho3 ho4 hck hcn
  refine andK_i (by omega) ?_
  have e : intsD 2 (most + 1 - 2).toNat = (List.range (most - 1).toNat).map fun i : Nat => D.int (2 + (i : Int)) := by
    rw [show most + 1 - 2 = most - 1 by omega]; rfl
  rw [e]
  clear e
  walk_at "sxh"
  refine compF_K (fun i : Nat => D.int (2 + (i : Int))) (fun i : Nat => D.int (2 + (i : Int))) (fun i : Nat => okB (2 + (i : Int)) l dss css.length) (List.range (most - 1).toNat) (by rw [List.length_range]; omega) ?_ ?_
  · intro i hi acc Q hlen q1 q2
    have hi := List.mem_range.mp hi
    have hip := isnn_plan (p := 2 + (i : Int)) (l := l) (dss := dss) (n := css.length)
    clear kk
    walk_at "sx"
    refine spec_law_plan (by omega) (by omega) hd (by omega) (by omega) fun t => ?_
    walk_at "sxh"
    refine iteK_i (fun hb => ?_) fun hb => ?_ <;> (rw [hb] at q1 q2; walk_at "sxh"; first | exact q1 rfl | exact q2 rfl)
  have e2 : ((List.range (most - 1).toNat).filter fun i : Nat => okB (2 + (i : Int)) l dss css.length).map (fun i : Nat => D.int (2 + (i : Int))) = (fitsL most l dss css.length).map .int := by
    unfold fitsL
    rw [List.map_map]; rfl
  rw [e2]
  clear e2
  walk_at "sxh"
  refine spec_periods hm1 (by omega) hl0 hd (by omega) (by omega) fun t => ?_
  walk_at "sx"
  refine spec_is 4 _ (okI_ints (by have := fitsL_len (most := most) (l := l) (dss := dss) (n := css.length); omega)) fun t => ?_
  walk_at "sx"
  refine forL_K _ (fun _ e => ∃ (o : Ob) (a8 a9 : En.Slot), e = [.val sc, .own o, a2, .val (logT css dss), .val (.int l), .val (logV css dss), .val (.int most), .val (.tup ((fitsL most l dss css.length).map .int)), a8, a9, a10, a11, a12, a13, a14] ∧ PenOk o ∧ a8.plain = true ∧ a8.isIo = false ∧ a9.isIo = false) ⟨o5, a8, a9, rfl, ho5, g8, h8, h9⟩ ?_ ?_
  · clear kk ho5 g8 h8 h9
    rintro j x e hj ⟨o, a8, a9, rfl, ho, g8, h8, h9⟩
    clear hj
    walk_at "sxh"
    refine spec_draw ho (by decide) (by decide) fun r o6 t6 r0 r1 ho6 => ?_
    walk_at "sxh"
    have hp1 : 2 ≤ 2 + r := by omega
    have hp2 : 2 + r ≤ 30 := by omega
    generalize (2 + r) = p at *
    refine spec_planned hp1 (by omega) hl0 hd (by omega) (by omega) fun t => ?_
    walk_at "sx"
    refine spec_law_plan hp1 (by omega) hd (by omega) (by omega) fun t => ?_
    walk_at "sx"
    refine spec_is 4 _ (okI_plan (by omega)) fun t => ?_
    walk_at "sx"
    exact ⟨o6, _, _, rfl, ho6, rfl, rfl, rfl⟩
  · clear ho5 g8 h8 h9
    rintro e ⟨o, a8, a9, rfl, ho, g8, h8, h9⟩
    walk_at "sx"
    refine spec_law_step hd (by omega) (by omega) fun t => ?_
    walk_at "sxh"
    refine spec_common hd (by omega) (by omega) fun t => ?_
    walk_at "sx"
    refine spec_is 4 (.int (stepL dss css.length : Nat)) trivial fun t => ?_
    walk_at "sx"
    refine spec_periods hm1 (by omega) (by omega) hd (by omega) (by omega) fun t => ?_
    walk_at "sxh"
    refine andK_i (by omega) ?_
    have e : intsD 2 (most + 1 - 2).toNat = (List.range (most - 1).toNat).map fun i : Nat => D.int (2 + (i : Int)) := by
      rw [show most + 1 - 2 = most - 1 by omega]; rfl
    rw [e]
    clear e
    walk_at "sxh"
    refine compF_K (fun i : Nat => D.int (2 + (i : Int))) (fun i : Nat => D.int (2 + (i : Int))) (fun i : Nat => decide ((stepL dss css.length : Int) % (2 + (i : Int)) = 0)) (List.range (most - 1).toNat) (by rw [List.length_range]; omega) ?_ ?_
    · intro i hi acc Q hlen q1 q2
      clear kk
      walk_at "sx"
      refine iteK_i (fun hb => ?_) fun hb => ?_ <;> (rw [hb] at q1 q2; walk_at "sxh"; first | exact q1 rfl | exact q2 rfl)
    have e2 : ((List.range (most - 1).toNat).filter fun i : Nat => decide ((stepL dss css.length : Int) % (2 + (i : Int)) = 0)).map (fun i : Nat => D.int (2 + (i : Int))) = (fitsL most 0 dss css.length).map .int := by
      rw [fits0, List.map_map]; rfl
    rw [e2]
    clear e2
    have hne := ne_same (fitsL most 0 dss css.length)
    walk_at "sxh"
    clear hne
    refine compF_K D.int D.int (fun _ => false) (fitsL most 0 dss css.length) (by have := fitsL_len (most := most) (l := 0) (dss := dss) (n := css.length); omega) ?_ ?_
    · intro x hx acc Q hlen q1 q2
      have q2 := q2 rfl
      have hin := o_notin (in_ints (i := x) (L := fitsL most l dss css.length))
      rw [decide_eq_true (fits_sub hl0 hx)] at hin
      clear kk q1
      walk_at "sx"
      refine spec_periods hm1 (by omega) hl0 hd (by omega) (by omega) fun t => ?_
      walk_at "sxh"
      first | exact q2 | done
    have hF : ((fitsL most 0 dss css.length).filter fun _ => false).map D.int = [] := by simp
    rw [hF]
    have hn0 : neD (.lst []) (.lst []) = some (.bl false) := ne_ints0 []
    walk_at "sxh"
    clear hn0
    refine pick_list ho (by simp) (by simp) fun number hnum o7 t7 ho7 => ?_
    have w1 : OddN number := by simpa [OddN] using hnum
    clear hnum
    walk_at "sx"
    refine pick_list ho7 (by simp) (by simp) fun odd hodd o8 t8 ho8 => ?_
    have w2 : OddL odd := by simpa [OddL] using hodd
    clear hodd
    walk_at "sxh"
    have p1 := w1.pl
    have p2 := w2.pl
    have pL : (logV css dss).pl = true := by
      show (true && (D.plL (dss.map dayD) && true)) = true
      rw [days_pl]; rfl
    have l0 : D.plL [logV css dss, number, odd] = true := by
      show ((logV css dss).pl && (number.pl && (odd.pl && true))) = true
      rw [pL, p1, p2]; rfl
    have l1 : D.plL [logV css dss, odd] = true := by
      show ((logV css dss).pl && (odd.pl && true)) = true
      rw [pL, p2]; rfl
    refine andK_i ⟨⟨⟨rfl, l0⟩, ⟨trivial, trivial, fo_pl _ p1, trivial⟩, trivial⟩, ⟨⟨rfl, l1⟩, ⟨trivial, trivial, fo_pl _ p2, trivial⟩, trivial⟩, ⟨⟨rfl, l0⟩, ⟨trivial, trivial, fo_pl _ p1, trivial⟩, trivial⟩, ⟨⟨rfl, l1⟩, ⟨trivial, trivial, fo_pl _ p2, trivial⟩, trivial⟩, trivial⟩ ?_
    refine spec_raise_so (fun x hx => ?_) fun t => ?_
    · obtain ⟨s1, r1⟩ := w1.rp
      obtain ⟨s2, r2⟩ := w2.rp
      simp only [List.mem_cons, List.not_mem_nil, or_false] at hx
      rcases hx with rfl | rfl | rfl | rfl
      · exact call3 (by decide +kernel) (neL_of_pl _ l0) p1 (th0 w1) r1
      · exact call3 (by decide +kernel) (neL_of_pl _ l1) p2 (th1 w2) r2
      · exact call3 (by decide +kernel) (neL_of_pl _ l0) p1 (th2 w1) r1
      · exact call3 (by decide +kernel) (neL_of_pl _ l1) p2 (th3 w2) r2
    walk_at "sx"
    exact kk _ ⟨o8, a2, _, _, _, _, _, a8, a9, _, _, _, _, _, rfl, ho8, g8, by simp only [List.all_cons, List.all_nil, h2, h8, h9]; rfl⟩
theorem loop_ok {sc : D} {o : Ob} {P : Pst} {X : Exx} (ho : PenOk o) (kk : ∀ e, LJ sc e → P.nx e) : rF (.nm 2) lapS P X (intsD 0 3) [.val sc, .own o, .un, .un, .un, .un, .un, .un, .un, .un, .un, .un, .un, .un, .un] := by
  refine forL_K _ (fun _ e => LJ sc e) ⟨o, _, _, _, _, _, _, _, _, _, _, _, _, _, rfl, ho, rfl, rfl⟩ ?_ fun e h => kk e h
  rintro j x e hj ⟨o, a2, a3, a4, a5, a6, a7, a8, a9, a10, a11, a12, a13, a14, rfl, ho, g8, hio⟩
  simp only [List.all_cons, List.all_nil, Bool.and_eq_true, Bool.not_eq_true', and_true] at hio
  obtain ⟨h2, h3, h4, h5, h6, h7, h8, h9, h10, h11, h12, h13, h14⟩ := hio
  refine ⟨[.val sc, .own o, .val x, a3, a4, a5, a6, a7, a8, a9, a10, a11, a12, a13, a14], by simp [Pat.put, h2], ?_⟩
  exact lap_ok ho g8 rfl h3 h4 h5 h6 h7 h8 h9 h10 h11 h12 h13 h14 fun e h => h
theorem lj_io {sc : D} {e : Env'} (h : LJ sc e) : IoPl e := by
  obtain ⟨o, a2, a3, a4, a5, a6, a7, a8, a9, a10, a11, a12, a13, a14, rfl, _, _, hio⟩ := h
  simp only [List.all_cons, List.all_nil, Bool.and_eq_true, Bool.not_eq_true', and_true] at hio
  obtain ⟨h2, h3, h4, h5, h6, h7, h8, h9, h10, h11, h12, h13, h14⟩ := hio
  refine io_none ?_
  simp only [List.all_cons, List.all_nil, isIo_v, isIo_o, isIo_u, h2, h3, h4, h5, h6, h7, h8, h9, h10, h11, h12, h13, h14]; rfl
theorem body_ok {ns : List Int} (hns : ns.length ≤ 63) {P : Pst} {X : Exx} (k : ∀ e, IoPl e → P.rt (.val (.bl true)) e) : rS B_law [.val (.lst (ns.map D.int)), .un, .un, .un, .un, .un, .un, .un, .un, .un, .un, .un, .un, .un, .un] P X := by
  unfold B_law
  walk_at "sx"
  refine spec_pen hns fun o t ho => ?_
  walk_at "sx"
  refine loop_ok ho fun e h => ?_
  walk_at "sx"
  exact k e (lj_io h)
theorem law_ok : ∀ ns : List Int, ns.length ≤ 63 → F_law.r [.val (.lst (ns.map D.int))] (fun e _ => e = .val (.bl true)) X0 := by
  intro ns hns
  show runF F_law _ _ _
  apply body_K
  refine mkS_k ?_ ?_
  · show (D.plL (ns.map D.int) && _) = true
    rw [pl_ints]; rfl
  exact body_ok hns fun e hi => ⟨rfl, rfl, hi, _, rfl, rfl⟩
end Lw
set_option Elab.async false
set_option linter.all false
set_option maxRecDepth 100000
set_option maxHeartbeats 4000000
namespace Lw
open PySem PySem.Spec PyProof.Rows L2 En
structure Txt (K : PySem.W.Frag) (mg : Str → Option Value) (cl : Nat → Addr) (ad co : Nat → Addr) (fd : Nat → FuncData) : Prop where
  sg : ∀ lm tb, SgOk (sg K cl lm tb) ICS
  ec : ∀ lm tb cau, EcOk { Lw.sg K cl lm tb with cau := cau } ECS JCS
  he : ∀ c ∈ ECS, PySem.W.exmOne K (.ref (cl c)) (.ref (cl 11)) = some true
  m_BadText : mg "BadText" = some (.ref (cl 1))
  m_BadName : mg "BadName" = some (.ref (cl 2))
  m_BadNumber : mg "BadNumber" = some (.ref (cl 3))
  m_BadRow : mg "BadRow" = some (.ref (cl 4))
  m_NoEvent : mg "NoEvent" = some (.ref (cl 5))
  m_NoBond : mg "NoBond" = some (.ref (cl 6))
  m_TakenName : mg "TakenName" = some (.ref (cl 7))
  m_Unlike : mg "Unlike" = some (.ref (cl 8))
  m_NoTimes : mg "NoTimes" = some (.ref (cl 9))
  m_TooMany : mg "TooMany" = some (.ref (cl 10))
  m_HourError : mg "HourError" = some (.ref (cl 11))
  hs : PySem.W.specialIn K (.ref (cl 11)) "__getattribute__" = some (some (.builtin "type.__getattribute__"))
  hr : PySem.W.readsIn K (cl 11) (.type "type") = true
  hf : PySem.W.findCls K (.ref (cl 11)) (.type "type") "__init__" = some (.val (.builtin "ValueError.__init__"))
  o_BadNumber : OexC K (cl 3)
  f_BadNumber_init : L2.Fun K "__init__" "BadNumber.__init__" st_BadNumber_init (ad 30) (fd 30)
  b_BadNumber_init : Binds K (fd 30) ["self", "what", "number"] []
  a_BadNumber_init : PySem.W.findIn K (.ref (cl 3)) "__init__" = some (some (.ref (ad 30)))
  i_BadNumber_init : PySem.W.typeIn K (.ref (ad 30)) = some (.type "function")
  n_BadNumber : ∀ f ∈ FL 3, PySem.W.findIn K (.ref (cl 3)) f = some none
  nf0 : ∀ lm tb, ∀ t : Tq, t.ok ICS → PySem.W.notFirst K (cl 0) (t.v (Lw.sg K cl lm tb)) = true
  m_DayLog : mg "DayLog" = some (.ref (cl 0))
  mk0 : Mk K (cl 0) (ad 4)
  z_len : mg "len" = none
  z_int : mg "int" = none
  z_str : mg "str" = none
  z_bool : mg "bool" = none
  z_all : mg "all" = none
  z_tuple : mg "tuple" = none
  z_list : mg "list" = none
  z_range : mg "range" = none
  z_enumerate : mg "enumerate" = none
  z_isinstance : mg "isinstance" = none
  z_repr : mg "repr" = none
  z_max : mg "max" = none
  z_abs : mg "abs" = none
  z_sorted : mg "sorted" = none
  x_gcd : mg "gcd" = some (.builtin "math.gcd")
  g_LETTERS : ∃ t : Tok, mg "LETTERS" = some (.str "abcdefghijklmnopqrstuvwxyz" t)
  g_SIGNS : ∃ t : Tok, mg "SIGNS" = some (.str "abcdefghijklmnopqrstuvwxyz0123456789" t)
  g_MOST_PERIOD : ∃ t : Tok, mg "MOST_PERIOD" = some (.int 1440 t)
  f_is_whole : L2.Fun K "is_whole" "is_whole" st_is_whole (ad 0) (fd 0)
  b_is_whole : Binds K (fd 0) ["value"] []
  m_is_whole : mg "is_whole" = some (.ref (ad 0))
  f_times_seen : L2.Fun K "times_seen" "times_seen" st_times_seen (ad 8) (fd 8)
  b_times_seen : Binds K (fd 8) ["log", "at"] []
  m_times_seen : mg "times_seen" = some (.ref (ad 8))
  f_plan_minute : L2.Fun K "plan_minute" "plan_minute" st_plan_minute (ad 9) (fd 9)
  b_plan_minute : Binds K (fd 9) ["times", "period", "late"] []
  m_plan_minute : mg "plan_minute" = some (.ref (ad 9))
  f_least_plan : L2.Fun K "least_plan" "least_plan" st_least_plan (ad 10) (fd 10)
  b_least_plan : Binds K (fd 10) ["times", "period", "late"] []
  m_least_plan : mg "least_plan" = some (.ref (ad 10))
  f_fits_period : L2.Fun K "fits_period" "fits_period" st_fits_period (ad 12) (fd 12)
  b_fits_period : Binds K (fd 12) ["log", "period", "late"] []
  m_fits_period : mg "fits_period" = some (.ref (ad 12))
  f_is_number : L2.Fun K "is_number" "is_number" st_is_number (ad 1) (fd 1)
  b_is_number : Binds K (fd 1) ["value"] []
  m_is_number : mg "is_number" = some (.ref (ad 1))
  f_need_late : L2.Fun K "need_late" "need_late" st_need_late (ad 11) (fd 11)
  b_need_late : Binds K (fd 11) ["late"] []
  m_need_late : mg "need_late" = some (.ref (ad 11))
  f_periods_that_fit : L2.Fun K "periods_that_fit" "periods_that_fit" st_periods_that_fit (ad 13) (fd 13)
  b_periods_that_fit : Binds K (fd 13) ["log", "most", "late"] []
  m_periods_that_fit : mg "periods_that_fit" = some (.ref (ad 13))
  f_need_period : L2.Fun K "need_period" "need_period" st_need_period (ad 3) (fd 3)
  b_need_period : Binds K (fd 3) ["period"] []
  m_need_period : mg "need_period" = some (.ref (ad 3))
  f_planned : L2.Fun K "planned" "planned" st_planned (ad 14) (fd 14)
  b_planned : Binds K (fd 14) ["log", "period", "late"] []
  m_planned : mg "planned" = some (.ref (ad 14))
  f__law_caught : L2.Fun K "_law_caught" "_law_caught" st__law_caught (ad 22) (fd 22)
  b__law_caught : Binds K (fd 22) ["action"] []
  m__law_caught : mg "_law_caught" = some (.ref (ad 22))
  f__law_raise_so : L2.Fun K "_law_raise_so" "_law_raise_so" st__law_raise_so (ad 26) (fd 26)
  b__law_raise_so : Binds K (fd 26) ["calls"] []
  m__law_raise_so : mg "_law_raise_so" = some (.ref (ad 26))
  f__law_draw : L2.Fun K "_law_draw" "_law_draw" st__law_draw (ad 17) (fd 17)
  b__law_draw : Binds K (fd 17) ["pen", "many"] []
  m__law_draw : mg "_law_draw" = some (.ref (ad 17))
  f__law_pick : L2.Fun K "_law_pick" "_law_pick" st__law_pick (ad 18) (fd 18)
  b__law_pick : Binds K (fd 18) ["pen", "some"] []
  m__law_pick : mg "_law_pick" = some (.ref (ad 18))
  f__law_name : L2.Fun K "_law_name" "_law_name" st__law_name (ad 20) (fd 20)
  b__law_name : Binds K (fd 20) ["pen"] []
  m__law_name : mg "_law_name" = some (.ref (ad 20))
  f__law_names : L2.Fun K "_law_names" "_law_names" st__law_names (ad 21) (fd 21)
  b__law_names : Binds K (fd 21) ["pen", "many"] []
  m__law_names : mg "_law_names" = some (.ref (ad 21))
  f__law_drawn_log : L2.Fun K "_law_drawn_log" "_law_drawn_log" st__law_drawn_log (ad 23) (fd 23)
  b__law_drawn_log : Binds K (fd 23) ["pen", "many", "period"] []
  m__law_drawn_log : mg "_law_drawn_log" = some (.ref (ad 23))
  f__law_is : L2.Fun K "_law_is" "_law_is" st__law_is (ad 19) (fd 19)
  b__law_is : Binds K (fd 19) ["told", "due"] []
  m__law_is : mg "_law_is" = some (.ref (ad 19))
  f_is_day : L2.Fun K "is_day" "is_day" st_is_day (ad 7) (fd 7)
  b_is_day : Binds K (fd 7) ["many", "value"] []
  m_is_day : mg "is_day" = some (.ref (ad 7))
  f_is_name : L2.Fun K "is_name" "is_name" st_is_name (ad 2) (fd 2)
  b_is_name : Binds K (fd 2) ["value"] []
  m_is_name : mg "is_name" = some (.ref (ad 2))
  f_DayLogu_initu : L2.Fun K "__init__" "DayLog.__init__" st_DayLogu_initu (ad 4) (fd 4)
  b_DayLogu_initu : Binds K (fd 4) ["self", "events", "days"] []
  f__law_made_log : L2.Fun K "_law_made_log" "_law_made_log" st__law_made_log (ad 24) (fd 24)
  b__law_made_log : Binds K (fd 24) ["log"] []
  m__law_made_log : mg "_law_made_log" = some (.ref (ad 24))
  f__law_pen : L2.Fun K "_law_pen" "_law_pen" st__law_pen (ad 16) (fd 16)
  b__law_pen : Binds K (fd 16) ["script"] []
  m__law_pen : mg "_law_pen" = some (.ref (ad 16))
  f__law_times : L2.Fun K "_law_times" "_law_times" st__law_times (ad 25) (fd 25)
  b__law_times : Binds K (fd 25) ["log", "at"] []
  m__law_times : mg "_law_times" = some (.ref (ad 25))
  f__law_plan : L2.Fun K "_law_plan" "_law_plan" st__law_plan (ad 27) (fd 27)
  b__law_plan : Binds K (fd 27) ["log", "period", "late"] []
  m__law_plan : mg "_law_plan" = some (.ref (ad 27))
  f__law_step : L2.Fun K "_law_step" "_law_step" st__law_step (ad 28) (fd 28)
  b__law_step : Binds K (fd 28) ["log"] []
  m__law_step : mg "_law_step" = some (.ref (ad 28))
  f_common_step : L2.Fun K "common_step" "common_step" st_common_step (ad 15) (fd 15)
  b_common_step : Binds K (fd 15) ["log"] []
  m_common_step : mg "common_step" = some (.ref (ad 15))
  f_law : L2.Fun K "law" "law" st_law (ad 29) (fd 29)
  w_law : FunC K "law" "law" st_law (ad 29) (fd 29) (co 29)
  b_law : Binds K (fd 29) ["script"] []
  m_law : mg "law" = some (.ref (ad 29))
structure Mkr (mg : Str → Option Value) (base : Heap) (co pt : Nat → Addr) (tb : List (Addr × Str)) : Prop where
  t_law : LamX.TabB base mg (co 29) (pt 29)
  m_law : (pt 29, ("law" : Str) ++ ".<locals>." ++ "<lambda>") ∈ tb
  u_law : ∀ p ∈ tb, p.1 = pt 29 → p.2 = ("law" : Str) ++ ".<locals>." ++ "<lambda>"
section
variable {P : Program} {w : World} {K : PySem.W.Frag} {mg : Str → Option Value} {base : Heap} {cl ad co pt : Nat → Addr} {fd : Nat → FuncData} {lm : Lm} {tb : List (Addr × Str)} (T : Txt K mg cl ad co fd)
include T
theorem x_BadNumber : ExC P w (sg K cl lm tb) mg base 1 "BadNumber" 3 :=
  ⟨ad 30, fd 30, ["self", "what", "number"], T.o_BadNumber, T.a_BadNumber_init, T.i_BadNumber_init, init2 T.f_BadNumber_init (fun cdv A outer s H E => ps_expr (pe_hi (x := "HourError") (by rfl) T.m_HourError T.hs T.hr T.hf (pa_cons (pe_var (i := 0) rfl (Or.inl rfl)) (pa_cons pe_str pa_nil)))) (fnScope_K (by decide +kernel)) (by decide) (by decide) (by decide) (by decide) (Or.inl rfl) (Or.inl rfl) (Or.inl rfl) rfl, T.b_BadNumber_init, T.m_BadNumber, T.n_BadNumber, (show (FL 3).Nodup by decide)⟩
theorem ok_is_whole : FnA P w (sg K cl lm tb) mg base 1 (ad 0) (fd 0) ["value"] F_is_whole 1 :=
  fn_A (N := N_is_whole) (ps := ["value"]) (k := 0) T.f_is_whole T.b_is_whole (fnScope_K (by decide +kernel)) fun M cdv A outer s H E z => (s_one (s_ret (r_and (r_isi (u := (.b .int)) z.q (T.sg _ _) trivial T.z_isinstance (pe_ty (S := sg K cl _ _) (u := .b .int) (by rfl) (Or.inl ⟨_, rfl, T.z_int, bt_int⟩)) (r_var (i := 0))) (r_one (r_not (r_isi (u := (.b .bool)) z.q (T.sg _ _) trivial T.z_isinstance (pe_ty (S := sg K cl _ _) (u := .b .bool) (by rfl) (Or.inl ⟨_, rfl, T.z_bool, bt_bool⟩)) (r_var (i := 0))))))))
theorem c_is_whole : FnC P w (sg K cl lm tb) mg base 1 "is_whole" F_is_whole 1 := (ok_is_whole T).c T.m_is_whole
theorem ok_times_seen : FnA P w (sg K cl lm tb) mg base 1 (ad 8) (fd 8) ["log", "at"] F_times_seen 2 :=
  fn_A (N := N_times_seen) (ps := ["log", "at"]) (k := 0) T.f_times_seen T.b_times_seen (fnScope_K (by decide +kernel)) fun M cdv A outer s H E z => (s_one (s_ret (r_lc (own := [("day", 2)]) z.q z.c z.n (i_seq z.q (r_fld z.q (T.sg _ _) (r_var (i := 0)))) (blkOk_by (N := N_times_seen) (sc := defScope st_times_seen) (by decide +kernel)) (fun s' H' C' cl' fp' => onG (z.blk s' H' _ _ fp') fun zb => (g_nm (i := 2) zb.n)) (fun s' H' C' cl' fp' => onT (z.blk s' H' _ _ fp') fun zb => (t_some (t_cmp op_isNotD (r_ix zb.q (r_var (i := 2)) (r_var (i := 1))) r_non))) (fun s' H' C' cl' fp' => onE (z.blk s' H' _ _ fp') fun zb => (r_ix zb.q (r_var (i := 2)) (r_var (i := 1)))))))
theorem c_times_seen : FnC P w (sg K cl lm tb) mg base 1 "times_seen" F_times_seen 2 := (ok_times_seen T).c T.m_times_seen
theorem ok_plan_minute : FnA P w (sg K cl lm tb) mg base 1 (ad 9) (fd 9) ["times", "period", "late"] F_plan_minute 3 :=
  fn_A (N := N_plan_minute) (ps := ["times", "period", "late"]) (k := 0) T.f_plan_minute T.b_plan_minute (fnScope_K (by decide +kernel)) fun M cdv A outer s H E z => (s_cons (s_for (vs := [3]) z.c (passes_of rfl) (i_seq z.q (r_srtK z.c T.z_sorted (r_dc (own := [("time", 4)]) z.q z.c z.n (i_seq z.q (r_kv (i := 0))) (blkOk_by (N := N_plan_minute) (sc := defScope st_plan_minute) (by decide +kernel)) (fun s' H' C' cl' fp' => onG (z.blk s' H' _ _ fp') fun zb => (g_nm (i := 4) zb.n)) (fun s' H' C' cl' fp' => onT (z.blk s' H' _ _ fp') fun zb => t_none) (fun s' H' C' cl' fp' => onE (z.blk s' H' _ _ fp') fun zb => (r_bin op_modD (r_var (i := 4)) (r_var (i := 1)))) (fun s' H' C' cl' fp' => onE (z.blk s' H' _ _ fp') fun zb => r_bl)))) (g_nm (i := 3) z.n) (s_one (s_if (t_val z.q (r_callB1 (c_all z.q z.c) T.z_all bt_all (r_lc (own := [("time", 4)]) z.q z.c z.n (i_seq z.q (r_kv (i := 0))) (blkOk_by (N := N_plan_minute) (sc := defScope st_plan_minute) (by decide +kernel)) (fun s' H' C' cl' fp' => onG (z.blk s' H' _ _ fp') fun zb => (g_nm (i := 4) zb.n)) (fun s' H' C' cl' fp' => onT (z.blk s' H' _ _ fp') fun zb => t_none) (fun s' H' C' cl' fp' => onE (z.blk s' H' _ _ fp') fun zb => (r_cmp op_leD (r_bin op_modD (r_bin op_subD (r_var (i := 4)) (r_var (i := 3))) (r_var (i := 1))) (r_var (i := 2))))))) (s_one (s_ret (r_var (i := 3)))) s_nil))) (s_one (s_ret r_non)))
theorem c_plan_minute : FnC P w (sg K cl lm tb) mg base 1 "plan_minute" F_plan_minute 3 := (ok_plan_minute T).c T.m_plan_minute
theorem ok_least_plan : FnA P w (sg K cl lm tb) mg base 2 (ad 10) (fd 10) ["times", "period", "late"] F_least_plan 3 :=
  fn_A (N := N_least_plan) (ps := ["times", "period", "late"]) (k := 1) T.f_least_plan T.b_least_plan (fnScope_K (by decide +kernel)) fun M cdv A outer s H E z => (s_cons (s_if (t_cmp op_geD (r_var (i := 2)) (r_bin op_subD (r_var (i := 1)) r_int)) (s_one (s_ret r_int)) s_nil) (s_cons (s_set (i := 3) z.n (r_c z (c_plan_minute (P := P) (w := w) (base := base) T) (a_cons (r_kv (i := 0)) (a_cons (r_kv (i := 1)) (a_cons (r_kv (i := 2)) a_nil))))) (s_cons (s_if (t_cmp op_isD (r_var (i := 3)) r_non) (s_one (s_ret r_non)) s_nil) (s_cons (s_set (i := 4) z.n (r_bin op_subD (r_var (i := 2)) (r_maxA z.q z.c T.z_max (r_lc (own := [("time", 5)]) z.q z.c z.n (i_seq z.q (r_kv (i := 0))) (blkOk_by (N := N_least_plan) (sc := defScope st_least_plan) (by decide +kernel)) (fun s' H' C' cl' fp' => onG (z.blk s' H' _ _ fp') fun zb => (g_nm (i := 5) zb.n)) (fun s' H' C' cl' fp' => onT (z.blk s' H' _ _ fp') fun zb => t_none) (fun s' H' C' cl' fp' => onE (z.blk s' H' _ _ fp') fun zb => (r_bin op_modD (r_bin op_subD (r_var (i := 5)) (r_var (i := 3))) (r_var (i := 1)))))))) (s_one (s_ret (r_ite (t_cmp op_leD (r_bin op_subD (r_var (i := 3)) (r_var (i := 4))) r_int) r_int (r_bin op_subD (r_var (i := 3)) (r_var (i := 4))))))))))
theorem c_least_plan : FnC P w (sg K cl lm tb) mg base 2 "least_plan" F_least_plan 3 := (ok_least_plan T).c T.m_least_plan
theorem ok_fits_period : FnA P w (sg K cl lm tb) mg base 3 (ad 12) (fd 12) ["log", "period", "late"] F_fits_period 3 :=
  fn_A (N := N_fits_period) (ps := ["log", "period", "late"]) (k := 2) T.f_fits_period T.b_fits_period (fnScope_K (by decide +kernel)) fun M cdv A outer s H E z => (s_cons (s_for (vs := [3]) z.c (passes_of rfl) (i_rng T.z_range (r_callB1 (c_len z.q) T.z_len bt_len (r_fld z.q (T.sg _ _) (r_var (i := 0))))) (g_nm (i := 3) z.n) (s_cons (s_set (i := 4) z.n (r_c z (c_times_seen (P := P) (w := w) (base := base) T) (a_cons (r_kv (i := 0)) (a_cons (r_kv (i := 3)) a_nil)))) (s_one (s_if (w_and (t_val z.q (r_var (i := 4))) (w_and1 (t_cmp op_isD (r_c z (c_least_plan (P := P) (w := w) (base := base) T) (a_cons (r_kv (i := 4)) (a_cons (r_kv (i := 1)) (a_cons (r_kv (i := 2)) a_nil)))) r_non))).pt (s_one (s_ret r_bl)) s_nil)))) (s_one (s_ret r_bl)))
theorem c_fits_period : FnC P w (sg K cl lm tb) mg base 3 "fits_period" F_fits_period 3 := (ok_fits_period T).c T.m_fits_period
theorem ok_is_number : FnA P w (sg K cl lm tb) mg base 2 (ad 1) (fd 1) ["value"] F_is_number 1 :=
  fn_A (N := N_is_number) (ps := ["value"]) (k := 1) T.f_is_number T.b_is_number (fnScope_K (by decide +kernel)) fun M cdv A outer s H E z => (s_one (s_ret (r_and (r_c z (c_is_whole (P := P) (w := w) (base := base) T) (a_cons (r_kv (i := 0)) a_nil)) (r_one (r_cmp op_geD (r_var (i := 0)) r_int)))))
theorem c_is_number : FnC P w (sg K cl lm tb) mg base 2 "is_number" F_is_number 1 := (ok_is_number T).c T.m_is_number
theorem ok_need_late : FnA P w (sg K cl lm tb) mg base 3 (ad 11) (fd 11) ["late"] F_need_late 1 :=
  fn_A (N := N_need_late) (ps := ["late"]) (k := 2) T.f_need_late T.b_need_late (fnScope_K (by decide +kernel)) fun M cdv A outer s H E z => (s_one (s_if (t_not (t_val z.q (r_c z (c_is_number (P := P) (w := w) (base := base) T) (a_cons (r_kv (i := 0)) a_nil)))) (s_one (s_raise z (x_BadNumber (P := P) (w := w) (base := base) T) (r_pcons r_str (r_pcons (r_kv (i := 0)) r_pnil)))) s_nil))
theorem c_need_late : FnC P w (sg K cl lm tb) mg base 3 "need_late" F_need_late 1 := (ok_need_late T).c T.m_need_late
theorem ok_periods_that_fit : FnA P w (sg K cl lm tb) mg base 4 (ad 13) (fd 13) ["log", "most", "late"] F_periods_that_fit 3 :=
  fn_A (N := N_periods_that_fit) (ps := ["log", "most", "late"]) (k := 3) T.f_periods_that_fit T.b_periods_that_fit (fnScope_K (by decide +kernel)) fun M cdv A outer s H E z => (s_cons (s_if (w_or (t_not (t_val z.q (r_c z (c_is_whole (P := P) (w := w) (base := base) T) (a_cons (r_kv (i := 1)) a_nil)))) (w_or1 (t_not (t_chain op_leD op_leD r_int (r_var (i := 1)) r_int)))).pt (s_one (s_raise z (x_BadNumber (P := P) (w := w) (base := base) T) (r_pcons r_str (r_pcons (r_kv (i := 1)) r_pnil)))) s_nil) (s_cons (s_expr (r_c z (c_need_late (P := P) (w := w) (base := base) T) (a_cons (r_kv (i := 2)) a_nil))) (s_one (s_ret (r_callT1 (c_tup z.q) T.z_tuple bt_tuple (r_lc (own := [("period", 3)]) z.q z.c z.n (i_rng2 T.z_range r_int (r_bin (op_addD z.q) (r_var (i := 1)) r_int)) (blkOk_by (N := N_periods_that_fit) (sc := defScope st_periods_that_fit) (by decide +kernel)) (fun s' H' C' cl' fp' => onG (z.blk s' H' _ _ fp') fun zb => (g_nm (i := 3) zb.n)) (fun s' H' C' cl' fp' => onT (z.blk s' H' _ _ fp') fun zb => (t_some (t_val zb.q (r_c zb (c_fits_period (P := P) (w := w) (base := base) T) (a_cons (r_kv (i := 0)) (a_cons (r_kv (i := 3)) (a_cons (r_kv (i := 2)) a_nil))))))) (fun s' H' C' cl' fp' => onE (z.blk s' H' _ _ fp') fun zb => (r_kv (i := 3)))))))))
theorem c_periods_that_fit : FnC P w (sg K cl lm tb) mg base 4 "periods_that_fit" F_periods_that_fit 3 := (ok_periods_that_fit T).c T.m_periods_that_fit
theorem ok_need_period : FnA P w (sg K cl lm tb) mg base 3 (ad 3) (fd 3) ["period"] F_need_period 1 :=
  fn_A (N := N_need_period) (ps := ["period"]) (k := 2) T.f_need_period T.b_need_period (fnScope_K (by decide +kernel)) fun M cdv A outer s H E z => (s_one (s_if (w_or (t_not (t_val z.q (r_c z (c_is_whole (P := P) (w := w) (base := base) T) (a_cons (r_kv (i := 0)) a_nil)))) (w_or1 (t_not (t_chain op_leD op_leD r_int (r_var (i := 0)) (r_gint (T.g_MOST_PERIOD.choose_spec)))))).pt (s_one (s_raise z (x_BadNumber (P := P) (w := w) (base := base) T) (r_pcons r_str (r_pcons (r_kv (i := 0)) r_pnil)))) s_nil))
theorem c_need_period : FnC P w (sg K cl lm tb) mg base 3 "need_period" F_need_period 1 := (ok_need_period T).c T.m_need_period
theorem ok_planned : FnA P w (sg K cl lm tb) mg base 4 (ad 14) (fd 14) ["log", "period", "late"] F_planned 3 :=
  fn_A (N := N_planned) (ps := ["log", "period", "late"]) (k := 3) T.f_planned T.b_planned (fnScope_K (by decide +kernel)) fun M cdv A outer s H E z => (s_cons (s_expr (r_c z (c_need_period (P := P) (w := w) (base := base) T) (a_cons (r_kv (i := 1)) a_nil))) (s_cons (s_expr (r_c z (c_need_late (P := P) (w := w) (base := base) T) (a_cons (r_kv (i := 2)) a_nil))) (s_cons (s_if (t_not (t_val z.q (r_c z (c_fits_period (P := P) (w := w) (base := base) T) (a_cons (r_kv (i := 0)) (a_cons (r_kv (i := 1)) (a_cons (r_kv (i := 2)) a_nil)))))) (s_one (s_ret r_non)) s_nil) (s_cons (s_set (i := 3) z.n (r_lst r_pnil)) (s_cons (s_for (vs := [4]) z.c (passes_of rfl) (i_rng T.z_range (r_callB1 (c_len z.q) T.z_len bt_len (r_fld z.q (T.sg _ _) (r_var (i := 0))))) (g_nm (i := 4) z.n) (s_cons (s_set (i := 5) z.n (r_c z (c_times_seen (P := P) (w := w) (base := base) T) (a_cons (r_kv (i := 0)) (a_cons (r_kv (i := 4)) a_nil)))) (s_one (s_expr (r_app (i := 3) (by rfl) (r_ite (t_val z.q (r_var (i := 5))) (r_c z (c_least_plan (P := P) (w := w) (base := base) T) (a_cons (r_kv (i := 5)) (a_cons (r_kv (i := 1)) (a_cons (r_kv (i := 2)) a_nil)))) r_non)))))) (s_one (s_ret (r_callT1 (c_tup z.q) T.z_tuple bt_tuple (r_var (i := 3))))))))))
theorem c_planned : FnC P w (sg K cl lm tb) mg base 4 "planned" F_planned 3 := (ok_planned T).c T.m_planned
theorem ok__law_caught {TH : Nat → List D → EF} (hA : Acts P w (sg K cl lm tb) mg base 5 TH) : FnA P w (sg K cl lm tb) mg base 6 (ad 22) (fd 22) ["action"] (F__law_caught TH) 1 :=
  fn_A (N := N__law_caught) (ps := ["action"]) (k := 5) T.f__law_caught T.b__law_caught (fnScope_K (by decide +kernel)) fun M cdv A outer s H E z => (s_cons (s_try (ia := 0) (i := 1) z hA (by decide) rfl rfl ⟨rfl, by decide, Or.inl T.m_HourError⟩ T.he (fun ae oe pn c dx hce hz hfd => (s_cons (s_set (i := 2) z.n (r_lst r_pnil)) (s_cons (s_if (t_val z.q (r_isX z.q (T.ec _ _ _) rfl hce hz hfd T.z_isinstance T.m_BadName (r_var (i := 1)))) (s_one (s_expr (r_app (i := 2) (by rfl) (r_tup (r_pcons r_str (r_pcons (r_fldX z.q (T.ec _ _ _) rfl hce hz hfd (r_var (i := 1))) r_pnil)))))) s_nil) (s_cons (s_if (t_val z.q (r_isX z.q (T.ec _ _ _) rfl hce hz hfd T.z_isinstance T.m_BadNumber (r_var (i := 1)))) (s_one (s_expr (r_app (i := 2) (by rfl) (r_tup (r_pcons r_str (r_pcons (r_fldX z.q (T.ec _ _ _) rfl hce hz hfd (r_var (i := 1))) (r_pcons (r_fldX z.q (T.ec _ _ _) rfl hce hz hfd (r_var (i := 1))) r_pnil))))))) s_nil) (s_cons (s_if (t_val z.q (r_isX z.q (T.ec _ _ _) rfl hce hz hfd T.z_isinstance T.m_BadRow (r_var (i := 1)))) (s_one (s_expr (r_app (i := 2) (by rfl) (r_tup (r_pcons r_str (r_pcons (r_fldX z.q (T.ec _ _ _) rfl hce hz hfd (r_var (i := 1))) (r_pcons (r_fldX z.q (T.ec _ _ _) rfl hce hz hfd (r_var (i := 1))) r_pnil))))))) s_nil) (s_cons (s_if (t_val z.q (r_isX z.q (T.ec _ _ _) rfl hce hz hfd T.z_isinstance T.m_NoEvent (r_var (i := 1)))) (s_one (s_expr (r_app (i := 2) (by rfl) (r_tup (r_pcons r_str (r_pcons (r_fldX z.q (T.ec _ _ _) rfl hce hz hfd (r_var (i := 1))) r_pnil)))))) s_nil) (s_cons (s_if (t_val z.q (r_isX z.q (T.ec _ _ _) rfl hce hz hfd T.z_isinstance T.m_NoBond (r_var (i := 1)))) (s_one (s_expr (r_app (i := 2) (by rfl) (r_tup (r_pcons r_str (r_pcons (r_fldX z.q (T.ec _ _ _) rfl hce hz hfd (r_var (i := 1))) r_pnil)))))) s_nil) (s_cons (s_if (t_val z.q (r_isX z.q (T.ec _ _ _) rfl hce hz hfd T.z_isinstance T.m_NoTimes (r_var (i := 1)))) (s_one (s_expr (r_app (i := 2) (by rfl) (r_tup (r_pcons r_str r_pnil))))) s_nil) (s_cons (s_if (t_val z.q (r_isX z.q (T.ec _ _ _) rfl hce hz hfd T.z_isinstance T.m_TakenName (r_var (i := 1)))) (s_one (s_expr (r_app (i := 2) (by rfl) (r_tup (r_pcons r_str (r_pcons (r_fldX z.q (T.ec _ _ _) rfl hce hz hfd (r_var (i := 1))) r_pnil)))))) s_nil) (s_cons (s_if (t_val z.q (r_isX z.q (T.ec _ _ _) rfl hce hz hfd T.z_isinstance T.m_TooMany (r_var (i := 1)))) (s_one (s_expr (r_app (i := 2) (by rfl) (r_tup (r_pcons r_str (r_pcons (r_fldX z.q (T.ec _ _ _) rfl hce hz hfd (r_var (i := 1))) (r_pcons (r_fldX z.q (T.ec _ _ _) rfl hce hz hfd (r_var (i := 1))) (r_pcons (r_fldX z.q (T.ec _ _ _) rfl hce hz hfd (r_var (i := 1))) r_pnil)))))))) s_nil) (s_cons (s_if (t_val z.q (r_isX z.q (T.ec _ _ _) rfl hce hz hfd T.z_isinstance T.m_Unlike (r_var (i := 1)))) (s_one (s_expr (r_app (i := 2) (by rfl) (r_tup (r_pcons r_str (r_pcons (r_fldX z.q (T.ec _ _ _) rfl hce hz hfd (r_var (i := 1))) r_pnil)))))) s_nil) (s_cons (s_if (t_val z.q (r_isX z.q (T.ec _ _ _) rfl hce hz hfd T.z_isinstance T.m_BadText (r_var (i := 1)))) (s_one (s_expr (r_app (i := 2) (by rfl) (r_tup (r_pcons r_str (r_pcons (r_fldX z.q (T.ec _ _ _) rfl hce hz hfd (r_var (i := 1))) (r_pcons (r_fldX z.q (T.ec _ _ _) rfl hce hz hfd (r_var (i := 1))) r_pnil))))))) s_nil) (s_one (s_ret (r_ite (t_cmp (op_eqDD z.q z.u) (r_callB1 (c_len z.q) T.z_len bt_len (r_var (i := 2))) r_int) (r_ix z.q (r_var (i := 2)) r_int) (r_tup (r_pcons r_str r_pnil)))))))))))))))))) (s_one (s_ret (r_tup (r_pcons r_str r_pnil)))))
theorem c__law_caught {TH : Nat → List D → EF} (hA : Acts P w (sg K cl lm tb) mg base 5 TH) : FnC P w (sg K cl lm tb) mg base 6 "_law_caught" (F__law_caught TH) 1 := (ok__law_caught T hA).c T.m__law_caught
theorem ok__law_raise_so {TH : Nat → List D → EF} (hA : Acts P w (sg K cl lm tb) mg base 5 TH) : FnGA P w (sg K cl lm tb) mg base 7 (ad 26) (fd 26) ["calls"] (F__law_raise_so TH) 1 :=
  fn_AG (N := N__law_raise_so) (ps := ["calls"]) (k := 6) T.f__law_raise_so T.b__law_raise_so (fnScope_K (by decide +kernel)) fun M cdv A outer s H E gd z => (s_cons (s_for (vs := [1, 2]) z.c (passes_of rfl) (i_seq z.q (r_kv (i := 0))) (g_tup (n := 2) z.q z.c (g_cons (g_nm (i := 1) z.n) (g_cons (g_nm (i := 2) z.n) g_nil))) (s_cons (s_set (i := 3) z.n (r_c z (c__law_caught (P := P) (w := w) (base := base) T hA) (a_cons (r_kv (i := 1)) a_nil))) (s_one (s_if (w_or (t_cmp (op_neDD z.q z.u) (r_sl z.q (r_var (i := 3)) r_ono (r_osome (r_neg r_int))) (r_sl z.q (r_var (i := 2)) r_ono (r_osome (r_neg r_int)))) (w_or1 (t_cmp (op_neDD z.q z.u) (r_reprG z.q gd z.u T.z_repr (r_ix z.q (r_var (i := 3)) (r_neg r_int))) (r_reprG z.q gd z.u T.z_repr (r_ix z.q (r_var (i := 2)) (r_neg r_int)))))).pt (s_one (s_ret r_bl)) s_nil)))) (s_one (s_ret r_bl)))
theorem c__law_raise_so {TH : Nat → List D → EF} (hA : Acts P w (sg K cl lm tb) mg base 5 TH) : FnGC P w (sg K cl lm tb) mg base 7 "_law_raise_so" (F__law_raise_so TH) 1 := (ok__law_raise_so T hA).c T.m__law_raise_so
theorem ok__law_draw : FnA P w (sg K cl lm tb) mg base 1 (ad 17) (fd 17) ["pen", "many"] F__law_draw 2 :=
  fn_A (N := N__law_draw) (ps := ["pen", "many"]) (k := 0) T.f__law_draw T.b__law_draw (fnScope_K (by decide +kernel)) fun M cdv A outer s H E z => (s_cons (s_tgt (r_bin (op_addD z.q) (r_dget z.u (r_var (i := 0)) r_str) r_int) (g_sub (j := 0) z.u r_str)) (s_cons (s_if (w_and (t_cmp (op_eqDD z.q z.u) (r_dget z.u (r_var (i := 0)) r_str) r_int) (w_and1 (t_cmp op_ltD (r_dget z.u (r_var (i := 0)) r_str) (r_callB1 (c_len z.q) T.z_len bt_len (r_dget z.u (r_var (i := 0)) r_str))))).pt (s_cons (s_set (i := 2) z.n (r_ix z.q (r_dget z.u (r_var (i := 0)) r_str) (r_dget z.u (r_var (i := 0)) r_str))) (s_cons (s_tgt (r_bin (op_addD z.q) (r_dget z.u (r_var (i := 0)) r_str) r_int) (g_sub (j := 0) z.u r_str)) (s_one (s_if (t_cmp op_geD (r_var (i := 2)) (r_bin op_powD r_int r_int)) (s_one (s_tgt (r_bin op_subD (r_var (i := 2)) (r_bin op_powD r_int r_int)) (g_sub (j := 0) z.u r_str))) (s_one (s_tgt (r_bin op_modD (r_callT1 c_int T.z_int bt_int (r_bin (op_addD z.q) (r_bin op_mulD (r_dget z.u (r_var (i := 0)) r_str) r_int) (r_var (i := 2)))) r_int) (g_sub (j := 0) z.u r_str))))))) s_nil) (s_cons (s_if (t_cmp op_gtD (r_dget z.u (r_var (i := 0)) r_str) r_int) (s_cons (s_set (i := 3) z.n (r_bin op_modD (r_callT1 c_int T.z_int bt_int (r_dget z.u (r_var (i := 0)) r_str)) (r_var (i := 1)))) (s_cons (s_tgt (r_bin op_divD (r_dget z.u (r_var (i := 0)) r_str) (r_var (i := 1))) (g_sub (j := 0) z.u r_str)) (s_one (s_ret (r_var (i := 3)))))) s_nil) (s_cons (s_set (i := 4) z.n (r_bin op_modD (r_callT1 c_int T.z_int bt_int (r_bin (op_addD z.q) (r_bin (op_addD z.q) (r_bin op_mulD (r_dget z.u (r_var (i := 0)) r_str) r_int) (r_bin op_mulD (r_dget z.u (r_var (i := 0)) r_str) r_int)) r_int)) r_int)) (s_cons (s_set (i := 4) z.n (r_bin op_modD (r_callT1 c_int T.z_int bt_int (r_bin (op_addD z.q) (r_bin (op_addD z.q) (r_bin op_mulD (r_var (i := 4)) (r_var (i := 4))) (r_bin op_mulD r_int (r_var (i := 4)))) (r_dget z.u (r_var (i := 0)) r_str))) r_int)) (s_cons (s_tgt (r_bin op_modD (r_callT1 c_int T.z_int bt_int (r_bin (op_addD z.q) (r_bin op_mulD (r_var (i := 4)) r_int) r_int)) r_int) (g_sub (j := 0) z.u r_str)) (s_one (s_ret (r_bin op_modD (r_callT1 c_int T.z_int bt_int (r_bin op_divD (r_var (i := 4)) r_int)) (r_var (i := 1)))))))))))
theorem c__law_draw : FnC P w (sg K cl lm tb) mg base 1 "_law_draw" F__law_draw 2 := (ok__law_draw T).c T.m__law_draw
theorem ok__law_pick : FnA P w (sg K cl lm tb) mg base 2 (ad 18) (fd 18) ["pen", "some"] F__law_pick 2 :=
  fn_A (N := N__law_pick) (ps := ["pen", "some"]) (k := 1) T.f__law_pick T.b__law_pick (fnScope_K (by decide +kernel)) fun M cdv A outer s H E z => (s_one (s_ret (r_ix z.q (r_var (i := 1)) (r_c z (c__law_draw (P := P) (w := w) (base := base) T) (a_cons (r_var (i := 0)) (a_cons (r_callB1 (c_len z.q) T.z_len bt_len (r_var (i := 1))) a_nil))))))
theorem c__law_pick : FnC P w (sg K cl lm tb) mg base 2 "_law_pick" F__law_pick 2 := (ok__law_pick T).c T.m__law_pick
theorem ok__law_name : FnA P w (sg K cl lm tb) mg base 3 (ad 20) (fd 20) ["pen"] F__law_name 1 :=
  fn_A (N := N__law_name) (ps := ["pen"]) (k := 2) T.f__law_name T.b__law_name (fnScope_K (by decide +kernel)) fun M cdv A outer s H E z => (s_cons (s_parT (i := 1) (j := 2) z.c z.n (p_cons r_str (p_cons r_str p_nil))) (s_cons (s_set (i := 3) z.n (r_ix z.q (r_lst (r_pcons r_int (r_pcons r_int (r_pcons r_int (r_pcons r_int (r_pcons r_int (r_pcons r_int r_pnil))))))) (r_c z (c__law_draw (P := P) (w := w) (base := base) T) (a_cons (r_var (i := 0)) (a_cons r_int a_nil))))) (s_one (s_ret (r_bin (op_addD z.q) (r_c z (c__law_pick (P := P) (w := w) (base := base) T) (a_cons (r_var (i := 0)) (a_cons (r_kv (i := 1)) a_nil))) (r_join z.q (r_lc (own := [("lap", 4)]) z.q z.c z.n (i_rng T.z_range (r_var (i := 3))) (blkOk_by (N := N__law_name) (sc := defScope st__law_name) (by decide +kernel)) (fun s' H' C' cl' fp' => onG (z.blk s' H' _ _ fp') fun zb => (g_nm (i := 4) zb.n)) (fun s' H' C' cl' fp' => onT (z.blk s' H' _ _ fp') fun zb => t_none) (fun s' H' C' cl' fp' => onE (z.blk s' H' _ _ fp') fun zb => (r_c zb (c__law_pick (P := P) (w := w) (base := base) T) (a_cons (r_var (i := 0)) (a_cons (r_kv (i := 2)) a_nil)))))))))))
theorem c__law_name : FnC P w (sg K cl lm tb) mg base 3 "_law_name" F__law_name 1 := (ok__law_name T).c T.m__law_name
theorem ok__law_names : FnA P w (sg K cl lm tb) mg base 4 (ad 21) (fd 21) ["pen", "many"] F__law_names 2 :=
  fn_A (N := N__law_names) (ps := ["pen", "many"]) (k := 3) T.f__law_names T.b__law_names (fnScope_K (by decide +kernel)) fun M cdv A outer s H E z => (s_cons (s_set (i := 2) z.n (r_lst r_pnil)) (s_cons (s_for (vs := [3]) z.c (passes_of rfl) (i_rng T.z_range (r_var (i := 1))) (g_nm (i := 3) z.n) (s_cons (s_set (i := 4) z.n (r_c z (c__law_name (P := P) (w := w) (base := base) T) (a_cons (r_var (i := 0)) a_nil))) (s_cons (s_if (t_cmp (op_inDD z.q z.u) (r_var (i := 4)) (r_var (i := 2))) (s_one (s_set (i := 4) z.n (r_bin (op_addD z.q) (r_bin (op_addD z.q) r_str (r_callT1 c_str T.z_str bt_str (r_var (i := 3)))) r_str))) s_nil) (s_cons (s_while (passes_of rfl) (t_cmp (op_inDD z.q z.u) (r_var (i := 4)) (r_var (i := 2))) (s_one (s_set (i := 4) z.n (r_bin (op_addD z.q) (r_var (i := 4)) r_str)))) (s_one (s_expr (r_app (i := 2) (by rfl) (r_kv (i := 4))))))))) (s_one (s_ret (r_callT1 (c_tupN z.q) T.z_tuple bt_tuple (r_var (i := 2)))))))
theorem c__law_names : FnC P w (sg K cl lm tb) mg base 4 "_law_names" F__law_names 2 := (ok__law_names T).c T.m__law_names
theorem ok__law_drawn_log : FnA P w (sg K cl lm tb) mg base 5 (ad 23) (fd 23) ["pen", "many", "period"] F__law_drawn_log 3 :=
  fn_A (N := N__law_drawn_log) (ps := ["pen", "many", "period"]) (k := 4) T.f__law_drawn_log T.b__law_drawn_log (fnScope_K (by decide +kernel)) fun M cdv A outer s H E z => (s_cons (s_set (i := 3) z.n (r_c z (c__law_names (P := P) (w := w) (base := base) T) (a_cons (r_var (i := 0)) (a_cons (r_kv (i := 1)) a_nil)))) (s_cons (s_par (i := 4) (j := 5) z.c z.n (p_cons (r_lc (own := [("event", 6)]) z.q z.c z.n (i_seq z.q (r_kv (i := 3))) (blkOk_by (N := N__law_drawn_log) (sc := defScope st__law_drawn_log) (by decide +kernel)) (fun s' H' C' cl' fp' => onG (z.blk s' H' _ _ fp') fun zb => (g_nm (i := 6) zb.n)) (fun s' H' C' cl' fp' => onT (z.blk s' H' _ _ fp') fun zb => t_none) (fun s' H' C' cl' fp' => onE (z.blk s' H' _ _ fp') fun zb => (r_c zb (c__law_draw (P := P) (w := w) (base := base) T) (a_cons (r_var (i := 0)) (a_cons (r_kv (i := 2)) a_nil))))) (p_cons (r_lst r_pnil) p_nil))) (s_cons (s_for (vs := [7]) z.c (passes_of rfl) (i_rng T.z_range (r_c z (c__law_draw (P := P) (w := w) (base := base) T) (a_cons (r_var (i := 0)) (a_cons r_int a_nil)))) (g_nm (i := 7) z.n) (s_cons (s_par (i := 8) (j := 9) z.c z.n (p_cons (r_bin op_subD (r_c z (c__law_draw (P := P) (w := w) (base := base) T) (a_cons (r_var (i := 0)) (a_cons r_int a_nil))) r_int) (p_cons (r_lst r_pnil) p_nil))) (s_cons (s_for (vs := [10]) z.c (passes_of rfl) (i_seq z.q (r_kv (i := 4))) (g_nm (i := 10) z.n) (s_cons (s_set (i := 11) z.n (r_bin (op_addD z.q) (r_bin (op_addD z.q) (r_var (i := 10)) (r_bin op_mulD (r_var (i := 8)) (r_var (i := 2)))) (r_c z (c__law_pick (P := P) (w := w) (base := base) T) (a_cons (r_var (i := 0)) (a_cons (r_lst (r_pcons r_int (r_pcons r_int (r_pcons r_int (r_pcons r_int (r_pcons r_int (r_pcons r_int r_pnil))))))) a_nil))))) (s_one (s_expr (r_app (i := 9) (by rfl) (r_ite (t_cmp (op_eqDD z.q z.u) (r_c z (c__law_draw (P := P) (w := w) (base := base) T) (a_cons (r_var (i := 0)) (a_cons r_int a_nil))) r_int) r_non (r_kv (i := 11)))))))) (s_one (s_expr (r_app (i := 5) (by rfl) (r_callT1 (c_tup z.q) T.z_tuple bt_tuple (r_var (i := 9))))))))) (s_one (s_ret (r_tup (r_pcons (r_kv (i := 3)) (r_pcons (r_callT1 (c_tup z.q) T.z_tuple bt_tuple (r_var (i := 5))) r_pnil))))))))
theorem c__law_drawn_log : FnC P w (sg K cl lm tb) mg base 5 "_law_drawn_log" F__law_drawn_log 3 := (ok__law_drawn_log T).c T.m__law_drawn_log
theorem ok__law_is : ∀ i : Nat, FnA P w (sg K cl lm tb) mg base (0 + i) (ad 19) (fd 19) ["told", "due"] (F__law_is i) 2
  | 0 => fn_N (ps := ["told", "due"]) T.f__law_is T.b__law_is
  | i + 1 => fn_A (N := N__law_is) (ps := ["told", "due"]) T.f__law_is T.b__law_is (fnScope_K (by decide +kernel)) fun M cdv A outer s H E z => have cR := FnA.c (ok__law_is i) T.m__law_is; (s_cons (s_if (t_val z.q (r_isi (u := (.b .tuple)) z.q (T.sg _ _) trivial T.z_isinstance (pe_ty (S := sg K cl _ _) (u := .b .tuple) (by rfl) (Or.inl ⟨_, rfl, T.z_tuple, bt_tuple⟩)) (r_var (i := 1)))) (s_cons (s_if (w_or (t_not (t_val z.q (r_isi (u := (.b .tuple)) z.q (T.sg _ _) trivial T.z_isinstance (pe_ty (S := sg K cl _ _) (u := .b .tuple) (by rfl) (Or.inl ⟨_, rfl, T.z_tuple, bt_tuple⟩)) (r_var (i := 0))))) (w_or1 (t_cmp (op_neDD z.q z.u) (r_callB1 (c_len z.q) T.z_len bt_len (r_var (i := 0))) (r_callB1 (c_len z.q) T.z_len bt_len (r_var (i := 1)))))).pt (s_one (s_ret r_bl)) s_nil) (s_one (s_ret (r_cmp (op_eqDD z.q z.u) (r_lc (own := [("at", 2)]) z.q z.c z.n (i_rng T.z_range (r_callB1 (c_len z.q) T.z_len bt_len (r_var (i := 1)))) (blkOk_by (N := N__law_is) (sc := defScope st__law_is) (by decide +kernel)) (fun s' H' C' cl' fp' => onG (z.blk s' H' _ _ fp') fun zb => (g_nm (i := 2) zb.n)) (fun s' H' C' cl' fp' => onT (z.blk s' H' _ _ fp') fun zb => (t_some (t_not (t_val zb.q (r_c zb cR (a_cons (r_ix zb.q (r_var (i := 0)) (r_var (i := 2))) (a_cons (r_ix zb.q (r_var (i := 1)) (r_var (i := 2))) a_nil)) (Nat.le_refl _)))))) (fun s' H' C' cl' fp' => onE (z.blk s' H' _ _ fp') fun zb => (r_kv (i := 2)))) (r_lst r_pnil))))) s_nil) (s_cons (s_if (t_cmp op_isD (r_var (i := 1)) r_non) (s_one (s_ret (r_cmp op_isD (r_var (i := 0)) r_non))) s_nil) (s_cons (s_if (t_cmp op_isD (r_var (i := 1)) r_bl) (s_one (s_ret (r_cmp op_isD (r_var (i := 0)) r_bl))) s_nil) (s_cons (s_if (t_cmp op_isD (r_var (i := 1)) r_bl) (s_one (s_ret (r_cmp op_isD (r_var (i := 0)) r_bl))) s_nil) (s_cons (s_if (t_val z.q (r_isi (u := (.b .str)) z.q (T.sg _ _) trivial T.z_isinstance (pe_ty (S := sg K cl _ _) (u := .b .str) (by rfl) (Or.inl ⟨_, rfl, T.z_str, bt_str⟩)) (r_var (i := 1)))) (s_one (s_ret (r_and (r_isi (u := (.b .str)) z.q (T.sg _ _) trivial T.z_isinstance (pe_ty (S := sg K cl _ _) (u := .b .str) (by rfl) (Or.inl ⟨_, rfl, T.z_str, bt_str⟩)) (r_var (i := 0))) (r_one (r_cmp (op_eqDD z.q z.u) (r_var (i := 0)) (r_var (i := 1))))))) s_nil) (s_one (s_ret (r_and (r_isi (u := (.b .int)) z.q (T.sg _ _) trivial T.z_isinstance (pe_ty (S := sg K cl _ _) (u := .b .int) (by rfl) (Or.inl ⟨_, rfl, T.z_int, bt_int⟩)) (r_var (i := 0))) (r_and (r_not (r_isi (u := (.b .bool)) z.q (T.sg _ _) trivial T.z_isinstance (pe_ty (S := sg K cl _ _) (u := .b .bool) (by rfl) (Or.inl ⟨_, rfl, T.z_bool, bt_bool⟩)) (r_var (i := 0)))) (r_one (r_cmp (op_eqDD z.q z.u) (r_var (i := 0)) (r_var (i := 1)))))))))))))
theorem c__law_is (i : Nat) : FnC P w (sg K cl lm tb) mg base (0 + i) "_law_is" (F__law_is i) 2 := (ok__law_is T i).c T.m__law_is
theorem ok_is_day : FnA P w (sg K cl lm tb) mg base 2 (ad 7) (fd 7) ["many", "value"] F_is_day 2 :=
  fn_A (N := N_is_day) (ps := ["many", "value"]) (k := 1) T.f_is_day T.b_is_day (fnScope_K (by decide +kernel)) fun M cdv A outer s H E z => (s_cons (s_if (w_or (t_not (t_val z.q (r_isi (u := (.b .tuple)) z.q (T.sg _ _) trivial T.z_isinstance (pe_ty (S := sg K cl _ _) (u := .b .tuple) (by rfl) (Or.inl ⟨_, rfl, T.z_tuple, bt_tuple⟩)) (r_var (i := 1))))) (w_or1 (t_cmp (op_neDD z.q z.u) (r_callB1 (c_len z.q) T.z_len bt_len (r_var (i := 1))) (r_var (i := 0))))).pt (s_one (s_ret r_bl)) s_nil) (s_one (s_ret (r_callB1 (c_all z.q z.c) T.z_all bt_all (r_lc (own := [("time", 2)]) z.q z.c z.n (i_seq z.q (r_kv (i := 1))) (blkOk_by (N := N_is_day) (sc := defScope st_is_day) (by decide +kernel)) (fun s' H' C' cl' fp' => onG (z.blk s' H' _ _ fp') fun zb => (g_nm (i := 2) zb.n)) (fun s' H' C' cl' fp' => onT (z.blk s' H' _ _ fp') fun zb => t_none) (fun s' H' C' cl' fp' => onE (z.blk s' H' _ _ fp') fun zb => (r_or (r_cmp op_isD (r_var (i := 2)) r_non) (r_one (r_c zb (c_is_whole (P := P) (w := w) (base := base) T) (a_cons (r_kv (i := 2)) a_nil))))))))))
theorem c_is_day : FnC P w (sg K cl lm tb) mg base 2 "is_day" F_is_day 2 := (ok_is_day T).c T.m_is_day
theorem ok_is_name : FnA P w (sg K cl lm tb) mg base 1 (ad 2) (fd 2) ["value"] F_is_name 1 :=
  fn_A (N := N_is_name) (ps := ["value"]) (k := 0) T.f_is_name T.b_is_name (fnScope_K (by decide +kernel)) fun M cdv A outer s H E z => (s_cons (s_if (w_or (t_not (t_val z.q (r_isi (u := (.b .str)) z.q (T.sg _ _) trivial T.z_isinstance (pe_ty (S := sg K cl _ _) (u := .b .str) (by rfl) (Or.inl ⟨_, rfl, T.z_str, bt_str⟩)) (r_var (i := 0))))) (w_or (t_not (t_chain op_leD op_leD r_int (r_callB1 (c_len z.q) T.z_len bt_len (r_var (i := 0))) r_int)) (w_or1 (t_cmp (op_notInDD z.q z.u) (r_ix z.q (r_var (i := 0)) r_int) (r_gstr (T.g_LETTERS.choose_spec)))))).pt (s_one (s_ret r_bl)) s_nil) (s_one (s_ret (r_callB1 (c_all z.q z.c) T.z_all bt_all (r_lc (own := [("sign", 1)]) z.q z.c z.n (i_seq z.q (r_kv (i := 0))) (blkOk_by (N := N_is_name) (sc := defScope st_is_name) (by decide +kernel)) (fun s' H' C' cl' fp' => onG (z.blk s' H' _ _ fp') fun zb => (g_nm (i := 1) zb.n)) (fun s' H' C' cl' fp' => onT (z.blk s' H' _ _ fp') fun zb => t_none) (fun s' H' C' cl' fp' => onE (z.blk s' H' _ _ fp') fun zb => (r_cmp (op_inDD zb.q zb.u) (r_var (i := 1)) (r_gstr (T.g_SIGNS.choose_spec)))))))))
theorem c_is_name : FnC P w (sg K cl lm tb) mg base 1 "is_name" F_is_name 1 := (ok_is_name T).c T.m_is_name
theorem ok_DayLogu_initu : FnA P w (sg K cl lm tb) mg base 3 (ad 4) (fd 4) ["self", "events", "days"] F_DayLogu_initu 3 :=
  fn_A (N := N_DayLogu_initu) (ps := ["self", "events", "days"]) (k := 2) T.f_DayLogu_initu T.b_DayLogu_initu (fnScope_K (by decide +kernel)) fun M cdv A outer s H E z => (s_cons (s_if (w_or (t_not (t_val z.q (r_isi2 (u := (.b .list)) (u' := (.b .tuple)) z.q (T.sg _ _) trivial trivial T.z_isinstance (pe_ty (S := sg K cl _ _) (u := .b .list) (by rfl) (Or.inl ⟨_, rfl, T.z_list, bt_list⟩)) (pe_ty (S := sg K cl _ _) (u := .b .tuple) (by rfl) (Or.inl ⟨_, rfl, T.z_tuple, bt_tuple⟩)) (r_var (i := 1))))) (w_or1 (t_not (t_val z.q (r_var (i := 1)))))).pt (s_one s_nev) s_nil) (s_cons (s_for (vs := [3, 4]) z.c (passes_of rfl) (i_enum z.q T.z_enumerate (r_kv (i := 1))) (g_tup (n := 2) z.q z.c (g_cons (g_nm (i := 3) z.n) (g_cons (g_nm (i := 4) z.n) g_nil))) (s_cons (s_if (t_not (t_val z.q (r_c z (c_is_name (P := P) (w := w) (base := base) T) (a_cons (r_kv (i := 4)) a_nil)))) (s_one s_nev) s_nil) (s_one (s_if (t_cmp (op_inDD z.q z.u) (r_var (i := 4)) (r_sl z.q (r_var (i := 1)) r_ono (r_osome (r_var (i := 3))))) (s_one s_nev) s_nil)))) (s_cons (s_if (t_not (t_val z.q (r_isi2 (u := (.b .list)) (u' := (.b .tuple)) z.q (T.sg _ _) trivial trivial T.z_isinstance (pe_ty (S := sg K cl _ _) (u := .b .list) (by rfl) (Or.inl ⟨_, rfl, T.z_list, bt_list⟩)) (pe_ty (S := sg K cl _ _) (u := .b .tuple) (by rfl) (Or.inl ⟨_, rfl, T.z_tuple, bt_tuple⟩)) (r_var (i := 2))))) (s_one s_nev) s_nil) (s_cons (s_for (vs := [5]) z.c (passes_of rfl) (i_seq z.q (r_kv (i := 2))) (g_nm (i := 5) z.n) (s_one (s_if (t_not (t_val z.q (r_c z (c_is_day (P := P) (w := w) (base := base) T) (a_cons (r_callB1 (c_len z.q) T.z_len bt_len (r_var (i := 1))) (a_cons (r_kv (i := 5)) a_nil))))) (s_one s_nev) s_nil))) (s_cons (s_fld (i := 0) z.q (T.sg _ _) (r_callT1 (c_tupN z.q) T.z_tuple bt_tuple (r_var (i := 1)))) (s_one (s_fld (i := 0) z.q (T.sg _ _) (r_callT1 (c_tup z.q) T.z_tuple bt_tuple (r_var (i := 2))))))))))
theorem c_DayLogu_initu : MkC P w (sg K cl lm tb) mg base 3 "DayLog" 0 F_DayLogu_initu 3 := (ok_DayLogu_initu T).mkc T.mk0 T.m_DayLog
theorem ok__law_made_log : FnA P w (sg K cl lm tb) mg base 5 (ad 24) (fd 24) ["log"] F__law_made_log 1 :=
  fn_A (N := N__law_made_log) (ps := ["log"]) (k := 4) T.f__law_made_log T.b__law_made_log (fnScope_K (by decide +kernel)) fun M cdv A outer s H E z => (s_one (s_ret (r_mk z (c_DayLogu_initu (P := P) (w := w) (base := base) T) (a_cons (r_ix z.q (r_var (i := 0)) r_int) (a_cons (r_ix z.q (r_var (i := 0)) r_int) a_nil)))))
theorem c__law_made_log : FnC P w (sg K cl lm tb) mg base 5 "_law_made_log" F__law_made_log 1 := (ok__law_made_log T).c T.m__law_made_log
theorem ok__law_pen : FnA P w (sg K cl lm tb) mg base 1 (ad 16) (fd 16) ["script"] F__law_pen 1 :=
  fn_A (N := N__law_pen) (ps := ["script"]) (k := 0) T.f__law_pen T.b__law_pen (fnScope_K (by decide +kernel)) fun M cdv A outer s H E z => (s_cons (s_set (i := 1) z.n r_int) (s_cons (s_for (vs := [2]) z.c (passes_of rfl) (i_seq z.q (r_kv (i := 0))) (g_nm (i := 2) z.n) (s_one (s_set (i := 1) z.n (r_bin op_modD (r_callT1 c_int T.z_int bt_int (r_bin (op_addD z.q) (r_bin op_mulD (r_var (i := 1)) r_int) (r_var (i := 2)))) r_int)))) (s_one (s_ret (r_disp (fs := [((litF (.str "cells")), (unNF FL lstOfD (varF 0))), ((litF (.str "at")), (litF (.int 0))), ((litF (.str "digits")), (litF (.int 0))), ((litF (.str "count")), (litF (.int 0))), ((litF (.str "fold")), (kvF FL 1))]) (pps_cons r_str (r_list z.q T.z_list (r_var (i := 0))) (pps_cons r_str r_int (pps_cons r_str r_int (pps_cons r_str r_int (pps_cons r_str (r_kv (i := 1)) pps_nil))))))))))
theorem c__law_pen : FnC P w (sg K cl lm tb) mg base 1 "_law_pen" F__law_pen 1 := (ok__law_pen T).c T.m__law_pen
theorem ok__law_times : FnA P w (sg K cl lm tb) mg base 1 (ad 25) (fd 25) ["log", "at"] F__law_times 2 :=
  fn_A (N := N__law_times) (ps := ["log", "at"]) (k := 0) T.f__law_times T.b__law_times (fnScope_K (by decide +kernel)) fun M cdv A outer s H E z => (s_one (s_ret (r_lc (own := [("day", 2)]) z.q z.c z.n (i_seq z.q (r_ix z.q (r_var (i := 0)) r_int)) (blkOk_by (N := N__law_times) (sc := defScope st__law_times) (by decide +kernel)) (fun s' H' C' cl' fp' => onG (z.blk s' H' _ _ fp') fun zb => (g_nm (i := 2) zb.n)) (fun s' H' C' cl' fp' => onT (z.blk s' H' _ _ fp') fun zb => (t_some (t_cmp op_isNotD (r_ix zb.q (r_var (i := 2)) (r_var (i := 1))) r_non))) (fun s' H' C' cl' fp' => onE (z.blk s' H' _ _ fp') fun zb => (r_ix zb.q (r_var (i := 2)) (r_var (i := 1)))))))
theorem c__law_times : FnC P w (sg K cl lm tb) mg base 1 "_law_times" F__law_times 2 := (ok__law_times T).c T.m__law_times
theorem ok__law_plan : FnA P w (sg K cl lm tb) mg base 2 (ad 27) (fd 27) ["log", "period", "late"] F__law_plan 3 :=
  fn_A (N := N__law_plan) (ps := ["log", "period", "late"]) (k := 1) T.f__law_plan T.b__law_plan (fnScope_K (by decide +kernel)) fun M cdv A outer s H E z => (s_cons (s_set (i := 3) z.n (r_lst r_pnil)) (s_cons (s_for (vs := [4]) z.c (passes_of rfl) (i_rng T.z_range (r_callB1 (c_len z.q) T.z_len bt_len (r_ix z.q (r_var (i := 0)) r_int))) (g_nm (i := 4) z.n) (s_cons (s_set (i := 5) z.n (r_c z (c__law_times (P := P) (w := w) (base := base) T) (a_cons (r_kv (i := 0)) (a_cons (r_kv (i := 4)) a_nil)))) (s_cons (s_setLc (i := 6) (own := [("minute", 7)]) z.q z.c z.n (i_rng T.z_range (r_var (i := 1))) (blkOk_by (N := N__law_plan) (sc := defScope st__law_plan) (by decide +kernel)) (fun s' H' C' cl' fp' => onG (z.blk s' H' _ _ fp') fun zb => (g_nm (i := 7) zb.n)) (fun s' H' C' cl' fp' => onT (z.blk s' H' _ _ fp') fun zb => (t_some (t_cmp (op_eqDD zb.q zb.u) (r_lc (own := [("time", 8)]) zb.q zb.c zb.n (i_seq zb.q (r_kv (i := 5))) (by apply blkOk_by; show blkC N__law_plan ⟨_, _, _, _, _⟩ _ _ = true; dsimp +instances only [cxOf, envOfC, Cx.blk, compEnvC, Env.kindOf]; decide +kernel) (fun s' H' C' cl' fp' => onG (zb.blk s' H' _ _ fp') fun zb => (g_nm (i := 8) zb.n)) (fun s' H' C' cl' fp' => onT (zb.blk s' H' _ _ fp') fun zb => (t_some (t_cmp op_gtD (r_bin op_modD (r_callT1 c_int T.z_int bt_int (r_bin op_subD (r_var (i := 8)) (r_var (i := 7)))) (r_var (i := 1))) (r_var (i := 2))))) (fun s' H' C' cl' fp' => onE (zb.blk s' H' _ _ fp') fun zb => (r_kv (i := 8)))) (r_lst r_pnil)))) (fun s' H' C' cl' fp' => onE (z.blk s' H' _ _ fp') fun zb => (r_kv (i := 7)))) (s_cons (s_if (t_cmp (op_eqDD z.q z.u) (r_var (i := 6)) (r_lst r_pnil)) (s_one (s_ret r_non)) s_nil) (s_one (s_expr (r_app (i := 3) (by rfl) (r_ite (t_cmp (op_neDD z.q z.u) (r_var (i := 5)) (r_lst r_pnil)) (r_ix z.q (r_var (i := 6)) r_int) r_non)))))))) (s_one (s_ret (r_callT1 (c_tup z.q) T.z_tuple bt_tuple (r_var (i := 3)))))))
theorem c__law_plan : FnC P w (sg K cl lm tb) mg base 2 "_law_plan" F__law_plan 3 := (ok__law_plan T).c T.m__law_plan
theorem ok__law_step : FnA P w (sg K cl lm tb) mg base 2 (ad 28) (fd 28) ["log"] F__law_step 1 :=
  fn_A (N := N__law_step) (ps := ["log"]) (k := 1) T.f__law_step T.b__law_step (fnScope_K (by decide +kernel)) fun M cdv A outer s H E z => (s_cons (s_set (i := 1) z.n r_int) (s_cons (s_for (vs := [2]) z.c (passes_of rfl) (i_rng T.z_range (r_callB1 (c_len z.q) T.z_len bt_len (r_ix z.q (r_var (i := 0)) r_int))) (g_nm (i := 2) z.n) (s_cons (s_set (i := 3) z.n (r_c z (c__law_times (P := P) (w := w) (base := base) T) (a_cons (r_kv (i := 0)) (a_cons (r_kv (i := 2)) a_nil)))) (s_one (s_for (vs := [4]) z.c (passes_of rfl) (i_seq z.q (r_kv (i := 3))) (g_nm (i := 4) z.n) (s_cons (s_par (i := 5) (j := 6) z.c z.n (p_cons (r_kv (i := 1)) (p_cons (r_callB1 c_abs T.z_abs bt_abs (r_bin op_subD (r_var (i := 4)) (r_ix z.q (r_var (i := 3)) r_int))) p_nil))) (s_cons (s_while (passes_of rfl) (t_cmp (op_neDD z.q z.u) (r_var (i := 6)) r_int) (s_one (s_par (i := 5) (j := 6) z.c z.n (p_cons (r_kv (i := 6)) (p_cons (r_bin op_modD (r_callT1 c_int T.z_int bt_int (r_var (i := 5))) (r_var (i := 6))) p_nil))))) (s_one (s_set (i := 1) z.n (r_kv (i := 5)))))))))) (s_one (s_ret (r_var (i := 1))))))
theorem c__law_step : FnC P w (sg K cl lm tb) mg base 2 "_law_step" F__law_step 1 := (ok__law_step T).c T.m__law_step
theorem ok_common_step : FnA P w (sg K cl lm tb) mg base 2 (ad 15) (fd 15) ["log"] F_common_step 1 :=
  fn_A (N := N_common_step) (ps := ["log"]) (k := 1) T.f_common_step T.b_common_step (fnScope_K (by decide +kernel)) fun M cdv A outer s H E z => (s_cons (s_set (i := 1) z.n r_int) (s_cons (s_for (vs := [2]) z.c (passes_of rfl) (i_rng T.z_range (r_callB1 (c_len z.q) T.z_len bt_len (r_fld z.q (T.sg _ _) (r_var (i := 0))))) (g_nm (i := 2) z.n) (s_cons (s_set (i := 3) z.n (r_c z (c_times_seen (P := P) (w := w) (base := base) T) (a_cons (r_kv (i := 0)) (a_cons (r_kv (i := 2)) a_nil)))) (s_one (s_for (vs := [4]) z.c (passes_of rfl) (i_seq z.q (r_kv (i := 3))) (g_nm (i := 4) z.n) (s_one (s_set (i := 1) z.n (r_gcd T.x_gcd (r_var (i := 1)) (r_bin op_subD (r_var (i := 4)) (r_ix z.q (r_var (i := 3)) r_int))))))))) (s_one (s_ret (r_var (i := 1))))))
theorem c_common_step : FnC P w (sg K cl lm tb) mg base 2 "common_step" F_common_step 1 := (ok_common_step T).c T.m_common_step
theorem ok_law (W : Mkr mg base co pt tb) : FnGA P w (sg K cl lm tb) mg base 8 (ad 29) (fd 29) ["script"] F_law 1 :=
  fn_ADG (N := N_law) (ps := ["script"]) (k := 7) T.w_law (T.f_law).kp T.b_law (fnScope_K (by decide +kernel)) fun M A outer s H E gd z0 => s_maker (tab := tab_law) (capk := capk_law) (LB := LB_law) (lv := 4) z0 W.t_law W.m_law W.u_law (fun k i => match k with | 0 => capOk (caps := [5, 12, 13]) (N := N_law) (sc := defScope st_law) (by decide +kernel) i | 1 => capOk (caps := [5, 13]) (N := N_law) (sc := defScope st_law) (by decide +kernel) i | 2 => capOk (caps := [5, 12, 13]) (N := N_law) (sc := defScope st_law) (by decide +kernel) i | 3 => capOk (caps := [5, 13]) (N := N_law) (sc := defScope st_law) (by decide +kernel) i | _ + 4 => fun h => absurd h List.not_mem_nil) (fun k => match k with | 0 => .inl (thS_by (N := N_law) (sc := defScope st_law) (r := tab_law 0) (caps := capk_law 0) (by decide +kernel) (by intros; rfl)) | 1 => .inl (thS_by (N := N_law) (sc := defScope st_law) (r := tab_law 1) (caps := capk_law 1) (by decide +kernel) (by intros; rfl)) | 2 => .inl (thS_by (N := N_law) (sc := defScope st_law) (r := tab_law 2) (caps := capk_law 2) (by decide +kernel) (by intros; rfl)) | 3 => .inl (thS_by (N := N_law) (sc := defScope st_law) (r := tab_law 3) (caps := capk_law 3) (by decide +kernel) (by intros; rfl)) | _ + 4 => .inr fun _ _ _ h => h) (fun base' lm' k A outer s H E f c M zz => match k with | 0 => .inr (r_c zz (c_periods_that_fit (P := P) (w := w) (base := base') T) (a_cons (r_kv (i := 5)) (a_cons (r_kv (i := 12)) (a_cons (r_kv (i := 13)) a_nil)))) | 1 => .inr (r_c zz (c_periods_that_fit (P := P) (w := w) (base := base') T) (a_cons (r_kv (i := 5)) (a_cons r_int (a_cons (r_kv (i := 13)) a_nil)))) | 2 => .inr (r_c zz (c_planned (P := P) (w := w) (base := base') T) (a_cons (r_kv (i := 5)) (a_cons (r_kv (i := 12)) (a_cons (r_kv (i := 13)) a_nil)))) | 3 => .inr (r_c zz (c_planned (P := P) (w := w) (base := base') T) (a_cons (r_kv (i := 5)) (a_cons r_int (a_cons (r_kv (i := 13)) a_nil)))) | _ + 4 => .inl fun _ _ _ h => h) fun z hY => (s_cons (s_set (i := 1) z.n (r_c z (c__law_pen (P := P) (w := w) (base := base) T) (a_cons (r_kv (i := 0)) a_nil))) (s_cons (s_for (vs := [2]) z.c (passes_of rfl) (i_rng T.z_range r_int) (g_nm (i := 2) z.n) (s_cons (s_parT (i := 3) (j := 4) z.c z.n (p_cons (r_c z (c__law_drawn_log (P := P) (w := w) (base := base) T) (a_cons (r_var (i := 1)) (a_cons (r_bin (op_addD z.q) r_int (r_c z (c__law_draw (P := P) (w := w) (base := base) T) (a_cons (r_var (i := 1)) (a_cons r_int a_nil)))) (a_cons (r_bin (op_addD z.q) r_int (r_c z (c__law_draw (P := P) (w := w) (base := base) T) (a_cons (r_var (i := 1)) (a_cons r_int a_nil)))) a_nil)))) (p_cons (r_c z (c__law_pick (P := P) (w := w) (base := base) T) (a_cons (r_var (i := 1)) (a_cons (r_lst (r_pcons r_int (r_pcons r_int (r_pcons r_int (r_pcons r_int (r_pcons r_int (r_pcons r_int r_pnil))))))) a_nil))) p_nil))) (s_cons (s_parT (i := 5) (j := 6) z.c z.n (p_cons (r_c z (c__law_made_log (P := P) (w := w) (base := base) T) (a_cons (r_kv (i := 3)) a_nil)) (p_cons (r_bin (op_addD z.q) r_int (r_c z (c__law_draw (P := P) (w := w) (base := base) T) (a_cons (r_var (i := 1)) (a_cons r_int a_nil)))) p_nil))) (s_cons (s_set (i := 7) z.n (r_callT1 (c_tup z.q) T.z_tuple bt_tuple (r_lc (own := [("period", 8)]) z.q z.c z.n (i_rng2 T.z_range r_int (r_bin (op_addD z.q) (r_var (i := 6)) r_int)) (blkOk_by (N := N_law) (sc := defScope st_law) (by decide +kernel)) (fun s' H' C' cl' fp' => onG (z.blk s' H' _ _ fp') fun zb => (g_nm (i := 8) zb.n)) (fun s' H' C' cl' fp' => onT (z.blk s' H' _ _ fp') fun zb => (t_some (t_cmp op_isNotD (r_c zb (c__law_plan (P := P) (w := w) (base := base) T) (a_cons (r_kv (i := 3)) (a_cons (r_kv (i := 8)) (a_cons (r_kv (i := 4)) a_nil)))) r_non))) (fun s' H' C' cl' fp' => onE (z.blk s' H' _ _ fp') fun zb => (r_kv (i := 8)))))) (s_cons (s_if (t_not (t_val z.q (r_c z (c__law_is (P := P) (w := w) (base := base) T 4) (a_cons (r_c z (c_periods_that_fit (P := P) (w := w) (base := base) T) (a_cons (r_kv (i := 5)) (a_cons (r_kv (i := 6)) (a_cons (r_kv (i := 4)) a_nil)))) (a_cons (r_kv (i := 7)) a_nil))))) (s_one (s_ret r_bl)) s_nil) (s_cons (s_for (vs := [9]) z.c (passes_of rfl) (i_rng T.z_range r_int) (g_nm (i := 9) z.n) (s_cons (s_set (i := 8) z.n (r_bin (op_addD z.q) r_int (r_c z (c__law_draw (P := P) (w := w) (base := base) T) (a_cons (r_var (i := 1)) (a_cons r_int a_nil))))) (s_one (s_if (t_not (t_val z.q (r_c z (c__law_is (P := P) (w := w) (base := base) T 4) (a_cons (r_c z (c_planned (P := P) (w := w) (base := base) T) (a_cons (r_kv (i := 5)) (a_cons (r_kv (i := 8)) (a_cons (r_kv (i := 4)) a_nil)))) (a_cons (r_c z (c__law_plan (P := P) (w := w) (base := base) T) (a_cons (r_kv (i := 3)) (a_cons (r_kv (i := 8)) (a_cons (r_kv (i := 4)) a_nil)))) a_nil))))) (s_one (s_ret r_bl)) s_nil)))) (s_cons (s_set (i := 10) z.n (r_c z (c__law_step (P := P) (w := w) (base := base) T) (a_cons (r_kv (i := 3)) a_nil))) (s_cons (s_if (t_not (t_val z.q (r_c z (c__law_is (P := P) (w := w) (base := base) T 4) (a_cons (r_c z (c_common_step (P := P) (w := w) (base := base) T) (a_cons (r_kv (i := 5)) a_nil)) (a_cons (r_kv (i := 10)) a_nil))))) (s_one (s_ret r_bl)) s_nil) (s_cons (s_set (i := 11) z.n (r_c z (c_periods_that_fit (P := P) (w := w) (base := base) T) (a_cons (r_kv (i := 5)) (a_cons (r_kv (i := 6)) (a_cons r_int a_nil))))) (s_cons (s_if (t_cmp (op_neDD z.q z.u) (r_var (i := 11)) (r_callT1 (c_tup z.q) T.z_tuple bt_tuple (r_lc (own := [("period", 8)]) z.q z.c z.n (i_rng2 T.z_range r_int (r_bin (op_addD z.q) (r_var (i := 6)) r_int)) (blkOk_by (N := N_law) (sc := defScope st_law) (by decide +kernel)) (fun s' H' C' cl' fp' => onG (z.blk s' H' _ _ fp') fun zb => (g_nm (i := 8) zb.n)) (fun s' H' C' cl' fp' => onT (z.blk s' H' _ _ fp') fun zb => (t_some (t_cmp (op_eqDD zb.q zb.u) (r_bin op_modD (r_callT1 c_int T.z_int bt_int (r_var (i := 10))) (r_var (i := 8))) r_int))) (fun s' H' C' cl' fp' => onE (z.blk s' H' _ _ fp') fun zb => (r_kv (i := 8)))))) (s_one (s_ret r_bl)) s_nil) (s_cons (s_if (t_cmp (op_neDD z.q z.u) (r_lc (own := [("period", 8)]) z.q z.c z.n (i_seq z.q (r_kv (i := 11))) (blkOk_by (N := N_law) (sc := defScope st_law) (by decide +kernel)) (fun s' H' C' cl' fp' => onG (z.blk s' H' _ _ fp') fun zb => (g_nm (i := 8) zb.n)) (fun s' H' C' cl' fp' => onT (z.blk s' H' _ _ fp') fun zb => (t_some (t_cmp (op_notInDD zb.q zb.u) (r_var (i := 8)) (r_c zb (c_periods_that_fit (P := P) (w := w) (base := base) T) (a_cons (r_kv (i := 5)) (a_cons (r_kv (i := 6)) (a_cons (r_kv (i := 4)) a_nil))))))) (fun s' H' C' cl' fp' => onE (z.blk s' H' _ _ fp') fun zb => (r_kv (i := 8)))) (r_lst r_pnil)) (s_one (s_ret r_bl)) s_nil) (s_cons (s_parT (i := 12) (j := 13) z.c z.n (p_cons (r_c z (c__law_pick (P := P) (w := w) (base := base) T) (a_cons (r_var (i := 1)) (a_cons (r_lst (r_pcons r_int (r_pcons r_int (r_pcons r_non (r_pcons r_bl (r_pcons r_str r_pnil)))))) a_nil))) (p_cons (r_c z (c__law_pick (P := P) (w := w) (base := base) T) (a_cons (r_var (i := 1)) (a_cons (r_lst (r_pcons (r_neg r_int) (r_pcons r_non (r_pcons r_bl (r_pcons r_str r_pnil))))) a_nil))) p_nil))) (s_cons (s_set (i := 14) z.n (r_lst (r_pcons (r_tup (r_pcons (r_lam (k := 0) (caps := [5, 12, 13]) hY.L rfl rfl (LamX.lamS_by (sc := defScope st_law) (by decide +kernel))) (r_pcons (r_tup (r_pcons r_str (r_pcons r_str (r_pcons (r_kv (i := 12)) r_pnil)))) r_pnil))) r_pnil))) (s_cons (s_expr (r_app (i := 14) (by rfl) (r_tup (r_pcons (r_lam (k := 1) (caps := [5, 13]) hY.L rfl rfl (LamX.lamS_by (sc := defScope st_law) (by decide +kernel))) (r_pcons (r_tup (r_pcons r_str (r_pcons r_str (r_pcons (r_kv (i := 13)) r_pnil)))) r_pnil))))) (s_cons (s_expr (r_app (i := 14) (by rfl) (r_tup (r_pcons (r_lam (k := 2) (caps := [5, 12, 13]) hY.L rfl rfl (LamX.lamS_by (sc := defScope st_law) (by decide +kernel))) (r_pcons (r_tup (r_pcons r_str (r_pcons r_str (r_pcons (r_kv (i := 12)) r_pnil)))) r_pnil))))) (s_cons (s_expr (r_app (i := 14) (by rfl) (r_tup (r_pcons (r_lam (k := 3) (caps := [5, 13]) hY.L rfl rfl (LamX.lamS_by (sc := defScope st_law) (by decide +kernel))) (r_pcons (r_tup (r_pcons r_str (r_pcons r_str (r_pcons (r_kv (i := 13)) r_pnil)))) r_pnil))))) (s_one (s_if (t_not (t_val z.q (r_callSR z hY (fun lm' base' hA => (c__law_raise_so (P := P) (w := w) (base := base') (lm := lm') (TH := TH_law) T hA).at (z.r.mono (by decide)) gd) (r_kv (i := 14)) T.m__law_raise_so (T.f__law_raise_so).kp))) (s_one (s_ret r_bl)) s_nil)))))))))))))))))) (s_one (s_ret r_bl))))
theorem c_law (W : Mkr mg base co pt tb) : FnGC P w (sg K cl lm tb) mg base 8 "law" F_law 1 := (ok_law T W).c T.m_law
end
end Lw
set_option Elab.async false
set_option linter.all false
set_option maxRecDepth 100000
set_option maxHeartbeats 4000000
namespace Lw
open PySem PySem.Spec PyProof.Rows L2 En
theorem all_mk {l : PySem.W.OpenLaw} {w : World} {K : PySem.W.Frag} {h : Heap} {mg : Str → Option Value} {fa C0 C1 C2 C3 C4 C5 C6 C7 C8 C9 C10 C11 f0 f8 f9 f10 f12 f1 f11 f13 f3 f14 f22 f26 f17 f18 f20 f21 f23 f19 f7 f2 f4 f24 f16 f25 f27 f28 f15 f29 f30 cd29 pt29 : Addr} (X : K.In h) (G : h.Ns mainGlobals mg) (hfa : mg "law" = some (.ref fa)) (own : ∀ x ∈ (["law"] : List Str), OwnT K mg h x)
    {xnm3 xq3 : Str} {xN3 : Addr} {xbs3 xbm3 xsu3 : List Value} {xsn3 : List Str} {xab3 : Bool} {xco3 : Option Bool} {xdd3 : Option Addr} {xk03 xk13 xk23 xk33 xk53 : Option Value}
    {oo29 : Obj} {vv29 : Array Value}
    (g_SIGNS : ∃ t : Tok, mg "SIGNS" = some (.str "abcdefghijklmnopqrstuvwxyz0123456789" t))
    (hlaw : ∀ ns : List Int, ns.length ≤ 63 → F_law.r [.val (.lst (ns.map D.int))] (fun e _ => e = .val (.bl true)) X0)
    {od0 od8 od9 od10 od12 od1 od11 od13 od3 od14 od22 od26 od17 od18 od20 od21 od23 od19 od7 od2 od4 od24 od16 od25 od27 od28 od15 od29 od30 an0 an8 an9 an10 an12 an1 an11 an13 an3 an14 an22 an26 an17 an18 an20 an21 an23 an19 an7 an2 an4 an24 an16 an25 an27 an28 an15 an29 an30 : Option Addr} {sl0 sl8 sl9 sl10 sl12 sl1 sl11 sl13 sl3 sl14 sl22 sl26 sl17 sl18 sl20 sl21 sl23 sl19 sl7 sl2 sl4 sl24 sl16 sl25 sl27 sl28 sl15 sl29 sl30 : Array (Option Value)} {oc0 oc8 oc9 oc10 oc12 oc1 oc11 oc13 oc3 oc14 oc22 oc26 oc17 oc18 oc20 oc21 oc23 oc19 oc7 oc2 oc4 oc24 oc16 oc25 oc27 oc28 oc15 oc29 oc30 kV0 kV8 kV9 kV10 kV12 kV1 kV11 kV13 kV3 kV14 kV22 kV26 kV17 kV18 kV20 kV21 kV23 kV19 kV7 kV2 kV4 kV24 kV16 kV25 kV27 kV28 kV15 kV29 kV30 dc0 dc8 dc9 dc10 dc12 dc1 dc11 dc13 dc3 dc14 dc22 dc26 dc17 dc18 dc20 dc21 dc23 dc19 dc7 dc2 dc4 dc24 dc16 dc25 dc27 dc28 dc15 dc29 dc30 pm0 pm8 pm9 pm10 pm12 pm1 pm11 pm13 pm3 pm14 pm22 pm26 pm17 pm18 pm20 pm21 pm23 pm19 pm7 pm2 pm4 pm24 pm16 pm25 pm27 pm28 pm15 pm29 pm30 cd0 cd8 cd9 cd10 cd12 cd1 cd11 cd13 cd3 cd14 cd22 cd26 cd17 cd18 cd20 cd21 cd23 cd19 cd7 cd2 cd4 cd24 cd16 cd25 cd27 cd28 cd15 cd30 ct0 ct8 ct9 ct10 ct12 ct1 ct11 ct13 ct3 ct14 ct22 ct26 ct17 ct18 ct20 ct21 ct23 ct19 ct7 ct2 ct4 ct24 ct16 ct25 ct27 ct28 ct15 ct29 ct30 : Value}
    {t_LETTERS t_MOST_PERIOD : Tok}
    (aC0 : PySem.W.nsIn K mainGlobals "DayLog" = some (some (.ref C0)))
    (pg0 : PySem.W.plainGet K C0 Str.empty = true)
    (hd0 : PySem.W.hasDictIn K C0 = true)
    (po0 : PySem.W.plainOver K C0 = true)
    (sa0 : PySem.W.findIn K (.ref C0) "__setattr__" = some (some (.builtin "object.__setattr__")))
    (mk0 : PySem.W.makesIn K C0 = true)
    (kc0 : PySem.W.keepIn K (.ref C0) = true)
    (n0_events : PySem.W.findIn K (.ref C0) "events" = some none)
    (n0_days : PySem.W.findIn K (.ref C0) "days" = some none)
    (ha0 : PySem.W.findIn K (.ref C0) "__class__" = some (some (.builtin "object.__class__")))
    (ic0 : PySem.W.isClsIn K C0 = true)
    (tc0 : PySem.W.typeIn K (.ref C0) = some (.type "type"))
    (mr0 : PySem.W.mroIn K C0 (.type "object") = some true)
    (ka0_non : PySem.W.subIn K (.ref C0) (.type "NoneType") = some false)
    (kb0_non : PySem.W.subIn K (.type "NoneType") (.ref C0) = some false)
    (nf0_non : PySem.W.notFirst K C0 (.type "NoneType") = true)
    (ka0_bool : PySem.W.subIn K (.ref C0) (.type "bool") = some false)
    (kb0_bool : PySem.W.subIn K (.type "bool") (.ref C0) = some false)
    (nf0_bool : PySem.W.notFirst K C0 (.type "bool") = true)
    (ka0_int : PySem.W.subIn K (.ref C0) (.type "int") = some false)
    (kb0_int : PySem.W.subIn K (.type "int") (.ref C0) = some false)
    (nf0_int : PySem.W.notFirst K C0 (.type "int") = true)
    (ka0_str : PySem.W.subIn K (.ref C0) (.type "str") = some false)
    (kb0_str : PySem.W.subIn K (.type "str") (.ref C0) = some false)
    (nf0_str : PySem.W.notFirst K C0 (.type "str") = true)
    (ka0_list : PySem.W.subIn K (.ref C0) (.type "list") = some false)
    (kb0_list : PySem.W.subIn K (.type "list") (.ref C0) = some false)
    (nf0_list : PySem.W.notFirst K C0 (.type "list") = true)
    (ka0_tuple : PySem.W.subIn K (.ref C0) (.type "tuple") = some false)
    (kb0_tuple : PySem.W.subIn K (.type "tuple") (.ref C0) = some false)
    (nf0_tuple : PySem.W.notFirst K C0 (.type "tuple") = true)
    (ka0_dict : PySem.W.subIn K (.ref C0) (.type "dict") = some false)
    (kb0_dict : PySem.W.subIn K (.type "dict") (.ref C0) = some false)
    (nf0_dict : PySem.W.notFirst K C0 (.type "dict") = true)
    (nc0_0 : PySem.W.notFirst K C0 (.ref C0) = true)
    (aC1 : PySem.W.nsIn K mainGlobals "BadText" = some (some (.ref C1)))
    (aC2 : PySem.W.nsIn K mainGlobals "BadName" = some (some (.ref C2)))
    (aC3 : PySem.W.nsIn K mainGlobals "BadNumber" = some (some (.ref C3)))
    (aC4 : PySem.W.nsIn K mainGlobals "BadRow" = some (some (.ref C4)))
    (aC5 : PySem.W.nsIn K mainGlobals "NoEvent" = some (some (.ref C5)))
    (aC6 : PySem.W.nsIn K mainGlobals "NoBond" = some (some (.ref C6)))
    (aC7 : PySem.W.nsIn K mainGlobals "TakenName" = some (some (.ref C7)))
    (aC8 : PySem.W.nsIn K mainGlobals "Unlike" = some (some (.ref C8)))
    (aC9 : PySem.W.nsIn K mainGlobals "NoTimes" = some (some (.ref C9)))
    (aC10 : PySem.W.nsIn K mainGlobals "TooMany" = some (some (.ref C10)))
    (aC11 : PySem.W.nsIn K mainGlobals "HourError" = some (some (.ref C11)))
    (hs : PySem.W.specialIn K (.ref C11) "__getattribute__" = some (some (.builtin "type.__getattribute__")))
    (hr : PySem.W.readsIn K C11 (.type "type") = true)
    (hf : PySem.W.findCls K (.ref C11) (.type "type") "__init__" = some (.val (.builtin "ValueError.__init__")))
    (hsb : PySem.W.subIn K (.ref C11) (.type "BaseException") = some true)
    (hhd : PySem.W.hasDictIn K C11 = true)
    (hty : PySem.W.typeIn K (.ref C11) = some (.type "type"))
    (ox3 : K.lookup C3 = some (excClassObj xnm3 xq3 C3 xN3 xbs3 xbm3 true xsn3 xsu3 xab3 xco3 xdd3 xk03 xk13 xk23 xk33 xk53 "ValueError.__new__"))
    (rv3 : PySem.HandSPX.refsVE xbm3 = true)
    (sa3 : PySem.W.findIn K (.ref C3) "__setattr__" = some (some (.builtin "object.__setattr__")))
    (sb3 : PySem.W.subIn K (.ref C3) (.type "BaseException") = some true)
    (kc3 : PySem.W.keepIn K (.ref C3) = true)
    (hd3 : PySem.W.hasDictIn K C3 = true)
    (ga3 : PySem.W.findIn K (.ref C3) "__getattribute__" = some (some (.builtin "BaseException.__getattribute__")))
    (gg3 : PySem.W.findIn K (.ref C3) "__getattr__" = some none)
    (ha3 : PySem.W.findIn K (.ref C3) "__class__" = some (some (.builtin "object.__class__")))
    (mr3 : PySem.W.mroIn K C3 (.type "object") = some true)
    (sh3 : PySem.W.subIn K (.ref C3) (.ref C11) = some true)
    (n3_what : PySem.W.findIn K (.ref C3) "what" = some none)
    (n3_number : PySem.W.findIn K (.ref C3) "number" = some none)
    (ic1 : PySem.W.isClsIn K C1 = true)
    (tc1 : PySem.W.typeIn K (.ref C1) = some (.type "type"))
    (ic2 : PySem.W.isClsIn K C2 = true)
    (tc2 : PySem.W.typeIn K (.ref C2) = some (.type "type"))
    (ic3 : PySem.W.isClsIn K C3 = true)
    (tc3 : PySem.W.typeIn K (.ref C3) = some (.type "type"))
    (ic4 : PySem.W.isClsIn K C4 = true)
    (tc4 : PySem.W.typeIn K (.ref C4) = some (.type "type"))
    (ic5 : PySem.W.isClsIn K C5 = true)
    (tc5 : PySem.W.typeIn K (.ref C5) = some (.type "type"))
    (ic6 : PySem.W.isClsIn K C6 = true)
    (tc6 : PySem.W.typeIn K (.ref C6) = some (.type "type"))
    (ic7 : PySem.W.isClsIn K C7 = true)
    (tc7 : PySem.W.typeIn K (.ref C7) = some (.type "type"))
    (ic8 : PySem.W.isClsIn K C8 = true)
    (tc8 : PySem.W.typeIn K (.ref C8) = some (.type "type"))
    (ic9 : PySem.W.isClsIn K C9 = true)
    (tc9 : PySem.W.typeIn K (.ref C9) = some (.type "type"))
    (ic10 : PySem.W.isClsIn K C10 = true)
    (tc10 : PySem.W.typeIn K (.ref C10) = some (.type "type"))
    (kk3_1 : PySem.W.subIn K (.ref C3) (.ref C1) = some false)
    (ne3_1 : (Value.ref C3 == Value.ref C1) = false)
    (kk3_2 : PySem.W.subIn K (.ref C3) (.ref C2) = some false)
    (ne3_2 : (Value.ref C3 == Value.ref C2) = false)
    (kk3_4 : PySem.W.subIn K (.ref C3) (.ref C4) = some false)
    (ne3_4 : (Value.ref C3 == Value.ref C4) = false)
    (kk3_5 : PySem.W.subIn K (.ref C3) (.ref C5) = some false)
    (ne3_5 : (Value.ref C3 == Value.ref C5) = false)
    (kk3_6 : PySem.W.subIn K (.ref C3) (.ref C6) = some false)
    (ne3_6 : (Value.ref C3 == Value.ref C6) = false)
    (kk3_7 : PySem.W.subIn K (.ref C3) (.ref C7) = some false)
    (ne3_7 : (Value.ref C3 == Value.ref C7) = false)
    (kk3_8 : PySem.W.subIn K (.ref C3) (.ref C8) = some false)
    (ne3_8 : (Value.ref C3 == Value.ref C8) = false)
    (kk3_9 : PySem.W.subIn K (.ref C3) (.ref C9) = some false)
    (ne3_9 : (Value.ref C3 == Value.ref C9) = false)
    (kk3_10 : PySem.W.subIn K (.ref C3) (.ref C10) = some false)
    (ne3_10 : (Value.ref C3 == Value.ref C10) = false)
    (hn : PySem.W.specialIn K (.builtin "object.__class__") "__get__" = some (some (.builtin "getset_descriptor.__get__")))
    (htk : PySem.W.takesIn K (.builtin "object.__class__") = some true)
    (a0 : PySem.W.nsIn K mainGlobals "is_whole" = some (some (.ref f0)))
    (l0 : K.lookup f0 = some ⟨oc0, od0, .func (PySem.W.fnOf "is_whole" "is_whole" (defArgs st_is_whole) (defBody st_is_whole) (defScope st_is_whole) .none kV0 dc0 pm0 an0 cd0 ct0), sl0⟩)
    (c0 : PySem.W.codeIn K cd0 "is_whole" = true)
    (k0 : PySem.W.keepIn K (.ref f0) = true)
    (a8 : PySem.W.nsIn K mainGlobals "times_seen" = some (some (.ref f8)))
    (l8 : K.lookup f8 = some ⟨oc8, od8, .func (PySem.W.fnOf "times_seen" "times_seen" (defArgs st_times_seen) (defBody st_times_seen) (defScope st_times_seen) .none kV8 dc8 pm8 an8 cd8 ct8), sl8⟩)
    (c8 : PySem.W.codeIn K cd8 "times_seen" = true)
    (k8 : PySem.W.keepIn K (.ref f8) = true)
    (a9 : PySem.W.nsIn K mainGlobals "plan_minute" = some (some (.ref f9)))
    (l9 : K.lookup f9 = some ⟨oc9, od9, .func (PySem.W.fnOf "plan_minute" "plan_minute" (defArgs st_plan_minute) (defBody st_plan_minute) (defScope st_plan_minute) .none kV9 dc9 pm9 an9 cd9 ct9), sl9⟩)
    (c9 : PySem.W.codeIn K cd9 "plan_minute" = true)
    (k9 : PySem.W.keepIn K (.ref f9) = true)
    (a10 : PySem.W.nsIn K mainGlobals "least_plan" = some (some (.ref f10)))
    (l10 : K.lookup f10 = some ⟨oc10, od10, .func (PySem.W.fnOf "least_plan" "least_plan" (defArgs st_least_plan) (defBody st_least_plan) (defScope st_least_plan) .none kV10 dc10 pm10 an10 cd10 ct10), sl10⟩)
    (c10 : PySem.W.codeIn K cd10 "least_plan" = true)
    (k10 : PySem.W.keepIn K (.ref f10) = true)
    (a12 : PySem.W.nsIn K mainGlobals "fits_period" = some (some (.ref f12)))
    (l12 : K.lookup f12 = some ⟨oc12, od12, .func (PySem.W.fnOf "fits_period" "fits_period" (defArgs st_fits_period) (defBody st_fits_period) (defScope st_fits_period) .none kV12 dc12 pm12 an12 cd12 ct12), sl12⟩)
    (c12 : PySem.W.codeIn K cd12 "fits_period" = true)
    (k12 : PySem.W.keepIn K (.ref f12) = true)
    (a1 : PySem.W.nsIn K mainGlobals "is_number" = some (some (.ref f1)))
    (l1 : K.lookup f1 = some ⟨oc1, od1, .func (PySem.W.fnOf "is_number" "is_number" (defArgs st_is_number) (defBody st_is_number) (defScope st_is_number) .none kV1 dc1 pm1 an1 cd1 ct1), sl1⟩)
    (c1 : PySem.W.codeIn K cd1 "is_number" = true)
    (k1 : PySem.W.keepIn K (.ref f1) = true)
    (a11 : PySem.W.nsIn K mainGlobals "need_late" = some (some (.ref f11)))
    (l11 : K.lookup f11 = some ⟨oc11, od11, .func (PySem.W.fnOf "need_late" "need_late" (defArgs st_need_late) (defBody st_need_late) (defScope st_need_late) .none kV11 dc11 pm11 an11 cd11 ct11), sl11⟩)
    (c11 : PySem.W.codeIn K cd11 "need_late" = true)
    (k11 : PySem.W.keepIn K (.ref f11) = true)
    (a13 : PySem.W.nsIn K mainGlobals "periods_that_fit" = some (some (.ref f13)))
    (l13 : K.lookup f13 = some ⟨oc13, od13, .func (PySem.W.fnOf "periods_that_fit" "periods_that_fit" (defArgs st_periods_that_fit) (defBody st_periods_that_fit) (defScope st_periods_that_fit) .none kV13 dc13 pm13 an13 cd13 ct13), sl13⟩)
    (c13 : PySem.W.codeIn K cd13 "periods_that_fit" = true)
    (k13 : PySem.W.keepIn K (.ref f13) = true)
    (a3 : PySem.W.nsIn K mainGlobals "need_period" = some (some (.ref f3)))
    (l3 : K.lookup f3 = some ⟨oc3, od3, .func (PySem.W.fnOf "need_period" "need_period" (defArgs st_need_period) (defBody st_need_period) (defScope st_need_period) .none kV3 dc3 pm3 an3 cd3 ct3), sl3⟩)
    (c3 : PySem.W.codeIn K cd3 "need_period" = true)
    (k3 : PySem.W.keepIn K (.ref f3) = true)
    (a14 : PySem.W.nsIn K mainGlobals "planned" = some (some (.ref f14)))
    (l14 : K.lookup f14 = some ⟨oc14, od14, .func (PySem.W.fnOf "planned" "planned" (defArgs st_planned) (defBody st_planned) (defScope st_planned) .none kV14 dc14 pm14 an14 cd14 ct14), sl14⟩)
    (c14 : PySem.W.codeIn K cd14 "planned" = true)
    (k14 : PySem.W.keepIn K (.ref f14) = true)
    (a22 : PySem.W.nsIn K mainGlobals "_law_caught" = some (some (.ref f22)))
    (l22 : K.lookup f22 = some ⟨oc22, od22, .func (PySem.W.fnOf "_law_caught" "_law_caught" (defArgs st__law_caught) (defBody st__law_caught) (defScope st__law_caught) .none kV22 dc22 pm22 an22 cd22 ct22), sl22⟩)
    (c22 : PySem.W.codeIn K cd22 "_law_caught" = true)
    (k22 : PySem.W.keepIn K (.ref f22) = true)
    (a26 : PySem.W.nsIn K mainGlobals "_law_raise_so" = some (some (.ref f26)))
    (l26 : K.lookup f26 = some ⟨oc26, od26, .func (PySem.W.fnOf "_law_raise_so" "_law_raise_so" (defArgs st__law_raise_so) (defBody st__law_raise_so) (defScope st__law_raise_so) .none kV26 dc26 pm26 an26 cd26 ct26), sl26⟩)
    (c26 : PySem.W.codeIn K cd26 "_law_raise_so" = true)
    (k26 : PySem.W.keepIn K (.ref f26) = true)
    (a17 : PySem.W.nsIn K mainGlobals "_law_draw" = some (some (.ref f17)))
    (l17 : K.lookup f17 = some ⟨oc17, od17, .func (PySem.W.fnOf "_law_draw" "_law_draw" (defArgs st__law_draw) (defBody st__law_draw) (defScope st__law_draw) .none kV17 dc17 pm17 an17 cd17 ct17), sl17⟩)
    (c17 : PySem.W.codeIn K cd17 "_law_draw" = true)
    (k17 : PySem.W.keepIn K (.ref f17) = true)
    (a18 : PySem.W.nsIn K mainGlobals "_law_pick" = some (some (.ref f18)))
    (l18 : K.lookup f18 = some ⟨oc18, od18, .func (PySem.W.fnOf "_law_pick" "_law_pick" (defArgs st__law_pick) (defBody st__law_pick) (defScope st__law_pick) .none kV18 dc18 pm18 an18 cd18 ct18), sl18⟩)
    (c18 : PySem.W.codeIn K cd18 "_law_pick" = true)
    (k18 : PySem.W.keepIn K (.ref f18) = true)
    (a20 : PySem.W.nsIn K mainGlobals "_law_name" = some (some (.ref f20)))
    (l20 : K.lookup f20 = some ⟨oc20, od20, .func (PySem.W.fnOf "_law_name" "_law_name" (defArgs st__law_name) (defBody st__law_name) (defScope st__law_name) .none kV20 dc20 pm20 an20 cd20 ct20), sl20⟩)
    (c20 : PySem.W.codeIn K cd20 "_law_name" = true)
    (k20 : PySem.W.keepIn K (.ref f20) = true)
    (a21 : PySem.W.nsIn K mainGlobals "_law_names" = some (some (.ref f21)))
    (l21 : K.lookup f21 = some ⟨oc21, od21, .func (PySem.W.fnOf "_law_names" "_law_names" (defArgs st__law_names) (defBody st__law_names) (defScope st__law_names) .none kV21 dc21 pm21 an21 cd21 ct21), sl21⟩)
    (c21 : PySem.W.codeIn K cd21 "_law_names" = true)
    (k21 : PySem.W.keepIn K (.ref f21) = true)
    (a23 : PySem.W.nsIn K mainGlobals "_law_drawn_log" = some (some (.ref f23)))
    (l23 : K.lookup f23 = some ⟨oc23, od23, .func (PySem.W.fnOf "_law_drawn_log" "_law_drawn_log" (defArgs st__law_drawn_log) (defBody st__law_drawn_log) (defScope st__law_drawn_log) .none kV23 dc23 pm23 an23 cd23 ct23), sl23⟩)
    (c23 : PySem.W.codeIn K cd23 "_law_drawn_log" = true)
    (k23 : PySem.W.keepIn K (.ref f23) = true)
    (a19 : PySem.W.nsIn K mainGlobals "_law_is" = some (some (.ref f19)))
    (l19 : K.lookup f19 = some ⟨oc19, od19, .func (PySem.W.fnOf "_law_is" "_law_is" (defArgs st__law_is) (defBody st__law_is) (defScope st__law_is) .none kV19 dc19 pm19 an19 cd19 ct19), sl19⟩)
    (c19 : PySem.W.codeIn K cd19 "_law_is" = true)
    (k19 : PySem.W.keepIn K (.ref f19) = true)
    (a7 : PySem.W.nsIn K mainGlobals "is_day" = some (some (.ref f7)))
    (l7 : K.lookup f7 = some ⟨oc7, od7, .func (PySem.W.fnOf "is_day" "is_day" (defArgs st_is_day) (defBody st_is_day) (defScope st_is_day) .none kV7 dc7 pm7 an7 cd7 ct7), sl7⟩)
    (c7 : PySem.W.codeIn K cd7 "is_day" = true)
    (k7 : PySem.W.keepIn K (.ref f7) = true)
    (a2 : PySem.W.nsIn K mainGlobals "is_name" = some (some (.ref f2)))
    (l2 : K.lookup f2 = some ⟨oc2, od2, .func (PySem.W.fnOf "is_name" "is_name" (defArgs st_is_name) (defBody st_is_name) (defScope st_is_name) .none kV2 dc2 pm2 an2 cd2 ct2), sl2⟩)
    (c2 : PySem.W.codeIn K cd2 "is_name" = true)
    (k2 : PySem.W.keepIn K (.ref f2) = true)
    (a4 : PySem.W.findIn K (.ref C0) "__init__" = some (some (.ref f4)))
    (i4 : PySem.W.isFn K (.ref f4) = true)
    (l4 : K.lookup f4 = some ⟨oc4, od4, .func (PySem.W.fnOf "__init__" "DayLog.__init__" (defArgs st_DayLogu_initu) (defBody st_DayLogu_initu) (defScope st_DayLogu_initu) .none kV4 dc4 pm4 an4 cd4 ct4), sl4⟩)
    (c4 : PySem.W.codeIn K cd4 "DayLog.__init__" = true)
    (k4 : PySem.W.keepIn K (.ref f4) = true)
    (a24 : PySem.W.nsIn K mainGlobals "_law_made_log" = some (some (.ref f24)))
    (l24 : K.lookup f24 = some ⟨oc24, od24, .func (PySem.W.fnOf "_law_made_log" "_law_made_log" (defArgs st__law_made_log) (defBody st__law_made_log) (defScope st__law_made_log) .none kV24 dc24 pm24 an24 cd24 ct24), sl24⟩)
    (c24 : PySem.W.codeIn K cd24 "_law_made_log" = true)
    (k24 : PySem.W.keepIn K (.ref f24) = true)
    (a16 : PySem.W.nsIn K mainGlobals "_law_pen" = some (some (.ref f16)))
    (l16 : K.lookup f16 = some ⟨oc16, od16, .func (PySem.W.fnOf "_law_pen" "_law_pen" (defArgs st__law_pen) (defBody st__law_pen) (defScope st__law_pen) .none kV16 dc16 pm16 an16 cd16 ct16), sl16⟩)
    (c16 : PySem.W.codeIn K cd16 "_law_pen" = true)
    (k16 : PySem.W.keepIn K (.ref f16) = true)
    (a25 : PySem.W.nsIn K mainGlobals "_law_times" = some (some (.ref f25)))
    (l25 : K.lookup f25 = some ⟨oc25, od25, .func (PySem.W.fnOf "_law_times" "_law_times" (defArgs st__law_times) (defBody st__law_times) (defScope st__law_times) .none kV25 dc25 pm25 an25 cd25 ct25), sl25⟩)
    (c25 : PySem.W.codeIn K cd25 "_law_times" = true)
    (k25 : PySem.W.keepIn K (.ref f25) = true)
    (a27 : PySem.W.nsIn K mainGlobals "_law_plan" = some (some (.ref f27)))
    (l27 : K.lookup f27 = some ⟨oc27, od27, .func (PySem.W.fnOf "_law_plan" "_law_plan" (defArgs st__law_plan) (defBody st__law_plan) (defScope st__law_plan) .none kV27 dc27 pm27 an27 cd27 ct27), sl27⟩)
    (c27 : PySem.W.codeIn K cd27 "_law_plan" = true)
    (k27 : PySem.W.keepIn K (.ref f27) = true)
    (a28 : PySem.W.nsIn K mainGlobals "_law_step" = some (some (.ref f28)))
    (l28 : K.lookup f28 = some ⟨oc28, od28, .func (PySem.W.fnOf "_law_step" "_law_step" (defArgs st__law_step) (defBody st__law_step) (defScope st__law_step) .none kV28 dc28 pm28 an28 cd28 ct28), sl28⟩)
    (c28 : PySem.W.codeIn K cd28 "_law_step" = true)
    (k28 : PySem.W.keepIn K (.ref f28) = true)
    (a15 : PySem.W.nsIn K mainGlobals "common_step" = some (some (.ref f15)))
    (l15 : K.lookup f15 = some ⟨oc15, od15, .func (PySem.W.fnOf "common_step" "common_step" (defArgs st_common_step) (defBody st_common_step) (defScope st_common_step) .none kV15 dc15 pm15 an15 cd15 ct15), sl15⟩)
    (c15 : PySem.W.codeIn K cd15 "common_step" = true)
    (k15 : PySem.W.keepIn K (.ref f15) = true)
    (a29 : PySem.W.nsIn K mainGlobals "law" = some (some (.ref f29)))
    (l29 : K.lookup f29 = some ⟨oc29, od29, .func (PySem.W.fnOf "law" "law" (defArgs st_law) (defBody st_law) (defScope st_law) .none kV29 dc29 pm29 an29 (.ref cd29) ct29), sl29⟩)
    (c29 : PySem.W.codeIn K (.ref cd29) "law" = true)
    (k29 : PySem.W.keepIn K (.ref f29) = true)
    (lc29 : K.lookup cd29 = some oo29)
    (fv29 : oo29.data = .fields vv29)
    (pT29 : vv29[11]? = some (.ref pt29))
    (nT29 : K.lookup pt29 = none)
    (a30 : PySem.W.findIn K (.ref C3) "__init__" = some (some (.ref f30)))
    (i30 : PySem.W.typeIn K (.ref f30) = some (.type "function"))
    (l30 : K.lookup f30 = some ⟨oc30, od30, .func (PySem.W.fnOf "__init__" "BadNumber.__init__" (defArgs st_BadNumber_init) (defBody st_BadNumber_init) (defScope st_BadNumber_init) .none kV30 dc30 pm30 an30 cd30 ct30), sl30⟩)
    (c30 : PySem.W.codeIn K cd30 "BadNumber.__init__" = true)
    (k30 : PySem.W.keepIn K (.ref f30) = true)
    (z_len : PySem.W.nsIn K mainGlobals "len" = some none)
    (z_int : PySem.W.nsIn K mainGlobals "int" = some none)
    (z_str : PySem.W.nsIn K mainGlobals "str" = some none)
    (z_bool : PySem.W.nsIn K mainGlobals "bool" = some none)
    (z_all : PySem.W.nsIn K mainGlobals "all" = some none)
    (z_tuple : PySem.W.nsIn K mainGlobals "tuple" = some none)
    (z_list : PySem.W.nsIn K mainGlobals "list" = some none)
    (z_range : PySem.W.nsIn K mainGlobals "range" = some none)
    (z_enumerate : PySem.W.nsIn K mainGlobals "enumerate" = some none)
    (z_isinstance : PySem.W.nsIn K mainGlobals "isinstance" = some none)
    (z_repr : PySem.W.nsIn K mainGlobals "repr" = some none)
    (z_max : PySem.W.nsIn K mainGlobals "max" = some none)
    (z_abs : PySem.W.nsIn K mainGlobals "abs" = some none)
    (z_sorted : PySem.W.nsIn K mainGlobals "sorted" = some none)
    (x_gcd : PySem.W.nsIn K mainGlobals "gcd" = some (some (.builtin "math.gcd")))
    (g_LETTERS : PySem.W.nsIn K mainGlobals "LETTERS" = some (some (.str "abcdefghijklmnopqrstuvwxyz" t_LETTERS)))
    (g_MOST_PERIOD : PySem.W.nsIn K mainGlobals "MOST_PERIOD" = some (some (.int 1440 t_MOST_PERIOD)))
    : ∃ (S : Sg) (FS : EF) (fd : FuncData) (cs : List (Addr × Addr)), S.K = K ∧ (∀ p ∈ S.tabs, ∃ c, (c, p.1) ∈ cs) ∧ (∀ p ∈ cs, h.get? p.2 = some { cls := .none, data := .fields #[] } ∧ K.lookup p.2 = none ∧ PySem.W.CodeHd h p.1 p.2) ∧
      (∀ (s : Shared) (u : Value), BindsTo s fd ⟨[u], []⟩ [("script", u)]) ∧ (∀ ns : List Int, ns.length ≤ 63 → FS.r [.val (.lst (ns.map D.int))] (fun e _ => e = .val (.bl true)) X0) ∧
      ∀ base : Heap, K.In base → base.Ns mainGlobals mg → (∀ p ∈ cs, LamX.TabB base mg p.1 p.2) → FnG l.prog w S.K mg base (L2.CX l.prog w) 8 fa fd ["script"] (spD S FS 1) := by
  have e := hfa.symm.trans (PySem.W.mg_of X G a29)
  cases e
  let cl : Nat → Addr := fun i => [C0, C1, C2, C3, C4, C5, C6, C7, C8, C9, C10, C11].getD i 0
  let ad : Nat → Addr := fun i => [f0, f1, f2, f3, f4, 0, 0, f7, f8, f9, f10, f11, f12, f13, f14, f15, f16, f17, f18, f19, f20, f21, f22, f23, f24, f25, f26, f27, f28, fa, f30].getD i 0
  let fd : Nat → FuncData := fun i => match i with | 0 => PySem.W.fnOf "is_whole" "is_whole" (defArgs st_is_whole) (defBody st_is_whole) (defScope st_is_whole) .none kV0 dc0 pm0 an0 cd0 ct0 | 8 => PySem.W.fnOf "times_seen" "times_seen" (defArgs st_times_seen) (defBody st_times_seen) (defScope st_times_seen) .none kV8 dc8 pm8 an8 cd8 ct8 | 9 => PySem.W.fnOf "plan_minute" "plan_minute" (defArgs st_plan_minute) (defBody st_plan_minute) (defScope st_plan_minute) .none kV9 dc9 pm9 an9 cd9 ct9 | 10 => PySem.W.fnOf "least_plan" "least_plan" (defArgs st_least_plan) (defBody st_least_plan) (defScope st_least_plan) .none kV10 dc10 pm10 an10 cd10 ct10 | 12 => PySem.W.fnOf "fits_period" "fits_period" (defArgs st_fits_period) (defBody st_fits_period) (defScope st_fits_period) .none kV12 dc12 pm12 an12 cd12 ct12 | 1 => PySem.W.fnOf "is_number" "is_number" (defArgs st_is_number) (defBody st_is_number) (defScope st_is_number) .none kV1 dc1 pm1 an1 cd1 ct1 | 11 => PySem.W.fnOf "need_late" "need_late" (defArgs st_need_late) (defBody st_need_late) (defScope st_need_late) .none kV11 dc11 pm11 an11 cd11 ct11 | 13 => PySem.W.fnOf "periods_that_fit" "periods_that_fit" (defArgs st_periods_that_fit) (defBody st_periods_that_fit) (defScope st_periods_that_fit) .none kV13 dc13 pm13 an13 cd13 ct13 | 3 => PySem.W.fnOf "need_period" "need_period" (defArgs st_need_period) (defBody st_need_period) (defScope st_need_period) .none kV3 dc3 pm3 an3 cd3 ct3 | 14 => PySem.W.fnOf "planned" "planned" (defArgs st_planned) (defBody st_planned) (defScope st_planned) .none kV14 dc14 pm14 an14 cd14 ct14 | 22 => PySem.W.fnOf "_law_caught" "_law_caught" (defArgs st__law_caught) (defBody st__law_caught) (defScope st__law_caught) .none kV22 dc22 pm22 an22 cd22 ct22 | 26 => PySem.W.fnOf "_law_raise_so" "_law_raise_so" (defArgs st__law_raise_so) (defBody st__law_raise_so) (defScope st__law_raise_so) .none kV26 dc26 pm26 an26 cd26 ct26 | 17 => PySem.W.fnOf "_law_draw" "_law_draw" (defArgs st__law_draw) (defBody st__law_draw) (defScope st__law_draw) .none kV17 dc17 pm17 an17 cd17 ct17 | 18 => PySem.W.fnOf "_law_pick" "_law_pick" (defArgs st__law_pick) (defBody st__law_pick) (defScope st__law_pick) .none kV18 dc18 pm18 an18 cd18 ct18 | 20 => PySem.W.fnOf "_law_name" "_law_name" (defArgs st__law_name) (defBody st__law_name) (defScope st__law_name) .none kV20 dc20 pm20 an20 cd20 ct20 | 21 => PySem.W.fnOf "_law_names" "_law_names" (defArgs st__law_names) (defBody st__law_names) (defScope st__law_names) .none kV21 dc21 pm21 an21 cd21 ct21 | 23 => PySem.W.fnOf "_law_drawn_log" "_law_drawn_log" (defArgs st__law_drawn_log) (defBody st__law_drawn_log) (defScope st__law_drawn_log) .none kV23 dc23 pm23 an23 cd23 ct23 | 19 => PySem.W.fnOf "_law_is" "_law_is" (defArgs st__law_is) (defBody st__law_is) (defScope st__law_is) .none kV19 dc19 pm19 an19 cd19 ct19 | 7 => PySem.W.fnOf "is_day" "is_day" (defArgs st_is_day) (defBody st_is_day) (defScope st_is_day) .none kV7 dc7 pm7 an7 cd7 ct7 | 2 => PySem.W.fnOf "is_name" "is_name" (defArgs st_is_name) (defBody st_is_name) (defScope st_is_name) .none kV2 dc2 pm2 an2 cd2 ct2 | 4 => PySem.W.fnOf "__init__" "DayLog.__init__" (defArgs st_DayLogu_initu) (defBody st_DayLogu_initu) (defScope st_DayLogu_initu) .none kV4 dc4 pm4 an4 cd4 ct4 | 24 => PySem.W.fnOf "_law_made_log" "_law_made_log" (defArgs st__law_made_log) (defBody st__law_made_log) (defScope st__law_made_log) .none kV24 dc24 pm24 an24 cd24 ct24 | 16 => PySem.W.fnOf "_law_pen" "_law_pen" (defArgs st__law_pen) (defBody st__law_pen) (defScope st__law_pen) .none kV16 dc16 pm16 an16 cd16 ct16 | 25 => PySem.W.fnOf "_law_times" "_law_times" (defArgs st__law_times) (defBody st__law_times) (defScope st__law_times) .none kV25 dc25 pm25 an25 cd25 ct25 | 27 => PySem.W.fnOf "_law_plan" "_law_plan" (defArgs st__law_plan) (defBody st__law_plan) (defScope st__law_plan) .none kV27 dc27 pm27 an27 cd27 ct27 | 28 => PySem.W.fnOf "_law_step" "_law_step" (defArgs st__law_step) (defBody st__law_step) (defScope st__law_step) .none kV28 dc28 pm28 an28 cd28 ct28 | 15 => PySem.W.fnOf "common_step" "common_step" (defArgs st_common_step) (defBody st_common_step) (defScope st_common_step) .none kV15 dc15 pm15 an15 cd15 ct15 | 29 => PySem.W.fnOf "law" "law" (defArgs st_law) (defBody st_law) (defScope st_law) .none kV29 dc29 pm29 an29 (.ref cd29) ct29 | 30 => PySem.W.fnOf "__init__" "BadNumber.__init__" (defArgs st_BadNumber_init) (defBody st_BadNumber_init) (defScope st_BadNumber_init) .none kV30 dc30 pm30 an30 cd30 ct30 | _ => PySem.W.fnOf "law" "law" (defArgs st_law) (defBody st_law) (defScope st_law) .none kV29 dc29 pm29 an29 (.ref cd29) ct29
  let co : Nat → Addr := fun i => match i with | 29 => cd29 | _ => 0
  let pt : Nat → Addr := fun i => match i with | 29 => pt29 | _ => 0
  let tb : List (Addr × Str) := [(pt29, ("law" : Str) ++ ".<locals>." ++ "<lambda>")]
  let cs : List (Addr × Addr) := [(cd29, pt29)]
  have T : Txt K mg cl ad co fd := {
    sg := fun lm tb => by
      refine ⟨fun k hk => ?_, fun k hk j hj hne => ?_⟩
      · have hk : k ∈ ICS := hk
        simp only [ICS, List.mem_cons, List.not_mem_nil, or_false] at hk
        rcases hk with rfl
        · exact ⟨⟨pg0, hd0, po0, sa0⟩, fun f hf => by
            have hf : f ∈ (["events", "days"] : List Str) := hf
            simp only [List.mem_cons, List.not_mem_nil, or_false] at hf
            rcases hf with rfl | rfl
            · exact n0_events
            · exact n0_days
            , ha0, hn, htk, mr0, fun t => by cases t <;> exact kit_ct (by assumption), fun t => by cases t <;> exact kit_tc (by assumption) ic0 tc0⟩
      · have hk : k ∈ ICS := hk
        have hj : j ∈ ICS := hj
        simp only [ICS, List.mem_cons, List.not_mem_nil, or_false] at hk hj
        rcases hk with rfl <;> rcases hj with rfl <;> first | (exact absurd rfl hne) | exact kit_cc (by assumption) (by assumption) (by assumption) (by assumption)
    nf0 := fun lm tb t ht => by
      cases t with
      | b t => cases t <;> assumption
      | c j =>
        have ht : j ∈ ICS := ht
        simp only [ICS, List.mem_cons, List.not_mem_nil, or_false] at ht
        rcases ht with rfl <;> assumption
    m_DayLog := PySem.W.mg_of X G aC0
    mk0 := ⟨mk0, a4, i4, kc0⟩
    ec := fun lm tb cau => by
      refine ⟨fun k hk => ?_, fun k hk => ?_, fun k hk j hj hne => ?_, fun k hk => ?_, fun k hk f hf => ?_⟩
      · have hk : k ∈ ECS := hk
        simp only [ECS, List.mem_cons, List.not_mem_nil, or_false] at hk
        rcases hk with rfl
        · exact ⟨ga3, gg3, sb3, hd3, ha3, hn, htk, mr3⟩
      · show PySem.W.kitOne K (.ref (cl k)) (.ref (cl k)) = some true
        unfold PySem.W.kitOne
        rw [if_pos (by simp)]
      · have hk : k ∈ ECS := hk
        have hj : j ∈ JCS := hj
        simp only [ECS, JCS, List.mem_cons, List.not_mem_nil, or_false] at hk hj
        rcases hk with rfl <;> rcases hj with rfl | rfl | rfl | rfl | rfl | rfl | rfl | rfl | rfl | rfl <;> first | (exact absurd rfl hne) | exact kit_cc (by assumption) (by assumption) (by assumption) (by assumption)
      · have hk : k ∈ ECS := hk
        simp only [ECS, List.mem_cons, List.not_mem_nil, or_false] at hk
        rcases hk with rfl
        · exact ⟨ga3, gg3, sb3, hd3⟩
      · have hk : k ∈ ECS := hk
        simp only [ECS, List.mem_cons, List.not_mem_nil, or_false] at hk
        rcases hk with rfl
        · have hf : f ∈ (["what", "number"] : List Str) := hf
          simp only [List.mem_cons, List.not_mem_nil, or_false] at hf
          rcases hf with rfl | rfl
          · exact n3_what
          · exact n3_number
    he := fun c hc => by
      have hc : c ∈ ECS := hc
      simp only [ECS, List.mem_cons, List.not_mem_nil, or_false] at hc
      rcases hc with rfl
      · exact PySem.W.exm_ref hsb hhd hty sh3
    m_BadText := PySem.W.mg_of X G aC1
    m_BadName := PySem.W.mg_of X G aC2
    m_BadNumber := PySem.W.mg_of X G aC3
    m_BadRow := PySem.W.mg_of X G aC4
    m_NoEvent := PySem.W.mg_of X G aC5
    m_NoBond := PySem.W.mg_of X G aC6
    m_TakenName := PySem.W.mg_of X G aC7
    m_Unlike := PySem.W.mg_of X G aC8
    m_NoTimes := PySem.W.mg_of X G aC9
    m_TooMany := PySem.W.mg_of X G aC10
    m_HourError := PySem.W.mg_of X G aC11
    hs := hs
    hr := hr
    hf := hf
    o_BadNumber := ⟨⟨_, _, _, _, _, _, _, _, _, _, _, _, _, _, _, ox3, rv3⟩, sa3, sb3, tc3, kc3⟩
    f_BadNumber_init := fun_mk (st := st_BadNumber_init) l30 c30 k30
    b_BadNumber_init := (fun_mk (st := st_BadNumber_init) l30 c30 k30).binds fun _ _ _ _ _ _ us hl => match us, hl with | [_, _, _], _ => rfl
    a_BadNumber_init := a30
    i_BadNumber_init := i30
    n_BadNumber := fun f hf => by
      · have hf : f ∈ (["what", "number"] : List Str) := hf
        simp only [List.mem_cons, List.not_mem_nil, or_false] at hf
        rcases hf with rfl | rfl
        · exact n3_what
        · exact n3_number
    z_len := PySem.W.mg_none_of X G z_len
    z_int := PySem.W.mg_none_of X G z_int
    z_str := PySem.W.mg_none_of X G z_str
    z_bool := PySem.W.mg_none_of X G z_bool
    z_all := PySem.W.mg_none_of X G z_all
    z_tuple := PySem.W.mg_none_of X G z_tuple
    z_list := PySem.W.mg_none_of X G z_list
    z_range := PySem.W.mg_none_of X G z_range
    z_enumerate := PySem.W.mg_none_of X G z_enumerate
    z_isinstance := PySem.W.mg_none_of X G z_isinstance
    z_repr := PySem.W.mg_none_of X G z_repr
    z_max := PySem.W.mg_none_of X G z_max
    z_abs := PySem.W.mg_none_of X G z_abs
    z_sorted := PySem.W.mg_none_of X G z_sorted
    x_gcd := PySem.W.mg_of X G x_gcd
    g_LETTERS := ⟨_, PySem.W.mg_of X G g_LETTERS⟩
    g_SIGNS := g_SIGNS
    g_MOST_PERIOD := ⟨_, PySem.W.mg_of X G g_MOST_PERIOD⟩
    f_is_whole := fun_mk (st := st_is_whole) l0 c0 k0
    b_is_whole := (fun_mk (st := st_is_whole) l0 c0 k0).binds fun _ _ _ _ _ _ us hl => match us, hl with | [_], _ => rfl
    m_is_whole := PySem.W.mg_of X G a0
    f_times_seen := fun_mk (st := st_times_seen) l8 c8 k8
    b_times_seen := (fun_mk (st := st_times_seen) l8 c8 k8).binds fun _ _ _ _ _ _ us hl => match us, hl with | [_, _], _ => rfl
    m_times_seen := PySem.W.mg_of X G a8
    f_plan_minute := fun_mk (st := st_plan_minute) l9 c9 k9
    b_plan_minute := (fun_mk (st := st_plan_minute) l9 c9 k9).binds fun _ _ _ _ _ _ us hl => match us, hl with | [_, _, _], _ => rfl
    m_plan_minute := PySem.W.mg_of X G a9
    f_least_plan := fun_mk (st := st_least_plan) l10 c10 k10
    b_least_plan := (fun_mk (st := st_least_plan) l10 c10 k10).binds fun _ _ _ _ _ _ us hl => match us, hl with | [_, _, _], _ => rfl
    m_least_plan := PySem.W.mg_of X G a10
    f_fits_period := fun_mk (st := st_fits_period) l12 c12 k12
    b_fits_period := (fun_mk (st := st_fits_period) l12 c12 k12).binds fun _ _ _ _ _ _ us hl => match us, hl with | [_, _, _], _ => rfl
    m_fits_period := PySem.W.mg_of X G a12
    f_is_number := fun_mk (st := st_is_number) l1 c1 k1
    b_is_number := (fun_mk (st := st_is_number) l1 c1 k1).binds fun _ _ _ _ _ _ us hl => match us, hl with | [_], _ => rfl
    m_is_number := PySem.W.mg_of X G a1
    f_need_late := fun_mk (st := st_need_late) l11 c11 k11
    b_need_late := (fun_mk (st := st_need_late) l11 c11 k11).binds fun _ _ _ _ _ _ us hl => match us, hl with | [_], _ => rfl
    m_need_late := PySem.W.mg_of X G a11
    f_periods_that_fit := fun_mk (st := st_periods_that_fit) l13 c13 k13
    b_periods_that_fit := (fun_mk (st := st_periods_that_fit) l13 c13 k13).binds fun _ _ _ _ _ _ us hl => match us, hl with | [_, _, _], _ => rfl
    m_periods_that_fit := PySem.W.mg_of X G a13
    f_need_period := fun_mk (st := st_need_period) l3 c3 k3
    b_need_period := (fun_mk (st := st_need_period) l3 c3 k3).binds fun _ _ _ _ _ _ us hl => match us, hl with | [_], _ => rfl
    m_need_period := PySem.W.mg_of X G a3
    f_planned := fun_mk (st := st_planned) l14 c14 k14
    b_planned := (fun_mk (st := st_planned) l14 c14 k14).binds fun _ _ _ _ _ _ us hl => match us, hl with | [_, _, _], _ => rfl
    m_planned := PySem.W.mg_of X G a14
    f__law_caught := fun_mk (st := st__law_caught) l22 c22 k22
    b__law_caught := (fun_mk (st := st__law_caught) l22 c22 k22).binds fun _ _ _ _ _ _ us hl => match us, hl with | [_], _ => rfl
    m__law_caught := PySem.W.mg_of X G a22
    f__law_raise_so := fun_mk (st := st__law_raise_so) l26 c26 k26
    b__law_raise_so := (fun_mk (st := st__law_raise_so) l26 c26 k26).binds fun _ _ _ _ _ _ us hl => match us, hl with | [_], _ => rfl
    m__law_raise_so := PySem.W.mg_of X G a26
    f__law_draw := fun_mk (st := st__law_draw) l17 c17 k17
    b__law_draw := (fun_mk (st := st__law_draw) l17 c17 k17).binds fun _ _ _ _ _ _ us hl => match us, hl with | [_, _], _ => rfl
    m__law_draw := PySem.W.mg_of X G a17
    f__law_pick := fun_mk (st := st__law_pick) l18 c18 k18
    b__law_pick := (fun_mk (st := st__law_pick) l18 c18 k18).binds fun _ _ _ _ _ _ us hl => match us, hl with | [_, _], _ => rfl
    m__law_pick := PySem.W.mg_of X G a18
    f__law_name := fun_mk (st := st__law_name) l20 c20 k20
    b__law_name := (fun_mk (st := st__law_name) l20 c20 k20).binds fun _ _ _ _ _ _ us hl => match us, hl with | [_], _ => rfl
    m__law_name := PySem.W.mg_of X G a20
    f__law_names := fun_mk (st := st__law_names) l21 c21 k21
    b__law_names := (fun_mk (st := st__law_names) l21 c21 k21).binds fun _ _ _ _ _ _ us hl => match us, hl with | [_, _], _ => rfl
    m__law_names := PySem.W.mg_of X G a21
    f__law_drawn_log := fun_mk (st := st__law_drawn_log) l23 c23 k23
    b__law_drawn_log := (fun_mk (st := st__law_drawn_log) l23 c23 k23).binds fun _ _ _ _ _ _ us hl => match us, hl with | [_, _, _], _ => rfl
    m__law_drawn_log := PySem.W.mg_of X G a23
    f__law_is := fun_mk (st := st__law_is) l19 c19 k19
    b__law_is := (fun_mk (st := st__law_is) l19 c19 k19).binds fun _ _ _ _ _ _ us hl => match us, hl with | [_, _], _ => rfl
    m__law_is := PySem.W.mg_of X G a19
    f_is_day := fun_mk (st := st_is_day) l7 c7 k7
    b_is_day := (fun_mk (st := st_is_day) l7 c7 k7).binds fun _ _ _ _ _ _ us hl => match us, hl with | [_, _], _ => rfl
    m_is_day := PySem.W.mg_of X G a7
    f_is_name := fun_mk (st := st_is_name) l2 c2 k2
    b_is_name := (fun_mk (st := st_is_name) l2 c2 k2).binds fun _ _ _ _ _ _ us hl => match us, hl with | [_], _ => rfl
    m_is_name := PySem.W.mg_of X G a2
    f_DayLogu_initu := fun_mk (st := st_DayLogu_initu) l4 c4 k4
    b_DayLogu_initu := (fun_mk (st := st_DayLogu_initu) l4 c4 k4).binds fun _ _ _ _ _ _ us hl => match us, hl with | [_, _, _], _ => rfl
    f__law_made_log := fun_mk (st := st__law_made_log) l24 c24 k24
    b__law_made_log := (fun_mk (st := st__law_made_log) l24 c24 k24).binds fun _ _ _ _ _ _ us hl => match us, hl with | [_], _ => rfl
    m__law_made_log := PySem.W.mg_of X G a24
    f__law_pen := fun_mk (st := st__law_pen) l16 c16 k16
    b__law_pen := (fun_mk (st := st__law_pen) l16 c16 k16).binds fun _ _ _ _ _ _ us hl => match us, hl with | [_], _ => rfl
    m__law_pen := PySem.W.mg_of X G a16
    f__law_times := fun_mk (st := st__law_times) l25 c25 k25
    b__law_times := (fun_mk (st := st__law_times) l25 c25 k25).binds fun _ _ _ _ _ _ us hl => match us, hl with | [_, _], _ => rfl
    m__law_times := PySem.W.mg_of X G a25
    f__law_plan := fun_mk (st := st__law_plan) l27 c27 k27
    b__law_plan := (fun_mk (st := st__law_plan) l27 c27 k27).binds fun _ _ _ _ _ _ us hl => match us, hl with | [_, _, _], _ => rfl
    m__law_plan := PySem.W.mg_of X G a27
    f__law_step := fun_mk (st := st__law_step) l28 c28 k28
    b__law_step := (fun_mk (st := st__law_step) l28 c28 k28).binds fun _ _ _ _ _ _ us hl => match us, hl with | [_], _ => rfl
    m__law_step := PySem.W.mg_of X G a28
    f_common_step := fun_mk (st := st_common_step) l15 c15 k15
    b_common_step := (fun_mk (st := st_common_step) l15 c15 k15).binds fun _ _ _ _ _ _ us hl => match us, hl with | [_], _ => rfl
    m_common_step := PySem.W.mg_of X G a15
    f_law := fun_mk (st := st_law) l29 c29 k29
    w_law := ⟨_, _, _, _, _, _, _, _, _, rfl, l29, c29⟩
    b_law := (fun_mk (st := st_law) l29 c29 k29).binds fun _ _ _ _ _ _ us hl => match us, hl with | [_], _ => rfl
    m_law := PySem.W.mg_of X G a29
  }
  have own29 := own "law" (by simp) _ _ _ _ _ _ _ hfa l29 rfl rfl lc29 fv29 pT29
  have ht : ∀ p ∈ tb, ∃ c, (c, p.1) ∈ cs := fun p hp => by
    have hp : p ∈ tb := hp
    simp only [tb, List.mem_cons, List.not_mem_nil, or_false] at hp
    rcases hp with rfl
    · exact ⟨cd29, by simp [cs]⟩
  have hcs : ∀ p ∈ cs, h.get? p.2 = some { cls := .none, data := .fields #[] } ∧ K.lookup p.2 = none ∧ PySem.W.CodeHd h p.1 p.2 := fun p hp => by
    have hp : p ∈ cs := hp
    simp only [cs, List.mem_cons, List.not_mem_nil, or_false] at hp
    rcases hp with rfl
    · exact ⟨own29.1, nT29, own29.2⟩
  refine ⟨sg K cl .none tb, F_law, fd 29, cs, rfl, ht, hcs, fun s v => .of_eq rfl, hlaw, fun base _ _ hB => ?_⟩
  have W : Mkr mg base co pt tb := {
    t_law := hB (cd29, pt29) (by simp [cs])
    m_law := by simp [tb, pt]
    u_law := fun p hp e => by
      have hp : p ∈ tb := hp
      simp only [tb, List.mem_cons, List.not_mem_nil, or_false] at hp
      rcases hp with rfl
      · rfl
  }
  exact (ok_law T W).fn
end Lw
set_option Elab.async false
set_option linter.all false
set_option maxRecDepth 100000
open PySem PySem.W PyProof.Rows
set_option maxHeartbeats 0 in
theorem PySem.Challenge.cw_everyhour_k87_whole_periods_holds : PySem.Challenge.rw_everyhour_k87_whole_periods.Holds := by
  w_on; o_law; k_head; (case hw => w_witness2)
  k_fill
  refine En.walk_XG ["law"] (l := PySem.Challenge.rw_everyhour_k87_whole_periods) (n := 63) (k := 8) (x := "script") rfl (by decide) rfl ⟨rfl, by decide, by decide⟩ (by decide +kernel) (fun w h Y => by first | exact PySem.W.kIn_of Y | exact PySem.W.km_in_of Y) ?F
  case F =>
    intro w mg fa h hX KX G hmg own
    have hl_SIGNS : ∃ t : Tok, mg "SIGNS" = some (.str "abcdefghijklmnopqrstuvwxyz0123456789" t) := by
      obtain ⟨v, e1, e2⟩ := hX.2.val _ (by first | exact List.mem_cons_self | exact List.mem_cons_of_mem _ List.mem_cons_self)
      cases e2 with | str x t => exact ⟨t, e1⟩
    refine' Lw.all_mk KX G hmg own hl_SIGNS Lw.law_ok ?aC0 ?pg0 ?hd0 ?po0 ?sa0 ?mk0 ?kc0 ?n0_events ?n0_days ?ha0 ?ic0 ?tc0 ?mr0 ?ka0_non ?kb0_non ?nf0_non ?ka0_bool ?kb0_bool ?nf0_bool ?ka0_int ?kb0_int ?nf0_int ?ka0_str ?kb0_str ?nf0_str ?ka0_list ?kb0_list ?nf0_list ?ka0_tuple ?kb0_tuple ?nf0_tuple ?ka0_dict ?kb0_dict ?nf0_dict ?nc0_0 ?aC1 ?aC2 ?aC3 ?aC4 ?aC5 ?aC6 ?aC7 ?aC8 ?aC9 ?aC10 ?aC11 ?hs ?hr ?hf ?hsb ?hhd ?hty ?ox3 ?rv3 ?sa3 ?sb3 ?kc3 ?hd3 ?ga3 ?gg3 ?ha3 ?mr3 ?sh3 ?n3_what ?n3_number ?ic1 ?tc1 ?ic2 ?tc2 ?ic3 ?tc3 ?ic4 ?tc4 ?ic5 ?tc5 ?ic6 ?tc6 ?ic7 ?tc7 ?ic8 ?tc8 ?ic9 ?tc9 ?ic10 ?tc10 ?kk3_1 ?ne3_1 ?kk3_2 ?ne3_2 ?kk3_4 ?ne3_4 ?kk3_5 ?ne3_5 ?kk3_6 ?ne3_6 ?kk3_7 ?ne3_7 ?kk3_8 ?ne3_8 ?kk3_9 ?ne3_9 ?kk3_10 ?ne3_10 ?hn ?htk ?a0 ?l0 ?c0 ?k0 ?a8 ?l8 ?c8 ?k8 ?a9 ?l9 ?c9 ?k9 ?a10 ?l10 ?c10 ?k10 ?a12 ?l12 ?c12 ?k12 ?a1 ?l1 ?c1 ?k1 ?a11 ?l11 ?c11 ?k11 ?a13 ?l13 ?c13 ?k13 ?a3 ?l3 ?c3 ?k3 ?a14 ?l14 ?c14 ?k14 ?a22 ?l22 ?c22 ?k22 ?a26 ?l26 ?c26 ?k26 ?a17 ?l17 ?c17 ?k17 ?a18 ?l18 ?c18 ?k18 ?a20 ?l20 ?c20 ?k20 ?a21 ?l21 ?c21 ?k21 ?a23 ?l23 ?c23 ?k23 ?a19 ?l19 ?c19 ?k19 ?a7 ?l7 ?c7 ?k7 ?a2 ?l2 ?c2 ?k2 ?a4 ?i4 ?l4 ?c4 ?k4 ?a24 ?l24 ?c24 ?k24 ?a16 ?l16 ?c16 ?k16 ?a25 ?l25 ?c25 ?k25 ?a27 ?l27 ?c27 ?k27 ?a28 ?l28 ?c28 ?k28 ?a15 ?l15 ?c15 ?k15 ?a29 ?l29 ?c29 ?k29 ?lc29 ?fv29 ?pT29 ?nT29 ?a30 ?i30 ?l30 ?c30 ?k30 ?z_len ?z_int ?z_str ?z_bool ?z_all ?z_tuple ?z_list ?z_range ?z_enumerate ?z_isinstance ?z_repr ?z_max ?z_abs ?z_sorted ?x_gcd ?g_LETTERS ?g_MOST_PERIOD
    (case aC0 => k_is); (case pg0 => k_is); (case hd0 => k_is); (case po0 => k_is); (case sa0 => k_is); (case mk0 => k_is); (case kc0 => k_is); (case n0_events => k_is); (case n0_days => k_is); (case ha0 => k_is); (case ic0 => k_is); (case tc0 => k_is); (case mr0 => k_is); (case ka0_non => k_is); (case kb0_non => k_is); (case nf0_non => k_is); (case ka0_bool => k_is); (case kb0_bool => k_is); (case nf0_bool => k_is); (case ka0_int => k_is); (case kb0_int => k_is); (case nf0_int => k_is); (case ka0_str => k_is); (case kb0_str => k_is); (case nf0_str => k_is); (case ka0_list => k_is); (case kb0_list => k_is); (case nf0_list => k_is); (case ka0_tuple => k_is); (case kb0_tuple => k_is); (case nf0_tuple => k_is); (case ka0_dict => k_is); (case kb0_dict => k_is); (case nf0_dict => k_is); (case nc0_0 => k_is); (case aC1 => k_is); (case aC2 => k_is); (case aC3 => k_is); (case aC4 => k_is); (case aC5 => k_is); (case aC6 => k_is); (case aC7 => k_is); (case aC8 => k_is); (case aC9 => k_is); (case aC10 => k_is); (case aC11 => k_is); (case hs => k_is); (case hr => k_is); (case hf => k_is); (case hsb => k_is); (case hhd => k_is); (case hty => k_is); (case ox3 => k_is); (case rv3 => rfl); (case sa3 => k_is); (case sb3 => k_is); (case kc3 => k_is); (case hd3 => k_is); (case ga3 => k_is); (case gg3 => k_is); (case ha3 => k_is); (case mr3 => k_is); (case sh3 => k_is); (case n3_what => k_is); (case n3_number => k_is); (case ic1 => k_is); (case tc1 => k_is); (case ic2 => k_is); (case tc2 => k_is); (case ic3 => k_is); (case tc3 => k_is); (case ic4 => k_is); (case tc4 => k_is); (case ic5 => k_is); (case tc5 => k_is); (case ic6 => k_is); (case tc6 => k_is); (case ic7 => k_is); (case tc7 => k_is); (case ic8 => k_is); (case tc8 => k_is); (case ic9 => k_is); (case tc9 => k_is); (case ic10 => k_is); (case tc10 => k_is); (case kk3_1 => k_is); (case ne3_1 => rfl); (case kk3_2 => k_is); (case ne3_2 => rfl); (case kk3_4 => k_is); (case ne3_4 => rfl); (case kk3_5 => k_is); (case ne3_5 => rfl); (case kk3_6 => k_is); (case ne3_6 => rfl); (case kk3_7 => k_is); (case ne3_7 => rfl); (case kk3_8 => k_is); (case ne3_8 => rfl); (case kk3_9 => k_is); (case ne3_9 => rfl); (case kk3_10 => k_is); (case ne3_10 => rfl); (case hn => k_is); (case htk => k_is); (case a0 => k_is); (case l0 => k_is); (case c0 => k_is); (case k0 => k_is); (case a8 => k_is); (case l8 => k_is); (case c8 => k_is); (case k8 => k_is); (case a9 => k_is); (case l9 => k_is); (case c9 => k_is); (case k9 => k_is); (case a10 => k_is); (case l10 => k_is); (case c10 => k_is); (case k10 => k_is); (case a12 => k_is); (case l12 => k_is); (case c12 => k_is); (case k12 => k_is); (case a1 => k_is); (case l1 => k_is); (case c1 => k_is); (case k1 => k_is); (case a11 => k_is); (case l11 => k_is); (case c11 => k_is); (case k11 => k_is); (case a13 => k_is); (case l13 => k_is); (case c13 => k_is); (case k13 => k_is); (case a3 => k_is); (case l3 => k_is); (case c3 => k_is); (case k3 => k_is); (case a14 => k_is); (case l14 => k_is); (case c14 => k_is); (case k14 => k_is); (case a22 => k_is); (case l22 => k_is); (case c22 => k_is); (case k22 => k_is); (case a26 => k_is); (case l26 => k_is); (case c26 => k_is); (case k26 => k_is); (case a17 => k_is); (case l17 => k_is); (case c17 => k_is); (case k17 => k_is); (case a18 => k_is); (case l18 => k_is); (case c18 => k_is); (case k18 => k_is); (case a20 => k_is); (case l20 => k_is); (case c20 => k_is); (case k20 => k_is); (case a21 => k_is); (case l21 => k_is); (case c21 => k_is); (case k21 => k_is); (case a23 => k_is); (case l23 => k_is); (case c23 => k_is); (case k23 => k_is); (case a19 => k_is); (case l19 => k_is); (case c19 => k_is); (case k19 => k_is); (case a7 => k_is); (case l7 => k_is); (case c7 => k_is); (case k7 => k_is); (case a2 => k_is); (case l2 => k_is); (case c2 => k_is); (case k2 => k_is); (case a4 => k_is); (case i4 => k_is); (case l4 => k_is); (case c4 => k_is); (case k4 => k_is); (case a24 => k_is); (case l24 => k_is); (case c24 => k_is); (case k24 => k_is); (case a16 => k_is); (case l16 => k_is); (case c16 => k_is); (case k16 => k_is); (case a25 => k_is); (case l25 => k_is); (case c25 => k_is); (case k25 => k_is); (case a27 => k_is); (case l27 => k_is); (case c27 => k_is); (case k27 => k_is); (case a28 => k_is); (case l28 => k_is); (case c28 => k_is); (case k28 => k_is); (case a15 => k_is); (case l15 => k_is); (case c15 => k_is); (case k15 => k_is); (case a29 => k_is); (case l29 => k_is); (case c29 => k_is); (case k29 => k_is); (case lc29 => k_is); (case fv29 => rfl); (case pT29 => rfl); (case nT29 => first | rfl | kernel_rfl); (case a30 => k_is); (case i30 => k_is); (case l30 => k_is); (case c30 => k_is); (case k30 => k_is); (case z_len => k_is); (case z_int => k_is); (case z_str => k_is); (case z_bool => k_is); (case z_all => k_is); (case z_tuple => k_is); (case z_list => k_is); (case z_range => k_is); (case z_enumerate => k_is); (case z_isinstance => k_is); (case z_repr => k_is); (case z_max => k_is); (case z_abs => k_is); (case z_sorted => k_is); (case x_gcd => k_is); (case g_LETTERS => k_is); (case g_MOST_PERIOD => k_is)
