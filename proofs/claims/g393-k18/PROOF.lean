import PyProof.Rows.All
import Wide.All
import OpenK.AllK
import Wide.FinOn
import HandS.ForMost
import HandS.Exc
import HandS.ExcOwn
import HandS.TryMany
import HandS.CallSlots
import HandS.Wide
import HandS.Deep
import HandS.TupAny
import HandS.Defaults
import HandS.WordsExc
import HandS.Flow
import HandS.TryOnly
import HandS.Style
import HandS.Zip
import HandS.IsInst
import HandS.WideMore
import HandS.SortInts
import HandS.Gcd
import HandS.More
import HandS.Lambda
import HandS.EndTab
import HandS.HeadWalk
import HandS.Slots
import HandS.SlotsOwn
import HandS.ClsMeth
import HandS.FStr
import HandS.Star
import HandS.Dict
import HandS.TupMul
import KE.GoesZip
import KE.GoesEnum
import HandS.Conv
import KE.KStateDown
import HandS.Ends
import HandS.Words
import HandS.Head0
import HandS.Head1
import HandS.Head2
import HandS.Head3
import HandS.HeadEnd
import HandS.HeadHook1
import HandS.HeadHook2
import HandS.HeadHook3
import HandS.HeadHook4
import HandS.EndBits
import KE.KFmtOwn
import PyProof.InstNe
import KE.KCallOwn
import KE.KRevSl
import HandS.Iter
import HandS.RaiseMore
import HandS.OwnEq
import HandS.SetFor
import HandS.IterVal
import HandS.AnyAll
import PyProof.GenCompT
import PyProof.Draws
import HandS.Strs
import KE.KExcSuper
import KE.KExcInit
import HandS.ExcInit
import HandS.ExcField
import PyProof.ReprRoads
import HandS.ExcIs
import KE.GoesMore
import HandS.GenList
import PySem.Challenge.RW_arrowsizes_k18_errors_of_tables
set_option Elab.async false
set_option linter.all false
set_option maxRecDepth 100000
set_option maxHeartbeats 4000000
/-! Z1: values as data, a store of changing objects, what a piece of code does as a function of both; how such a function is a reading of the hand layer. -/
namespace Z
open PySem PySem.Spec PyProof.Rows L2

/-! ### data -/
inductive D where
  | non | bl (b : Bool) | int (i : Int) | str (s : Str) | tup (ds : List D) | ref (i : Nat) | st (k : Nat) | ty (n : String) | fls (ds : List D)

inductive O where
  | lst (ds : List D)
  | dK (kvs : List (Key × D))
  | dT (kvs : List (List Key × D))
  | ins (c : Nat) (fs : List (Str × D))
  | slt (c : Nat) (vs : List (Option D))

abbrev Store := List O
abbrev St := L2.St
abbrev En := List (Option D)

structure Exn where
  cls : Nat
  fs : Option (List (Str × D))

inductive Res (α : Type) where
  | ok (a : α) (S : Store)
  | er (x : Exn) (S : Store)
  | bad

def Res.bind {α β : Type} (r : Res α) (f : α → Store → Res β) : Res β :=
  match r with
  | .ok a S => f a S
  | .er x S => .er x S
  | .bad => .bad

@[simp] theorem Res.bind_ok {α β : Type} (a : α) (S : Store) (f : α → Store → Res β) : (Res.ok a S).bind f = f a S := rfl
@[simp] theorem Res.bind_er {α β : Type} (x : Exn) (S : Store) (f : α → Store → Res β) : (Res.er x S : Res α).bind f = .er x S := rfl
@[simp] theorem Res.bind_bad {α β : Type} (f : α → Store → Res β) : (Res.bad : Res α).bind f = .bad := rfl

abbrev DE := En → Store → Res D
abbrev DT := En → Store → Res Bool
abbrev DA := En → Store → Res (List D)
inductive Fl where
  | nx (e : En) | rt (d : D) | bk (e : En) | ct (e : En)
abbrev DS := En → Store → Res Fl
abbrev Fn := List D → Store → Res D

/-! ### the ground -/
structure Glo where
  P : Program
  w : World
  K : PySem.W.Frag
  mg : Str → Option Value
  base : Heap
  ad : Nat → Addr
  T : List (Addr × Str)

/-- a list that never changes -/
def FzL (K : PySem.W.Frag) (H : Hp) (a : Addr) (xs : List V) : Prop :=
  (∃ o, H a = some (.frz o (.lst xs))) ∨
    ∃ (o : Obj) (its : Array Value) (n : Nat), K.lookup a = some o ∧ o.cls = .type "list" ∧ o.dict = none ∧ o.data = .seq its n ∧ its.size ≤ sizeLine ∧ Vals xs its.toList
theorem FzL.sq {K : PySem.W.Frag} {H : Hp} {a : Addr} {xs : List V} (h : FzL K H a xs) : SqL K H a xs := by
  rcases h with ⟨o, h⟩ | h
  · exact .inl (.inr ⟨o, h⟩)
  · exact .inr h

mutual
def VRel (G : Glo) (φ : List Addr) (H : Hp) : D → V → Prop
  | .non, v => v = .non
  | .bl b, v => v = .bl b
  | .int i, v => v = .int i
  | .str s, v => v = .str s
  | .tup ds, v => ∃ a vs, v = .ref a ∧ SqT G.K H a vs ∧ VRels G φ H ds vs
  | .ref i, v => ∃ a, v = .ref a ∧ φ[i]? = some a
  | .st k, v => v = .ref (G.ad k)
  | .ty n, v => v = .ty n
  | .fls ds, v => ∃ a vs, v = .ref a ∧ FzL G.K H a vs ∧ VRels G φ H ds vs
def VRels (G : Glo) (φ : List Addr) (H : Hp) : List D → List V → Prop
  | [], vs => vs = []
  | d :: ds, vs => ∃ u us, vs = u :: us ∧ VRel G φ H d u ∧ VRels G φ H ds us
end

/-- what never goes -/
structure Grow (H H' : Hp) : Prop where
  tup : ∀ a xs, H a = some (.tup xs) → H' a = some (.tup xs)
  frz : ∀ a o u, H a = some (.frz o u) → H' a = some (.frz o u)
  xds : ∀ a fs, H a = some (.xd fs) → H' a = some (.xd fs)
  owns : ∀ a b, H a = some (.own b) → H' a = some (.own b) ∨ H' a = some (.xd [])
theorem Grow.refl (H : Hp) : Grow H H := ⟨fun _ _ h => h, fun _ _ _ h => h, fun _ _ h => h, fun _ _ h => .inl h⟩
theorem Grow.trans {H H1 H2 : Hp} (a : Grow H H1) (b : Grow H1 H2) : Grow H H2 := ⟨fun c xs h => b.tup c xs (a.tup c xs h), fun c o u h => b.frz c o u (a.frz c o u h), fun c fs h => b.xds c fs (a.xds c fs h), fun c d h => (a.owns c d h).elim (fun z => b.owns c d z) fun z => .inr (b.xds c _ z)⟩
theorem Grow.new {H : Hp} {p : Addr} {o : HO} (h : H p = none) : Grow H (upd H p o) :=
  ⟨fun a xs e => by rw [upd_ne (ne_of_none e h)]; exact e, fun a o u e => by rw [upd_ne (ne_of_none e h)]; exact e, fun a fs e => by rw [upd_ne (ne_of_none e h)]; exact e, fun a b e => .inl (by rw [upd_ne (ne_of_none e h)]; exact e)⟩
theorem Grow.mut {H : Hp} {p : Addr} {o o' : HO} (h : H p = some o) (m : Mut (some o)) : Grow H (upd H p o') :=
  ⟨fun a xs e => by rw [upd_ne (fun z => by subst z; rw [h] at e; cases e; exact m)]; exact e, fun a ob u e => by rw [upd_ne (fun z => by subst z; rw [h] at e; cases e; exact m)]; exact e,
    fun a fs e => by rw [upd_ne (fun z => by subst z; rw [h] at e; cases e; exact m)]; exact e, fun a b e => .inl (by rw [upd_ne (fun z => by subst z; rw [h] at e; cases e; exact m)]; exact e)⟩
theorem Grow.sqt {K : PySem.W.Frag} {H H' : Hp} (g : Grow H H') {a : Addr} {xs : List V} (h : SqT K H a xs) : SqT K H' a xs := by
  rcases h with (h | ⟨o, h⟩) | h
  · exact .inl (.inl (g.tup _ _ h))
  · exact .inl (.inr ⟨o, g.frz _ _ _ h⟩)
  · exact .inr h
theorem Grow.fzl {K : PySem.W.Frag} {H H' : Hp} (g : Grow H H') {a : Addr} {xs : List V} (h : FzL K H a xs) : FzL K H' a xs := by
  rcases h with ⟨o, h⟩ | h
  · exact .inl ⟨o, g.frz _ _ _ h⟩
  · exact .inr h

/-- no table of code objects; what stays as it is; neither a table nor one that a law tells -/
def NT : HO → Prop
  | .tbl _ => False
  | _ => True
def Stdy : HO → Prop
  | .tbl _ => False
  | .own _ => False
  | _ => True
theorem Stdy.nt {o : HO} (h : Stdy o) : NT o := by cases o <;> first | trivial | exact h
structure Nxt (φ φ' : List Addr) (H H' : Hp) : Prop where
  ext : ∃ ψ, φ' = φ ++ ψ ∧ ∀ q ∈ ψ, ∀ o, H q = some o → ¬ NT o
  grow : Grow H H'
  frame : ∀ b o, H b = some o → b ∉ φ → Stdy o → H' b = some o
  there : ∀ b o, H b = some o → NT o → ∃ o', H' b = some o' ∧ NT o'
theorem Nxt.refl (φ : List Addr) (H : Hp) : Nxt φ φ H H := ⟨⟨[], by simp, fun _ z => nomatch z⟩, Grow.refl H, fun _ _ h _ _ => h, fun _ o h n => ⟨o, h, n⟩⟩
theorem Nxt.trans {φ φ1 φ2 : List Addr} {H H1 H2 : Hp} (a : Nxt φ φ1 H H1) (b : Nxt φ1 φ2 H1 H2) : Nxt φ φ2 H H2 := by
  obtain ⟨ψ, e, f⟩ := a.ext
  obtain ⟨ψ', e', f'⟩ := b.ext
  refine ⟨⟨ψ ++ ψ', by rw [e', e, List.append_assoc], fun q hq o h nt => ?_⟩, a.grow.trans b.grow, fun c o h n st => ?_, fun c o h nt => ?_⟩
  · rcases List.mem_append.mp hq with z | z
    · exact f q z o h nt
    · obtain ⟨o', h', nt'⟩ := a.there q o h nt
      exact f' q z o' h' nt'
  · refine b.frame c o (a.frame c o h n st) (fun z => ?_) st
    rw [e] at z
    rcases List.mem_append.mp z with z | z
    · exact n z
    · exact f c z o h st.nt
  · obtain ⟨o', h', nt'⟩ := a.there c o h nt
    exact b.there c o' h' nt'
theorem Nxt.at_ {φ φ' : List Addr} {H H' : Hp} (n : Nxt φ φ' H H') {i : Nat} {a : Addr} (h : φ[i]? = some a) : φ'[i]? = some a := by
  obtain ⟨ψ, e, _⟩ := n.ext
  rw [e, List.getElem?_append_left (List.getElem?_eq_some_iff.mp h).1]
  exact h
/-- an address that is none of the store's stays none -/
theorem Nxt.notin {φ φ' : List Addr} {H H' : Hp} (n : Nxt φ φ' H H') {p : Addr} {o : HO} (h : H p = some o) (hp : p ∉ φ) (nt : NT o := by trivial) : p ∉ φ' := by
  obtain ⟨ψ, e, f⟩ := n.ext
  rw [e]
  intro z
  rcases List.mem_append.mp z with z | z
  · exact hp z
  · exact f p z o h nt
theorem there_upd {H : Hp} {p : Addr} {o : HO} (nt : NT o) : ∀ b u, H b = some u → NT u → ∃ u', upd H p o b = some u' ∧ NT u' := fun b u h n => by
  by_cases hb : b = p
  · exact ⟨o, by rw [hb, upd_same], nt⟩
  · exact ⟨u, by rw [upd_ne hb]; exact h, n⟩
/-- a new object of the store's; one that the store doesn't tell; one that is changed -/
theorem Nxt.new {φ : List Addr} {H : Hp} {p : Addr} {o : HO} (h : H p = none) (nt : NT o := by trivial) : Nxt φ (φ ++ [p]) H (upd H p o) :=
  ⟨⟨[p], rfl, fun q z o e => by rw [List.mem_singleton.mp z, h] at e; cases e⟩, Grow.new h, fun b u e _ _ => by rw [upd_ne (ne_of_none e h)]; exact e, there_upd nt⟩
theorem Nxt.mute {φ : List Addr} {H : Hp} {p : Addr} {o : HO} (h : H p = none) (nt : NT o := by trivial) : Nxt φ φ H (upd H p o) :=
  ⟨⟨[], by simp, fun _ z => nomatch z⟩, Grow.new h, fun b u e _ _ => by rw [upd_ne (ne_of_none e h)]; exact e, there_upd nt⟩
theorem Nxt.mut {φ : List Addr} {H : Hp} {p : Addr} {o o' : HO} (h : H p = some o) (m : Mut (some o)) (hp : p ∈ φ) (nt : NT o' := by trivial) : Nxt φ φ H (upd H p o') :=
  ⟨⟨[], by simp, fun _ z => nomatch z⟩, Grow.mut h m, fun b u e n _ => by rw [upd_ne (show b ≠ p from fun z => n (by rw [z]; exact hp))]; exact e, there_upd nt⟩

mutual
theorem VRel.up {G : Glo} {φ φ' : List Addr} {H H' : Hp} (f : ∀ (i : Nat) (a : Addr), φ[i]? = some a → φ'[i]? = some a) (g : Grow H H') : ∀ {d : D} {v : V}, VRel G φ H d v → VRel G φ' H' d v
  | .non, _, h => by simpa [VRel] using h
  | .bl _, _, h => by simpa [VRel] using h
  | .int _, _, h => by simpa [VRel] using h
  | .str _, _, h => by simpa [VRel] using h
  | .tup ds, _, h => by
    simp only [VRel] at h ⊢
    obtain ⟨a, vs, e, s, r⟩ := h
    exact ⟨a, vs, e, g.sqt s, VRels.up f g r⟩
  | .ref i, _, h => by
    simp only [VRel] at h ⊢
    obtain ⟨a, e, s⟩ := h
    exact ⟨a, e, f _ _ s⟩
  | .st _, _, h => by simpa [VRel] using h
  | .ty _, _, h => by simpa [VRel] using h
  | .fls ds, _, h => by
    simp only [VRel] at h ⊢
    obtain ⟨a, vs, e, s, r⟩ := h
    exact ⟨a, vs, e, g.fzl s, VRels.up f g r⟩
theorem VRels.up {G : Glo} {φ φ' : List Addr} {H H' : Hp} (f : ∀ (i : Nat) (a : Addr), φ[i]? = some a → φ'[i]? = some a) (g : Grow H H') : ∀ {ds : List D} {vs : List V}, VRels G φ H ds vs → VRels G φ' H' ds vs
  | [], _, h => by simpa [VRels] using h
  | d :: ds, _, h => by
    simp only [VRels] at h ⊢
    obtain ⟨u, us, e, r, rs⟩ := h
    exact ⟨u, us, e, VRel.up f g r, VRels.up f g rs⟩
end
theorem VRel.nxt {G : Glo} {φ φ' : List Addr} {H H' : Hp} (n : Nxt φ φ' H H') {d : D} {v : V} (h : VRel G φ H d v) : VRel G φ' H' d v := h.up (fun _ _ => n.at_) n.grow
theorem VRels.nxt {G : Glo} {φ φ' : List Addr} {H H' : Hp} (n : Nxt φ φ' H H') {ds : List D} {vs : List V} (h : VRels G φ H ds vs) : VRels G φ' H' ds vs := h.up (fun _ _ => n.at_) n.grow
section
variable {G : Glo} {φ φ' : List Addr} {H H' : Hp}
theorem VRels.length : ∀ {ds : List D} {vs : List V}, VRels G φ H ds vs → ds.length = vs.length
  | [], _, h => by simp only [VRels] at h; rw [h]; rfl
  | d :: ds, _, h => by
    simp only [VRels] at h
    obtain ⟨u, us, e, _, rs⟩ := h
    rw [e, List.length_cons, List.length_cons, VRels.length rs]
theorem VRels.get : ∀ {ds : List D} {vs : List V} {i : Nat} {d : D}, VRels G φ H ds vs → ds[i]? = some d → ∃ v, vs[i]? = some v ∧ VRel G φ H d v
  | [], _, _, _, _, e => by simp at e
  | d :: ds, _, 0, _, h, e => by
    simp only [VRels] at h
    obtain ⟨u, us, e', r, _⟩ := h
    simp at e
    subst e e'
    exact ⟨u, rfl, r⟩
  | d :: ds, _, i + 1, _, h, e => by
    simp only [VRels] at h
    obtain ⟨u, us, e', _, rs⟩ := h
    subst e'
    obtain ⟨v, q, r⟩ := VRels.get (i := i) rs (by simpa using e)
    exact ⟨v, by simpa using q, r⟩
theorem VRels.cons {d : D} {v : V} {ds : List D} {vs : List V} (r : VRel G φ H d v) (rs : VRels G φ H ds vs) : VRels G φ H (d :: ds) (v :: vs) := by
  simp only [VRels]; exact ⟨v, vs, rfl, r, rs⟩
theorem VRels.nil : VRels G φ H [] [] := by simp only [VRels]
theorem VRels.append : ∀ {ds es : List D} {vs us : List V}, VRels G φ H ds vs → VRels G φ H es us → VRels G φ H (ds ++ es) (vs ++ us)
  | [], _, _, _, h, q => by simp only [VRels] at h; rw [h]; exact q
  | d :: ds, _, _, _, h, q => by
    simp only [VRels] at h
    obtain ⟨u, us, e, r, rs⟩ := h
    rw [e]
    exact VRels.cons r (VRels.append rs q)
theorem VRels.take : ∀ {ds : List D} {vs : List V} (n : Nat), VRels G φ H ds vs → VRels G φ H (ds.take n) (vs.take n)
  | _, _, 0, _ => by simp [VRels]
  | [], _, _ + 1, h => by simp only [VRels] at h; rw [h]; simp [VRels]
  | d :: ds, _, n + 1, h => by
    simp only [VRels] at h
    obtain ⟨u, us, e, r, rs⟩ := h
    rw [e, List.take_succ_cons, List.take_succ_cons]
    exact VRels.cons r (VRels.take n rs)
theorem VRels.drop : ∀ {ds : List D} {vs : List V} (n : Nat), VRels G φ H ds vs → VRels G φ H (ds.drop n) (vs.drop n)
  | _, _, 0, h => h
  | [], _, _ + 1, h => by simp only [VRels] at h; rw [h]; simp [VRels]
  | d :: ds, _, n + 1, h => by
    simp only [VRels] at h
    obtain ⟨u, us, e, r, rs⟩ := h
    rw [e, List.drop_succ_cons, List.drop_succ_cons]
    exact VRels.drop n rs
theorem VRels.set : ∀ {ds : List D} {vs : List V} {d : D} {v : V} (n : Nat), VRels G φ H ds vs → VRel G φ H d v → VRels G φ H (ds.set n d) (vs.set n v)
  | [], _, _, _, _, h, _ => by simp only [VRels] at h; rw [h]; simp [VRels]
  | d :: ds, _, _, _, 0, h, q => by
    simp only [VRels] at h
    obtain ⟨u, us, e, r, rs⟩ := h
    rw [e]
    exact VRels.cons q rs
  | d :: ds, _, _, _, n + 1, h, q => by
    simp only [VRels] at h
    obtain ⟨u, us, e, r, rs⟩ := h
    rw [e, List.set_cons_succ, List.set_cons_succ]
    exact VRels.cons r (VRels.set n rs q)
theorem VRels.reverse {ds : List D} {vs : List V} (h : VRels G φ H ds vs) : VRels G φ H ds.reverse vs.reverse := by
  induction ds generalizing vs with
  | nil => simp only [VRels] at h; rw [h]; exact VRels.nil
  | cons d ds ih =>
    simp only [VRels] at h
    obtain ⟨u, us, e, r, rs⟩ := h
    rw [e, List.reverse_cons, List.reverse_cons]
    exact (ih rs).append (VRels.cons r VRels.nil)
end

def KRel {κ : Type} (G : Glo) (φ : List Addr) (H : Hp) : List (κ × D) → List (κ × V) → Prop
  | [], ks => ks = []
  | (k, d) :: r, ks => ∃ v ks', ks = (k, v) :: ks' ∧ VRel G φ H d v ∧ KRel G φ H r ks'
theorem KRel.up {κ : Type} {G : Glo} {φ φ' : List Addr} {H H' : Hp} (f : ∀ (i : Nat) (a : Addr), φ[i]? = some a → φ'[i]? = some a) (g : Grow H H') : ∀ {l : List (κ × D)} {m : List (κ × V)}, KRel G φ H l m → KRel G φ' H' l m
  | [], _, h => h
  | (k, d) :: r, _, h => by
    obtain ⟨v, ks, e, q, t⟩ := h
    exact ⟨v, ks, e, q.up f g, KRel.up f g t⟩
theorem KRel.nxt {κ : Type} {G : Glo} {φ φ' : List Addr} {H H' : Hp} (n : Nxt φ φ' H H') {l : List (κ × D)} {m : List (κ × V)} (h : KRel G φ H l m) : KRel G φ' H' l m := h.up (fun _ _ => n.at_) n.grow

/-- slots -/
def SRel (G : Glo) (φ : List Addr) (H : Hp) (vs : List (Option D)) (ws : List (Option V)) : Prop := ∀ (i : Nat) (d : D), vs[i]? = some (some d) → ∃ v, ws[i]? = some (some v) ∧ VRel G φ H d v
theorem SRel.up {G : Glo} {φ φ' : List Addr} {H H' : Hp} (f : ∀ (i : Nat) (a : Addr), φ[i]? = some a → φ'[i]? = some a) (g : Grow H H') {vs : List (Option D)} {ws : List (Option V)} (h : SRel G φ H vs ws) : SRel G φ' H' vs ws :=
  fun i d e => let ⟨v, q, r⟩ := h i d e; ⟨v, q, r.up f g⟩
theorem Slt.up {H H' : Hp} {a C dx : Addr} {ws : List (Option V)} (g : Grow H H') (e : H' a = H a) (h : SlX.Slt H a C dx ws) : SlX.Slt H' a C dx ws := by
  rcases h with ⟨h1, h2⟩ | ⟨h1, h2⟩
  · exact .inl ⟨e.trans h1, h2⟩
  · exact .inr ⟨e.trans h1, g.xds _ _ h2⟩
/-- the dict of an instance with slots -/
def DxOk (H : Hp) (a dx : Addr) : Prop := H dx = some (.own a) ∨ H dx = some (.xd [])
theorem DxOk.up {H H' : Hp} {a dx : Addr} (g : Grow H H') (h : DxOk H a dx) : DxOk H' a dx := h.elim (fun z => g.owns _ _ z) fun z => .inr (g.xds _ _ z)
theorem DxOk.ne {H : Hp} {a dx C : Addr} {ws : List (Option V)} (h : DxOk H a dx) (q : SlX.Slt H a C dx ws) : dx ≠ a := fun z => by
  subst z
  rcases q with ⟨q, _⟩ | ⟨q, _⟩ <;> rcases h with h | h <;> rw [h] at q <;> injection q with q <;> first | cases q | (unfold SlX.SlO at q; cases q)
def ORel (G : Glo) (φ : List Addr) (H : Hp) (a : Addr) : O → Prop
  | .lst ds => ∃ vs, H a = some (.lst vs) ∧ VRels G φ H ds vs
  | .dK kvs => ∃ kws, H a = some (.dK kws) ∧ KRel G φ H kvs kws
  | .dT kvs => ∃ kws, H a = some (.dT kws) ∧ KRel G φ H kvs kws
  | .ins c fs => ∃ dx gs, H a = some (.ins (G.ad c) dx gs) ∧ KRel G φ H fs gs
  | .slt c vs => ∃ dx ws, SlX.Slt H a (G.ad c) dx ws ∧ DxOk H a dx ∧ SRel G φ H vs ws

/-- neither a table nor a code object -/
def NX (p : Addr) : HO → Prop
  | .tbl _ => False
  | .ext f => ∀ q, HO.ext f ≠ LamX.CodeO p q
  | _ => True
theorem NX.nt {p : Addr} {o : HO} (h : NX p o) : NT o := by cases o <;> first | trivial | exact h
open LamX in
theorem tabs_upd {T : List (Addr × Str)} {H : Hp} {p : Addr} {u : HO} (t : Tabs T H) (h : ∀ o, H p = some o → NX p o) : Tabs T (upd H p u) := fun x hx => by
  obtain ⟨ps, h1, h2, h3⟩ := t x hx
  refine ⟨ps, ?_, h2, fun pos cv hc => ?_⟩
  · rw [upd_ne fun z => by rw [z] at h1; exact h _ h1]
    exact h1
  · obtain ⟨c, e1, e2⟩ := h3 pos cv hc
    refine ⟨c, e1, ?_⟩
    rw [upd_ne fun z => by subst z; exact h _ e2 _ rfl]
    exact e2
theorem slO_code {a C dx p : Addr} {vs : List (Option V)} {q : Str} : SlX.SlO a C dx vs ≠ LamX.CodeO p q := fun z => by
  unfold SlX.SlO LamX.CodeO at z
  injection z with z
  let o1 : Obj := { cls := .none, data := .fields #[.none, .str q 0] }
  let o2 : Obj := { cls := .none, data := .plain }
  by_cases hp : a = p
  · subst hp
    let h : Heap := { objs := Array.replicate (a + 1) o1, life := {} }
    have hg : h.get? a = some o1 := by
      show (match (Array.replicate (a + 1) o1)[a]? with
        | some ⟨_, _, .freed, _⟩ => none
        | o => o) = _
      rw [Array.getElem?_replicate, if_pos (Nat.lt_succ_self a)]
    have q2 : (∃ (oc : Obj) (vs : Array Value) (t : Tok), h.get? a = some oc ∧ oc.data = .fields vs ∧ vs[1]? = some (.str q t)) := ⟨o1, _, 0, hg, rfl, rfl⟩
    rw [← congrFun z h] at q2
    obtain ⟨sl, e, _⟩ := q2
    rw [hg] at e
    injection e with e
    injection e with _ _ e _
    cases e
  · let h : Heap := { objs := Array.replicate (p + a + 1) o1, life := {} }
    have hg : h.get? p = some o1 := by
      show (match (Array.replicate (p + a + 1) o1)[p]? with
        | some ⟨_, _, .freed, _⟩ => none
        | o => o) = _
      rw [Array.getElem?_replicate, if_pos (by omega)]
    have hga : h.get? a = some o1 := by
      show (match (Array.replicate (p + a + 1) o1)[a]? with
        | some ⟨_, _, .freed, _⟩ => none
        | o => o) = _
      rw [Array.getElem?_replicate, if_pos (by omega)]
    have q2 : (∃ (oc : Obj) (vs : Array Value) (t : Tok), h.get? p = some oc ∧ oc.data = .fields vs ∧ vs[1]? = some (.str q t)) := ⟨o1, _, 0, hg, rfl, rfl⟩
    rw [← congrFun z h] at q2
    obtain ⟨sl, e, _⟩ := q2
    rw [hga] at e
    injection e with e
    injection e with _ _ e _
    cases e
structure Rel (G : Glo) (φ : List Addr) (S : Store) (H : Hp) : Prop where
  len : φ.length = S.length
  nd : φ.Nodup
  at_ : ∀ (i : Nat) (a : Addr) (o : O), φ[i]? = some a → S[i]? = some o → ORel G φ H a o
  tabs : LamX.Tabs G.T H

theorem ORel.mut_ {G : Glo} {φ : List Addr} {H : Hp} {a : Addr} {o : O} (h : ORel G φ H a o) : ∃ u, H a = some u ∧ Mut (some u) ∧ NX a u := by
  cases o with
  | lst ds => obtain ⟨vs, e, _⟩ := h; exact ⟨_, e, trivial, trivial⟩
  | dK ds => obtain ⟨vs, e, _⟩ := h; exact ⟨_, e, trivial, trivial⟩
  | dT ds => obtain ⟨vs, e, _⟩ := h; exact ⟨_, e, trivial, trivial⟩
  | ins c fs => obtain ⟨dx, vs, e, _⟩ := h; exact ⟨_, e, trivial, trivial⟩
  | slt c vs =>
    obtain ⟨dx, ws, h, _, _⟩ := h
    rcases h with ⟨h1, _⟩ | ⟨h1, _⟩
    · exact ⟨_, h1, trivial, trivial⟩
    · exact ⟨_, h1, trivial, fun q => slO_code⟩
/-- what stands at a stays where a's own object does -/
theorem ORel.up {G : Glo} {φ φ' : List Addr} {H H' : Hp} {a : Addr} {o : O} (f : ∀ (i : Nat) (a : Addr), φ[i]? = some a → φ'[i]? = some a) (g : Grow H H') (e : H' a = H a) (h : ORel G φ H a o) : ORel G φ' H' a o := by
  cases o with
  | lst ds => obtain ⟨vs, q, r⟩ := h; exact ⟨vs, e.trans q, r.up f g⟩
  | dK ds => obtain ⟨vs, q, r⟩ := h; exact ⟨vs, e.trans q, r.up f g⟩
  | dT ds => obtain ⟨vs, q, r⟩ := h; exact ⟨vs, e.trans q, r.up f g⟩
  | ins c fs => obtain ⟨dx, vs, q, r⟩ := h; exact ⟨dx, vs, e.trans q, r.up f g⟩
  | slt c vs => obtain ⟨dx, ws, q, k, r⟩ := h; exact ⟨dx, ws, Slt.up g e q, k.up g, r.up f g⟩
theorem ORel.nxt {G : Glo} {φ φ' : List Addr} {H H' : Hp} {a : Addr} {o : O} (n : Nxt φ φ' H H') (e : H' a = H a) (h : ORel G φ H a o) : ORel G φ' H' a o := h.up (fun _ _ => n.at_) n.grow e
section
variable {G : Glo} {φ : List Addr} {S : Store} {H : Hp}
theorem Rel.get (R : Rel G φ S H) {i : Nat} {o : O} (h : S[i]? = some o) : ∃ a, φ[i]? = some a ∧ ORel G φ H a o := by
  have hi := (List.getElem?_eq_some_iff.mp h).1
  have hi' : i < φ.length := by rw [R.len]; exact hi
  exact ⟨φ[i], List.getElem?_eq_getElem hi', R.at_ i _ o (List.getElem?_eq_getElem hi') h⟩
theorem Rel.notmem (R : Rel G φ S H) {p : Addr} (h : H p = none) : p ∉ φ := fun hm => by
  obtain ⟨i, hi, e⟩ := List.mem_iff_getElem.mp hm
  have hi' : i < S.length := by rw [← R.len]; exact hi
  obtain ⟨u, q, _, _⟩ := (R.at_ i p S[i] (by rw [← e]; exact List.getElem?_eq_getElem hi) (List.getElem?_eq_getElem hi')).mut_
  rw [h] at q; cases q
/-- a new object -/
theorem Rel.push {o : O} {u : HO} (R : Rel G φ S H) {p : Addr} (h : H p = none) (n : ORel G (φ ++ [p]) (upd H p u) p o) : Rel G (φ ++ [p]) (S ++ [o]) (upd H p u) ∧ Nxt φ (φ ++ [p]) H (upd H p u) := by
  have nx : Nxt φ (φ ++ [p]) H (upd H p u) := Nxt.new h (by obtain ⟨w, e, _, z⟩ := n.mut_; rw [upd_same] at e; cases e; exact z.nt)
  refine ⟨⟨by simp [R.len], ?_, fun i a ob e1 e2 => ?_, tabs_upd R.tabs fun o e => by rw [h] at e; cases e⟩, nx⟩
  · rw [List.nodup_append]
    exact ⟨R.nd, by simp, fun a ha b hb => by
      have : b = p := by simpa using hb
      subst this
      exact fun z => R.notmem h (z ▸ ha)⟩
  · by_cases hi : i < φ.length
    · rw [List.getElem?_append_left hi] at e1
      rw [List.getElem?_append_left (by rw [← R.len]; exact hi)] at e2
      have q := R.at_ i a ob e1 e2
      refine q.nxt nx (upd_ne ?_)
      intro z
      subst z
      exact R.notmem h (List.mem_of_getElem? e1)
    · rw [List.getElem?_append_right (by omega)] at e1
      rw [List.getElem?_append_right (by have := R.len; omega)] at e2
      have h0 : i - φ.length = 0 := by
        have := (List.getElem?_eq_some_iff.mp e1).1
        simp at this
        omega
      rw [h0] at e1
      rw [← R.len, h0] at e2
      simp at e1 e2
      subst e1 e2
      exact n
/-- what the store doesn't tell changes -/
theorem Rel.mute (R : Rel G φ S H) {p : Addr} {u : HO} (h : p ∉ φ) (g : Grow H (upd H p u)) (hx : ∀ o, H p = some o → NX p o) : Rel G φ S (upd H p u) :=
  ⟨R.len, R.nd, fun i a o e1 e2 => (R.at_ i a o e1 e2).up (fun _ _ q => q) g (upd_ne fun z => h (z ▸ List.mem_of_getElem? e1)), tabs_upd R.tabs hx⟩
theorem nx_none {H : Hp} {p : Addr} (h : H p = none) : ∀ o, H p = some o → NX p o := fun o e => by rw [h] at e; cases e
theorem nx_some {H : Hp} {p : Addr} {u : HO} (h : H p = some u) (n : NX p u := by trivial) : ∀ o, H p = some o → NX p o := fun o e => by rw [h] at e; cases e; exact n
/-- an object that the store didn't tell is told from now on -/
theorem Rel.adopt {o : O} (R : Rel G φ S H) {p : Addr} (h : p ∉ φ) (n : ORel G (φ ++ [p]) H p o) : Rel G (φ ++ [p]) (S ++ [o]) H := by
  have f : ∀ (i : Nat) (a : Addr), φ[i]? = some a → (φ ++ [p])[i]? = some a := fun i a e => by rw [List.getElem?_append_left (List.getElem?_eq_some_iff.mp e).1]; exact e
  refine ⟨by simp [R.len], ?_, fun i a ob e1 e2 => ?_, R.tabs⟩
  · rw [List.nodup_append]
    exact ⟨R.nd, by simp, fun a ha b hb => by
      have : b = p := by simpa using hb
      subst this
      exact fun z => h (z ▸ ha)⟩
  · by_cases hi : i < φ.length
    · rw [List.getElem?_append_left hi] at e1
      rw [List.getElem?_append_left (by rw [← R.len]; exact hi)] at e2
      exact (R.at_ i a ob e1 e2).up f (Grow.refl H) rfl
    · rw [List.getElem?_append_right (by omega)] at e1
      rw [List.getElem?_append_right (by have := R.len; omega)] at e2
      have h0 : i - φ.length = 0 := by
        have := (List.getElem?_eq_some_iff.mp e1).1
        simp at this
        omega
      rw [h0] at e1
      rw [← R.len, h0] at e2
      simp at e1 e2
      subst e1 e2
      exact n
/-- an object is changed -/
theorem Rel.set {i : Nat} {a : Addr} {o o' : O} {u : HO} (R : Rel G φ S H) (h1 : φ[i]? = some a) (h2 : S[i]? = some o) (n : ORel G φ (upd H a u) a o') : Rel G φ (S.set i o') (upd H a u) ∧ Nxt φ φ H (upd H a u) := by
  obtain ⟨w, hw, mw, xw⟩ := (R.at_ i a o h1 h2).mut_
  have nx : Nxt φ φ H (upd H a u) := Nxt.mut hw mw (List.mem_of_getElem? h1) (by obtain ⟨w, e, _, z⟩ := n.mut_; rw [upd_same] at e; cases e; exact z.nt)
  refine ⟨⟨by simp [R.len], R.nd, fun j b ob e1 e2 => ?_, tabs_upd R.tabs (nx_some hw xw)⟩, nx⟩
  by_cases hj : j = i
  · subst hj
    rw [h1] at e1; cases e1
    have hl : j < S.length := (List.getElem?_eq_some_iff.mp h2).1
    rw [List.getElem?_set_self hl] at e2
    cases e2
    exact n
  · rw [List.getElem?_set_ne (Ne.symm hj)] at e2
    refine (R.at_ j b ob e1 e2).nxt nx (upd_ne ?_)
    intro z
    subst z
    exact hj ((List.getElem?_inj (List.getElem?_eq_some_iff.mp e1).1 R.nd).mp (e1.trans h1.symm))
end

/-- the slots -/
def ERel (G : Glo) (φ : List Addr) (H : Hp) (env : En) (σ : St) : Prop := env.length = σ.length ∧ ∀ (i : Nat) (d : D), env[i]? = some (some d) → ∃ v, σ[i]? = some (some v) ∧ VRel G φ H d v
theorem ERel.nxt {G : Glo} {φ φ' : List Addr} {H H' : Hp} {env : En} {σ : St} (n : Nxt φ φ' H H') (h : ERel G φ H env σ) : ERel G φ' H' env σ :=
  ⟨h.1, fun i d e => let ⟨v, q, r⟩ := h.2 i d e; ⟨v, q, r.nxt n⟩⟩
theorem ERel.up {G : Glo} {φ φ' : List Addr} {H H' : Hp} {env : En} {σ : St} (f : ∀ (i : Nat) (a : Addr), φ[i]? = some a → φ'[i]? = some a) (g : Grow H H') (h : ERel G φ H env σ) : ERel G φ' H' env σ :=
  ⟨h.1, fun i d e => let ⟨v, q, r⟩ := h.2 i d e; ⟨v, q, r.up f g⟩⟩
theorem ERel.set {G : Glo} {φ : List Addr} {H : Hp} {env : En} {σ : St} {i : Nat} {d : D} {v : V} (h : ERel G φ H env σ) (r : VRel G φ H d v) : ERel G φ H (env.set i (some d)) (σ.set i (some v)) := by
  refine ⟨by simp [h.1], fun j e q => ?_⟩
  by_cases hj : i = j
  · subst hj
    by_cases hi : i < env.length
    · rw [List.getElem?_set_self hi] at q
      cases q
      exact ⟨v, by rw [List.getElem?_set_self (by rw [← h.1]; exact hi)], r⟩
    · rw [List.getElem?_eq_none (by simpa using hi)] at q
      cases q
  · rw [List.getElem?_set_ne hj] at q ⊢
    exact h.2 j e q
theorem ERel.unset {G : Glo} {φ : List Addr} {H : Hp} {env : En} {σ : St} {i : Nat} {v : Option V} (h : ERel G φ H env σ) : ERel G φ H (env.set i none) (σ.set i v) := by
  refine ⟨by simp [h.1], fun j e q => ?_⟩
  by_cases hj : i = j
  · subst hj
    by_cases hi : i < env.length
    · rw [List.getElem?_set_self hi] at q
      cases q
    · rw [List.getElem?_eq_none (by simpa using hi)] at q
      cases q
  · rw [List.getElem?_set_ne hj] at q ⊢
    exact h.2 j e q

/-- an exception, its class, its own dict -/
def XRel (G : Glo) (φ : List Addr) (H : Hp) (x : Exn) (cls : Value) (dd : Option Addr) : Prop :=
  cls = .ref (G.ad x.cls) ∧ match x.fs with
    | none => dd = none
    | some fs => ∃ p gs, dd = some p ∧ H p = some (.xd gs) ∧ KRel G φ H fs gs

/-- what is wanted of an outcome -/
def Pst {α : Type} (G : Glo) (B : Value → Option Addr → Hp → Prop) (φ : List Addr) (H : Hp) (K : List Addr → Hp → Store → α → Prop) : Res α → Prop
  | .ok a S' => ∀ φ' H', Nxt φ φ' H H' → Rel G φ' S' H' → K φ' H' S' a
  | .er x S' => ∀ φ' H', Nxt φ φ' H H' → Rel G φ' S' H' → ∀ cls dd, XRel G φ' H' x cls dd → B cls dd H'
  | .bad => False
section
variable {α β : Type} {G : Glo} {B : Value → Option Addr → Hp → Prop} {φ φ1 : List Addr} {H H1 : Hp}
theorem Pst.bind {K : List Addr → Hp → Store → β → Prop} {r : Res α} {f : α → Store → Res β} (h : Pst G B φ H K (r.bind f)) : Pst G B φ H (fun φ1 H1 S1 a => Pst G B φ1 H1 K (f a S1)) r := by
  cases r with
  | ok a S =>
    intro φ1 H1 n1 R1
    have h' : Pst G B φ H K (f a S) := h
    show Pst G B φ1 H1 K (f a S)
    cases e : f a S with
    | ok b S2 => rw [e] at h'; exact fun φ2 H2 n2 R2 => h' φ2 H2 (n1.trans n2) R2
    | er x S2 => rw [e] at h'; exact fun φ2 H2 n2 R2 => h' φ2 H2 (n1.trans n2) R2
    | bad => rw [e] at h'; exact h'
  | er x S => exact h
  | bad => exact h
theorem Pst.imp {K K' : List Addr → Hp → Store → α → Prop} {r : Res α} (h : Pst G B φ H K r) (k : ∀ φ1 H1 S1 a, Nxt φ φ1 H H1 → Rel G φ1 S1 H1 → K φ1 H1 S1 a → K' φ1 H1 S1 a) : Pst G B φ H K' r := by
  cases r with
  | ok a S => exact fun φ1 H1 n1 R1 => k φ1 H1 S a n1 R1 (h φ1 H1 n1 R1)
  | er x S => exact h
  | bad => exact h
theorem Pst.nxt {K : List Addr → Hp → Store → α → Prop} {r : Res α} (h : Pst G B φ H K r) (n : Nxt φ φ1 H H1) : Pst G B φ1 H1 K r := by
  cases r with
  | ok a S => exact fun φ2 H2 n2 R2 => h φ2 H2 (n.trans n2) R2
  | er x S => exact fun φ2 H2 n2 R2 => h φ2 H2 (n.trans n2) R2
  | bad => exact h
theorem Pst.now {K : List Addr → Hp → Store → α → Prop} {a : α} {S : Store} (h : Pst G B φ H K (.ok a S)) (R : Rel G φ S H) : K φ H S a := h φ H (Nxt.refl φ H) R
end

/-! ### readings -/
def rdE (G : Glo) (W : WX) (d : DE) : TE := fun σ H Q => ∃ φ S env, Rel G φ S H ∧ ERel G φ H env σ ∧ Pst G (fun c p H' => W c p σ H') φ H (fun φ' H' _ x => ∀ v, VRel G φ' H' x v → Q v H') (d env S)
def rdT (G : Glo) (W : WX) (d : DT) : TT := fun σ H Q => ∃ φ S env, Rel G φ S H ∧ ERel G φ H env σ ∧ Pst G (fun c p H' => W c p σ H') φ H (fun _ H' _ b => Q b H') (d env S)
def rdA (G : Glo) (W : WX) (d : DA) : TA := fun σ H Q => ∃ φ S env, Rel G φ S H ∧ ERel G φ H env σ ∧ Pst G (fun c p H' => W c p σ H') φ H (fun φ' H' _ xs => ∀ vs, VRels G φ' H' xs vs → Q vs H') (d env S)
def FlP (G : Glo) (D : Ends) (φ : List Addr) (H : Hp) : Fl → Prop
  | .nx e => ∀ σ, ERel G φ H e σ → D.nx σ H
  | .rt d => ∀ v, VRel G φ H d v → D.rt v H
  | .bk e => ∀ σ, ERel G φ H e σ → D.bk σ H
  | .ct e => ∀ σ, ERel G φ H e σ → D.ct σ H
def rdS (G : Glo) (W : WX) (d : DS) : TS := fun D σ H => ∃ φ S env, Rel G φ S H ∧ ERel G φ H env σ ∧ Pst G (fun c p H' => ∀ σ', W c p σ' H') φ H (fun φ' H' _ f => FlP G D φ' H' f) (d env S)

/-- a place of code -/
structure Cp where
  G : Glo
  k : Nat
  N : List Str
  sc : Scope
  fn : Str → Bool
  cq : Option (Str × Addr)
  gd : Bool
structure Cxt (C : Cp) (W : WX) (X : Cx) : Prop where
  prog : X.prog = C.G.P
  w : X.w = C.G.w
  K : X.K = C.G.K
  mg : X.mg = C.G.mg
  base : X.base = C.G.base
  N : X.N = C.N
  sc : X.env.scope = C.sc
  fn : X.fn = C.fn
  room : Room C.k X.A
  calm : X.calm = true
  takes : Takes X W
  pass : PassesOwn (model X.prog X.w) X.A X.env X.xe
  cd : ∀ (q : Str) (c : Addr), C.cq = some (q, c) → X.env.qual = q ∧ X.env.code = .ref c
  gd : C.gd = true → X.A.guards = some []
  ind : ∀ (cls : Value) (d : Option Addr) (σ σ' : St) (H : Hp), W cls d σ H → W cls d σ' H

def PEx (C : Cp) (e : Expr) (d : DE) : Prop := ∀ X W, Cxt C W X → PE X e (rdE C.G W d)
def PTx (C : Cp) (e : Expr) (d : DT) : Prop := ∀ X W, Cxt C W X → PT X e (rdT C.G W d)
def PAx (C : Cp) (es : List Expr) (d : DA) : Prop := ∀ X W, Cxt C W X → PA X es (rdA C.G W d)
def PSx (C : Cp) (st : Stmt) (d : DS) : Prop := ∀ X W, Cxt C W X → PS X st (rdS C.G W d)
def PSsx (C : Cp) (st : List Stmt) (d : DS) : Prop := ∀ X W, Cxt C W X → PSs X st (rdS C.G W d)

theorem pe_imp {X : Cx} {e : Expr} {t t' : TE} (h : PE X e t) (k : ∀ σ H Q, t' σ H Q → t σ H Q) : PE X e t' := ⟨fun pins s σ H Q I q => h.run pins s σ H Q I (k σ H Q q)⟩
theorem pt_imp {X : Cx} {e : Expr} {t t' : TT} (h : PT X e t) (k : ∀ σ H Q, t' σ H Q → t σ H Q) : PT X e t' := ⟨fun pins s σ H Q I q => h.run pins s σ H Q I (k σ H Q q)⟩
theorem pa_imp {X : Cx} {es : List Expr} {t t' : TA} (h : PA X es t) (k : ∀ σ H Q, t' σ H Q → t σ H Q) : PA X es t' := ⟨fun pos pins s σ H Q I q => h.run pos pins s σ H Q I (k σ H Q q)⟩
theorem ps_imp {X : Cx} {st : Stmt} {t t' : TS} (h : PS X st t) (k : ∀ D σ H, t' D σ H → t D σ H) : PS X st t' := ⟨fun pins s σ H D I q => h.run pins s σ H D I (k D σ H q)⟩
theorem pss_imp {X : Cx} {st : List Stmt} {t t' : TS} (h : PSs X st t) (k : ∀ D σ H, t' D σ H → t D σ H) : PSs X st t' := ⟨fun pins s σ H D I q => h.run pins s σ H D I (k D σ H q)⟩

/-! ### names and constants -/
def dC (d : D) : DE := fun _ S => .ok d S
def dVar (i : Nat) : DE := fun env S => match env[i]? with
  | some (some d) => .ok d S
  | _ => .bad
def visB (sc : Scope) (x : Str) : Bool := match sc.names.lookup x with
  | some .local => true
  | some .cell => true
  | some .free => true
  | _ => false
theorem visB_ok {sc : Scope} {x : Str} (h : visB sc x = true) : Vis sc x := by
  unfold visB at h
  split at h
  · exact .inl (by assumption)
  · exact .inr (.inl (by assumption))
  · exact .inr (.inr (by assumption))
  · cases h
section
variable {C : Cp} {pos : Pos}
theorem pex_var (i : Nat) {x : Str} (hN : C.N[i]? = some x) (hv : visB C.sc x = true) (hd : (x == ("__debug__" : Str)) = false := by decide +kernel) (hcd : (x == ("__classdict__" : Str)) = false := by decide +kernel) : PEx C (.Name x pos) (dVar i) := by
  intro X W h
  refine pe_imp (pe_var (X := X) (i := i) (by rw [h.N]; exact hN) (by rw [h.sc]; exact visB_ok hv) hd hcd) fun σ H Q ⟨φ, S, env, R, E, P⟩ => ?_
  unfold dVar at P
  split at P
  · rename_i d e
    obtain ⟨v, q, r⟩ := E.2 i d e
    exact ⟨v, q, P.now R v r⟩
  · exact P.elim
theorem pex_c {d : D} {v : V} {e : Expr} (h : ∀ X, PE X e (tC v)) (r : ∀ φ H, VRel C.G φ H d v) : PEx C e (dC d) := by
  intro X W hx
  refine pe_imp (h X) fun σ H Q ⟨φ, S, env, R, E, P⟩ => ?_
  exact Pst.now P R v (r φ H)
theorem pex_int {i : Int} {j} : PEx C (.Constant (.int i) j pos) (dC (.int i)) := pex_c (fun _ => pe_int) fun _ _ => by simp only [VRel]
theorem pex_bl {b : Bool} {j} : PEx C (.Constant (.bool b) j pos) (dC (.bl b)) := pex_c (fun _ => pe_bl) fun _ _ => by simp only [VRel]
theorem pex_non {j} : PEx C (.Constant .none j pos) (dC .non) := pex_c (fun _ => pe_non) fun _ _ => by simp only [VRel]
theorem pex_str {x : Str} {j} : PEx C (.Constant (.str x) j pos) (dC (.str x)) := pex_c (fun _ => pe_str) fun _ _ => by simp only [VRel]
end
end Z

/-! Z2: operators, comparisons, truth, indices, slices. -/
namespace Z
open PySem PySem.Spec PyProof.Rows L2

/-! ### operations by values -/
abbrev Op2 := D → D → Store → Option (D × Store)
/-- what is wanted of a value -/
def PstV (G : Glo) (φ : List Addr) (H : Hp) (Q : VK) : Option (D × Store) → Prop
  | some (r, S') => ∀ φ' H', Nxt φ φ' H H' → Rel G φ' S' H' → ∀ v, VRel G φ' H' r v → Q v H'
  | none => False
def rdO (G : Glo) (op : Op2) : R2 := fun x y H Q => ∃ φ S d e, Rel G φ S H ∧ VRel G φ H d x ∧ VRel G φ H e y ∧ PstV G φ H Q (op d e S)
def OpRx (C : Cp) (f : Value → Value → Sem Value) (op : Op2) : Prop := ∀ X W, Cxt C W X → OpR X f (rdO C.G op)
abbrev Op1 := D → Store → Option (D × Store)
def rdU (G : Glo) (op : Op1) : V → Hp → VK → Prop := fun x H Q => ∃ φ S d, Rel G φ S H ∧ VRel G φ H d x ∧ PstV G φ H Q (op d S)
def UnRx (C : Cp) (f : Value → Sem Value) (op : Op1) : Prop := ∀ X W, Cxt C W X → UnR X f (rdU C.G op)

def ofO {α : Type} : Option (α × Store) → Res α
  | some (a, S) => .ok a S
  | none => .bad
@[simp] theorem ofO_some {α : Type} (a : α) (S : Store) : ofO (some (a, S)) = .ok a S := rfl
@[simp] theorem ofO_none {α : Type} : (ofO none : Res α) = .bad := rfl
theorem PstV.of {G : Glo} {B : Value → Option Addr → Hp → Prop} {φ : List Addr} {H : Hp} {Q : VK} {o : Option (D × Store)} (h : Pst G B φ H (fun φ' H' _ x => ∀ v, VRel G φ' H' x v → Q v H') (ofO o)) : PstV G φ H Q o := by
  cases o with
  | none => exact h
  | some p => obtain ⟨a, S⟩ := p; exact h
section
variable {G : Glo} {φ : List Addr} {H : Hp} {Q : VK}
theorem PstV.now {d : D} {S : Store} (h : PstV G φ H Q (some (d, S))) (R : Rel G φ S H) {v : V} (r : VRel G φ H d v) : Q v H := h φ H (Nxt.refl φ H) R v r
/-- a new list -/
theorem PstV.lst {ds : List D} {S : Store} (h : PstV G φ H Q (some (.ref S.length, S ++ [.lst ds]))) (R : Rel G φ S H) {vs : List V} (r : VRels G φ H ds vs) {p : Addr} (hp : H p = none) : Q (.ref p) (upd H p (.lst vs)) := by
  obtain ⟨R', n⟩ := R.push (o := .lst ds) (u := .lst vs) hp ⟨vs, upd_same, r.nxt (Nxt.new hp)⟩
  refine h _ _ n R' _ ?_
  simp only [VRel]
  exact ⟨p, rfl, by rw [← R.len]; simp⟩
/-- a new tuple -/
theorem PstV.tup {ds : List D} {S : Store} (h : PstV G φ H Q (some (.tup ds, S))) (R : Rel G φ S H) {vs : List V} (r : VRels G φ H ds vs) {p : Addr} (hp : H p = none) : Q (.ref p) (upd H p (.tup vs)) := by
  have n : Nxt φ φ H (upd H p (.tup vs)) := Nxt.mute hp
  refine h φ _ n (R.mute (R.notmem hp) n.grow (nx_none hp)) _ ?_
  simp only [VRel]
  exact ⟨p, vs, rfl, SqT.of upd_same, r.nxt n⟩
end
theorem sq_lst {G : Glo} {φ : List Addr} {S : Store} {H : Hp} (R : Rel G φ S H) {i : Nat} {ds : List D} {v : V} (h : VRel G φ H (.ref i) v) (e : S[i]? = some (.lst ds)) : ∃ a vs, v = .ref a ∧ H a = some (.lst vs) ∧ VRels G φ H ds vs ∧ φ[i]? = some a := by
  simp only [VRel] at h
  obtain ⟨a, ev, ha⟩ := h
  obtain ⟨vs, q, r⟩ := R.at_ i a _ ha e
  exact ⟨a, vs, ev, q, r, ha⟩

theorem OpRx.imp {C : Cp} {f : Value → Value → Sem Value} {op : Op2} (r : Cx → R2) (h : ∀ X W, Cxt C W X → OpR X f (r X)) (k : ∀ X W, Cxt C W X → ∀ φ S H d e x y Q, Rel C.G φ S H → VRel C.G φ H d x → VRel C.G φ H e y → PstV C.G φ H Q (op d e S) → r X x y H Q) : OpRx C f op :=
  fun X W hx pins s σ H x y v u Q I rx ry ⟨φ, S, d, e, R, r1, r2, P⟩ => h X W hx pins s σ H x y v u Q I rx ry (k X W hx φ S H d e x y Q R r1 r2 P)

/-- one operation, else another one -/
def orO (a b : Op2) : Op2 := fun d e S => match a d e S with
  | some r => some r
  | none => b d e S
theorem OpRx.or {C : Cp} {f : Value → Value → Sem Value} {a b : Op2} (ha : OpRx C f a) (hb : OpRx C f b) : OpRx C f (orO a b) :=
  fun X W hx pins s σ H x y v u Q I rx ry ⟨φ, S, d, e, R, r1, r2, P⟩ => by
    unfold orO at P
    cases q : a d e S with
    | some r =>
      rw [q] at P
      exact ha X W hx pins s σ H x y v u Q I rx ry ⟨φ, S, d, e, R, r1, r2, by rw [q]; exact P⟩
    | none =>
      rw [q] at P
      exact hb X W hx pins s σ H x y v u Q I rx ry ⟨φ, S, d, e, R, r1, r2, P⟩

/-! ### ints -/
def oInt (c : Int → Int → Bool) (g : Int → Int → D) : Op2 := fun d e S => match d, e with
  | .int i, .int j => if c i j then some (g i j, S) else none
  | _, _ => none
theorem oInt_some {c : Int → Int → Bool} {g : Int → Int → D} {G : Glo} {φ : List Addr} {H : Hp} {Q : VK} {d e : D} {S : Store} (h : PstV G φ H Q (oInt c g d e S)) : ∃ i j, d = .int i ∧ e = .int j ∧ c i j = true ∧ PstV G φ H Q (some (g i j, S)) := by
  unfold oInt at h
  split at h
  · rename_i i j
    split at h
    · exact ⟨i, j, rfl, rfl, by assumption, h⟩
    · exact h.elim
  · exact h.elim
theorem opx_int {C : Cp} {f : Value → Value → Sem Value} {c : Int → Int → Bool} {cp : Int → Int → Prop} {g : Int → Int → D} {gv : Int → Int → V} (h : ∀ X W, Cxt C W X → OpR X f (rI cp gv)) (hc : ∀ i j, c i j = true → cp i j) (hg : ∀ i j φ H, VRel C.G φ H (g i j) (gv i j)) : OpRx C f (oInt c g) :=
  OpRx.imp (fun _ => rI cp gv) h fun X W hx φ S H d e x y Q R r1 r2 P => by
    obtain ⟨i, j, rfl, rfl, hcij, P⟩ := oInt_some P
    simp only [VRel] at r1 r2
    exact ⟨i, j, r1, r2, hc i j hcij, P.now R (hg i j φ H)⟩
theorem opx_int0 {C : Cp} {f : Value → Value → Sem Value} {g : Int → Int → D} {gv : Int → Int → V} (h : ∀ X W, Cxt C W X → OpR X f (rI0 gv)) (hg : ∀ i j φ H, VRel C.G φ H (g i j) (gv i j)) : OpRx C f (oInt (fun _ _ => true) g) :=
  OpRx.imp (fun _ => rI0 gv) h fun X W hx φ S H d e x y Q R r1 r2 P => by
    obtain ⟨i, j, rfl, rfl, hcij, P⟩ := oInt_some P
    simp only [VRel] at r1 r2
    exact ⟨i, j, r1, r2, P.now R (hg i j φ H)⟩
def oAddI : Op2 := oInt (fun _ _ => true) fun i j => .int (i + j)
def oSubI : Op2 := oInt (fun _ _ => true) fun i j => .int (i - j)
def mulOk (i j : Int) : Bool := decide (i.natAbs.log2 + j.natAbs.log2 < 1000000)
def oMulI : Op2 := oInt mulOk fun i j => .int (i * j)
def divOk (_ j : Int) : Bool := decide (0 < j) && decide (j.natAbs.log2 < 9000)
def oDivI : Op2 := oInt divOk fun i j => .int (i / j)
def oModI : Op2 := oInt (fun _ j => decide (0 < j)) fun i j => .int (i % j)
def powOk (i j : Int) : Bool := decide (0 ≤ j) && (decide (j ≤ 1000000) && decide (i.natAbs < 2 ^ 64))
def oPowI : Op2 := oInt powOk fun i j => .int (i ^ j.toNat)
def oLtI : Op2 := oInt (fun _ _ => true) fun i j => .bl (decide (i < j))
def oLeI : Op2 := oInt (fun _ _ => true) fun i j => .bl (decide (i ≤ j))
def oGtI : Op2 := oInt (fun _ _ => true) fun i j => .bl (decide (j < i))
def oGeI : Op2 := oInt (fun _ _ => true) fun i j => .bl (decide (j ≤ i))
section
variable {C : Cp}
theorem opx_addI : OpRx C (binaryOp .Add) oAddI := opx_int0 (fun _ _ _ => op_add) fun _ _ _ _ => by simp only [VRel]
theorem opx_subI : OpRx C (binaryOp .Sub) oSubI := opx_int0 (fun _ _ _ => op_sub) fun _ _ _ _ => by simp only [VRel]
theorem opx_mulI : OpRx C (binaryOp .Mult) oMulI := opx_int (fun _ _ _ => op_mulW) (fun i j h => of_decide_eq_true (p := i.natAbs.log2 + j.natAbs.log2 < 1000000) h) fun _ _ _ _ => by simp only [VRel]
theorem opx_divI : OpRx C (binaryOp .FloorDiv) oDivI := opx_int (fun _ _ _ => op_fdivW) (fun i j h => by
  obtain ⟨a, b⟩ := Bool.and_eq_true_iff.mp h
  exact ⟨of_decide_eq_true a, of_decide_eq_true b⟩) fun _ _ _ _ => by simp only [VRel]
theorem opx_modI : OpRx C (binaryOp .Mod) oModI := opx_int (fun _ _ _ => op_mod) (fun i j h => of_decide_eq_true h) fun _ _ _ _ => by simp only [VRel]
theorem opx_powI : OpRx C (binaryOp .Pow) oPowI := opx_int (fun _ _ _ => op_pow) (fun i j h => by
  obtain ⟨a, b⟩ := Bool.and_eq_true_iff.mp h
  obtain ⟨b, c⟩ := Bool.and_eq_true_iff.mp b
  exact ⟨of_decide_eq_true a, of_decide_eq_true b, of_decide_eq_true c⟩) fun _ _ _ _ => by simp only [VRel]
theorem opx_ltI : OpRx C (compareOp .Lt) oLtI := opx_int0 (fun _ _ _ => op_lt) fun _ _ _ _ => by simp only [VRel]
theorem opx_leI : OpRx C (compareOp .LtE) oLeI := opx_int0 (fun _ _ _ => op_le) fun _ _ _ _ => by simp only [VRel]
theorem opx_gtI : OpRx C (compareOp .Gt) oGtI := opx_int0 (fun _ _ _ => op_gt) fun _ _ _ _ => by simp only [VRel]
theorem opx_geI : OpRx C (compareOp .GtE) oGeI := opx_int0 (fun _ _ _ => op_ge) fun _ _ _ _ => by simp only [VRel]
end

/-! ### texts, tuples, lists: + and * -/
def sl : Nat := 16777216
theorem sl_eq : sizeLine = sl := sizeLine_eq
def oAddS : Op2 := fun d e S => match d, e with
  | .str x, .str y => if x.length + y.length ≤ sl then some (.str (x ++ y), S) else none
  | _, _ => none
theorem opx_addS {C : Cp} : OpRx C (binaryOp .Add) oAddS := OpRx.imp (fun _ => _) (fun _ _ _ => op_add_str) fun X W hx φ S H d e x y Q R r1 r2 P => by
  unfold oAddS at P
  split at P
  · split at P
    · simp only [VRel] at r1 r2
      exact ⟨_, _, r1, r2, by rw [sl_eq]; assumption, P.now R (by simp only [VRel])⟩
    · exact P.elim
  · exact P.elim
def oAddT : Op2 := fun d e S => match d, e with
  | .tup xs, .tup ys => if xs.length + ys.length ≤ sl then some (.tup (xs ++ ys), S) else none
  | _, _ => none
theorem opx_addT {C : Cp} : OpRx C (binaryOp .Add) oAddT := OpRx.imp (fun X => rCatA X.K) (fun _ _ _ => op_catA) fun X W hx φ S H d e x y Q R r1 r2 P => by
  unfold oAddT at P
  split at P
  · rename_i ds es
    split at P
    · have r1' := r1
      have r2' := r2
      simp only [VRel] at r1 r2
      obtain ⟨a, xs, rfl, h1, q1⟩ := r1
      obtain ⟨b, ys, rfl, h2, q2⟩ := r2
      rw [hx.K]
      refine ⟨a, b, xs, ys, rfl, rfl, h1, h2, by rw [sl_eq, ← q1.length, ← q2.length]; assumption, fun e => ?_, fun _ e => ?_, fun _ _ p hp => P.tup R (q1.append q2) hp⟩
      · have : ds = [] := List.length_eq_zero_iff.mp (by rw [q1.length, e]; rfl)
        subst this
        exact P.now R (by simpa using r2')
      · have : es = [] := List.length_eq_zero_iff.mp (by rw [q2.length, e]; rfl)
        subst this
        exact P.now R (by simpa using r1')
    · exact P.elim
  · exact P.elim
def oAddL : Op2 := fun d e S => match d, e with
  | .ref i, .ref j => match S[i]?, S[j]? with
    | some (.lst xs), some (.lst ys) => if xs.length + ys.length ≤ sl then some (.ref S.length, S ++ [.lst (xs ++ ys)]) else none
    | _, _ => none
  | _, _ => none
theorem opx_addL {C : Cp} : OpRx C (binaryOp .Add) oAddL := OpRx.imp (fun _ => rCat) (fun _ _ _ => op_cat) fun X W hx φ S H d e x y Q R r1 r2 P => by
  unfold oAddL at P
  split at P
  · split at P
    · rename_i xs ys e1 e2
      split at P
      · obtain ⟨a, vs, rfl, h1, q1, _⟩ := sq_lst R r1 e1
        obtain ⟨b, us, rfl, h2, q2, _⟩ := sq_lst R r2 e2
        exact ⟨a, b, vs, us, rfl, rfl, h1, h2, by rw [sl_eq, ← q1.length, ← q2.length]; assumption, fun p hp => P.lst R (q1.append q2) hp⟩
      · exact P.elim
    · exact P.elim
  · exact P.elim
def oAdd : Op2 := orO oAddI (orO oAddL (orO oAddT oAddS))
theorem opx_add {C : Cp} : OpRx C (binaryOp .Add) oAdd := opx_addI.or (opx_addL.or (opx_addT.or opx_addS))

theorem VRels.replicate {G : Glo} {φ : List Addr} {H : Hp} {ds : List D} {vs : List V} (h : VRels G φ H ds vs) : ∀ n : Nat, VRels G φ H (List.replicate n ds).flatten (List.replicate n vs).flatten
  | 0 => by simp [VRels]
  | n + 1 => by
    rw [List.replicate_succ, List.replicate_succ, List.flatten_cons, List.flatten_cons]
    exact h.append (VRels.replicate h n)
def oMulL : Op2 := fun d e S => match d, e with
  | .ref i, .int k => match S[i]? with
    | some (.lst xs) => if -(2 ^ 63) ≤ k ∧ k < 2 ^ 63 ∧ xs.length * k.toNat ≤ sl then some (.ref S.length, S ++ [.lst (List.replicate k.toNat xs).flatten]) else none
    | _ => none
  | _, _ => none
theorem opx_mulL {C : Cp} : OpRx C (binaryOp .Mult) oMulL := OpRx.imp (fun _ => rRep) (fun _ _ _ => op_rep) fun X W hx φ S H d e x y Q R r1 r2 P => by
  unfold oMulL at P
  split at P
  · split at P
    · rename_i xs e1
      split at P
      · rename_i hb
        obtain ⟨a, vs, rfl, h1, q1, _⟩ := sq_lst R r1 e1
        simp only [VRel] at r2
        subst r2
        exact ⟨a, _, vs, rfl, rfl, h1, hb.1, hb.2.1, by rw [sl_eq, ← q1.length]; exact hb.2.2, fun p hp => P.lst R (q1.replicate _) hp⟩
      · exact P.elim
    · exact P.elim
  · exact P.elim
def oMul : Op2 := orO oMulI oMulL
theorem opx_mul {C : Cp} : OpRx C (binaryOp .Mult) oMul := opx_mulI.or opx_mulL

/-! ### data without the store: equality -/
def seqO {α : Type} : List (Option α) → Option (List α)
  | [] => some []
  | o :: os => match o with
    | some a => (seqO os).map (a :: ·)
    | none => none
def toPy (S : Store) : Nat → D → Option PyData
  | _, .non => some .none
  | _, .bl b => some (.bool b)
  | _, .int i => some (.int i)
  | _, .str x => if PyData.strOk x then some (.str x) else none
  | k + 1, .tup ds => (seqO (ds.map (toPy S k))).map .tuple
  | k + 1, .fls ds => (seqO (ds.map (toPy S k))).map .list
  | k + 1, .ref i => match S[i]? with
    | some (.lst ds) => (seqO (ds.map (toPy S k))).map .list
    | _ => none
  | _, _ => none
theorem seqO_cons {α : Type} {o : Option α} {os : List (Option α)} {l : List α} (h : seqO (o :: os) = some l) : ∃ a r, o = some a ∧ seqO os = some r ∧ l = a :: r := by
  unfold seqO at h
  split at h
  · rename_i a
    cases e : seqO os with
    | none => rw [e] at h; cases h
    | some r => rw [e] at h; exact ⟨a, r, rfl, rfl, (Option.some.inj h).symm⟩
  · cases h
theorem sq_any {G : Glo} {φ : List Addr} {S : Store} {H : Hp} (R : Rel G φ S H) {d : D} {v : V} (h : VRel G φ H d v) : ∀ {k : Nat} {p : PyData}, toPy S k d = some p → Dp G.K H v p ∧ p.depth ≤ k ∧ p.canLay0 = true := by
  intro k
  induction k generalizing d v with
  | zero =>
    intro p e
    cases d with
    | non => simp only [VRel] at h; subst h; cases e; exact ⟨.non, Nat.le_refl _, rfl⟩
    | bl b => simp only [VRel] at h; subst h; cases e; exact ⟨.bl b, Nat.le_refl _, rfl⟩
    | int i => simp only [VRel] at h; subst h; cases e; exact ⟨.int i, Nat.le_refl _, rfl⟩
    | str x =>
      simp only [VRel] at h; subst h
      simp only [toPy] at e
      split at e
      · cases e; exact ⟨.str x, Nat.le_refl _, by assumption⟩
      · cases e
    | tup ds => cases e
    | ref i => cases e
    | st i => cases e
    | ty n => cases e
    | fls ds => cases e
  | succ k ih =>
    intro p e
    have all : ∀ {ds : List D} {vs : List V} {ps : List PyData}, VRels G φ H ds vs → seqO (ds.map (toPy S k)) = some ps → DpAll G.K H vs ps ∧ PyData.depthAll ps ≤ k ∧ PyData.canLayAll0 ps = true := by
      intro ds
      induction ds with
      | nil =>
        intro vs ps r q
        simp only [VRels] at r
        subst r
        cases q
        exact ⟨.nil, Nat.zero_le _, rfl⟩
      | cons d ds ihd =>
        intro vs ps r q
        simp only [VRels] at r
        obtain ⟨u, us, rfl, ru, rs⟩ := r
        obtain ⟨a, r', e1, e2, rfl⟩ := seqO_cons (by simpa using q)
        obtain ⟨x1, x2, x3⟩ := ih ru e1
        obtain ⟨y1, y2, y3⟩ := ihd rs e2
        exact ⟨.cons x1 y1, by simp only [PyData.depthAll]; omega, by simp only [PyData.canLayAll0, x3, y3, Bool.and_self]⟩
    cases d with
    | non => simp only [VRel] at h; subst h; cases e; exact ⟨.non, Nat.zero_le _, rfl⟩
    | bl b => simp only [VRel] at h; subst h; cases e; exact ⟨.bl b, Nat.zero_le _, rfl⟩
    | int i => simp only [VRel] at h; subst h; cases e; exact ⟨.int i, Nat.zero_le _, rfl⟩
    | str x =>
      simp only [VRel] at h; subst h
      simp only [toPy] at e
      split at e
      · cases e; exact ⟨.str x, Nat.zero_le _, by assumption⟩
      · cases e
    | tup ds =>
      simp only [VRel] at h
      obtain ⟨a, vs, rfl, s, r⟩ := h
      simp only [toPy, Option.map_eq_some_iff] at e
      obtain ⟨ps, e, rfl⟩ := e
      obtain ⟨x1, x2, x3⟩ := all r e
      exact ⟨.tup s x1, by simp only [PyData.depth]; omega, by simpa only [PyData.canLay0] using x3⟩
    | ref i =>
      simp only [toPy] at e
      split at e
      · rename_i ds es
        obtain ⟨a, vs, rfl, q, r, _⟩ := sq_lst R h es
        simp only [Option.map_eq_some_iff] at e
        obtain ⟨ps, e, rfl⟩ := e
        obtain ⟨x1, x2, x3⟩ := all r e
        exact ⟨.lst (SqL.of q) x1, by simp only [PyData.depth]; omega, by simpa only [PyData.canLay0] using x3⟩
      · cases e
    | st i => cases e
    | ty n => cases e
    | fls ds =>
      simp only [VRel] at h
      obtain ⟨a, vs, rfl, s, r⟩ := h
      simp only [toPy, Option.map_eq_some_iff] at e
      obtain ⟨ps, e, rfl⟩ := e
      obtain ⟨x1, x2, x3⟩ := all r e
      exact ⟨.lst s.sq x1, by simp only [PyData.depth]; omega, by simpa only [PyData.canLay0] using x3⟩
theorem shaped_of {p : PyData} {k : Nat} (h : k ≤ 64) (h1 : p.depth ≤ k) (h2 : p.canLay0 = true) : SeqAt.shaped p = true := by
  unfold SeqAt.shaped
  rw [h2, decide_eq_true (Nat.le_trans h1 h)]
  rfl
def eqD (S : Store) (d e : D) : Option Bool := match toPy S 60 d, toPy S 60 e with
  | some p, some q => some (PyData.eqv p q)
  | _, _ => none
theorem eqD_some {S : Store} {d e : D} {b : Bool} (h : eqD S d e = some b) : ∃ p q, toPy S 60 d = some p ∧ toPy S 60 e = some q ∧ b = PyData.eqv p q := by
  unfold eqD at h
  split at h
  · rename_i p q e1 e2
    exact ⟨p, q, e1, e2, (Option.some.inj h).symm⟩
  · cases h
def oEq : Op2 := fun d e S => (eqD S d e).map fun b => (.bl b, S)
def oNe : Op2 := fun d e S => (eqD S d e).map fun b => (.bl (!b), S)
theorem opx_eq {C : Cp} : OpRx C (compareOp .Eq) oEq := OpRx.imp (fun X => rEqD X.K) (fun X W hx => op_eqD hx.room.units) fun X W hx φ S H d e x y Q R r1 r2 P => by
  unfold oEq at P
  cases q : eqD S d e with
  | none => rw [q] at P; exact P.elim
  | some b =>
    rw [q] at P
    obtain ⟨p, p', e1, e2, rfl⟩ := eqD_some q
    obtain ⟨x1, x2, x3⟩ := sq_any R r1 e1
    obtain ⟨y1, y2, y3⟩ := sq_any R r2 e2
    rw [hx.K]
    exact ⟨p, p', x1, y1, shaped_of (by decide) x2 x3, shaped_of (by decide) y2 y3, P.now R (by simp only [VRel])⟩
theorem opx_ne {C : Cp} : OpRx C (compareOp .NotEq) oNe := OpRx.imp (fun X => rNeD X.K) (fun X W hx => op_neD hx.room.units) fun X W hx φ S H d e x y Q R r1 r2 P => by
  unfold oNe at P
  cases q : eqD S d e with
  | none => rw [q] at P; exact P.elim
  | some b =>
    rw [q] at P
    obtain ⟨p, p', e1, e2, rfl⟩ := eqD_some q
    obtain ⟨x1, x2, x3⟩ := sq_any R r1 e1
    obtain ⟨y1, y2, y3⟩ := sq_any R r2 e2
    rw [hx.K]
    exact ⟨p, p', x1, y1, shaped_of (by decide) x2 x3, shaped_of (by decide) y2 y3, P.now R (by simp only [VRel])⟩
end Z

/-! Z3: expressions, tests, arguments, targets, statements, loops, calls. -/
namespace Z
open PySem PySem.Spec PyProof.Rows L2

/-! ### operators in expressions -/
def dBin (op : Op2) (a b : DE) : DE := fun env S => (a env S).bind fun x S1 => (b env S1).bind fun y S2 => ofO (op x y S2)
def dUn (op : Op1) (a : DE) : DE := fun env S => (a env S).bind fun x S1 => ofO (op x S1)
section
variable {C : Cp} {a b c : Expr} {da db dc : DE} {pos : Pos}
theorem rd_bin {G : Glo} {W : WX} {op : Op2} {σ : St} {H : Hp} {Q : VK} (h : rdE G W (dBin op da db) σ H Q) : tOp (rdO G op) (rdE G W da) (rdE G W db) σ H Q := by
  obtain ⟨φ, S, env, R, E, P⟩ := h
  refine ⟨φ, S, env, R, E, P.bind.imp fun φ1 H1 S1 x n1 R1 P1 v1 r1 => ?_⟩
  refine ⟨φ1, S1, env, R1, E.nxt n1, P1.bind.imp fun φ2 H2 S2 y n2 R2 P2 v2 r2 => ?_⟩
  exact ⟨φ2, S2, x, y, R2, r1.nxt n2, r2, PstV.of P2⟩
theorem pex_op {o : Operator} {op : Op2} (ho : OpRx C (binaryOp o) op) (ha : PEx C a da) (hb : PEx C b db) : PEx C (.BinOp a o b pos) (dBin op da db) :=
  fun X W h => pe_imp (pe_op (ho X W h) (ha X W h) (hb X W h)) fun _ _ _ => rd_bin
theorem pex_cmp {o : CmpOp} {op : Op2} (ho : OpRx C (compareOp o) op) (ha : PEx C a da) (hb : PEx C b db) (hm : behindInMarks o b = false) : PEx C (.Compare a [o] [b] pos) (dBin op da db) :=
  fun X W h => pe_imp (pe_cmpR (ho X W h) (ha X W h) (hb X W h) hm) fun _ _ _ => rd_bin
theorem pex_un {o : UnaryOp} {op : Op1} (ho : UnRx C (unaryOp o) op) (ha : PEx C a da) : PEx C (.UnaryOp o a pos) (dUn op da) := fun X W h => by
  refine pe_imp (pe_un (ho X W h) (ha X W h)) fun σ H Q ⟨φ, S, env, R, E, P⟩ => ?_
  exact ⟨φ, S, env, R, E, P.bind.imp fun φ1 H1 S1 x n1 R1 P1 v1 r1 => ⟨φ1, S1, x, R1, r1, PstV.of P1⟩⟩
def oNeg : Op1 := fun d S => match d with
  | .int i => some (.int (-i), S)
  | _ => none
theorem unx_neg : UnRx C (unaryOp .USub) oNeg := fun X W hx pins s σ H x v Q I r ⟨φ, S, d, R, r1, P⟩ => by
  refine un_neg pins s σ H x v Q I r ?_
  unfold oNeg at P
  split at P
  · simp only [VRel] at r1
    exact ⟨_, r1, P.now R (by simp only [VRel])⟩
  · exact P.elim
def dChain (op op' : Op2) (a b c : DE) : DE := fun env S => (a env S).bind fun x S1 => (b env S1).bind fun y S2 => (ofO (op x y S2)).bind fun z S3 => match z with
  | .bl true => (c env S3).bind fun w S4 => ofO (op' y w S4)
  | .bl false => .ok (.bl false) S3
  | _ => .bad
theorem rd_chain {G : Glo} {W : WX} {op op' : Op2} {σ : St} {H : Hp} {Q : VK} (h : rdE G W (dChain op op' da db dc) σ H Q) : tChain (rdO G op) (rdO G op') (rdE G W da) (rdE G W db) (rdE G W dc) σ H Q := by
  obtain ⟨φ, S, env, R, E, P⟩ := h
  refine ⟨φ, S, env, R, E, P.bind.imp fun φ1 H1 S1 x n1 R1 P1 v1 r1 => ?_⟩
  refine ⟨φ1, S1, env, R1, E.nxt n1, P1.bind.imp fun φ2 H2 S2 y n2 R2 P2 v2 r2 => ?_⟩
  refine ⟨φ2, S2, x, y, R2, r1.nxt n2, r2, ?_⟩
  cases q : op x y S2 with
  | none => rw [q] at P2; exact P2
  | some p =>
    obtain ⟨z, S3⟩ := p
    rw [q] at P2
    intro φ3 H3 n3 R3 v3 r3
    have P3 := P2.bind φ3 H3 n3 R3
    cases z with
    | bl k =>
      simp only [VRel] at r3
      refine ⟨k, r3, ?_⟩
      cases k with
      | true =>
        refine iteT ?_
        refine ⟨φ3, S3, env, R3, E.nxt ((n1.trans n2).trans n3), Pst.bind (f := fun w S4 => ofO (op' y w S4)) P3 |>.imp fun φ4 H4 S4 w n4 R4 P4 v4 r4 => ?_⟩
        exact ⟨φ4, S4, y, w, R4, (r2.nxt n3).nxt n4, r4, PstV.of P4⟩
      | false => exact iteF (Pst.now P3 R3 _ (by simp only [VRel]))
    | _ => exact P3.elim
theorem pex_chain {o o' : CmpOp} {op op' : Op2} (ho : OpRx C (compareOp o) op) (ho' : OpRx C (compareOp o') op') (ha : PEx C a da) (hb : PEx C b db) (hc : PEx C c dc) (hm : lastMarks [o, o'] [b, c] = false) : PEx C (.Compare a [o, o'] [b, c] pos) (dChain op op' da db dc) :=
  fun X W h => pe_imp (pe_chain (ho X W h) (ho' X W h) (ha X W h) (hb X W h) (hc X W h) hm) fun _ _ _ => rd_chain
end

/-! ### truth, tests -/
def truD : D → Store → Option Bool
  | .non, _ => some false
  | .bl b, _ => some b
  | .int i, _ => some (i != 0)
  | .str x, _ => if x.length ≤ sl then some ((x.length : Int) != 0) else none
  | .tup ds, _ => some (!ds.isEmpty)
  | .fls ds, _ => some (!ds.isEmpty)
  | .ref i, S => match S[i]? with
    | some (.lst ds) => some (!ds.isEmpty)
    | some (.dK kvs) => some (!kvs.isEmpty)
    | _ => none
  | _, _ => none
theorem isEmpty_rel {G : Glo} {φ : List Addr} {H : Hp} {ds : List D} {vs : List V} (h : VRels G φ H ds vs) : ds.isEmpty = vs.isEmpty := by
  have := h.length
  cases ds <;> cases vs <;> first | rfl | simp at this
theorem kisEmpty_rel {κ : Type} {G : Glo} {φ : List Addr} {H : Hp} {ds : List (κ × D)} {vs : List (κ × V)} (h : KRel G φ H ds vs) : ds.isEmpty = vs.isEmpty := by
  cases ds with
  | nil => simp only [KRel] at h; subst h; rfl
  | cons p r => obtain ⟨k, d⟩ := p; obtain ⟨v, ks, e, _⟩ := h; rw [e]; rfl
theorem truD_ok {G : Glo} {φ : List Addr} {S : Store} {H : Hp} (R : Rel G φ S H) {d : D} {v : V} (r : VRel G φ H d v) {b : Bool} (h : truD d S = some b) : TruV G.K v H b := by
  cases d with
  | non => simp only [VRel] at r; subst r; cases h; rfl
  | bl b => simp only [VRel] at r; subst r; cases h; rfl
  | int i => simp only [VRel] at r; subst r; cases h; rfl
  | str x =>
    simp only [VRel] at r; subst r
    simp only [truD] at h
    split at h
    · cases h; exact ⟨by rw [sl_eq]; assumption, rfl⟩
    · cases h
  | tup ds =>
    simp only [VRel] at r
    obtain ⟨a, vs, rfl, s, q⟩ := r
    cases h
    exact .inr (.inl ⟨vs, s, by rw [isEmpty_rel q]⟩)
  | fls ds =>
    simp only [VRel] at r
    obtain ⟨a, vs, rfl, s, q⟩ := r
    cases h
    exact .inl ⟨vs, s.sq, by rw [isEmpty_rel q]⟩
  | ref i =>
    simp only [truD] at h
    simp only [VRel] at r
    obtain ⟨a, rfl, ha⟩ := r
    split at h
    · rename_i ds e
      obtain ⟨vs, q, rs⟩ := R.at_ i a _ ha e
      cases h
      exact .inl ⟨vs, SqL.of q, by rw [isEmpty_rel rs]⟩
    · rename_i ds e
      obtain ⟨vs, q, rs⟩ := R.at_ i a _ ha e
      cases h
      exact .inr (.inr ⟨vs, q, by rw [kisEmpty_rel rs]⟩)
    · cases h
  | st k => cases h
  | ty n => cases h
def ofB (o : Option Bool) (S : Store) : Res Bool := match o with
  | some b => .ok b S
  | none => .bad
@[simp] theorem ofB_some (b : Bool) (S : Store) : ofB (some b) S = .ok b S := rfl
def dTst (a : DE) : DT := fun env S => (a env S).bind fun x S1 => ofB (truD x S1) S1
def tAnd2 (a b : DT) : DT := fun env S => (a env S).bind fun c S1 => if c = true then b env S1 else .ok false S1
def tOr2 (a b : DT) : DT := fun env S => (a env S).bind fun c S1 => if c = true then .ok true S1 else b env S1
def tNot1 (a : DT) : DT := fun env S => (a env S).bind fun c S1 => .ok (!c) S1
def PWx (C : Cp) (e : Expr) (d : DT) : Prop := ∀ X W, Cxt C W X → PW X e (rdT C.G W d)
section
variable {C : Cp} {a b c : Expr} {rest : List Expr} {da db dc : DE} {ta tb : DT} {pos : Pos}
theorem pw_imp {X : Cx} {e : Expr} {t t' : TT} (h : PW X e t) (k : ∀ σ H Q, t' σ H Q → t σ H Q) : PW X e t' := ⟨fun wh pins s σ H Q I q => h.run wh pins s σ H Q I (k σ H Q q)⟩
/-- the value's truth, whatever the expression -/
theorem rd_tst {G : Glo} {W : WX} {σ : St} {H : Hp} {Q : Bool → Hp → Prop} (h : rdT G W (dTst da) σ H Q) : rdE G W da σ H fun x H' => ∃ k, TruV G.K x H' k ∧ Q k H' := by
  obtain ⟨φ, S, env, R, E, P⟩ := h
  refine ⟨φ, S, env, R, E, P.bind.imp fun φ1 H1 S1 x n1 R1 P1 v1 r1 => ?_⟩
  cases q : truD x S1 with
  | none => rw [q] at P1; exact P1.elim
  | some k => rw [q] at P1; exact ⟨k, truD_ok R1 r1 q, Pst.now P1 R1⟩
theorem ptx_truth (ha : PEx C a da) (he : ∀ env whole, isTrue a env whole = (do let v ← whole; standAt a.pos; holding [v] (truthy v)) := by intro _ _; rfl) : PTx C a (dTst da) := fun X W h => by
  refine pt_imp (pt_truth (ha X W h) (he X.env)) fun σ H Q q => ?_
  rw [h.K]
  exact rd_tst q
end
def dTstB (a : DE) : DT := fun env S => (a env S).bind fun x S1 => match x with
  | .bl k => .ok k S1
  | _ => .bad
section
variable {C : Cp} {a b c : Expr} {rest : List Expr} {da db dc : DE} {ta tb : DT} {pos : Pos}
theorem rd_tstB {G : Glo} {W : WX} {σ : St} {H : Hp} {Q : Bool → Hp → Prop} (h : rdT G W (dTstB da) σ H Q) : rdE G W da σ H fun x H' => ∃ k, x = .bl k ∧ Q k H' := by
  obtain ⟨φ, S, env, R, E, P⟩ := h
  refine ⟨φ, S, env, R, E, P.bind.imp fun φ1 H1 S1 x n1 R1 P1 v1 r1 => ?_⟩
  cases x with
  | bl k => simp only [VRel] at r1; exact ⟨k, r1, Pst.now P1 R1⟩
  | _ => exact P1.elim
theorem ptx_cmp {o : CmpOp} {op : Op2} (ho : OpRx C (compareOp o) op) (ha : PEx C a da) (hb : PEx C b db) (hm : behindInMarks o b = false) : PTx C (.Compare a [o] [b] pos) (dTstB (dBin op da db)) := fun X W h =>
  pt_imp (pt_cmpR (ho X W h) (ha X W h) (hb X W h) hm) fun σ H Q q => rd_bin (rd_tstB q)
theorem ptx_chain {o o' : CmpOp} {op op' : Op2} (ho : OpRx C (compareOp o) op) (ho' : OpRx C (compareOp o') op') (ha : PEx C a da) (hb : PEx C b db) (hc : PEx C c dc) (hm : lastMarks [o, o'] [b, c] = false) : PTx C (.Compare a [o, o'] [b, c] pos) (dTstB (dChain op op' da db dc)) := fun X W h =>
  pt_imp (pt_chain (ho X W h) (ho' X W h) (ha X W h) (hb X W h) (hc X W h) hm) fun σ H Q q => rd_chain (rd_tstB q)
theorem rd_and {G : Glo} {W : WX} {σ : St} {H : Hp} {Q : Bool → Hp → Prop} (h : rdT G W (tAnd2 ta tb) σ H Q) : L2.tAnd (rdT G W ta) (rdT G W tb) σ H Q := by
  obtain ⟨φ, S, env, R, E, P⟩ := h
  refine ⟨φ, S, env, R, E, P.bind.imp fun φ1 H1 S1 k n1 R1 P1 => ?_⟩
  cases k with
  | true => exact iteT ⟨φ1, S1, env, R1, E.nxt n1, P1⟩
  | false => exact iteF (Pst.now P1 R1)
theorem rd_or {G : Glo} {W : WX} {σ : St} {H : Hp} {Q : Bool → Hp → Prop} (h : rdT G W (tOr2 ta tb) σ H Q) : L2.tOr (rdT G W ta) (rdT G W tb) σ H Q := by
  obtain ⟨φ, S, env, R, E, P⟩ := h
  refine ⟨φ, S, env, R, E, P.bind.imp fun φ1 H1 S1 k n1 R1 P1 => ?_⟩
  cases k with
  | true => exact iteT (Pst.now P1 R1)
  | false => exact iteF ⟨φ1, S1, env, R1, E.nxt n1, P1⟩
theorem pwx_and1 (ha : PTx C a ta) : PWx C (.BoolOp .And [a] pos) ta := fun X W h => pw_and1 (ha X W h)
theorem pwx_or1 (ha : PTx C a ta) : PWx C (.BoolOp .Or [a] pos) ta := fun X W h => pw_or1 (ha X W h)
theorem pwx_and (ha : PTx C a ta) (hb : PWx C (.BoolOp .And (b :: rest) pos) tb) : PWx C (.BoolOp .And (a :: b :: rest) pos) (tAnd2 ta tb) := fun X W h => pw_imp (pw_and (ha X W h) (hb X W h)) fun _ _ _ => rd_and
theorem pwx_or (ha : PTx C a ta) (hb : PWx C (.BoolOp .Or (b :: rest) pos) tb) : PWx C (.BoolOp .Or (a :: b :: rest) pos) (tOr2 ta tb) := fun X W h => pw_imp (pw_or (ha X W h) (hb X W h)) fun _ _ _ => rd_or
theorem PWx.pt {e : Expr} {t : DT} (h : PWx C e t) : PTx C e t := fun X W hx => (h X W hx).pt
theorem ptx_not (ha : PTx C a ta) : PTx C (.UnaryOp .Not a pos) (tNot1 ta) := fun X W h => by
  refine pt_imp (pt_not (ha X W h)) fun σ H Q ⟨φ, S, env, R, E, P⟩ => ?_
  exact ⟨φ, S, env, R, E, P.bind.imp fun φ1 H1 S1 k n1 R1 P1 => Pst.now P1 R1⟩
end
/-! ### and, or, not as values; a if t else b -/
def dAndV (a b : DE) : DE := fun env S => (a env S).bind fun x S1 => (ofB (truD x S1) S1).bind fun k S1 => if k = true then b env S1 else .ok x S1
def dOrV (a b : DE) : DE := fun env S => (a env S).bind fun x S1 => (ofB (truD x S1) S1).bind fun k S1 => if k = true then .ok x S1 else b env S1
def dNotV (a : DE) : DE := fun env S => (a env S).bind fun x S1 => (ofB (truD x S1) S1).bind fun k S1 => .ok (.bl (!k)) S1
def dIf (t : DT) (a b : DE) : DE := fun env S => (t env S).bind fun k S1 => if k = true then a env S1 else b env S1
section
variable {C : Cp} {a b c : Expr} {rest : List Expr} {da db dc : DE} {ta tb : DT} {pos : Pos}
theorem pex_one {op : BoolOp} (ha : PEx C a da) : PEx C (.BoolOp op [a] pos) da := fun X W h => pe_one (ha X W h)
theorem pex_and (ha : PEx C a da) (hb : PEx C (.BoolOp .And (b :: rest) pos) db) : PEx C (.BoolOp .And (a :: b :: rest) pos) (dAndV da db) := fun X W h => by
  refine pe_imp (pe_andT (ha X W h) (hb X W h)) fun σ H Q ⟨φ, S, env, R, E, P⟩ => ?_
  refine ⟨φ, S, env, R, E, P.bind.imp fun φ1 H1 S1 x n1 R1 P1 v1 r1 => ?_⟩
  cases q : truD x S1 with
  | none => rw [q] at P1; exact P1.elim
  | some k =>
    rw [q] at P1
    rw [h.K]
    refine ⟨k, truD_ok R1 r1 q, ?_⟩
    cases k with
    | true => exact iteT ⟨φ1, S1, env, R1, E.nxt n1, P1⟩
    | false => exact iteF (Pst.now P1 R1 _ r1)
theorem pex_or (ha : PEx C a da) (hb : PEx C (.BoolOp .Or (b :: rest) pos) db) : PEx C (.BoolOp .Or (a :: b :: rest) pos) (dOrV da db) := fun X W h => by
  refine pe_imp (pe_orT (ha X W h) (hb X W h)) fun σ H Q ⟨φ, S, env, R, E, P⟩ => ?_
  refine ⟨φ, S, env, R, E, P.bind.imp fun φ1 H1 S1 x n1 R1 P1 v1 r1 => ?_⟩
  cases q : truD x S1 with
  | none => rw [q] at P1; exact P1.elim
  | some k =>
    rw [q] at P1
    rw [h.K]
    refine ⟨k, truD_ok R1 r1 q, ?_⟩
    cases k with
    | true => exact iteT (Pst.now P1 R1 _ r1)
    | false => exact iteF ⟨φ1, S1, env, R1, E.nxt n1, P1⟩
theorem pex_not (ha : PEx C a da) : PEx C (.UnaryOp .Not a pos) (dNotV da) := fun X W h => by
  refine pe_imp (pe_notT (ha X W h)) fun σ H Q ⟨φ, S, env, R, E, P⟩ => ?_
  refine ⟨φ, S, env, R, E, P.bind.imp fun φ1 H1 S1 x n1 R1 P1 v1 r1 => ?_⟩
  cases q : truD x S1 with
  | none => rw [q] at P1; exact P1.elim
  | some k =>
    rw [q] at P1
    rw [h.K]
    exact ⟨k, truD_ok R1 r1 q, Pst.now P1 R1 _ (by simp only [VRel])⟩
theorem pex_if (hc : PTx C c ta) (ha : PEx C a da) (hb : PEx C b db) : PEx C (.IfExp c a b pos) (dIf ta da db) := fun X W h => by
  refine pe_imp (pe_ifExp (hc X W h) (ha X W h) (hb X W h)) fun σ H Q ⟨φ, S, env, R, E, P⟩ => ?_
  refine ⟨φ, S, env, R, E, P.bind.imp fun φ1 H1 S1 k n1 R1 P1 => ?_⟩
  cases k with
  | true => exact iteT ⟨φ1, S1, env, R1, E.nxt n1, P1⟩
  | false => exact iteF ⟨φ1, S1, env, R1, E.nxt n1, P1⟩
end

/-! ### arguments, displays -/
def dNil : DA := fun _ S => .ok [] S
def dCons (a : DE) (r : DA) : DA := fun env S => (a env S).bind fun x S1 => (r env S1).bind fun xs S2 => .ok (x :: xs) S2
def dTup (r : DA) : DE := fun env S => (r env S).bind fun xs S1 => if xs.length ≤ sl then .ok (.tup xs) S1 else .bad
def mkL (xs : List D) (S : Store) : Res D := if xs.length ≤ sl then .ok (.ref S.length) (S ++ [.lst xs]) else .bad
def dLst (r : DA) : DE := fun env S => (r env S).bind fun xs S1 => mkL xs S1
section
variable {C : Cp} {a b c : Expr} {es : List Expr} {da : DE} {dr : DA} {pos : Pos}
theorem pax_nil : PAx C [] dNil := fun X W h => pa_imp pa_nil fun σ H Q ⟨φ, S, env, R, E, P⟩ => Pst.now P R [] VRels.nil
theorem pax_cons (ha : PEx C a da) (hr : PAx C es dr) (hs : ∀ env, starEach (a :: es) env = (false, eval a env) :: starEach es env := by intro _; rfl) : PAx C (a :: es) (dCons da dr) := fun X W h => by
  refine pa_imp (pa_cons (ha X W h) (hr X W h) (hs X.env)) fun σ H Q ⟨φ, S, env, R, E, P⟩ => ?_
  refine ⟨φ, S, env, R, E, P.bind.imp fun φ1 H1 S1 x n1 R1 P1 v1 r1 => ?_⟩
  exact ⟨φ1, S1, env, R1, E.nxt n1, P1.bind.imp fun φ2 H2 S2 xs n2 R2 P2 vs rs => Pst.now P2 R2 _ (VRels.cons (r1.nxt n2) rs)⟩
theorem pex_tup {j} (h : PAx C es dr) : PEx C (.Tuple es j pos) (dTup dr) := fun X W hx => by
  refine pe_imp (pe_tup (h X W hx)) fun σ H Q ⟨φ, S, env, R, E, P⟩ => ?_
  refine ⟨φ, S, env, R, E, P.bind.imp fun φ1 H1 S1 xs n1 R1 P1 vs rs => ?_⟩
  split at P1
  · refine ⟨by rw [sl_eq, ← rs.length]; assumption, fun p hp => ?_⟩
    exact PstV.tup (S := S1) P1 R1 rs hp
  · exact P1.elim
theorem mkL_ok {G : Glo} {B : Value → Option Addr → Hp → Prop} {φ : List Addr} {H : Hp} {Q : VK} {xs : List D} {vs : List V} {S : Store} (R : Rel G φ S H) (rs : VRels G φ H xs vs) (P : Pst G B φ H (fun φ' H' _ x => ∀ v, VRel G φ' H' x v → Q v H') (mkL xs S)) :
    vs.length ≤ sizeLine ∧ ∀ p, H p = none → Q (.ref p) (upd H p (.lst vs)) := by
  unfold mkL at P
  split at P
  · exact ⟨by rw [sl_eq, ← rs.length]; assumption, fun p hp => PstV.lst (S := S) P R rs hp⟩
  · exact P.elim
theorem pex_lst (h : PAx C es dr) : PEx C (.List es pos) (dLst dr) := fun X W hx => by
  refine pe_imp (pe_lst (h X W hx)) fun σ H Q ⟨φ, S, env, R, E, P⟩ => ?_
  exact ⟨φ, S, env, R, E, P.bind.imp fun φ1 H1 S1 xs n1 R1 P1 vs rs => mkL_ok R1 rs P1⟩
end

/-! ### statements -/
def sNext : DS := fun env S => .ok (.nx env) S
def sSeq (a b : DS) : DS := fun env S => (a env S).bind fun f S1 => match f with
  | .nx e => b e S1
  | f => .ok f S1
def sExpr (a : DE) : DS := fun env S => (a env S).bind fun _ S1 => .ok (.nx env) S1
def sRet (a : DE) : DS := fun env S => (a env S).bind fun x S1 => .ok (.rt x) S1
def sRetN : DS := fun _ S => .ok (.rt .non) S
def sBrk : DS := fun env S => .ok (.bk env) S
def sCnt : DS := fun env S => .ok (.ct env) S
def sIf (t : DT) (a b : DS) : DS := fun env S => (t env S).bind fun k S1 => if k = true then a env S1 else b env S1
def sNever : DS := fun _ _ => .bad
section
variable {C : Cp} {a c : Expr} {da : DE} {tc : DT} {st : Stmt} {sts sts' : List Stmt} {ds ds' : DS} {pos : Pos}
theorem rd_seq {G : Glo} {W : WX} {D : Ends} {σ : St} {H : Hp} (h : rdS G W (sSeq ds ds') D σ H) : tSeq (rdS G W ds) (rdS G W ds') D σ H := by
  obtain ⟨φ, S, env, R, E, P⟩ := h
  refine ⟨φ, S, env, R, E, P.bind.imp fun φ1 H1 S1 f n1 R1 P1 => ?_⟩
  cases f with
  | nx e => exact fun σ1 E1 => ⟨φ1, S1, e, R1, E1, P1⟩
  | rt d => exact Pst.now P1 R1
  | bk e => exact Pst.now P1 R1
  | ct e => exact Pst.now P1 R1
theorem pssx_nil : PSsx C [] sNext := fun X W h => pss_imp pss_nil fun D σ H ⟨φ, S, env, R, E, P⟩ => Pst.now P R σ E
theorem pssx_cons (h1 : PSx C st ds) (h2 : PSsx C sts ds') : PSsx C (st :: sts) (sSeq ds ds') := fun X W h => pss_imp (pss_cons (h1 X W h) (h2 X W h)) fun _ _ _ => rd_seq
theorem pssx_one (h1 : PSx C st ds) : PSsx C [st] ds := fun X W h => pss_one (h1 X W h)
theorem psx_pass : PSx C (.Pass pos) sNext := fun X W h => ps_imp ps_pass fun D σ H ⟨φ, S, env, R, E, P⟩ => Pst.now P R σ E
theorem psx_brk : PSx C (.Break pos) sBrk := fun X W h => ps_imp ps_break fun D σ H ⟨φ, S, env, R, E, P⟩ => Pst.now P R σ E
theorem psx_cnt : PSx C (.Continue pos) sCnt := fun X W h => ps_imp ps_continue fun D σ H ⟨φ, S, env, R, E, P⟩ => Pst.now P R σ E
theorem psx_never : PSx C st sNever := fun X W h => ps_imp ps_never fun D σ H ⟨φ, S, env, R, E, P⟩ => P
theorem pssx_never : PSsx C sts sNever := fun X W h => pss_imp pss_never fun D σ H ⟨φ, S, env, R, E, P⟩ => P
theorem pst_err {G : Glo} {W : WX} {α : Type} {σ : St} {φ : List Addr} {H : Hp} {K : List Addr → Hp → Store → α → Prop} {r : Res α} (h : Pst G (fun c p H' => ∀ σ', W c p σ' H') φ H K r) : Pst G (fun c p H' => W c p σ H') φ H K r := by
  cases r with
  | ok a S => exact h
  | er x S => exact fun φ1 H1 n1 R1 cls dd xr => h φ1 H1 n1 R1 cls dd xr σ
  | bad => exact h
theorem psx_expr (ha : PEx C a da) (hs : ∀ env, swapsWith a none pos.line env = pure false := by intro _; rfl) : PSx C (.Expr a pos) (sExpr da) := fun X W h => by
  refine ps_imp (ps_expr (ha X W h) (hs X.env)) fun D σ H ⟨φ, S, env, R, E, P⟩ => ?_
  refine ⟨φ, S, env, R, E, Pst.bind (B := fun c p H' => W c p σ H') ?_ |>.imp fun φ1 H1 S1 x n1 R1 P1 v1 r1 => (Pst.now P1 R1 : FlP C.G D φ1 H1 (.nx env)) σ (E.nxt n1)⟩
  exact pst_err P
theorem psx_ret (ha : PEx C a da) : PSx C (.Return (some a) pos) (sRet da) := fun X W h => by
  refine ps_imp (ps_ret (ha X W h)) fun D σ H ⟨φ, S, env, R, E, P⟩ => ?_
  exact ⟨φ, S, env, R, E, (pst_err P).bind.imp fun φ1 H1 S1 x n1 R1 P1 v1 r1 => (Pst.now P1 R1 : FlP C.G D φ1 H1 (.rt x)) v1 r1⟩
theorem psx_retN : PSx C (.Return none pos) sRetN := fun X W h => ps_imp ps_retN fun D σ H ⟨φ, S, env, R, E, P⟩ => Pst.now P R .non (by simp only [VRel])
theorem psx_if (hc : PTx C c tc) (ha : PSsx C sts ds) (hb : PSsx C sts' ds') : PSx C (.If c sts sts' pos) (sIf tc ds ds') := fun X W h => by
  refine ps_imp (ps_if (hc X W h) (ha X W h) (hb X W h)) fun D σ H ⟨φ, S, env, R, E, P⟩ => ?_
  have P1 : Pst C.G (fun c p H' => ∀ σ', W c p σ' H') φ H (fun φ1 H1 S1 k => Pst C.G (fun c p H' => ∀ σ', W c p σ' H') φ1 H1 (fun φ' H' _ f => FlP C.G D φ' H' f) (if k = true then ds env S1 else ds' env S1)) (tc env S) := P.bind
  refine ⟨φ, S, env, R, E, (pst_err P1).imp fun φ1 H1 S1 k n1 R1 P1 => ?_⟩
  cases k with
  | true => exact iteT ⟨φ1, S1, env, R1, E.nxt n1, P1⟩
  | false => exact iteF ⟨φ1, S1, env, R1, E.nxt n1, P1⟩
end
end Z

/-! Z4: targets, assignments, loops, comprehensions, defs and their calls. -/
namespace Z
open PySem PySem.Spec PyProof.Rows L2

/-! ### targets -/
abbrev DG := D → En → Store → Res En
abbrev DGs := List D → En → Store → Res En
def GK (G : Glo) (vs : List Nat) (σ : St) (Q : St → Hp → Prop) : List Addr → Hp → Store → En → Prop := fun φ' H' _ e => ∀ σ', ERel G φ' H' e σ' → σ'.length = σ.length → (∀ j : Nat, j ∉ vs → σ'[j]? = σ[j]?) → Q σ' H'
def rdG (G : Glo) (W : WX) (vs : List Nat) (g : DG) : TG := fun v σ H Q => ∃ φ S env d, Rel G φ S H ∧ ERel G φ H env σ ∧ VRel G φ H d v ∧ Pst G (fun c p H' => ∀ σ', W c p σ' H') φ H (GK G vs σ Q) (g d env S)
def rdGs (G : Glo) (W : WX) (vs : List Nat) (g : DGs) : TGs := fun us σ H Q => ∃ φ S env ds, Rel G φ S H ∧ ERel G φ H env σ ∧ VRels G φ H ds us ∧ Pst G (fun c p H' => ∀ σ', W c p σ' H') φ H (GK G vs σ Q) (g ds env S)
def PGx (C : Cp) (e : Expr) (vs : List Nat) (g : DG) : Prop := ∀ X W, Cxt C W X → PG X e (rdG C.G W vs g)
def PGsx (C : Cp) (es : List Expr) (vs : List Nat) (g : DGs) : Prop := ∀ X W, Cxt C W X → PGs X es (rdGs C.G W vs g)
theorem pg_imp {X : Cx} {e : Expr} {t t' : TG} (h : PG X e t) (k : ∀ v σ H Q, t' v σ H Q → t v σ H Q) : PG X e t' := ⟨fun pins s σ H v u Q I r q => h.run pins s σ H v u Q I r (k v σ H Q q)⟩
theorem pgs_imp {X : Cx} {es : List Expr} {t t' : TGs} (h : PGs X es t) (k : ∀ v σ H Q, t' v σ H Q → t v σ H Q) : PGs X es t' := ⟨fun pins s σ H v u Q I r q => h.run pins s σ H v u Q I r (k v σ H Q q)⟩
def locB (C : Cp) (x : Str) : Bool := match C.sc.names.lookup x with
  | some .local => true
  | some .cell => C.fn x
  | _ => false
def gNm (i : Nat) : DG := fun d env S => .ok (env.set i (some d)) S
def gNil : DGs := fun ds env S => match ds with
  | [] => .ok env S
  | _ => .bad
def gCons (g : DG) (r : DGs) : DGs := fun ds env S => match ds with
  | d :: t => (g d env S).bind fun e S1 => r t e S1
  | [] => .bad
def gTup (n : Nat) (g : DGs) : DG := fun d env S => match d with
  | .tup ds => if ds.length = n then g ds env S else .bad
  | .ref i => match S[i]? with
    | some (.lst ds) => if ds.length = n then g ds env S else .bad
    | _ => .bad
  | _ => .bad
section
variable {C : Cp} {pos : Pos}
theorem locB_ok {x : Str} (h : locB C x = true) {X : Cx} {W : WX} (hx : Cxt C W X) : Loc X.env.scope x ∧ (X.fn x = true ∨ X.env.scope.names.lookup x = some .local) := by
  rw [hx.sc, hx.fn]
  unfold locB at h
  split at h
  · exact ⟨.inl (by assumption), .inr (by assumption)⟩
  · exact ⟨.inr (by assumption), .inl h⟩
  · cases h
theorem set_other {σ : St} {i : Nat} {v : Option V} {j : Nat} (h : j ∉ [i]) : (σ.set i v)[j]? = σ[j]? := List.getElem?_set_ne fun e => h (by simp [e])
theorem pgx_nm (i : Nat) {x : Str} (nd : C.N.Nodup) (hN : C.N[i]? = some x) (hl : locB C x = true) : PGx C (.Name x pos) [i] (gNm i) := fun X W h => by
  obtain ⟨l1, l2⟩ := locB_ok hl h
  refine pg_imp (pg_name (X := X) (i := i) (by rw [h.N]; exact nd) (by rw [h.N]; exact hN) l1 l2) fun v σ H Q ⟨φ, S, env, d, R, E, r, P⟩ => ?_
  exact Pst.now P R _ (E.set r) (by simp) fun j hj => set_other hj
theorem pgsx_nil : PGsx C [] [] gNil := fun X W h => by
  refine pgs_imp pgs_nil fun vs σ H Q ⟨φ, S, env, ds, R, E, r, P⟩ => ?_
  cases ds with
  | nil =>
    simp only [VRels] at r
    exact ⟨r, Pst.now P R _ E rfl fun _ _ => rfl⟩
  | cons d t => exact P.elim
theorem pgsx_cons {e : Expr} {es : List Expr} {vs ws : List Nat} {g : DG} {gs : DGs} (h1 : PGx C e vs g) (h2 : PGsx C es ws gs) (hs : ∀ env, (assignEach (e :: es) env).map (·.2) = assign e env :: (assignEach es env).map (·.2) := by intro _; rfl) : PGsx C (e :: es) (vs ++ ws) (gCons g gs) := fun X W h => by
  refine pgs_imp (pgs_cons (h1 X W h) (h2 X W h) (hs X.env)) fun us σ H Q ⟨φ, S, env, ds, R, E, r, P⟩ => ?_
  cases ds with
  | nil => exact P.elim
  | cons d t =>
    simp only [VRels] at r
    obtain ⟨u, us', e, r, rs⟩ := r
    refine ⟨u, us', e, φ, S, env, d, R, E, r, Pst.imp (Pst.bind (f := fun e S1 => gs t e S1) P) fun φ1 H1 S1 env1 n1 R1 P1 σ1 E1 l1 k1 => ?_⟩
    refine ⟨φ1, S1, env1, t, R1, E1, rs.nxt n1, P1.imp fun φ2 H2 S2 env2 n2 R2 P2 σ2 E2 l2 k2 => P2 σ2 E2 (l2.trans l1) fun j hj => ?_⟩
    rw [List.mem_append, not_or] at hj
    exact (k2 j hj.2).trans (k1 j hj.1)
theorem pgx_tup {es : List Expr} {k n : Nat} {vs : List Nat} {gs : DGs} (h : PGsx C es vs gs) (hn : ∀ env, (assignEach es env).length = n := by intro _; rfl) (hst : ∀ env, (assignEach es env).findIdx? (·.1) = none := by intro _; rfl) : PGx C (.Tuple es k pos) vs (gTup n gs) := fun X W hx => by
  refine ⟨fun pins s σ H v u Q I ru ⟨φ, S, env, d, R, E, r, P⟩ => ?_⟩
  cases d with
  | tup ds =>
    have r' := r
    simp only [VRel] at r
    obtain ⟨a, us, rfl, q, rs⟩ := r
    have P' : Pst C.G (fun c p H' => ∀ σ', W c p σ' H') φ H (GK C.G vs σ Q) (if ds.length = n then gs ds env S else .bad) := P
    split at P'
    · exact (pg_tup hx.calm (h X W hx) (hn X.env) (hst X.env)).run pins s σ H _ u Q I ru ⟨a, us, rfl, by rw [hx.K]; exact q, by rw [← rs.length]; assumption, φ, S, env, ds, R, E, rs, P'⟩
    · exact P'.elim
  | ref i =>
    have P' : Pst C.G (fun c p H' => ∀ σ', W c p σ' H') φ H (GK C.G vs σ Q) (match S[i]? with | some (.lst ds) => if ds.length = n then gs ds env S else .bad | _ => .bad) := P
    split at P'
    · rename_i ds e
      split at P'
      · obtain ⟨a, us, rfl, q, rs, _⟩ := sq_lst R r e
        exact (pg_lst hx.calm (h X W hx) (hn X.env) (hst X.env)).run pins s σ H _ u Q I ru ⟨a, us, rfl, SqL.of q, by rw [← rs.length]; assumption, φ, S, env, ds, R, E, rs, P'⟩
      · exact P'.elim
    · exact P'.elim
  | _ => exact P.elim
end

/-! ### assignments -/
def sAsg (a : DE) (g : DG) : DS := fun env S => (a env S).bind fun x S1 => (g x env S1).bind fun e S2 => .ok (.nx e) S2
section
variable {C : Cp} {a t : Expr} {da : DE} {vs : List Nat} {g : DG} {pos : Pos}
theorem rd_asg {G : Glo} {W : WX} {D : Ends} {σ : St} {H : Hp} (h : rdS G W (sAsg da g) D σ H) : tAsg (rdE G W da) (rdG G W vs g) D σ H := by
  obtain ⟨φ, S, env, R, E, P⟩ := h
  refine ⟨φ, S, env, R, E, (pst_err P.bind).imp fun φ1 H1 S1 x n1 R1 P1 v1 r1 => ?_⟩
  exact ⟨φ1, S1, env, x, R1, E.nxt n1, r1, P1.bind.imp fun φ2 H2 S2 e n2 R2 P2 σ2 E2 _ _ => (Pst.now P2 R2 : FlP G D φ2 H2 (.nx e)) σ2 E2⟩
theorem psx_asg (ha : PEx C a da) (hg : PGx C t vs g) (hs : ∀ env, swapsWithSole [t] a pos.line env = pure false := by intro _; rfl) (hw : ∀ env, swappedStores [t] a env = pure none := by intro _; rfl)
    (h1 : ∀ env, (assignEach [t] env).map (·.2) = [assign t env] := by intro _; rfl) : PSx C (.Assign [t] a pos) (sAsg da g) := fun X W h =>
  ps_imp (ps_asg (ha X W h) (hg X W h) (hs X.env) (hw X.env) (h1 X.env)) fun _ _ _ => rd_asg
theorem psx_set (i : Nat) {x : Str} {px : Pos} (nd : C.N.Nodup) (hN : C.N[i]? = some x) (hl : locB C x = true) (ha : PEx C a da) (hs : ∀ env, swapsWithSole [.Name x px] a pos.line env = pure false := by intro _; rfl) (hw : ∀ env, swappedStores [.Name x px] a env = pure none := by intro _; rfl) :
    PSx C (.Assign [.Name x px] a pos) (sAsg da (gNm i)) := psx_asg ha (pgx_nm i nd hN hl) hs hw
/-- a, b = e1, e2, no tuple made -/
theorem psx_par {i j : Nat} {x y : Str} {b c : Expr} {dr : DA} {px py pt pt2 : Pos} {kt k2} (nd : C.N.Nodup) (hi : C.N[i]? = some x) (hj : C.N[j]? = some y) (hij : i ≠ j) (hx : C.sc.names.lookup x = some .local) (hy : C.sc.names.lookup y = some .local) (ha : PAx C [b, c] dr)
    (hw : ∀ env : Env, env.scope = C.sc → swappedStores [.Tuple [.Name x px, .Name y py] kt pt] (.Tuple [b, c] k2 pt2) env = pure (some [x, y]))
    (hs : ∀ env, swapsWithSole [.Tuple [.Name x px, .Name y py] kt pt] (.Tuple [b, c] k2 pt2) pos.line env = pure false := by intro _; rfl) :
    PSx C (.Assign [.Tuple [.Name x px, .Name y py] kt pt] (.Tuple [b, c] k2 pt2) pos) (sAsg (dTup dr) (gTup 2 (gCons (gNm i) (gCons (gNm j) gNil)))) := fun X W h => by
  refine ps_imp (ps_par h.calm (by rw [h.N]; exact nd) (by rw [h.N]; exact hi) (by rw [h.N]; exact hj) hij (by rw [h.sc]; exact hx) (by rw [h.sc]; exact hy) (ha X W h) (hw X.env h.sc) (hs X.env)) fun D σ H ⟨φ, S, env, R, E, P⟩ => ?_
  have P0 : Pst C.G (fun c p H' => ∀ σ', W c p σ' H') φ H _ (dTup dr env S) := P.bind
  unfold dTup at P0
  refine ⟨φ, S, env, R, E, (pst_err P0.bind).imp fun φ1 H1 S1 xs n1 R1 P1 vs rs => ?_⟩
  split at P1
  · have P2 := Pst.now P1 R1
    match xs, rs, P2 with
    | [d, e], rs, P2 =>
      simp only [VRels] at rs
      obtain ⟨v, us, rfl, rv, w, us', rfl, rw', rfl⟩ := rs
      refine ⟨v, w, rfl, ?_⟩
      exact (Pst.now (α := Fl) P2 R1 : FlP C.G D φ1 H1 (.nx _)) _ (((E.nxt n1).set rv).set rw')
    | [], rs, P2 => exact P2.elim
    | [_], rs, P2 => exact P2.elim
    | _ :: _ :: _ :: _, rs, P2 =>
      exfalso
      simp [gTup, Res.bind, Pst] at P2
  · exact P1.elim
end

/-! ### what a for walks -/
abbrev Itd := Nat → Store → Option (Option D)
structure ItRel (G : Glo) (φ0 : List Addr) (H0 : Hp) (J : Itd) (Jx : It) : Prop where
  stop : ∀ i φ S H, Nxt φ0 φ H0 H → Rel G φ S H → J i S = some none → Jx.stop i H
  go : ∀ i φ S H d, Nxt φ0 φ H0 H → Rel G φ S H → J i S = some (some d) → Jx.go i H ∧ ∀ x H', Jx.yld i H x H' → Nxt φ φ H H' ∧ Rel G φ S H' ∧ VRel G φ H' d x
abbrev DI := En → Store → Res Itd
def rdI (G : Glo) (W : WX) (d : DI) : TI := fun σ H R => ∃ φ S env, Rel G φ S H ∧ ERel G φ H env σ ∧ Pst G (fun c p H' => W c p σ H') φ H (fun φ' H' _ J => ∀ Jx, ItRel G φ' H' J Jx → R Jx H') (d env S)
def PIx (C : Cp) (tg iter : Expr) (d : DI) : Prop := ∀ X W, Cxt C W X → PI X tg iter (rdI C.G W d)
theorem pi_imp {X : Cx} {tg e : Expr} {t t' : TI} (h : PI X tg e t) (k : ∀ σ H R, t' σ H R → t σ H R) : PI X tg e t' := ⟨fun pins s σ H R I q => h.run pins s σ H R I (k σ H R q)⟩

/-- the list i as it stands, a tuple's items, ints -/
def jL (i : Nat) : Itd := fun k S => match S[i]? with
  | some (.lst ds) => some ds[k]?
  | _ => none
def jT (ds : List D) : Itd := fun k _ => some ds[k]?
def jR (lo : Int) (n : Nat) : Itd := fun k _ => some (if k < n then some (.int (lo + (k : Int))) else none)
def seqJ : D → Store → Option Itd
  | .tup ds, _ => some (jT ds)
  | .fls ds, _ => some (jT ds)
  | .ref i, S => match S[i]? with
    | some (.lst _) => some (jL i)
    | _ => none
  | _, _ => none
def iSeq (a : DE) : DI := fun env S => (a env S).bind fun x S1 => match seqJ x S1 with
  | some J => .ok J S1
  | none => .bad
section
variable {G : Glo} {φ0 φ : List Addr} {H0 H : Hp} {S : Store}
theorem SqL.uniq {K : PySem.W.Frag} {H : Hp} {a : Addr} {xs : List V} (h : H a = some (.lst xs)) : SqL K H a xs := SqL.of h
theorem it_list {i : Nat} {a : Addr} (ha : φ0[i]? = some a) : ItRel G φ0 H0 (jL i) (Itl G.K a) := by
  refine ⟨fun k φ S H n R e => ?_, fun k φ S H d n R e => ?_⟩
  · unfold jL at e
    split at e
    · rename_i ds es
      obtain ⟨vs, q, rs⟩ := R.at_ i a _ (n.at_ ha) es
      exact ⟨vs, SqL.of q, by rw [← rs.length]; exact List.getElem?_eq_none_iff.mp (Option.some.inj e)⟩
    · cases e
  · unfold jL at e
    split at e
    · rename_i ds es
      obtain ⟨vs, q, rs⟩ := R.at_ i a _ (n.at_ ha) es
      obtain ⟨v, hv, rv⟩ := rs.get (Option.some.inj e)
      refine ⟨⟨vs, v, SqL.of q, hv⟩, fun x H' y => ?_⟩
      obtain ⟨rfl, y⟩ := y
      have := y vs (SqL.of q)
      rw [hv] at this; cases this
      exact ⟨Nxt.refl _ _, R, rv⟩
    · cases e
theorem it_tup {ds : List D} {a : Addr} {vs : List V} (h : SqT G.K H0 a vs) (rs : VRels G φ0 H0 ds vs) : ItRel G φ0 H0 (jT ds) (Itt G.K a) := by
  refine ⟨fun k φ S H n R e => ?_, fun k φ S H d n R e => ?_⟩
  · exact ⟨vs, n.grow.sqt h, by rw [← rs.length]; exact List.getElem?_eq_none_iff.mp (Option.some.inj e)⟩
  · obtain ⟨v, hv, rv⟩ := rs.get (Option.some.inj e)
    refine ⟨⟨vs, v, n.grow.sqt h, hv⟩, fun x H' y => ?_⟩
    obtain ⟨rfl, y⟩ := y
    have := y vs (n.grow.sqt h)
    rw [hv] at this; cases this
    exact ⟨Nxt.refl _ _, R, rv.nxt n⟩
theorem it_fls {ds : List D} {a : Addr} {vs : List V} (h : FzL G.K H0 a vs) (rs : VRels G φ0 H0 ds vs) : ItRel G φ0 H0 (jT ds) (Itl G.K a) := by
  refine ⟨fun k φ S H n R e => ?_, fun k φ S H d n R e => ?_⟩
  · exact ⟨vs, (n.grow.fzl h).sq, by rw [← rs.length]; exact List.getElem?_eq_none_iff.mp (Option.some.inj e)⟩
  · obtain ⟨v, hv, rv⟩ := rs.get (Option.some.inj e)
    refine ⟨⟨vs, v, (n.grow.fzl h).sq, hv⟩, fun x H' y => ?_⟩
    obtain ⟨rfl, y⟩ := y
    have := y vs (n.grow.fzl h).sq
    rw [hv] at this; cases this
    exact ⟨Nxt.refl _ _, R, rv.nxt n⟩
theorem it_rng {lo : Int} {n : Nat} : ItRel G φ0 H0 (jR lo n) (Itr lo n) := by
  refine ⟨fun k φ S H nx R e => ?_, fun k φ S H d nx R e => ?_⟩
  · have e' : (if k < n then some (D.int (lo + (k : Int))) else none) = none := Option.some.inj e
    show n ≤ k
    by_cases h : k < n
    · rw [if_pos h] at e'; cases e'
    · omega
  · have e' : (if k < n then some (D.int (lo + (k : Int))) else none) = some d := Option.some.inj e
    by_cases h : k < n
    · rw [if_pos h] at e'
      cases e'
      refine ⟨h, fun x H' y => ?_⟩
      obtain ⟨rfl, rfl⟩ := y
      exact ⟨Nxt.refl _ _, R, by simp only [VRel]⟩
    · rw [if_neg h] at e'; cases e'
end
section
variable {C : Cp} {tg a b : Expr} {da : DE} {dr : DA} {pos p : Pos}
theorem pix_seq (ha : PEx C a da) : PIx C tg a (iSeq da) := fun X W h => by
  refine ⟨fun pins s σ H Rr I ⟨φ, S, env, R, E, P⟩ => ?_⟩
  have P0 := P.bind
  cases q : da env S with
  | bad => rw [q] at P0; exact P0.elim
  | er x S1 =>
    rw [q] at P0
    exact (pi_tup (ha X W h)).run pins s σ H Rr I ⟨φ, S, env, R, E, by rw [q]; exact P0⟩
  | ok x S1 =>
    rw [q] at P0
    cases e : seqJ x S1 with
    | none => simp only [iSeq, q, Res.bind_ok, e] at P; exact P.elim
    | some J =>
      have key : ∀ φ1 H1, Nxt φ φ1 H H1 → Rel C.G φ1 S1 H1 → ∀ Jx, ItRel C.G φ1 H1 J Jx → Rr Jx H1 := fun φ1 H1 n1 R1 Jx r => by
        have P1 := P0 φ1 H1 n1 R1
        dsimp only at P1
        rw [e] at P1
        exact Pst.now P1 R1 Jx r
      cases x with
      | tup ds =>
        refine (pi_tup (ha X W h)).run pins s σ H Rr I ⟨φ, S, env, R, E, ?_⟩
        rw [q]
        intro φ1 H1 n1 R1 v1 r1
        simp only [VRel] at r1
        obtain ⟨b, vs, rfl, sq, rs⟩ := r1
        have eJ : jT ds = J := Option.some.inj e
        subst eJ
        exact ⟨b, rfl, ⟨vs, by rw [h.K]; exact sq⟩, key φ1 H1 n1 R1 _ (by rw [h.K]; exact it_tup sq rs)⟩
      | fls ds =>
        refine (pi_list (ha X W h)).run pins s σ H Rr I ⟨φ, S, env, R, E, ?_⟩
        rw [q]
        intro φ1 H1 n1 R1 v1 r1
        simp only [VRel] at r1
        obtain ⟨b, vs, rfl, sq, rs⟩ := r1
        have eJ : jT ds = J := Option.some.inj e
        subst eJ
        exact ⟨b, rfl, ⟨vs, by rw [h.K]; exact sq.sq⟩, key φ1 H1 n1 R1 _ (by rw [h.K]; exact it_fls sq rs)⟩
      | ref i =>
        refine (pi_list (ha X W h)).run pins s σ H Rr I ⟨φ, S, env, R, E, ?_⟩
        rw [q]
        intro φ1 H1 n1 R1 v1 r1
        have e' : (match S1[i]? with
          | some (.lst _) => some (jL i)
          | _ => none) = some J := e
        split at e'
        · rename_i ds es
          obtain ⟨b, vs, rfl, sq, rs, hb⟩ := sq_lst R1 r1 es
          cases e'
          exact ⟨b, rfl, ⟨vs, SqL.of sq⟩, key φ1 H1 n1 R1 _ (by rw [h.K]; exact it_list hb)⟩
        · cases e'
      | _ => cases e
def glB (C : Cp) (x : Str) : Bool := match C.sc.names.lookup x with
  | some .globalImplicit => true
  | _ => false
theorem glB_ok {x : Str} (h : glB C x = true) {X : Cx} {W : WX} (hx : Cxt C W X) : Gl X x := by
  unfold glB at h
  split at h
  · show X.env.scope.names.lookup x = _
    rw [hx.sc]; assumption
  · cases h
def iRng1 (r : DA) : DI := fun env S => (r env S).bind fun xs S1 => match xs with
  | [.int j] => if -(2 ^ 62) ≤ j ∧ j < 2 ^ 62 then .ok (jR 0 j.toNat) S1 else .bad
  | _ => .bad
def iRng2 (r : DA) : DI := fun env S => (r env S).bind fun xs S1 => match xs with
  | [.int i, .int j] => if -(2 ^ 62) ≤ i ∧ i < 2 ^ 62 ∧ -(2 ^ 62) ≤ j ∧ j < 2 ^ 62 then .ok (jR i (j - i).toNat) S1 else .bad
  | _ => .bad
theorem pix_range1 (hg : glB C "range" = true) (hm : C.G.mg "range" = none) (ha : PAx C [a] dr) (hs : ∀ env, starEach [a] env = [(false, eval a env)] := by intro _; rfl) : PIx C tg (.Call (.Name "range" p) [a] [] pos) (iRng1 dr) := fun X W h => by
  refine pi_imp (pi_range1 (glB_ok hg h) (by rw [h.mg]; exact hm) (ha X W h) (hs X.env)) fun σ H Rr ⟨φ, S, env, R, E, P⟩ => ?_
  refine ⟨φ, S, env, R, E, P.bind.imp fun φ1 H1 S1 xs n1 R1 P1 vs rs => ?_⟩
  match xs, rs, P1 with
  | [.int j], rs, P1 =>
    simp only [VRels, VRel] at rs
    obtain ⟨u, us, rfl, rfl, rfl⟩ := rs
    simp only [] at P1
    split at P1
    · rename_i hb
      exact ⟨j, rfl, hb.1, hb.2, Pst.now P1 R1 _ it_rng⟩
    · exact P1.elim
  | [], rs, P1 => exact P1.elim
  | [.non], rs, P1 => exact P1.elim
  | [.bl _], rs, P1 => exact P1.elim
  | [.str _], rs, P1 => exact P1.elim
  | [.tup _], rs, P1 => exact P1.elim
  | [.ref _], rs, P1 => exact P1.elim
  | [.st _], rs, P1 => exact P1.elim
  | [.ty _], rs, P1 => exact P1.elim
  | [.fls _], rs, P1 => exact P1.elim
  | x :: _ :: _, rs, P1 => cases x <;> exact P1.elim
theorem pix_range2 (hg : glB C "range" = true) (hm : C.G.mg "range" = none) (ha : PAx C [a, b] dr) (hs : ∀ env, starEach [a, b] env = [(false, eval a env), (false, eval b env)] := by intro _; rfl) (hs2 : ∀ env, starEach [b] env = [(false, eval b env)] := by intro _; rfl) : PIx C tg (.Call (.Name "range" p) [a, b] [] pos) (iRng2 dr) := fun X W h => by
  refine pi_imp (pi_range2 (glB_ok hg h) (by rw [h.mg]; exact hm) (ha X W h) (hs X.env) (hs2 X.env)) fun σ H Rr ⟨φ, S, env, R, E, P⟩ => ?_
  refine ⟨φ, S, env, R, E, P.bind.imp fun φ1 H1 S1 xs n1 R1 P1 vs rs => ?_⟩
  split at P1
  · rename_i i j
    simp only [VRels, VRel] at rs
    obtain ⟨u, us, rfl, rfl, u2, us2, rfl, rfl, rfl⟩ := rs
    split at P1
    · rename_i hb
      exact ⟨i, j, rfl, hb, Pst.now P1 R1 _ it_rng⟩
    · exact P1.elim
  · exact P1.elim
end

/-! ### for, while -/
def FUEL : Nat := 2 ^ 70
def forGo (J : Itd) (g : DG) (b : DS) : Nat → Nat → En → Store → Res Fl
  | 0, _, _, _ => .bad
  | n + 1, i, env, S => match J i S with
    | none => .bad
    | some none => .ok (.nx env) S
    | some (some d) => (g d env S).bind fun env1 S1 => (b env1 S1).bind fun f S2 => match f with
      | .nx e => forGo J g b n (i + 1) e S2
      | .ct e => forGo J g b n (i + 1) e S2
      | .bk e => .ok (.nx e) S2
      | .rt d => .ok (.rt d) S2
def sFor (it : DI) (g : DG) (b : DS) : DS := fun env S => (it env S).bind fun J S1 => forGo J g b FUEL 0 env S1
def whileGo (t : DT) (b : DS) : Nat → En → Store → Res Fl
  | 0, _, _ => .bad
  | n + 1, env, S => (t env S).bind fun k S1 => if k = true then (b env S1).bind fun f S2 => match f with
      | .nx e => whileGo t b n e S2
      | .ct e => whileGo t b n e S2
      | .bk e => .ok (.nx e) S2
      | .rt d => .ok (.rt d) S2
    else .ok (.nx env) S1
def sWhile (t : DT) (b : DS) : DS := fun env S => whileGo t b FUEL env S
section
variable {C : Cp} {tg iter c : Expr} {body : List Stmt} {it : DI} {g : DG} {b : DS} {t : DT} {vs : List Nat} {pos : Pos}
theorem psx_for (hi : PIx C tg iter it) (hg : PGx C tg vs g) (hb : PSsx C body b) (hs : ∀ env x, foldedSetIterable iter env x = pure x := by intro _ _; rfl) : PSx C (.For tg iter body [] pos) (sFor it g b) := fun X W h => by
  refine ps_imp (ps_for h.pass h.calm (hi X W h) (hg X W h) (hb X W h) (hs X.env)) fun D σ H ⟨φ, S, env, R, E, P⟩ => ?_
  have P0 : Pst C.G (fun c p H' => ∀ σ', W c p σ' H') φ H _ (it env S) := P.bind
  refine ⟨φ, S, env, R, E, (pst_err P0).imp fun φ1 H1 S1 J n1 R1 P1 Jx hJ => ?_⟩
  refine ⟨fun i m σ' H' => ∃ φ' S' env', Rel C.G φ' S' H' ∧ ERel C.G φ' H' env' σ' ∧ Nxt φ1 φ' H1 H' ∧ Pst C.G (fun c p H' => ∀ σ', W c p σ' H') φ' H' (fun φ' H' _ f => FlP C.G D φ' H' f) (forGo J g b m i env' S'), ⟨FUEL, φ1, S1, env, R1, E.nxt n1, Nxt.refl _ _, P1⟩, ?_⟩
  rintro i m σ2 H2 ⟨φ2, S2, env2, R2, E2, n2, P2⟩
  cases m with
  | zero => exact P2.elim
  | succ m =>
    unfold forGo at P2
    cases q : J i S2 with
    | none => rw [q] at P2; exact P2.elim
    | some o =>
      rw [q] at P2
      cases o with
      | none => exact .inl ⟨hJ.stop i φ2 S2 H2 n2 R2 q, Pst.now P2 R2 σ2 E2⟩
      | some d =>
        obtain ⟨go, yld⟩ := hJ.go i φ2 S2 H2 d n2 R2 q
        refine .inr ⟨go, _, fun σ' H' w => ⟨m, Nat.lt_succ_self m, w⟩, fun x H' y => ?_⟩
        obtain ⟨ny, Ry, ry⟩ := yld x H' y
        refine ⟨φ2, S2, env2, d, Ry, E2.nxt ny, ry, (Pst.nxt P2 ny).bind.imp fun φ3 H3 S3 env3 n3 R3 P3 σ3 E3 _ _ => ?_⟩
        refine ⟨φ3, S3, env3, R3, E3, P3.bind.imp fun φ4 H4 S4 f n4 R4 P4 => ?_⟩
        have nn : Nxt φ1 φ4 H1 H4 := ((n2.trans ny).trans n3).trans n4
        cases f with
        | nx e => exact fun σ4 E4 => ⟨φ4, S4, e, R4, E4, nn, P4⟩
        | ct e => exact fun σ4 E4 => ⟨φ4, S4, e, R4, E4, nn, P4⟩
        | bk e => exact fun σ4 E4 => (Pst.now P4 R4 : FlP C.G D φ4 H4 (.nx e)) σ4 E4
        | rt d => exact (Pst.now P4 R4 : FlP C.G D φ4 H4 (.rt d))
theorem psx_while (hc : PTx C c t) (hb : PSsx C body b) : PSx C (.While c body [] pos) (sWhile t b) := fun X W h => by
  refine ps_imp (ps_while h.pass (hc X W h) (hb X W h)) fun D σ H ⟨φ, S, env, R, E, P⟩ => ?_
  refine ⟨fun m σ' H' => ∃ φ' S' env', Rel C.G φ' S' H' ∧ ERel C.G φ' H' env' σ' ∧ Pst C.G (fun c p H' => ∀ σ', W c p σ' H') φ' H' (fun φ' H' _ f => FlP C.G D φ' H' f) (whileGo t b m env' S'), ⟨FUEL, φ, S, env, R, E, P⟩, ?_⟩
  rintro m σ2 H2 ⟨φ2, S2, env2, R2, E2, P2⟩
  cases m with
  | zero => exact P2.elim
  | succ m =>
    unfold whileGo at P2
    refine ⟨φ2, S2, env2, R2, E2, (pst_err P2.bind).imp fun φ3 H3 S3 k n3 R3 P3 => ?_⟩
    cases k with
    | false => exact iteF (Pst.now P3 R3 σ2 (E2.nxt n3))
    | true =>
      refine iteT ⟨_, fun σ' H' w => ⟨m, Nat.lt_succ_self m, w⟩, φ3, S3, env2, R3, E2.nxt n3, P3.bind.imp fun φ4 H4 S4 f n4 R4 P4 => ?_⟩
      cases f with
      | nx e => exact fun σ4 E4 => ⟨φ4, S4, e, R4, E4, P4⟩
      | ct e => exact fun σ4 E4 => ⟨φ4, S4, e, R4, E4, P4⟩
      | bk e => exact fun σ4 E4 => (Pst.now P4 R4 : FlP C.G D φ4 H4 (.nx e)) σ4 E4
      | rt d => exact (Pst.now P4 R4 : FlP C.G D φ4 H4 (.rt d))
end
end Z

/-! Z5: defs and their calls; list comprehensions. -/
namespace Z
open PySem PySem.Spec PyProof.Rows L2

/-! ### defs -/
def spD (G : Glo) (n : Nat) (F : Fn) : Sp := fun vs H Q E => ∃ φ S ds, Rel G φ S H ∧ VRels G φ H ds vs ∧ ds.length = n ∧ Pst G E φ H (fun φ' H' _ r => ∀ v, VRel G φ' H' r v → Q v H') (F ds S)
structure FnIs (G : Glo) (k : Nat) (x : Str) (n : Nat) (F : Fn) : Prop where
  ex : ∃ (f : Addr) (fd : FuncData) (ps : List Str), ps.length = n ∧ FnOk G.P G.w G.K G.mg G.base (L2.CX G.P G.w) k f fd ps (spD G n F) ∧ G.mg x = some (.ref f) ∧ PySem.W.keepIn G.K (.ref f) = true ∧ Binds G.K fd ps []
def mkFn (nl : Nat) (b : DS) : Fn := fun ds S => (b (ds.map some ++ List.replicate (nl - ds.length) none) S).bind fun f S1 => match f with
  | .rt d => .ok d S1
  | .nx _ => .ok .non S1
  | _ => .bad
theorem ERel.start {G : Glo} {φ : List Addr} {H : Hp} {N : List Str} {ds : List D} {vs : List V} (h : VRels G φ H ds vs) : ERel G φ H (ds.map some ++ List.replicate (N.length - ds.length) none) (start N vs) := by
  have hl := h.length
  show ERel G φ H _ (vs.map some ++ List.replicate (N.length - vs.length) none)
  refine ⟨by simp [hl], fun i d e => ?_⟩
  by_cases hi : i < ds.length
  · rw [List.getElem?_append_left (by simpa using hi), List.getElem?_map] at e
    cases q : ds[i]? with
    | none => rw [q] at e; cases e
    | some d' =>
      rw [q] at e
      cases e
      obtain ⟨v, hv, r⟩ := h.get q
      exact ⟨v, by rw [List.getElem?_append_left (by simp; omega), List.getElem?_map, hv]; rfl, r⟩
  · rw [List.getElem?_append_right (by simpa using hi), List.getElem?_replicate] at e
    split at e <;> cases e
section
variable {G : Glo} {x qual : Str} {params : Arguments} {body : List Stmt} {scope : Scope} {dvs : List V} {kws : List (Str × V)} {f : Addr} {fd : FuncData} {N ps : List Str} {k n : Nat} {b : DS}
theorem fn_ok (F : FunD G.K x qual params body scope dvs kws f fd) (Sc : FnScope N ps scope) (hn : ps.length = n) (hb : PSsx ⟨G, k, N, scope, fun _ => true, none, false⟩ body b) : FnOk G.P G.w G.K G.mg G.base (L2.CX G.P G.w) (k + 1) f fd ps (spD G n (mkFn N.length b)) := by
  refine F.ok Sc (fun vs H Q E ⟨φ, S, ds, R, r, e, _⟩ => by rw [← r.length, e, hn]) fun cdv A outer s H vs Q E hr ⟨φ, S, ds, R, r, e, P⟩ => ?_
  refine ⟨_, hb _ (fun cls d _ H => E cls d H) ⟨rfl, rfl, rfl, rfl, rfl, rfl, rfl, rfl, hr, rfl, takes_of rfl rfl rfl rfl, passes_of rfl, (fun _ _ z => nomatch z), (fun z => nomatch z), (fun _ _ _ _ _ z => z)⟩, φ, S, _, R, ERel.start r, ?_⟩
  have P0 := P.bind
  have P1 : Pst G (fun c p H' => ∀ σ' : St, E c p H') φ H (fun φ1 H1 S1 a => Pst G E φ1 H1 (fun φ' H' _ r => ∀ v, VRel G φ' H' r v → Q v H') (match a with
      | .rt d => .ok d S1
      | .nx _ => .ok .non S1
      | _ => .bad)) (b (ds.map some ++ List.replicate (N.length - ds.length) none) S) := by
    cases q : b (ds.map some ++ List.replicate (N.length - ds.length) none) S with
    | ok a S1 => rw [q] at P0; exact P0
    | er y S1 => rw [q] at P0; exact fun φ1 H1 n1 R1 cls dd xr _ => P0 φ1 H1 n1 R1 cls dd xr
    | bad => rw [q] at P0; exact P0
  refine P1.imp fun φ1 H1 S1 fl n1 R1 P2 => ?_
  cases fl with
  | nx e => exact fun σ1 E1 => Pst.now P2 R1 .non (by simp only [VRel])
  | rt d => exact Pst.now P2 R1
  | bk e => exact P2.elim
  | ct e => exact P2.elim
/-- the same; the code object of the def, its name for what is made within -/
def codeF (K : PySem.W.Frag) (a : Addr) : Addr := match K.lookup a with
  | some ⟨_, _, .func fd, _⟩ => (match fd.code with
    | .ref c => c
    | _ => 0)
  | _ => 0
theorem fn_okC (F : FunD G.K x qual params body scope dvs kws f fd) (Sc : FnScope N ps scope) (hn : ps.length = n) (hb : PSsx ⟨G, k, N, scope, fun _ => true, some (qual ++ ".<locals>.", codeF G.K f), false⟩ body b) : FnOk G.P G.w G.K G.mg G.base (L2.CX G.P G.w) (k + 1) f fd ps (spD G n (mkFn N.length b)) := by
  obtain ⟨oc, od, dV, kV, doc, pm, an, cdv, ct, osl, rfl, lk, hcd, _, _⟩ := F.ex
  have hc : cdv = .ref (codeF G.K f) := by
    unfold codeF
    rw [lk]
    unfold PySem.W.codeIn at hcd
    split at hcd
    · rfl
    · cases hcd
  refine fn_of lk hcd Sc (fun vs H Q E ⟨φ, S, ds, R, r, e, _⟩ => by rw [← r.length, e, hn]) fun A outer s H vs Q E hr ⟨φ, S, ds, R, r, e, P⟩ => ?_
  refine ⟨_, hb _ (fun cls d _ H => E cls d H) ⟨rfl, rfl, rfl, rfl, rfl, rfl, rfl, rfl, hr, rfl, takes_of rfl rfl rfl rfl, passes_of rfl, (fun q c z => by cases z; exact ⟨rfl, hc⟩), (fun z => nomatch z), (fun _ _ _ _ _ z => z)⟩, φ, S, _, R, ERel.start r, ?_⟩
  have P0 := P.bind
  have P1 : Pst G (fun c p H' => ∀ σ' : St, E c p H') φ H (fun φ1 H1 S1 a => Pst G E φ1 H1 (fun φ' H' _ r => ∀ v, VRel G φ' H' r v → Q v H') (match a with
      | .rt d => .ok d S1
      | .nx _ => .ok .non S1
      | _ => .bad)) (b (ds.map some ++ List.replicate (N.length - ds.length) none) S) := by
    cases q : b (ds.map some ++ List.replicate (N.length - ds.length) none) S with
    | ok a S1 => rw [q] at P0; exact P0
    | er y S1 => rw [q] at P0; exact fun φ1 H1 n1 R1 cls dd xr _ => P0 φ1 H1 n1 R1 cls dd xr
    | bad => rw [q] at P0; exact P0
  refine P1.imp fun φ1 H1 S1 fl n1 R1 P2 => ?_
  cases fl with
  | nx e => exact fun σ1 E1 => Pst.now P2 R1 .non (by simp only [VRel])
  | rt d => exact Pst.now P2 R1
  | bk e => exact P2.elim
  | ct e => exact P2.elim
theorem fn_is {y : Str} (F : FunD G.K x qual params body scope [] kws f fd) (hm : G.mg y = some (.ref f)) (Sc : FnScope N ps scope) (hn : ps.length = n)
    (hbi : ∀ (kV doc pm : Value) (an : Option Addr) (cdv ct : Value) (us : List Value), us.length = ps.length → bindArgs (PySem.W.fnOf x qual params body scope .none kV doc pm an cdv ct) ⟨us, []⟩ = pure (ps.zip us))
    (hb : PSsx ⟨G, k, N, scope, fun _ => true, none, false⟩ body b) : FnIs G (k + 1) y n (mkFn N.length b) :=
  ⟨f, fd, ps, hn, fn_ok F Sc hn hb, hm, F.kp, F.bindsN hbi⟩
theorem fn_isC {y : Str} (F : FunD G.K x qual params body scope [] kws f fd) (hm : G.mg y = some (.ref f)) (Sc : FnScope N ps scope) (hn : ps.length = n)
    (hbi : ∀ (kV doc pm : Value) (an : Option Addr) (cdv ct : Value) (us : List Value), us.length = ps.length → bindArgs (PySem.W.fnOf x qual params body scope .none kV doc pm an cdv ct) ⟨us, []⟩ = pure (ps.zip us))
    (hb : PSsx ⟨G, k, N, scope, fun _ => true, some (qual ++ ".<locals>.", codeF G.K f), false⟩ body b) : FnIs G (k + 1) y n (mkFn N.length b) :=
  ⟨f, fd, ps, hn, fn_okC F Sc hn hb, hm, F.kp, F.bindsN hbi⟩
end
def dCall (F : Fn) (r : DA) : DE := fun env S => (r env S).bind fun xs S1 => F xs S1
section
variable {C : Cp} {e : Expr} {es : List Expr} {dr : DA} {x : Str} {p pos : Pos} {k n : Nat} {F : Fn}
theorem pex_call (h : FnIs C.G k x n F) (hk : k ≤ C.k) (hg : glB C x = true) (ha : PAx C (e :: es) dr) (hn : ∀ env S xs S', dr env S = .ok xs S' → xs.length = n) (hdb : (x == ("__debug__" : Str)) = false := by decide +kernel)
    (he : ∀ env, starEach (e :: es) env = (false, eval e env) :: starEach es env := by intro _; rfl) (hpl : ∀ env, (backTo pos (starEach es env)).any (·.1) = false := by intro _; rfl) : PEx C (.Call (.Name x p) (e :: es) [] pos) (dCall F dr) := fun X W hx => by
  obtain ⟨f, fd, ps, _, ok, hm, kp, hb⟩ := h.ex
  refine pe_imp (pe_callS (by rw [hx.prog, hx.w, hx.K, hx.mg, hx.base]; exact ok) (hx.room.mono hk) (glB_ok hg hx) (by rw [hx.mg]; exact hm) (by rw [hx.K]; exact kp) (by rw [hx.K]; exact hb) (E := WE W) (fun σ => by rw [← hx.prog, ← hx.w]; exact passAt hx.takes σ) (ha X W hx) hdb (he X.env) (hpl X.env)) fun σ H Q ⟨φ, S, env, R, E, P⟩ => ?_
  have P0 := P.bind
  cases q : dr env S with
  | bad => rw [q] at P0; exact P0.elim
  | er y S1 => rw [q] at P0; exact ⟨φ, S, env, R, E, by rw [q]; exact P0⟩
  | ok xs S1 =>
    rw [q] at P0
    refine ⟨φ, S, env, R, E, ?_⟩
    rw [q]
    exact fun φ1 H1 n1 R1 vs rs => ⟨φ1, S1, xs, R1, rs, hn env S xs S1 q, P0 φ1 H1 n1 R1⟩
theorem pex_call0 (h : FnIs C.G k x 0 F) (hk : k ≤ C.k) (hg : glB C x = true) (hdb : (x == ("__debug__" : Str)) = false := by decide +kernel) : PEx C (.Call (.Name x p) [] [] pos) (dCall F dNil) := fun X W hx => by
  obtain ⟨f, fd, ps, _, ok, hm, kp, hb⟩ := h.ex
  refine ⟨fun pins s σ H Q I ⟨φ, S, env, R, E, P⟩ => ?_⟩
  refine wpAny_Call_Name_kw (ld_glob I (glB_ok hg hx) (by rw [hx.mg]; exact hm) ?_ hdb)
  refine PySem.W.callWith_K0 I.kIn (by rw [hx.K]; exact kp) (run_fnS (us := []) (vs := []) (by rw [hx.prog, hx.w, hx.K, hx.mg, hx.base]; exact ok) (hx.room.mono hk) (by rw [hx.K]; exact hb) (E := WE W) (by rw [← hx.prog, ← hx.w]; exact passAt hx.takes σ) I .nil ?_)
  exact ⟨φ, S, [], R, VRels.nil, rfl, P⟩
end

/-! ### list comprehensions -/
def DTs := DT
def tYes1 : DT := fun _ S => .ok true S
def wipeE (env : En) : List Nat → En
  | [] => env
  | v :: vs => (wipeE env vs).set v none
/-- nothing may be raised -/
def Res.cut {α : Type} : Res α → Res α
  | .ok a S => .ok a S
  | _ => .bad
@[simp] theorem Res.cut_ok {α : Type} (a : α) (S : Store) : (Res.ok a S).cut = .ok a S := rfl
theorem Pst.cut {α : Type} {G : Glo} {B B' : Value → Option Addr → Hp → Prop} {φ : List Addr} {H : Hp} {K : List Addr → Hp → Store → α → Prop} {r : Res α} (h : Pst G B φ H K r.cut) : Pst G B' φ H K r := by
  cases r with
  | ok a S => exact h
  | er x S => exact h.elim
  | bad => exact h.elim
theorem Pst.cut_bind {α β : Type} {G : Glo} {B : Value → Option Addr → Hp → Prop} {φ : List Addr} {H : Hp} {K : List Addr → Hp → Store → β → Prop} {r : Res α} {f : α → Store → Res β} (h : Pst G B φ H K (r.cut.bind f)) : ∃ a S, r = .ok a S ∧ Pst G B φ H K (f a S) := by
  cases r with
  | ok a S => exact ⟨a, S, rfl, h⟩
  | er x S => exact h.elim
  | bad => exact h.elim
theorem Res.bind_assoc {α β γ : Type} (r : Res α) (f : α → Store → Res β) (g : β → Store → Res γ) : (r.bind f).bind g = r.bind fun a S => (f a S).bind g := by cases r <;> rfl
def lcGo (J : Itd) (g : DG) (t : DT) (b : DE) (env : En) : Nat → Nat → List D → Store → Res (List D)
  | 0, _, _, _ => .bad
  | n + 1, i, acc, S => match J i S with
    | none => .bad
    | some none => .ok acc S
    | some (some d) => (g d env S).cut.bind fun env1 S1 => (t env1 S1).cut.bind fun k S2 => if k = true then (b env1 S2).cut.bind fun y S3 => if acc.length < sl then lcGo J g t b env n (i + 1) (acc ++ [y]) S3 else .bad
      else lcGo J g t b env n (i + 1) acc S2
def dLc (it : DI) (g : DG) (t : DT) (b : DE) (own : List Nat) : DE := fun env S => (it env S).bind fun J S1 => (lcGo J g t b (wipeE env own) FUEL 0 [] S1).bind fun acc S2 => .ok (.ref S2.length) (S2 ++ [.lst acc])
/-- the place within a comprehension's block -/
def Cp.blk (C : Cp) (scope : Scope) : Cp := ⟨C.G, C.k, C.N, relS scope C.sc, fun x => scope.names.lookup x == some .cell, none, C.gd⟩
def PTsx (C : Cp) (ifs : List Expr) (t : DT) : Prop := ∀ X W, Cxt C W X → PTs X ifs (rdT C.G W t)
theorem pts_imp {X : Cx} {es : List Expr} {t t' : TT} (h : PTs X es t) (k : ∀ σ H Q, t' σ H Q → t σ H Q) : PTs X es t' := ⟨fun pins s σ H Q I q => h.run pins s σ H Q I (k σ H Q q)⟩
theorem ptsx_nil {C : Cp} : PTsx C [] tYes1 := fun X W h => pts_imp pts_nil fun σ H Q ⟨φ, S, env, R, E, P⟩ => Pst.now P R
theorem ptsx_one {C : Cp} {c : Expr} {t : DT} (h : PTx C c t) : PTsx C [c] t := fun X W hx => pts_one (h X W hx)
/-- nothing is let out -/
def W0 : WX := fun _ _ _ _ => False
theorem cxt_blk {C : Cp} {W : WX} {X : Cx} (h : Cxt C W X) {scope : Scope} {s : Shared} {H : Hp} {cn : Addr} {cl : List (Str × Addr)} {fp : List Addr} : Cxt (C.blk scope) W0 (X.blk s H scope (compEnvC scope cl cn X.env) fp) where
  prog := h.prog
  w := h.w
  K := h.K
  mg := h.mg
  base := h.base
  N := h.N
  sc := by show relS scope X.env.scope = relS scope C.sc; rw [h.sc]
  fn := rfl
  room := h.room
  calm := h.calm
  takes := L2.takes0
  pass := PassesOwn.never
  cd := fun _ _ z => nomatch z
  gd := h.gd
  ind := fun _ _ _ _ _ z => z
theorem ERel.wipe {G : Glo} {φ : List Addr} {H : Hp} {env : En} {σ : St} (h : ERel G φ H env σ) : ∀ vs : List Nat, ERel G φ H (wipeE env vs) (wipe σ vs)
  | [] => h
  | v :: vs => ERel.unset (ERel.wipe h vs)
theorem wipe_same {σ σ' : St} {vs : List Nat} (h : ∀ j : Nat, j ∉ vs → σ'[j]? = (L2.wipe σ vs)[j]?) (hl : σ'.length = σ.length) : L2.wipe σ' vs = L2.wipe σ vs := by
  refine List.ext_getElem? fun i => ?_
  by_cases hi : i ∈ vs
  · have wn : ∀ (τ : St) (us : List Nat), i ∈ us → i < τ.length → (L2.wipe τ us)[i]? = some none := by
      intro τ us
      induction us with
      | nil => intro z; cases z
      | cons u us ih =>
        intro z hlt
        show ((L2.wipe τ us).set u none)[i]? = some none
        by_cases e : u = i
        · subst e
          rw [List.getElem?_set_self (by rw [L2.wipe_length]; exact hlt)]
        · rw [List.getElem?_set_ne e]
          exact ih ((List.mem_cons.mp z).resolve_left (Ne.symm e)) hlt
    by_cases hlt : i < σ.length
    · rw [wn σ' vs hi (by rw [hl]; exact hlt), wn σ vs hi hlt]
    · rw [List.getElem?_eq_none (by rw [L2.wipe_length, hl]; omega), List.getElem?_eq_none (by rw [L2.wipe_length]; omega)]
  · rw [L2.wipe_out hi, h i hi]
section
variable {C : Cp} {elt tg iter : Expr} {ifs : List Expr} {scope : Scope} {own : List (Str × Nat)} {pos : Pos} {it : DI} {g : DG} {t : DT} {b : DE} {vs : List Nat}
theorem nxt_over {φ0 φ : List Addr} {H0 H : Hp} {p : Addr} {o : HO} (n : Nxt φ0 φ H0 H) (h : H0 p = none) (nt : NT o := by trivial) : Nxt φ0 φ H0 (upd H p o) :=
  ⟨n.ext, ⟨fun a xs e => by rw [upd_ne (ne_of_none e h)]; exact n.grow.tup a xs e, fun a ob u e => by rw [upd_ne (ne_of_none e h)]; exact n.grow.frz a ob u e, fun a fs e => by rw [upd_ne (ne_of_none e h)]; exact n.grow.xds a fs e, fun a b e => by rw [upd_ne (ne_of_none e h)]; exact n.grow.owns a b e⟩, fun b u e nb st => by rw [upd_ne (ne_of_none e h)]; exact n.frame b u e nb st,
    fun b u e z => let ⟨u', q, z'⟩ := n.there b u e z; there_upd nt b u' q z'⟩
theorem grow_lst {H : Hp} {p : Addr} {vs us : List V} (h : H p = some (.lst vs)) : Grow H (upd H p (.lst us)) := Grow.mut h trivial
/-- the turns -/
theorem rd_lc {W : WX} {σ : St} {H : Hp} {Q : VK} (hv : ∀ j ∈ vs, j ∈ own.map (·.2)) (h : rdE C.G W (dLc it g t b (own.map (·.2))) σ H Q) : tLc (rdI C.G W it) (rdG C.G W0 vs g) (rdT C.G W0 t) (rdE C.G W0 b) (own.map (·.2)) σ H Q := by
  obtain ⟨φ, S, env, R, E, P⟩ := h
  refine ⟨φ, S, env, R, E, P.bind.imp fun φ1 H1 S1 J n1 R1 P1 Jx hJ Da hD => ?_⟩
  have E1 : ERel C.G φ1 H1 (wipeE env (own.map (·.2))) (L2.wipe σ (own.map (·.2))) := (E.nxt n1).wipe _
  refine ⟨fun i m H' => ∃ φ' S' acc vs', Rel C.G φ' S' H' ∧ Nxt φ1 φ' H1 H' ∧ Da ∉ φ' ∧ H' Da = some (.lst vs') ∧ VRels C.G φ' H' acc vs' ∧
    Pst C.G (fun c p H' => W c p σ H') φ1 H1 (fun φ' H' _ x => ∀ v, VRel C.G φ' H' x v → Q v H') ((lcGo J g t b (wipeE env (own.map (·.2))) m i acc S').bind fun acc S2 => .ok (.ref S2.length) (S2 ++ [.lst acc])), ⟨FUEL, φ1, S1, [], [], ?_⟩, ?_⟩
  · exact ⟨R1.mute (R1.notmem hD) (Grow.new hD) (nx_none hD), nxt_over (Nxt.refl _ _) hD, R1.notmem hD, upd_same, VRels.nil, P1⟩
  · rintro i m H2 ⟨φ2, S2, acc, us, R2, n2, nd, hDa, rs, P3⟩
    cases m with
    | zero => exact P3.elim
    | succ m =>
      unfold lcGo at P3
      cases q : J i S2 with
      | none => rw [q] at P3; exact P3.elim
      | some o =>
        rw [q] at P3
        cases o with
        | none =>
          refine .inl ⟨hJ.stop i φ2 S2 H2 n2 R2 q, ?_⟩
          have f : ∀ (i : Nat) (a : Addr), φ2[i]? = some a → (φ2 ++ [Da])[i]? = some a := fun i a e => by rw [List.getElem?_append_left (List.getElem?_eq_some_iff.mp e).1]; exact e
          have R3 : Rel C.G (φ2 ++ [Da]) (S2 ++ [.lst acc]) H2 := R2.adopt nd ⟨us, hDa, rs.up f (Grow.refl _)⟩
          obtain ⟨ψ, e, fr⟩ := n2.ext
          have n3 : Nxt φ1 (φ2 ++ [Da]) H1 H2 := ⟨⟨ψ ++ [Da], by rw [e, List.append_assoc], fun q z => by
            rcases List.mem_append.mp z with z | z
            · exact fr q z
            · rw [List.mem_singleton.mp z, hD]; intro _ e; cases e⟩, n2.grow, n2.frame, n2.there⟩
          have P4 := P3 (φ2 ++ [Da]) H2 n3 R3 (.ref Da)
          refine P4 ?_
          simp only [VRel]
          exact ⟨Da, rfl, by rw [← R2.len]; simp⟩
        | some d =>
          obtain ⟨go, yld⟩ := hJ.go i φ2 S2 H2 d n2 R2 q
          refine .inr ⟨go, _, fun H' w => ⟨m, Nat.lt_succ_self m, w⟩, fun x H' y => ?_⟩
          obtain ⟨ny, Ry, ry⟩ := yld x H' y
          dsimp only at P3
          rw [Res.bind_assoc] at P3
          obtain ⟨env3, S3, e3, P4⟩ := P3.cut_bind
          have hDy : H' Da = some (.lst us) := ny.frame _ _ hDa nd trivial
          refine ⟨φ2, S2, _, d, Ry, (E1.nxt n2).nxt ny, ry, ?_⟩
          rw [e3]
          intro φ3 H3 n3 R3 σ3 E3 l3 k3
          refine ⟨wipe_same (fun j hj => k3 j fun z => hj (hv j z)) (by rw [l3, L2.wipe_length]), φ3, S3, env3, R3, E3, ?_⟩
          rw [Res.bind_assoc] at P4
          obtain ⟨k, S4, e4, P5⟩ := P4.cut_bind
          rw [e4]
          intro φ4 H4 n4 R4
          have nd3 : Da ∉ φ3 := n3.notin hDy nd
          have hD3 : H3 Da = some (.lst us) := n3.frame _ _ hDy nd trivial
          have nd4 : Da ∉ φ4 := n4.notin hD3 nd3
          have hD4 : H4 Da = some (.lst us) := n4.frame _ _ hD3 nd3 trivial
          have nn : Nxt φ1 φ4 H1 H4 := ((n2.trans ny).trans n3).trans n4
          have rs4 : VRels C.G φ4 H4 acc us := ((rs.nxt ny).nxt n3).nxt n4
          cases k with
          | false => exact iteF ⟨φ4, S4, acc, us, R4, nn, nd4, hD4, rs4, P5⟩
          | true =>
            refine iteT ⟨φ4, S4, env3, R4, E3.nxt n4, ?_⟩
            rw [if_pos rfl, Res.bind_assoc] at P5
            obtain ⟨y5, S5, e5, P6⟩ := P5.cut_bind
            rw [e5]
            intro φ5 H5 n5 R5 v5 r5
            have hD5 : H5 Da = some (.lst us) := n5.frame _ _ hD4 nd4 trivial
            have nd5 : Da ∉ φ5 := n5.notin hD4 nd4
            split at P6
            · rename_i hlt
              have g5 : Grow H5 (upd H5 Da (.lst (us ++ [v5]))) := grow_lst hD5
              refine ⟨us, hD5, by rw [sl_eq, ← rs4.length]; exact hlt, φ5, S5, acc ++ [y5], us ++ [v5], R5.mute nd5 g5 (nx_some hD5), nxt_over (nn.trans n5) hD, nd5, upd_same, ?_, P6⟩
              exact ((rs4.nxt n5).append (VRels.cons r5 VRels.nil)).up (fun _ _ q => q) g5
            · exact P6.elim
theorem pex_lc (nd : C.N.Nodup) (hi : PIx C tg iter it) (ok : blkC C.N C.sc scope own = true) (hg : PGx (C.blk scope) tg vs g) (ht : PTsx (C.blk scope) ifs t) (he : PEx (C.blk scope) elt b) (hv : ∀ j ∈ vs, j ∈ own.map (·.2)) (hs : ∀ env x, foldedSetIterable iter env x = pure x := by intro _ _; rfl) :
    PEx C (.ListComp elt [⟨tg, iter, ifs, 0⟩] scope pos) (dLc it g t b (own.map (·.2))) := fun X W h => by
  refine pe_imp (pe_lc h.calm (by rw [h.N]; exact nd) (hi X W h) (by rw [h.N, h.sc]; exact blkOk_by ok) (fun s H cn cl fp => hg _ W0 (cxt_blk h)) (fun s H cn cl fp => ht _ W0 (cxt_blk h)) (fun s H cn cl fp => he _ W0 (cxt_blk h)) (hs X.env)) fun σ H Q => rd_lc hv
/-- name = [..] -/
theorem psx_setLc (i : Nat) {y : Str} {py spos : Pos} (nd : C.N.Nodup) (hy : C.N[i]? = some y) (hyl : C.sc.names.lookup y = some .local) (hi : PIx C tg iter it) (ok : blkC C.N C.sc scope own = true) (hg : PGx (C.blk scope) tg vs g) (ht : PTsx (C.blk scope) ifs t) (he : PEx (C.blk scope) elt b) (hv : ∀ j ∈ vs, j ∈ own.map (·.2))
    (hk : C.sc.kind = .function) (hl : (py.line == pos.line) = true) (ha : (scope.names.any fun (n, k) => n == y && (k == .local || k == .cell)) = false) (hs : ∀ env x, foldedSetIterable iter env x = pure x := by intro _ _; rfl) :
    PSx C (.Assign [.Name y py] (.ListComp elt [⟨tg, iter, ifs, 0⟩] scope pos) spos) (sAsg (dLc it g t b (own.map (·.2))) (gNm i)) := fun X W h => by
  refine ps_imp (ps_setLc (i := i) h.calm (by rw [h.N]; exact nd) (by rw [h.N]; exact hy) (by rw [h.sc]; exact hyl) (sw_true (by rw [h.sc]; exact hk) (by rw [h.sc]; exact hyl) hl ha) (hi X W h) (by rw [h.N, h.sc]; exact blkOk_by ok) (fun s H cn cl fp => hg _ W0 (cxt_blk h)) (fun s H cn cl fp => ht _ W0 (cxt_blk h)) (fun s H cn cl fp => he _ W0 (cxt_blk h)) (hs X.env)) fun D σ H ⟨φ, S, env, R, E, P⟩ => ?_
  refine rd_lc hv ⟨φ, S, env, R, E, (pst_err P.bind).imp fun φ1 H1 S1 x n1 R1 P1 v1 r1 => ?_⟩
  exact (Pst.now P1 R1 : FlP C.G D φ1 H1 (.nx _)) _ ((E.nxt n1).set r1)
end
end Z

/-! Z6: built-in functions and methods, indices, slices, stores to items. -/
namespace Z
open PySem PySem.Spec PyProof.Rows L2

/-! ### a built-in called -/
abbrev Bf := List D → Store → Option (D × Store)
def rdB (G : Glo) (f : Bf) : List V → Hp → VK → Prop := fun vs H Q => ∃ φ S ds, Rel G φ S H ∧ VRels G φ H ds vs ∧ PstV G φ H Q (f ds S)
def CallRx (C : Cp) (v : Value) (f : Bf) : Prop := ∀ X W, Cxt C W X → CallR X v (rdB C.G f)
def dCallB (f : Bf) (r : DA) : DE := fun env S => (r env S).bind fun xs S1 => ofO (f xs S1)
theorem CallRx.imp {C : Cp} {v : Value} {f : Bf} (r : Cx → List V → Hp → VK → Prop) (h : ∀ X W, Cxt C W X → CallR X v (r X)) (k : ∀ X W, Cxt C W X → ∀ φ S H ds vs Q, Rel C.G φ S H → VRels C.G φ H ds vs → PstV C.G φ H Q (f ds S) → r X vs H Q) : CallRx C v f :=
  fun X W hx pins s σ H vs us Q I rx ⟨φ, S, ds, R, r1, P⟩ => h X W hx pins s σ H vs us Q I rx (k X W hx φ S H ds vs Q R r1 P)
def orB (a b : Bf) : Bf := fun ds S => match a ds S with
  | some r => some r
  | none => b ds S
theorem CallRx.or {C : Cp} {v : Value} {a b : Bf} (ha : CallRx C v a) (hb : CallRx C v b) : CallRx C v (orB a b) :=
  fun X W hx pins s σ H vs us Q I rx ⟨φ, S, ds, R, r1, P⟩ => by
    unfold orB at P
    cases q : a ds S with
    | some r => rw [q] at P; exact ha X W hx pins s σ H vs us Q I rx ⟨φ, S, ds, R, r1, by rw [q]; exact P⟩
    | none => rw [q] at P; exact hb X W hx pins s σ H vs us Q I rx ⟨φ, S, ds, R, r1, P⟩
section
variable {C : Cp} {x : Str} {e : Expr} {es : List Expr} {dr : DA} {p pos : Pos} {f : Bf} {id T : String}
theorem rd_callB {G : Glo} {W : WX} {σ : St} {H : Hp} {Q : VK} (h : rdE G W (dCallB f dr) σ H Q) : tCB (rdB G f) (rdA G W dr) σ H Q := by
  obtain ⟨φ, S, env, R, E, P⟩ := h
  exact ⟨φ, S, env, R, E, P.bind.imp fun φ1 H1 S1 xs n1 R1 P1 vs rs => ⟨φ1, S1, xs, R1, rs, PstV.of P1⟩⟩
theorem pex_callB (hc : CallRx C (.builtin id) f) (hg : glB C x = true) (hm : C.G.mg x = none) (hv : bootBuiltins x = some (.builtin id)) (ha : PAx C (e :: es) dr) (hn : x ≠ "__name__" := by decide +kernel) (hdb : (x == ("__debug__" : Str)) = false := by decide +kernel)
    (he : ∀ env, starEach (e :: es) env = (false, eval e env) :: starEach es env := by intro _; rfl) (hpl : ∀ env, (backTo pos (starEach es env)).any (·.1) = false := by intro _; rfl) : PEx C (.Call (.Name x p) (e :: es) [] pos) (dCallB f dr) := fun X W h =>
  pe_imp (pe_callB (hc X W h) (glB_ok hg h) (by rw [h.mg]; exact hm) hv (ha X W h) hn hdb (he X.env) (hpl X.env)) fun _ _ _ => rd_callB
theorem pex_callTy (hc : CallRx C (.type T) f) (hg : glB C x = true) (hm : C.G.mg x = none) (hv : bootBuiltins x = some (.type T)) (ha : PAx C (e :: es) dr) (hn : x ≠ "__name__" := by decide +kernel) (hdb : (x == ("__debug__" : Str)) = false := by decide +kernel)
    (he : ∀ env, starEach (e :: es) env = (false, eval e env) :: starEach es env := by intro _; rfl) (hpl : ∀ env, (backTo pos (starEach es env)).any (·.1) = false := by intro _; rfl) : PEx C (.Call (.Name x p) (e :: es) [] pos) (dCallB f dr) := fun X W h =>
  pe_imp (pe_callTy (hc X W h) (glB_ok hg h) (by rw [h.mg]; exact hm) hv (ha X W h) hn hdb (he X.env) (hpl X.env)) fun _ _ _ => rd_callB
end
theorem rels1 {G : Glo} {φ : List Addr} {H : Hp} {d : D} {vs : List V} (h : VRels G φ H [d] vs) : ∃ v, vs = [v] ∧ VRel G φ H d v := by
  simp only [VRels] at h
  obtain ⟨u, us, e, r, rfl⟩ := h
  exact ⟨u, e, r⟩
theorem rels2 {G : Glo} {φ : List Addr} {H : Hp} {d e : D} {vs : List V} (h : VRels G φ H [d, e] vs) : ∃ v w, vs = [v, w] ∧ VRel G φ H d v ∧ VRel G φ H e w := by
  simp only [VRels] at h
  obtain ⟨u, us, e1, r, w, us', rfl, r', rfl⟩ := h
  exact ⟨u, w, e1, r, r'⟩
/-- one argument, two ints -/
def b1 (f : D → Store → Option (D × Store)) : Bf := fun ds S => match ds with
  | [d] => f d S
  | _ => none
def b2 (f : D → D → Store → Option (D × Store)) : Bf := fun ds S => match ds with
  | [d, e] => f d e S
  | _ => none
theorem b1_some {f : D → Store → Option (D × Store)} {G : Glo} {φ : List Addr} {H : Hp} {Q : VK} {ds : List D} {S : Store} {vs : List V} (h : PstV G φ H Q (b1 f ds S)) (r : VRels G φ H ds vs) : ∃ d v, vs = [v] ∧ VRel G φ H d v ∧ PstV G φ H Q (f d S) := by
  unfold b1 at h
  split at h
  · obtain ⟨v, e, q⟩ := rels1 r
    exact ⟨_, v, e, q, h⟩
  · exact h.elim
theorem b2_some {f : D → D → Store → Option (D × Store)} {G : Glo} {φ : List Addr} {H : Hp} {Q : VK} {ds : List D} {S : Store} {vs : List V} (h : PstV G φ H Q (b2 f ds S)) (r : VRels G φ H ds vs) : ∃ d e v w, vs = [v, w] ∧ VRel G φ H d v ∧ VRel G φ H e w ∧ PstV G φ H Q (f d e S) := by
  unfold b2 at h
  split at h
  · obtain ⟨v, w, e, q, q'⟩ := rels2 r
    exact ⟨_, _, v, w, e, q, q', h⟩
  · exact h.elim

/-! ### numbers -/
def fAbs : D → Store → Option (D × Store) := fun d S => match d with
  | .int i => some (.int (if i < 0 then -i else i), S)
  | _ => none
def fMax2 : D → D → Store → Option (D × Store) := oInt (fun _ _ => true) fun i j => .int (if j > i then j else i)
def fMin2 : D → D → Store → Option (D × Store) := oInt (fun _ _ => true) fun i j => .int (if j < i then j else i)
def fInt : D → Store → Option (D × Store) := fun d S => match d with
  | .int i => some (.int i, S)
  | .bl b => some (.int (if b = true then 1 else 0), S)
  | _ => none
def fLen : D → Store → Option (D × Store) := fun d S => match d with
  | .str x => if x.length ≤ sl then some (.int x.length, S) else none
  | .tup ds => some (.int ds.length, S)
  | .fls ds => some (.int ds.length, S)
  | .ref i => match S[i]? with
    | some (.lst ds) => some (.int ds.length, S)
    | _ => none
  | _ => none
def fStr : D → Store → Option (D × Store) := fun d S => match d with
  | .int i => if i.natAbs.log2 < 1920 then some (.str (toString i), S) else none
  | _ => none
/-- the items of what is walked -/
def itemsD (S : Store) : D → Option (List D)
  | .tup ds => some ds
  | .fls ds => some ds
  | .ref i => match S[i]? with
    | some (.lst ds) => some ds
    | _ => none
  | _ => none
theorem items_seq {G : Glo} {φ : List Addr} {S : Store} {H : Hp} (R : Rel G φ S H) {d : D} {v : V} (r : VRel G φ H d v) {ds : List D} (h : itemsD S d = some ds) : ∃ a vs, v = .ref a ∧ (SqL G.K H a vs ∨ SqT G.K H a vs) ∧ VRels G φ H ds vs := by
  cases d with
  | tup es =>
    cases h
    simp only [VRel] at r
    obtain ⟨a, vs, e, q, rs⟩ := r
    exact ⟨a, vs, e, .inr q, rs⟩
  | fls es =>
    cases h
    simp only [VRel] at r
    obtain ⟨a, vs, e, q, rs⟩ := r
    exact ⟨a, vs, e, .inl q.sq, rs⟩
  | ref i =>
    simp only [itemsD] at h
    split at h
    · rename_i es e
      cases h
      obtain ⟨a, vs, e, q, rs, _⟩ := sq_lst R r e
      exact ⟨a, vs, e, .inl (SqL.of q), rs⟩
    · cases h
  | _ => cases h
/-- the same of lists alone -/
def itemsL (S : Store) : D → Option (List D)
  | .fls ds => some ds
  | .ref i => match S[i]? with
    | some (.lst ds) => some ds
    | _ => none
  | _ => none
theorem items_lst {G : Glo} {φ : List Addr} {S : Store} {H : Hp} (R : Rel G φ S H) {d : D} {v : V} (r : VRel G φ H d v) {ds : List D} (h : itemsL S d = some ds) : ∃ a vs, v = .ref a ∧ SqL G.K H a vs ∧ VRels G φ H ds vs := by
  cases d with
  | fls es =>
    cases h
    simp only [VRel] at r
    obtain ⟨a, vs, e, q, rs⟩ := r
    exact ⟨a, vs, e, q.sq, rs⟩
  | ref i =>
    simp only [itemsL] at h
    split at h
    · rename_i es e
      cases h
      obtain ⟨a, vs, e, q, rs, _⟩ := sq_lst R r e
      exact ⟨a, vs, e, SqL.of q, rs⟩
    · cases h
  | _ => cases h
def fList : D → Store → Option (D × Store) := fun d S => (itemsD S d).map fun ds => (.ref S.length, S ++ [.lst ds])
def fTuple : D → Store → Option (D × Store) := fun d S => (itemsD S d).map fun ds => (.tup ds, S)
/-- all ints, all bools -/
def intsOf : List D → Option (List Int)
  | [] => some []
  | .int i :: r => (intsOf r).map (i :: ·)
  | _ :: _ => none
def blsOf : List D → Option (List Bool)
  | [] => some []
  | .bl b :: r => (blsOf r).map (b :: ·)
  | _ :: _ => none
theorem intsOf_eq : ∀ {ds : List D} {ns : List Int}, intsOf ds = some ns → ds = ns.map D.int
  | [], _, h => by cases h; rfl
  | .int i :: r, ns, h => by
    simp only [intsOf, Option.map_eq_some_iff] at h
    obtain ⟨ms, e, rfl⟩ := h
    rw [intsOf_eq e]; rfl
  | .non :: _, _, h => by cases h
  | .bl _ :: _, _, h => by cases h
  | .str _ :: _, _, h => by cases h
  | .tup _ :: _, _, h => by cases h
  | .ref _ :: _, _, h => by cases h
  | .st _ :: _, _, h => by cases h
  | .ty _ :: _, _, h => by cases h
  | .fls _ :: _, _, h => by cases h
@[simp] theorem intsOf_map : ∀ ns : List Int, intsOf (ns.map D.int) = some ns
  | [] => rfl
  | n :: ns => by simp [intsOf, intsOf_map ns]
theorem blsOf_eq : ∀ {ds : List D} {ns : List Bool}, blsOf ds = some ns → ds = ns.map D.bl
  | [], _, h => by cases h; rfl
  | .bl i :: r, ns, h => by
    simp only [blsOf, Option.map_eq_some_iff] at h
    obtain ⟨ms, e, rfl⟩ := h
    rw [blsOf_eq e]; rfl
  | .non :: _, _, h => by cases h
  | .int _ :: _, _, h => by cases h
  | .str _ :: _, _, h => by cases h
  | .tup _ :: _, _, h => by cases h
  | .ref _ :: _, _, h => by cases h
  | .st _ :: _, _, h => by cases h
  | .ty _ :: _, _, h => by cases h
  | .fls _ :: _, _, h => by cases h
@[simp] theorem blsOf_map : ∀ ns : List Bool, blsOf (ns.map D.bl) = some ns
  | [] => rfl
  | n :: ns => by simp [blsOf, blsOf_map ns]
theorem rel_ints {G : Glo} {φ : List Addr} {H : Hp} : ∀ {ns : List Int} {vs : List V}, VRels G φ H (ns.map D.int) vs → vs = ns.map V.int
  | [], _, h => by simpa [VRels] using h
  | n :: ns, _, h => by
    simp only [List.map_cons, VRels, VRel] at h
    obtain ⟨u, us, rfl, rfl, rs⟩ := h
    rw [rel_ints rs]; rfl
theorem ints_rel {G : Glo} {φ : List Addr} {H : Hp} : ∀ (ns : List Int), VRels G φ H (ns.map D.int) (ns.map V.int)
  | [] => by simp [VRels]
  | n :: ns => by
    rw [List.map_cons, List.map_cons]
    exact VRels.cons (by simp only [VRel]) (ints_rel ns)
theorem rel_bls {G : Glo} {φ : List Addr} {H : Hp} : ∀ {ns : List Bool} {vs : List V}, VRels G φ H (ns.map D.bl) vs → vs = ns.map V.bl
  | [], _, h => by simpa [VRels] using h
  | n :: ns, _, h => by
    simp only [List.map_cons, VRels, VRel] at h
    obtain ⟨u, us, rfl, rfl, rs⟩ := h
    rw [rel_bls rs]; rfl
def fSum : D → Store → Option (D × Store) := fun d S => ((itemsL S d).bind intsOf).map fun ns => (.int ns.sum, S)
def maxI : List Int → Int
  | [] => 0
  | [a] => a
  | a :: r => max a (maxI r)
def minI : List Int → Int
  | [] => 0
  | [a] => a
  | a :: r => min a (minI r)
theorem maxI_le : ∀ {ns : List Int} {y : Int}, y ∈ ns → y ≤ maxI ns
  | [], _, h => by cases h
  | [a], y, h => by simp at h; subst h; exact Int.le_refl _
  | a :: b :: r, y, h => by
    show y ≤ max a (maxI (b :: r))
    rcases List.mem_cons.mp h with rfl | h
    · exact Int.le_max_left _ _
    · exact Int.le_trans (maxI_le h) (Int.le_max_right _ _)
theorem maxI_mem : ∀ {ns : List Int}, ns ≠ [] → maxI ns ∈ ns
  | [], h => absurd rfl h
  | [a], _ => List.mem_singleton.mpr rfl
  | a :: b :: r, _ => by
    show max a (maxI (b :: r)) ∈ a :: b :: r
    have q := maxI_mem (ns := b :: r) (by simp)
    rcases Int.le_total a (maxI (b :: r)) with h | h
    · rw [Int.max_eq_right h]; exact List.mem_cons_of_mem _ q
    · rw [Int.max_eq_left h]; exact List.mem_cons_self
theorem minI_le : ∀ {ns : List Int} {y : Int}, y ∈ ns → minI ns ≤ y
  | [], _, h => by cases h
  | [a], y, h => by simp at h; subst h; exact Int.le_refl _
  | a :: b :: r, y, h => by
    show min a (minI (b :: r)) ≤ y
    rcases List.mem_cons.mp h with rfl | h
    · exact Int.min_le_left _ _
    · exact Int.le_trans (Int.min_le_right _ _) (minI_le h)
theorem minI_mem : ∀ {ns : List Int}, ns ≠ [] → minI ns ∈ ns
  | [], h => absurd rfl h
  | [a], _ => List.mem_singleton.mpr rfl
  | a :: b :: r, _ => by
    show min a (minI (b :: r)) ∈ a :: b :: r
    have q := minI_mem (ns := b :: r) (by simp)
    rcases Int.le_total a (minI (b :: r)) with h | h
    · rw [Int.min_eq_left h]; exact List.mem_cons_self
    · rw [Int.min_eq_right h]; exact List.mem_cons_of_mem _ q
def fMaxL : D → Store → Option (D × Store) := fun d S => ((itemsL S d).bind intsOf).bind fun ns => if ns = [] then none else some (.int (maxI ns), S)
def fMinL : D → Store → Option (D × Store) := fun d S => ((itemsL S d).bind intsOf).bind fun ns => if ns = [] then none else some (.int (minI ns), S)
def fAll : D → Store → Option (D × Store) := fun d S => ((itemsL S d).bind blsOf).map fun bs => (.bl (bs.all id), S)
def fAny : D → Store → Option (D × Store) := fun d S => ((itemsL S d).bind blsOf).map fun bs => (.bl (bs.any id), S)
section
variable {C : Cp}
theorem cx_abs : CallRx C (.builtin "abs") (b1 fAbs) := CallRx.imp (fun _ => _) (fun _ _ _ => call_abs) fun X W hx φ S H ds vs Q R r P => by
  obtain ⟨d, v, rfl, rv, P⟩ := b1_some P r
  unfold fAbs at P
  split at P
  · simp only [VRel] at rv; subst rv
    exact ⟨_, rfl, P.now R (by simp only [VRel])⟩
  · exact P.elim
theorem cx_max2 : CallRx C (.builtin "max") (b2 fMax2) := CallRx.imp (fun _ => _) (fun _ _ hx => call_max2 hx.calm) fun X W hx φ S H ds vs Q R r P => by
  obtain ⟨d, e, v, w, rfl, rv, rw', P⟩ := b2_some P r
  obtain ⟨i, j, rfl, rfl, _, P⟩ := oInt_some P
  simp only [VRel] at rv rw'; subst rv rw'
  exact ⟨_, _, rfl, P.now R (by simp only [VRel])⟩
theorem cx_min2 : CallRx C (.builtin "min") (b2 fMin2) := CallRx.imp (fun _ => _) (fun _ _ hx => call_min2 hx.calm) fun X W hx φ S H ds vs Q R r P => by
  obtain ⟨d, e, v, w, rfl, rv, rw', P⟩ := b2_some P r
  obtain ⟨i, j, rfl, rfl, _, P⟩ := oInt_some P
  simp only [VRel] at rv rw'; subst rv rw'
  exact ⟨_, _, rfl, P.now R (by simp only [VRel])⟩
theorem cx_int : CallRx C (.type "int") (b1 fInt) := CallRx.imp (fun _ => _) (fun _ _ _ => call_int1) fun X W hx φ S H ds vs Q R r P => by
  obtain ⟨d, v, rfl, rv, P⟩ := b1_some P r
  unfold fInt at P
  split at P
  · simp only [VRel] at rv; subst rv
    exact .inl ⟨_, rfl, P.now R (by simp only [VRel])⟩
  · simp only [VRel] at rv; subst rv
    exact .inr ⟨_, rfl, P.now R (by simp only [VRel])⟩
  · exact P.elim
theorem cx_str : CallRx C (.type "str") (b1 fStr) := CallRx.imp (fun _ => _) (fun _ _ _ => call_str_int) fun X W hx φ S H ds vs Q R r P => by
  obtain ⟨d, v, rfl, rv, P⟩ := b1_some P r
  unfold fStr at P
  split at P
  · split at P
    · simp only [VRel] at rv; subst rv
      exact ⟨_, rfl, by assumption, P.now R (by simp only [VRel])⟩
    · exact P.elim
  · exact P.elim
theorem cx_len : CallRx C (.builtin "len") (b1 fLen) := CallRx.imp (fun _ => _) (fun _ _ _ => call_len) fun X W hx φ S H ds vs Q R r P => by
  obtain ⟨d, v, rfl, rv, P⟩ := b1_some P r
  rw [hx.K]
  cases d with
  | str x =>
    simp only [fLen] at P
    split at P
    · simp only [VRel] at rv; subst rv
      exact ⟨_, _, rfl, ⟨by rw [sl_eq]; assumption, rfl⟩, P.now R (by simp only [VRel])⟩
    · exact P.elim
  | tup es =>
    simp only [fLen] at P
    simp only [VRel] at rv
    obtain ⟨a, us, rfl, q, rs⟩ := rv
    exact ⟨_, _, rfl, .inr ⟨us, q, rfl⟩, by rw [← rs.length]; exact P.now R (by simp only [VRel])⟩
  | fls es =>
    simp only [fLen] at P
    simp only [VRel] at rv
    obtain ⟨a, us, rfl, q, rs⟩ := rv
    exact ⟨_, _, rfl, .inl ⟨us, q.sq, rfl⟩, by rw [← rs.length]; exact P.now R (by simp only [VRel])⟩
  | ref i =>
    simp only [fLen] at P
    split at P
    · rename_i es e
      obtain ⟨a, us, rfl, q, rs, _⟩ := sq_lst R rv e
      exact ⟨_, _, rfl, .inl ⟨us, SqL.of q, rfl⟩, by rw [← rs.length]; exact P.now R (by simp only [VRel])⟩
    · exact P.elim
  | _ => exact P.elim
theorem cx_list : CallRx C (.type "list") (b1 fList) := CallRx.imp (fun _ => _) (fun _ _ _ => call_list_of) fun X W hx φ S H ds vs Q R r P => by
  obtain ⟨d, v, rfl, rv, P⟩ := b1_some P r
  unfold fList at P
  cases q : itemsD S d with
  | none => rw [q] at P; exact P.elim
  | some es =>
    rw [q] at P
    obtain ⟨a, us, rfl, s, rs⟩ := items_seq R rv q
    rw [hx.K]
    exact ⟨a, us, rfl, s, fun l hl => PstV.lst P R rs hl⟩
theorem cx_tuple : CallRx C (.type "tuple") (b1 fTuple) := CallRx.imp (fun _ => _) (fun _ _ _ => call_tuple_of) fun X W hx φ S H ds vs Q R r P => by
  obtain ⟨d, v, rfl, rv, P⟩ := b1_some P r
  unfold fTuple at P
  cases q : itemsD S d with
  | none => rw [q] at P; exact P.elim
  | some es =>
    rw [q] at P
    rw [hx.K]
    cases d with
    | tup fs =>
      cases q
      have rv' := rv
      simp only [VRel] at rv
      obtain ⟨a, us, rfl, s, rs⟩ := rv
      exact ⟨a, us, rfl, .inr ⟨s, P.now R rv'⟩⟩
    | fls fs =>
      cases q
      simp only [VRel] at rv
      obtain ⟨a, us, rfl, s, rs⟩ := rv
      exact ⟨a, us, rfl, .inl ⟨s.sq, fun l hl => PstV.tup P R rs hl⟩⟩
    | ref i =>
      simp only [itemsD] at q
      split at q
      · rename_i fs e
        cases q
        obtain ⟨a, us, rfl, s, rs, _⟩ := sq_lst R rv e
        exact ⟨a, us, rfl, .inl ⟨SqL.of s, fun l hl => PstV.tup P R rs hl⟩⟩
      · cases q
    | _ => cases q
theorem ints_lst {φ : List Addr} {S : Store} {H : Hp} (R : Rel C.G φ S H) {d : D} {v : V} (r : VRel C.G φ H d v) {ns : List Int} (h : (itemsL S d).bind intsOf = some ns) : ∃ a, v = .ref a ∧ SqL C.G.K H a (ns.map V.int) := by
  obtain ⟨es, q, e⟩ := Option.bind_eq_some_iff.mp h
  obtain ⟨a, us, rfl, s, rs⟩ := items_lst R r q
  rw [intsOf_eq e] at rs
  rw [rel_ints rs] at s
  exact ⟨a, rfl, s⟩
theorem bls_lst {φ : List Addr} {S : Store} {H : Hp} (R : Rel C.G φ S H) {d : D} {v : V} (r : VRel C.G φ H d v) {ns : List Bool} (h : (itemsL S d).bind blsOf = some ns) : ∃ a, v = .ref a ∧ SqL C.G.K H a (ns.map V.bl) := by
  obtain ⟨es, q, e⟩ := Option.bind_eq_some_iff.mp h
  obtain ⟨a, us, rfl, s, rs⟩ := items_lst R r q
  rw [blsOf_eq e] at rs
  rw [rel_bls rs] at s
  exact ⟨a, rfl, s⟩
theorem cx_sum : CallRx C (.builtin "sum") (b1 fSum) := CallRx.imp (fun X => rSum X.K) (fun _ _ hx => cr_sum hx.calm) fun X W hx φ S H ds vs Q R r P => by
  obtain ⟨d, v, rfl, rv, P⟩ := b1_some P r
  unfold fSum at P
  cases q : (itemsL S d).bind intsOf with
  | none => rw [q] at P; exact P.elim
  | some ns =>
    rw [q] at P
    obtain ⟨a, rfl, s⟩ := ints_lst R rv q
    rw [hx.K]
    exact ⟨a, ns, rfl, s, P.now R (by simp only [VRel])⟩
theorem cx_maxL : CallRx C (.builtin "max") (b1 fMaxL) := CallRx.imp (fun X => rMax X.K) (fun _ _ hx => cr_max hx.calm) fun X W hx φ S H ds vs Q R r P => by
  obtain ⟨d, v, rfl, rv, P⟩ := b1_some P r
  unfold fMaxL at P
  cases q : (itemsL S d).bind intsOf with
  | none => rw [q] at P; exact P.elim
  | some ns =>
    rw [q] at P
    simp only [Option.bind_some] at P
    split at P
    · exact P.elim
    · rename_i hne
      obtain ⟨a, rfl, s⟩ := ints_lst R rv q
      rw [hx.K]
      refine ⟨a, ns, rfl, s, List.length_pos_iff.mpr hne, fun m hm hy => ?_⟩
      have e : m = maxI ns := Int.le_antisymm (maxI_le hm) (hy _ (maxI_mem hne))
      subst e
      exact P.now R (by simp only [VRel])
theorem cx_minL : CallRx C (.builtin "min") (b1 fMinL) := CallRx.imp (fun X => rMin X.K) (fun _ _ hx => cr_min hx.calm) fun X W hx φ S H ds vs Q R r P => by
  obtain ⟨d, v, rfl, rv, P⟩ := b1_some P r
  unfold fMinL at P
  cases q : (itemsL S d).bind intsOf with
  | none => rw [q] at P; exact P.elim
  | some ns =>
    rw [q] at P
    simp only [Option.bind_some] at P
    split at P
    · exact P.elim
    · rename_i hne
      obtain ⟨a, rfl, s⟩ := ints_lst R rv q
      rw [hx.K]
      refine ⟨a, ns, rfl, s, List.length_pos_iff.mpr hne, fun m hm hy => ?_⟩
      have e : m = minI ns := Int.le_antisymm (hy _ (minI_mem hne)) (minI_le hm)
      subst e
      exact P.now R (by simp only [VRel])
theorem cx_all : CallRx C (.builtin "all") (b1 fAll) := CallRx.imp (fun X => rAll X.K) (fun _ _ hx => cr_all hx.calm) fun X W hx φ S H ds vs Q R r P => by
  obtain ⟨d, v, rfl, rv, P⟩ := b1_some P r
  unfold fAll at P
  cases q : (itemsL S d).bind blsOf with
  | none => rw [q] at P; exact P.elim
  | some ns =>
    rw [q] at P
    obtain ⟨a, rfl, s⟩ := bls_lst R rv q
    rw [hx.K]
    exact ⟨a, ns, rfl, s, P.now R (by simp only [VRel])⟩
theorem cx_any : CallRx C (.builtin "any") (b1 fAny) := CallRx.imp (fun X => rAny X.K) (fun _ _ hx => cr_any hx.calm) fun X W hx φ S H ds vs Q R r P => by
  obtain ⟨d, v, rfl, rv, P⟩ := b1_some P r
  unfold fAny at P
  cases q : (itemsL S d).bind blsOf with
  | none => rw [q] at P; exact P.elim
  | some ns =>
    rw [q] at P
    obtain ⟨a, rfl, s⟩ := bls_lst R rv q
    rw [hx.K]
    exact ⟨a, ns, rfl, s, P.now R (by simp only [VRel])⟩
end
end Z

/-! Z7: indices, slices, stores to items, methods of lists, in, isinstance. -/
namespace Z
open PySem PySem.Spec PyProof.Rows L2

/-! ### indices -/
theorem VRels.atI {G : Glo} {φ : List Addr} {H : Hp} {ds : List D} {vs : List V} (h : VRels G φ H ds vs) {i : Int} {d : D} (e : atI ds i = some d) : ∃ v, atI vs i = some v ∧ VRel G φ H d v := by
  unfold L2.atI at e ⊢
  rw [← h.length]
  cases q : ixN ds.length i with
  | none => rw [q] at e; cases e
  | some j => rw [q] at e; exact h.get e
def oIx : Op2 := fun d e S => match e with
  | .int i => match d with
    | .str z => if z.length ≤ sl then (atI z.cps.toList i).map fun c => (.str ⟨#[c]⟩, S) else none
    | _ => (itemsD S d).bind fun ds => (atI ds i).map fun x => (x, S)
  | _ => none
section
variable {C : Cp}
theorem ixx : ∀ X W, Cxt C W X → IxR X (rdO C.G oIx) := fun X W hx value slice pins s σ H x y v u Q I rx ry ⟨φ, S, d, e, R, r1, r2, P⟩ hs => by
  unfold oIx at P
  cases e with
  | int i =>
    dsimp only at P
    simp only [VRel] at r2
    subst r2
    cases d with
    | str z =>
      simp only [VRel] at r1
      subst r1
      dsimp only at P
      split at P
      · cases q : atI z.cps.toList i with
        | none => rw [q] at P; exact P.elim
        | some c =>
          rw [q] at P
          exact ix_str value slice pins s σ H _ _ v u Q I rx ry ⟨z, i, c, rfl, rfl, by rw [sl_eq]; assumption, q, PstV.now P R (by simp only [VRel])⟩ hs
      · exact P.elim
    | _ =>
      dsimp only at P
      rename_i d0
      first
        | (cases q : itemsD S (.tup d0) with
          | none => rw [q] at P; exact P.elim
          | some ds =>
            cases q
            simp only [VRel] at r1
            obtain ⟨a, vs, rfl, sq, rs⟩ := r1
            cases q2 : atI d0 i with
            | none => simp only [itemsD, Option.bind_some, q2] at P; exact P.elim
            | some w =>
              simp only [itemsD, Option.bind_some, q2] at P
              obtain ⟨z, ez, rz⟩ := rs.atI q2
              exact ix_tup value slice pins s σ H _ _ v u Q I rx ry ⟨a, vs, i, z, rfl, rfl, by rw [hx.K]; exact sq, ez, PstV.now P R rz⟩ hs)
        | skip
      all_goals first
        | (cases q : itemsL S (.fls d0) with
          | none => cases q
          | some ds =>
            cases q
            simp only [VRel] at r1
            obtain ⟨a, vs, rfl, sq, rs⟩ := r1
            cases q2 : atI d0 i with
            | none => simp only [itemsD, Option.bind_some, q2] at P; exact P.elim
            | some w =>
              simp only [itemsD, Option.bind_some, q2] at P
              obtain ⟨z, ez, rz⟩ := rs.atI q2
              exact ix_list value slice pins s σ H _ _ v u Q I rx ry ⟨a, vs, i, z, rfl, rfl, by rw [hx.K]; exact sq.sq, ez, PstV.now P R rz⟩ hs)
        | skip
      all_goals first
        | (cases q : itemsD S (.ref d0) with
          | none => rw [q] at P; exact P.elim
          | some ds =>
            rw [q] at P
            obtain ⟨a, vs, rfl, sq, rs⟩ := items_lst R r1 (show itemsL S (.ref d0) = some ds from q)
            cases q2 : atI ds i with
            | none => simp only [Option.bind_some, q2] at P; exact P.elim
            | some w =>
              simp only [Option.bind_some, q2] at P
              obtain ⟨z, ez, rz⟩ := rs.atI q2
              exact ix_list value slice pins s σ H _ _ v u Q I rx ry ⟨a, vs, i, z, rfl, rfl, by rw [hx.K]; exact sq, ez, PstV.now P R rz⟩ hs)
        | exact P.elim
  | _ => exact P.elim
end
section
variable {C : Cp} {a b : Expr} {da db : DE} {pos : Pos}
theorem pex_ix (ha : PEx C a da) (hb : PEx C b db) (hs : PlainIx b := by intro _ _; rfl) : PEx C (.Subscript a b pos) (dBin oIx da db) := fun X W h => pe_imp (pe_ix (ixx X W h) (ha X W h) (hb X W h) hs) fun _ _ _ => rd_bin
end

/-! ### slices -/
abbrev DP := En → Store → Res (Option Int)
def pNo : DP := fun _ S => .ok none S
def pAt (a : DE) : DP := fun env S => (a env S).bind fun x S1 => match x with
  | .int i => .ok (some i) S1
  | _ => .bad
def rdP (G : Glo) (W : WX) (d : DP) : TO := fun σ H Q => ∃ φ S env, Rel G φ S H ∧ ERel G φ H env σ ∧ Pst G (fun c p H' => W c p σ H') φ H (fun _ H' _ o => Q o H') (d env S)
def POx (C : Cp) (e : Option Expr) (d : DP) : Prop := ∀ X W, Cxt C W X → PO X e (rdP C.G W d)
theorem po_imp {X : Cx} {e : Option Expr} {t t' : TO} (h : PO X e t) (k : ∀ σ H Q, t' σ H Q → t σ H Q) : PO X e t' := ⟨fun pins s σ H Q I q => h.run pins s σ H Q I (k σ H Q q)⟩
def cutD {α : Type} (xs : List α) (lo hi : Option Int) : List α := (xs.drop (HT.sIx xs.length 0 lo)).take (HT.sIx xs.length xs.length hi - HT.sIx xs.length 0 lo)
def oSl (d : D) (lo hi : Option Int) (S : Store) : Option (D × Store) := match d with
  | .str z => if z.length ≤ sl then some (.str (cutS z lo hi), S) else none
  | .tup ds => some (.tup (cutD ds lo hi), S)
  | d => (itemsL S d).map fun ds => (.ref S.length, S ++ [.lst (cutD ds lo hi)])
def dSl (a : DE) (lo hi : DP) : DE := fun env S => (a env S).bind fun x S1 => (lo env S1).bind fun l S2 => (hi env S2).bind fun h S3 => ofO (oSl x l h S3)
theorem cut_rel {G : Glo} {φ : List Addr} {H : Hp} {ds : List D} {vs : List V} (h : VRels G φ H ds vs) (lo hi : Option Int) : VRels G φ H (cutD ds lo hi) (cutV vs lo hi) := by
  unfold cutD cutV
  rw [h.length]
  exact (h.drop _).take _
section
variable {C : Cp} {a b : Expr} {da db : DE} {pos p2 : Pos} {lo hi : Option Expr} {dl dh : DP}
theorem pox_no : POx C none pNo := fun X W h => po_imp po_none fun σ H Q ⟨φ, S, env, R, E, P⟩ => Pst.now P R
theorem pox_at (ha : PEx C a da) : POx C (some a) (pAt da) := fun X W h => by
  refine po_imp (po_some (ha X W h)) fun σ H Q ⟨φ, S, env, R, E, P⟩ => ?_
  refine ⟨φ, S, env, R, E, P.bind.imp fun φ1 H1 S1 x n1 R1 P1 v1 r1 => ?_⟩
  cases x with
  | int i => simp only [VRel] at r1; exact ⟨i, r1, Pst.now P1 R1⟩
  | _ => exact P1.elim
def rSlZ (G : Glo) : V → Option Int → Option Int → Hp → VK → Prop := fun x lo hi H Q => ∃ φ S d, Rel G φ S H ∧ VRel G φ H d x ∧ PstV G φ H Q (oSl d lo hi S)
theorem slx : ∀ X W, Cxt C W X → L2.SlR X (rSlZ C.G) := fun X W hx pins s σ H x v vl vu lo hi sl Q I rx hs pl pu ⟨φ, S, d, R, r, P⟩ => by
  cases d with
  | str z =>
    simp only [VRel] at r
    subst r
    simp only [oSl] at P
    split at P
    · exact sl_str pins s σ H _ v vl vu lo hi sl Q I rx hs pl pu ⟨z, rfl, by rw [sl_eq]; assumption, P.now R (by simp only [VRel])⟩
    · exact P.elim
  | tup ds =>
    have r' := r
    simp only [VRel] at r
    obtain ⟨a, vs, rfl, sq, rs⟩ := r
    refine sl_tupA pins s σ H _ v vl vu lo hi sl Q I rx hs pl pu ⟨a, vs, rfl, by rw [hx.K]; exact sq, fun e => ?_, fun _ p hp => PstV.tup P R (cut_rel rs lo hi) hp⟩
    refine P.now R ?_
    have : cutD ds lo hi = ds := by
      unfold cutD
      rw [rs.length, e.1, e.2]
      simp [← rs.length]
    rw [this]
    exact r'
  | fls ds =>
    simp only [VRel] at r
    obtain ⟨a, vs, rfl, sq, rs⟩ := r
    exact sl_list pins s σ H _ v vl vu lo hi sl Q I rx hs pl pu ⟨a, vs, rfl, by rw [hx.K]; exact sq.sq, fun p hp => PstV.lst P R (cut_rel rs lo hi) hp⟩
  | ref i =>
    cases q : itemsL S (.ref i) with
    | none => simp only [oSl, q] at P; exact P.elim
    | some ds =>
      simp only [oSl, q] at P
      obtain ⟨a, vs, rfl, sq, rs⟩ := items_lst R r q
      exact sl_list pins s σ H _ v vl vu lo hi sl Q I rx hs pl pu ⟨a, vs, rfl, by rw [hx.K]; exact sq, fun p hp => PstV.lst P R (cut_rel rs lo hi) hp⟩
  | _ => exact P.elim
theorem pex_sl (ha : PEx C a da) (hl : POx C lo dl) (hh : POx C hi dh) : PEx C (.Subscript a (.Slice lo hi none p2) pos) (dSl da dl dh) := fun X W h => by
  refine pe_imp (pe_slice (slx X W h) (ha X W h) (hl X W h) (hh X W h)) fun σ H Q ⟨φ, S, env, R, E, P⟩ => ?_
  refine ⟨φ, S, env, R, E, P.bind.imp fun φ1 H1 S1 x n1 R1 P1 v1 r1 => ?_⟩
  refine ⟨φ1, S1, env, R1, E.nxt n1, P1.bind.imp fun φ2 H2 S2 l n2 R2 P2 => ?_⟩
  refine ⟨φ2, S2, env, R2, (E.nxt n1).nxt n2, P2.bind.imp fun φ3 H3 S3 h n3 R3 P3 => ?_⟩
  exact ⟨φ3, S3, x, R3, (r1.nxt n2).nxt n3, PstV.of P3⟩
end

/-! ### o[i] = v, o[i] op= v -/
def setD (o i d : D) (S : Store) : Option Store := match o, i with
  | .ref r, .int k => match S[r]? with
    | some (.lst ds) => (ixN ds.length k).map fun j => S.set r (.lst (ds.set j d))
    | _ => none
  | _, _ => none
def ofS (o : Option Store) (env : En) : Res En := match o with
  | some S => .ok env S
  | none => .bad
@[simp] theorem ofS_some (S : Store) (env : En) : ofS (some S) env = .ok env S := rfl
def gSb (o i : DE) : DG := fun d env S => (o env S).bind fun x S1 => (i env S1).bind fun y S2 => ofS (setD x y d S2) env
def rdSet (G : Glo) : TSet := fun o i v H Q => ∃ φ S x y d, Rel G φ S H ∧ VRel G φ H x o ∧ VRel G φ H y i ∧ VRel G φ H d v ∧ match setD x y d S with
  | some S' => ∀ φ' H', Nxt φ φ' H H' → Rel G φ' S' H' → Q H'
  | none => False
section
variable {C : Cp} {a b e : Expr} {da db de : DE} {pos : Pos}
theorem setx : ∀ X W, Cxt C W X → PSet X (rdSet C.G) := fun X W hx pins s σ H o i v ov iv u Q I r1 r2 r3 ⟨φ, S, x, y, d, R, q1, q2, q3, P⟩ => by
  cases hS : setD x y d S with
  | none => rw [hS] at P; exact P.elim
  | some S' =>
    rw [hS] at P
    unfold setD at hS
    split at hS
    · rename_i r k
      split at hS
      · rename_i ds e
        simp only [Option.map_eq_some_iff] at hS
        obtain ⟨j, hj, rfl⟩ := hS
        obtain ⟨p, vs, rfl, q, rs, hp⟩ := sq_lst R q1 e
        simp only [VRel] at q2
        subst q2
        refine set_list pins s σ H _ _ v ov iv u Q I r1 r2 r3 ⟨p, vs, k, j, rfl, rfl, q, by rw [← rs.length]; exact hj, ?_⟩
        have n0 : Nxt φ φ H (upd H p (.lst (vs.set j v))) := Nxt.mut q trivial (List.mem_of_getElem? hp)
        obtain ⟨R', n'⟩ := R.set (o' := .lst (ds.set j d)) (u := .lst (vs.set j v)) hp e ⟨_, upd_same, (rs.set j q3).nxt n0⟩
        exact P φ _ n' R'
      · cases hS
    · cases hS
theorem pgx_sb (ha : PEx C a da) (hb : PEx C b db) (hs : ∀ env v, assign (.Subscript a b pos) env v = (do
      let ov ← holding [v] (eval a env)
      let iv ← holding [v, ov] (eval b env)
      standAt pos
      holding [v, ov, iv] (setItem ov iv v)
      release [v, ov, iv] []) := by intro _ _; rfl) : PGx C (.Subscript a b pos) [] (gSb da db) := fun X W h => by
  refine pg_imp (pg_sub (ha X W h) (hb X W h) (setx X W h) (hs X.env)) fun v σ H Q ⟨φ, S, env, d, R, E, r, P⟩ => ?_
  refine ⟨φ, S, env, R, E, (pst_err P.bind).imp fun φ1 H1 S1 x n1 R1 P1 v1 r1 => ?_⟩
  refine ⟨φ1, S1, env, R1, E.nxt n1, (pst_err P1.bind).imp fun φ2 H2 S2 y n2 R2 P2 v2 r2 => ?_⟩
  refine ⟨φ2, S2, x, y, d, R2, r1.nxt n2, r2, (r.nxt n1).nxt n2, ?_⟩
  cases q : setD x y d S2 with
  | none => rw [q] at P2; exact P2.elim
  | some S3 =>
    rw [q] at P2
    exact fun φ3 H3 n3 R3 => P2 φ3 H3 n3 R3 σ (((E.nxt n1).nxt n2).nxt n3) rfl fun _ _ => rfl
/-- name op= e -/
def sAug (i : Nat) (op : Op2) (a : DE) : DS := fun env S => match env[i]? with
  | some (some d) => (a env S).bind fun x S1 => (ofO (op d x S1)).bind fun y S2 => .ok (.nx (env.set i (some y))) S2
  | _ => .bad
theorem psx_aug (i : Nat) {o : Operator} {op : Op2} {x : Str} {px : Pos} (nd : C.N.Nodup) (hN : C.N[i]? = some x) (hl : locB C x = true) (ho : OpRx C (inplaceOp o) op) (ha : PEx C a da) : PSx C (.AugAssign (.Name x px) o a pos) (sAug i op da) := fun X W h => by
  obtain ⟨l1, l2⟩ := locB_ok hl h
  refine ps_imp (ps_aug (X := X) (i := i) (ti := rdO C.G op) (by rw [h.N]; exact nd) (by rw [h.N]; exact hN) l1 (ha X W h) (ho X W h) l2) fun D σ H ⟨φ, S, env, R, E, P⟩ => ?_
  unfold sAug at P
  split at P
  · rename_i d e
    obtain ⟨v, hv, r⟩ := E.2 i d e
    refine ⟨v, hv, φ, S, env, R, E, (pst_err P.bind).imp fun φ1 H1 S1 x n1 R1 P1 v1 r1 => ?_⟩
    refine ⟨φ1, S1, d, x, R1, r.nxt n1, r1, ?_⟩
    cases q : op d x S1 with
    | none => rw [q] at P1; exact P1.elim
    | some p =>
      obtain ⟨y, S2⟩ := p
      rw [q] at P1
      intro φ2 H2 n2 R2 w rw'
      exact (P1.nxt n2 |> fun P2 => (Pst.now P2 R2 : FlP C.G D φ2 H2 (.nx _))) _ (((E.nxt n1).nxt n2).set rw')
  · exact P.elim
/-- o[i], by values -/
theorem pget_list {X : Cx} : PGet X (rIxL X.K) := fun pins s σ H x y v u Q I rx ry h => by
  obtain ⟨p, xs, i, z, rfl, rfl, hq, he, q⟩ := h
  cases rx
  obtain ⟨t, rfl⟩ := ry
  obtain ⟨its, r, pl, hz⟩ := I.list hq
  obtain ⟨j, h1, h2, h3, h4, h5⟩ := atI_get he
  obtain ⟨w, ew, rw'⟩ := r.get h2
  have hl := r.length
  have hn := line63
  have fin : EP X pins σ Q w s := ⟨z, H, I, rw', q⟩
  by_cases h0 : 0 ≤ i
  · have hj : i.toNat = j := by
      rw [seqIndex_of h0 h5] at h1
      exact Option.some.inj h1
    exact wpAny_getItem_list pl.isList h0 (by omega) (by rw [hj]; simpa using ew) fin
  · have hj : (i + (its.toArray.size : Int)).toNat = j := by
      rw [seqIndex_neg (by omega) h4] at h1
      rw [List.size_toArray, ← hl]
      exact Option.some.inj h1
    exact wpAny_getItem_list_neg pl.isList (by omega) (by rw [List.size_toArray] <;> omega) (by omega) (by rw [hj]; simpa using ew) fin
def getL (o i : D) (S : Store) : Option D := match o, i with
  | .ref r, .int k => match S[r]? with
    | some (.lst ds) => atI ds k
    | _ => none
  | _, _ => none
def sAugS (o i : DE) (op : Op2) (a : DE) : DS := fun env S => (o env S).bind fun x S1 => (i env S1).bind fun y S2 => match getL x y S2 with
  | some old => (a env S2).bind fun w S3 => (ofO (op old w S3)).bind fun new S4 => match setD x y new S4 with
    | some S5 => .ok (.nx env) S5
    | none => .bad
  | none => .bad
theorem psx_augS {o : Operator} {op : Op2} {tpos : Pos} (ha : PEx C a da) (hb : PEx C b db) (ho : OpRx C (inplaceOp o) op) (he : PEx C e de)
    (hs : ∀ ov iv new, augStore b ov iv new = (do holding [new, ov, iv] (setItem ov iv new); release [new, ov, iv] []; pure .next) := by intros; rfl) : PSx C (.AugAssign (.Subscript a b tpos) o e pos) (sAugS da db op de) := fun X W h => by
  refine ps_imp (ps_augS (tip := rdO C.G op) (ha X W h) (hb X W h) pget_list (he X W h) (ho X W h) (setx X W h) hs) fun D σ H ⟨φ, S, env, R, E, P⟩ => ?_
  refine ⟨φ, S, env, R, E, (pst_err P.bind).imp fun φ1 H1 S1 x n1 R1 P1 v1 r1 => ?_⟩
  refine ⟨φ1, S1, env, R1, E.nxt n1, (pst_err P1.bind).imp fun φ2 H2 S2 y n2 R2 P2 v2 r2 => ?_⟩
  cases q : getL x y S2 with
  | none => rw [q] at P2; exact P2.elim
  | some old =>
    rw [q] at P2
    unfold getL at q
    split at q
    · rename_i r k
      split at q
      · rename_i ds es
        obtain ⟨p, vs, rfl, sq, rs, hp⟩ := sq_lst R2 (r1.nxt n2) es
        simp only [VRel] at r2
        subst r2
        obtain ⟨z, ez, rz⟩ := rs.atI q
        rw [h.K]
        refine ⟨p, vs, k, z, rfl, rfl, SqL.of sq, ez, φ2, S2, env, R2, (E.nxt n1).nxt n2, (pst_err P2.bind).imp fun φ3 H3 S3 w n3 R3 P3 v3 r3 => ?_⟩
        refine ⟨φ3, S3, old, w, R3, rz.nxt n3, r3, ?_⟩
        cases q3 : op old w S3 with
        | none => rw [q3] at P3; exact P3.elim
        | some pr =>
          obtain ⟨new, S4⟩ := pr
          rw [q3] at P3
          intro φ4 H4 n4 R4 v4 r4
          refine ⟨φ4, S4, .ref r, .int k, new, R4, (((r1.nxt n2).nxt n3).nxt n4), by simp only [VRel], r4, ?_⟩
          simp only [ofO_some, Res.bind_ok] at P3
          cases q4 : setD (.ref r) (.int k) new S4 with
          | none => rw [q4] at P3; exact P3.elim
          | some S5 =>
            rw [q4] at P3
            exact fun φ5 H5 n5 R5 => (P3 φ5 H5 (n4.trans n5) R5 : FlP C.G D φ5 H5 (.nx env)) σ (((((E.nxt n1).nxt n2).nxt n3).nxt n4).nxt n5)
      · cases q
    · cases q
end
/-! ### in-place operators -/
def mul64 (i j : Int) : Bool := (decide (-(2 ^ 64) < i) && decide (i < 2 ^ 64)) || (decide (-(2 ^ 64) < j) && decide (j < 2 ^ 64))
def oIMul : Op2 := oInt mul64 fun i j => .int (i * j)
section
variable {C : Cp}
theorem ipx_add : OpRx C (inplaceOp .Add) oAddI := opx_int0 (fun _ _ _ => iop_add) fun _ _ _ _ => by simp only [VRel]
theorem ipx_sub : OpRx C (inplaceOp .Sub) oSubI := opx_int0 (fun _ _ _ => iop_sub) fun _ _ _ _ => by simp only [VRel]
theorem ipx_mul : OpRx C (inplaceOp .Mult) oIMul := opx_int (fun _ _ _ => iop_mul) (fun i j h => by
  rcases Bool.or_eq_true_iff.mp h with h | h
  · obtain ⟨a, b⟩ := Bool.and_eq_true_iff.mp h
    exact .inl ⟨of_decide_eq_true a, of_decide_eq_true b⟩
  · obtain ⟨a, b⟩ := Bool.and_eq_true_iff.mp h
    exact .inr ⟨of_decide_eq_true a, of_decide_eq_true b⟩) fun _ _ _ _ => by simp only [VRel]
theorem ipx_div : OpRx C (inplaceOp .FloorDiv) oDivI := opx_int (fun _ _ _ => iop_fdivW) (fun i j h => by
  obtain ⟨a, b⟩ := Bool.and_eq_true_iff.mp h
  exact ⟨of_decide_eq_true a, of_decide_eq_true b⟩) fun _ _ _ _ => by simp only [VRel]
end
end Z

/-! Z8: methods of lists and texts, in, is, isinstance. -/
namespace Z
open PySem PySem.Spec PyProof.Rows L2

/-! ### methods -/
abbrev Mf := D → List D → Store → Option (D × Store)
def rdM (G : Glo) (f : Mf) : V → List V → Hp → VK → Prop := fun x vs H Q => ∃ φ S d ds, Rel G φ S H ∧ VRel G φ H d x ∧ VRels G φ H ds vs ∧ PstV G φ H Q (f d ds S)
def MtRx (C : Cp) (id : String) (f : Mf) : Prop := ∀ X W, Cxt C W X → MtR X id (rdM C.G f)
def isL (d : D) (S : Store) : Bool := match d with
  | .ref i => match S[i]? with
    | some (.lst _) => true
    | _ => false
  | _ => false
theorem isL_ok {G : Glo} {φ : List Addr} {S : Store} {H : Hp} (R : Rel G φ S H) {d : D} {v : V} (r : VRel G φ H d v) (h : isL d S = true) : tyV G.K "list" v H := by
  unfold isL at h
  split at h
  · split at h
    · rename_i i ds e
      obtain ⟨a, vs, rfl, q, _, _⟩ := sq_lst R r e
      exact .inl ⟨rfl, vs, SqL.of q⟩
    · cases h
  · cases h
def dMeth (ck : D → Store → Bool) (f : Mf) (o : DE) (r : DA) : DE := fun env S => (o env S).bind fun x S1 => if ck x S1 = true then (r env S1).bind fun xs S2 => ofO (f x xs S2) else .bad
section
variable {C : Cp} {o e : Expr} {es : List Expr} {dₒ : DE} {dr : DA} {name : Str} {id T : String} {f : Mf} {apos cpos : Pos} {ck : D → Store → Bool}
theorem pex_bm (pa : PlainAttrs T) (slot : Slot T name id) (hty : typeOf (.builtin id) = pure (.type "method_descriptor")) (hm : MtRx C id f) (hck : ∀ φ S H d v, Rel C.G φ S H → VRel C.G φ H d v → ck d S = true → tyV C.G.K T v H) (ho : PEx C o dₒ) (ha : PAx C (e :: es) dr)
    (hbase : ∀ env, attributeBase o name env (eval o env) = eval o env := by intro _; rfl)
    (hfew : ∀ env, ((backTo cpos (starEach (e :: es) env)).all (fun x => !x.1) && (backToKw cpos (keywordEach [] env)).all (fun x => x.1.isSome)
      && decide ((e :: es).length + ([] : List Keyword).length + (if ([] : List Keyword).isEmpty then 0 else 1) < 30)) = true := by intro _; rfl)
    (hline : (apos.endLine == cpos.line) = true := by rfl) (hs : ∀ env, starEach (e :: es) env = (false, eval e env) :: starEach es env := by intro _; rfl) (hplain : ∀ env, (backTo cpos (starEach es env)).any (·.1) = false := by intro _; rfl) :
    PEx C (.Call (.Attribute o name apos) (e :: es) [] cpos) (dMeth ck f dₒ dr) := fun X W h => by
  refine pe_imp (pe_bm pa slot hty (hm X W h) (ho X W h) (ha X W h) (hbase X.env) (hfew X.env) hline (hs X.env) (hplain X.env)) fun σ H Q ⟨φ, S, env, R, E, P⟩ => ?_
  refine ⟨φ, S, env, R, E, P.bind.imp fun φ1 H1 S1 x n1 R1 P1 v1 r1 => ?_⟩
  split at P1
  · rename_i hc
    rw [h.K]
    refine ⟨hck φ1 S1 H1 x v1 R1 r1 hc, φ1, S1, env, R1, E.nxt n1, P1.bind.imp fun φ2 H2 S2 xs n2 R2 P2 vs rs => ?_⟩
    exact ⟨φ2, S2, x, xs, R2, r1.nxt n2, rs, PstV.of P2⟩
  · exact P1.elim
theorem pex_bm0 (pa : PlainAttrs T) (slot : Slot T name id) (hty : typeOf (.builtin id) = pure (.type "method_descriptor")) (hm : MtRx C id f) (hck : ∀ φ S H d v, Rel C.G φ S H → VRel C.G φ H d v → ck d S = true → tyV C.G.K T v H) (ho : PEx C o dₒ)
    (hbase : ∀ env, attributeBase o name env (eval o env) = eval o env := by intro _; rfl) (hline : (apos.endLine == cpos.line) = true := by rfl) :
    PEx C (.Call (.Attribute o name apos) [] [] cpos) (dMeth ck f dₒ dNil) := fun X W h => by
  refine pe_imp (pe_bm0 pa slot hty (hm X W h) (ho X W h) (hbase X.env) hline) fun σ H Q ⟨φ, S, env, R, E, P⟩ => ?_
  refine ⟨φ, S, env, R, E, P.bind.imp fun φ1 H1 S1 x n1 R1 P1 v1 r1 => ?_⟩
  split at P1
  · rename_i hc
    rw [h.K]
    exact ⟨hck φ1 S1 H1 x v1 R1 r1 hc, φ1, S1, x, [], R1, r1, VRels.nil, PstV.of P1⟩
  · exact P1.elim
end
/-- a list method that changes it -/
def onL (d : D) (S : Store) (k : Nat → List D → Option (D × Store)) : Option (D × Store) := match d with
  | .ref i => match S[i]? with
    | some (.lst ds) => k i ds
    | _ => none
  | _ => none
theorem onL_some {G : Glo} {φ : List Addr} {S : Store} {H : Hp} {Q : VK} {d : D} {k : Nat → List D → Option (D × Store)} (h : PstV G φ H Q (onL d S k)) : ∃ i ds, d = .ref i ∧ S[i]? = some (.lst ds) ∧ PstV G φ H Q (k i ds) := by
  unfold onL at h
  split at h
  · split at h
    · exact ⟨_, _, rfl, by assumption, h⟩
    · exact h.elim
  · exact h.elim
/-- the list i changed, a value handed back -/
theorem PstV.put {G : Glo} {φ : List Addr} {S : Store} {H : Hp} {Q : VK} {i : Nat} {ds ds' : List D} {r : D} {p : Addr} {vs vs' : List V} {v : V} (h : PstV G φ H Q (some (r, S.set i (.lst ds')))) (R : Rel G φ S H) (e : S[i]? = some (.lst ds)) (hp : φ[i]? = some p) (q : H p = some (.lst vs)) (rs : VRels G φ H ds' vs') (rv : VRel G φ H r v) : Q v (upd H p (.lst vs')) := by
  have n0 : Nxt φ φ H (upd H p (.lst vs')) := Nxt.mut q trivial (List.mem_of_getElem? hp)
  obtain ⟨R', n'⟩ := R.set (o' := .lst ds') (u := .lst vs') hp e ⟨_, upd_same, rs.nxt n0⟩
  exact h φ _ n' R' v (rv.nxt n')
def mAppend : Mf := fun d xs S => match xs with
  | [x] => onL d S fun i ds => if ds.length < sl then some (.non, S.set i (.lst (ds ++ [x]))) else none
  | _ => none
def mExtend : Mf := fun d xs S => match xs with
  | [.ref j] => onL d S fun i ds => match S[j]? with
    | some (.lst es) => if ds.length + es.length ≤ sl then some (.non, S.set i (.lst (ds ++ es))) else none
    | _ => none
  | _ => none
def mPop : Mf := fun d xs S => match xs with
  | [] => onL d S fun i ds => (ds[ds.length - 1]?).map fun y => (y, S.set i (.lst ds.dropLast))
  | [.int k] => onL d S fun i ds => if -(2 ^ 63) ≤ k ∧ k < 2 ^ 63 then (seqIndex? k ds.length).bind fun j => (ds[j]?).map fun y => (y, S.set i (.lst (ds.eraseIdx j))) else none
  | _ => none
def mInsert : Mf := fun d xs S => match xs with
  | [.int k, x] => onL d S fun i ds => if ds.length < sl ∧ 0 ≤ k ∧ k < 2 ^ 63 then some (.non, S.set i (.lst (ds.take k.toNat ++ [x] ++ ds.drop k.toNat))) else none
  | _ => none
theorem VRels.dropLast {G : Glo} {φ : List Addr} {H : Hp} {ds : List D} {vs : List V} (h : VRels G φ H ds vs) : VRels G φ H ds.dropLast vs.dropLast := by
  rw [List.dropLast_eq_take, List.dropLast_eq_take, h.length]
  exact h.take _
theorem VRels.eraseIdx {G : Glo} {φ : List Addr} {H : Hp} {ds : List D} {vs : List V} (h : VRels G φ H ds vs) (j : Nat) : VRels G φ H (ds.eraseIdx j) (vs.eraseIdx j) := by
  rw [List.eraseIdx_eq_take_drop_succ, List.eraseIdx_eq_take_drop_succ]
  exact (h.take j).append (h.drop (j + 1))
section
variable {C : Cp}
theorem mtx_append : MtRx C "list.append" mAppend := fun X W hx pins s σ H x vs v us Q I r1 r2 ⟨φ, S, d, ds, R, q1, q2, P⟩ => by
  unfold mAppend at P
  split at P
  · rename_i y
    obtain ⟨i, es, rfl, e, P⟩ := onL_some P
    obtain ⟨p, ws, rfl, q, rs, hp⟩ := sq_lst R q1 e
    obtain ⟨w, rfl, rw'⟩ := rels1 q2
    split at P
    · exact mt_append pins s σ H _ _ v us Q I r1 r2 ⟨p, ws, w, rfl, rfl, q, by rw [sl_eq, ← rs.length]; assumption, P.put R e hp q (rs.append (VRels.cons rw' VRels.nil)) (by simp only [VRel])⟩
    · exact P.elim
  · exact P.elim
theorem mtx_extend : MtRx C "list.extend" mExtend := fun X W hx pins s σ H x vs v us Q I r1 r2 ⟨φ, S, d, ds, R, q1, q2, P⟩ => by
  unfold mExtend at P
  split at P
  · rename_i j
    obtain ⟨i, es, rfl, e, P⟩ := onL_some P
    obtain ⟨p, ws, rfl, q, rs, hp⟩ := sq_lst R q1 e
    obtain ⟨w, rfl, rw'⟩ := rels1 q2
    split at P
    · rename_i fs ef
      obtain ⟨b, ts, rfl, q', rs', _⟩ := sq_lst R rw' ef
      split at P
      · exact mt_extend pins s σ H _ _ v us Q I r1 r2 ⟨p, b, ws, ts, rfl, rfl, q, q', by rw [sl_eq, ← rs.length, ← rs'.length]; assumption, P.put R e hp q (rs.append rs') (by simp only [VRel])⟩
      · exact P.elim
    · exact P.elim
  · exact P.elim
theorem mtx_pop : MtRx C "list.pop" mPop := fun X W hx pins s σ H x vs v us Q I r1 r2 ⟨φ, S, d, ds, R, q1, q2, P⟩ => by
  unfold mPop at P
  split at P
  · obtain ⟨i, es, rfl, e, P⟩ := onL_some P
    obtain ⟨p, ws, rfl, q, rs, hp⟩ := sq_lst R q1 e
    have e0 : vs = [] := by simpa [VRels] using q2
    subst e0
    cases ey : es[es.length - 1]? with
    | none => rw [ey] at P; exact P.elim
    | some y =>
      rw [ey] at P
      obtain ⟨w, ew, rw'⟩ := rs.get ey
      exact mt_pop pins s σ H _ _ v us Q I r1 r2 ⟨p, ws, w, rfl, rfl, q, by rw [← rs.length]; exact ew, PstV.put P R e hp q rs.dropLast rw'⟩
  · rename_i k
    obtain ⟨i, es, rfl, e, P⟩ := onL_some P
    obtain ⟨p, ws, rfl, q, rs, hp⟩ := sq_lst R q1 e
    obtain ⟨w, rfl, rw'⟩ := rels1 q2
    simp only [VRel] at rw'
    subst rw'
    split at P
    · rename_i hk
      cases ej : seqIndex? k es.length with
      | none => rw [ej] at P; exact P.elim
      | some j =>
        rw [ej] at P
        simp only [Option.bind_some] at P
        cases ey : es[j]? with
        | none => rw [ey] at P; exact P.elim
        | some y =>
          rw [ey] at P
          obtain ⟨w, ew, rw'⟩ := rs.get ey
          exact mt_popAt pins s σ H _ _ v us Q I r1 r2 ⟨p, ws, k, j, w, rfl, rfl, q, hk.1, hk.2, by rw [← rs.length]; exact ej, ew, PstV.put P R e hp q (rs.eraseIdx j) rw'⟩
    · exact P.elim
  · exact P.elim
theorem mtx_insert : MtRx C "list.insert" mInsert := fun X W hx pins s σ H x vs v us Q I r1 r2 ⟨φ, S, d, ds, R, q1, q2, P⟩ => by
  unfold mInsert at P
  split at P
  · rename_i k y
    obtain ⟨i, es, rfl, e, P⟩ := onL_some P
    obtain ⟨p, ws, rfl, q, rs, hp⟩ := sq_lst R q1 e
    obtain ⟨w, w2, rfl, rw', rw2⟩ := rels2 q2
    simp only [VRel] at rw'
    subst rw'
    split at P
    · rename_i hk
      exact mt_insert pins s σ H _ _ v us Q I r1 r2 ⟨p, ws, k, w2, rfl, rfl, q, by rw [sl_eq, ← rs.length]; exact hk.1, hk.2.1, hk.2.2, PstV.put P R e hp q (((rs.take _).append (VRels.cons rw2 VRels.nil)).append (rs.drop _)) (by simp only [VRel])⟩
    · exact P.elim
  · exact P.elim
variable {o e : Expr} {dₒ de : DE} {apos cpos : Pos}
theorem hckL : ∀ φ S H d v, Rel C.G φ S H → VRel C.G φ H d v → isL d S = true → tyV C.G.K "list" v H := fun φ S H d v R r h => isL_ok R r h
end
/-! ### texts -/
def strsOf : List D → Option (List Str)
  | [] => some []
  | .str i :: r => (strsOf r).map (i :: ·)
  | _ :: _ => none
theorem strsOf_eq : ∀ {ds : List D} {ns : List Str}, strsOf ds = some ns → ds = ns.map D.str
  | [], _, h => by cases h; rfl
  | .str i :: r, ns, h => by
    simp only [strsOf, Option.map_eq_some_iff] at h
    obtain ⟨ms, e, rfl⟩ := h
    rw [strsOf_eq e]; rfl
  | .non :: _, _, h => by cases h
  | .bl _ :: _, _, h => by cases h
  | .int _ :: _, _, h => by cases h
  | .tup _ :: _, _, h => by cases h
  | .ref _ :: _, _, h => by cases h
  | .st _ :: _, _, h => by cases h
  | .ty _ :: _, _, h => by cases h
  | .fls _ :: _, _, h => by cases h
@[simp] theorem strsOf_map : ∀ ns : List Str, strsOf (ns.map D.str) = some ns
  | [] => rfl
  | n :: ns => by simp [strsOf, strsOf_map ns]
theorem rel_strs {G : Glo} {φ : List Addr} {H : Hp} : ∀ {ns : List Str} {vs : List V}, VRels G φ H (ns.map D.str) vs → vs = ns.map V.str
  | [], _, h => by simpa [VRels] using h
  | n :: ns, _, h => by
    simp only [List.map_cons, VRels, VRel] at h
    obtain ⟨u, us, rfl, rfl, rs⟩ := h
    rw [rel_strs rs]; rfl
def isS (d : D) : Bool := match d with
  | .str _ => true
  | _ => false
def dMethS (f : Mf) (o a : DE) : DE := fun env S => (o env S).bind fun x S1 => if isS x = true then (a env S1).bind fun y S2 => ofO (f x [y] S2) else .bad
def mJoin : Mf := fun d xs S => match d, xs with
  | .str a, [y] => ((itemsD S y).bind strsOf).bind fun ys => if (ys.map (·.length)).sum + ys.length * a.length ≤ 16777216 then some (.str (Txt.join a ys), S) else none
  | _, _ => none
section
variable {C : Cp} {o e : Expr} {dₒ de : DE} {apos pos : Pos} {name : Str} {id : String} {f : Mf}
theorem pex_m1 (slot : Slot "str" name id) (ty : typeOf (.builtin id) = pure (.type "method_descriptor")) (hm : MtRx C id f) (ho : PEx C o dₒ) (he : PEx C e de)
    (hs : ∀ env, starEach [e] env = [(false, eval e env)] := by intro _; rfl) (hbase : ∀ env, attributeBase o name env (eval o env) = eval o env := by intro _; rfl) (hline : (apos.endLine == pos.line) = true := by rfl) :
    PEx C (.Call (.Attribute o name apos) [e] [] pos) (dMethS f dₒ de) := fun X W h => by
  refine pe_imp (pe_m1 slot ty (hm X W h) (ho X W h) (he X W h) (hs X.env) (hbase X.env) hline) fun σ H Q ⟨φ, S, env, R, E, P⟩ => ?_
  refine ⟨φ, S, env, R, E, P.bind.imp fun φ1 H1 S1 x n1 R1 P1 v1 r1 => ?_⟩
  split at P1
  · rename_i hc
    cases x with
    | str z =>
      have r1' := r1
      simp only [VRel] at r1
      refine ⟨⟨z, r1⟩, φ1, S1, env, R1, E.nxt n1, P1.bind.imp fun φ2 H2 S2 y n2 R2 P2 v2 r2 => ?_⟩
      exact ⟨φ2, S2, .str z, [y], R2, r1'.nxt n2, VRels.cons r2 VRels.nil, PstV.of P2⟩
    | _ => cases hc
  · exact P1.elim
theorem mtx_join : MtRx C "str.join" mJoin := fun X W hx pins s σ H x vs v us Q I r1 r2 ⟨φ, S, d, ds, R, q1, q2, P⟩ => by
  unfold mJoin at P
  split at P
  · rename_i a y
    obtain ⟨w, rfl, rw'⟩ := rels1 q2
    simp only [VRel] at q1
    subst q1
    cases q : (itemsD S y).bind strsOf with
    | none => rw [q] at P; exact P.elim
    | some ys =>
      rw [q] at P
      simp only [Option.bind_some] at P
      obtain ⟨es, e1, e2⟩ := Option.bind_eq_some_iff.mp q
      obtain ⟨b, ws, rfl, sq, rs⟩ := items_seq R rw' e1
      rw [strsOf_eq e2] at rs
      rw [rel_strs rs] at sq
      split at P
      · refine mt_join pins s σ H _ _ v us Q I r1 r2 ⟨a, b, ys, rfl, rfl, by rw [hx.K]; exact sq, by assumption, P.now R (by simp only [VRel])⟩
      · exact P.elim
    
  · exact P.elim
end

/-! ### in, not in, is None -/
def flatD : D → Bool
  | .non => true
  | .bl _ => true
  | .int _ => true
  | .str _ => true
  | _ => false
def toV : D → V
  | .non => .non
  | .bl b => .bl b
  | .int i => .int i
  | .str s => .str s
  | _ => .non
theorem flat_rel {G : Glo} {φ : List Addr} {H : Hp} {d : D} {v : V} (h : flatD d = true) (r : VRel G φ H d v) : v = toV d ∧ flatV v = true := by
  cases d <;> first | (simp only [VRel] at r; subst r; exact ⟨rfl, rfl⟩) | cases h
theorem flats_rel {G : Glo} {φ : List Addr} {H : Hp} : ∀ {ds : List D} {vs : List V}, ds.all flatD = true → VRels G φ H ds vs → vs = ds.map toV ∧ vs.all flatV = true
  | [], _, _, r => by simp only [VRels] at r; subst r; exact ⟨rfl, rfl⟩
  | d :: ds, _, h, r => by
    simp only [VRels] at r
    obtain ⟨u, us, rfl, r1, rs⟩ := r
    simp only [List.all_cons, Bool.and_eq_true] at h
    obtain ⟨e1, f1⟩ := flat_rel h.1 r1
    obtain ⟨e2, f2⟩ := flats_rel h.2 rs
    exact ⟨by rw [e1, e2]; rfl, by simp [f1, f2]⟩
def inF (d : D) (ds : List D) : Bool := ds.any fun y => eqV (toV y) (toV d)
def oInF (neg : Bool) : Op2 := fun d e S => (itemsD S e).bind fun ds => if flatD d = true ∧ ds.all flatD = true then some (.bl (if neg = true then !inF d ds else inF d ds), S) else none
def oInS (neg : Bool) : Op2 := fun d e S => match d, e with
  | .str x, .str z => match x.cps.toList with
    | [c] => some (.bl (if neg = true then !decide (c ∈ z.cps.toList) else decide (c ∈ z.cps.toList)), S)
    | _ => none
  | _, _ => none
/-- in a list of data of any depth -/
def oInD (neg : Bool) : Op2 := fun d e S => match toPy S 60 d, itemsL S e with
  | some p, some ds => (seqO (ds.map (toPy S 59))).map fun ps => (.bl (if neg = true then !(ps.any fun z => PyData.eqv z p) else ps.any fun z => PyData.eqv z p), S)
  | _, _ => none
def isNonD : D → Bool
  | .non => true
  | _ => false
def oIsN : Op2 := fun d e S => match e with
  | .non => some (.bl (isNonD d), S)
  | _ => none
def oNotN : Op2 := fun d e S => match e with
  | .non => some (.bl (!isNonD d), S)
  | _ => none
section
variable {C : Cp}
theorem inF_eq {d : D} {ds : List D} : inF d ds = inV (toV d) (ds.map toV) := by
  unfold inF inV
  rw [List.any_map]
  rfl
theorem opx_inF {neg : Bool} {op : CmpOp} (h : ∀ X, OpR X (compareOp op) (rIn X.K neg)) : OpRx C (compareOp op) (oInF neg) := OpRx.imp (fun X => rIn X.K neg) (fun X _ _ => h X) fun X W hx φ S H d e x y Q R r1 r2 P => by
  unfold oInF at P
  cases q : itemsD S e with
  | none => rw [q] at P; exact P.elim
  | some ds =>
    rw [q] at P
    simp only [Option.bind_some] at P
    split at P
    · rename_i hc
      obtain ⟨a, vs, rfl, sq, rs⟩ := items_seq R r2 q
      obtain ⟨e1, f1⟩ := flat_rel hc.1 r1
      obtain ⟨e2, f2⟩ := flats_rel hc.2 rs
      rw [hx.K]
      refine ⟨a, vs, rfl, sq, f1, f2, ?_⟩
      rw [e1, e2, ← inF_eq]
      exact P.now R (by simp only [VRel])
    · exact P.elim
theorem opx_inS : OpRx C (compareOp .In) (oInS false) := OpRx.imp (fun _ => _) (fun _ _ _ => op_in_sign) fun X W hx φ S H d e x y Q R r1 r2 P => by
  unfold oInS at P
  split at P
  · rename_i x' z
    split at P
    · rename_i c hc
      simp only [VRel] at r1 r2
      subst r1 r2
      have : x' = ⟨#[c]⟩ := by
        have h2 : x'.cps = #[c] := by rw [← Array.toList_inj]; exact hc
        cases x'; simp_all
      subst this
      exact ⟨c, z, rfl, rfl, P.now R (by simp only [VRel]; rfl)⟩
    · exact P.elim
  · exact P.elim
theorem opx_notInS : OpRx C (compareOp .NotIn) (oInS true) := OpRx.imp (fun _ => _) (fun _ _ _ => op_notIn_sign) fun X W hx φ S H d e x y Q R r1 r2 P => by
  unfold oInS at P
  split at P
  · rename_i x' z
    split at P
    · rename_i c hc
      simp only [VRel] at r1 r2
      subst r1 r2
      have : x' = ⟨#[c]⟩ := by
        have h2 : x'.cps = #[c] := by rw [← Array.toList_inj]; exact hc
        cases x'; simp_all
      subst this
      exact ⟨c, z, rfl, rfl, P.now R (by simp only [VRel]; rfl)⟩
    · exact P.elim
  · exact P.elim
theorem lst_py {φ : List Addr} {S : Store} {H : Hp} (R : Rel C.G φ S H) {e : D} {y : V} (r : VRel C.G φ H e y) {ds : List D} (q : itemsL S e = some ds) {ps : List PyData} (qs : seqO (ds.map (toPy S 59)) = some ps) : Dp C.G.K H y (.list ps) ∧ SeqAt.shaped (.list ps) = true := by
  have key : toPy S 60 e = some (.list ps) := by
    cases e with
    | fls es => cases q; simp [toPy, qs]
    | ref i =>
      simp only [itemsL] at q
      split at q
      · rename_i es ee
        cases q
        simp [toPy, ee, qs]
      · cases q
    | _ => cases q
  obtain ⟨x1, x2, x3⟩ := sq_any R r key
  exact ⟨x1, shaped_of (by decide) x2 x3⟩
theorem opx_inD : OpRx C (compareOp .In) (oInD false) := OpRx.imp (fun X => rInD X.K) (fun X W hx => op_inD (by have := hx.room.un; omega)) fun X W hx φ S H d e x y Q R r1 r2 P => by
  unfold oInD at P
  split at P
  · rename_i p ds e1 e2
    cases qs : seqO (ds.map (toPy S 59)) with
    | none => rw [qs] at P; exact P.elim
    | some ps =>
      rw [qs] at P
      obtain ⟨x1, x2, x3⟩ := sq_any R r1 e1
      obtain ⟨y1, y2⟩ := lst_py R r2 e2 qs
      rw [hx.K]
      exact ⟨p, ps, x1, y1, shaped_of (by decide) x2 x3, y2, P.now R (by simp only [VRel]; rfl)⟩
  · exact P.elim
theorem opx_notInD : OpRx C (compareOp .NotIn) (oInD true) := OpRx.imp (fun X => rNotInD X.K) (fun X W hx => op_notInD (by have := hx.room.un; omega)) fun X W hx φ S H d e x y Q R r1 r2 P => by
  unfold oInD at P
  split at P
  · rename_i p ds e1 e2
    cases qs : seqO (ds.map (toPy S 59)) with
    | none => rw [qs] at P; exact P.elim
    | some ps =>
      rw [qs] at P
      obtain ⟨x1, x2, x3⟩ := sq_any R r1 e1
      obtain ⟨y1, y2⟩ := lst_py R r2 e2 qs
      rw [hx.K]
      exact ⟨p, ps, x1, y1, shaped_of (by decide) x2 x3, y2, P.now R (by simp only [VRel]; rfl)⟩
  · exact P.elim
def oIn : Op2 := orO (oInF false) (orO (oInS false) (oInD false))
def oNotIn : Op2 := orO (oInF true) (orO (oInS true) (oInD true))
theorem opx_in : OpRx C (compareOp .In) oIn := (opx_inF fun X => op_in_seq).or (opx_inS.or opx_inD)
theorem opx_notIn : OpRx C (compareOp .NotIn) oNotIn := (opx_inF fun X => op_notIn_seq).or (opx_notInS.or opx_notInD)
theorem non_iff {φ : List Addr} {H : Hp} {d : D} {v : V} (r : VRel C.G φ H d v) : decide (v = .non) = isNonD d := by
  cases d with
  | non => simp only [VRel] at r; subst r; rfl
  | bl _ => simp only [VRel] at r; subst r; rfl
  | int _ => simp only [VRel] at r; subst r; rfl
  | str _ => simp only [VRel] at r; subst r; rfl
  | tup _ => simp only [VRel] at r; obtain ⟨a, _, rfl, _⟩ := r; rfl
  | ref _ => simp only [VRel] at r; obtain ⟨a, rfl, _⟩ := r; rfl
  | st _ => simp only [VRel] at r; subst r; rfl
  | ty _ => simp only [VRel] at r; subst r; rfl
  | fls _ => simp only [VRel] at r; obtain ⟨a, _, rfl, _⟩ := r; rfl
theorem opx_isN : OpRx C (compareOp .Is) oIsN := OpRx.imp (fun _ => _) (fun _ _ _ => op_isN) fun X W hx φ S H d e x y Q R r1 r2 P => by
  unfold oIsN at P
  split at P
  · simp only [VRel] at r2
    refine ⟨r2, ?_⟩
    rw [non_iff r1]
    exact P.now R (by simp only [VRel])
  · exact P.elim
theorem opx_notN : OpRx C (compareOp .IsNot) oNotN := OpRx.imp (fun _ => _) (fun _ _ _ => op_notN) fun X W hx φ S H d e x y Q R r1 r2 P => by
  unfold oNotN at P
  split at P
  · simp only [VRel] at r2
    refine ⟨r2, ?_⟩
    rw [non_iff r1]
    exact P.now R (by simp only [VRel])
  · exact P.elim
end

/-! ### isinstance of a built-in type -/
inductive Ty where
  | non | bl | int | str | tup | lst | dic
  deriving DecidableEq
def Ty.name : Ty → String
  | .non => "NoneType"
  | .bl => "bool"
  | .int => "int"
  | .str => "str"
  | .tup => "tuple"
  | .lst => "list"
  | .dic => "dict"
def Ty.sub : Ty → Ty → Bool
  | .bl, .int => true
  | a, b => decide (a = b)
theorem Ty.sub_ok (a b : Ty) (h : b ≠ .non) : kitB a.name b.name = some (a.sub b) := by
  cases a <;> cases b <;> first | exact absurd rfl h | decide +kernel
def tyD (S : Store) : D → Option Ty
  | .non => some .non
  | .bl _ => some .bl
  | .int _ => some .int
  | .str _ => some .str
  | .tup _ => some .tup
  | .fls _ => some .lst
  | .ref i => match S[i]? with
    | some (.lst _) => some .lst
    | some (.dK _) => some .dic
    | some (.dT _) => some .dic
    | _ => none
  | _ => none
theorem tyD_ok {G : Glo} {φ : List Addr} {S : Store} {H : Hp} (R : Rel G φ S H) {d : D} {v : V} (r : VRel G φ H d v) {t : Ty} (h : tyD S d = some t) : TyX G.K H v (.type t.name) := by
  cases d with
  | non => simp only [VRel] at r; subst r; cases h; exact .base .non
  | bl b => simp only [VRel] at r; subst r; cases h; exact .base (.bl b)
  | int i => simp only [VRel] at r; subst r; cases h; exact .base (.int i)
  | str x => simp only [VRel] at r; subst r; cases h; exact .base (.str x)
  | tup ds =>
    simp only [VRel] at r
    obtain ⟨a, vs, rfl, s, _⟩ := r
    cases h
    rcases s with (s | ⟨o, s⟩) | ⟨o, its, n, k, c, _⟩
    · exact .base (.tup s)
    · exact .fTuple s
    · exact .kTuple k c
  | fls ds =>
    simp only [VRel] at r
    obtain ⟨a, vs, rfl, s, _⟩ := r
    cases h
    rcases s with ⟨o, s⟩ | ⟨o, its, n, k, c, _⟩
    · exact .base (.frz s)
    · exact .kList k c
  | ref i =>
    simp only [VRel] at r
    obtain ⟨a, rfl, ha⟩ := r
    simp only [tyD] at h
    split at h
    · rename_i ds e
      cases h
      obtain ⟨vs, q, _⟩ := R.at_ i a _ ha e
      exact .base (.lst q)
    · rename_i ds e
      cases h
      obtain ⟨vs, q, _⟩ := R.at_ i a _ ha e
      exact .base (.dK q)
    · rename_i ds e
      cases h
      obtain ⟨vs, q, _⟩ := R.at_ i a _ ha e
      exact .base (.dT q)
    · cases h
  | st k => cases h
  | ty n => cases h
def bIsi : Bf := fun ds S => match ds with
  | [d, .ty n] => (tyD S d).bind fun t => (([Ty.bl, .int, .str, .tup, .lst, .dic].find? fun u => u.name = n).map fun u => (.bl (t.sub u), S))
  | _ => none
section
variable {C : Cp}
theorem cx_isi : CallRx C (.builtin "isinstance") bIsi := CallRx.imp (fun X => rIsi X.K) (fun _ _ _ => call_isi) fun X W hx φ S H ds vs Q R r P => by
  unfold bIsi at P
  split at P
  · rename_i d n
    obtain ⟨v, w, rfl, r1, r2⟩ := rels2 r
    simp only [VRel] at r2
    subst r2
    cases q : tyD S d with
    | none => rw [q] at P; exact P.elim
    | some t =>
      rw [q] at P
      simp only [Option.bind_some] at P
      cases q2 : [Ty.bl, .int, .str, .tup, .lst, .dic].find? (fun u => u.name = n) with
      | none => rw [q2] at P; exact P.elim
      | some u =>
        rw [q2] at P
        have hn : u.name = n := by simpa using List.find?_some q2
        have hne : u ≠ .non := by
          have := List.mem_of_find?_eq_some q2
          intro z; subst z; simp at this
        rw [hx.K]
        exact ⟨v, .ty n, _, _, _, rfl, .ty n, tyD_ok R r1 q, kit_ty (by rw [← hn]; exact Ty.sub_ok t u hne), P.now R (by simp only [VRel])⟩
  · exact P.elim
/-- a built-in type's name -/
theorem pex_ty {x : Str} {n : String} {pos : Pos} (hg : glB C x = true) (hm : C.G.mg x = none) (hv : bootBuiltins x = some (.type n)) (hn : x ≠ "__name__" := by decide +kernel) (hd : (x == ("__debug__" : Str)) = false := by decide +kernel) : PEx C (.Name x pos) (dC (.ty n)) := fun X W h => by
  refine pe_imp (pe_bltn (X := X) (v := .ty n) (glB_ok hg h) (by rw [h.mg]; exact hm) hv rfl hn hd) fun σ H Q ⟨φ, S, env, R, E, P⟩ => ?_
  exact Pst.now P R _ (by simp only [VRel])
/-- a module's constant -/
theorem pex_glob {x : Str} {d : D} {v : V} {u : Value} {pos : Pos} (hg : glB C x = true) (hm : C.G.mg x = some u) (r : RelV v u) (rd : ∀ φ H, VRel C.G φ H d v) (hd : (x == ("__debug__" : Str)) = false := by decide +kernel) : PEx C (.Name x pos) (dC d) := fun X W h => by
  refine pe_imp (pe_glob (X := X) (glB_ok hg h) (by rw [h.mg]; exact hm) r hd) fun σ H Q ⟨φ, S, env, R, E, P⟩ => ?_
  exact Pst.now P R v (rd φ H)
end
end Z

/-! Z9: classes with slots: fields read and stored, methods, properties, instances made. -/
namespace Z
open PySem PySem.Spec PyProof.Rows L2

/-! ### stores into slots -/
def putD (i : Nat) (d : D) (vs : List (Option D)) : List (Option D) := (vs ++ List.replicate (i + 1 - vs.length) none).set i (some d)
theorem putD_get {i j : Nat} {d x : D} {vs : List (Option D)} (h : (putD i d vs)[j]? = some (some x)) : (j = i ∧ x = d) ∨ (j ≠ i ∧ vs[j]? = some (some x)) := by
  unfold putD at h
  by_cases hj : j = i
  · subst hj
    rw [List.getElem?_set_self (by simp only [List.length_append, List.length_replicate]; omega)] at h
    exact .inl ⟨rfl, (Option.some.inj (Option.some.inj h)).symm⟩
  · rw [List.getElem?_set_ne (Ne.symm hj)] at h
    refine .inr ⟨hj, ?_⟩
    by_cases hl : j < vs.length
    · rw [List.getElem?_append_left hl] at h; exact h
    · rw [List.getElem?_append_right (by omega), List.getElem?_replicate] at h
      split at h <;> cases h
theorem SRel.put {G : Glo} {φ : List Addr} {H : Hp} {vs : List (Option D)} {ws : List (Option V)} {d : D} {v : V} (h : SRel G φ H vs ws) (i : Nat) (r : VRel G φ H d v) : SRel G φ H (putD i d vs) (SlX.putS i v ws) := fun j x e => by
  rcases putD_get e with ⟨rfl, rfl⟩ | ⟨hj, e⟩
  · exact ⟨v, SlX.putS_get _ _ _, r⟩
  · obtain ⟨u, q, r'⟩ := h j x e
    exact ⟨u, (SlX.putS_ne hj).mpr q, r'⟩
theorem not_mut {H : Hp} {a dx : Addr} {u : HO} (k : DxOk H a dx) (h : H dx = some u) (m : Mut (some u)) : False := by
  rcases k with k | k <;> rw [k] at h <;> cases h <;> exact m
section
variable {G : Glo} {φ : List Addr} {S : Store} {H : Hp}
theorem rel_slot {i j c : Nat} {a dx : Addr} {vs : List (Option D)} {ws : List (Option V)} {d : D} {v : V} (R : Rel G φ S H) (h1 : φ[i]? = some a) (h2 : S[i]? = some (.slt c vs)) (hs : SlX.Slt H a (G.ad c) dx ws) (hk : DxOk H a dx) (hr : SRel G φ H vs ws) (r : VRel G φ H d v) :
    Rel G φ (S.set i (.slt c (putD j d vs))) (SlX.slH H a (G.ad c) dx (SlX.putS j v ws)) ∧ Nxt φ φ H (SlX.slH H a (G.ad c) dx (SlX.putS j v ws)) := by
  have ne : dx ≠ a := hk.ne hs
  have ma : ∃ u, H a = some u ∧ Mut (some u) ∧ NX a u := (R.at_ i a _ h1 h2).mut_
  obtain ⟨ua, ha, mua, xua⟩ := ma
  have same : ∀ b, b ≠ a → b ≠ dx → SlX.slH H a (G.ad c) dx (SlX.putS j v ws) b = H b := fun b q1 q2 => SlX.slH_ne q1 q2
  have atd : SlX.slH H a (G.ad c) dx (SlX.putS j v ws) dx = some (.xd []) := by unfold SlX.slH; rw [upd_ne ne, upd_same]
  have ata : SlX.slH H a (G.ad c) dx (SlX.putS j v ws) a = some (SlX.SlO a (G.ad c) dx (SlX.putS j v ws)) := by unfold SlX.slH; rw [upd_same]
  have nd : ∀ b u, H b = some u → (∀ x, u ≠ .own x) → (∀ fs, u ≠ .xd fs) → b ≠ dx := fun b u e n1 n2 z => by
    subst z
    rcases hk with k | k <;> rw [k] at e <;> cases e
    · exact n1 _ rfl
    · exact n2 _ rfl
  have na : ∀ b u, H b = some u → ¬ Mut (some u) → b ≠ a := fun b u e n z => by
    subst z
    rw [ha] at e; cases e
    exact n mua
  have gr : Grow H (SlX.slH H a (G.ad c) dx (SlX.putS j v ws)) := by
    refine ⟨fun b xs e => ?_, fun b o u e => ?_, fun b fs e => ?_, fun b x e => ?_⟩
    · rw [same b (na b _ e id) (nd b _ e (fun _ z => nomatch z) fun _ z => nomatch z)]; exact e
    · rw [same b (na b _ e id) (nd b _ e (fun _ z => nomatch z) fun _ z => nomatch z)]; exact e
    · by_cases q : b = dx
      · subst q
        rcases hk with k | k <;> rw [k] at e <;> cases e
        exact atd
      · rw [same b (na b _ e id) q]; exact e
    · by_cases q : b = dx
      · subst q
        exact .inr atd
      · rw [same b (na b _ e id) q]; exact .inl e
  have nx : Nxt φ φ H (SlX.slH H a (G.ad c) dx (SlX.putS j v ws)) := by
    refine ⟨⟨[], by simp, fun _ z => nomatch z⟩, gr, fun b o e n st => ?_, fun b o e nt => ?_⟩
    · have qa : b ≠ a := fun z => n (by rw [z]; exact List.mem_of_getElem? h1)
      by_cases q : b = dx
      · subst q
        rcases hk with k | k <;> rw [k] at e <;> cases e
        · exact st.elim
        · exact atd
      · rw [same b qa q]; exact e
    · by_cases qa : b = a
      · subst qa
        exact ⟨_, ata, trivial⟩
      · by_cases q : b = dx
        · subst q
          exact ⟨_, atd, trivial⟩
        · exact ⟨o, by rw [same b qa q]; exact e, nt⟩
  refine ⟨⟨by simp [R.len], R.nd, fun k b ob e1 e2 => ?_, ?_⟩, nx⟩
  · by_cases hj : k = i
    · subst hj
      rw [h1] at e1; cases e1
      rw [List.getElem?_set_self (List.getElem?_eq_some_iff.mp h2).1] at e2
      cases e2
      exact ⟨dx, _, SlX.slH_slt ne, .inr atd, (hr.put j r).up (fun _ _ q => q) gr⟩
    · rw [List.getElem?_set_ne (Ne.symm hj)] at e2
      have ob0 := R.at_ k b ob e1 e2
      obtain ⟨u, hu, mu, _⟩ := ob0.mut_
      have qa : b ≠ a := fun z => by
        subst z
        exact hj ((List.getElem?_inj (List.getElem?_eq_some_iff.mp e1).1 R.nd).mp (e1.trans h1.symm))
      have qd : b ≠ dx := fun z => by
        subst z
        exact not_mut hk hu mu
      exact ob0.up (fun _ _ q => q) gr (same b qa qd)
  · unfold SlX.slH
    refine tabs_upd (tabs_upd R.tabs fun o e => ?_) fun o e => ?_
    · rcases hk with k | k <;> rw [k] at e <;> cases e <;> trivial
    · rw [upd_ne (Ne.symm ne), ha] at e
      cases e
      exact xua
end

/-! ### what is known of a class -/
/-- the class at place c has slots; its fields' places: tb -/
structure SlCls (G : Glo) (c : Nat) : Prop where
  cls : SlX.SCls G.K (G.ad c)
  isi : SlX.SIsi G.K (G.ad c)
def SlFld (G : Glo) (f : Str) (tb : List (Nat × Nat)) : Prop := ∀ c j, tb.lookup c = some j → SlX.SCls G.K (G.ad c) ∧ ∃ p, SlX.Slot1 G.K (G.ad c) f p j
def getF (tb : List (Nat × Nat)) (d : D) (S : Store) : Option D := match d with
  | .ref i => (match S[i]? with
    | some (.slt c vs) => (match tb.lookup c with
      | some j => (match vs[j]? with
        | some (some x) => some x
        | _ => none)
      | none => none)
    | _ => none)
  | _ => none
theorem getF_some {tb : List (Nat × Nat)} {d x : D} {S : Store} (h : getF tb d S = some x) : ∃ i c vs j, d = .ref i ∧ S[i]? = some (.slt c vs) ∧ tb.lookup c = some j ∧ vs[j]? = some (some x) := by
  unfold getF at h
  split at h
  · rename_i i
    split at h
    · rename_i c vs e
      split at h
      · rename_i j ej
        split at h
        · rename_i y ey
          cases h
          exact ⟨i, c, vs, j, rfl, e, ej, ey⟩
        · cases h
      · cases h
    · cases h
  · cases h
def dFld (tb : List (Nat × Nat)) (a : DE) : DE := fun env S => (a env S).bind fun x S1 => ofO ((getF tb x S1).map fun d => (d, S1))
section
variable {C : Cp} {a : Expr} {da de : DE} {e : Expr} {f : Str} {pos pos' : Pos} {tb : List (Nat × Nat)}
theorem pex_fld (ht : SlFld C.G f tb) (ha : PEx C a da) (hb : ∀ env, attributeBase a f env (eval a env) = eval a env := by intro _; rfl) : PEx C (.Attribute a f pos) (dFld tb da) := fun X W h => by
  refine pe_imp (SlX.pe_sl (ha X W h) (hb X.env)) fun σ H Q ⟨φ, S, env, R, E, P⟩ => ⟨φ, S, env, R, E, P.bind.imp fun φ1 H1 S1 x n1 R1 P1 v1 r1 => ?_⟩
  cases q : getF tb x S1 with
  | none => rw [q] at P1; exact P1.elim
  | some d =>
    rw [q] at P1
    obtain ⟨i, c, vs, j, rfl, e1, e2, e3⟩ := getF_some q
    obtain ⟨ad, had, dx, ws, hs, hk, hr⟩ := R1.get e1
    simp only [VRel] at r1
    obtain ⟨ad', rfl, had'⟩ := r1
    rw [had] at had'; cases had'
    obtain ⟨hc, p, hp⟩ := ht c j e2
    obtain ⟨v, ev, rv⟩ := hr j d e3
    rw [h.K]
    exact ⟨ad, C.G.ad c, dx, p, ws, j, v, rfl, hs, hc, hp, ev, Pst.now P1 R1 v rv⟩
/-- o.f = e -/
def setF (tb : List (Nat × Nat)) (d x : D) (S : Store) : Option Store := match d with
  | .ref i => (match S[i]? with
    | some (.slt c vs) => (match tb.lookup c with
      | some j => some (S.set i (.slt c (putD j x vs)))
      | none => none)
    | _ => none)
  | _ => none
theorem setF_some {tb : List (Nat × Nat)} {d x : D} {S S' : Store} (h : setF tb d x S = some S') : ∃ i c vs j, d = .ref i ∧ S[i]? = some (.slt c vs) ∧ tb.lookup c = some j ∧ S' = S.set i (.slt c (putD j x vs)) := by
  unfold setF at h
  split at h
  · rename_i i
    split at h
    · rename_i c vs e
      split at h
      · rename_i j ej
        cases h
        exact ⟨i, c, vs, j, rfl, e, ej, rfl⟩
      · cases h
    · cases h
  · cases h
def sFld (tb : List (Nat × Nat)) (o a : DE) : DS := fun env S => (a env S).bind fun x S1 => (o env S1).bind fun y S2 => match setF tb y x S2 with
  | some S3 => .ok (.nx env) S3
  | none => .bad
theorem psx_fld (ht : SlFld C.G f tb) (ho : PEx C a da) (he : PEx C e de) (hs : ∀ env, swapsWith e (some (.Attribute a f pos')) pos.line env = pure false := by intro _; rfl) : PSx C (.Assign [.Attribute a f pos'] e pos) (sFld tb da de) := fun X W h => by
  refine ps_imp (SlX.ps_sl (ho X W h) (he X W h) (hs X.env)) fun Dn σ H ⟨φ, S, env, R, E, P⟩ => ⟨φ, S, env, R, E, (pst_err P.bind).imp fun φ1 H1 S1 x n1 R1 P1 v1 r1 => ?_⟩
  refine ⟨φ1, S1, env, R1, E.nxt n1, (pst_err P1.bind).imp fun φ2 H2 S2 y n2 R2 P2 v2 r2 => ?_⟩
  cases q : setF tb y x S2 with
  | none => rw [q] at P2; exact P2.elim
  | some S3 =>
    rw [q] at P2
    obtain ⟨i, c, vs, j, rfl, e1, e2, rfl⟩ := setF_some q
    obtain ⟨ad, had, dx, ws, hs, hk, hr⟩ := R2.get e1
    simp only [VRel] at r2
    obtain ⟨ad', rfl, had'⟩ := r2
    rw [had] at had'; cases had'
    obtain ⟨hc, p, hp⟩ := ht c j e2
    obtain ⟨R3, n3⟩ := rel_slot (j := j) R2 had e1 hs hk hr (r1.nxt n2)
    rw [h.K]
    exact ⟨ad, C.G.ad c, dx, p, ws, j, rfl, hs, hc, hp, P2 φ2 _ n3 R3 σ (((E.nxt n1).nxt n2).nxt n3)⟩
end

/-! ### methods -/
def FnA (G : Glo) (k : Nat) (g : Addr) (n : Nat) (F : Fn) : Prop := FnR G.P G.w G.K G.mg G.base (L2.CX G.P G.w) k g (spD G n F)
theorem FnIs.raw {G : Glo} {k n : Nat} {x : Str} {F : Fn} (h : FnIs G k x n F) : ∃ f, G.mg x = some (.ref f) ∧ FnA G k f n F := by
  obtain ⟨f, fd, ps, hn, ok, hm, kp, hb⟩ := h.ex
  refine ⟨f, hm, FnR.imp (ok.raw hb .nil) fun vs H Q E z => ?_⟩
  rw [List.append_nil]
  exact z
/-- m is a def of the class at c -/
structure MtIs (G : Glo) (k c : Nat) (m : Str) (n : Nat) (F : Fn) : Prop where
  cls : SlX.SCls G.K (G.ad c)
  ex : ∃ g, Meth G.K (G.ad c) m g ∧ FnA G k g n F
def isC (c : Nat) (d : D) (S : Store) : Bool := match d with
  | .ref i => (match S[i]? with
    | some (.slt c' _) => c' == c
    | _ => false)
  | _ => false
theorem isC_ok {c : Nat} {d : D} {S : Store} (h : isC c d S = true) : ∃ i vs, d = .ref i ∧ S[i]? = some (.slt c vs) := by
  unfold isC at h
  split at h
  · rename_i i
    split at h
    · rename_i c' vs e
      rw [beq_iff_eq] at h
      subst h
      exact ⟨i, vs, rfl, e⟩
    · cases h
  · cases h
def dMth (c : Nat) (F : Fn) (o : DE) (r : DA) : DE := fun env S => (o env S).bind fun x S1 => if isC c x S1 = true then (r env S1).bind fun xs S2 => F (x :: xs) S2 else .bad
section
variable {C : Cp} {k c n : Nat} {m : Str} {F : Fn} {o e : Expr} {es : List Expr} {dₒ : DE} {dr : DA} {pos apos : Pos} {pl : Env → Sem Bool}
theorem passesW {X : Cx} {W : WX} {σ : St} (tk : Takes X W) : PassesAt (L2.CX X.prog X.w) X σ (WE W σ) := passAt tk σ
theorem run_fnA {X : Cx} {W : WX} {g : Addr} {pins : List (Addr × Obj)} {σ : St} {H : Hp} {s : Shared} {Q : VK} {us : List Value} {vs : List V} (hx : Cxt C W X) (hF : FnA C.G k g n F) (hr : Room k X.A) (I : Inv X pins σ H s) (r : Vals vs us) (h : spD C.G n F vs H Q (WE W σ)) :
    codeAny (model X.prog X.w) X.A (.call (.ref g) ⟨us, []⟩) (fun r s' => match r with | .ok (.ret v) => EP X pins σ Q v s' | .ok _ => False | .error e => X.xe e s') s := by
  have F' : FnR X.prog X.w X.K X.mg X.base (L2.CX X.prog X.w) k g (spD C.G n F) := by rw [hx.prog, hx.w, hx.K, hx.mg, hx.base]; exact hF
  refine codeAny_mono (F' X.A X.stack s H us vs Q _ hr I.env0 r h) fun r s' hq => ?_
  cases r with
  | error e => exact passAt hx.takes σ pins H s e s' I hq
  | ok fl =>
    cases fl with
    | ret u => exact I.after hq
    | next => exact False.elim hq
    | brk => exact False.elim hq
    | cont => exact False.elim hq
theorem pex_mth (h : MtIs C.G k c m (n + 1) F) (hk : k ≤ C.k) (ho : PEx C o dₒ) (ha : PAx C (e :: es) dr) (hn : ∀ env S xs S', dr env S = .ok xs S' → xs.length = n)
    (hst : ∀ env, starEach (e :: es) env = (false, eval e env) :: starEach es env := by intro _; rfl) (hpl : ∀ env, (backTo pos (starEach es env)).any (·.1) = false := by intro _; rfl)
    (ht : ∀ env, eval (.Call (.Attribute o m apos) (e :: es) [] pos) env = (do
      let ov ← eval o env
      standAt apos.atName
      let (f, first) ← holding [ov] (getMethod ov m (pl env))
      callWith pos f first (backTo pos (starEach (e :: es) env)) (backToKw pos (keywordEach [] env))) := by intro _; rfl) :
    PEx C (.Call (.Attribute o m apos) (e :: es) [] pos) (dMth c F dₒ dr) := fun X W hx => by
  obtain ⟨g, hm, hF⟩ := h.ex
  refine ⟨fun pins s σ H Q I ⟨φ, S, env, R, E, P⟩ => ?_⟩
  refine PySem.W.methodCall_KW (pl := pl X.env) (thn ((ho X W hx).run pins s σ H (fun x H1 => ∃ a dx ws, x = .ref a ∧ SlX.Slt H1 a (C.G.ad c) dx ws ∧ rdA C.G W dr σ H1 fun vs H2 => spD C.G (n + 1) F (x :: vs) H2 Q (WE W σ)) I ⟨φ, S, env, R, E, P.bind.imp fun φ1 H1 S1 x n1 R1 P1 v1 r1 => ?_⟩) fun u s1 ⟨x, H1, I1, rx, a, dx, vs, ex, hsl, q⟩ => ?_) (ht X.env)
  · by_cases hc : isC c x S1 = true
    · rw [if_pos hc] at P1
      obtain ⟨i, ws0, rfl, e1⟩ := isC_ok hc
      obtain ⟨ad, had, dx, ws, hs, hk', hr⟩ := R1.get e1
      simp only [VRel] at r1
      obtain ⟨ad', rfl, had'⟩ := r1
      rw [had] at had'; cases had'
      refine ⟨ad, dx, ws, rfl, hs, φ1, S1, env, R1, E.nxt n1, ?_⟩
      have P2 := P1.bind
      cases q : dr env S1 with
      | bad => rw [q] at P2; exact P2.elim
      | er y S2 => rw [q] at P2; exact P2
      | ok xs S2 =>
        rw [q] at P2
        exact fun φ2 H2 n2 R2 vs rs => ⟨φ2, S2, _, R2, VRels.cons (by simp only [VRel]; exact ⟨ad, rfl, n2.at_ had⟩) rs, by rw [List.length_cons, hn env S1 xs S2 q], P2 φ2 H2 n2 R2⟩
    · rw [if_neg hc] at P1
      exact P1.elim
  · subst ex
    obtain rfl : u = Value.ref a := rx
    refine SlX.getmethsl_ok I1 hsl (by rw [hx.K]; exact h.cls) (by rw [hx.K]; exact hm) ?_
    refine PySem.W.callWith_K (first := [.ref a]) (h₀ := X.base) I.ok.mod.kin (by rw [hx.K]; exact hm.kp) (thn ((ha X W hx).run pos pins s1 σ H1 _ I1 q) fun us s2 ⟨ws, H2, I2, r, q2⟩ => ⟨I2.kIn, ?_⟩) (hst X.env) (hpl X.env)
    exact wpAny_call (run_fnA (us := .ref a :: us) (vs := .ref a :: ws) hx hF (hx.room.mono hk) I2 (.cons rfl r) q2)
theorem pex_mth0 (h : MtIs C.G k c m 1 F) (hk : k ≤ C.k) (ho : PEx C o dₒ)
    (ht : ∀ env, eval (.Call (.Attribute o m apos) [] [] pos) env = (do
      let ov ← eval o env
      standAt apos.atName
      let (f, first) ← holding [ov] (getMethod ov m (pl env))
      callWith pos f first (backTo pos (starEach [] env)) (backToKw pos (keywordEach [] env))) := by intro _; rfl) :
    PEx C (.Call (.Attribute o m apos) [] [] pos) (dMth c F dₒ dNil) := fun X W hx => by
  obtain ⟨g, hm, hF⟩ := h.ex
  refine ⟨fun pins s σ H Q I ⟨φ, S, env, R, E, P⟩ => ?_⟩
  refine PySem.W.methodCall_KW (pl := pl X.env) (thn ((ho X W hx).run pins s σ H (fun x H1 => ∃ a dx ws, x = .ref a ∧ SlX.Slt H1 a (C.G.ad c) dx ws ∧ spD C.G 1 F [x] H1 Q (WE W σ)) I ⟨φ, S, env, R, E, P.bind.imp fun φ1 H1 S1 x n1 R1 P1 v1 r1 => ?_⟩) fun u s1 ⟨x, H1, I1, rx, a, dx, vs, ex, hsl, q⟩ => ?_) (ht X.env)
  · by_cases hc : isC c x S1 = true
    · rw [if_pos hc] at P1
      obtain ⟨i, ws0, rfl, e1⟩ := isC_ok hc
      obtain ⟨ad, had, dx, ws, hs, hk', hr⟩ := R1.get e1
      have r1' := r1
      simp only [VRel] at r1
      obtain ⟨ad', rfl, had'⟩ := r1
      rw [had] at had'; cases had'
      exact ⟨ad, dx, ws, rfl, hs, φ1, S1, _, R1, VRels.cons r1' VRels.nil, rfl, P1⟩
    · rw [if_neg hc] at P1
      exact P1.elim
  · subst ex
    obtain rfl : u = Value.ref a := rx
    refine SlX.getmethsl_ok I1 hsl (by rw [hx.K]; exact h.cls) (by rw [hx.K]; exact hm) ?_
    exact PySem.W.callWith_K0 (first := [.ref a]) I1.kIn (by rw [hx.K]; exact hm.kp) (wpAny_call (run_fnA (us := [.ref a]) (vs := [.ref a]) hx hF (hx.room.mono hk) I1 (.cons rfl .nil) q))
end

/-! ### instances made -/
structure MkIs (G : Glo) (k c : Nat) (x : Str) (n : Nat) (F : Fn) : Prop where
  ex : ∃ g, Mk G.K (G.ad c) g ∧ G.mg x = some (.ref (G.ad c)) ∧ FnA G k g n F
def dMk (c : Nat) (F : Fn) (r : DA) : DE := fun env S => (r env S).bind fun xs S1 => (F (.ref S1.length :: xs) (S1 ++ [.slt c []])).bind fun v S2 => match v with
  | .non => .ok (.ref S1.length) S2
  | _ => .bad
theorem rel_made {G : Glo} {φ : List Addr} {S : Store} {H : Hp} {x dx : Addr} {c : Nat} (R : Rel G φ S H) (hx : H x = none) (hd : H dx = none) (ne : dx ≠ x) :
    Rel G (φ ++ [x]) (S ++ [.slt c []]) (upd (upd H dx (.own x)) x (.ins (G.ad c) dx [])) ∧ Nxt φ (φ ++ [x]) H (upd (upd H dx (.own x)) x (.ins (G.ad c) dx [])) := by
  have n1 : Nxt φ φ H (upd H dx (.own x)) := Nxt.mute hd
  have R1 : Rel G φ S (upd H dx (.own x)) := R.mute (R.notmem hd) n1.grow (nx_none hd)
  have hx1 : upd H dx (.own x) x = none := by rw [upd_ne (Ne.symm ne)]; exact hx
  obtain ⟨R2, n2⟩ := R1.push (o := .slt c []) (u := .ins (G.ad c) dx []) hx1 ⟨dx, [], .inl ⟨upd_same, rfl⟩, .inl (by rw [upd_ne ne, upd_same]), fun i d e => by simp at e⟩
  exact ⟨R2, n1.trans n2⟩
section
variable {C : Cp} {k c n : Nat} {x : Str} {F : Fn} {e : Expr} {es : List Expr} {dr : DA} {p pos : Pos}
theorem run_mk {X : Cx} {W : WX} {g : Addr} {pins : List (Addr × Obj)} {σ : St} {H : Hp} {s : Shared} {Q : VK} {us : List Value} {vs : List V} (hx : Cxt C W X) (M : Mk X.K (C.G.ad c) g) (hF : FnA C.G k g n F) (hr : Room (k + 1) X.A) (I : Inv X pins σ H s) (r : Vals vs us)
    (h : ∀ x dx, H x = Option.none → H dx = Option.none → dx ≠ x → spD C.G n F (V.ref x :: vs) (upd (upd H dx (.own x)) x (.ins (C.G.ad c) dx [])) (fun v H2 => v = .non ∧ Q (.ref x) H2) (WE W σ)) :
    wpAny (model X.prog X.w) X.A (call (.ref (C.G.ad c)) us) (EP X pins σ Q) X.xe s := by
  have F' : FnR X.prog X.w X.K X.mg X.base (L2.CX X.prog X.w) k g (spD C.G n F) := by rw [hx.prog, hx.w, hx.K, hx.mg, hx.base]; exact hF
  have hq := h (s.heap.objs.size + 1) s.heap.objs.size (I.hok.fresh (Nat.le_succ _)) (I.hok.fresh (Nat.le_refl _)) (Nat.ne_of_lt (Nat.lt_succ_self _))
  have I2 := Inv.made (C := C.G.ad c) I
  have r2 : Vals (V.ref (s.heap.objs.size + 1) :: vs) (Value.ref (s.heap.objs.size + 1) :: us) := .cons rfl r
  refine wpAny_call (make_map (f := g) I.kIn M.makes M.init (beq_iff_eq.mp M.fn) (codeAny_mono (F' _ X.stack _ _ (Value.ref (s.heap.objs.size + 1) :: us) _ _ (WE W σ) (hr.make (C.G.ad c) us []) (I2.env0.make (C.G.ad c) us []) r2 hq) fun r s' hq' => ?_))
  cases r with
  | error e => exact passAt hx.takes σ pins _ _ e s' I2 hq'
  | ok fl =>
    cases fl with
    | ret u =>
      obtain ⟨v, H', I3, rv, ev, q3⟩ := I2.after hq'
      subst ev
      exact ⟨rv, ⟨V.ref (s.heap.objs.size + 1), H', I3, rfl, q3⟩⟩
    | next => exact False.elim hq'
    | brk => exact False.elim hq'
    | cont => exact False.elim hq'
theorem sp_mk {W : WX} {σ : St} {φ : List Addr} {S : Store} {H : Hp} {xs : List D} {vs : List V} {Q : VK} (R : Rel C.G φ S H) (rs : VRels C.G φ H xs vs) (hl : xs.length = n)
    (P : Pst C.G (fun c p H' => W c p σ H') φ H (fun φ' H' _ x => ∀ v, VRel C.G φ' H' x v → Q v H') ((F (.ref S.length :: xs) (S ++ [.slt c []])).bind fun v S2 => match v with
      | .non => .ok (.ref S.length) S2
      | _ => .bad)) (x dx : Addr) (h1 : H x = none) (h2 : H dx = none) (ne : dx ≠ x) :
    spD C.G (n + 1) F (V.ref x :: vs) (upd (upd H dx (.own x)) x (.ins (C.G.ad c) dx [])) (fun v H2 => v = .non ∧ Q (.ref x) H2) (WE W σ) := by
  obtain ⟨R2, n2⟩ := rel_made (c := c) R h1 h2 ne
  have hx : (φ ++ [x])[S.length]? = some x := by rw [← R.len]; simp
  refine ⟨φ ++ [x], _, .ref S.length :: xs, R2, VRels.cons (by simp only [VRel]; exact ⟨x, rfl, hx⟩) (rs.nxt n2), by rw [List.length_cons, hl], ((P.nxt n2).bind).imp fun φ3 H3 S3 v n3 R3 P3 => ?_⟩
  intro v' rv
  cases v with
  | non =>
    simp only [VRel] at rv
    exact ⟨rv, Pst.now P3 R3 (.ref x) (by simp only [VRel]; exact ⟨x, rfl, n3.at_ hx⟩)⟩
  | _ => exact P3.elim
theorem pex_mk (h : MkIs C.G k c x (n + 1) F) (hk : k + 1 ≤ C.k) (hg : glB C x = true) (ha : PAx C (e :: es) dr) (hn : ∀ env S xs S', dr env S = .ok xs S' → xs.length = n) (hdb : (x == ("__debug__" : Str)) = false := by decide +kernel)
    (he : ∀ env, starEach (e :: es) env = (false, eval e env) :: starEach es env := by intro _; rfl) (hpl : ∀ env, (backTo pos (starEach es env)).any (·.1) = false := by intro _; rfl) : PEx C (.Call (.Name x p) (e :: es) [] pos) (dMk c F dr) := fun X W hx => by
  obtain ⟨g, M, hm, hF⟩ := h.ex
  refine ⟨fun pins s σ H Q I ⟨φ, S, env, R, E, P⟩ => ?_⟩
  refine wpAny_Call_Name_kw (ld_glob I (glB_ok hg hx) (by rw [hx.mg]; exact hm) ?_ hdb)
  refine PySem.W.callWith_K (h₀ := X.base) I.ok.mod.kin (by rw [hx.K]; exact M.kp) (thn ((ha X W hx).run pos pins s σ H (fun vs H1 => ∀ x dx, H1 x = none → H1 dx = none → dx ≠ x → spD C.G (n + 1) F (V.ref x :: vs) (upd (upd H1 dx (.own x)) x (.ins (C.G.ad c) dx [])) (fun v H2 => v = .non ∧ Q (.ref x) H2) (WE W σ)) I ⟨φ, S, env, R, E, ?_⟩) fun us s1 ⟨vs, H1, I1, r, q⟩ => ⟨I1.kIn, ?_⟩) (he X.env) (hpl X.env)
  · have P0 := P.bind
    cases q : dr env S with
    | bad => rw [q] at P0; exact P0.elim
    | er y S1 => rw [q] at P0; exact P0
    | ok xs S1 =>
      rw [q] at P0
      exact fun φ1 H1 n1 R1 vs rs x dx h1 h2 ne => sp_mk R1 rs (hn env S xs S1 q) (P0 φ1 H1 n1 R1) x dx h1 h2 ne
  · exact run_mk hx (by rw [hx.K]; exact M) hF (hx.room.mono hk) I1 r q
end

/-! ### properties -/
structure PrIs (G : Glo) (k c : Nat) (f : Str) (F : Fn) : Prop where
  cls : SlX.SCls G.K (G.ad c)
  ex : ∃ p g, PySem.W.findIn G.K (.ref (G.ad c)) f = some (some (.ref p)) ∧ PySem.W.specialIn G.K (.ref p) "__get__" = some (some (.builtin "property.__get__")) ∧ PySem.W.takesIn G.K (.ref p) = some true ∧ (∃ rest, PySem.W.recIn G.K p "property" = some (.ref g :: rest)) ∧ FnA G k g 1 F
def dPrp (c : Nat) (F : Fn) (o : DE) : DE := fun env S => (o env S).bind fun x S1 => if isC c x S1 = true then (F [x] S1).cut else .bad
theorem Pst.of_cut {α : Type} {G : Glo} {B B' : Value → Option Addr → Hp → Prop} {φ : List Addr} {H : Hp} {K : List Addr → Hp → Store → α → Prop} {r : Res α} (h : Pst G B φ H K r.cut) : Pst G B' φ H K r := h.cut
theorem pex_prp {C : Cp} {k c : Nat} {f : Str} {F : Fn} {o : Expr} {dₒ : DE} {pos : Pos} (h : PrIs C.G k c f F) (hk : k + 1 ≤ C.k) (ho : PEx C o dₒ) (hb : ∀ env, attributeBase o f env (eval o env) = eval o env := by intro _; rfl) : PEx C (.Attribute o f pos) (dPrp c F dₒ) := fun X W hx => by
  obtain ⟨p, g, h1, h2, h3, h4, hF⟩ := h.ex
  have F' : FnR X.prog X.w X.K X.mg X.base (L2.CX X.prog X.w) k g (spD C.G 1 F) := by rw [hx.prog, hx.w, hx.K, hx.mg, hx.base]; exact hF
  refine pe_imp (SlX.pe_propSl (E := fun _ _ _ => False) (ho X W hx) (by rw [hx.K]; exact h.cls) (by rw [hx.K]; exact h1) (by rw [hx.K]; exact h2) (by rw [hx.K]; exact h3) (by rw [hx.K]; exact h4) F' (hx.room.mono hk) (fun H s e s' z => ?_) (hb X.env)) fun σ H Q ⟨φ, S, env, R, E, P⟩ => ⟨φ, S, env, R, E, P.bind.imp fun φ1 H1 S1 x n1 R1 P1 v1 r1 => ?_⟩
  · obtain ⟨_, _, _, _, _, _, _, _, _, _, _, _, q⟩ := z
    exact q
  · by_cases hc : isC c x S1 = true
    · rw [if_pos hc] at P1
      obtain ⟨i, ws0, rfl, e1⟩ := isC_ok hc
      obtain ⟨ad, had, dx, ws, hs, hk', hr⟩ := R1.get e1
      have r1' := r1
      simp only [VRel] at r1
      obtain ⟨ad', rfl, had'⟩ := r1
      rw [had] at had'; cases had'
      exact ⟨ad, dx, ws, rfl, hs, φ1, S1, _, R1, VRels.cons r1' VRels.nil, rfl, P1.cut⟩
    · rw [if_neg hc] at P1
      exact P1.elim
end Z

/-! Z10: zip and enumerate of lists and tuples, of one kind or both. -/
namespace Z
open PySem PySem.Spec PyProof.Rows L2

def SqB (K : PySem.W.Frag) (H : Hp) : Bool → Addr → List V → Prop
  | true, a, xs => SqT K H a xs
  | false, a, xs => SqL K H a xs
def ItB (h : Heap) : Bool → Addr → Addr → Nat → Prop
  | true, it, l, i => h.IsTupleIter it l i
  | false, it, l, i => h.IsListIter it l i
def IsB (h : Heap) : Bool → Addr → Array Value → Prop
  | true, l, xs => h.IsTuple l xs
  | false, l, xs => h.IsList l xs
theorem drawsB {prog : Program} {w : World} {A : Around} (hh : A.handled = none) (t : Bool) (it l : Addr) (hne : l ≠ it) (items : Array Value) :
    Draws prog w A it [it, l] items.size (fun i v => items[i]? = some v) (fun i h => ItB h t it l i ∧ IsB h t l items) := by
  cases t
  · exact Draws.list hh it l hne items
  · exact Draws.tuple hh it l hne items
theorem ItB.at {h h' : Heap} {t : Bool} {it l : Addr} {i : Nat} (x : ItB h t it l i) (k : ∀ o, h.get? it = some o → h'.get? it = some o) : ItB h' t it l i := by
  cases t
  · exact Heap.IsListIter.at x k
  · exact Heap.IsTupleIter.at x k
theorem ItB.obj {h : Heap} {t : Bool} {it l : Addr} {i : Nat} (x : ItB h t it l i) : ∃ o, h.get? it = some o ∧ ∀ v, o.data ≠ .cell v := by
  cases t <;> obtain ⟨o, e, _, d⟩ := x <;> exact ⟨o, e, fun v q => by rw [d] at q; cases q⟩
def itObj : Bool → Addr → Obj
  | true, l => { cls := .type "tuple_iterator", data := .fields #[.ref l, .int 0 0] }
  | false, l => { cls := .type "list_iterator", data := .fields #[.ref l, .int 0 0] }
theorem beginsB (t : Bool) (l : Addr) (items : Array Value) : Begins (.ref l) (itObj t l) fun h => IsB h t l items := by
  cases t
  · exact begins_list l items
  · exact begins_tuple l items
theorem itB_new {h : Heap} {t : Bool} {it l : Addr} (e : h.get? it = some (itObj t l)) : ItB h t it l 0 := by
  cases t <;> exact ⟨_, e, rfl, rfl⟩
section
variable {X : Cx} {pins : List (Addr × Obj)} {σ : L2.St} {H : Hp} {s : Shared} {a : Addr} {xs ys : List V}
theorem inv_seqB {t : Bool} (I : Inv X pins σ H s) (h : SqB X.K H t a xs) : ∃ its : List Value, Vals xs its ∧ IsB s.heap t a its.toArray ∧ xs.length ≤ sizeLine ∧ a < s.heap.objs.size := by
  cases t
  · obtain ⟨its, r, p, z⟩ := I.list h
    exact ⟨its, r, p.isList, z, p.lt⟩
  · obtain ⟨its, r, p, z⟩ := I.tuple h
    obtain ⟨o, e, _⟩ := id p
    exact ⟨its, r, p, z, Heap.lt_size e⟩
theorem seqB_inj {t : Bool} (I : Inv X pins σ H s) (h : SqB X.K H t a xs) (h' : SqB X.K H t a ys) : xs = ys := by
  cases t
  · exact I.list_inj h h'
  · exact I.tuple_inj h h'
end
/-- a pair of sequences, the items in new pairs -/
def ItzB (K : PySem.W.Frag) (t1 t2 : Bool) (a b : Addr) : It :=
  ⟨fun i H => ∃ (xs ys : List V) (x y : V), SqB K H t1 a xs ∧ SqB K H t2 b ys ∧ xs[i]? = some x ∧ ys[i]? = some y,
    fun i H v H' => ∃ T x y, v = .ref T ∧ H T = none ∧ H' = upd H T (.tup [x, y]) ∧ (∀ xs, SqB K H t1 a xs → xs[i]? = some x) ∧ ∀ ys, SqB K H t2 b ys → ys[i]? = some y,
    fun i H => ∃ xs ys : List V, SqB K H t1 a xs ∧ SqB K H t2 b ys ∧ i ≤ xs.length ∧ i ≤ ys.length ∧ (i = xs.length ∨ i = ys.length)⟩
theorem sep_of {z TI TO i1 i2 a b : Addr} (D : ZipApart z TI TO i1 i2 a b) : ZipSep2 z TI TO i1 i2 [i1, a] [i2, b] where
  TIz := D.TIz
  TOz := D.TOz
  TITO := D.TITO
  TIi1 := D.TIi1
  mem1 := by simp
  zf1 := by simp [Ne.symm D.i1z, Ne.symm D.l1z]
  Tf1 := by simp [D.TOi1, Ne.symm D.l1TO]
  TIi2 := D.TIi2
  mem2 := by simp
  zf2 := by simp [Ne.symm D.i2z, Ne.symm D.l2z]
  Tf2 := by simp [D.TOi2, Ne.symm D.l2TO]
  sep1_2 := by simp [D.i12, Ne.symm D.l2i1]
  sep2_1 := by simp [Ne.symm D.i12, Ne.symm D.l1i2]
theorem turn_zipB {P : Program} {w : World} {K : PySem.W.Frag} {elts : List Expr} {kk : Nat} {tpos : Pos} {t1 t2 : Bool} {a b z TI TO i1 i2 : Addr} (D : ZipApart z TI TO i1 i2 a b) :
    Turn P w K (.Tuple elts kk tpos) (ItzB K t1 t2 a b) [z, TI, TO, i1, i2] z (fun i h => IsZip h z TI TO .none ∧ IsTupOf2 h TI (.ref i1) (.ref i2) ∧ (∃ x y, IsTupOf2 h TO x y) ∧ ItB h t1 i1 a i ∧ ItB h t2 i2 b i) where
  mem := by simp
  obj := fun i h st c hc => by
    obtain ⟨hz, hTI, ⟨x, y, hTO⟩, h1, h2⟩ := st
    have e' : c = z ∨ c = TI ∨ c = TO ∨ c = i1 ∨ c = i2 := by simpa using hc
    rcases e' with q | q | q | q | q
    · rw [q]; exact ⟨_, hz, fun v q => nomatch q⟩
    · rw [q]; exact ⟨_, hTI, fun v q => nomatch q⟩
    · rw [q]; exact ⟨_, hTO, fun v q => nomatch q⟩
    · rw [q]; exact h1.obj
    · rw [q]; exact h2.obj
  keep := fun i h h' st k => by
    obtain ⟨hz, hTI, ⟨x, y, hTO⟩, h1, h2⟩ := st
    exact ⟨k z (by simp) _ hz, k TI (by simp) _ hTI, ⟨x, y, k TO (by simp) _ hTO⟩, h1.at fun o q => k i1 (by simp) o q, h2.at fun o q => k i2 (by simp) o q⟩
  item := by
    intro X hP hw hK hc i pins s σ H E I hf st hg
    subst hP hw hK
    obtain ⟨hz, hTI, ⟨x0, y0, hTO⟩, h1, h2⟩ := st
    obtain ⟨xs, ys, x, y, hqx, hqy, hx, hy⟩ := hg
    obtain ⟨its, rv, p, _, _⟩ := inv_seqB I hqx
    obtain ⟨its2, rv2, p2, _, _⟩ := inv_seqB I hqy
    obtain ⟨u, hu, ru⟩ := rv.get hx
    obtain ⟨u2, hu2, ru2⟩ := rv2.get hy
    have hzl : z < s.heap.objs.size := Heap.lt_size hz
    have l1 : i < its.toArray.size := by simpa using (List.getElem?_eq_some_iff.mp hu).1
    have l2 : i < its2.toArray.size := by simpa using (List.getElem?_eq_some_iff.mp hu2).1
    refine wpAny_pyNext_zipD2_item (sep_of D) (drawsB (prog := X.prog) (w := X.w) (A := X.A.in1) (show X.A.in1.handled = none from I.ok.hd hc) t1 i1 a D.l1i1 its.toArray) (drawsB (prog := X.prog) (w := X.w) (A := X.A.in1) (show X.A.in1.handled = none from I.ok.hd hc) t2 i2 b D.l2i2 its2.toArray) hz hTI hTO ⟨h1, p⟩ ⟨h2, p2⟩ l1 l2 fun x1 x2 h' tk e1 e2 z' TO' h1' h2' hT hsz hk => ?_
    have q1 : x1 = u := by
      have e1' : its[i]? = some x1 := by simpa using e1
      rw [hu] at e1'; exact (Option.some.inj e1').symm
    have q2 : x2 = u2 := by
      have e2' : its2[i]? = some x2 := by simpa using e2
      rw [hu2] at e2'; exact (Option.some.inj e2').symm
    subst q1 q2
    refine ⟨_, rfl, wpAny_letOwnedTupleGo_zip (s := { s with heap := h', toks := tk }) z' fun h'' z'' sb => ?_⟩
    have hT2 : h''.get? s.heap.objs.size = some { cls := .type "tuple", data := .seq #[x1, x2] } := (sb.2 _ (Nat.ne_of_gt hzl)).trans hT
    have new : ObjOk X.prog X.w (upd H s.heap.objs.size (.tup [x, y])) h'' s.heap.objs.size (.tup [x, y]) :=
      ⟨by show 2 ≤ sizeLine; decide, [x1, x2], .cons ru (.cons ru2 .nil), ⟨_, hT2, rfl, _, rfl⟩⟩
    have I1 : Inv X pins σ (upd H s.heap.objs.size (.tup [x, y])) { s with heap := h'', toks := tk } :=
      I.turnedNew (t' := tk) (ch := [z, TI, TO, i1, i2]) (fun c o hb q => (sb.2 c (fun q' => hb (by simp [q']))).trans (hk c o (fun q' => hb (by simp [q'])) (fun q' => hb (by simp [q'])) (fun q' => hb (by simp [q'])) (fun q' => hb (by simp [q'])) q)) hf (Nat.le_refl _) new
    refine ⟨.ref s.heap.objs.size, _, I1, rfl, ⟨_, x, y, rfl, I.hok.fresh (Nat.le_refl _), rfl, fun l hl => by rw [seqB_inj I hl hqx]; exact hx, fun l hl => by rw [seqB_inj I hl hqy]; exact hy⟩, ⟨z'', ?_, ⟨x1, x2, ?_⟩, ?_, ?_⟩, fun c hcm => ?_⟩
    · exact (sb.2 _ D.TIz).trans (hk _ _ D.TIz D.TITO D.TIi1 D.TIi2 hTI)
    · exact (sb.2 _ D.TOz).trans TO'
    · exact h1'.1.at fun o q => (sb.2 _ D.i1z).trans q
    · exact h2'.1.at fun o q => (sb.2 _ D.i2z).trans q
    · have hlt : c < s.heap.objs.size := by
        have e' : c = z ∨ c = TI ∨ c = TO ∨ c = i1 ∨ c = i2 := by simpa using hcm
        rcases e' with q | q | q | q | q
        · rw [q]; exact hzl
        · rw [q]; exact Heap.lt_size hTI
        · rw [q]; exact Heap.lt_size hTO
        · rw [q]; obtain ⟨_, e1, _⟩ := h1.obj; exact Heap.lt_size e1
        · rw [q]; obtain ⟨_, e2, _⟩ := h2.obj; exact Heap.lt_size e2
      rw [upd_ne (Nat.ne_of_lt hlt)]
      exact (hf c hcm).1
  done := by
    intro X hP hw hK hc i pins s σ H E I hf st hg
    subst hP hw hK
    obtain ⟨hz, hTI, ⟨x0, y0, hTO⟩, h1, h2⟩ := st
    obtain ⟨xs, ys, hqx, hqy, hle1, hle2, hend⟩ := hg
    obtain ⟨its, rv, p, _, _⟩ := inv_seqB I hqx
    obtain ⟨its2, rv2, p2, _, _⟩ := inv_seqB I hqy
    have l1 : its.toArray.size = xs.length := by have := rv.length; simp; omega
    have l2 : its2.toArray.size = ys.length := by have := rv2.length; simp; omega
    refine wpAny_pyNext_zipD2_end (sep_of D) (drawsB (prog := X.prog) (w := X.w) (A := X.A.in1) (show X.A.in1.handled = none from I.ok.hd hc) t1 i1 a D.l1i1 its.toArray) (drawsB (prog := X.prog) (w := X.w) (A := X.A.in1) (show X.A.in1.handled = none from I.ok.hd hc) t2 i2 b D.l2i2 its2.toArray) hz hTI hTO ⟨h1, p⟩ ⟨h2, p2⟩ (by omega) (by omega) (by omega) fun h' tk hk => ⟨rfl, I.turnedL (t' := tk) (ch := [z, TI, TO, i1, i2]) (fun c o hb q =>
      hk c o (fun q' => hb (by simp [q'])) (fun q' => hb (by simp [q'])) (fun q' => hb (by simp [q'])) (fun q' => hb (by simp [q'])) q) hf⟩
  self := fun A i s Q E st h => wpAny_pyIter_zip st.1 h

def iZipB (K : PySem.W.Frag) (ta : TA) : TI := fun σ H R => ta σ H fun vs H1 => ∃ t1 t2 a b xs ys, vs = [.ref a, .ref b] ∧ SqB K H1 t1 a xs ∧ SqB K H1 t2 b ys ∧ R (ItzB K t1 t2 a b) H1
theorem pi_zipB {X : Cx} {e e2 : Expr} {ta : TA} {p pos tpos : Pos} {elts : List Expr} {kk : Nat} (hg : Gl X "zip") (hm : X.mg "zip" = none) (ha : PA X [e, e2] ta)
    (hs : starEach [e, e2] X.env = (false, eval e X.env) :: starEach [e2] X.env := by rfl) (hpl : (backTo pos (starEach [e2] X.env)).any (·.1) = false := by rfl) :
    PI X (.Tuple elts kk tpos) (.Call (.Name "zip" p) [e, e2] [] pos) (iZipB X.K ta) := by
  refine ⟨fun pins s σ H R I h => ?_⟩
  refine Call_ (ld_blt I hg hm PyProof.Rows.boot_zip (PyProof.Rows.callWith_type1 (thn (ha.run pos pins s σ H _ I h) fun us s1 ⟨vs, H1, I1, r1, q1⟩ => ?_) hs hpl))
  obtain ⟨t1, t2, a, b, xs, ys, ex, hqx, hqy, q⟩ := q1
  subst ex
  cases r1 with
  | cons r rr =>
    cases rr with
    | cons r' rr =>
      cases rr
      cases r
      cases r'
      have fresh5 : ∀ c, c ∈ [s1.heap.objs.size + 4, s1.heap.objs.size + 2, s1.heap.objs.size + 3, s1.heap.objs.size, s1.heap.objs.size + 1] → FpOk X pins H1 c := fun c hcm => by
        have e' : c = s1.heap.objs.size + 4 ∨ c = s1.heap.objs.size + 2 ∨ c = s1.heap.objs.size + 3 ∨ c = s1.heap.objs.size ∨ c = s1.heap.objs.size + 1 := by simpa using hcm
        have hle : s1.heap.objs.size ≤ c := by
          rcases e' with z | z | z | z | z <;> rw [z] <;> first | exact Nat.le_refl _ | exact Nat.le_add_right _ _
        exact I1.fpOk hle (I1.hok.fresh hle)
      obtain ⟨its, rv, p1, _, lt1⟩ := inv_seqB I1 hqx
      obtain ⟨its2, rv2, p2, _, lt2⟩ := inv_seqB I1 hqy
      refine zip_begins2 (beginsB t1 a its.toArray) (beginsB t2 b its2.toArray) p1 p2 fun h' hz hTI hTO g1 g2 hsz hk => wpAny_pyIter_zip hz ?_
      have I2 : Inv X pins σ H1 { s1 with heap := h' } := I1.kept (t' := s1.toks) hk
      exact ⟨s1.heap.objs.size + 4, [s1.heap.objs.size + 4, s1.heap.objs.size + 2, s1.heap.objs.size + 3, s1.heap.objs.size, s1.heap.objs.size + 1], _, _, H1, rfl, I2, turn_zipB (PySem.W.ktu_apart s1.heap.objs.size a b lt1 lt2), ⟨hz, hTI, ⟨_, _, hTO⟩, itB_new g1, itB_new g2⟩, fresh5, q⟩

/-! ### enumerate -/
def IteB (K : PySem.W.Frag) (t : Bool) (a : Addr) : It :=
  ⟨fun i H => ∃ (xs : List V) (x : V), SqB K H t a xs ∧ xs[i]? = some x, fun i H v H' => ∃ T x, v = .ref T ∧ H T = none ∧ H' = upd H T (.tup [.int (i : Nat), x]) ∧ ∀ xs, SqB K H t a xs → xs[i]? = some x, fun i H => ∃ xs : List V, SqB K H t a xs ∧ xs.length = i⟩
theorem turn_enumB {P : Program} {w : World} {K : PySem.W.Frag} {elts : List Expr} {kk : Nat} {tpos : Pos} {t : Bool} (a e it : Addr) (hai : a ≠ it) (hae : e ≠ a) :
    Turn P w K (.Tuple elts kk tpos) (IteB K t a) [e, it] e (fun i h => (∃ old, IsEnum h e it ((i : Nat) : Int) old) ∧ ItB h t it a i ∧ e ≠ it) where
  mem := by simp
  obj := fun i h st b hb => by
    obtain ⟨⟨old, he⟩, hi, _⟩ := st
    have e' : b = e ∨ b = it := by simpa using hb
    rcases e' with z | z
    · rw [z]; exact ⟨_, he, fun v q => nomatch q⟩
    · rw [z]; exact hi.obj
  keep := fun i h h' st k => let ⟨⟨old, he⟩, hi, hne⟩ := st; ⟨⟨old, k e (by simp) _ he⟩, hi.at fun o q => k it (by simp) o q, hne⟩
  item := by
    intro X hP hw hK hc i pins s σ H E I hf st hg
    subst hP hw hK
    obtain ⟨⟨old, he⟩, hit, hne⟩ := st
    obtain ⟨xs, x, hq, hx⟩ := hg
    obtain ⟨its, rv, p, hz, _⟩ := inv_seqB I hq
    obtain ⟨u, hu, ru⟩ := rv.get hx
    have hel : e < s.heap.objs.size := Heap.lt_size he
    have hil : it < s.heap.objs.size := by obtain ⟨_, q, _⟩ := hit.obj; exact Heap.lt_size q
    have l1 : i < its.toArray.size := by simpa using (List.getElem?_eq_some_iff.mp hu).1
    refine wpAny_pyNext_enum_itemC (drawsB (prog := X.prog) (w := X.w) (A := X.A.in1) (show X.A.in1.handled = none from I.ok.hd hc) t it a hai its.toArray) he ⟨hit, p⟩ l1 hne (by simp [hne, hae]) fun x1 h' tk e1 ho hit' hT hsz hk => ?_
    have q1 : x1 = u := by
      have e1' : its[i]? = some x1 := by simpa using e1
      rw [hu] at e1'; exact (Option.some.inj e1').symm
    subst q1
    refine ⟨_, rfl, wpAny_letOwnedTupleGo_enum (s := { s with heap := h', toks := tk + 1 }) ho fun h'' he' sb => ?_⟩
    have hT2 : h''.get? s.heap.objs.size = some { cls := .type "tuple", data := .seq #[.int i tk, x1] } := (sb.2 _ (Nat.ne_of_gt hel)).trans hT
    have new : ObjOk X.prog X.w (upd H s.heap.objs.size (.tup [.int (i : Nat), x])) h'' s.heap.objs.size (.tup [.int (i : Nat), x]) :=
      ⟨by show 2 ≤ sizeLine; decide, [.int i tk, x1], .cons ⟨_, rfl⟩ (.cons ru .nil), ⟨_, hT2, rfl, _, rfl⟩⟩
    have I1 : Inv X pins σ (upd H s.heap.objs.size (.tup [.int (i : Nat), x])) { s with heap := h'', toks := tk + 1 } :=
      I.turnedNew (ch := [e, it]) (fun b ob hb q => (sb.2 b (fun z => hb (by simp [z]))).trans (hk b ob (fun z => hb (by simp [z])) (fun z => hb (by simp [z])) q)) hf (Nat.le_refl _) new
    refine ⟨.ref s.heap.objs.size, _, I1, rfl, ⟨_, x, rfl, I.hok.fresh (Nat.le_refl _), rfl, fun ys hy => by rw [seqB_inj I hy hq]; exact hx⟩, ⟨⟨x1, ?_⟩, hit'.1.at fun o q => (sb.2 it (Ne.symm hne)).trans q, hne⟩, fun b hb => ?_⟩
    · have e1 : ((i + 1 : Nat) : Int) = (i : Int) + 1 := by omega
      rw [e1]; exact he'
    · have hb' : b < s.heap.objs.size := by
        have e' : b = e ∨ b = it := by simpa using hb
        rcases e' with z | z
        · rw [z]; exact hel
        · rw [z]; exact hil
      rw [upd_ne (Nat.ne_of_lt hb')]
      exact (hf b hb).1
  done := by
    intro X hP hw hK hc i pins s σ H E I hf st hg
    subst hP hw hK
    obtain ⟨⟨old, he⟩, hit, hne⟩ := st
    obtain ⟨xs, hq, hx⟩ := hg
    obtain ⟨its, rv, p, hz, _⟩ := inv_seqB I hq
    obtain ⟨f0, f1, f2, f3, f4, f5⟩ := hf it (by simp)
    have l1 : its.toArray.size = i := by have := rv.length; simp; omega
    exact wpAny_pyNext_enum_endD (drawsB (prog := X.prog) (w := X.w) (A := X.A.in1) (show X.A.in1.handled = none from I.ok.hd hc) t it a hai its.toArray) he (by rw [l1]; exact ⟨hit, p⟩) fun h' eb => ⟨rfl, I.turned (t' := s.toks) (fun b o hb q => eb b o hb q) f0 f1 f3 f4 f5⟩
  self := fun A i s Q E st h => let ⟨⟨_, he⟩, _⟩ := st; wpAny_pyIter_enum he h
def iEnumB (K : PySem.W.Frag) (ta : TA) : TI := fun σ H R => ta σ H fun vs H1 => ∃ t a xs, vs = [.ref a] ∧ SqB K H1 t a xs ∧ R (IteB K t a) H1

end Z
namespace PySem
open Sem (wp)
open AutoSeq1 (wpAny_loadPart')
theorem meets_enumerate_newZT (l : Addr) (items : Array Value) (n : Nat) (dct : Option Addr) (sl : Array (Option Value)) :
    Meets (Builtin.«enumerate.__new__» ⟨[.type "enumerate", .ref l], []⟩) (fun _ R s => s.heap.get? l = some { cls := .type "tuple", dict := dct, data := .seq items n, slots := sl } ∧
      R (.ok (.ret (.ref (s.heap.push { cls := .type "tuple_iterator", data := .fields #[.ref l, .int 0 0] }).objs.size)))
        { s with heap := (s.heap.push { cls := .type "tuple_iterator", data := .fields #[.ref l, .int 0 0] }).push { cls := .type "enumerate", data := .fields #[.none, .bool false, .ref s.heap.objs.size, rawInt 0, .none, .none] } }) :=
  .of_wp fun prog w A R s h => by
    obtain ⟨hp, g, d, tk, os⟩ := s; obtain ⟨hl, h⟩ := h
    have hsub := sub_enumerate
    have hL : Heap.IsTuple (Shared.heap ⟨hp, g, d, tk, os⟩) l items := ⟨_, hl, rfl, n, rfl⟩
    wp_walk using wpAny_loadPart' hl
    refine wpAny_stack_any fun st => wpAny_pure ?_
    split
    · rename_i c _ _ _ _ _
      cases (c == Value.type "enumerate")
      · wp_walk using wpAny_loadPart' hl, wpAny_pyIter_tuple hL
        exact ⟨_, rfl, h⟩
      · wp_walk using wpAny_loadPart' hl, wpAny_pyIter_tuple hL
        exact ⟨_, rfl, h⟩
    · wp_walk using wpAny_loadPart' hl, wpAny_pyIter_tuple hL
      exact ⟨_, rfl, h⟩
theorem call_enumerate_zt {prog : Program} {w : World} {A : Around} {E : Value → Shared → Prop} {s : Shared} {l : Addr} {items : Array Value} {Q : Value → Shared → Prop} (hL : s.heap.IsTuple l items)
    (h : ∀ h', IsEnum h' (s.heap.objs.size + 1) s.heap.objs.size 0 .none → h'.IsTupleIter s.heap.objs.size l 0 → h'.objs.size = s.heap.objs.size + 2 →
      (∀ b o, s.heap.get? b = some o → h'.get? b = some o) → Q (.ref (s.heap.objs.size + 1)) { s with heap := h' }) :
    wpAny (model prog w) A (call (.type "enumerate") [.ref l]) Q E s := by
  obtain ⟨⟨c, dct, dt, sl⟩, hl, hc, n, hd⟩ := hL
  replace hc : c = .type "tuple" := hc
  replace hd : dt = .seq items n := hd
  subst hc hd
  refine callType_new F.called_enumerate (by decide) (F.typeCall_enumerate_1 _) (F.newCall_enumerate_1 _) (fun obj => F.args_object_init_2 obj _) F.entry_enumerate_new
    (meets_enumerate_newZT l items n dct sl) ⟨hl, ?_⟩
  have hz : (s.heap.push { cls := .type "tuple_iterator", data := .fields #[.ref l, .int 0 0] }).objs.size = s.heap.objs.size + 1 := Heap.size_push ..
  show _ ∧ _
  rw [hz]
  have he : IsEnum ((s.heap.push { cls := .type "tuple_iterator", data := .fields #[.ref l, .int 0 0] }).push
      { cls := .type "enumerate", data := .fields #[.none, .bool false, .ref s.heap.objs.size, rawInt 0, .none, .none] }) (s.heap.objs.size + 1) s.heap.objs.size 0 .none := by
    have := Heap.get?_push_size (s.heap.push { cls := .type "tuple_iterator", data := .fields #[.ref l, .int 0 0] })
      (o := { cls := .type "enumerate", data := .fields #[.none, .bool false, .ref s.heap.objs.size, rawInt 0, .none, .none] }) rfl
    rw [hz] at this; exact this
  refine ⟨⟨_, he, rfl⟩, h _ he ⟨_, Heap.get?_push_of_some _ (Heap.get?_push_size _ rfl), rfl, rfl⟩ (by rw [Heap.size_push, hz]) fun b o x => Heap.get?_push_of_some _ (Heap.get?_push_of_some _ x)⟩
end PySem
namespace Z
open PySem PySem.Spec PyProof.Rows L2
theorem call_enumB {prog : Program} {w : World} {A : Around} {E : Value → Shared → Prop} {s : Shared} {t : Bool} {l : Addr} {items : Array Value} {Q : Value → Shared → Prop} (hL : IsB s.heap t l items)
    (h : ∀ h', IsEnum h' (s.heap.objs.size + 1) s.heap.objs.size 0 .none → ItB h' t s.heap.objs.size l 0 → h'.objs.size = s.heap.objs.size + 2 →
      (∀ b o, s.heap.get? b = some o → h'.get? b = some o) → Q (.ref (s.heap.objs.size + 1)) { s with heap := h' }) :
    wpAny (model prog w) A (call (.type "enumerate") [.ref l]) Q E s := by
  cases t
  · exact call_enumerate_list hL h
  · exact call_enumerate_zt hL h
theorem pi_enumB {X : Cx} {e : Expr} {ta : TA} {p pos tpos : Pos} {elts : List Expr} {kk : Nat} (hg : Gl X "enumerate") (hm : X.mg "enumerate" = none) (ha : PA X [e] ta) (hs : starEach [e] X.env = [(false, eval e X.env)] := by rfl) :
    PI X (.Tuple elts kk tpos) (.Call (.Name "enumerate" p) [e] [] pos) (iEnumB X.K ta) := by
  refine ⟨fun pins s σ H R I h => ?_⟩
  refine Call_ (ld_blt I hg hm boot_enumerate (PyProof.Rows.callWith_type1 (thn (ha.run pos pins s σ H _ I h) fun us s1 ⟨vs, H1, I1, r1, q1⟩ => ?_) hs rfl))
  obtain ⟨t, a, xs, ex, hq, q⟩ := q1
  subst ex
  cases r1 with
  | cons r rr =>
    cases rr
    cases r
    obtain ⟨its, rv, p', hz, lt⟩ := inv_seqB I1 hq
    refine call_enumB p' fun h' he hit hsz hk => wpAny_pyIter_enum he ?_
    have I2 : Inv X pins σ H1 { s1 with heap := h' } := I1.kept (t' := s1.toks) hk
    refine ⟨s1.heap.objs.size + 1, [s1.heap.objs.size + 1, s1.heap.objs.size], _, _, H1, rfl, I2, turn_enumB a (s1.heap.objs.size + 1) s1.heap.objs.size (Nat.ne_of_lt lt) (Nat.ne_of_gt (Nat.lt_succ_of_lt lt)), ⟨⟨.none, he⟩, hit, Nat.succ_ne_self _⟩, fun b hb => ?_, q⟩
    have e' : b = s1.heap.objs.size + 1 ∨ b = s1.heap.objs.size := by simpa using hb
    have hle : s1.heap.objs.size ≤ b := by
      rcases e' with z | z
      · rw [z]; exact Nat.le_add_right _ _
      · rw [z]; exact Nat.le_refl _
    exact I1.fpOk hle (I1.hok.fresh hle)

/-! ### their denotations -/
def kindD : D → Bool
  | .tup _ => true
  | _ => false
theorem items_kind {G : Glo} {φ : List Addr} {S : Store} {H : Hp} (R : Rel G φ S H) {d : D} {v : V} (r : VRel G φ H d v) {ds : List D} (h : itemsD S d = some ds) : ∃ a vs, v = .ref a ∧ SqB G.K H (kindD d) a vs ∧ VRels G φ H ds vs := by
  cases d with
  | tup es =>
    cases h
    simp only [VRel] at r
    obtain ⟨a, vs, e, q, rs⟩ := r
    exact ⟨a, vs, e, q, rs⟩
  | fls es =>
    cases h
    simp only [VRel] at r
    obtain ⟨a, vs, e, q, rs⟩ := r
    exact ⟨a, vs, e, q.sq, rs⟩
  | ref i =>
    simp only [itemsD] at h
    split at h
    · rename_i es e
      cases h
      obtain ⟨a, vs, e, q, rs, _⟩ := sq_lst R r e
      exact ⟨a, vs, e, SqL.of q, rs⟩
    · cases h
  | _ => cases h
def jZip (x y : D) : Itd := fun k S => match itemsD S x, itemsD S y with
  | some xs, some ys => (match xs[k]?, ys[k]? with
    | some a, some b => some (some (.tup [a, b]))
    | _, _ => if k ≤ xs.length ∧ k ≤ ys.length then some none else none)
  | _, _ => none
def jEnum (x : D) : Itd := fun k S => match itemsD S x with
  | some xs => (match xs[k]? with
    | some a => some (some (.tup [.int (k : Int), a]))
    | none => if k = xs.length then some none else none)
  | none => none
section
variable {G : Glo} {φ0 φ : List Addr} {H0 H : Hp} {S : Store}
theorem pair_new {φ : List Addr} {S : Store} {H : Hp} {T : Addr} {d1 d2 : D} {v1 v2 : V} (R : Rel G φ S H) (h : H T = none) (r1 : VRel G φ H d1 v1) (r2 : VRel G φ H d2 v2) :
    Nxt φ φ H (upd H T (.tup [v1, v2])) ∧ Rel G φ S (upd H T (.tup [v1, v2])) ∧ VRel G φ (upd H T (.tup [v1, v2])) (.tup [d1, d2]) (.ref T) := by
  have n : Nxt φ φ H (upd H T (.tup [v1, v2])) := Nxt.mute h
  refine ⟨n, R.mute (R.notmem h) n.grow (nx_none h), ?_⟩
  simp only [VRel]
  exact ⟨T, _, rfl, .inl (.inl upd_same), VRels.cons (r1.nxt n) (VRels.cons (r2.nxt n) VRels.nil)⟩
theorem it_zip {x y : D} {vx vy : V} {a b : Addr} (r1 : VRel G φ0 H0 x vx) (r2 : VRel G φ0 H0 y vy) (ex : vx = .ref a) (ey : vy = .ref b) : ItRel G φ0 H0 (jZip x y) (ItzB G.K (kindD x) (kindD y) a b) := by
  subst ex ey
  refine ⟨fun k φ S H n R e => ?_, fun k φ S H d n R e => ?_⟩
  · unfold jZip at e
    cases ix : itemsD S x with
    | none => rw [ix] at e; cases e
    | some xs =>
      cases iy : itemsD S y with
      | none => rw [ix, iy] at e; cases e
      | some ys =>
        rw [ix, iy] at e
        obtain ⟨a', us, ea, qa, ra⟩ := items_kind R (r1.nxt n) ix
        obtain ⟨b', ws, eb, qb, rb⟩ := items_kind R (r2.nxt n) iy
        cases ea
        cases eb
        have la := ra.length
        have lb := rb.length
        dsimp only at e
        cases h1 : xs[k]? with
        | none =>
          rw [h1] at e
          dsimp only at e
          split at e
          · rename_i hle
            have := List.getElem?_eq_none_iff.mp h1
            exact ⟨us, ws, qa, qb, by omega, by omega, by omega⟩
          · cases e
        | some u =>
          cases h2 : ys[k]? with
          | some w => rw [h1, h2] at e; cases e
          | none =>
            rw [h1, h2] at e
            dsimp only at e
            split at e
            · rename_i hle
              have := List.getElem?_eq_none_iff.mp h2
              exact ⟨us, ws, qa, qb, by omega, by omega, by omega⟩
            · cases e
  · unfold jZip at e
    cases ix : itemsD S x with
    | none => rw [ix] at e; cases e
    | some xs =>
      cases iy : itemsD S y with
      | none => rw [ix, iy] at e; cases e
      | some ys =>
        rw [ix, iy] at e
        obtain ⟨a', us, ea, qa, ra⟩ := items_kind R (r1.nxt n) ix
        obtain ⟨b', ws, eb, qb, rb⟩ := items_kind R (r2.nxt n) iy
        cases ea
        cases eb
        dsimp only at e
        cases h1 : xs[k]? with
        | none =>
          rw [h1] at e
          dsimp only at e
          split at e <;> cases e
        | some u =>
          cases h2 : ys[k]? with
          | none =>
            rw [h1, h2] at e
            dsimp only at e
            split at e <;> cases e
          | some w =>
            rw [h1, h2] at e
            cases e
            obtain ⟨v1, e1, q1⟩ := ra.get h1
            obtain ⟨v2, e2, q2⟩ := rb.get h2
            refine ⟨⟨us, ws, v1, v2, qa, qb, e1, e2⟩, fun z H' yl => ?_⟩
            obtain ⟨T, z1, z2, rfl, hT, rfl, f1, f2⟩ := yl
            have g1 := f1 us qa
            have g2 := f2 ws qb
            rw [e1] at g1; cases g1
            rw [e2] at g2; cases g2
            exact pair_new R hT q1 q2
theorem it_enum {x : D} {vx : V} {a : Addr} (r1 : VRel G φ0 H0 x vx) (ex : vx = .ref a) : ItRel G φ0 H0 (jEnum x) (IteB G.K (kindD x) a) := by
  subst ex
  refine ⟨fun k φ S H n R e => ?_, fun k φ S H d n R e => ?_⟩
  · unfold jEnum at e
    cases ix : itemsD S x with
    | none => rw [ix] at e; cases e
    | some xs =>
      rw [ix] at e
      obtain ⟨a', us, ea, qa, ra⟩ := items_kind R (r1.nxt n) ix
      cases ea
      have la := ra.length
      dsimp only at e
      cases h1 : xs[k]? with
      | some u => rw [h1] at e; cases e
      | none =>
        rw [h1] at e
        dsimp only at e
        split at e
        · rename_i hk
          exact ⟨us, qa, by omega⟩
        · cases e
  · unfold jEnum at e
    cases ix : itemsD S x with
    | none => rw [ix] at e; cases e
    | some xs =>
      rw [ix] at e
      obtain ⟨a', us, ea, qa, ra⟩ := items_kind R (r1.nxt n) ix
      cases ea
      dsimp only at e
      cases h1 : xs[k]? with
      | none =>
        rw [h1] at e
        dsimp only at e
        split at e <;> cases e
      | some u =>
        rw [h1] at e
        cases e
        obtain ⟨v1, e1, q1⟩ := ra.get h1
        refine ⟨⟨us, v1, qa, e1⟩, fun z H' yl => ?_⟩
        obtain ⟨T, z1, rfl, hT, rfl, f1⟩ := yl
        have g1 := f1 us qa
        rw [e1] at g1; cases g1
        exact pair_new R hT (by simp only [VRel]) q1
end
def iZip (r : DA) : DI := fun env S => (r env S).bind fun xs S1 => match xs with
  | [x, y] => if (itemsD S1 x).isSome ∧ (itemsD S1 y).isSome then .ok (jZip x y) S1 else .bad
  | _ => .bad
def iEnum (r : DA) : DI := fun env S => (r env S).bind fun xs S1 => match xs with
  | [x] => if (itemsD S1 x).isSome then .ok (jEnum x) S1 else .bad
  | _ => .bad
section
variable {C : Cp} {e e2 : Expr} {dr : DA} {p pos tpos : Pos} {elts : List Expr} {kk : Nat}
theorem pix_zip (hg : glB C "zip" = true) (hm : C.G.mg "zip" = none) (ha : PAx C [e, e2] dr)
    (hs : ∀ env, starEach [e, e2] env = (false, eval e env) :: starEach [e2] env := by intro _; rfl) (hpl : ∀ env, (backTo pos (starEach [e2] env)).any (·.1) = false := by intro _; rfl) :
    PIx C (.Tuple elts kk tpos) (.Call (.Name "zip" p) [e, e2] [] pos) (iZip dr) := fun X W h => by
  refine pi_imp (pi_zipB (glB_ok hg h) (by rw [h.mg]; exact hm) (ha X W h) (hs X.env) (hpl X.env)) fun σ H R ⟨φ, S, env, R0, E, P⟩ => ⟨φ, S, env, R0, E, P.bind.imp fun φ1 H1 S1 xs n1 R1 P1 vs rs => ?_⟩
  match xs, rs, P1 with
  | [x, y], rs, P1 =>
    dsimp only at P1
    by_cases hc : (itemsD S1 x).isSome ∧ (itemsD S1 y).isSome
    · rw [if_pos hc] at P1
      obtain ⟨v, w, rfl, r1, r2⟩ := rels2 rs
      obtain ⟨xs, hx⟩ := Option.isSome_iff_exists.mp hc.1
      obtain ⟨ys, hy⟩ := Option.isSome_iff_exists.mp hc.2
      obtain ⟨a, us, rfl, qa, _⟩ := items_kind R1 r1 hx
      obtain ⟨b, ws, rfl, qb, _⟩ := items_kind R1 r2 hy
      exact ⟨kindD x, kindD y, a, b, us, ws, rfl, by rw [h.K]; exact qa, by rw [h.K]; exact qb, Pst.now P1 R1 _ (by rw [h.K]; exact it_zip r1 r2 rfl rfl)⟩
    · rw [if_neg hc] at P1
      exact P1.elim
  | [], rs, P1 => exact P1.elim
  | [_], rs, P1 => exact P1.elim
  | _ :: _ :: _ :: _, rs, P1 => exact P1.elim
theorem pix_enum (hg : glB C "enumerate" = true) (hm : C.G.mg "enumerate" = none) (ha : PAx C [e] dr) (hs : ∀ env, starEach [e] env = [(false, eval e env)] := by intro _; rfl) :
    PIx C (.Tuple elts kk tpos) (.Call (.Name "enumerate" p) [e] [] pos) (iEnum dr) := fun X W h => by
  refine pi_imp (pi_enumB (glB_ok hg h) (by rw [h.mg]; exact hm) (ha X W h) (hs X.env)) fun σ H R ⟨φ, S, env, R0, E, P⟩ => ⟨φ, S, env, R0, E, P.bind.imp fun φ1 H1 S1 xs n1 R1 P1 vs rs => ?_⟩
  match xs, rs, P1 with
  | [x], rs, P1 =>
    dsimp only at P1
    by_cases hc : (itemsD S1 x).isSome
    · rw [if_pos hc] at P1
      obtain ⟨v, rfl, r1⟩ := rels1 rs
      obtain ⟨xs, hx⟩ := Option.isSome_iff_exists.mp hc
      obtain ⟨a, us, rfl, qa, _⟩ := items_kind R1 r1 hx
      exact ⟨kindD x, a, us, rfl, by rw [h.K]; exact qa, Pst.now P1 R1 _ (by rw [h.K]; exact it_enum r1 rfl)⟩
    · rw [if_neg hc] at P1
      exact P1.elim
  | [], rs, P1 => exact P1.elim
  | _ :: _ :: _, rs, P1 => exact P1.elim
end
end Z

/-! Z11: starred items, list and tuple of a range, three names at once, f-strings, a tuple repeated. -/
namespace Z
open PySem PySem.Spec PyProof.Rows L2

/-! ### starred items -/
def dStar (a : DE) (r : DA) : DA := fun env S => (a env S).bind fun x S1 => match itemsD S1 x with
  | some xs => (r env S1).bind fun ys S2 => .ok (xs ++ ys) S2
  | none => .bad
section
variable {C : Cp} {e : Expr} {es : List Expr} {de : DE} {dr : DA} {p pos : Pos}
theorem pax_star (he : PEx C e de) (hr : PAx C es dr) (hs : ∀ env, starEach (.Starred e p :: es) env = (true, eval e env) :: starEach es env := by intro _; rfl) : PAx C (.Starred e p :: es) (dStar de dr) := fun X W h => by
  refine pa_imp (StX.pa_star (he X W h) (hr X W h) (hs X.env)) fun σ H Q ⟨φ, S, env, R, E, P⟩ => ⟨φ, S, env, R, E, P.bind.imp fun φ1 H1 S1 x n1 R1 P1 v1 r1 => ?_⟩
  cases q : itemsD S1 x with
  | none => rw [q] at P1; exact P1.elim
  | some xs =>
    rw [q] at P1
    obtain ⟨a, vs, rfl, sq, rs⟩ := items_seq R1 r1 q
    refine ⟨a, vs, rfl, by rw [h.K]; exact sq.symm, φ1, S1, env, R1, E.nxt n1, P1.bind.imp fun φ2 H2 S2 ys n2 R2 P2 ws rw2 => ?_⟩
    exact Pst.now P2 R2 _ ((rs.nxt n2).append rw2)
end

/-! ### list(range(..)), tuple(range(..)) -/
def rgD (a b : Int) : List D := (List.range (b - a).toNat).map fun i => D.int (a + (i : Nat))
theorem rg_map (f : Nat → Int) (G : Glo) (φ : List Addr) (H : Hp) : ∀ l : List Nat, VRels G φ H (l.map fun i => D.int (f i)) (l.map fun i => V.int (f i))
  | [] => VRels.nil
  | i :: l => VRels.cons (by simp only [VRel]) (rg_map f G φ H l)
theorem rg_rel {G : Glo} {φ : List Addr} {H : Hp} (a b : Int) : VRels G φ H (rgD a b) (rgV a b) := rg_map _ G φ H _
def rgB (a b : Int) : Bool := decide (-(2 ^ 62) ≤ a) && (decide (a < 2 ^ 62) && (decide (-(2 ^ 62) ≤ b) && (decide (b < 2 ^ 62) && decide ((b - a).toNat ≤ 2 ^ 24))))
theorem rgB_ok {a b : Int} (h : rgB a b = true) : RgOk a b := by
  unfold rgB at h
  simp only [Bool.and_eq_true, decide_eq_true_eq] at h
  exact ⟨h.1, h.2.1, h.2.2.1, h.2.2.2.1, h.2.2.2.2⟩
def rgOf : List D → Option (Int × Int)
  | [.int n] => some (0, n)
  | [.int a, .int b] => some (a, b)
  | _ => none
def dLRg (r : DA) : DE := fun env S => (r env S).bind fun xs S1 => match rgOf xs with
  | some (a, b) => if rgB a b = true then .ok (.ref S1.length) (S1 ++ [.lst (rgD a b)]) else .bad
  | none => .bad
def dTRg (r : DA) : DE := fun env S => (r env S).bind fun xs S1 => match rgOf xs with
  | some (a, b) => if rgB a b = true then .ok (.tup (rgD a b)) S1 else .bad
  | none => .bad
section
variable {C : Cp} {e e2 : Expr} {de de2 : DE} {p p2 pos pos2 : Pos}
theorem prg1x {W : WX} {X : Cx} (hx : Cxt C W X) (hg : glB C "range" = true) (hm : C.G.mg "range" = none) (ha : PEx C e de) (hs : ∀ env, starEach [e] env = [(false, eval e env)]) : PRg X (.Call (.Name "range" p) [e] [] pos) (tRg1 (rdE C.G W de)) :=
  prg_1 (glB_ok hg hx) (by rw [hx.mg]; exact hm) (ha X W hx) (hs X.env)
theorem prg2x {W : WX} {X : Cx} (hx : Cxt C W X) (hg : glB C "range" = true) (hm : C.G.mg "range" = none) (ha : PEx C e de) (hb : PEx C e2 de2) (hs : ∀ env, starEach [e, e2] env = (false, eval e env) :: starEach [e2] env) (hs2 : ∀ env, starEach [e2] env = [(false, eval e2 env)]) : PRg X (.Call (.Name "range" p) [e, e2] [] pos) (tRg2 (rdE C.G W de) (rdE C.G W de2)) :=
  prg_2 (glB_ok hg hx) (by rw [hx.mg]; exact hm) (ha X W hx) (hb X W hx) (hs X.env) (hs2 X.env) (by rw [hs2 X.env]; rfl)
theorem lrg_end {φ1 : List Addr} {H1 : Hp} {S1 : Store} {B : Value → Option Addr → Hp → Prop} {a b : Int} {Q : VK} (R1 : Rel C.G φ1 S1 H1) (P : Pst C.G B φ1 H1 (fun φ' H' _ x => ∀ v, VRel C.G φ' H' x v → Q v H') (if rgB a b = true then .ok (.ref S1.length) (S1 ++ [.lst (rgD a b)]) else .bad)) :
    RgOk a b ∧ ∀ q, H1 q = none → Q (.ref q) (upd H1 q (.lst (rgV a b))) := by
  split at P
  · rename_i hb
    refine ⟨rgB_ok hb, fun q hq => ?_⟩
    obtain ⟨R2, n2⟩ := R1.push (o := .lst (rgD a b)) (u := .lst (rgV a b)) hq ⟨_, upd_same, rg_rel a b⟩
    refine P _ _ n2 R2 (.ref q) ?_
    simp only [VRel]
    exact ⟨q, rfl, by rw [← R1.len]; simp⟩
  · exact P.elim
theorem trg_end {φ1 : List Addr} {H1 : Hp} {S1 : Store} {B : Value → Option Addr → Hp → Prop} {a b : Int} {Q : VK} (R1 : Rel C.G φ1 S1 H1) (P : Pst C.G B φ1 H1 (fun φ' H' _ x => ∀ v, VRel C.G φ' H' x v → Q v H') (if rgB a b = true then .ok (.tup (rgD a b)) S1 else .bad)) :
    RgOk a b ∧ ∀ q, H1 q = none → Q (.ref q) (upd H1 q (.tup (rgV a b))) := by
  split at P
  · rename_i hb
    refine ⟨rgB_ok hb, fun q hq => ?_⟩
    have n2 : Nxt φ1 φ1 H1 (upd H1 q (.tup (rgV a b))) := Nxt.mute hq
    refine P _ _ n2 (R1.mute (R1.notmem hq) n2.grow (nx_none hq)) (.ref q) ?_
    simp only [VRel]
    exact ⟨q, _, rfl, .inl (.inl upd_same), rg_rel a b⟩
  · exact P.elim
theorem rd_rg1 {W : WX} {σ : St} {H : Hp} {f : Int → Int → Store → Res D} {Q : VK} {P2 : Int → Int → Hp → Prop} (h : rdE C.G W (fun env S => (dCons de dNil env S).bind fun xs S1 => match rgOf xs with
    | some (a, b) => f a b S1
    | none => .bad) σ H Q) (k : ∀ φ1 H1 S1 a b (B : Value → Option Addr → Hp → Prop), Rel C.G φ1 S1 H1 → Pst C.G B φ1 H1 (fun φ' H' _ x => ∀ v, VRel C.G φ' H' x v → Q v H') (f a b S1) → P2 a b H1) : tRg1 (rdE C.G W de) σ H P2 := by
  obtain ⟨φ, S, env, R, E, P⟩ := h
  unfold dCons at P
  dsimp only at P
  rw [Res.bind_assoc] at P
  refine ⟨φ, S, env, R, E, P.bind.imp fun φ1 H1 S1 x n1 R1 P1 v1 r1 => ?_⟩
  cases x with
  | int n =>
    simp only [VRel] at r1
    simp only [dNil, Res.bind_ok, rgOf] at P1
    exact ⟨n, r1, k _ _ _ _ _ _ R1 P1⟩
  | _ => simp only [dNil, Res.bind_ok, rgOf] at P1; exact P1.elim
theorem rd_rg2 {W : WX} {σ : St} {H : Hp} {f : Int → Int → Store → Res D} {Q : VK} {P2 : Int → Int → Hp → Prop} (h : rdE C.G W (fun env S => (dCons de (dCons de2 dNil) env S).bind fun xs S1 => match rgOf xs with
    | some (a, b) => f a b S1
    | none => .bad) σ H Q) (k : ∀ φ1 H1 S1 a b (B : Value → Option Addr → Hp → Prop), Rel C.G φ1 S1 H1 → Pst C.G B φ1 H1 (fun φ' H' _ x => ∀ v, VRel C.G φ' H' x v → Q v H') (f a b S1) → P2 a b H1) : tRg2 (rdE C.G W de) (rdE C.G W de2) σ H P2 := by
  obtain ⟨φ, S, env, R, E, P⟩ := h
  unfold dCons at P
  dsimp only at P
  rw [Res.bind_assoc] at P
  refine ⟨φ, S, env, R, E, P.bind.imp fun φ1 H1 S1 x n1 R1 P1 v1 r1 => ?_⟩
  rw [Res.bind_assoc, Res.bind_assoc] at P1
  refine ⟨φ1, S1, env, R1, E.nxt n1, P1.bind.imp fun φ2 H2 S2 y n2 R2 P3 v2 r2 => ?_⟩
  simp only [dNil, Res.bind_ok] at P3
  cases x with
  | int n =>
    cases y with
    | int m =>
      simp only [VRel] at r1 r2
      simp only [rgOf] at P3
      exact ⟨n, m, r1, r2, k _ _ _ _ _ _ R2 P3⟩
    | _ => simp only [rgOf] at P3; exact P3.elim
  | _ => simp only [rgOf] at P3; exact P3.elim
theorem pex_lrg1 (hl : glB C "list" = true) (hlm : C.G.mg "list" = none) (hg : glB C "range" = true) (hm : C.G.mg "range" = none) (ha : PEx C e de) (hs : ∀ env, starEach [e] env = [(false, eval e env)] := by intro _; rfl)
    (hs1 : ∀ env, starEach [.Call (.Name "range" p) [e] [] pos] env = [(false, eval (.Call (.Name "range" p) [e] [] pos) env)] := by intro _; rfl) : PEx C (.Call (.Name "list" p2) [.Call (.Name "range" p) [e] [] pos] [] pos2) (dLRg (dCons de dNil)) := fun X W h =>
  pe_imp (pe_listRg h.calm (glB_ok hl h) (by rw [h.mg]; exact hlm) (prg1x h hg hm ha hs) (hs1 X.env)) fun σ H Q q => rd_rg1 q fun _ _ _ _ _ _ => lrg_end
theorem pex_lrg2 (hl : glB C "list" = true) (hlm : C.G.mg "list" = none) (hg : glB C "range" = true) (hm : C.G.mg "range" = none) (ha : PEx C e de) (hb : PEx C e2 de2) (hs : ∀ env, starEach [e, e2] env = (false, eval e env) :: starEach [e2] env := by intro _; rfl) (hs2 : ∀ env, starEach [e2] env = [(false, eval e2 env)] := by intro _; rfl)
    (hs1 : ∀ env, starEach [.Call (.Name "range" p) [e, e2] [] pos] env = [(false, eval (.Call (.Name "range" p) [e, e2] [] pos) env)] := by intro _; rfl) : PEx C (.Call (.Name "list" p2) [.Call (.Name "range" p) [e, e2] [] pos] [] pos2) (dLRg (dCons de (dCons de2 dNil))) := fun X W h =>
  pe_imp (pe_listRg h.calm (glB_ok hl h) (by rw [h.mg]; exact hlm) (prg2x h hg hm ha hb hs hs2) (hs1 X.env)) fun σ H Q q => rd_rg2 q fun _ _ _ _ _ _ => lrg_end
theorem pex_trg1 (hl : glB C "tuple" = true) (hlm : C.G.mg "tuple" = none) (hg : glB C "range" = true) (hm : C.G.mg "range" = none) (ha : PEx C e de) (hs : ∀ env, starEach [e] env = [(false, eval e env)] := by intro _; rfl)
    (hs1 : ∀ env, starEach [.Call (.Name "range" p) [e] [] pos] env = [(false, eval (.Call (.Name "range" p) [e] [] pos) env)] := by intro _; rfl) : PEx C (.Call (.Name "tuple" p2) [.Call (.Name "range" p) [e] [] pos] [] pos2) (dTRg (dCons de dNil)) := fun X W h =>
  pe_imp (pe_tupRg h.calm (glB_ok hl h) (by rw [h.mg]; exact hlm) (prg1x h hg hm ha hs) (hs1 X.env)) fun σ H Q q => rd_rg1 q fun _ _ _ _ _ _ => trg_end
theorem pex_trg2 (hl : glB C "tuple" = true) (hlm : C.G.mg "tuple" = none) (hg : glB C "range" = true) (hm : C.G.mg "range" = none) (ha : PEx C e de) (hb : PEx C e2 de2) (hs : ∀ env, starEach [e, e2] env = (false, eval e env) :: starEach [e2] env := by intro _; rfl) (hs2 : ∀ env, starEach [e2] env = [(false, eval e2 env)] := by intro _; rfl)
    (hs1 : ∀ env, starEach [.Call (.Name "range" p) [e, e2] [] pos] env = [(false, eval (.Call (.Name "range" p) [e, e2] [] pos) env)] := by intro _; rfl) : PEx C (.Call (.Name "tuple" p2) [.Call (.Name "range" p) [e, e2] [] pos] [] pos2) (dTRg (dCons de (dCons de2 dNil))) := fun X W h =>
  pe_imp (pe_tupRg h.calm (glB_ok hl h) (by rw [h.mg]; exact hlm) (prg2x h hg hm ha hb hs hs2) (hs1 X.env)) fun σ H Q q => rd_rg2 q fun _ _ _ _ _ _ => trg_end
end

/-! ### a, b, c = x, y, z -/
theorem psx_par3 {C : Cp} {i j l : Nat} {x y z : Str} {a b c : Expr} {dr : DA} {px py pz pt pt2 pos : Pos} {kt k2} (nd : C.N.Nodup) (hi : C.N[i]? = some x) (hj : C.N[j]? = some y) (hl : C.N[l]? = some z) (hij : i ≠ j) (hil : i ≠ l) (hjl : j ≠ l)
    (hx : C.sc.names.lookup x = some .local) (hy : C.sc.names.lookup y = some .local) (hz : C.sc.names.lookup z = some .local) (ha : PAx C [a, b, c] dr)
    (hw : ∀ env : Env, env.scope = C.sc → swappedStores [.Tuple [.Name x px, .Name y py, .Name z pz] kt pt] (.Tuple [a, b, c] k2 pt2) env = pure (some [x, y, z]))
    (hs : ∀ env, swapsWithSole [.Tuple [.Name x px, .Name y py, .Name z pz] kt pt] (.Tuple [a, b, c] k2 pt2) pos.line env = pure false := by intro _; rfl) :
    PSx C (.Assign [.Tuple [.Name x px, .Name y py, .Name z pz] kt pt] (.Tuple [a, b, c] k2 pt2) pos) (sAsg (dTup dr) (gTup 3 (gCons (gNm i) (gCons (gNm j) (gCons (gNm l) gNil))))) := fun X W h => by
  refine ps_imp (ps_par3 h.calm (by rw [h.N]; exact nd) (by rw [h.N]; exact hi) (by rw [h.N]; exact hj) (by rw [h.N]; exact hl) hij hil hjl (by rw [h.sc]; exact hx) (by rw [h.sc]; exact hy) (by rw [h.sc]; exact hz) (ha X W h) (hw X.env h.sc) (hs X.env)) fun D σ H ⟨φ, S, env, R, E, P⟩ => ?_
  have P0 : Pst C.G (fun c p H' => ∀ σ', W c p σ' H') φ H _ (dTup dr env S) := P.bind
  unfold dTup at P0
  refine ⟨φ, S, env, R, E, (pst_err P0.bind).imp fun φ1 H1 S1 xs n1 R1 P1 vs rs => ?_⟩
  split at P1
  · have P2 := Pst.now P1 R1
    match xs, rs, P2 with
    | [d, e, f], rs, P2 =>
      simp only [VRels] at rs
      obtain ⟨v, us, rfl, rv, w, us', rfl, rw', u, us'', rfl, ru, rfl⟩ := rs
      refine ⟨v, w, u, rfl, ?_⟩
      exact (Pst.now (α := Fl) P2 R1 : FlP C.G D φ1 H1 (.nx _)) _ ((((E.nxt n1).set rv).set rw').set ru)
    | [], rs, P2 => exact P2.elim
    | [_], rs, P2 => exact P2.elim
    | [_, _], rs, P2 => exact P2.elim
    | _ :: _ :: _ :: _ :: _, rs, P2 =>
      exfalso
      simp [gTup, Res.bind, Pst] at P2
  · exact P1.elim

/-! ### f-strings -/
def fmtO : D → Option Str
  | .str y => if y.length ≤ sl then some y else none
  | .int i => if i.natAbs.log2 < 1920 then some (toString i) else none
  | _ => none
def dFmt (a : DE) : DE := fun env S => (a env S).bind fun x S1 => match fmtO x with
  | some y => .ok (.str y) S1
  | none => .bad
def goJ : List DE → Str → DE
  | [], acc => fun _ S => .ok (.str acc) S
  | d :: ds, acc => fun env S => (d env S).bind fun x S1 => match x with
    | .str y => if (acc ++ y).length ≤ sl then goJ ds (acc ++ y) env S1 else .bad
    | _ => .bad
def dJs (ds : List DE) : DE := goJ ds Str.empty
section
variable {C : Cp} {e : Expr} {es : List Expr} {de : DE} {dr : DA} {p pos : Pos}
theorem pex_fmt (he : PEx C e de) : PEx C (.FormattedValue e (-1) none pos) (dFmt de) := fun X W h => by
  refine pe_imp (pe_fmt (he X W h)) fun σ H Q ⟨φ, S, env, R, E, P⟩ => ⟨φ, S, env, R, E, P.bind.imp fun φ1 H1 S1 x n1 R1 P1 v1 r1 => ?_⟩
  cases x with
  | str y =>
    simp only [VRel] at r1
    simp only [fmtO] at P1
    by_cases hl : y.length ≤ sl
    · rw [if_pos hl] at P1
      exact .inl ⟨y, r1, by rw [sl_eq]; exact hl, Pst.now P1 R1 _ (by simp only [VRel])⟩
    · rw [if_neg hl] at P1
      exact P1.elim
  | int i =>
    simp only [VRel] at r1
    simp only [fmtO] at P1
    by_cases hl : i.natAbs.log2 < 1920
    · rw [if_pos hl] at P1
      exact .inr ⟨i, r1, hl, Pst.now P1 R1 _ (by simp only [VRel])⟩
    · rw [if_neg hl] at P1
      exact P1.elim
  | _ => exact P1.elim
/-- parts -/
inductive PJx (C : Cp) : List Expr → List DE → Prop
  | nil : PJx C [] []
  | cons {e : Expr} {de : DE} {es : List Expr} {ds : List DE} (h : PEx C e de) (r : PJx C es ds) : PJx C (e :: es) (de :: ds)
theorem PJx.pj {es : List Expr} {ds : List DE} (h : PJx C es ds) {X : Cx} {W : WX} (hx : Cxt C W X) : PJ X es (ds.map fun d => rdE C.G W d) := by
  induction h with
  | nil => exact .nil
  | cons h _ ih => exact .cons (h X W hx) ih
theorem rd_js {W : WX} {σ : St} {Q : VK} : ∀ (ds : List DE) (acc : Str) (H : Hp), rdE C.G W (goJ ds acc) σ H Q → tJs (ds.map fun d => rdE C.G W d) acc σ H fun out H1 => Q (.str out) H1
  | [], acc, H, ⟨φ, S, env, R, E, P⟩ => Pst.now P R _ (by simp only [VRel])
  | d :: ds, acc, H, ⟨φ, S, env, R, E, P⟩ => by
    refine ⟨φ, S, env, R, E, P.bind.imp fun φ1 H1 S1 x n1 R1 P1 v1 r1 => ?_⟩
    cases x with
    | str y =>
      simp only [VRel] at r1
      dsimp only at P1
      by_cases hl : (acc ++ y).length ≤ sl
      · rw [if_pos hl] at P1
        exact ⟨y, r1, by rw [sl_eq]; exact hl, rd_js ds (acc ++ y) H1 ⟨φ1, S1, env, R1, E.nxt n1, P1⟩⟩
      · rw [if_neg hl] at P1
        exact P1.elim
    | _ => exact P1.elim
theorem pex_js {v1 v2 : Expr} {rest : List Expr} {ds : List DE} (h : PJx C (v1 :: v2 :: rest) ds) : PEx C (.JoinedStr (v1 :: v2 :: rest) pos) (dJs ds) := fun X W hx =>
  pe_imp (pe_joined (h.pj hx)) fun σ H Q q => rd_js ds Str.empty H q
theorem pex_js1 (he : PEx C e de) : PEx C (.JoinedStr [e] pos) de := fun X W hx => pe_joined1 (he X W hx)
end

/-! ### a tuple repeated -/
def oMulT : Op2 := fun d e S => match d, e with
  | .tup xs, .int k => if xs ≠ [] ∧ 2 ≤ k ∧ k ≤ 1000 ∧ xs.length ≤ 1000 then some (.tup (List.replicate k.toNat xs).flatten, S) else none
  | _, _ => none
theorem opx_mulT {C : Cp} : OpRx C (binaryOp .Mult) oMulT := OpRx.imp (fun X => rRepT X.K) (fun _ _ _ => op_repT) fun X W hx φ S H d e x y Q R r1 r2 P => by
  unfold oMulT at P
  split at P
  · split at P
    · rename_i xs k hb
      simp only [VRel] at r1 r2
      obtain ⟨a, vs, rfl, sq, rs⟩ := r1
      subst r2
      refine ⟨a, _, vs, rfl, rfl, by rw [hx.K]; exact sq, fun z => hb.1 ?_, hb.2.1, hb.2.2.1, by rw [← rs.length]; exact hb.2.2.2, fun p hp => PstV.tup P R (rs.replicate _) hp⟩
      subst z
      exact List.eq_nil_of_length_eq_zero rs.length
    · exact P.elim
  · exact P.elim
def oMulA : Op2 := orO oMulI (orO oMulL oMulT)
theorem opx_mulA {C : Cp} : OpRx C (binaryOp .Mult) oMulA := opx_mulI.or (opx_mulL.or opx_mulT)
end Z

/-! Z12: the head: a law's facts read at the heap behind the top, the law's end. -/
namespace Z
open PySem PySem.Spec PyProof.Rows L2 He

/-! ### defs by addresses -/
structure Df where
  ad : PySem.W.Frag → Addr
  name : Str
  qual : Str
  params : Arguments
  body : List Stmt
  scope : Scope
  dvs : List V
  clo : List Str := []
def fnA (K : PySem.W.Frag) (a : Addr) : FnW := match K.lookup a with
  | some ⟨_, _, .func fd, _⟩ => some (fd.name, fd.qualname, fd.params, fd.body, fd.scope, fd.globals, fd.closure.map (fun z => (z.1, 0)), fd.builtins)
  | _ => none
def Df.val (d : Df) : FnW := some (d.name, d.qual, d.params, .stmts d.body, d.scope, mainGlobals, d.clo.map (fun z => (z, 0)), builtinsNs)
def Df.ok (K : PySem.W.Frag) (d : Df) : Bool := PySem.W.keepIn K (.ref (d.ad K)) && (match K.lookup (d.ad K) with
  | some ⟨_, _, .func fd, _⟩ => PySem.W.codeIn K fd.code d.qual && (dflB K fd.defaults d.dvs && kwdB K fd.kwdefaults [])
  | _ => false)
theorem Df.funD {K : PySem.W.Frag} {d : Df} (e : fnA K (d.ad K) = d.val) (c : d.ok K = true) (hc : d.clo = []) : ∃ fd, FunD K d.name d.qual d.params d.body d.scope d.dvs [] (d.ad K) fd := by
  obtain ⟨kp, c2⟩ := ba c
  unfold fnA at e
  cases q : K.lookup (d.ad K) with
  | none =>
    rw [q] at c2
    cases c2
  | some o =>
    obtain ⟨oc, od, dt, osl⟩ := o
    rw [q] at c2 e
    cases dt with
    | func fd =>
      obtain ⟨n1, n2, n3, n4, n5, n6, n7, n8, n9, n10, n11, n12, n13, n14, n15⟩ := fd
      have e2 : (some (n1, n2, n3, n4, n5, n6, n7.map (fun z => (z.1, 0)), n15) : FnW) = some (d.name, d.qual, d.params, .stmts d.body, d.scope, mainGlobals, d.clo.map (fun z => (z, 0)), builtinsNs) := e
      rw [hc] at e2
      simp only [Option.some.injEq, Prod.mk.injEq] at e2
      obtain ⟨h1, h2, h3, h4, h5, h6, h7, h8⟩ := e2
      have h7 : n7 = [] := List.map_eq_nil_iff.mp h7
      subst h1 h2 h3 h4 h5 h6 h7 h8
      have c3 : (PySem.W.codeIn K n13 d.qual && (dflB K n8 d.dvs && kwdB K n9 [])) = true := c2
      obtain ⟨k1, k2⟩ := ba c3
      obtain ⟨k3, k4⟩ := ba k2
      exact ⟨_, ⟨oc, od, n8, n9, n10, n11, n12, n13, n14, osl, rfl, q, k1, dflB_ok k3, kwdB_ok k4⟩, kp⟩
    | _ => cases c2

/-! ### checks of the written part -/
abbrev Ck := PySem.W.Frag → Bool
/-- the getter of a property -/
def pgA (K : PySem.W.Frag) (C : Addr) (f : Str) : Addr := match PySem.W.recIn K (ma K C f) "property" with
  | some (.ref g :: _) => g
  | _ => 0
/-- the def of a classmethod -/
def cmA (K : PySem.W.Frag) (C : Addr) (f : Str) : Addr := match PySem.W.recIn K (ma K C f) "classmethod" with
  | some (.ref g :: _) => g
  | _ => 0
def ckFa (f : Fa) : Ck := fun K => f.ok K
def ckSlt (x : Str) : Ck := fun K => PySem.W.plainGet K (ga K x) Str.empty && (PySem.W.isClsIn K (ga K x) && (PySem.W.plainOver K (ga K x) && eqO (PySem.W.findIn K (.ref (ga K x)) "__setattr__") (some (some (.builtin "object.__setattr__")))))
def ckIsi (x : Str) : Ck := fun K => eqO (PySem.W.findIn K (.ref (ga K x)) "__class__") (some (some (.builtin "object.__class__"))) && (eqO (PySem.W.specialIn K (.builtin "object.__class__") "__get__") (some (some (.builtin "getset_descriptor.__get__"))) &&
  (decide (PySem.W.takesIn K (.builtin "object.__class__") = some true) && decide (PySem.W.mroIn K (ga K x) (.type "object") = some true)))
def ckFld (x f : Str) (i : Nat) : Ck := fun K => eqO (PySem.W.findIn K (.ref (ga K x)) f) (some (some (.ref (ma K (ga K x) f)))) && (eqO (PySem.W.specialIn K (.ref (ma K (ga K x) f)) "__get__") (some (some (.builtin "member_descriptor.__get__"))) &&
  (decide (PySem.W.takesIn K (.ref (ma K (ga K x) f)) = some true) && (decide (PySem.W.typeIn K (.ref (ma K (ga K x) f)) = some (.type "member_descriptor")) && (decide (PySem.W.slotIn K (ma K (ga K x) f) (ga K x) = some i) && decide (i < 1000)))))
def ckPrp (x f : Str) : Ck := fun K => eqO (PySem.W.findIn K (.ref (ga K x)) f) (some (some (.ref (ma K (ga K x) f)))) && (eqO (PySem.W.specialIn K (.ref (ma K (ga K x) f)) "__get__") (some (some (.builtin "property.__get__"))) &&
  (decide (PySem.W.takesIn K (.ref (ma K (ga K x) f)) = some true) && (match PySem.W.recIn K (ma K (ga K x) f) "property" with
    | some (.ref g :: _) => decide (g = pgA K (ga K x) f)
    | _ => false)))
def ckCm (x f : Str) : Ck := fun K => PySem.W.readsIn K (ga K x) (.type "type") && (eqO (PySem.W.specialIn K (.ref (ga K x)) "__getattribute__") (some (some (.builtin "type.__getattribute__"))) &&
  ((match PySem.W.findCls K (.ref (ga K x)) (.type "type") f with
    | some (.get (.builtin b) (.ref p) .none (.ref c)) => decide (b = "classmethod.__get__") && (decide (p = ma K (ga K x) f) && decide (c = ga K x))
    | _ => false) && ((match PySem.W.recIn K (ma K (ga K x) f) "classmethod" with
    | some (.ref g :: _) => decide (g = cmA K (ga K x) f)
    | _ => false) && PySem.W.fnIn K (cmA K (ga K x) f))))
section
variable {K : PySem.W.Frag} {x f : Str}
theorem ckSlt_ok (c : ckSlt x K = true) : SlX.SCls K (ga K x) := by
  obtain ⟨c1, c⟩ := ba c
  obtain ⟨c2, c⟩ := ba c
  obtain ⟨c3, c4⟩ := ba c
  exact ⟨c1, c2, c3, eqO_ok c4⟩
theorem ckIsi_ok (c : ckIsi x K = true) : SlX.SIsi K (ga K x) := by
  obtain ⟨c1, c⟩ := ba c
  obtain ⟨c2, c⟩ := ba c
  obtain ⟨c3, c4⟩ := ba c
  exact ⟨eqO_ok c1, eqO_ok c2, of_decide_eq_true c3, of_decide_eq_true c4⟩
theorem ckFld_ok {i : Nat} (c : ckFld x f i K = true) : ∃ p, SlX.Slot1 K (ga K x) f p i := by
  obtain ⟨c1, c⟩ := ba c
  obtain ⟨c2, c⟩ := ba c
  obtain ⟨c3, c⟩ := ba c
  obtain ⟨c4, c⟩ := ba c
  obtain ⟨c5, c6⟩ := ba c
  exact ⟨_, eqO_ok c1, eqO_ok c2, of_decide_eq_true c3, of_decide_eq_true c4, of_decide_eq_true c5, of_decide_eq_true c6⟩
theorem recM {o : Option (List Value)} {a : Addr} (h : (match o with
    | some (.ref g :: _) => decide (g = a)
    | _ => false) = true) : ∃ rest, o = some (.ref a :: rest) := by
  split at h
  · rename_i g r
    rw [of_decide_eq_true h]
    exact ⟨r, rfl⟩
  · cases h
theorem ckPrp_ok (c : ckPrp x f K = true) : ∃ p, PySem.W.findIn K (.ref (ga K x)) f = some (some (.ref p)) ∧ PySem.W.specialIn K (.ref p) "__get__" = some (some (.builtin "property.__get__")) ∧ PySem.W.takesIn K (.ref p) = some true ∧ ∃ rest, PySem.W.recIn K p "property" = some (.ref (pgA K (ga K x) f) :: rest) := by
  obtain ⟨c1, c⟩ := ba c
  obtain ⟨c2, c⟩ := ba c
  obtain ⟨c3, c4⟩ := ba c
  exact ⟨_, eqO_ok c1, eqO_ok c2, of_decide_eq_true c3, recM c4⟩
theorem ckCm_ok (c : ckCm x f K = true) : ClX.CRead K (ga K x) (.type "type") ∧ ClX.CMet K (ga K x) (.type "type") f (ma K (ga K x) f) (cmA K (ga K x) f) := by
  obtain ⟨c1, c⟩ := ba c
  obtain ⟨c2, c⟩ := ba c
  obtain ⟨c3, c⟩ := ba c
  obtain ⟨c4, c5⟩ := ba c
  refine ⟨⟨c1, eqO_ok c2⟩, ?_, recM c4, c5⟩
  split at c3
  · rename_i b p c e
    obtain ⟨d1, d⟩ := ba c3
    obtain ⟨d2, d3⟩ := ba d
    rw [e, of_decide_eq_true d1, of_decide_eq_true d2, of_decide_eq_true d3]
  · cases c3
end

/-! ### the Hook -/
/-- the addresses looked at: those below n -/
def asZ (_ : Addr → Option Obj) (n : Nat) : List Addr := List.range n
/-- the code object of the def at a, its table -/
def codeA (K : PySem.W.Frag) (a : Addr) : Addr := match K.lookup a with
  | some ⟨_, _, .func fd, _⟩ => (match fd.code with
    | .ref c => c
    | _ => 0)
  | _ => 0
def tabA (K : PySem.W.Frag) (a : Addr) : Addr × Addr := (codeA K a, tabOf K (codeA K a))
abbrev AlZ : Type := Bool × List FnW
def tabsZ (g : Addr → Option Obj) (tf : List (PySem.W.Frag → Addr)) (K : PySem.W.Frag) : Bool := tf.all fun p => PySem.W.codeHdIn K (tabA K (p K)).1 (tabA K (p K)).2 && (match g (tabA K (p K)).2 with
  | some o => emptyTab o
  | none => false)
def obsZ (cs : List Ck) (fn : List Df) (K : PySem.W.Frag) : AlZ := ((cs.all fun c => c K) && fn.all fun d => d.ok K, fn.map fun d => fnA K (d.ad K))
def valZ (fn : List Df) : AlZ := (true, fn.map Df.val)
def obsZG (n : Nat) (cs : List Ck) (fn : List Df) (tf : List (PySem.W.Frag → Addr)) (g : Addr → Option Obj) : AlZ × Bool := (obsZ cs fn (frT g (asZ g n)), tabsZ g tf (frT g (asZ g n)))
structure SaysZ (cs : List Ck) (fn : List Df) (tf : List (PySem.W.Frag → Addr)) (h : Heap) (K : PySem.W.Frag) : Prop where
  all : obsZ cs fn K = valZ fn
  hd : ∀ p ∈ tf, PySem.W.codeHdIn K (tabA K (p K)).1 (tabA K (p K)).2 = true
  out : ∀ p ∈ tf, K.lookup (tabA K (p K)).2 = none
  empty : ∀ p ∈ tf, h.get? (tabA K (p K)).2 = some { cls := .none, data := .fields #[] }
theorem saysZ_of {n : Nat} {cs : List Ck} {fn : List Df} {tf : List (PySem.W.Frag → Addr)} {h : Heap} (e : obsZG n cs fn tf h.get? = (valZ fn, true)) : SaysZ cs fn tf h (frT h.get? (asZ h.get? n)) := by
  have e1 : obsZ cs fn (frT h.get? (asZ h.get? n)) = valZ fn := congrArg (fun z : AlZ × Bool => z.1) e
  have e2 : tabsZ h.get? tf (frT h.get? (asZ h.get? n)) = true := congrArg (fun z : AlZ × Bool => z.2) e
  have key : ∀ p ∈ tf, PySem.W.codeHdIn (frT h.get? (asZ h.get? n)) (tabA (frT h.get? (asZ h.get? n)) (p (frT h.get? (asZ h.get? n)))).1 (tabA (frT h.get? (asZ h.get? n)) (p (frT h.get? (asZ h.get? n)))).2 = true ∧
      ∃ o, h.get? (tabA (frT h.get? (asZ h.get? n)) (p (frT h.get? (asZ h.get? n)))).2 = some o ∧ emptyTab o = true := fun p hp => by
    obtain ⟨h3, h4⟩ := ba (List.all_eq_true.mp e2 p hp)
    refine ⟨h3, ?_⟩
    cases q : h.get? (tabA (frT h.get? (asZ h.get? n)) (p (frT h.get? (asZ h.get? n)))).2 with
    | none =>
      rw [q] at h4
      cases h4
    | some o =>
      rw [q] at h4
      exact ⟨o, rfl, h4⟩
  exact ⟨e1, fun p hp => (key p hp).1, fun p hp => by
    obtain ⟨_, o, q, z⟩ := key p hp
    exact frT_none q z, fun p hp => by
    obtain ⟨_, o, q, z⟩ := key p hp
    rw [q, emptyTab_eq z]⟩
def hookZ (n : Nat) (cs : List Ck) (fn : List Df) (tf : List (PySem.W.Frag → Addr)) : PySem.W.Hook where
  α := AlZ × Bool
  obs := fun s => obsZG n cs fn tf s.heap.get?
  val := fun _ => (valZ fn, true)
  says := fun _ h => ∃ K : PySem.W.Frag, K.In h ∧ SaysZ cs fn tf h K
  of := fun _ _ e => ⟨_, frT_in, saysZ_of e⟩
  keeps := fun _ _ _ ⟨K, hK, c⟩ k => ⟨K, PySem.W.Frag.In.keeps hK k, ⟨c.all, c.hd, c.out, fun p hp => k _ _ (c.empty p hp)⟩⟩
theorem obsZG_eq {n : Nat} {cs : List Ck} {fn : List Df} {tf : List (PySem.W.Frag → Addr)} {g : Addr → Option Obj} {s : Shared} (h : ∀ a, g a = s.heap.get? a) : obsZG n cs fn tf g = (hookZ n cs fn tf).obs s := by
  have e : g = s.heap.get? := funext h
  rw [e] <;> rfl

/-- the readings of defaults that fill up -/
def dflF (F : Fn) (ns : List D) : Fn := fun ds S => F (ds ++ ns) S
/-! ### what a law's ground knows -/
/-- the tables of code objects: the def's address, the name of what is made within -/
abbrev Tf := List ((PySem.W.Frag → Addr) × Str)
def tabZ (K : PySem.W.Frag) (tf : Tf) : List (Addr × Str) := tf.map fun z => ((tabA K (z.1 K)).2, z.2)
structure Hyp (cs : List Ck) (fn : List Df) (cl : List Str) (tf : Tf) (pr : Program) (G : Glo) : Prop where
  prog : G.P = pr
  all : obsZ cs fn G.K = valZ fn
  mgns : ∀ x r, PySem.W.nsIn G.K mainGlobals x = some r → G.mg x = r
  cls : ∀ (c : Nat) (x : Str), cl[c]? = some x → G.ad c = ga G.K x
  tabs : G.T = tabZ G.K tf
  tabB : ∀ z ∈ tf, LamX.TabB G.base G.mg (tabA G.K (z.1 G.K)).1 (tabA G.K (z.1 G.K)).2
section
variable {cs : List Ck} {fn : List Df} {cl : List Str} {tf : Tf} {pr : Program} {G : Glo}
theorem Hyp.ck (h : Hyp cs fn cl tf pr G) (i : Nat) {c : Ck} (e : cs[i]? = some c) : c G.K = true := by
  have c1 := (ba (show ((cs.all fun c => c G.K) && fn.all fun d => d.ok G.K) = true from congrArg (fun z : AlZ => z.1) h.all)).1
  exact List.all_eq_true.mp c1 c (List.mem_of_getElem? e)
theorem Hyp.def_ (h : Hyp cs fn cl tf pr G) (i : Nat) {d : Df} (e0 : fn[i]? = some d) (hc : d.clo = [] := by rfl) : ∃ fd, FunD G.K d.name d.qual d.params d.body d.scope d.dvs [] (d.ad G.K) fd := by
  have c2 := (ba (show ((cs.all fun c => c G.K) && fn.all fun d => d.ok G.K) = true from congrArg (fun z : AlZ => z.1) h.all)).2
  have e : fn.map (fun d => fnA G.K (d.ad G.K)) = fn.map Df.val := congrArg (fun z : AlZ => z.2) h.all
  have e2 : (fn.map fun d => fnA G.K (d.ad G.K))[i]? = (fn.map Df.val)[i]? := by rw [e]
  rw [List.getElem?_map, List.getElem?_map, e0] at e2
  exact Df.funD (Option.some.inj e2) (List.all_eq_true.mp c2 d (List.mem_of_getElem? e0)) hc
theorem Hyp.glo (h : Hyp cs fn cl tf pr G) (i : Nat) {x : Str} (e : cs[i]? = some (ckFa (.glo x))) : G.mg x = some (.ref (ga G.K x)) := h.mgns x _ (eqO_ok (h.ck i e))
theorem Hyp.free (h : Hyp cs fn cl tf pr G) (i : Nat) {x : Str} (e : cs[i]? = some (ckFa (.free x))) : G.mg x = none := h.mgns x _ (eqO_ok (h.ck i e))
theorem Hyp.int (h : Hyp cs fn cl tf pr G) (i : Nat) {x : Str} {n : Int} (e : cs[i]? = some (ckFa (.int x n))) : ∃ t, G.mg x = some (.int n t) := by
  have c2 : (match PySem.W.nsIn G.K mainGlobals x with
    | some (some (.int j _)) => decide (j = n)
    | _ => false) = true := h.ck i e
  split at c2
  · rename_i j t q
    rw [of_decide_eq_true c2] at q
    exact ⟨t, h.mgns x _ q⟩
  · cases c2
section
variable {i j k n : Nat} {d : Df} {y : Str} {N ps : List Str} {b : DS}
theorem Hyp.fnA (h : Hyp cs fn cl tf pr G) (i : Nat) (hd : fn[i]? = some d) (Sc : FnScope N ps d.scope) (hn : ps.length = n)
    (hbi : ∀ (kV doc pm : Value) (an : Option Addr) (cdv ct : Value) (us : List Value), us.length = ps.length → bindArgs (PySem.W.fnOf d.name d.qual d.params d.body d.scope .none kV doc pm an cdv ct) ⟨us, []⟩ = pure (ps.zip us))
    (hb : PSsx ⟨G, k, N, d.scope, fun _ => true, none, false⟩ d.body b) (hv : d.dvs = [] := by rfl) (hcl : d.clo = [] := by rfl) : FnA G (k + 1) (d.ad G.K) n (mkFn N.length b) := by
  obtain ⟨fd, F⟩ := h.def_ i hd hcl
  rw [hv] at F
  refine FnR.imp ((fn_ok F Sc hn hb).raw (F.bindsN hbi) .nil) fun vs H Q E z => ?_
  rw [List.append_nil]
  exact z
/-- a def with defaults, called with m values -/
theorem Hyp.fnAD (h : Hyp cs fn cl tf pr G) (i : Nat) {ns : List D} {m : Nat} (j : Nat) (hd : fn[i]? = some d) (Sc : FnScope N ps d.scope) (hn : ps.length = n) (hne : d.dvs ≠ []) (hm : m + (d.dvs.length - j) = ps.length)
    (hbi : ∀ (T : Addr) (kV doc pm : Value) (an : Option Addr) (cdv ct : Value) (us its : List Value), us.length = m → its.length = d.dvs.length →
      ∃ k, bindArgs (PySem.W.fnOf d.name d.qual d.params d.body d.scope (.ref T) kV doc pm an cdv ct) ⟨us, []⟩ = seqItems? (.ref T) >>= k ∧ k (some its.toArray) = pure (ps.zip (us ++ its.drop j)))
    (hns : ∀ (G : Glo) (φ : List Addr) (H : Hp), VRels G φ H ns (d.dvs.drop j))
    (hb : PSsx ⟨G, k, N, d.scope, fun _ => true, none, false⟩ d.body b) (hcl : d.clo = [] := by rfl) : FnA G (k + 1) (d.ad G.K) m (dflF (mkFn N.length b) ns) := by
  obtain ⟨fd, F⟩ := h.def_ i hd hcl
  obtain ⟨ds, hv, hB⟩ := F.binds1 m j hne hm hbi
  refine FnR.imp ((fn_ok F Sc hn hb).raw hB hv) fun vs H Q E ⟨φ, S, ds, R, rs, hl, P⟩ => ?_
  refine ⟨φ, S, ds ++ ns, R, rs.append (hns G φ H), ?_, P⟩
  have e := (hns G φ H).length
  rw [List.length_append, e, List.length_drop, hl, ← hn]
  exact hm
theorem FnA.nil {k m : Nat} {a : Addr} {F : Fn} (h : FnA G k a m (dflF F [])) : FnA G k a m F := by
  have e : dflF F [] = F := by
    funext ds S
    show F (ds ++ []) S = F ds S
    rw [List.append_nil]
  rw [← e]
  exact h
/-- a def of the module -/
theorem Hyp.fnIs (h : Hyp cs fn cl tf pr G) (i j : Nat) (hd : fn[i]? = some d) (ha : d.ad G.K = ga G.K y) (hc : cs[j]? = some (ckFa (.glo y))) (Sc : FnScope N ps d.scope) (hn : ps.length = n)
    (hbi : ∀ (kV doc pm : Value) (an : Option Addr) (cdv ct : Value) (us : List Value), us.length = ps.length → bindArgs (PySem.W.fnOf d.name d.qual d.params d.body d.scope .none kV doc pm an cdv ct) ⟨us, []⟩ = pure (ps.zip us))
    (hb : PSsx ⟨G, k, N, d.scope, fun _ => true, none, false⟩ d.body b) (hv : d.dvs = [] := by rfl) (hcl : d.clo = [] := by rfl) : FnIs G (k + 1) y n (mkFn N.length b) := by
  obtain ⟨fd, F⟩ := h.def_ i hd hcl
  rw [hv] at F
  exact fn_is F (by rw [ha]; exact h.glo j hc) Sc hn hbi hb
end
theorem Hyp.slt (h : Hyp cs fn cl tf pr G) (i : Nat) {x : Str} {c : Nat} (hc0 : cl[c]? = some x) (e : cs[i]? = some (ckSlt x)) : SlX.SCls G.K (G.ad c) := by
  rw [h.cls c x hc0]
  exact ckSlt_ok (h.ck i e)
theorem Hyp.mt (h : Hyp cs fn cl tf pr G) (i j : Nat) {x m : Str} {c k n : Nat} {F : Fn} (hc0 : cl[c]? = some x) (e : cs[i]? = some (ckSlt x)) (e2 : cs[j]? = some (ckFa (.meth x m))) (hF : FnA G k (ma G.K (ga G.K x) m) n F) : MtIs G k c m n F :=
  ⟨h.slt i hc0 e, _, by rw [h.cls c x hc0]; exact meth_ok (h.ck j e2), hF⟩
theorem Hyp.mkI (h : Hyp cs fn cl tf pr G) (i j : Nat) {x : Str} {c k n : Nat} {F : Fn} (hc0 : cl[c]? = some x) (e : cs[i]? = some (ckFa (.mkr x))) (e2 : cs[j]? = some (ckFa (.glo x))) (hF : FnA G k (ma G.K (ga G.K x) "__init__") n F) : MkIs G k c x n F :=
  ⟨_, by rw [h.cls c x hc0]; exact mkr_ok (h.ck i e), by rw [h.cls c x hc0]; exact h.glo j e2, hF⟩
theorem Hyp.prp (h : Hyp cs fn cl tf pr G) (i j : Nat) {x f : Str} {c k : Nat} {F : Fn} (hc0 : cl[c]? = some x) (e : cs[i]? = some (ckSlt x)) (e2 : cs[j]? = some (ckPrp x f)) (hF : FnA G k (pgA G.K (ga G.K x) f) 1 F) : PrIs G k c f F := by
  refine ⟨h.slt i hc0 e, ?_⟩
  rw [h.cls c x hc0]
  obtain ⟨p, h1, h2, h3, h4⟩ := ckPrp_ok (h.ck j e2)
  exact ⟨p, _, h1, h2, h3, h4, hF⟩
theorem Hyp.fld1 (h : Hyp cs fn cl tf pr G) (i j : Nat) {x f : Str} {c t : Nat} (hc0 : cl[c]? = some x) (e : cs[i]? = some (ckSlt x)) (e2 : cs[j]? = some (ckFld x f t)) : SlFld G f [(c, t)] := fun c' j' q => by
  have e3 : (match c' == c with
    | true => some t
    | false => none) = some j' := q
  cases hq : (c' == c) with
  | false => rw [hq] at e3; cases e3
  | true =>
    rw [hq] at e3
    cases e3
    rw [beq_iff_eq.mp hq, h.cls c x hc0]
    exact ⟨ckSlt_ok (h.ck i e), ckFld_ok (h.ck j e2)⟩
theorem SlFld.cons {f : Str} {tb tb' : List (Nat × Nat)} (a : SlFld G f tb) (b : SlFld G f tb') : SlFld G f (tb ++ tb') := fun c j q => by
  rw [List.lookup_append] at q
  cases h : tb.lookup c with
  | some r =>
    rw [h] at q
    cases q
    exact a c j h
  | none =>
    rw [h] at q
    exact b c j q
end

/-! ### the law's end -/
theorem walk_Z {l : PySem.W.OpenLaw} {n k : Nat} {q : Program} {loose : List Str} {XP : (Str → Option Value) → Heap → Prop} {YP : World → Heap → Prop} {d : DefRec} {CX : World → CXT} {x : Str}
    (hn : l.most = some n) (hn2 : n ≤ sizeLine) (hdf : d.params.defaults = []) (hr : Room k callerA)
    (F : ∀ (w : World) (mg : Str → Option Value) (fa : Addr) (h : Heap), YP w h → h.Ns mainGlobals mg → mg d.name = some (.ref fa) →
      ∃ (K : PySem.W.Frag) (fd : FuncData) (sp : Sp), K.In h ∧ (∀ (s : Shared) (u : Value), BindsTo s fd ⟨[u], []⟩ [(x, u)]) ∧
        (∀ (H : Hp) (a : Addr) (ns : List Int), ns.length ≤ n → (∀ z ∈ ns, Builtin.Int.intBits z ≤ 1048576) → Only H → SqL K H a (ns.map V.int) → sp [.ref a] H (fun v _ => v = .bl true) fun _ _ _ => False) ∧
        ∀ base : Heap, K.In base → base.Ns mainGlobals mg → FnOk l.prog w K mg base (CX w) k fa fd [x] sp)
    (hCX : ∀ (w : World) (H : Hp) (s : Shared) (e : Value) (s' : Shared), CX w [] H s (fun _ _ _ => False) e s' → False) :
    PySem.W.WalkO q loose XP YP l.row.toRowW d [] (fun f vs => PySem.call f vs) := by
  refine Att.attach_callB hn hdf fun w s₀ s₁ mg mb fa o pm cd doc a vs ns G Y ho hd hcd hmg hobj hints hlen hbits hg => ?_
  obtain ⟨K, fd, sp, KX, hb, hsp, hF⟩ := F w mg fa _ Y G.T.g hmg
  exact law_call KX G.T.g G.T.b G.T.builtins G.T.nolimit hg hobj hints (Nat.le_trans hlen hn2) hr hF hb (fun H hO hS => hsp H a ns hlen hbits hO hS) fun H e s' => hCX w H s₁ e s'
theorem cx_none {P : Program} {w : World} {H : Hp} {s : Shared} {e : Value} {s' : Shared} (z : L2.CX P w [] H s (fun _ _ _ => False) e s') : False := by
  obtain ⟨_, _, _, _, _, _, _, _, _, _, _, _, q⟩ := z
  exact q
/-- the script as it comes -/
theorem script_rel {G : Glo} {H : Hp} {a : Addr} {ns : List Int} (hT : G.T = []) (hO : Only H) (hS : SqL G.K H a (ns.map V.int)) : Rel G [] [] H ∧ VRel G [] H (.fls (ns.map D.int)) (.ref a) := by
  refine ⟨⟨rfl, List.nodup_nil, fun i b o e => by simp at e, by rw [hT]; intro p hp; cases hp⟩, ?_⟩
  simp only [VRel]
  refine ⟨a, ns.map V.int, rfl, ?_, ints_rel ns⟩
  rcases hS with h | h
  · rcases h with h | ⟨o, h⟩
    · rcases hO a with z | ⟨o, xs, z⟩
      · rw [h] at z; cases z
      · rw [h] at z; cases z
    · exact .inl ⟨o, h⟩
  · exact .inr h
/-- a law with no table: from the def's promise and what the denotation answers -/
theorem law_ends {G : Glo} {H : Hp} {a : Addr} {ns : List Int} {F : Fn} (hT : G.T = []) (hO : Only H) (hS : SqL G.K H a (ns.map V.int)) (plain : ∃ S, F [.fls (ns.map D.int)] [] = .ok (.bl true) S) : spD G 1 F [.ref a] H (fun v _ => v = .bl true) fun _ _ _ => False := by
  obtain ⟨R, r⟩ := script_rel hT hO hS
  obtain ⟨S, e⟩ := plain
  refine ⟨[], [], _, R, VRels.cons r VRels.nil, rfl, ?_⟩
  rw [e]
  intro φ' H' _ _ v rv
  simpa only [VRel] using rv
end Z

/-! Z13: rules in the form in which a program prints them. -/
namespace Z
open PySem PySem.Spec PyProof.Rows L2 He

def okV (C : Cp) (i : Nat) (x : Str) : Bool := decide (C.N[i]? = some x) && (visB C.sc x && (!(x == ("__debug__" : Str)) && !(x == ("__classdict__" : Str))))
def okT (C : Cp) (i : Nat) (x : Str) : Bool := decide (C.N[i]? = some x) && locB C x
def okG (C : Cp) (x : Str) : Bool := glB C x && !(x == ("__debug__" : Str))
def okB (C : Cp) (x : Str) (v : Value) : Bool := glB C x && (!(x == ("__debug__" : Str)) && (decide (x ≠ "__name__") && decide (bootBuiltins x = some v)))
theorem nb {b : Bool} (h : (!b) = true) : b = false := by cases b <;> first | rfl | cases h
section
variable {C : Cp} {x : Str} {pos p : Pos} {i k n : Nat}
theorem pex_v (i : Nat) (h : okV C i x = true) : PEx C (.Name x pos) (dVar i) := by
  obtain ⟨h1, h⟩ := ba h
  obtain ⟨h2, h⟩ := ba h
  obtain ⟨h3, h4⟩ := ba h
  exact pex_var i (of_decide_eq_true h1) h2 (nb h3) (nb h4)
theorem pgx_v (nd : C.N.Nodup) (i : Nat) (h : okT C i x = true) : PGx C (.Name x pos) [i] (gNm i) := by
  obtain ⟨h1, h2⟩ := ba h
  exact pgx_nm i nd (of_decide_eq_true h1) h2
theorem psx_augv (nd : C.N.Nodup) (i : Nat) {o : Operator} {op : Op2} {a : Expr} {da : DE} (h : okT C i x = true) (ho : OpRx C (inplaceOp o) op) (ha : PEx C a da) : PSx C (.AugAssign (.Name x p) o a pos) (sAug i op da) := by
  obtain ⟨h1, h2⟩ := ba h
  exact psx_aug i nd (of_decide_eq_true h1) h2 ho ha
/-- how many there are -/
def LenIs (r : DA) (n : Nat) : Prop := ∀ env S xs S', r env S = .ok xs S' → xs.length = n
theorem ln0 : LenIs dNil 0 := fun env S xs S' h => by
  cases h
  rfl
theorem ln1 {a : DE} {r : DA} {n : Nat} (h : LenIs r n) : LenIs (dCons a r) (n + 1) := fun env S xs S' e => by
  unfold dCons at e
  cases q : a env S with
  | bad => rw [q] at e; cases e
  | er y S1 => rw [q] at e; cases e
  | ok y S1 =>
    rw [q] at e
    simp only [Res.bind_ok] at e
    cases q2 : r env S1 with
    | bad => rw [q2] at e; cases e
    | er y S1 => rw [q2] at e; cases e
    | ok ys S2 =>
      rw [q2] at e
      simp only [Res.bind_ok] at e
      cases e
      rw [List.length_cons, h _ _ _ _ q2]
theorem pex_cl {F : Fn} {e : Expr} {es : List Expr} {dr : DA} (h : FnIs C.G k x n F) (hk : Nat.ble k C.k = true) (hg : okG C x = true) (ha : PAx C (e :: es) dr) (hn : LenIs dr n)
    (he : ∀ env, starEach (e :: es) env = (false, eval e env) :: starEach es env := by intro _; rfl) (hpl : ∀ env, (backTo pos (starEach es env)).any (·.1) = false := by intro _; rfl) : PEx C (.Call (.Name x p) (e :: es) [] pos) (dCall F dr) := by
  obtain ⟨h1, h2⟩ := ba hg
  exact pex_call h (Nat.le_of_ble_eq_true hk) h1 ha hn (nb h2) he hpl
theorem pex_cl0 {F : Fn} (h : FnIs C.G k x 0 F) (hk : Nat.ble k C.k = true) (hg : okG C x = true) : PEx C (.Call (.Name x p) [] [] pos) (dCall F dNil) := by
  obtain ⟨h1, h2⟩ := ba hg
  exact pex_call0 h (Nat.le_of_ble_eq_true hk) h1 (nb h2)
theorem pex_new {F : Fn} {c : Nat} {e : Expr} {es : List Expr} {dr : DA} (h : MkIs C.G k c x (n + 1) F) (hk : Nat.ble (k + 1) C.k = true) (hg : okG C x = true) (ha : PAx C (e :: es) dr) (hn : LenIs dr n)
    (he : ∀ env, starEach (e :: es) env = (false, eval e env) :: starEach es env := by intro _; rfl) (hpl : ∀ env, (backTo pos (starEach es env)).any (·.1) = false := by intro _; rfl) : PEx C (.Call (.Name x p) (e :: es) [] pos) (dMk c F dr) := by
  obtain ⟨h1, h2⟩ := ba hg
  exact pex_mk h (Nat.le_of_ble_eq_true hk) h1 ha hn (nb h2) he hpl
theorem pex_bf {id : String} {f : Bf} {e : Expr} {es : List Expr} {dr : DA} (hc : CallRx C (.builtin id) f) (hb : okB C x (.builtin id) = true) (hm : C.G.mg x = none) (ha : PAx C (e :: es) dr)
    (hs : ∀ env, starEach (e :: es) env = (false, eval e env) :: starEach es env := by intro _; rfl) (hp : ∀ env, (backTo pos (starEach es env)).any (·.1) = false := by intro _; rfl) : PEx C (.Call (.Name x p) (e :: es) [] pos) (dCallB f dr) := by
  obtain ⟨h1, h⟩ := ba hb
  obtain ⟨h2, h⟩ := ba h
  obtain ⟨h3, h4⟩ := ba h
  exact pex_callB hc h1 hm (of_decide_eq_true h4) ha (of_decide_eq_true h3) (nb h2) hs hp
theorem pex_bt {T : String} {f : Bf} {e : Expr} {es : List Expr} {dr : DA} (hc : CallRx C (.type T) f) (hb : okB C x (.type T) = true) (hm : C.G.mg x = none) (ha : PAx C (e :: es) dr)
    (hs : ∀ env, starEach (e :: es) env = (false, eval e env) :: starEach es env := by intro _; rfl) (hp : ∀ env, (backTo pos (starEach es env)).any (·.1) = false := by intro _; rfl) : PEx C (.Call (.Name x p) (e :: es) [] pos) (dCallB f dr) := by
  obtain ⟨h1, h⟩ := ba hb
  obtain ⟨h2, h⟩ := ba h
  obtain ⟨h3, h4⟩ := ba h
  exact pex_callTy hc h1 hm (of_decide_eq_true h4) ha (of_decide_eq_true h3) (nb h2) hs hp
theorem pex_tyn {n : String} (hb : okB C x (.type n) = true) (hm : C.G.mg x = none) : PEx C (.Name x pos) (dC (.ty n)) := by
  obtain ⟨h1, h⟩ := ba hb
  obtain ⟨h2, h⟩ := ba h
  obtain ⟨h3, h4⟩ := ba h
  exact pex_ty h1 hm (of_decide_eq_true h4) (of_decide_eq_true h3) (nb h2)
/-- a constant of the module: an int; a class -/
theorem pex_gi {i : Int} (hg : okG C x = true) (hm : ∃ t, C.G.mg x = some (.int i t)) : PEx C (.Name x pos) (dC (.int i)) := by
  obtain ⟨h1, h2⟩ := ba hg
  obtain ⟨t, e⟩ := hm
  exact pex_glob (v := .int i) h1 e ⟨t, rfl⟩ (fun _ _ => by simp only [VRel]) (nb h2)
theorem pex_gc {c : Nat} (hg : okG C x = true) (hm : C.G.mg x = some (.ref (C.G.ad c))) : PEx C (.Name x pos) (dC (.st c)) := by
  obtain ⟨h1, h2⟩ := ba hg
  exact pex_glob (v := .ref (C.G.ad c)) h1 hm rfl (fun _ _ => by simp only [VRel]) (nb h2)
end

/-! ### assignments whose form the scope decides -/
theorem psx_asgS {C : Cp} {t a : Expr} {da : DE} {g : DG} {vs : List Nat} {pos : Pos} (ha : PEx C a da) (hg : PGx C t vs g) (hs : ∀ env : Env, env.scope = C.sc → swapsWithSole [t] a pos.line env = pure false) (hw : ∀ env : Env, env.scope = C.sc → swappedStores [t] a env = pure none)
    (h1 : ∀ env, (assignEach [t] env).map (·.2) = [assign t env] := by intro _; rfl) : PSx C (.Assign [t] a pos) (sAsg da g) := fun X W h =>
  ps_imp (ps_asg (ha X W h) (hg X W h) (hs X.env h.sc) (hw X.env h.sc) (h1 X.env)) fun _ _ _ => rd_asg

/-! ### a classmethod of a class; a class called by a local name -/
def FnNo (G : Glo) (k : Nat) (g : Addr) (n : Nat) (F : Fn) : Prop := FnA G k g n F
structure CmIs (G : Glo) (k c : Nat) (m : Str) (n : Nat) (F : Fn) : Prop where
  ex : ∃ mc p g, ClX.CRead G.K (G.ad c) mc ∧ ClX.CMet G.K (G.ad c) mc m p g ∧ FnA G k g n F
def dCm (c : Nat) (F : Fn) (o : DE) (r : DA) : DE := fun env S => (o env S).bind fun x S1 => match x with
  | .st c' => if c' = c then (r env S1).bind fun xs S2 => (F (.st c :: xs) S2).cut else .bad
  | _ => .bad
theorem pex_cm {C : Cp} {k c n : Nat} {m : Str} {F : Fn} {o e : Expr} {es : List Expr} {dₒ : DE} {dr : DA} {pos apos : Pos} {pl : Env → Sem Bool} (h : CmIs C.G k c m (n + 1) F) (hk : Nat.ble k C.k = true) (ho : PEx C o dₒ) (ha : PAx C (e :: es) dr) (hn : LenIs dr n)
    (hst : ∀ env, starEach (e :: es) env = (false, eval e env) :: starEach es env := by intro _; rfl) (hpl : ∀ env, (backTo pos (starEach es env)).any (·.1) = false := by intro _; rfl)
    (ht : ∀ env, eval (.Call (.Attribute o m apos) (e :: es) [] pos) env = (do
      let ov ← eval o env
      standAt apos.atName
      let (f, first) ← holding [ov] (getMethod ov m (pl env))
      callWith pos f first (backTo pos (starEach (e :: es) env)) (backToKw pos (keywordEach [] env))) := by intro _; rfl) :
    PEx C (.Call (.Attribute o m apos) (e :: es) [] pos) (dCm c F dₒ dr) := fun X W hx => by
  obtain ⟨mc, p, g, hr, hm, hF⟩ := h.ex
  have F' : FnR X.prog X.w X.K X.mg X.base (L2.CX X.prog X.w) k g (spD C.G (n + 1) F) := by rw [hx.prog, hx.w, hx.K, hx.mg, hx.base]; exact hF
  refine pe_imp (ClX.pe_cmeth (pl := pl X.env) (E := fun _ _ _ => False) (C := C.G.ad c) (ho X W hx) (by rw [hx.K]; exact hr) (by rw [hx.K]; exact hm) F' (hx.room.mono (Nat.le_of_ble_eq_true hk)) (fun pins σ H s e s' I z => by
    obtain ⟨_, _, _, _, _, _, _, _, _, _, _, _, q⟩ := z
    exact q.elim) (ha X W hx) (hst X.env) (hpl X.env) (ht X.env)) fun σ H Q ⟨φ, S, env, R, E, P⟩ => ⟨φ, S, env, R, E, P.bind.imp fun φ1 H1 S1 x n1 R1 P1 v1 r1 => ?_⟩
  cases x with
  | st c' =>
    dsimp only at P1
    by_cases hc : c' = c
    · subst hc
      rw [if_pos rfl] at P1
      simp only [VRel] at r1
      refine ⟨r1, φ1, S1, env, R1, E.nxt n1, ?_⟩
      have P2 := P1.bind
      cases q : dr env S1 with
      | bad => rw [q] at P2; exact P2.elim
      | er y S2 => rw [q] at P2; exact P2
      | ok xs S2 =>
        rw [q] at P2
        exact fun φ2 H2 n2 R2 vs rs => ⟨φ2, S2, _, R2, VRels.cons (by simp only [VRel]) rs, by rw [List.length_cons, hn env S1 xs S2 q], (P2 φ2 H2 n2 R2).cut⟩
    · rw [if_neg hc] at P1
      exact P1.elim
  | _ => exact P1.elim
structure MkC (G : Glo) (k c : Nat) (n : Nat) (F : Fn) : Prop where
  ex : ∃ g, Mk G.K (G.ad c) g ∧ FnA G k g n F
theorem MkIs.c {G : Glo} {k c n : Nat} {x : Str} {F : Fn} (h : MkIs G k c x n F) : MkC G k c n F := let ⟨g, a, _, b⟩ := h.ex; ⟨g, a, b⟩
def dMkV (i c : Nat) (F : Fn) (r : DA) : DE := fun env S => match env[i]? with
  | some (some (.st c')) => if c' = c then dMk c F r env S else .bad
  | _ => .bad
theorem pex_mkv {C : Cp} {k c n : Nat} {x : Str} {F : Fn} {e : Expr} {es : List Expr} {dr : DA} {p pos : Pos} (i : Nat) (h : MkC C.G k c (n + 1) F) (hk : Nat.ble (k + 1) C.k = true) (hv : okV C i x = true) (ha : PAx C (e :: es) dr) (hn : LenIs dr n)
    (he : ∀ env, starEach (e :: es) env = (false, eval e env) :: starEach es env := by intro _; rfl) (hpl : ∀ env, (backTo pos (starEach es env)).any (·.1) = false := by intro _; rfl) : PEx C (.Call (.Name x p) (e :: es) [] pos) (dMkV i c F dr) := fun X W hx => by
  obtain ⟨g, M, hF⟩ := h.ex
  refine ⟨fun pins s σ H Q I ⟨φ, S, env, R, E, P⟩ => ?_⟩
  unfold dMkV at P
  split at P
  · rename_i c' hi
    split at P
    · rename_i hc
      subst hc
      obtain ⟨g1, g⟩ := ba hv
      obtain ⟨g2, g⟩ := ba g
      obtain ⟨g3, g4⟩ := ba g
      obtain ⟨v0, hv0, r0⟩ := E.2 i _ hi
      simp only [VRel] at r0
      subst r0
      refine wpAny_Call_Name_kw (thn ((pe_var (X := X) (pos := p) (i := i) (by rw [hx.N]; exact of_decide_eq_true g1) (by rw [hx.sc]; exact visB_ok g2) (nb g3) (nb g4)).run pins s σ H (fun v H1 => v = .ref (C.G.ad c') ∧ H1 = H) I ⟨_, hv0, rfl, rfl⟩) fun u s1 ⟨v, H1, I1, r1, ev, eH⟩ => ?_)
      subst ev eH
      obtain rfl : u = Value.ref (C.G.ad c') := r1
      refine PySem.W.callWith_K (h₀ := X.base) I1.ok.mod.kin (by rw [hx.K]; exact M.kp) (thn ((ha X W hx).run pos pins s1 σ H1 (fun vs H2 => ∀ x dx, H2 x = none → H2 dx = none → dx ≠ x → spD C.G (n + 1) F (V.ref x :: vs) (upd (upd H2 dx (.own x)) x (.ins (C.G.ad c') dx [])) (fun v H3 => v = .non ∧ Q (.ref x) H3) (WE W σ)) I1 ⟨φ, S, env, R, E, ?_⟩) fun us s2 ⟨vs, H2, I2, r, q⟩ => ⟨I2.kIn, ?_⟩) (he X.env) (hpl X.env)
      · have P0 := P.bind
        cases q : dr env S with
        | bad => rw [q] at P0; exact P0.elim
        | er y S1 => rw [q] at P0; exact P0
        | ok xs S1 =>
          rw [q] at P0
          exact fun φ1 H1 n1 R1 vs rs x dx h1 h2 ne => sp_mk R1 rs (hn env S xs S1 q) (P0 φ1 H1 n1 R1) x dx h1 h2 ne
      · exact run_mk hx (by rw [hx.K]; exact M) hF (hx.room.mono (Nat.le_of_ble_eq_true hk)) I2 r q
    · exact P.elim
  · exact P.elim
theorem He_cm {cs : List Ck} {fn : List Df} {cl : List Str} {tf : Tf} {pr : Program} {G : Glo} (h : Hyp cs fn cl tf pr G) (i : Nat) {x m : Str} {c k n : Nat} {F : Fn} (hc0 : cl[c]? = some x) (e : cs[i]? = some (ckCm x m)) (hF : FnA G k (cmA G.K (ga G.K x) m) n F) : CmIs G k c m n F := by
  obtain ⟨h1, h2⟩ := ckCm_ok (h.ck i e)
  exact ⟨.type "type", ma G.K (ga G.K x) m, _, by rw [h.cls c x hc0]; exact h1, by rw [h.cls c x hc0]; exact h2, hF⟩
theorem gc_of {cs : List Ck} {fn : List Df} {cl : List Str} {tf : Tf} {pr : Program} {G : Glo} (h : Hyp cs fn cl tf pr G) (i : Nat) {x : Str} {c : Nat} (hc0 : cl[c]? = some x) (e : cs[i]? = some (ckFa (.glo x))) : G.mg x = some (.ref (G.ad c)) := by
  rw [h.cls c x hc0]
  exact h.glo i e
/-- the j-th statement of a class -/
def inner (st : Stmt) (j : Nat) : Stmt := match st with
  | .ClassDef _ _ _ b _ _ _ _ _ _ _ => b.getD j (.Pass ⟨0, 0, 0, 0⟩)
  | _ => .Pass ⟨0, 0, 0, 0⟩
theorem swaps_cell {C : Cp} {t : Str} {p pos : Pos} {elt : Expr} {gens : List Comprehension} {scope : Scope} {line : Nat} (hk : C.sc.names.lookup t = some .cell) : ∀ env : Env, env.scope = C.sc → swapsWithSole [.Name t p] (.ListComp elt gens scope pos) line env = pure false := fun env he => by
  show (pure (env.blockKind == .function && env.kindOf t == some .local && p.line == pos.line && !(scope.names.any fun (n, k) => n == t && (k == .local || k == .cell))) : Sem Bool) = pure false
  have e : env.kindOf t = some .cell := by
    show env.scope.names.lookup t = some .cell
    rw [he]; exact hk
  rw [e]
  have e2 : ((some NameKind.cell : Option NameKind) == some NameKind.local) = false := by decide
  rw [e2, Bool.and_false, Bool.false_and, Bool.false_and]
end Z

/-! Z14: what a denotation answers: a calculus in plain Lean. -/
namespace Z
open PySem PySem.Spec

/-- a mark: what hangs on it is not rewritten by simp -/
inductive Tg {α : Type} (Q : α → Store → Prop) : Type where
  | mk
def WP {α : Type} (r : Res α) (Q : α → Store → Prop) (_t : Tg Q := .mk) : Prop := ∃ a S, r = .ok a S ∧ Q a S
section
variable {α β : Type}
@[simp] theorem WP_ok {a : α} {S : Store} {Q : α → Store → Prop} : WP (.ok a S) Q ↔ Q a S :=
  ⟨fun ⟨_, _, e, q⟩ => by cases e; exact q, fun q => ⟨_, _, rfl, q⟩⟩
@[simp] theorem WP_bad {Q : α → Store → Prop} : WP (.bad : Res α) Q ↔ False := ⟨fun ⟨_, _, e, _⟩ => (nomatch e), fun q => q.elim⟩
@[simp] theorem WP_bind {r : Res α} {f : α → Store → Res β} {Q : β → Store → Prop} : WP (r.bind f) Q ↔ WP r fun a S => WP (f a S) Q := by
  cases r with
  | ok a S => simp
  | er x S => exact ⟨fun ⟨_, _, e, _⟩ => (nomatch e), fun ⟨_, _, e, _⟩ => (nomatch e)⟩
  | bad => exact ⟨fun ⟨_, _, e, _⟩ => (nomatch e), fun ⟨_, _, e, _⟩ => (nomatch e)⟩
@[simp] theorem WP_cut {r : Res α} {Q : α → Store → Prop} : WP r.cut Q ↔ WP r Q := by
  cases r with
  | ok a S => exact Iff.rfl
  | er x S => exact ⟨fun ⟨_, _, e, _⟩ => (nomatch e), fun ⟨_, _, e, _⟩ => (nomatch e)⟩
  | bad => exact Iff.rfl
theorem WP_congr {r r' : Res α} {Q : α → Store → Prop} (h : r = r') : WP r Q = WP r' Q := by rw [h]
theorem WP_mono {r : Res α} {Q Q' : α → Store → Prop} (h : WP r Q) (k : ∀ a S, Q a S → Q' a S) : WP r Q' := let ⟨a, S, e, q⟩ := h; ⟨a, S, e, k a S q⟩
end
/-- all that stood stands -/
def Sub (S S' : Store) : Prop := ∀ (j : Nat) (o : O), S[j]? = some o → S'[j]? = some o
theorem Sub.refl (S : Store) : Sub S S := fun _ _ h => h
theorem Sub.trans {S S1 S2 : Store} (a : Sub S S1) (b : Sub S1 S2) : Sub S S2 := fun j o h => b j o (a j o h)
theorem Sub.push (S : Store) (o : O) : Sub S (S ++ [o]) := fun j u h => by
  rw [List.getElem?_append_left (List.getElem?_eq_some_iff.mp h).1]; exact h
@[simp] theorem push_at {S : Store} {o : O} : (S ++ [o])[S.length]? = some o := by simp
/-- all but i -/
def Kp (i : Nat) (S S' : Store) : Prop := ∀ (j : Nat) (o : O), j ≠ i → S[j]? = some o → S'[j]? = some o
theorem Sub.kp {i : Nat} {S S' : Store} (h : Sub S S') : Kp i S S' := fun j o _ e => h j o e
theorem Kp.refl (i : Nat) (S : Store) : Kp i S S := fun _ _ _ h => h
theorem Kp.trans {i : Nat} {S S1 S2 : Store} (a : Kp i S S1) (b : Kp i S1 S2) : Kp i S S2 := fun j o n h => b j o n (a j o n h)
theorem Kp.set {i : Nat} {S : Store} {o : O} : Kp i S (S.set i o) := fun j u n h => by rw [List.getElem?_set_ne (Ne.symm n)]; exact h
theorem set_at {S : Store} {i : Nat} {o u : O} (h : S[i]? = some o) : (S.set i u)[i]? = some u := List.getElem?_set_self (List.getElem?_eq_some_iff.mp h).1

/-! ### the constructs, one by one -/
section
variable {env : En} {S : Store} {i j k n : Nat} {a b c d : DE} {r : DA} {t u : DT} {s s' : DS} {g h : DG} {gs : DGs} {x y z : D} {xs : List D} {op op' : Op2} {F : Fn} {f : Bf} {it : DI} {J : Itd}
@[simp] theorem q_var : dVar i env S = match env[i]? with
  | some (some d) => .ok d S
  | _ => .bad := rfl
@[simp] theorem q_c : dC x env S = .ok x S := rfl
@[simp] theorem q_bin : dBin op a b env S = (a env S).bind fun x S1 => (b env S1).bind fun y S2 => ofO (op x y S2) := rfl
@[simp] theorem q_un {op : Op1} : dUn op a env S = (a env S).bind fun x S1 => ofO (op x S1) := rfl
@[simp] theorem q_ofO {α : Type} {v : α} : ofO (some (v, S)) = .ok v S := rfl
@[simp] theorem q_ofN {α : Type} : (ofO (none : Option (α × Store)) : Res α) = .bad := rfl
@[simp] theorem q_chain : dChain op op' a b c env S = (a env S).bind fun x S1 => (b env S1).bind fun y S2 => (ofO (op x y S2)).bind fun z S3 => match z with
    | .bl true => (c env S3).bind fun w S4 => ofO (op' y w S4)
    | .bl false => .ok (.bl false) S3
    | _ => .bad := rfl
@[simp] theorem q_tst : dTst a env S = (a env S).bind fun x S1 => ofB (truD x S1) S1 := rfl
@[simp] theorem q_tstB : dTstB a env S = (a env S).bind fun x S1 => match x with
    | .bl k => .ok k S1
    | _ => .bad := rfl
@[simp] theorem q_and2 : tAnd2 t u env S = (t env S).bind fun c S1 => if c = true then u env S1 else .ok false S1 := rfl
@[simp] theorem q_or2 : tOr2 t u env S = (t env S).bind fun c S1 => if c = true then .ok true S1 else u env S1 := rfl
@[simp] theorem q_not1 : tNot1 t env S = (t env S).bind fun c S1 => .ok (!c) S1 := rfl
@[simp] theorem q_andV : dAndV a b env S = (a env S).bind fun x S1 => (ofB (truD x S1) S1).bind fun k S1 => if k = true then b env S1 else .ok x S1 := rfl
@[simp] theorem q_orV : dOrV a b env S = (a env S).bind fun x S1 => (ofB (truD x S1) S1).bind fun k S1 => if k = true then .ok x S1 else b env S1 := rfl
@[simp] theorem q_notV : dNotV a env S = (a env S).bind fun x S1 => (ofB (truD x S1) S1).bind fun k S1 => .ok (.bl (!k)) S1 := rfl
@[simp] theorem q_if : dIf t a b env S = (t env S).bind fun k S1 => if k = true then a env S1 else b env S1 := rfl
@[simp] theorem q_nil : dNil env S = .ok [] S := rfl
@[simp] theorem q_cons : dCons a r env S = (a env S).bind fun x S1 => (r env S1).bind fun xs S2 => .ok (x :: xs) S2 := rfl
@[simp] theorem q_tup : dTup r env S = (r env S).bind fun xs S1 => if xs.length ≤ sl then .ok (.tup xs) S1 else .bad := rfl
@[simp] theorem q_lst : dLst r env S = (r env S).bind fun xs S1 => mkL xs S1 := rfl
@[simp] theorem q_next : sNext env S = .ok (.nx env) S := rfl
@[simp] theorem q_seq : sSeq s s' env S = (s env S).bind fun f S1 => match f with
  | .nx e => s' e S1
  | o => .ok o S1 := rfl
@[simp] theorem q_expr : sExpr a env S = (a env S).bind fun _ S1 => .ok (.nx env) S1 := rfl
@[simp] theorem q_ret : sRet a env S = (a env S).bind fun x S1 => .ok (.rt x) S1 := rfl
@[simp] theorem q_retN : sRetN env S = .ok (.rt .non) S := rfl
@[simp] theorem q_brk : sBrk env S = .ok (.bk env) S := rfl
@[simp] theorem q_cnt : sCnt env S = .ok (.ct env) S := rfl
@[simp] theorem q_sif : sIf t s s' env S = (t env S).bind fun k S1 => if k = true then s env S1 else s' env S1 := rfl
@[simp] theorem q_never : sNever env S = .bad := rfl
@[simp] theorem q_gnm : gNm i x env S = .ok (env.set i (some x)) S := rfl
@[simp] theorem q_gtup : gTup n gs x env S = match x with
  | .tup ds => if ds.length = n then gs ds env S else .bad
  | .ref i => (match S[i]? with
    | some (.lst ds) => if ds.length = n then gs ds env S else .bad
    | _ => .bad)
  | _ => .bad := by
  unfold gTup
  cases x <;> rfl
@[simp] theorem q_asg : sAsg a g env S = (a env S).bind fun x S1 => (g x env S1).bind fun e S2 => .ok (.nx e) S2 := rfl
@[simp] theorem q_call : dCall F r env S = (r env S).bind fun xs S1 => F xs S1 := rfl
@[simp] theorem q_callB : dCallB f r env S = (r env S).bind fun xs S1 => ofO (f xs S1) := rfl
@[simp] theorem q_seqi : iSeq a env S = (a env S).bind fun x S1 => match seqJ x S1 with
  | some J => .ok J S1
  | none => .bad := rfl
@[simp] theorem q_for : sFor it g s env S = (it env S).bind fun J S1 => forGo J g s FUEL 0 env S1 := rfl
@[simp] theorem q_while : sWhile t s env S = whileGo t s FUEL env S := rfl
end
/-! ### loops -/
theorem wp_forGo {J : Itd} {g : DG} {b : DS} {Q : Fl → Store → Prop} (n : Nat) (I : Nat → En → Store → Prop)
    (hs : ∀ k env S, k < n → I k env S → ∃ d, J k S = some (some d) ∧ WP (g d env S) fun e S1 => WP (b e S1) fun fl S2 => match fl with
      | .nx e' => I (k + 1) e' S2
      | .ct e' => I (k + 1) e' S2
      | .bk e' => Q (.nx e') S2
      | .rt d => Q (.rt d) S2)
    (hd : ∀ env S, I n env S → J n S = some none ∧ Q (.nx env) S) : ∀ (m k : Nat) (env : En) (S : Store), n < k + m → k ≤ n → I k env S → WP (forGo J g b m k env S) Q
  | 0, k, env, S, h1, h2, _ => by omega
  | m + 1, k, env, S, h1, h2, hI => by
    unfold forGo
    by_cases hk : k = n
    · subst hk
      obtain ⟨e, q⟩ := hd env S hI
      rw [e]
      exact WP_ok.mpr q
    · obtain ⟨d, e, w⟩ := hs k env S (by omega) hI
      rw [e]
      dsimp only
      rw [WP_bind]
      refine WP_mono w fun e1 S1 w1 => ?_
      rw [WP_bind]
      refine WP_mono w1 fun fl S2 w2 => ?_
      cases fl with
      | nx e' => exact wp_forGo n I hs hd m (k + 1) e' S2 (by omega) (by omega) w2
      | ct e' => exact wp_forGo n I hs hd m (k + 1) e' S2 (by omega) (by omega) w2
      | bk e' => exact WP_ok.mpr w2
      | rt d => exact WP_ok.mpr w2
theorem wp_for {J : Itd} {g : DG} {b : DS} {Q : Fl → Store → Prop} {env : En} {S : Store} (n : Nat) (I : Nat → En → Store → Prop) (hn : n ≤ 2 ^ 60) (h0 : I 0 env S)
    (hs : ∀ k env S, k < n → I k env S → ∃ d, J k S = some (some d) ∧ WP (g d env S) fun e S1 => WP (b e S1) fun fl S2 => match fl with
      | .nx e' => I (k + 1) e' S2
      | .ct e' => I (k + 1) e' S2
      | .bk e' => Q (.nx e') S2
      | .rt d => Q (.rt d) S2)
    (hd : ∀ env S, I n env S → J n S = some none ∧ Q (.nx env) S) : WP (forGo J g b FUEL 0 env S) Q :=
  wp_forGo n I hs hd FUEL 0 env S (by unfold FUEL; omega) (Nat.zero_le _) h0
theorem wp_lcGo {J : Itd} {g : DG} {t : DT} {b : DE} {env : En} {Q : List D → Store → Prop} (n : Nat) (I : Nat → List D → Store → Prop)
    (hs : ∀ k acc S, k < n → I k acc S → acc.length < sl ∧ ∃ d, J k S = some (some d) ∧ WP (g d env S) fun e S1 => WP (t e S1) fun c S2 => if c = true then WP (b e S2) fun y S3 => I (k + 1) (acc ++ [y]) S3 else I (k + 1) acc S2)
    (hd : ∀ acc S, I n acc S → J n S = some none ∧ Q acc S) : ∀ (m k : Nat) (acc : List D) (S : Store), n < k + m → k ≤ n → I k acc S → WP (lcGo J g t b env m k acc S) Q
  | 0, k, acc, S, h1, h2, _ => by omega
  | m + 1, k, acc, S, h1, h2, hI => by
    unfold lcGo
    by_cases hk : k = n
    · subst hk
      obtain ⟨e, q⟩ := hd acc S hI
      rw [e]
      exact WP_ok.mpr q
    · obtain ⟨hl, d, e, w⟩ := hs k acc S (by omega) hI
      rw [e]
      dsimp only
      rw [WP_bind, WP_cut]
      refine WP_mono w fun e1 S1 w1 => ?_
      rw [WP_bind, WP_cut]
      refine WP_mono w1 fun c S2 w2 => ?_
      by_cases hc : c = true
      · rw [if_pos hc] at w2 ⊢
        rw [WP_bind, WP_cut]
        refine WP_mono w2 fun y S3 w3 => ?_
        rw [if_pos hl]
        exact wp_lcGo n I hs hd m (k + 1) _ S3 (by omega) (by omega) w3
      · rw [if_neg hc] at w2 ⊢
        exact wp_lcGo n I hs hd m (k + 1) acc S2 (by omega) (by omega) w2
theorem wp_lc {it : DI} {g : DG} {t : DT} {b : DE} {own : List Nat} {env : En} {S : Store} {Q : D → Store → Prop} (h : WP (it env S) fun J S1 => ∃ (n : Nat) (I : Nat → List D → Store → Prop), n ≤ 2 ^ 60 ∧ I 0 [] S1 ∧
    (∀ k acc S, k < n → I k acc S → acc.length < sl ∧ ∃ d, J k S = some (some d) ∧ WP (g d (wipeE env own) S) fun e S1 => WP (t e S1) fun c S2 => if c = true then WP (b e S2) fun y S3 => I (k + 1) (acc ++ [y]) S3 else I (k + 1) acc S2) ∧
    ∀ acc S, I n acc S → J n S = some none ∧ Q (.ref S.length) (S ++ [.lst acc])) : WP (dLc it g t b own env S) Q := by
  unfold dLc
  rw [WP_bind]
  refine WP_mono h fun J S1 ⟨n, I, hn, h0, hs, hd⟩ => ?_
  rw [WP_bind]
  refine wp_lcGo (Q := fun acc S2 => WP (.ok (.ref S2.length) (S2 ++ [.lst acc])) Q) n I hs (fun acc S q => ⟨(hd acc S q).1, WP_ok.mpr (hd acc S q).2⟩) FUEL 0 [] S1 (by unfold FUEL; omega) (Nat.zero_le _) h0
/-- a comprehension that keeps one store's objects and maps each item -/
theorem wp_map {it : DI} {g : DG} {b : DE} {own : List Nat} {env : En} {S S0 : Store} {Q : D → Store → Prop} (ds : List D) (f : Nat → D) (hl : ds.length ≤ sl)
    (hi : WP (it env S) fun J S1 => Sub S S1 ∧ (∀ k S2, Sub S1 S2 → J k S2 = some ds[k]?))
    (hb : ∀ k d S1, ds[k]? = some d → Sub S S1 → WP (g d (wipeE env own) S1) fun e S2 => WP (b e S2) fun y S3 => y = f k ∧ Sub S1 S3)
    (hQ : ∀ S1, Sub S S1 → Q (.ref S1.length) (S1 ++ [.lst ((List.range ds.length).map f)])) : WP (dLc it g tYes1 b own env S) Q := by
  refine wp_lc (WP_mono hi fun J S1 ⟨s1, hJ⟩ => ⟨ds.length, fun k acc S2 => Sub S1 S2 ∧ acc = (List.range k).map f, by have : sl = 16777216 := rfl; omega, ⟨Sub.refl _, rfl⟩, fun k acc S2 hk ⟨s2, ha⟩ => ⟨?_, ?_⟩, fun acc S2 ⟨s2, ha⟩ => ⟨?_, ?_⟩⟩)
  · rw [ha, List.length_map, List.length_range]; omega
  · refine ⟨ds[k], by rw [hJ k S2 s2, List.getElem?_eq_getElem hk], WP_mono (hb k ds[k] S2 (List.getElem?_eq_getElem hk) (s1.trans s2)) fun e S3 w => ?_⟩
    refine WP_ok.mpr ?_
    rw [if_pos rfl]
    refine WP_mono w fun y S4 ⟨ey, s4⟩ => ⟨s2.trans s4, ?_⟩
    rw [ha, ey, List.range_succ, List.map_append]; rfl
  · rw [hJ _ S2 s2]; simp
  · rw [ha]; exact hQ S2 (s1.trans s2)
/-! ### the operators -/
section
variable {S : Store} {i j : Int} {r k : Nat} {ds : List D} {x y d : D} {env : En} {a b e : DE} {op : Op2} {bl bl' : Bool} {f : D → Store → Option (D × Store)} {f2 : D → D → Store → Option (D × Store)}
@[simp] theorem o_add : oAdd (.int i) (.int j) S = some (.int (i + j), S) := rfl
@[simp] theorem o_addI : oAddI (.int i) (.int j) S = some (.int (i + j), S) := rfl
@[simp] theorem o_sub : oSubI (.int i) (.int j) S = some (.int (i - j), S) := rfl
@[simp] theorem o_lt : oLtI (.int i) (.int j) S = some (.bl (decide (i < j)), S) := rfl
@[simp] theorem o_le : oLeI (.int i) (.int j) S = some (.bl (decide (i ≤ j)), S) := rfl
@[simp] theorem o_gt : oGtI (.int i) (.int j) S = some (.bl (decide (j < i)), S) := rfl
@[simp] theorem o_ge : oGeI (.int i) (.int j) S = some (.bl (decide (j ≤ i)), S) := rfl
@[simp] theorem o_neg : oNeg (.int i) S = some (.int (-i), S) := rfl
theorem o_mulI (h : mulOk i j = true) : oMulI (.int i) (.int j) S = some (.int (i * j), S) := if_pos h
theorem o_mul (h : mulOk i j = true) : oMulA (.int i) (.int j) S = some (.int (i * j), S) := by
  unfold oMulA orO
  rw [o_mulI h]
theorem o_mod (h : 0 < j) : oModI (.int i) (.int j) S = some (.int (i % j), S) := if_pos (decide_eq_true h)
theorem o_div (h : divOk i j = true) : oDivI (.int i) (.int j) S = some (.int (i / j), S) := if_pos h
theorem o_pow (h : powOk i j = true) : oPowI (.int i) (.int j) S = some (.int (i ^ j.toNat), S) := if_pos h
theorem o_eq {p q : PyData} (h1 : toPy S 60 x = some p) (h2 : toPy S 60 y = some q) : oEq x y S = (eqD S x y).map fun b => (.bl b, S) := rfl
@[simp] theorem o_ixR : oIx (.ref r) (.int i) S = (itemsD S (.ref r)).bind fun ds => (L2.atI ds i).map fun x => (x, S) := rfl
@[simp] theorem o_ixT : oIx (.tup ds) (.int i) S = (L2.atI ds i).map fun x => (x, S) := rfl
@[simp] theorem o_ixF : oIx (.fls ds) (.int i) S = (L2.atI ds i).map fun x => (x, S) := rfl
@[simp] theorem itemsT : itemsD S (.tup ds) = some ds := rfl
@[simp] theorem itemsF : itemsD S (.fls ds) = some ds := rfl
theorem itemsR (h : S[r]? = some (.lst ds)) : itemsD S (.ref r) = some ds := by simp only [itemsD, h]
theorem itemsLR (h : S[r]? = some (.lst ds)) : itemsL S (.ref r) = some ds := by simp only [itemsL, h]
theorem seqR (h : S[r]? = some (.lst ds)) : seqJ (.ref r) S = some (jL r) := by simp only [seqJ, h]
@[simp] theorem seqT : seqJ (.tup ds) S = some (jT ds) := rfl
@[simp] theorem seqF : seqJ (.fls ds) S = some (jT ds) := rfl
theorem ix_lit {n : Nat} (h : n < ds.length) : L2.atI ds (n : Int) = ds[n]? := by
  unfold L2.atI L2.ixN
  rw [if_pos (by omega), if_pos (by omega)]
  simp
@[simp] theorem q_b1 : b1 f [x] S = f x S := rfl
@[simp] theorem q_b2 : b2 f2 [x, y] S = f2 x y S := rfl
@[simp] theorem f_intI : fInt (.int i) S = some (.int i, S) := rfl
@[simp] theorem f_intB : fInt (.bl bl) S = some (.int (if bl = true then 1 else 0), S) := rfl
@[simp] theorem f_abs : fAbs (.int i) S = some (.int (if i < 0 then -i else i), S) := rfl
@[simp] theorem f_max : fMax2 (.int i) (.int j) S = some (.int (if j > i then j else i), S) := rfl
@[simp] theorem f_min : fMin2 (.int i) (.int j) S = some (.int (if j < i then j else i), S) := rfl
@[simp] theorem f_lenT : fLen (.tup ds) S = some (.int ds.length, S) := rfl
@[simp] theorem f_lenF : fLen (.fls ds) S = some (.int ds.length, S) := rfl
theorem f_lenR (h : S[r]? = some (.lst ds)) : fLen (.ref r) S = some (.int ds.length, S) := by simp only [fLen, h]
@[simp] theorem f_list : fList x S = (itemsD S x).map fun ds => (.ref S.length, S ++ [.lst ds]) := rfl
@[simp] theorem f_tuple : fTuple x S = (itemsD S x).map fun ds => (.tup ds, S) := rfl
@[simp] theorem q_gsb : gSb a b x env S = (a env S).bind fun o S1 => (b env S1).bind fun i S2 => ofS (setD o i x S2) env := rfl
theorem setR (h : S[r]? = some (.lst ds)) : setD (.ref r) (.int i) d S = (L2.ixN ds.length i).map fun j => S.set r (.lst (ds.set j d)) := by simp only [setD, h]
@[simp] theorem ofB_bl : ofB (truD (.bl bl) S) S = .ok bl S := rfl
@[simp] theorem q_sl {lo hi : DP} : dSl a lo hi env S = (a env S).bind fun x S1 => (lo env S1).bind fun l S2 => (hi env S2).bind fun h S3 => ofO (oSl x l h S3) := rfl
@[simp] theorem q_pno : pNo env S = .ok none S := rfl
@[simp] theorem q_pat : pAt a env S = (a env S).bind fun x S1 => match x with
  | .int i => .ok (some i) S1
  | _ => .bad := by
  unfold pAt
  cases a env S with
  | ok x S1 => cases x <;> rfl
  | er x S1 => rfl
  | bad => rfl
@[simp] theorem q_lrg {r : DA} : dLRg r env S = (r env S).bind fun xs S1 => match rgOf xs with
  | some (a, b) => if rgB a b = true then .ok (.ref S1.length) (S1 ++ [.lst (rgD a b)]) else .bad
  | none => .bad := rfl
@[simp] theorem q_meth {ck : D → Store → Bool} {m : Mf} {o : DE} {r : DA} : dMeth ck m o r env S = (o env S).bind fun x S1 => if ck x S1 = true then (r env S1).bind fun xs S2 => ofO (m x xs S2) else .bad := rfl
theorem isL_r (h : S[r]? = some (.lst ds)) : isL (.ref r) S = true := by simp only [isL, h]
theorem m_append (h : S[r]? = some (.lst ds)) (hl : ds.length < sl) : mAppend (.ref r) [x] S = some (.non, S.set r (.lst (ds ++ [x]))) := by
  simp only [mAppend, onL, h, if_pos hl]
@[simp] theorem q_fld {tb : List (Nat × Nat)} : dFld tb a env S = (a env S).bind fun x S1 => ofO ((getF tb x S1).map fun d => (d, S1)) := rfl
@[simp] theorem q_rng1 {r : DA} : iRng1 r env S = (r env S).bind fun xs S1 => match xs with
  | [.int j] => if -(2 ^ 62) ≤ j ∧ j < 2 ^ 62 then .ok (jR 0 j.toNat) S1 else .bad
  | _ => .bad := rfl
@[simp] theorem q_gcons {g : DG} {gs : DGs} : gCons g gs ds env S = match ds with
  | d :: r => (g d env S).bind fun e S1 => gs r e S1
  | [] => .bad := by
  unfold gCons
  cases ds <;> rfl
@[simp] theorem q_gnil : gNil ds env S = match ds with
  | [] => .ok env S
  | _ => .bad := by
  unfold gNil
  cases ds <;> rfl
end
theorem mulOk_of {i j : Int} {m n : Nat} (h1 : i.natAbs < 2 ^ m) (h2 : j.natAbs < 2 ^ n) (h : m + n < 1000000) : mulOk i j = true := by
  unfold mulOk
  have a1 : i.natAbs.log2 ≤ m := by
    by_cases z : i.natAbs = 0
    · rw [z]; simp
    · exact Nat.le_of_lt ((Nat.log2_lt z).mpr h1)
  have a2 : j.natAbs.log2 ≤ n := by
    by_cases z : j.natAbs = 0
    · rw [z]; simp
    · exact Nat.le_of_lt ((Nat.log2_lt z).mpr h2)
  exact decide_eq_true (by omega)
theorem divOk_of {i j : Int} (h0 : 0 < j) {n : Nat} (h : j.natAbs < 2 ^ n) (hn : n < 9000) : divOk i j = true := by
  unfold divOk
  have a2 : j.natAbs.log2 ≤ n := by
    by_cases z : j.natAbs = 0
    · rw [z]; simp
    · exact Nat.le_of_lt ((Nat.log2_lt z).mpr h)
  rw [decide_eq_true h0, decide_eq_true (show j.natAbs.log2 < 9000 by omega)]; rfl
end Z

/-! Z15: what plain laws share: the drawn lot, lists that grow, counted loops. -/
namespace Z
open PySem PySem.Spec
def Lot (S : Store) (i : Nat) (m : Nat) : Prop := ∃ a b c : Int, S[i]? = some (.lst [.int a, .int b, .int c]) ∧ 0 ≤ a ∧ 0 ≤ c ∧ c ≤ m
theorem ix0 {x : D} {l : List D} : L2.atI (x :: l) 0 = some x := by
  have := ix_lit (ds := x :: l) (n := 0) (by simp)
  simpa using this
theorem ix1 {x y : D} {l : List D} : L2.atI (x :: y :: l) 1 = some y := by
  have := ix_lit (ds := x :: y :: l) (n := 1) (by simp)
  simpa using this
theorem ix2 {x y z : D} {l : List D} : L2.atI (x :: y :: z :: l) 2 = some z := by
  have := ix_lit (ds := x :: y :: z :: l) (n := 2) (by simp)
  simpa using this
theorem iN {n i : Nat} (h : i < n) : L2.ixN n (i : Int) = some i := by
  unfold L2.ixN
  rw [if_pos (by omega), if_pos (by omega)]
  simp
theorem iN0 {n : Nat} : L2.ixN (n + 1) 0 = some 0 := iN (i := 0) (by omega)
theorem iN2 {n : Nat} : L2.ixN (n + 3) 2 = some 2 := iN (i := 2) (by omega)
theorem mkFn_wp {nl : Nat} {b : DS} {ds : List D} {S : Store} {Q : D → Store → Prop} : WP (mkFn nl b ds S) Q ↔ WP (b (ds.map some ++ List.replicate (nl - ds.length) none) S) fun f S1 => WP (match f with
  | .rt d => .ok d S1
  | .nx _ => .ok .non S1
  | _ => .bad) Q := by
  unfold mkFn
  exact WP_bind
theorem pow_lt_of {x : Int} {n : Nat} (h0 : 0 ≤ x) (h : x < 2 ^ n) : x.natAbs < 2 ^ n := by
  have : ((x.natAbs : Nat) : Int) < ((2 ^ n : Nat) : Int) := by
    rw [Int.natAbs_of_nonneg h0]
    push_cast
    exact h
  exact_mod_cast this
theorem Lot.mono {S : Store} {i m m' : Nat} (h : Lot S i m) (l : m ≤ m') : Lot S i m' := let ⟨a, b, c, e, h1, h2, h3⟩ := h; ⟨a, b, c, e, h1, h2, by omega⟩
theorem Lot.sub {S S' : Store} {i m : Nat} (h : Lot S i m) (s : Sub S S') : Lot S' i m := let ⟨a, b, c, e, h1⟩ := h; ⟨a, b, c, s _ _ e, h1⟩
theorem Lot.lt {S : Store} {i m : Nat} (h : Lot S i m) : i < S.length := let ⟨_, _, _, e, _⟩ := h; (List.getElem?_eq_some_iff.mp e).1
theorem Kp.at_ {i j : Nat} {S S' : Store} {o : O} (k : Kp i S S') (n : j ≠ i) (h : S[j]? = some o) : S'[j]? = some o := k j o n h
theorem seq_of {k : Nat} {n : Nat} (h : k < n) : PySem.seqIndex? (k : Int) n = some k := by
  have := seqIndex_of (k := (k : Int)) (n := n) (by omega) (by omega)
  simpa using this
theorem m_pop {S : Store} {r : Nat} {ds : List D} {k : Nat} (hS : S[r]? = some (.lst ds)) (h : k < ds.length) (hl : ds.length ≤ 2 ^ 60) : mPop (.ref r) [.int (k : Int)] S = some (ds[k], S.set r (.lst (ds.eraseIdx k))) := by
  simp only [mPop, onL, hS, seq_of h, Option.bind_some, List.getElem?_eq_getElem h, Option.map_some]
  rw [if_pos (by omega)]
theorem jR_at {n k : Nat} {S : Store} (h : k < n) : jR 0 n k S = some (some (.int (k : Int))) := by
  unfold jR
  rw [if_pos h]; simp
theorem jR_end {n : Nat} {S : Store} : jR 0 n n S = some none := by
  unfold jR
  rw [if_neg (by omega)]
theorem Kp.setN {i j : Nat} {S S0 : Store} {o : O} (k : Kp i S0 S) (h : S0.length ≤ j) : Kp i S0 (S.set j o) := fun a u n e => by
  rw [List.getElem?_set_ne (by have := (List.getElem?_eq_some_iff.mp e).1; omega)]
  exact k a u n e
theorem Kp.pushN {i : Nat} {S S0 : Store} {o : O} (k : Kp i S0 S) : Kp i S0 (S ++ [o]) := k.trans (Sub.push _ _).kp
theorem Lot.setN {S : Store} {i j m : Nat} {o : O} (h : Lot S i m) (n : j ≠ i) : Lot (S.set j o) i m := let ⟨a, b, c, e, h1⟩ := h; ⟨a, b, c, by rw [List.getElem?_set_ne n]; exact e, h1⟩
theorem set_ne {S : Store} {j r : Nat} {o u : O} (n : j ≠ r) (h : S[r]? = some u) : (S.set j o)[r]? = some u := by rw [List.getElem?_set_ne n]; exact h
theorem perm_erase {α : Type} : ∀ {l : List α} {j : Nat} (h : j < l.length), (l[j] :: l.eraseIdx j).Perm l
  | a :: l, 0, _ => by simp
  | a :: l, j + 1, h => by
    have h' : j < l.length := by simpa using h
    rw [List.getElem_cons_succ, List.eraseIdx_cons_succ]
    exact (List.Perm.swap _ _ _).trans ((perm_erase h').cons a)
/-! ### equality -/
theorem toPy_lay {S : Store} : ∀ {k : Nat} {d : D} {p : PyData}, toPy S k d = some p → p.canLay0 = true := by
  intro k
  induction k with
  | zero =>
    intro d p e
    cases d with
    | non => cases e; rfl
    | bl b => cases e; rfl
    | int i => cases e; rfl
    | str x =>
      simp only [toPy] at e
      split at e
      · cases e
        rename_i h
        simpa only [PyData.canLay0] using h
      · cases e
    | _ => simp only [toPy] at e; cases e
  | succ k ih =>
    have all : ∀ {ds : List D} {ps : List PyData}, seqO (ds.map (toPy S k)) = some ps → PyData.canLayAll0 ps = true := by
      intro ds
      induction ds with
      | nil => intro ps e; cases e; rfl
      | cons d ds ihd =>
        intro ps e
        obtain ⟨a, r, e1, e2, rfl⟩ := seqO_cons e
        rw [PyData.canLayAll0, ih e1, ihd e2]; rfl
    intro d p e
    cases d with
    | non => cases e; rfl
    | bl b => cases e; rfl
    | int i => cases e; rfl
    | str x =>
      simp only [toPy] at e
      split at e
      · cases e
        rename_i h
        simpa only [PyData.canLay0] using h
      · cases e
    | tup ds =>
      simp only [toPy, Option.map_eq_some_iff] at e
      obtain ⟨ps, e, rfl⟩ := e
      simpa only [PyData.canLay0] using all e
    | fls ds =>
      simp only [toPy, Option.map_eq_some_iff] at e
      obtain ⟨ps, e, rfl⟩ := e
      simpa only [PyData.canLay0] using all e
    | ref i =>
      simp only [toPy] at e
      split at e
      · simp only [Option.map_eq_some_iff] at e
        obtain ⟨ps, e, rfl⟩ := e
        simpa only [PyData.canLay0] using all e
      · cases e
    | _ => simp only [toPy] at e; cases e
theorem eqD_same {S : Store} {d e : D} {p : PyData} (h : toPy S 60 d = some p) (h' : toPy S 60 e = some p) : eqD S d e = some true := by
  unfold eqD
  rw [h, h']
  exact congrArg some (SeqAt.eqv_refl p (toPy_lay h))
theorem o_eqS {S : Store} {d e : D} {p : PyData} (h : toPy S 60 d = some p) (h' : toPy S 60 e = some p) : oEq d e S = some (.bl true, S) := by
  unfold oEq
  rw [eqD_same h h']; rfl
theorem o_neS {S : Store} {d e : D} {p : PyData} (h : toPy S 60 d = some p) (h' : toPy S 60 e = some p) : oNe d e S = some (.bl false, S) := by
  unfold oNe
  rw [eqD_same h h']; rfl
theorem eqD_int {S : Store} {i j : Int} : eqD S (.int i) (.int j) = some (decide (i = j)) := by
  unfold eqD
  simp only [toPy]
  by_cases h : i = j
  · subst h
    rw [decide_eq_true rfl]
    exact congrArg some (SeqAt.eqv_refl (.int i) rfl)
  · rw [decide_eq_false h]
    simp [PyData.eqv, h]
theorem o_eqI {S : Store} {i j : Int} : oEq (.int i) (.int j) S = some (.bl (decide (i = j)), S) := by
  unfold oEq
  rw [eqD_int]; rfl
theorem o_neI {S : Store} {i j : Int} : oNe (.int i) (.int j) S = some (.bl (!decide (i = j)), S) := by
  unfold oNe
  rw [eqD_int]; rfl
theorem py_ints {S : Store} {k : Nat} : ∀ l : List Int, seqO ((l.map D.int).map (toPy S k)) = some (l.map PyData.int)
  | [] => rfl
  | i :: l => by
    have e : toPy S k (.int i) = some (.int i) := by cases k <;> rfl
    simp only [List.map_cons, e, seqO, py_ints l, Option.map_some]
theorem py_tup {S : Store} {k : Nat} (l : List Int) : toPy S (k + 1) (.tup (l.map D.int)) = some (.tuple (l.map PyData.int)) := by
  simp only [toPy, py_ints, Option.map_some]
theorem py_lst {S : Store} {k r : Nat} {l : List Int} (h : S[r]? = some (.lst (l.map D.int))) : toPy S (k + 1) (.ref r) = some (.list (l.map PyData.int)) := by
  simp only [toPy, h, py_ints, Option.map_some]
theorem py_tups {S : Store} {k : Nat} : ∀ ls : List (List Int), seqO ((ls.map fun l => D.tup (l.map D.int)).map (toPy S (k + 1))) = some (ls.map fun l => PyData.tuple (l.map PyData.int))
  | [] => rfl
  | l :: ls => by
    rw [List.map_cons, List.map_cons, py_tup]
    simp only [seqO, py_tups ls, Option.map_some, List.map_cons]
theorem py_tup2 {S : Store} {k : Nat} (ls : List (List Int)) : toPy S (k + 2) (.tup (ls.map fun l => D.tup (l.map D.int))) = some (.tuple (ls.map fun l => PyData.tuple (l.map PyData.int))) := by
  rw [toPy, py_tups]; rfl
/-! ### two of a shuffled row -/
theorem rgD_n (n : Nat) : rgD 0 (n : Int) = (List.range n).map fun i => D.int ((i : Nat) : Int) := by
  unfold rgD
  simp
theorem two_of {n : Nat} {es : List D} (h : es.Perm (rgD 0 (n : Int))) (hn : 2 ≤ n) : ∃ (a b : Nat) (rest : List D), es = .int (a : Int) :: .int (b : Int) :: rest ∧ a < n ∧ b < n ∧ a ≠ b := by
  rw [rgD_n] at h
  have hl : es.length = n := by rw [h.length_eq]; simp
  have nd : es.Nodup := h.symm.nodup (by
    rw [List.Nodup, List.pairwise_map]
    refine List.Pairwise.imp ?_ (List.nodup_range (n := n))
    intro a b hab e
    injection e with e
    exact hab (by omega))
  match es, hl with
  | x :: y :: rest, _ =>
    have hx := h.mem_iff.mp (List.mem_cons_self (a := x) (l := y :: rest))
    have hy := h.mem_iff.mp (List.mem_cons_of_mem x (List.mem_cons_self (a := y) (l := rest)))
    obtain ⟨a, ha, rfl⟩ := List.mem_map.mp hx
    obtain ⟨b, hb, rfl⟩ := List.mem_map.mp hy
    refine ⟨a, b, rest, rfl, List.mem_range.mp ha, List.mem_range.mp hb, fun e => ?_⟩
    subst e
    exact (List.nodup_cons.mp nd).1 List.mem_cons_self
  | [_], hl => simp at hl; omega
  | [], hl => simp at hl; omega
theorem cut2 {α : Type} {x y : α} {l : List α} : cutD (x :: y :: l) none (some 2) = [x, y] := by
  unfold cutD
  have e1 : HT.sIx (x :: y :: l).length 0 none = 0 := rfl
  have e2 : HT.sIx (x :: y :: l).length (x :: y :: l).length (some 2) = 2 := by
    show (if (2 : Int) < 0 then ((2 : Int) + ((x :: y :: l).length : Int)).toNat else min (2 : Int).toNat (x :: y :: l).length) = 2
    rw [if_neg (by decide)]
    simp only [List.length_cons]
    have : (2 : Int).toNat = 2 := rfl
    omega
  rw [e1, e2]; rfl
theorem wipe_nil {env : En} : wipeE env [] = env := rfl
theorem wipe_cons {env : En} {v : Nat} {vs : List Nat} : wipeE env (v :: vs) = (wipeE env vs).set v none := rfl
theorem q_yes {env : En} {S : Store} : tYes1 env S = .ok true S := rfl
theorem q_rng2 {env : En} {S : Store} {r : DA} : iRng2 r env S = (r env S).bind fun xs S1 => match xs with
  | [.int i, .int j] => if -(2 ^ 62) ≤ i ∧ i < 2 ^ 62 ∧ -(2 ^ 62) ≤ j ∧ j < 2 ^ 62 then .ok (jR i (j - i).toNat) S1 else .bad
  | _ => .bad := rfl
theorem jL_at {S : Store} {r k : Nat} {ds : List D} (h : S[r]? = some (.lst ds)) : jL r k S = some ds[k]? := by simp only [jL, h]
theorem jR_atL {lo : Int} {n k : Nat} {S : Store} (h : k < n) : jR lo n k S = some (some (.int (lo + (k : Int)))) := by
  unfold jR
  rw [if_pos h]
theorem jR_endL {lo : Int} {n : Nat} {S : Store} : jR lo n n S = some none := by
  unfold jR
  rw [if_neg (by omega)]
end Z

/-! Z16: an instance's own `!=` by its `__eq__`. -/
namespace PySem.W
open PySem PySem.Spec PySem.Calls PyProof.Rows
section
variable {prog : Program} {w : World} {A A₀ : Around} {E : Value → Shared → Prop} {s : Shared} {K : Frag} {x C L f : Addr} {h₀ : Heap} {m : Str → Option Value} {ox : Obj} {od : Option Obj} {name : Str} {b tb : Value}
theorem zne_bound {M : Model} {id : String} {args : List Value} {Q : Option Value → Shared → Prop} (X : K.In s.heap) (I : InstAt s.heap x ox C od) (hs : findIn K (.ref C) name = some (some (.builtin id)))
    (hb : ∀ self, bindSpecial (.builtin id) self = pure (.builtin id, [self])) (h : wpAny M A (call (.builtin id) (.ref x :: args)) (fun v => Q (some v)) E s) : wpAny M A (callSpecialIfBound? (.ref x) name args) Q E s := by
  simp only [callSpecialIfBound?, bindSpecialIfBound?]
  refine wpAny_holding (wpAny_bind (wpAny_bind (wpAny_bind (I.type.here ((looks_findIn X hs).here ?_)))))
  simp only [hb]
  refine wpAny_bind (wpAny_askSetting (wpAny_ite ?_))
  have fin : wpAny M A (call (.builtin id) ([.ref x] ++ args) >>= fun v => pure (some v)) Q E s := wpAny_bind (wpAny_mono h (fun v s' h' => wpAny_pure h') fun _ _ h' => h')
  split
  · exact wpAny_bind (wpAny_pure (wpAny_pure fin))
  · exact wpAny_tryCatch (wpAny_bind (wpAny_pure (wpAny_pure fin)))
open Builtin in
theorem zne_obj {Q : Value → Shared → Prop} (hu : A.in1.units < cLine) (X : K.In s.heap) (I : InstAt s.heap x ox C od) (hm : mroIn K C (.type "object") = some true) (hr : findIn K (.ref C) "__eq__" = some (some (.ref f))) (hf : isFn K (.ref f) = true)
    (h : wpAny (model prog w) A.in1 (call (.ref f) [.ref x, b]) (fun v s' => ∃ t, v = .bool t ∧ Q (.bool (!t)) s') E s) : wpAny (model prog w) A (call (.builtin "object.__ne__") [.ref x, b]) Q E s := by
  refine wpAny_call (codeAny_call_builtin (by decide +kernel) F.cmpEntry_ne (check_slot (i := "object.__ne__") (owner := "object") (n := "__ne__") F.cmpKind_ne F.cmpSplit_ne (I.type.andThen (looks_mroIn X hm)) (F.cmpArgs_ne _ _) ?_))
  unfold Builtin.«object.__ne__»
  refine wpAny_bind (m := slotArgs "__ne__" 1 _) (wpAny_pure ?_)
  refine wpAny_bind (m := cRoomFor _ _) (wpAny_cRoomFor hu ?_)
  refine wpAny_bind (m := callSpecialIfBound? (.ref x) (Str.ofString "__eq__") _) (ifBound_K X I hr hf (wpAny_mono h (fun r s' hq => ?_) fun _ _ y => y))
  obtain ⟨t, rfl, hq⟩ := hq
  exact wpAny_bind (m := truthy (.bool t)) (wpAny_truthy_bool (wpAny_pure hq))
theorem zne_cmp {Q : Value → Shared → Prop} (hu : A.units < cLine) (hu1 : A.in1.units < cLine) (X : K.In s.heap) (I : InstAt s.heap x ox C od) (hb : Looks (model prog w) s.heap (typeOf b) tb) (hn : notFirst K C tb = true)
    (hne : findIn K (.ref C) "__ne__" = some (some (.builtin "object.__ne__"))) (hm : mroIn K C (.type "object") = some true) (hs : findIn K (.ref C) "__eq__" = some (some (.ref f))) (hf : isFn K (.ref f) = true)
    (h : wpAny (model prog w) A.in1 (call (.ref f) [.ref x, b]) (fun v s' => ∃ t, v = .bool t ∧ Q (.bool (!t)) s') E s) : wpAny (model prog w) A (richCompare .NotEq (.ref x) b) Q E s := by
  have one : wpAny (model prog w) A (tryCompare (.ref x) (cmpInfo .NotEq).2.1 b) (fun r s' => ∃ v, r = some v ∧ Q v s') E s := by
    unfold tryCompare
    refine wpAny_bind (zne_bound (id := "object.__ne__") X I hne (fun self => by first | rfl | kernel_rfl) (zne_obj hu1 X I hm hs hf (wpAny_mono h (fun v s' hv => ?_) fun _ _ e => e)))
    obtain ⟨t, rfl, hq⟩ := hv
    exact ⟨t, rfl, wpAny_pure ⟨_, rfl, hq⟩⟩
  unfold richCompare
  simp only [oneThing_ref]
  refine wpAny_holding (wpAny_bind (wpAny_cRoomFor hu ?_))
  refine wpAny_bind (I.type.here (wpAny_bind (hb.here ?_)))
  split
  · rename_i q
    have e : subIn K tb (.ref C) = some false := by
      rcases Bool.or_eq_true_iff.mp hn with e | e
      · rw [beq_iff_eq.mp e] at q; simp at q
      · exact beq_iff_eq.mp e
    refine wpAny_bind ((looks_subIn X e).here ?_)
    simp only [Bool.false_eq_true, if_false]
    refine wpAny_bind (wpAny_mono one (fun r s' z => ?_) fun _ _ e => e)
    obtain ⟨v, rfl, hq⟩ := z
    exact wpAny_pure hq
  · refine wpAny_bind (wpAny_pure ?_)
    simp only [Bool.false_eq_true, if_false]
    refine wpAny_bind (wpAny_mono one (fun r s' z => ?_) fun _ _ e => e)
    obtain ⟨v, rfl, hq⟩ := z
    exact wpAny_pure hq
end
end PySem.W

/-! Z17: a class's own ==, != and str; isinstance of a class with slots. -/
namespace Z
open PySem PySem.Spec PyProof.Rows L2 He

/-! ### == and != by the class's own def -/
structure EqIs (G : Glo) (k c : Nat) (F : Fn) : Prop where
  isi : SlX.SIsi G.K (G.ad c)
  ex : ∃ g, PySem.W.findIn G.K (.ref (G.ad c)) "__eq__" = some (some (.ref g)) ∧ PySem.W.isFn G.K (.ref g) = true ∧ FnA G k g 2 F
  ne : PySem.W.findIn G.K (.ref (G.ad c)) "__ne__" = some (some (.builtin "object.__ne__"))
  nf : ∀ t : Ty, PySem.W.notFirst G.K (G.ad c) (.type t.name) = true
def okEq (c : Nat) (d e : D) (S : Store) : Bool := isC c d S && (isC c e S || (tyD S e).isSome)
def oOwnF (c : Nat) (F : Fn) (f : Bool → Bool) : Op2 := fun d e S => if okEq c d e S = true then (match F [d, e] S with
    | .ok (.bl b) S' => some (.bl (f b), S')
    | _ => none) else none
abbrev oOwn (c : Nat) (F : Fn) : Op2 := oOwnF c F id
abbrev oOwnN (c : Nat) (F : Fn) : Op2 := oOwnF c F not
theorem cx_no {X : Cx} : Passes (L2.CX X.prog X.w) X (fun _ _ _ => False) := fun pins σ H s e s' I z => by
  obtain ⟨_, _, _, _, _, _, _, _, _, _, _, _, q⟩ := z
  exact q.elim
section
variable {C : Cp} {k c : Nat} {F : Fn}
theorem own_facts {G : Glo} {X : Cx} {φ : List Addr} {S : Store} {H : Hp} {pins : List (Addr × Obj)} {σ : St} {s : Shared} {d e : D} {x y : V} {v u : Value} (hK : X.K = G.K) (h : EqIs G k c F) (I : Inv X pins σ H s) (R : Rel G φ S H) (r1 : VRel G φ H d x) (r2 : VRel G φ H e y) (rx : RelV x v) (ry : RelV y u) (hok : okEq c d e S = true) :
    ∃ (a : Addr) (ox : Obj) (od : Obj) (tb : Value), x = .ref a ∧ v = .ref a ∧ PySem.W.InstAt s.heap a ox (G.ad c) (some od) ∧ PySem.W.Looks (model X.prog X.w) s.heap (typeOf u) tb ∧ PySem.W.notFirst X.K (G.ad c) tb = true := by
  obtain ⟨h1, h2⟩ := ba hok
  obtain ⟨i, vs, rfl, e1⟩ := isC_ok h1
  obtain ⟨ad, had, dx, ws, hs, hk', hr⟩ := R.get e1
  simp only [VRel] at r1
  obtain ⟨ad', rfl, had'⟩ := r1
  rw [had] at had'; cases had'
  cases (show v = Value.ref ad from rx)
  obtain ⟨sl, od, _, J, _⟩ := SlX.slt_inst I hs
  rcases Bool.or_eq_true_iff.mp h2 with h2 | h2
  · obtain ⟨j, us, rfl, e2⟩ := isC_ok h2
    obtain ⟨bd, hbd, dy, zs, ht, _, _⟩ := R.get e2
    simp only [VRel] at r2
    obtain ⟨bd', rfl, hbd'⟩ := r2
    rw [hbd] at hbd'; cases hbd'
    cases (show u = Value.ref bd from ry)
    obtain ⟨sl', od', _, J', _⟩ := SlX.slt_inst I ht
    exact ⟨ad, _, od, _, rfl, rfl, J, J'.type, by unfold PySem.W.notFirst; simp⟩
  · obtain ⟨t, ht⟩ := Option.isSome_iff_exists.mp h2
    obtain ⟨P, Zk, p, _⟩ := kit_of I ry (by rw [hK]; exact tyD_ok R r2 ht)
    exact ⟨ad, _, od, _, rfl, rfl, J, Zk.ty _ _ I.kIn p, by rw [hK]; exact h.nf t⟩
theorem opx_own (h : EqIs C.G k c F) (hk : Nat.ble k C.k = true) : OpRx C (compareOp .Eq) (oOwn c F) := fun X W hx pins s σ H x y v u Q I rx ry ⟨φ, S, d, e, R, r1, r2, P⟩ => by
  unfold oOwn oOwnF at P
  split at P
  · rename_i hok
    split at P
    · rename_i b S' eF
      obtain ⟨a, ox, od, tb, rfl, rfl, J, hb, hn⟩ := own_facts hx.K h I R r1 r2 rx ry hok
      obtain ⟨g, hs, hf, hF⟩ := h.ex
      obtain ⟨m, hFr⟩ := I.fr
      show wpAny _ _ (richCompare .Eq _ _) _ _ _
      refine PySem.W.cmp_K (op := .Eq) (hx.room.mono (Nat.le_of_ble_eq_true hk)).units0 hFr I.ok.mod.kin J hb hn (by rw [hx.K]; exact hs) (by rw [hx.K]; exact hf) ?_
      refine wpAny_mono (wpAny_call (run_fnA (us := [.ref a, u]) (vs := [.ref a, y]) (Q := Q) hx hF (hx.room.mono (Nat.le_of_ble_eq_true hk)) I (.cons rfl (.cons ry .nil)) ⟨φ, S, [d, e], R, VRels.cons r1 (VRels.cons r2 VRels.nil), rfl, by rw [eF]; exact P⟩)) (fun w s' z => ?_) fun _ _ x => x
      obtain ⟨z', H', I', rz, qz⟩ := z
      exact SlX.cmpback rz ⟨z', H', I', rz, qz⟩
    · exact P.elim
  · exact P.elim
theorem opx_ownN (h : EqIs C.G k c F) (hk : Nat.ble (k + 1) C.k = true) : OpRx C (compareOp .NotEq) (oOwnN c F) := fun X W hx pins s σ H x y v u Q I rx ry ⟨φ, S, d, e, R, r1, r2, P⟩ => by
  unfold oOwnN oOwnF at P
  split at P
  · rename_i hok
    split at P
    · rename_i b S' eF
      obtain ⟨a, ox, od, tb, rfl, rfl, J, hb, hn⟩ := own_facts hx.K h I R r1 r2 rx ry hok
      obtain ⟨g, hs, hf, hF⟩ := h.ex
      have hr : Room (k + 1) X.A := hx.room.mono (Nat.le_of_ble_eq_true hk)
      have F' : FnR X.prog X.w X.K X.mg X.base (L2.CX X.prog X.w) k g (spD C.G 2 F) := by rw [hx.prog, hx.w, hx.K, hx.mg, hx.base]; exact hF
      show wpAny _ _ (richCompare .NotEq _ _) _ _ _
      refine PySem.W.zne_cmp hr.units0 hr.in1.units0 I.kIn J hb hn (by rw [hx.K]; exact h.ne) (by rw [hx.K]; exact h.isi.cm) (by rw [hx.K]; exact hs) (by rw [hx.K]; exact hf) ?_
      refine wpAny_mono (wpAny_call (SlX.run_at (us := [.ref a, u]) (ws := [.ref a, y]) (Q := fun z H' => z = .bl b ∧ Q (.bl (!b)) H') (E := fun _ _ _ => False) F' hr.in1 I.env0.in1 cx_no I (.cons rfl (.cons ry .nil)) ⟨φ, S, [d, e], R, VRels.cons r1 (VRels.cons r2 VRels.nil), rfl, by
        rw [eF]
        intro φ' H' n' R' v' rv
        refine ⟨by simpa only [VRel] using rv, P φ' H' n' R' _ (by simp only [VRel])⟩⟩)) (fun w s' z => ?_) fun _ _ x => x
      obtain ⟨z', H', I', rz, rfl, qz⟩ := z
      cases (show w = Value.bool b from rz)
      exact ⟨b, rfl, .bl (!b), H', I', rfl, qz⟩
    · exact P.elim
  · exact P.elim
end

/-! ### isinstance -/
def slC (d : D) (S : Store) : Option Nat := match d with
  | .ref i => (match S[i]? with
    | some (.slt c _) => some c
    | _ => none)
  | _ => none
theorem slC_some {d : D} {S : Store} {c : Nat} (h : slC d S = some c) : ∃ i vs, d = .ref i ∧ S[i]? = some (.slt c vs) := by
  unfold slC at h
  split at h
  · rename_i i
    split at h
    · rename_i c' vs e
      cases h
      exact ⟨i, vs, rfl, e⟩
    · cases h
  · cases h
structure IsiIs (G : Glo) (c : Nat) (cs : List Nat) : Prop where
  ty : ∀ t : Ty, PySem.W.kitOne G.K (.type t.name) (.ref (G.ad c)) = some false
  own : ∀ c' ∈ cs, SlX.SCls G.K (G.ad c') ∧ SlX.SIsi G.K (G.ad c') ∧ PySem.W.kitOne G.K (.ref (G.ad c')) (.ref (G.ad c)) = some (c' == c)
def bIsiC (c : Nat) (cs : List Nat) : Bf := fun ds S => match ds with
  | [d, .st c1] => if c1 = c then (match slC d S with
    | some c' => if cs.contains c' = true then some (.bl (c' == c), S) else none
    | none => (tyD S d).map fun _ => (.bl false, S)) else none
  | _ => none
theorem cx_isiC {C : Cp} {c : Nat} {cs : List Nat} (h : IsiIs C.G c cs) : CallRx C (.builtin "isinstance") (bIsiC c cs) := fun X W hx pins s σ H vs us Q I rx ⟨φ, S, ds, R, r, P⟩ => by
  unfold bIsiC at P
  split at P
  · rename_i d c1
    obtain ⟨v, w, rfl, r1, r2⟩ := rels2 r
    split at P
    · rename_i hc
      subst hc
      simp only [VRel] at r2
      subst r2
      split at P
      · rename_i c' q
        split at P
        · rename_i hm
          obtain ⟨i, ws0, rfl, e1⟩ := slC_some q
          obtain ⟨ad, had, dx, ws, hs, _, _⟩ := R.get e1
          simp only [VRel] at r1
          obtain ⟨ad', rfl, had'⟩ := r1
          rw [had] at had'; cases had'
          obtain ⟨hc, hi, hk⟩ := h.own c' (by simpa using hm)
          refine SlX.call_isiSl (X := X) (.ref (C.G.ad c1)) pins s σ H _ us Q I rx ⟨ad, C.G.ad c', dx, ws, .ref (C.G.ad c1), (c' == c1), rfl, rfl, fun w hw => hw, hs, by rw [hx.K]; exact hc, by rw [hx.K]; exact hi, by rw [hx.K]; exact hk, P.now R (by simp only [VRel])⟩
        · exact P.elim
      · cases q2 : tyD S d with
        | none => rw [q2] at P; exact P.elim
        | some t =>
          rw [q2] at P
          refine call_isi pins s σ H _ us Q I rx ⟨v, .ref (C.G.ad c1), _, _, false, rfl, .own _, by rw [hx.K]; exact tyD_ok R r1 q2, by rw [hx.K]; exact h.ty t, P.now R (by simp only [VRel])⟩
    · exact P.elim
  · exact P.elim
/-- an instance is of no built-in type -/
structure IsiNo (G : Glo) (cs : List Nat) : Prop where
  own : ∀ c' ∈ cs, SlX.SCls G.K (G.ad c') ∧ SlX.SIsi G.K (G.ad c') ∧ ∀ t : Ty, t ≠ .non → PySem.W.kitOne G.K (.ref (G.ad c')) (.type t.name) = some false
def bIsiN (cs : List Nat) : Bf := fun ds S => match ds with
  | [d, .ty n] => (match slC d S with
    | some c' => if cs.contains c' = true ∧ ([Ty.bl, .int, .str, .tup, .lst, .dic].find? fun u => u.name = n).isSome = true then some (.bl false, S) else none
    | none => none)
  | _ => none
theorem cx_isiN {C : Cp} {cs : List Nat} (h : IsiNo C.G cs) : CallRx C (.builtin "isinstance") (bIsiN cs) := fun X W hx pins s σ H vs us Q I rx ⟨φ, S, ds, R, r, P⟩ => by
  unfold bIsiN at P
  split at P
  · rename_i d n
    obtain ⟨v, w, rfl, r1, r2⟩ := rels2 r
    simp only [VRel] at r2
    subst r2
    split at P
    · rename_i c' q
      split at P
      · rename_i hm
        obtain ⟨i, ws0, rfl, e1⟩ := slC_some q
        obtain ⟨ad, had, dx, ws, hs, _, _⟩ := R.get e1
        simp only [VRel] at r1
        obtain ⟨ad', rfl, had'⟩ := r1
        rw [had] at had'; cases had'
        obtain ⟨hc, hi, hk⟩ := h.own c' (by simpa using hm.1)
        obtain ⟨t, q2⟩ := Option.isSome_iff_exists.mp hm.2
        have hn : t.name = n := by simpa using List.find?_some q2
        have hne : t ≠ .non := by
          have := List.mem_of_find?_eq_some q2
          intro z; subst z; simp at this
        refine SlX.call_isiSl (X := X) (.type n) pins s σ H _ us Q I rx ⟨ad, C.G.ad c', dx, ws, .ty n, false, rfl, rfl, fun w hw => hw, hs, by rw [hx.K]; exact hc, by rw [hx.K]; exact hi, by rw [hx.K, ← hn]; exact hk t hne, P.now R (by simp only [VRel])⟩
      · exact P.elim
    · exact P.elim
  · exact P.elim

/-! ### str -/
structure StrIs (G : Glo) (k c : Nat) (F : Fn) : Prop where
  ex : ∃ g, PySem.W.findIn G.K (.ref (G.ad c)) "__str__" = some (some (.ref g)) ∧ PySem.W.isFn G.K (.ref g) = true ∧ FnA G k g 1 F
def bStrC (c : Nat) (F : Fn) : Bf := fun ds S => match ds with
  | [d] => if isC c d S = true then (match F [d] S with
    | .ok (.str x) S' => some (.str x, S')
    | _ => none) else none
  | _ => none
theorem cx_strC {C : Cp} {k c : Nat} {F : Fn} (h : StrIs C.G k c F) (hk : Nat.ble (k + 2) C.k = true) : CallRx C (.type "str") (bStrC c F) := fun X W hx pins s σ H vs us Q I rx ⟨φ, S, ds, R, r, P⟩ => by
  unfold bStrC at P
  split at P
  · rename_i d
    obtain ⟨v, rfl, r1⟩ := rels1 r
    split at P
    · rename_i hc
      split at P
      · rename_i x S' eF
        obtain ⟨u, rfl, ru⟩ := rx.one
        obtain ⟨i, ws0, rfl, e1⟩ := isC_ok hc
        obtain ⟨ad, had, dx, ws, hs, _, _⟩ := R.get e1
        have r1' := r1
        simp only [VRel] at r1
        obtain ⟨ad', rfl, had'⟩ := r1
        rw [had] at had'; cases had'
        cases (show u = Value.ref ad from ru)
        obtain ⟨sl, od, _, J, _⟩ := SlX.slt_inst I hs
        obtain ⟨g, h1, h2, hF⟩ := h.ex
        have hr : Room (k + 2) X.A := hx.room.mono (Nat.le_of_ble_eq_true hk)
        have hr2 : Room k X.A.in1.in1 := (show Room (k + 1) X.A.in1 from Room.in1 hr).in1
        have F' : FnR X.prog X.w X.K X.mg X.base (L2.CX X.prog X.w) k g (spD C.G 1 F) := by rw [hx.prog, hx.w, hx.K, hx.mg, hx.base]; exact hF
        refine PySem.W.kso_call hr2.units0 I.kIn J (by rw [hx.K]; exact h1) (by rw [hx.K]; exact h2) (wpAny_mono (wpAny_call (SlX.run_at (us := [.ref ad]) (ws := [.ref ad]) (Q := fun z H' => z = .str x ∧ Q (.str x) H') (E := fun _ _ _ => False) F' hr2 I.env0.in1.in1 cx_no I (.cons rfl .nil) ⟨φ, S, _, R, VRels.cons r1' VRels.nil, rfl, by
          rw [eF]
          intro φ' H' n' R' v' rv
          refine ⟨by simpa only [VRel] using rv, P φ' H' n' R' _ (by simp only [VRel])⟩⟩)) (fun w s' z => ?_) fun _ _ x => x)
        obtain ⟨z', H', I', rz, rfl, qz⟩ := z
        obtain ⟨t, rfl⟩ := (show ∃ t, w = Value.str x t from rz)
        exact ⟨.str x, H', I', ⟨t, rfl⟩, qz⟩
      · exact P.elim
    · exact P.elim
  · exact P.elim

/-! ### the checks -/
def tyAll : List Ty := [.non, .bl, .int, .str, .tup, .lst, .dic]
theorem tyAll_all (t : Ty) : t ∈ tyAll := by cases t <;> decide
def ckNe (x : Str) : Ck := fun K => eqO (PySem.W.findIn K (.ref (ga K x)) "__ne__") (some (some (.builtin "object.__ne__"))) && tyAll.all fun t => PySem.W.notFirst K (ga K x) (.type t.name)
def ckIT (x : Str) : Ck := fun K => tyAll.all fun t => decide (PySem.W.kitOne K (.type t.name) (.ref (ga K x)) = some false)
def ckIC (x y : Str) (b : Bool) : Ck := fun K => decide (PySem.W.kitOne K (.ref (ga K y)) (.ref (ga K x)) = some b)
def ckIN (x : Str) : Ck := fun K => tyAll.all fun t => decide (t = .non) || decide (PySem.W.kitOne K (.ref (ga K x)) (.type t.name) = some false)
section
variable {cs : List Ck} {fn : List Df} {cl : List Str} {tf : Tf} {pr : Program} {G : Glo} {c k : Nat} {F : Fn} {x : Str}
theorem Hyp.eqIs (h : Hyp cs fn cl tf pr G) (i j l : Nat) (hc0 : cl[c]? = some x) (e : cs[i]? = some (ckIsi x)) (e2 : cs[j]? = some (ckFa (.meth x "__eq__"))) (e3 : cs[l]? = some (ckNe x)) (hF : FnA G k (ma G.K (ga G.K x) "__eq__") 2 F) : EqIs G k c F := by
  have hm := meth_ok (h.ck j e2)
  obtain ⟨h1, h2⟩ := ba (h.ck l e3)
  have hi := ckIsi_ok (h.ck i e)
  rw [← h.cls c x hc0] at hm h1 h2 hi
  exact ⟨hi, ⟨_, hm.at_, hm.fn, by rw [h.cls c x hc0]; exact hF⟩, eqO_ok h1, fun t => List.all_eq_true.mp h2 t (tyAll_all t)⟩
theorem Hyp.strIs (h : Hyp cs fn cl tf pr G) (j : Nat) (hc0 : cl[c]? = some x) (e2 : cs[j]? = some (ckFa (.meth x "__str__"))) (hF : FnA G k (ma G.K (ga G.K x) "__str__") 1 F) : StrIs G k c F := by
  have hm := meth_ok (h.ck j e2)
  rw [← h.cls c x hc0] at hm
  exact ⟨_, hm.at_, hm.fn, by rw [h.cls c x hc0]; exact hF⟩
theorem Hyp.isiOne (h : Hyp cs fn cl tf pr G) (i j l : Nat) {y : Str} {c' : Nat} {b : Bool} (hc0 : cl[c]? = some x) (hc1 : cl[c']? = some y) (e : cs[i]? = some (ckSlt y)) (e2 : cs[j]? = some (ckIsi y)) (e3 : cs[l]? = some (ckIC x y b)) (hb : (c' == c) = b) : SlX.SCls G.K (G.ad c') ∧ SlX.SIsi G.K (G.ad c') ∧ PySem.W.kitOne G.K (.ref (G.ad c')) (.ref (G.ad c)) = some (c' == c) := by
  rw [hb, h.cls c x hc0, h.cls c' y hc1]
  exact ⟨ckSlt_ok (h.ck i e), ckIsi_ok (h.ck j e2), of_decide_eq_true (h.ck l e3)⟩
theorem Hyp.isi1 (h : Hyp cs fn cl tf pr G) (i : Nat) (hc0 : cl[c]? = some x) (e : cs[i]? = some (ckIT x)) {c' : Nat} (h1 : SlX.SCls G.K (G.ad c') ∧ SlX.SIsi G.K (G.ad c') ∧ PySem.W.kitOne G.K (.ref (G.ad c')) (.ref (G.ad c)) = some (c' == c)) : IsiIs G c [c'] :=
  ⟨fun t => by rw [h.cls c x hc0]; exact of_decide_eq_true (List.all_eq_true.mp (h.ck i e) t (tyAll_all t)), fun d hd => by rw [List.mem_singleton.mp hd]; exact h1⟩
theorem IsiIs.add {cs' : List Nat} (h : IsiIs G c cs') {c' : Nat} (h1 : SlX.SCls G.K (G.ad c') ∧ SlX.SIsi G.K (G.ad c') ∧ PySem.W.kitOne G.K (.ref (G.ad c')) (.ref (G.ad c)) = some (c' == c)) : IsiIs G c (c' :: cs') :=
  ⟨h.ty, fun d hd => by
    rcases List.mem_cons.mp hd with hd | hd
    · rw [hd]; exact h1
    · exact h.own d hd⟩
theorem Hyp.isiNo1 (h : Hyp cs fn cl tf pr G) (i j l : Nat) (hc0 : cl[c]? = some x) (e : cs[i]? = some (ckSlt x)) (e2 : cs[j]? = some (ckIsi x)) (e3 : cs[l]? = some (ckIN x)) : IsiNo G [c] := ⟨fun d hd => by
  rw [List.mem_singleton.mp hd, h.cls c x hc0]
  refine ⟨ckSlt_ok (h.ck i e), ckIsi_ok (h.ck j e2), fun t ht => ?_⟩
  have := List.all_eq_true.mp (h.ck l e3) t (tyAll_all t)
  rcases Bool.or_eq_true_iff.mp this with q | q
  · exact absurd (of_decide_eq_true q) ht
  · exact of_decide_eq_true q⟩
theorem IsiNo.add {a b : List Nat} (h : IsiNo G a) (h' : IsiNo G b) : IsiNo G (a ++ b) := ⟨fun d hd => (List.mem_append.mp hd).elim (h.own d) (h'.own d)⟩
end
end Z

/-! Z18: a tuple times 1, times 0. -/
namespace L2
open PySem PySem.Spec PyProof.Rows
theorem tuple_mul1 (l : Addr) (items : Array Value) (n : Nat) (dd : Option Addr) (sl : Array (Option Value)) (x : Int) (u : Tok) (c0 : (decide (x < -(2 ^ 63)) || decide (x ≥ 2 ^ 63)) = false) (c1 : (items.isEmpty || x == 1) = true) :
    Meets (Builtin.«tuple.__mul__» ⟨[.ref l, .int x u], []⟩) (fun _ R s => s.heap.get? l = some { cls := .type "tuple", dict := dd, data := .seq items n, slots := sl } ∧
      ∀ tk, R (.ok (.ret (Value.ref l))) { s with toks := tk }) :=
  .of_wp fun prog w A R s h => by
    obtain ⟨hp, g, d, tk, os⟩ := s
    obtain ⟨hl, h⟩ := h
    have f1 := AutoSeq1.idx_int
    wp_walk using wpAny_loadPart' hl
    repeat (first
      | (refine wpAny_ite_false (decide_eq_false (by rw [c0]; exact Bool.false_ne_true)) ?_; wp_walk using wpAny_loadPart' hl)
      | (refine wpAny_ite_true (decide_eq_true c1) ?_; wp_walk using wpAny_loadPart' hl))
    all_goals first | exact ⟨_, rfl, h _⟩ | skip
theorem tuple_mul0 (l : Addr) (items : Array Value) (n : Nat) (dd : Option Addr) (sl : Array (Option Value)) (x : Int) (u : Tok) (c0 : (decide (x < -(2 ^ 63)) || decide (x ≥ 2 ^ 63)) = false) (c1 : (items.isEmpty || x == 1) = false) (c2 : (decide (x ≤ 0) || items.isEmpty) = true) :
    Meets (Builtin.«tuple.__mul__» ⟨[.ref l, .int x u], []⟩) (fun _ R s => s.heap.get? l = some { cls := .type "tuple", dict := dd, data := .seq items n, slots := sl } ∧
      R (.ok (.ret (Value.ref s.heap.objs.size))) { s with heap := s.heap.push { cls := Value.type "tuple", data := Data.seq #[] }, toks := s.toks }) :=
  .of_wp fun prog w A R s h => by
    obtain ⟨hp, g, d, tk, os⟩ := s
    obtain ⟨hl, h⟩ := h
    have f1 := AutoSeq1.idx_int
    wp_walk using wpAny_loadPart' hl
    repeat (first
      | (refine wpAny_ite_false (decide_eq_false (by rw [c0]; exact Bool.false_ne_true)) ?_; wp_walk using wpAny_loadPart' hl)
      | (refine wpAny_ite_false (decide_eq_false (by rw [c1]; exact Bool.false_ne_true)) ?_; wp_walk using wpAny_loadPart' hl)
      | (refine wpAny_ite_true (decide_eq_true c2) ?_; wp_walk using wpAny_loadPart' hl))
    all_goals first | exact ⟨_, rfl, h⟩ | skip
def rRepT1 (K : PySem.W.Frag) : R2 := fun x y H Q => ∃ l xs, x = .ref l ∧ y = .int 1 ∧ SqT K H l xs ∧ Q (.ref l) H
def rRepT0 (K : PySem.W.Frag) : R2 := fun x y H Q => ∃ l xs, x = .ref l ∧ y = .int 0 ∧ SqT K H l xs ∧ xs ≠ [] ∧ ∀ p, H p = none → Q (.ref p) (upd H p (.tup []))
section
variable {X : Cx}
theorem op_repT1 : OpR X (binaryOp .Mult) (rRepT1 X.K) := by
  intro pins s σ H x y v u Q I rx ry h
  obtain ⟨l, xs, rfl, rfl, hT, q⟩ := h
  cases rx
  obtain ⟨t, rfl⟩ := ry
  obtain ⟨its, r, ⟨⟨cls, dd, data, sl⟩, ho, hc, n, hd⟩, hs⟩ := I.tuple hT
  simp only at hc hd
  subst hc hd
  have c0 : (decide ((1 : Int) < -(2 ^ 63)) || decide ((1 : Int) ≥ 2 ^ 63)) = false := by decide
  have c1 : (its.toArray.isEmpty || (1 : Int) == 1) = true := by simp
  refine wpAny_binaryOp_repeat_ref (T := "tuple") (U := "int") (by decide) ⟨_, ho, rfl⟩ (fun s' => typeIs_int s' 1 t) noFill_tuple_mul F.fills_int_mul F.slot_int_rmul repeat_tuple F.slot_int_index.lookup
    (call_meets F.slot_int_rmul (typeIs_int s 1 t) F.entry_int_rmul (F.args_int_rmul_2 _ _) (int_rmul_tuple 1 t l its.toArray n dd sl)
      ⟨ho, rfl, ⟨_, ho, rfl⟩, call_meets F.slot_tuple_mul ⟨_, ho, rfl⟩ F.entry_tuple_mul (F.args_tuple_mul_2 _ _) (tuple_mul1 l its.toArray n dd sl 1 t c0 c1) ⟨ho, fun tk => ?_⟩⟩)
  exact ⟨.ref l, H, I.tok tk, rfl, q⟩
theorem op_repT0 : OpR X (binaryOp .Mult) (rRepT0 X.K) := by
  intro pins s σ H x y v u Q I rx ry h
  obtain ⟨l, xs, rfl, rfl, hT, hne, q⟩ := h
  cases rx
  obtain ⟨t, rfl⟩ := ry
  obtain ⟨its, r, ⟨⟨cls, dd, data, sl⟩, ho, hc, n, hd⟩, hs⟩ := I.tuple hT
  simp only at hc hd
  subst hc hd
  have hle : its.length = xs.length := r.length.symm
  have hi : its.toArray.isEmpty = false := by
    cases its with
    | nil => exact absurd (List.eq_nil_of_length_eq_zero hle.symm) hne
    | cons a b => rfl
  have c0 : (decide ((0 : Int) < -(2 ^ 63)) || decide ((0 : Int) ≥ 2 ^ 63)) = false := by decide
  have c1 : (its.toArray.isEmpty || (0 : Int) == 1) = false := by rw [hi]; decide
  have c2 : (decide ((0 : Int) ≤ 0) || its.toArray.isEmpty) = true := by simp
  refine wpAny_binaryOp_repeat_ref (T := "tuple") (U := "int") (by decide) ⟨_, ho, rfl⟩ (fun s' => typeIs_int s' 0 t) noFill_tuple_mul F.fills_int_mul F.slot_int_rmul repeat_tuple F.slot_int_index.lookup
    (call_meets F.slot_int_rmul (typeIs_int s 0 t) F.entry_int_rmul (F.args_int_rmul_2 _ _) (int_rmul_tuple 0 t l its.toArray n dd sl)
      ⟨ho, rfl, ⟨_, ho, rfl⟩, call_meets F.slot_tuple_mul ⟨_, ho, rfl⟩ F.entry_tuple_mul (F.args_tuple_mul_2 _ _) (tuple_mul0 l its.toArray n dd sl 0 t c0 c1 c2) ⟨ho, ?_⟩⟩)
  refine ⟨.ref s.heap.objs.size, _, I.laid (t' := s.toks) (o := .tup []) (fun b ob q => Heap.get?_push_of_some _ q) (Nat.le_refl _) ?_, rfl, q _ (I.hok.fresh (Nat.le_refl _))⟩
  exact ⟨Nat.zero_le _, _, .nil, IsTup.new _ _⟩
end
end L2
namespace Z
open PySem PySem.Spec PyProof.Rows L2
def oMulT1 : Op2 := fun d e S => match d, e with
  | .tup xs, .int k => if k = 1 then some (.tup xs, S) else none
  | _, _ => none
def oMulT0 : Op2 := fun d e S => match d, e with
  | .tup xs, .int k => if k = 0 ∧ xs ≠ [] then some (.tup [], S) else none
  | _, _ => none
theorem opx_mulT1 {C : Cp} : OpRx C (binaryOp .Mult) oMulT1 := OpRx.imp (fun X => rRepT1 X.K) (fun _ _ _ => op_repT1) fun X W hx φ S H d e x y Q R r1 r2 P => by
  unfold oMulT1 at P
  split at P
  · split at P
    · rename_i xs k hk
      have r1' := r1
      simp only [VRel] at r1 r2
      obtain ⟨a, vs, rfl, sq, rs⟩ := r1
      subst r2 hk
      exact ⟨a, vs, rfl, rfl, by rw [hx.K]; exact sq, P.now R r1'⟩
    · exact P.elim
  · exact P.elim
theorem opx_mulT0 {C : Cp} : OpRx C (binaryOp .Mult) oMulT0 := OpRx.imp (fun X => rRepT0 X.K) (fun _ _ _ => op_repT0) fun X W hx φ S H d e x y Q R r1 r2 P => by
  unfold oMulT0 at P
  split at P
  · split at P
    · rename_i xs k hk
      simp only [VRel] at r1 r2
      obtain ⟨a, vs, rfl, sq, rs⟩ := r1
      obtain ⟨hk, hne⟩ := hk
      subst r2 hk
      refine ⟨a, vs, rfl, rfl, by rw [hx.K]; exact sq, fun z => hne ?_, fun p hp => PstV.tup P R VRels.nil hp⟩
      subst z
      have := rs.length
      exact List.eq_nil_of_length_eq_zero this
    · exact P.elim
  · exact P.elim
def oMulB : Op2 := orO oMulA (orO oMulT1 oMulT0)
theorem opx_mulB {C : Cp} : OpRx C (binaryOp .Mult) oMulB := opx_mulA.or (opx_mulT1.or opx_mulT0)
end Z

/-! Z19: gcd of math, xs[::-1], range with a step of -1, a class's own len. -/
namespace HT
open PySem PySem.W PySem.Calls PySem.Spec PyProof.Rows
section
variable {prog : Program} {w : World} {A : Around} {E : Value → Shared → Prop} {s : Shared}
theorem adjust_rev (n : Nat) : Builtin.Slice.sliceAdjust none none (-1) (n : Int) = ((n : Int) - 1, -1) := by
  unfold Builtin.Slice.sliceAdjust
  simp
theorem places_rev (n : Nat) : Builtin.Slice.slicePlaces ((n : Int) - 1) (-1) (-1) = n := by
  unfold Builtin.Slice.slicePlaces
  have h1 : ¬ ((-1 : Int) > 0) := by omega
  simp only [h1, if_false]
  by_cases h : (n : Int) - 1 > -1
  · rw [if_pos h]
    have : ((n : Int) - 1 - -1 - 1) / (- -1) + 1 = n := by
      rw [Int.neg_neg, Int.ediv_one]; omega
    rw [this]; simp
  · rw [if_neg h]; omega
theorem sliceApplied_rev {sl : Addr} {vl vu vs : Value} {n : Nat} {Q : Int × Int × Nat → Shared → Prop} (hs : s.heap.IsSliceOf sl vl vu vs) (pl : IsPart vl none) (pu : IsPart vu none) (ps : IsPart vs (some (-1)))
    (h : Q ((n : Int) - 1, -1, n) s) : wpAny (model prog w) A (Builtin.Slice.sliceApplied (.ref sl) (pure (n : Int))) Q E s := by
  obtain ⟨os, hos, hcs, hds⟩ := id hs
  unfold Builtin.Slice.sliceApplied Builtin.Slice.sliceFields
  refine wpAny_bind (wpAny_bind (wpAny_field hos hds (x := vl) rfl (wpAny_bind (wpAny_field hos hds (x := vu) rfl (wpAny_bind (wpAny_field hos hds (x := vs) rfl (wpAny_pure ?_)))))))
  refine wpAny_bind (slicePart_ ps ?_)
  show wpAny _ _ (if ((-1 : Int) == 0) = true then _ else _) _ _ s
  rw [if_neg (by decide)]
  refine wpAny_bind (slicePart_ pl (wpAny_bind (slicePart_ pu (wpAny_bind (wpAny_pure ?_)))))
  show wpAny _ _ (match Builtin.Slice.sliceAdjust none none (-1) (n : Int) with | (lo, hi) => pure (lo, (-1 : Int), Builtin.Slice.slicePlaces lo hi (-1))) _ _ s
  rw [adjust_rev n]
  show wpAny _ _ (pure ((n : Int) - 1, (-1 : Int), Builtin.Slice.slicePlaces ((n : Int) - 1) (-1) (-1))) _ _ s
  rw [places_rev]
  exact wpAny_pure h
theorem fm_congr {α β : Type} {f g : α → Option β} : ∀ {l : List α}, (∀ m ∈ l, f m = g m) → l.filterMap f = l.filterMap g
  | [], _ => rfl
  | a :: l, h => by
    rw [List.filterMap_cons, List.filterMap_cons, h a List.mem_cons_self, fm_congr fun m hm => h m (List.mem_cons_of_mem _ hm)]
theorem pick_rev (xs : Array Value) : ((List.range xs.size).filterMap fun (m : Nat) => xs[(((xs.size : Int) - 1) + (m : Int) * (-1)).toNat]?).toArray = xs.toList.reverse.toArray := by
  congr 1
  have e : ∀ m ∈ List.range xs.size, xs[(((xs.size : Int) - 1) + (m : Int) * (-1)).toNat]? = xs.toList.reverse[m]? := fun m hm => by
    have hm' := List.mem_range.mp hm
    have e2 : (((xs.size : Int) - 1) + (m : Int) * (-1)).toNat = xs.size - 1 - m := by omega
    rw [e2, List.getElem?_reverse (by simpa using hm')]
    simp
  rw [fm_congr e]
  have gen : ∀ (l : List Value) (n : Nat), (List.range n).filterMap (fun m => l[m]?) = l.take n := fun l n => by
    induction n with
    | zero => rfl
    | succ n ih =>
      rw [List.range_succ, List.filterMap_append, ih, List.take_succ]
      congr 1
      try (cases l[n]? <;> rfl)
  have this : ∀ (l : List Value), (List.range l.length).filterMap (fun m => l[m]?) = l := fun l => by rw [gen, List.take_length]
  have h2 := this xs.toList.reverse
  rw [List.length_reverse, Array.length_toList] at h2
  exact h2
theorem getItem_tuple_rev {t sl : Addr} {items : Array Value} {vl vu vs : Value} {Q : Value → Shared → Prop} (ht : IsTup s.heap t items) (hs : s.heap.IsSliceOf sl vl vu vs) (pl : IsPart vl none) (pu : IsPart vu none) (ps : IsPart vs (some (-1)))
    (h : Q (.ref s.heap.objs.size) { s with heap := s.heap.push { cls := .type "tuple", data := .seq items.toList.reverse.toArray } })
    (hsz : items.size ≤ sizeLine) : wpAny (model prog w) A (getItem (.ref t) (.ref sl)) Q E s := by
  have htake : sizeOk (.seq items.toList.reverse.toArray) := by
    show items.toList.reverse.toArray.size ≤ sizeLine
    rw [List.size_toArray, List.length_reverse, Array.length_toList]
    exact hsz
  obtain ⟨os, hos, hcs, hds⟩ := id hs
  have hTs : s.TypeIs (.ref sl) "slice" := ⟨os, hos, hcs⟩
  unfold getItem
  try with_reducible refine wpAny_holding ?_
  first | refine wpAny_bind (wpAny_pure ?_) | skip
  refine wpAny_bind (wpAny_sequenceKey ht.typeIs (by decide) ?_)
  refine wpAny_bind (wpAny_callSpecial?_slot (name := Str.ofString "__getitem__") ht.typeIs PyProof.Rows.slot_tuple_getitem
    (wpAny_call_entry PyProof.Rows.slot_tuple_getitem ht.typeIs entry_tuple_getitem ?_ (args_tuple_getitem _ _)))
  show wpAny _ _ (Builtin.Tuple.tupleItemsOf (.ref t) >>= _) _ _ s
  refine wpAny_bind (tupleItemsOf_ ht ?_)
  refine wpAny_bind (wpAny_typeOf hTs ?_)
  rw [if_pos (by decide)]
  refine wpAny_bind (sliceApplied_rev hs pl pu ps ?_)
  have hno : ¬ ((((items.size : Nat) : Int) - 1 == 0 && (-1 : Int) == 1 && items.size == items.size) = true) := by
    intro q
    rw [Bool.and_eq_true, Bool.and_eq_true] at q
    exact absurd q.1.2 (by decide)
  show wpAny _ _ (if (((items.size : Nat) : Int) - 1 == 0 && (-1 : Int) == 1 && items.size == items.size) = true then _ else _) _ _ s
  rw [if_neg hno, pick_rev]
  first
    | exact wpAny_bind (m := Builtin.Tuple.tupleExact _) (wpAny_newObj_type (wpAny_pure ⟨_, rfl, wpAny_pure h⟩) htake)
    | exact wpAny_bind (m := Builtin.Tuple.tupleExact _) (wpAny_newObj_type (wpAny_bind (wpAny_pure (wpAny_pure ⟨_, rfl, wpAny_pure h⟩))) htake)
    | exact wpAny_bind (wpAny_bind (m := Builtin.Tuple.tupleExact _) (wpAny_newObj_type (wpAny_pure (wpAny_pure ⟨_, rfl, wpAny_pure h⟩)) htake))
    | exact wpAny_bind (wpAny_bind (m := Builtin.Tuple.tupleExact _) (wpAny_newObj_type (wpAny_pure ⟨_, rfl, wpAny_pure h⟩) htake))
end
end HT
namespace L2
open PySem PySem.Spec PyProof.Rows
def tRevT (K : PySem.W.Frag) (te : TE) : TE := fun σ H Q => te σ H fun x H1 => ∃ a xs, x = .ref a ∧ ((SqL K H1 a xs ∧ ∀ p, H1 p = none → Q (.ref p) (upd H1 p (.lst xs.reverse))) ∨ (SqT K H1 a xs ∧ ∀ p, H1 p = none → Q (.ref p) (upd H1 p (.tup xs.reverse))))
theorem pe_revT {X : Cx} {e : Expr} {te : TE} {k : Nat} {p1 p2 p3 pos : Pos} (he : PE X e te) : PE X (.Subscript e (.Slice none none (some (.UnaryOp .USub (.Constant (.int 1) k p1) p2)) p3) pos) (tRevT X.K te) := by
  refine ⟨fun pins s σ H Q I h => ?_⟩
  refine Subscript_ (thn (he.run pins s σ H _ I h) fun v s1 ⟨x, H1, I1, r1, q1⟩ => ?_)
  obtain ⟨a, xs, ex, hx⟩ := q1
  subst ex
  cases r1
  have hst : PO X (some (.UnaryOp .USub (.Constant (.int 1) k p1) p2)) (tPart (tUn (rU fun i => .int (-i)) (tC (.int 1)))) := po_some (pe_un un_neg pe_int)
  refine wpAny_Slice (thn (po_none.run pins s1 σ H1 (fun o H2 => o = none ∧ H2 = H1) I1 ⟨rfl, rfl⟩) fun vl s2 ⟨l, H2, I2, pl, el, e2⟩ => ?_)
  subst el e2
  refine thn (po_none.run pins s2 σ H2 (fun o H3 => o = none ∧ H3 = H2) I2 ⟨rfl, rfl⟩) fun vu s3 ⟨u, H3, I3, pu, eu, e3⟩ => ?_
  subst eu e3
  refine thn (hst.run pins s3 σ H3 (fun o H4 => o = some (-1) ∧ H4 = H3) I3 ⟨1, rfl, -1, rfl, rfl, rfl⟩) fun vs s4 ⟨o, H4, I4, ps, eo, e4⟩ => ?_
  subst eo e4
  have I5 : Inv X pins σ H4 { s4 with heap := s4.heap.push { cls := .type "slice", data := .fields #[vl, vu, vs] } } := I4.kept (t' := s4.toks) fun b ob q => Heap.get?_push_of_some _ q
  show wpAny (model X.prog X.w) X.A (subscriptTail e (.Slice none none (some (.UnaryOp .USub (.Constant (.int 1) k p1) p2)) p3) (.ref a) (.ref s4.heap.objs.size)) (EP X pins σ Q) X.xe { s4 with heap := s4.heap.push { cls := .type "slice", data := .fields #[vl, vu, vs] } }
  rcases hx with ⟨hx, q⟩ | ⟨hx, q⟩
  · obtain ⟨its, r, ht, hz⟩ := I5.list hx
    have hlen := r.length
    refine tail_any (ops := [.ref a, .ref s4.heap.objs.size]) ht.isList.typeIs (PySem.slot_list_getitem.lookup) ?_ (by with_unfolding_all rfl)
    refine wpAny_getItem_list_slice ht.isList (Heap.IsSliceOf.new _ vl vu vs) pl pu ps (by decide) ?_ (by rw [List.size_toArray]; omega)
    rw [PySem.W.krv_pick]
    refine ⟨.ref _, _, I5.laid (t' := s4.toks) (o := .lst xs.reverse) (fun b ob q => Heap.get?_push_of_some _ q) (Nat.le_refl _) ?_, rfl, q _ (I5.hok.fresh (Nat.le_refl _))⟩
    exact ⟨by rw [List.length_reverse]; exact hz, _, 0, r.reverse, Heap.get?_push_size _ rfl⟩
  · obtain ⟨its, r, ht, hz⟩ := I5.tuple hx
    have hlen := r.length
    refine tail_any (ops := [.ref a, .ref s4.heap.objs.size]) ht.typeIs (PyProof.Rows.slot_tuple_getitem.lookup) ?_ (by with_unfolding_all rfl)
    refine HT.getItem_tuple_rev ht (Heap.IsSliceOf.new _ vl vu vs) pl pu ps ?_ (by rw [List.size_toArray]; omega)
    refine ⟨.ref _, _, I5.laid (t' := s4.toks) (o := .tup xs.reverse) (fun b ob q => Heap.get?_push_of_some _ q) (Nat.le_refl _) ?_, rfl, q _ (I5.hok.fresh (Nat.le_refl _))⟩
    exact ⟨by rw [List.length_reverse]; exact hz, _, r.reverse, IsTup.new _ _⟩
theorem len_own {prog : Program} {w : World} {A : Around} {E : Value → Shared → Prop} {s : Shared} {K : PySem.W.Frag} {x C f : Addr} {ox : Obj} {odd : Option Obj} {Q : Value → Shared → Prop} (X : K.In s.heap) (I : PySem.W.InstAt s.heap x ox C odd) (hs : PySem.W.findIn K (.ref C) "__len__" = some (some (.ref f))) (hf : PySem.W.isFn K (.ref f) = true)
    (h : wpAny (model prog w) A.in1 (call (.ref f) [.ref x]) (fun r s₁ => ∃ (n : Nat) (u : Tok), r = Value.int n u ∧ n < 2 ^ 62 ∧ ∀ tk u, Q (.int n u) { s₁ with toks := tk }) E s) : wpAny (model prog w) A (call (.builtin "len") [.ref x]) Q E s := by
  refine Calls.call_function_entry kind_len plain_len entry_len (args_len1 _) ?_
  unfold Builtin.«len»
  refine wpAny_bind (m := oneArg "len" _) (wpAny_pure ?_)
  refine wpAny_bind (m := callSpecial? (.ref x) (Str.ofString "__len__")) (PySem.W.special_fn X I hs (beq_iff_eq.mp hf) (wpAny_mono h (fun r s' hr => ?_) fun _ _ y => y))
  obtain ⟨n, u, rfl, hn, hq⟩ := hr
  refine wpAny_bind (wpAny_holding (wpAny_pure ?_))
  refine wpAny_bind (wpAny_letGo ?_)
  show wpAny _ _ (if ((n : Nat) : Int) < 0 then _ else _) _ _ _
  rw [if_neg (by omega)]
  show wpAny _ _ (if ((n : Nat) : Int) ≥ 2 ^ 63 then _ else _) _ _ _
  rw [if_neg (by omega)]
  exact wpAny_bind (wpAny_mkInt (wpAny_pure ⟨_, rfl, hq _ _⟩))
end L2
namespace Z
open PySem PySem.Spec PyProof.Rows L2 He
/-! ### xs[::-1] -/
def revD (d : D) (S : Store) : Option (D × Store) := match d with
  | .tup ds => some (.tup ds.reverse, S)
  | .fls ds => some (.ref S.length, S ++ [.lst ds.reverse])
  | .ref i => (match S[i]? with
    | some (.lst ds) => some (.ref S.length, S ++ [.lst ds.reverse])
    | _ => none)
  | _ => none
def dRev (a : DE) : DE := fun env S => (a env S).bind fun x S1 => ofO (revD x S1)
theorem pex_rev {C : Cp} {a : Expr} {da : DE} {k : Nat} {p1 p2 p3 pos : Pos} (ha : PEx C a da) : PEx C (.Subscript a (.Slice none none (some (.UnaryOp .USub (.Constant (.int 1) k p1) p2)) p3) pos) (dRev da) := fun X W h => by
  refine pe_imp (pe_revT (ha X W h)) fun σ H Q ⟨φ, S, env, R, E, P⟩ => ⟨φ, S, env, R, E, P.bind.imp fun φ1 H1 S1 x n1 R1 P1 v1 r1 => ?_⟩
  have P2 := PstV.of P1
  cases x with
  | tup ds =>
    simp only [VRel] at r1
    obtain ⟨a, vs, rfl, sq, rs⟩ := r1
    exact ⟨a, vs, rfl, .inr ⟨by rw [h.K]; exact sq, fun p hp => PstV.tup P2 R1 rs.reverse hp⟩⟩
  | fls ds =>
    simp only [VRel] at r1
    obtain ⟨a, vs, rfl, sq, rs⟩ := r1
    exact ⟨a, vs, rfl, .inl ⟨by rw [h.K]; exact sq.sq, fun p hp => PstV.lst P2 R1 rs.reverse hp⟩⟩
  | ref i =>
    unfold revD at P2
    dsimp only at P2
    split at P2
    · rename_i ds e
      obtain ⟨a, vs, rfl, q, rs, ha⟩ := sq_lst R1 r1 e
      exact ⟨a, vs, rfl, .inl ⟨SqL.of q, fun p hp => PstV.lst P2 R1 rs.reverse hp⟩⟩
    · exact P2.elim
  | _ => exact P2.elim
/-! ### gcd -/
def ckBi (x : Str) (id : String) : Ck := fun K => match PySem.W.nsIn K mainGlobals x with
  | some (some (.builtin i)) => decide (i = id)
  | _ => false
theorem Hyp.bi {cs : List Ck} {fn : List Df} {cl : List Str} {tf : Tf} {pr : Program} {G : Glo} (h : Hyp cs fn cl tf pr G) (i : Nat) {x : Str} {id : String} (e : cs[i]? = some (ckBi x id)) : G.mg x = some (.builtin id) := by
  have c2 : (match PySem.W.nsIn G.K mainGlobals x with
    | some (some (.builtin j)) => decide (j = id)
    | _ => false) = true := h.ck i e
  split at c2
  · rename_i j q
    rw [of_decide_eq_true c2] at q
    exact h.mgns x _ q
  · cases c2
def fGcd : D → D → Store → Option (D × Store) := fun d e S => match d, e with
  | .int i, .int j => some (.int ((Nat.gcd i.natAbs j.natAbs : Nat) : Int), S)
  | _, _ => none
theorem cx_gcd {C : Cp} : CallRx C (.builtin "math.gcd") (b2 fGcd) := CallRx.imp (fun _ => _) (fun _ _ _ => cr_gcd) fun X W hx φ S H ds vs Q R r P => by
  obtain ⟨d, e, v, w, rfl, r1, r2, P⟩ := b2_some P r
  unfold fGcd at P
  split at P
  · simp only [VRel] at r1 r2
    subst r1 r2
    exact ⟨_, _, rfl, P.now R (by simp only [VRel])⟩
  · exact P.elim
theorem pex_bm2 {C : Cp} {x : Str} {p pos : Pos} {id : String} {f : Bf} {e : Expr} {es : List Expr} {dr : DA} (hc : CallRx C (.builtin id) f) (hg : okG C x = true) (hm : C.G.mg x = some (.builtin id)) (ha : PAx C (e :: es) dr)
    (hs : ∀ env, starEach (e :: es) env = (false, eval e env) :: starEach es env := by intro _; rfl) (hp : ∀ env, (backTo pos (starEach es env)).any (·.1) = false := by intro _; rfl) : PEx C (.Call (.Name x p) (e :: es) [] pos) (dCallB f dr) := fun X W h => by
  obtain ⟨h1, h2⟩ := ba hg
  exact pe_imp (pe_callBfun (hc X W h) (glB_ok h1 h) (by rw [h.mg]; exact hm) (ha X W h) (nb h2) (hs X.env) (hp X.env)) fun _ _ _ => rd_callB
/-! ### a range that goes down -/
def jD (lo : Int) (n : Nat) : Itd := fun k _ => some (if k < n then some (.int (lo + (k : Int) * -1)) else none)
theorem it_rngD {G : Glo} {φ0 : List Addr} {H0 : Hp} {lo : Int} {n : Nat} : ItRel G φ0 H0 (jD lo n) (Itc lo (-1) n) := by
  refine ⟨fun k φ S H nx R e => ?_, fun k φ S H d nx R e => ?_⟩
  · have e' : (if k < n then some (D.int (lo + (k : Int) * -1)) else none) = none := Option.some.inj e
    show n ≤ k
    by_cases h : k < n
    · rw [if_pos h] at e'; cases e'
    · omega
  · have e' : (if k < n then some (D.int (lo + (k : Int) * -1)) else none) = some d := Option.some.inj e
    by_cases h : k < n
    · rw [if_pos h] at e'
      cases e'
      refine ⟨h, fun x H' y => ?_⟩
      obtain ⟨rfl, rfl⟩ := y
      exact ⟨Nxt.refl _ _, R, by simp only [VRel]⟩
    · rw [if_neg h] at e'; cases e'
def iRngD (r : DA) : DI := fun env S => (r env S).bind fun xs S1 => match xs with
  | [.int i, .int j, .int c] => if c = -1 ∧ -(2 ^ 62) ≤ i ∧ i < 2 ^ 62 ∧ -(2 ^ 62) ≤ j ∧ j < 2 ^ 62 then .ok (jD i (i - j).toNat) S1 else .bad
  | _ => .bad
theorem pix_rangeD {C : Cp} {tg a b c : Expr} {dr : DA} {p pos : Pos} (hg : glB C "range" = true) (hm : C.G.mg "range" = none) (ha : PAx C [a, b, c] dr) (hs : ∀ env, starEach [a, b, c] env = (false, eval a env) :: starEach [b, c] env := by intro _; rfl) (hpl : ∀ env, (backTo pos (starEach [b, c] env)).any (·.1) = false := by intro _; rfl) : PIx C tg (.Call (.Name "range" p) [a, b, c] [] pos) (iRngD dr) := fun X W h => by
  refine pi_imp (pi_range3 (glB_ok hg h) (by rw [h.mg]; exact hm) (ha X W h) (hs X.env) (hpl X.env)) fun σ H Rr ⟨φ, S, env, R, E, P⟩ => ?_
  refine ⟨φ, S, env, R, E, P.bind.imp fun φ1 H1 S1 xs n1 R1 P1 vs rs => ?_⟩
  split at P1
  · rename_i i j k
    simp only [VRels, VRel] at rs
    obtain ⟨u, us, rfl, rfl, u2, us2, rfl, rfl, u3, us3, rfl, rfl, rfl⟩ := rs
    split at P1
    · rename_i hb
      obtain ⟨rfl, h1, h2, h3, h4⟩ := hb
      exact ⟨i, j, -1, _, rfl, RgC.neg h1 h2 h3 h4, Pst.now P1 R1 _ it_rngD⟩
    · exact P1.elim
  · exact P1.elim
/-! ### len -/
structure LenOf (G : Glo) (k c : Nat) (F : Fn) : Prop where
  ex : ∃ g, PySem.W.findIn G.K (.ref (G.ad c)) "__len__" = some (some (.ref g)) ∧ PySem.W.isFn G.K (.ref g) = true ∧ FnA G k g 1 F
def bLenC (c : Nat) (F : Fn) : Bf := fun ds S => match ds with
  | [d] => if isC c d S = true then (match F [d] S with
    | .ok (.int i) S' => if 0 ≤ i ∧ i < 2 ^ 62 then some (.int i, S') else none
    | _ => none) else none
  | _ => none
theorem cx_lenC {C : Cp} {k c : Nat} {F : Fn} (h : LenOf C.G k c F) (hk : Nat.ble (k + 1) C.k = true) : CallRx C (.builtin "len") (bLenC c F) := fun X W hx pins s σ H vs us Q I rx ⟨φ, S, ds, R, r, P⟩ => by
  unfold bLenC at P
  split at P
  · rename_i d
    obtain ⟨v, rfl, r1⟩ := rels1 r
    split at P
    · rename_i hc
      split at P
      · rename_i n S' eF
        split at P
        · rename_i hn
          obtain ⟨u, rfl, ru⟩ := rx.one
          obtain ⟨i, ws0, rfl, e1⟩ := isC_ok hc
          obtain ⟨ad, had, dx, ws, hs, _, _⟩ := R.get e1
          have r1' := r1
          simp only [VRel] at r1
          obtain ⟨ad', rfl, had'⟩ := r1
          rw [had] at had'; cases had'
          cases (show u = Value.ref ad from ru)
          obtain ⟨sl, od, _, J, _⟩ := SlX.slt_inst I hs
          obtain ⟨g, h1, h2, hF⟩ := h.ex
          have hr : Room (k + 1) X.A := hx.room.mono (Nat.le_of_ble_eq_true hk)
          have F' : FnR X.prog X.w X.K X.mg X.base (L2.CX X.prog X.w) k g (spD C.G 1 F) := by rw [hx.prog, hx.w, hx.K, hx.mg, hx.base]; exact hF
          refine len_own I.kIn J (by rw [hx.K]; exact h1) (by rw [hx.K]; exact h2) (wpAny_mono (wpAny_call (SlX.run_at (us := [.ref ad]) (ws := [.ref ad]) (Q := fun z H' => z = .int n ∧ Q (.int n) H') (E := fun _ _ _ => False) F' hr.in1 I.env0.in1 cx_no I (.cons rfl .nil) ⟨φ, S, _, R, VRels.cons r1' VRels.nil, rfl, by
            rw [eF]
            intro φ' H' n' R' v' rv
            refine ⟨by simpa only [VRel] using rv, P φ' H' n' R' _ (by simp only [VRel])⟩⟩)) (fun w s' z => ?_) fun _ _ x => x)
          obtain ⟨z', H', I', rz, rfl, qz⟩ := z
          obtain ⟨t, rfl⟩ := (show ∃ t, w = Value.int n t from rz)
          obtain ⟨m, rfl⟩ := Int.eq_ofNat_of_zero_le hn.1
          exact ⟨m, t, rfl, by omega, fun tk u => ⟨.int (m : Int), H', I'.tok tk, ⟨u, rfl⟩, qz⟩⟩
        · exact P.elim
      · exact P.elim
    · exact P.elim
  · exact P.elim
theorem Hyp.lenOf {cs : List Ck} {fn : List Df} {cl : List Str} {tf : Tf} {pr : Program} {G : Glo} {c k : Nat} {F : Fn} {x : Str} (h : Hyp cs fn cl tf pr G) (j : Nat) (hc0 : cl[c]? = some x) (e2 : cs[j]? = some (ckFa (.meth x "__len__"))) (hF : FnA G k (ma G.K (ga G.K x) "__len__") 1 F) : LenOf G k c F := by
  have hm := meth_ok (h.ck j e2)
  rw [← h.cls c x hc0] at hm
  exact ⟨_, hm.at_, hm.fn, by rw [h.cls c x hc0]; exact hF⟩
/-! ### str of a text -/
def fStrS : D → Store → Option (D × Store) := fun d S => match d with
  | .str x => some (.str x, S)
  | _ => none
theorem cx_strS {C : Cp} : CallRx C (.type "str") (b1 fStrS) := CallRx.imp (fun _ => _) (fun _ _ _ => SkE.call_str_str) fun X W hx φ S H ds vs Q R r P => by
  obtain ⟨d, v, rfl, rv, P⟩ := b1_some P r
  unfold fStrS at P
  split at P
  · simp only [VRel] at rv; subst rv
    exact ⟨_, rfl, P.now R (by simp only [VRel])⟩
  · exact P.elim
end Z

/-! Z20: lists of instances compared by `!=`; list.count; a module's constant tuple. -/
namespace ZL
open PySem PySem.SeqAt
open AutoSeq1 (wpAny_loadPart')
open MeetsSeq MeetsSeq2 MeetsSeq3 SeqRoads2
section
variable {prog : Program} {w : World} {A : Around} {R : Result → Shared → Prop}
/-- the loop of `!=`: all items are equal -/
theorem go (p q : Addr) (N : Nat) (J : Nat → Shared → Prop) (hJ : GQ.ListI prog w A (fun e s' => R (.error e) s') p q N J) (stop : ∀ s, J N s → R (.ok (.ret (.bool false))) s) :
    ∀ (r k : Nat), k + r = N → ∀ s, J k s → wpAny (model prog w) A.in1 (Builtin.«list.__eq__.loop» ⟨[.ref p, .ref q, rawInt k, rawInt 3], []⟩) (GQ.FinOf prog w A R) (fun e s' => R (.error e) s') s := by
  intro r
  induction r with
  | zero =>
    intro k hk s hs
    obtain ⟨xs, ys, m, m', gp, gq, lx, ly, _⟩ := hJ _ _ hs
    obtain rfl : k = N := by omega
    have out := stop s hs
    obtain ⟨hp, g, d, tk, os⟩ := s
    wp_walk using wpAny_loadPart' gp, wpAny_loadPart' gq
    rw [show xs[((k : Nat) : Int).toNat]? = none by simp; omega, show ys[((k : Nat) : Int).toNat]? = none by simp; omega]
    wp_walk using wpAny_loadPart' gp, wpAny_loadPart' gq
    show R (.ok (.ret (.bool (xs.size != ys.size)))) _
    rw [lx, ly]
    simpa using out
  | succ r ih =>
    intro k hk s hs
    obtain ⟨xs, ys, m, m', gp, gq, lx, ly, step⟩ := hJ _ _ hs
    have kx : k < xs.size := by omega
    have ky : k < ys.size := by omega
    have now := step kx ky
    obtain ⟨hp, g, d, tk, os⟩ := s
    wp_walk using wpAny_loadPart' gp, wpAny_loadPart' gq
    rw [show xs[((k : Nat) : Int).toNat]? = some xs[k] by simp [kx], show ys[((k : Nat) : Int).toNat]? = some ys[k] by simp [ky]]
    refine wpAny_bind (wpAny_mono now (fun t s2 z => ?_) fun _ _ x => x)
    obtain ⟨rfl, z⟩ := z
    have more := ih (k + 1) (by omega) s2 z
    obtain ⟨hp2, g2, d2, tk2, os2⟩ := s2
    wp_walk
    rw [show ((k : Int) + 1) = ((k + 1 : Nat) : Int) by omega]
    refine ⟨plainId_quiet plain_eq_loop _, codeAny_builtin entry_eq_loop ?_⟩
    rw [Around.under_plainId plain_eq_loop _]
    exact more
theorem ne (p q : Addr) (N : Nat) (J : Nat → Shared → Prop) (hJ : GQ.ListI prog w A (fun e s' => R (.error e) s') p q N J) (stop : ∀ s, J N s → R (.ok (.ret (.bool false))) s) {s : Shared} (hs : J 0 s) :
    wpAny (model prog w) A.in1 (Builtin.«list.__ne__» ⟨[.ref p, .ref q], []⟩) (GQ.FinOf prog w A R) (fun e s' => R (.error e) s') s := by
  obtain ⟨xs, ys, m, m', gp, gq, lx, ly, _⟩ := hJ _ _ hs
  have more := go (A := A) (R := R) p q N J hJ stop N 0 (by omega) s hs
  obtain ⟨hp, g, d, tk, os⟩ := s
  have sub := AutoSeq1.sub_list_list
  have same : ¬ (xs.size != ys.size) = true := by simp [lx, ly]
  wp_walk using wpAny_loadPart' gp, wpAny_loadPart' gq
  refine ⟨plainId_quiet plain_eq_loop _, codeAny_builtin entry_eq_loop ?_⟩
  rw [Around.under_plainId plain_eq_loop _]
  exact more
end
section
variable {prog : Program} {w : World} {A : Around} {E : Value → Shared → Prop} {s : Shared}
theorem rc_ne {p q : Addr} {N : Nat} {Q : Value → Shared → Prop} (hu : A.units < cLine) (J : Nat → Shared → Prop) (hJ : GQ.ListI prog w A E p q N J) (stop : ∀ s, J N s → Q (.bool false) s) (hs : J 0 s) :
    wpAny (model prog w) A (richCompare .NotEq (.ref p) (.ref q)) Q E s := by
  obtain ⟨xs, ys, m, m', gp, gq, _, _, _⟩ := hJ _ _ hs
  refine wpAny_richCompare_same_room (op := .NotEq) ⟨_, gp, rfl⟩ ⟨_, gq, rfl⟩ F.slot_list_ne (GQ.call_here F.slot_list_ne ⟨_, gp, rfl⟩ F.entry_list_ne (F.args_list_ne_2 _ _) ?_) hu
  exact ne (R := wants (fun v s' => v ≠ .notImplemented ∧ Q v s') E) p q N J hJ (fun s' z => ⟨(fun x => nomatch x), stop s' z⟩) hs
end
end ZL
namespace Z
open PySem PySem.Spec PyProof.Rows L2 He
/-! ### two lists of instances, all equal by the class's own def -/
def ownGo (c : Nat) (F : Fn) (i j N : Nat) : Nat → Store → Option Store
  | 0, S => match S[i]?, S[j]? with
    | some (.lst xs), some (.lst ys) => if xs.length = N ∧ ys.length = N then some S else none
    | _, _ => none
  | m + 1, S => match S[i]?, S[j]? with
    | some (.lst xs), some (.lst ys) => if xs.length = N ∧ ys.length = N then (match xs[N - (m + 1)]?, ys[N - (m + 1)]? with
      | some (.ref a), some (.ref b) => if a = b then ownGo c F i j N m S else if (isC c (.ref a) S && isC c (.ref b) S) = true then (match F [.ref a, .ref b] S with
        | .ok (.bl true) S' => ownGo c F i j N m S'
        | _ => none) else none
      | _, _ => none) else none
    | _, _ => none
def oOwnLN (c : Nat) (F : Fn) : Op2 := fun d e S => match d, e with
  | .ref i, .ref j => (match S[i]? with
    | some (.lst xs) => (ownGo c F i j xs.length xs.length S).map fun S' => (.bl false, S')
    | _ => none)
  | _, _ => none
theorem ownGo_at {c : Nat} {F : Fn} {i j N m : Nat} {S Sf : Store} (h : ownGo c F i j N m S = some Sf) : ∃ xs ys, S[i]? = some (.lst xs) ∧ S[j]? = some (.lst ys) ∧ xs.length = N ∧ ys.length = N := by
  cases m with
  | zero =>
    unfold ownGo at h
    split at h
    · rename_i xs ys e1 e2
      split at h
      · rename_i e
        exact ⟨xs, ys, e1, e2, e.1, e.2⟩
      · cases h
    · cases h
  | succ m =>
    unfold ownGo at h
    split at h
    · rename_i xs ys e1 e2
      split at h
      · rename_i e
        exact ⟨xs, ys, e1, e2, e.1, e.2⟩
      · cases h
    · cases h
theorem ownGo_step {c : Nat} {F : Fn} {i j N m : Nat} {S Sf : Store} {xs ys : List D} (h : ownGo c F i j N (m + 1) S = some Sf) (e1 : S[i]? = some (.lst xs)) (e2 : S[j]? = some (.lst ys)) :
    ∃ a b, xs[N - (m + 1)]? = some (.ref a) ∧ ys[N - (m + 1)]? = some (.ref b) ∧ ((a = b ∧ ownGo c F i j N m S = some Sf) ∨ (a ≠ b ∧ isC c (.ref a) S = true ∧ isC c (.ref b) S = true ∧ ∃ S', F [.ref a, .ref b] S = .ok (.bl true) S' ∧ ownGo c F i j N m S' = some Sf)) := by
  unfold ownGo at h
  rw [e1, e2] at h
  dsimp only at h
  split at h
  · split at h
    · rename_i a b h1 h2
      refine ⟨a, b, h1, h2, ?_⟩
      split at h
      · rename_i hab
        exact .inl ⟨hab, h⟩
      · rename_i hab
        split at h
        · rename_i hc
          obtain ⟨c1, c2⟩ := ba hc
          split at h
          · rename_i S' eF
            exact .inr ⟨hab, c1, c2, S', eF, h⟩
          · cases h
        · cases h
    · cases h
  · cases h
theorem opx_ownLN {C : Cp} {k c : Nat} {F : Fn} (h : EqIs C.G k c F) (hk : Nat.ble (k + 1) C.k = true) : OpRx C (compareOp .NotEq) (oOwnLN c F) := fun X W hx pins s σ H x y v u Q I rx ry ⟨φ, S, d, e, R, r1, r2, P⟩ => by
  unfold oOwnLN at P
  split at P
  · rename_i i j
    split at P
    · rename_i xs0 e0
      cases q : ownGo c F i j xs0.length xs0.length S with
      | none => rw [q] at P; exact P.elim
      | some Sf =>
        rw [q] at P
        have P' : ∀ φ' H', Nxt φ φ' H H' → Rel C.G φ' Sf H' → ∀ v, VRel C.G φ' H' (.bl false) v → Q v H' := P
        have hr : Room (k + 1) X.A := hx.room.mono (Nat.le_of_ble_eq_true hk)
        obtain ⟨g, hs, hf, hF⟩ := h.ex
        have F' : FnR X.prog X.w X.K X.mg X.base (L2.CX X.prog X.w) k g (spD C.G 2 F) := by rw [hx.prog, hx.w, hx.K, hx.mg, hx.base]; exact hF
        simp only [VRel] at r1 r2
        obtain ⟨a, rfl, ha⟩ := r1
        obtain ⟨b, rfl, hb⟩ := r2
        cases (show v = Value.ref a from rx)
        cases (show u = Value.ref b from ry)
        show wpAny _ _ (richCompare .NotEq _ _) _ _ _
        refine ZL.rc_ne (N := xs0.length) hr.units0 (fun t s' => ∃ φ1 H1 S1, Inv X pins σ H1 s' ∧ Rel C.G φ1 S1 H1 ∧ Nxt φ φ1 H H1 ∧ ∃ m, t + m = xs0.length ∧ ownGo c F i j xs0.length m S1 = some Sf) (fun t s' z => ?_) (fun s' z => ?_) ⟨φ, H, S, I, R, Nxt.refl φ H, xs0.length, by omega, q⟩
        · obtain ⟨φ1, H1, S1, I1, R1, n1, m, hm, hgo⟩ := z
          obtain ⟨xs, ys, e1, e2, l1, l2⟩ := ownGo_at hgo
          have hx1 := R1.at_ i a _ (n1.at_ ha) e1
          have hy1 := R1.at_ j b _ (n1.at_ hb) e2
          obtain ⟨vs, hH, rs⟩ := hx1
          obtain ⟨ws, hH2, rs2⟩ := hy1
          obtain ⟨_, its, n, rv, ho⟩ := I1.hok a _ hH
          obtain ⟨_, its2, n2, rv2, ho2⟩ := I1.hok b _ hH2
          have lx : its.length = xs0.length := by rw [← rv.length, ← rs.length, l1]
          have ly : its2.length = xs0.length := by rw [← rv2.length, ← rs2.length, l2]
          refine ⟨its.toArray, its2.toArray, n, n2, ho, ho2, by rw [List.size_toArray, lx], by rw [List.size_toArray, ly], fun k1 k2 => ?_⟩
          have k1' : t < its.length := by simpa using k1
          have k2' : t < its2.length := by simpa using k2
          obtain ⟨m', rfl⟩ : ∃ m', m = m' + 1 := ⟨m - 1, by omega⟩
          obtain ⟨p, r, hp, hr', way⟩ := ownGo_step hgo e1 e2
          have et : xs0.length - (m' + 1) = t := by omega
          rw [et] at hp hr'
          obtain ⟨v1, hv1, rel1⟩ := rs.get hp
          obtain ⟨v2, hv2, rel2⟩ := rs2.get hr'
          obtain ⟨u1, hu1, ru1⟩ := rv.get hv1
          obtain ⟨u2, hu2, ru2⟩ := rv2.get hv2
          have i1 : its.toArray[t] = u1 := by
            rw [List.getElem?_eq_getElem k1'] at hu1
            simpa using Option.some.inj hu1
          have i2 : its2.toArray[t] = u2 := by
            rw [List.getElem?_eq_getElem k2'] at hu2
            simpa using Option.some.inj hu2
          rw [i1, i2]
          simp only [VRel] at rel1 rel2
          obtain ⟨ap, rfl, hap⟩ := rel1
          obtain ⟨br, rfl, hbr⟩ := rel2
          cases (show u1 = Value.ref ap from ru1)
          cases (show u2 = Value.ref br from ru2)
          rcases way with ⟨hpr, more⟩ | ⟨hpr, c1, c2, S2, eF, more⟩
          · subst hpr
            rw [hap] at hbr
            cases hbr
            exact SeqAt.EqAt.same (A := X.A.in1) (s := s') (.ref ap) X.prog X.w X.xe _ ⟨rfl, φ1, H1, S1, I1, R1, n1, m', by omega, more⟩
          · have nab : ap ≠ br := fun z => hpr (by
              subst z
              have b1 := (List.getElem?_eq_some_iff.mp hap)
              have b2 := (List.getElem?_eq_some_iff.mp hbr)
              obtain ⟨w1, z1⟩ := b1
              obtain ⟨w2, z2⟩ := b2
              rcases Nat.lt_trichotomy p r with z | z | z
              · exact absurd (z1.trans z2.symm) (List.pairwise_iff_getElem.mp R1.nd p r w1 w2 z)
              · exact z
              · exact absurd (z2.trans z1.symm) (List.pairwise_iff_getElem.mp R1.nd r p w2 w1 z))
            obtain ⟨_, ox, od, tb, ea, ev, J, hbk, hn⟩ := own_facts (d := .ref p) (e := .ref r) (x := .ref ap) (y := .ref br) hx.K h I1 R1 (by simp only [VRel]; exact ⟨ap, rfl, hap⟩) (by simp only [VRel]; exact ⟨br, rfl, hbr⟩) rfl rfl (by unfold okEq; rw [c1, c2]; rfl)
            cases ea
            obtain ⟨mm, hFr⟩ := I1.fr
            refine GQ.eqBool_refG nab ?_
            refine PySem.W.cmp_K (op := .Eq) hr.in1.units0 hFr I1.ok.mod.kin J hbk hn (by rw [hx.K]; exact hs) (by rw [hx.K]; exact hf) ?_
            refine wpAny_mono (wpAny_call (SlX.run_at (us := [.ref ap, .ref br]) (ws := [.ref ap, .ref br]) (Q := fun z H' => z = .bl true ∧ ∃ φ', Nxt φ1 φ' H1 H' ∧ Rel C.G φ' S2 H') (E := fun _ _ _ => False) F' hr.in1 I1.env0.in1 cx_no I1 (.cons rfl (.cons rfl .nil)) ⟨φ1, S1, [.ref p, .ref r], R1, VRels.cons (by simp only [VRel]; exact ⟨ap, rfl, hap⟩) (VRels.cons (by simp only [VRel]; exact ⟨br, rfl, hbr⟩) VRels.nil), rfl, by
              rw [eF]
              intro φ' H' n' R' v' rv'
              exact ⟨by simpa only [VRel] using rv', φ', n', R'⟩⟩)) (fun w s2 z => ?_) fun _ _ x => x
            obtain ⟨z', H', I', rz, rfl, φ', n', R'⟩ := z
            cases (show w = Value.bool true from rz)
            refine SlX.cmpback (z := .bl true) rfl ?_
            exact ⟨true, rfl, rfl, φ', H', S2, I', R', n1.trans n', m', by omega, more⟩
        · obtain ⟨φ1, H1, S1, I1, R1, n1, m, hm, hgo⟩ := z
          obtain rfl : m = 0 := by omega
          obtain ⟨xs, ys, e1, e2, l1, l2⟩ := ownGo_at hgo
          have eS : S1 = Sf := by
            unfold ownGo at hgo
            rw [e1, e2] at hgo
            dsimp only at hgo
            rw [if_pos ⟨l1, l2⟩] at hgo
            exact Option.some.inj hgo
          subst eS
          exact ⟨.bl false, H1, I1, rfl, P' φ1 H1 n1 R1 _ (by simp only [VRel])⟩
    · exact P.elim
  · exact P.elim

/-! ### list.count of ints -/
def mCount : Mf := fun d xs S => match xs with
  | [.int k] => onL d S fun _ ds => (intsOf ds).map fun ns => (.int (ns.count k : Nat), S)
  | _ => none
theorem mtx_count {C : Cp} : MtRx C "list.count" mCount := fun X W hx pins s σ H x vs v us Q I r1 r2 ⟨φ, S, d, ds, R, q1, q2, P⟩ => by
  unfold mCount at P
  split at P
  · rename_i k
    obtain ⟨i, es, rfl, e, P⟩ := onL_some P
    obtain ⟨p, ws, rfl, q, rs, hp⟩ := sq_lst R q1 e
    obtain ⟨w, rfl, rw'⟩ := rels1 q2
    simp only [VRel] at rw'
    subst rw'
    cases ei : intsOf es with
    | none => rw [ei] at P; exact P.elim
    | some ns =>
      rw [ei] at P
      have e0 : ws = ns.map V.int := by
        rw [intsOf_eq ei] at rs
        exact rel_ints rs
      subst e0
      exact mt_lcount pins s σ H _ _ v us Q I r1 r2 ⟨p, ns, k, rfl, rfl, .inl (.inl q), P φ H (Nxt.refl φ H) R _ (by simp only [VRel])⟩
  · exact P.elim
/-! ### a constant tuple of ints -/
def ckTup (x : Str) (ns : List Int) : Ck := fun K => match PySem.W.nsIn K mainGlobals x with
  | some (some (.ref a)) => (match K.lookup a with
    | some ⟨.type "tuple", none, .seq its _, _⟩ => relAll (ns.map V.int) its.toList
    | _ => false)
  | _ => false
theorem ckTup_ok {K : PySem.W.Frag} {x : Str} {ns : List Int} (hl : ns.length ≤ 1000) (h : ckTup x ns K = true) : ∃ a, PySem.W.nsIn K mainGlobals x = some (some (.ref a)) ∧ ∀ H, SqT K H a (ns.map V.int) := by
  unfold ckTup at h
  split at h
  · rename_i a e
    split at h
    · rename_i its n sl el
      have r := relAll_ok h
      refine ⟨a, e, fun H => .inr ⟨_, its, n, el, rfl, rfl, ?_, r⟩⟩
      have := r.length
      rw [List.length_map] at this
      rw [← Array.length_toList, ← this, sizeLine_eq]
      omega
    · cases h
  · cases h
theorem Hyp.tup {cs : List Ck} {fn : List Df} {cl : List Str} {tf : Tf} {pr : Program} {G : Glo} (h : Hyp cs fn cl tf pr G) (i : Nat) {x : Str} {ns : List Int} (e : cs[i]? = some (ckTup x ns)) (hl : ns.length ≤ 1000) : ∃ a, G.mg x = some (.ref a) ∧ ∀ H, SqT G.K H a (ns.map V.int) := by
  obtain ⟨a, e1, e2⟩ := ckTup_ok hl (h.ck i e)
  exact ⟨a, h.mgns x _ e1, e2⟩
theorem pex_gt {C : Cp} {x : Str} {ns : List Int} {pos : Pos} (hg : okG C x = true) (hm : ∃ a, C.G.mg x = some (.ref a) ∧ ∀ H, SqT C.G.K H a (ns.map V.int)) : PEx C (.Name x pos) (dC (.tup (ns.map D.int))) := by
  obtain ⟨h1, h2⟩ := ba hg
  obtain ⟨a, e, s⟩ := hm
  exact pex_glob (v := .ref a) h1 e rfl (fun φ H => by simp only [VRel]; exact ⟨a, ns.map V.int, rfl, s H, ints_rel ns⟩) (nb h2)
end Z

/-! Z21: next((a for a, b in enumerate(xs) if b != 0), None); tables of code objects in the store's relation. -/
namespace GeX
open PySem PySem.Spec PyProof.Rows L2
section
variable {prog : Program} {w : World} {A : Around} {E : Value → Shared → Prop} {s : Shared}
theorem args_next2 (a b : Value) : argsOk "next" ⟨[a, b], []⟩ := by unfold argsOk; kernel_rfl
/-- next(it, d) over an iterator that walks -/
theorem call_next2 {g : Addr} {gn : Nat} {fp wr : List Addr} {G : Array GenState → Array GenState → Prop} {n : Nat} {F : Nat → Value → Prop} {St : Nat → Shared → Prop} {d : Value} {Q : Value → Shared → Prop}
    (hg : s.heap.IsGen g gn) (W : WalksS prog w A.in1 g fp wr G n F St) (hst : St 0 s)
    (h0 : n = 0 → ∀ s', Moved wr G s s' → Q d s') (h1 : 0 < n → ∀ v s', F 0 v → Moved wr G s s' → Q v s') : wpAny (model prog w) A (call (.builtin "next") [.ref g, d]) Q E s := by
  refine Calls.call_function_entry (by decide +kernel) (by decide +kernel) PySem.W.kdk_entry_next (args_next2 _ _) ?_
  unfold Builtin.«next»
  refine wpAny_bind (m := someArgs "next" 1 2 _) (wpAny_of_eq (a := [Value.ref g, d]) (by first | rfl | kernel_rfl!) ?_)
  dsimp only
  refine wpAny_bind (wpAny_specialOf (name := Str.ofString "__next__") hg.typeIs slot_gen_next.lookup ?_)
  refine wpAny_ite_split (fun hab => absurd hab (by decide)) (fun _ => ?_)
  refine wpAny_bind ?_
  by_cases hn : n = 0
  · subst hn
    exact W.done s _ _ hst fun s' hm => wpAny_pure ⟨_, rfl, h0 rfl s' hm⟩
  · exact W.item 0 s _ _ (by omega) hst fun v s' hF _ hm => wpAny_pure ⟨_, rfl, h1 (by omega) v s' hF hm⟩
end

/-- the generator expression's own scope -/
structure GenS2 (env : Env) (scope : Scope) (xa xb : Str) : Prop where
  kind : scope.kind = .function
  co : scope.isCoroutine = false
  cell : ∀ y ∈ scope.names, y.2 ≠ .cell
  dot : scope.names.lookup (".0" : Str) = some NameKind.local
  la : scope.names.lookup xa = some .local
  lb : scope.names.lookup xb = some .local
  free : ∀ y ∈ scope.names, y.2 = .free → ∃ c, env.cells.lookup y.1 = some c
/-- the first place with something -/
def nz (ns : List Int) (i : Nat) : Bool := match ns[i]? with
  | some n => n != 0
  | none => false
theorem testsNZ {prog : Program} {w : World} {A : Around} {E : Value → Shared → Prop} {s : Shared} {env : Env} {m : Str → Option Value} {xb : Str} {n : Int} {t : Tok} {j : Nat} {p1 p2 p3 : Pos} (hk : env.scope.kind = .function) (hl : env.scope.names.lookup xb = some .local)
    (hn : s.heap.Ns env.locals m) (hm : m xb = some (.int n t)) (hd : (xb == ("__debug__" : Str)) = false) :
    wpAny (model prog w) A (forIn [Expr.Compare (.Name xb p1) [.NotEq] [.Constant (.int 0) j p2] p3] true fun c r => if r = true then do let ok ← isTrue c env (eval c env); pure (ForInStep.yield ok) else pure (ForInStep.yield r)) (fun ok s₃ => ok = (n != 0) ∧ Keeps s s₃) E s := by
  refine wpAny_tests_one ?_
  refine wpAny_isTrue_Compare1 (wpAny_Name (wpAny_loadName_local hk hl hn hm ?_) hd)
  refine wpAny_Constant_int ?_
  refine PySem.P.ne_int ?_
  refine wpAny_truthy_bool ?_
  exact ⟨rfl, GxR.keeps_tok _ _⟩
variable {X : Cx} {pins : List (Addr × Obj)} {σ : L2.St} {H : Hp} {s : Shared}
/-- the generator ready to be walked -/
def Ready2 (X : Cx) (pins : List (Addr × Obj)) (σ : L2.St) (H1 : Hp) (T : List (Addr × Str)) (ns : List Int) (g : Addr) (s5 : Shared) : Prop :=
  ∃ (gn : Nat) (fp wr : List Addr) (G : Array GenState → Array GenState → Prop) (F : Nat → Value → Prop) (St : Nat → Shared → Prop),
    s5.heap.IsGen g gn ∧ WalksS X.prog X.w X.A.in1 g fp wr G (passing (nz ns) ns.length 0).length (fun j y => ∃ i, (passing (nz ns) ns.length 0)[j]? = some i ∧ F i y) St ∧ St 0 s5 ∧
    (∀ i y, F i y → ∃ t, y = .int i t) ∧
    ∀ s', Moved wr G s5 s' → ∃ H2, LamX.ExtN H1 H2 ∧ LamX.Tabs T H2 ∧ Inv X pins σ H2 s'

theorem inv_ch {ch : List Addr} {h' : Heap} {g' : Array GenState} {d' : Drawn} {t' : Nat} (I : Inv X pins σ H s) (hf : ∀ b ∈ ch, FpOk X pins H b) (k : ∀ b o, b ∉ ch → s.heap.get? b = some o → h'.get? b = some o) (hg : AllBare g') :
    Inv X pins σ H { s with heap := h', gens := g', drawn := d', toks := t' } := by
  have nit : ∀ b u, H b = some u → b ∉ ch := fun b u e z => by rw [(hf b z).1] at e; cases e
  refine I.step (g' := g') (d' := d') (ch := ch) (fun b hb => ?_) (fun b o _ _ hc e _ => k b o hc e) (fun b o _ _ hc e _ => ⟨o.slots, k b o hc e⟩) (fun _ _ _ _ n => n)
    (fun b o hc e => ⟨o, k b o hc e⟩) (fun _ _ e => e) (fun _ _ _ e => e) (fun b ps e => ⟨#[], by rw [e]; simp⟩) (fun m hm => ?_) (fun b u e => ?_) hg
  · obtain ⟨_, f1, _, f3, f4, f5⟩ := hf b hb
    exact ⟨f3, f1, f4, f5⟩
  · obtain ⟨o, es, ep, ho, r⟩ := hm
    exact ⟨o, es, ep, k _ o (fun z => (hf _ z).2.1 rfl) ho, r⟩
  · refine (I.hok b u e).stay (fun c v hc q => k c v ?_ q) (fun _ q => q) fun _ _ q => q
    rcases hc with z | z
    · rw [z]; exact nit b u e
    · exact nit c _ z
theorem gen_enum {c P : Addr} {e : Expr} {xa xb : Str} {pa pb pt p1 p2 p3 p4 pc pe' gpos : Pos} {kt j : Nat} {scope : Scope} {te : TA} {k : Nat} {T : List (Addr × Str)} {Q' : Value → Shared → Prop} {R : List Int → Hp → Prop}
    (hr : Room k X.A) (TB : LamX.TabB X.base X.mg c P) (hcode : X.env.code = .ref c) (hmT : (P, X.env.qual ++ "<genexpr>") ∈ T) (hu : ∀ p ∈ T, p.1 = P → p.2 = X.env.qual ++ "<genexpr>") (S : GenS2 X.env scope xa xb) (hab : xa ≠ xb)
    (hda : (xa == ("__debug__" : Str)) = false) (hdb : (xb == ("__debug__" : Str)) = false) (hg : Gl X "enumerate") (hm : X.mg "enumerate" = none) (hi : PA X [e] te)
    (hs : ∀ v, genFold (.Call (.Name "enumerate" pe') [e] [] pc) X.env v = pure v) (hst : starEach [e] X.env = [(false, eval e X.env)]) (I : Inv X pins σ H s)
    (h : te σ H fun vs H1 => ∃ (t : Bool) (a : Addr) (ns : List Int), vs = [.ref a] ∧ Z.SqB X.K H1 t a (ns.map V.int) ∧ LamX.Tabs T H1 ∧ R ns H1)
    (hQ : ∀ ns H1 g s5, R ns H1 → Ready2 X pins σ H1 T ns g s5 → Q' (.ref g) s5) :
    wpAny (model X.prog X.w) X.A (eval (.GeneratorExp (.Name xa p1) [⟨.Tuple [.Name xa pa, .Name xb pb] kt pt, .Call (.Name "enumerate" pe') [e] [] pc, [.Compare (.Name xb p2) [.NotEq] [.Constant (.int 0) j p3] p4], 0⟩] scope gpos) X.env) Q' X.xe s := by
  refine wpAny_GeneratorExp_walksQT hr.hd S.co (closure_ok S.free) S.cell S.dot S.la S.lb hab S.kind (by have := hr.dp; omega) ?_ hs
  refine Call_ (ld_blt I hg hm boot_enumerate (PyProof.Rows.callWith_type1 (thn (hi.run pc pins s σ H _ I h) fun us s1 ⟨vs, H1, I1, r1, q1⟩ => ?_) hst rfl))
  obtain ⟨t, a, ns, ex, hq, hT, hR⟩ := q1
  subst ex
  cases r1 with
  | cons r rr =>
    cases rr
    cases r
    obtain ⟨its, rv, p', hz, lt⟩ := Z.inv_seqB I1 hq
    refine Z.call_enumB p' fun h2 he hit hsz2 hk2 => wpAny_pyIter_enum he ?_
    obtain ⟨ps, hP, ht, hcd⟩ := hT _ hmT
    have I2 : Inv X pins σ H1 { s1 with heap := h2 } := I1.kept (t' := s1.toks) hk2
    have hPs : h2.get? P = some { cls := .none, data := .fields ps } := I2.hok P _ hP
    have hPlt : P < s1.heap.objs.size := Heap.lt_size (I1.hok P _ hP)
    have cd : PySem.W.CodeHd h2 c P := TB.code.keeps I2.bk
    have lim2 : h2.NoLimit := I2.nolimit
    have hp2 : Z.IsB h2 t a its.toArray := by
      cases t
      · obtain ⟨o, e1, e2⟩ := p'; exact ⟨o, hk2 _ _ e1, e2⟩
      · obtain ⟨o, e1, e2⟩ := p'; exact ⟨o, hk2 _ _ e1, e2⟩
    have hlen : its.length = ns.length := by have := rv.length; simpa using this.symm
    have item : ∀ (i : Nat) (x : Value), its.toArray[i]? = some x → ∃ n tk, ns[i]? = some n ∧ x = .int n tk := fun i x hx => by
      have hx' : its[i]? = some x := by simpa using hx
      have hi : i < ns.length := by rw [← hlen]; exact (List.getElem?_eq_some_iff.mp hx').1
      have hv : (ns.map V.int)[i]? = some (.int ns[i]) := by rw [List.getElem?_map, List.getElem?_eq_getElem hi]; rfl
      obtain ⟨u, hu, ru⟩ := rv.get hv
      rw [hx'] at hu
      cases hu
      obtain ⟨tk, e⟩ := ru
      exact ⟨ns[i], tk, List.getElem?_eq_getElem hi, e⟩
    have D : ∀ A' : Around, A'.handled = none → WalksU X.prog X.w A' (s1.heap.objs.size + 1) ((s1.heap.objs.size + 1) :: [s1.heap.objs.size, a]) [s1.heap.objs.size + 1, s1.heap.objs.size] its.toArray.size _ _ _ := fun A' hA =>
      (WalksT.enumerateD (Z.drawsB (prog := X.prog) (w := X.w) (A := A'.in1) (show A'.in1.handled = none from hA) t s1.heap.objs.size a (Nat.ne_of_lt lt) its.toArray) (s1.heap.objs.size + 1) (Nat.succ_ne_self _)
        (by intro hm; rcases List.mem_cons.mp hm with z | z
            · exact Nat.succ_ne_self _ z
            · exact Nat.ne_of_gt (Nat.lt_succ_of_lt lt) (List.mem_singleton.mp z)) (by simp)).toU
    have cont : ∀ (code : Value) (h3 : Heap) (tk : Nat) (ps' : Array Value) (H3 : Hp), Inv X pins σ H3 { s1 with heap := h3, toks := tk } → H3 P = some (.tbl ps') → LamX.ExtN H1 H3 → LamX.Tabs T H3 → (∀ b u, b ≠ P → h2.get? b = some u → h3.get? b = some u) → h2.objs.size ≤ h3.objs.size → (∀ b : Nat, s1.heap.objs.size ≤ b → b < h2.objs.size → H3 b = none) →
        wpAny (model X.prog X.w) X.A (builtinsFor X.env.globals X.env.builtins) (fun bi s₄ =>
          ∃ Ia fp wr n₀ Pt St₀ Mid pz F, Value.ref (s1.heap.objs.size + 1) = .ref Ia ∧ (∀ A' : Around, A'.handled = none → WalksU X.prog X.w A' Ia fp wr n₀ Pt St₀ Mid) ∧ (∀ i vals, Pt i vals → ∃ va vb, vals = #[va, vb]) ∧ St₀ 0 s₄.heap ∧ (∀ b ∈ fp, b < s₄.heap.objs.size) ∧ s₄.heap.NoLimit ∧ cStatics ∉ wr ∧
            (∀ href : Heap, (∀ b o, s₄.heap.get? b = some o → href.get? b = some o) →
              QuietGenT X.prog X.w (genEnv scope (cloFrom X.env.cells scope.names []) s₄.heap.objs.size code bi X.env) xa xb [.Compare (.Name xb p2) [.NotEq] [.Constant (.int 0) j p3] p4] (.Name xa p1) (List.range s₄.heap.objs.size) wr Pt pz F href) ∧
            (∀ a h₅ tk gs, gs.bare = true → s₄.heap.objs.size < a → h₅.objs.size = a + 1 → (∀ b o, s₄.heap.get? b = some o → h₅.get? b = some o) →
              WalksS X.prog X.w X.A.in4 a (a :: s₄.heap.objs.size :: List.range s₄.heap.objs.size) (s₄.heap.objs.size :: wr) (GenOnlyQ s₄.gens.size) (passing pz n₀ 0).length
                (fun j y => ∃ i, (passing pz n₀ 0)[j]? = some i ∧ F i y) (GenAt X.prog X.w X.A.in4 a s₄.gens.size s₄.heap.objs.size (List.range s₄.heap.objs.size) wr pz n₀ F) →
              GenAt X.prog X.w X.A.in4 a s₄.gens.size s₄.heap.objs.size (List.range s₄.heap.objs.size) wr pz n₀ F 0 { s₄ with gens := s₄.gens.push gs, toks := tk, heap := h₅ } →
              Q' (.ref a) { s₄ with gens := s₄.gens.push gs, toks := tk, heap := h₅ })) X.xe { s1 with heap := h3, toks := tk } := by
      intro code h3 tk ps' H3 I3 hP3 hE hT3 hx hsz3 hN
      have hP3s := I3.hok P _ hP3
      obtain ⟨bm, ob, e1, e2, e3, e4, e5, e6, e7, e8⟩ := TB.bm
      have hcl : cStatics < s1.heap.objs.size := let ⟨_, hns, _⟩ := I1.nolimit; hns.lt
      have keep3 : ∀ b u, b ≠ P → s1.heap.get? b = some u → h3.get? b = some u := fun b u hb z => hx b u hb (hk2 _ _ z)
      refine wpAny_builtinsFor (m := X.mg) (by rw [I3.ok.glob]; exact I3.mod.glob.keeps I3.bk) e1 e2 (I3.bk _ _ e5) e6 e7 e8 ?_
      refine ⟨_, _, _, _, _, _, _, (nz ns), (fun i y => ∃ t, y = .int i t), rfl, D, ?_, ?_, ?_, I3.nolimit, ?_, ?_, ?_⟩
      · intro i vals ⟨tk, x, _, e⟩
        exact ⟨_, _, e⟩
      · have nP : ∀ b u, s1.heap.objs.size ≤ b → h2.get? b = some u → h3.get? b = some u := fun b u hb z => hx b u (fun q => absurd hPlt (Nat.not_lt.mpr (q ▸ hb))) z
        refine ⟨⟨_, nP _ _ (Nat.le_succ _) he⟩, hit.at fun o z => nP _ _ (Nat.le_refl _) z, ?_⟩
        have hapP : a ≠ P := fun z => by
          rw [z] at hp2
          cases t <;> obtain ⟨o, e1, e2, n, e3⟩ := hp2 <;> rw [hPs] at e1 <;> cases e1 <;> cases e2
        cases t
        · obtain ⟨o, e1, e2⟩ := hp2; exact ⟨o, hx _ _ hapP e1, e2⟩
        · obtain ⟨o, e1, e2⟩ := hp2; exact ⟨o, hx _ _ hapP e1, e2⟩
      · intro b hb
        have hs3 : s1.heap.objs.size + 2 ≤ h3.objs.size := by omega
        have hb' : b = s1.heap.objs.size + 1 ∨ b = s1.heap.objs.size ∨ b = a := by simpa using hb
        show b < h3.objs.size
        have lt' : (a : Nat) < s1.heap.objs.size := lt
        rcases hb' with z | z | z <;> rw [z]
        · show s1.heap.objs.size + 1 < h3.objs.size
          omega
        · show s1.heap.objs.size < h3.objs.size
          omega
        · exact Nat.lt_of_lt_of_le lt (by omega)
      · intro z
        have z' : cStatics = s1.heap.objs.size + 1 ∨ cStatics = s1.heap.objs.size := by simpa using z
        rcases z' with z | z
        · exact Nat.ne_of_lt (Nat.lt_succ_of_lt hcl) z
        · exact Nat.ne_of_lt hcl z
      · intro href hhref
        refine ⟨fun A' E' i va vb s₂ m₂ hA hPv hn ha hb hk => ?_, fun A' E' i va vb s₂ m₂ hA hPv hp hn ha hb hk => ?_⟩
        · obtain ⟨tk, x, hx1, e⟩ := hPv
          have e' : va = .int i tk ∧ vb = x := by simpa using congrArg Array.toList e
          obtain ⟨n, tk2, hn2, ex⟩ := item i x hx1
          rw [e'.2, ex] at hb
          refine wpAny_mono (testsNZ (s := s₂) (m := m₂) S.kind S.lb hn hb hdb) (fun ok s3 r => ⟨?_, r.2⟩) fun _ _ e => e
          rw [r.1]
          unfold nz
          rw [hn2]
        · obtain ⟨tk, x, hx1, e⟩ := hPv
          have e' : va = .int i tk ∧ vb = x := by simpa using congrArg Array.toList e
          refine wpAny_Name (wpAny_loadName_local S.kind S.la hn ha ?_) hda
          exact ⟨⟨tk, e'.1⟩, GxR.keeps_refl _⟩
      · intro g h5 tk5 gs hgb hag hsz5 hk5 W5 hat
        have elen : its.toArray.size = ns.length := by simpa using hlen
        rw [elen] at W5 hat
        refine hQ ns H1 g _ hR ⟨_, _, _, _, _, _, hat.1, W5.in4_1, hat, fun i y z => z, fun s' hm => ⟨H3, hE, hT3, ?_⟩⟩
        have nwr : ∀ b u, h3.get? b = some u → b ∉ h3.objs.size :: [s1.heap.objs.size + 1, s1.heap.objs.size] → s'.heap.get? b = some u := fun b u z hb => hm.heap b u hb (hk5 b u z)
        have hf : ∀ b ∈ [s1.heap.objs.size + 1, s1.heap.objs.size], FpOk X pins H3 b := fun b hb => by
          have hb' : b = s1.heap.objs.size + 1 ∨ b = s1.heap.objs.size := by simpa using hb
          rcases hb' with z | z <;> rw [z]
          · exact I1.fpOk (Nat.le_succ _) (hN _ (Nat.le_succ _) (by omega))
          · exact I1.fpOk (Nat.le_refl _) (hN _ (Nat.le_refl _) (by omega))
        have J := inv_ch (h' := s'.heap) (g' := s'.gens) (d' := s'.drawn) (t' := s'.toks) I3 hf (fun b u hb e => nwr b u e fun z => ?_) (AllBare.movedS (I3.bare.push hgb) hm)
        · rw [GxR.sh_eta _ s' hm.os] at J
          exact J
        · rcases List.mem_cons.mp z with z | z
          · exact Nat.lt_irrefl _ (z ▸ Heap.lt_size e)
          · exact hb z
    refine ⟨lim2, ?_⟩
    cases hf : codeAmong gpos ps.toList with
    | none =>
      refine wpAny_genexprCodeX hcode (cd.code hPs ht) (cd.tab hPs) hf fun c' h' tk hx hge hlt hco' hrec' htab' _ => ?_
      obtain ⟨c2, oc, vs, t2, e2, hoc, hd, hv⟩ := hrec'
      cases e2
      have I3 := LamX.inv_table (t' := tk) (q := X.env.qual ++ "<genexpr>") (more := #[rawInt gpos.line, rawInt gpos.col, .ref c']) (h' := h') I2 hP (fun b o hb z => hx b o hb z) htab'.2 hge ⟨oc, vs, t2, hoc, hd, hv⟩
      have nC : H1 c' = none := I2.hok.fresh hge
      have nPc : P ≠ c' := fun z => by rw [z, nC] at hP; cases hP
      have atP : ∀ ps', upd (upd H1 P (.tbl ps')) c' (LamX.CodeO c' (X.env.qual ++ "<genexpr>")) P = some (.tbl ps') := fun ps' => by rw [upd_ne nPc, upd_same]
      have hE : LamX.ExtN H1 (upd (upd H1 P (.tbl (ps ++ #[rawInt gpos.line, rawInt gpos.col, .ref c']))) c' (LamX.CodeO c' (X.env.qual ++ "<genexpr>"))) := fun b o e n => by
        rw [upd_ne (ne_of_none e nC), upd_ne (fun z => n ps (Option.some.inj (e.symm.trans (by rw [z]; exact hP))))]
        exact e
      have eL : (ps ++ #[rawInt gpos.line, rawInt gpos.col, .ref c']).toList = ps.toList ++ [rawInt gpos.line, rawInt gpos.col, .ref c'] := by simp
      refine cont _ h' tk _ _ I3 (atP _) hE (fun p hp => ?_) (fun b u hb z => hx b u hb z) (Nat.le_trans hge (Nat.le_of_lt hlt)) (fun b h1 h2' => ?_)
      rotate_left
      · have hbc : b ≠ c' := Nat.ne_of_lt (Nat.lt_of_lt_of_le h2' hge)
        have hbP : b ≠ P := fun z => absurd hPlt (Nat.not_lt.mpr (z ▸ h1))
        rw [upd_ne hbc, upd_ne hbP]
        exact I1.hok.fresh h1
      by_cases hb : p.1 = P
      · rw [hu p hp hb, hb]
        refine ⟨_, atP _, by rw [eL]; exact PySem.TriplesOk_snoc _ _ _ _ ht, fun p' cv hcv => ?_⟩
        rw [eL] at hcv
        rcases LamX.among_app _ ht hcv with z | z
        · obtain ⟨c0, e1, e2⟩ := hcd p' cv z
          exact ⟨c0, e1, hE _ _ e2 LamX.codeO_ne⟩
        · exact ⟨c', z, upd_same⟩
      · obtain ⟨ps', a1, a2, a3⟩ := hT p hp
        refine ⟨ps', by rw [upd_ne (ne_of_none a1 nC), upd_ne hb]; exact a1, a2, fun p' cv hcv => ?_⟩
        obtain ⟨c0, e1, e2⟩ := a3 p' cv hcv
        exact ⟨c0, e1, hE _ _ e2 LamX.codeO_ne⟩
    | some cv =>
      refine wpAny_genexprCode_hit hcode (cd.code hPs ht) hf ?_
      exact cont cv h2 s1.toks ps H1 I2 hP (LamX.ExtN.refl H1) hT (fun _ _ _ z => z) (Nat.le_refl _) (fun b h1 _ => I1.hok.fresh h1)

def firstP (ns : List Int) : Option Nat := ((List.range ns.length).filter (nz ns)).head?
def firstV (ns : List Int) : V := match firstP ns with
  | some i => .int (i : Nat)
  | none => .non
def tNextE (K : PySem.W.Frag) (T : List (Addr × Str)) (te : TA) : TE := fun σ H Q => te σ H fun vs H1 => ∃ (t : Bool) (a : Addr) (ns : List Int), vs = [.ref a] ∧ Z.SqB K H1 t a (ns.map V.int) ∧ LamX.Tabs T H1 ∧ ∀ H2, LamX.ExtN H1 H2 → LamX.Tabs T H2 → Q (firstV ns) H2
theorem pe_nextE {c P : Addr} {e : Expr} {xa xb : Str} {p pos pa pb pt p1 p2 p3 p4 p5 pc pe' gpos : Pos} {kt j j2 : Nat} {scope : Scope} {te : TA} {k : Nat} {T : List (Addr × Str)}
    (hr : Room k X.A) (TB : LamX.TabB X.base X.mg c P) (hcode : X.env.code = .ref c) (hmT : (P, X.env.qual ++ "<genexpr>") ∈ T) (hu : ∀ p ∈ T, p.1 = P → p.2 = X.env.qual ++ "<genexpr>") (S : GenS2 X.env scope xa xb) (hab : xa ≠ xb)
    (hda : (xa == ("__debug__" : Str)) = false) (hdb : (xb == ("__debug__" : Str)) = false) (hgn : Gl X "next") (hmn : X.mg "next" = none) (hg : Gl X "enumerate") (hm : X.mg "enumerate" = none) (hi : PA X [e] te)
    (hs : ∀ v, genFold (.Call (.Name "enumerate" pe') [e] [] pc) X.env v = pure v) (hst : starEach [e] X.env = [(false, eval e X.env)]) :
    PE X (.Call (.Name "next" p) [.GeneratorExp (.Name xa p1) [⟨.Tuple [.Name xa pa, .Name xb pb] kt pt, .Call (.Name "enumerate" pe') [e] [] pc, [.Compare (.Name xb p2) [.NotEq] [.Constant (.int 0) j p3] p4], 0⟩] scope gpos, .Constant .none j2 p5] [] pos) (tNextE X.K T te) := by
  refine ⟨fun pins s σ H Q I h => ?_⟩
  refine wpAny_Call_Name_kw (ld_blt (u := .builtin "next") I hgn hmn (by first | rfl | decide +kernel) ?_ (by decide) (by decide))
  refine PyProof.Rows.callWith_builtin1 ?_ (by rfl) (by rfl)
  show wpAny _ _ (spliced ((false, eval (.GeneratorExp (.Name xa p1) [⟨.Tuple [.Name xa pa, .Name xb pb] kt pt, .Call (.Name "enumerate" pe') [e] [] pc, [.Compare (.Name xb p2) [.NotEq] [.Constant (.int 0) j p3] p4], 0⟩] scope gpos) X.env) :: (false, eval (.Constant .none j2 p5) X.env) :: [])) _ _ s
  refine Calls.spliced_cons (gen_enum (R := fun ns H1 => ∀ H2, LamX.ExtN H1 H2 → LamX.Tabs T H2 → Q (firstV ns) H2) hr TB hcode hmT hu S hab hda hdb hg hm hi hs hst I h fun ns H1 g s5 hR hG => ?_)
  refine Calls.spliced_cons (Constant_none ?_)
  refine Calls.spliced_nil ?_
  obtain ⟨gn, fp, wr, G, F, St, hgi, W, hst0, hF, hI⟩ := hG
  have ep : passing (nz ns) ns.length 0 = (List.range ns.length).filter (nz ns) := by unfold passing; rw [List.drop_zero]
  refine call_next2 hgi W hst0 (fun h0 s' hm' => ?_) fun h1 v s' hv hm' => ?_
  · obtain ⟨H2, hE, hT2, J⟩ := hI s' hm'
    refine ⟨.non, H2, J, rfl, ?_⟩
    have e0 : firstV ns = .non := by
      unfold firstV firstP
      rw [← ep, List.eq_nil_of_length_eq_zero h0]; rfl
    rw [← e0]
    exact hR H2 hE hT2
  · obtain ⟨H2, hE, hT2, J⟩ := hI s' hm'
    obtain ⟨i, hi, hFi⟩ := hv
    obtain ⟨t, rfl⟩ := hF i v hFi
    refine ⟨.int (i : Nat), H2, J, ⟨t, rfl⟩, ?_⟩
    have e0 : firstV ns = .int (i : Nat) := by
      unfold firstV firstP
      rw [← ep, List.head?_eq_getElem?, hi]
    rw [← e0]
    exact hR H2 hE hT2
end GeX
namespace Z
open PySem PySem.Spec PyProof.Rows L2
/-- the store's relation behind a step that writes none of its objects, or tables alone -/
theorem Rel.extN {G : Glo} {φ : List Addr} {S : Store} {H H' : Hp} (R : Rel G φ S H) (e : LamX.ExtN H H') (t : LamX.Tabs G.T H') : Rel G φ S H' ∧ Nxt φ φ H H' := by
  have ne : ∀ {a : Addr} {o : O}, ORel G φ H a o → H' a = H a := fun {a o} h => by
    obtain ⟨u, hu, _, nx⟩ := h.mut_
    rw [hu]
    exact e a u hu fun ps z => by subst z; exact nx.nt
  have gr : Grow H H' := ⟨fun a xs q => e a _ q (fun ps z => by cases z), fun a o u q => e a _ q (fun ps z => by cases z), fun a fs q => e a _ q (fun ps z => by cases z), fun a b q => .inl (e a _ q (fun ps z => by cases z))⟩
  refine ⟨⟨R.len, R.nd, fun i a o e1 e2 => ?_, t⟩, ⟨⟨[], by simp, fun _ z => nomatch z⟩, gr, fun b o q _ st => e b o q (fun ps z => by subst z; exact st), fun b o q nt => ⟨o, e b o q (fun ps z => by subst z; exact nt), nt⟩⟩⟩
  have h := R.at_ i a o e1 e2
  exact h.up (fun _ _ z => z) gr (ne h)
end Z

/-! Z22: the rule of next((a for a, b in enumerate(xs) if b != 0), None); the head with tables of code objects. -/
namespace Z
open PySem PySem.Spec PyProof.Rows L2 He
/-- the table of the code object c, in which things of one name are made -/
def TbOk (G : Glo) (q : Str) (c : Addr) (w : Str) : Prop := ∃ P, LamX.TabB G.base G.mg c P ∧ (P, q ++ w) ∈ G.T ∧ ∀ p ∈ G.T, p.1 = P → p.2 = q ++ w
def firstD (ns : List Int) : D := match GeX.firstP ns with
  | some i => .int (i : Nat)
  | none => .non
def dNextE (a : DE) : DE := fun env S => (a env S).bind fun x S1 => match (itemsD S1 x).bind intsOf with
  | some ns => .ok (firstD ns) S1
  | none => .bad
/-- the scope of such a generator -/
def genB (scope : Scope) (xa xb : Str) : Bool := decide (scope.kind = .function) && (!scope.isCoroutine && (scope.names.all (fun y => !decide (y.2 = .cell) && !decide (y.2 = .free)) && (decide (scope.names.lookup (".0" : Str) = some .local) && (decide (scope.names.lookup xa = some .local) && (decide (scope.names.lookup xb = some .local) &&
  (decide (xa ≠ xb) && (!(xa == ("__debug__" : Str)) && !(xb == ("__debug__" : Str)))))))))
theorem first_rel {G : Glo} {φ : List Addr} {H : Hp} {ns : List Int} : VRel G φ H (firstD ns) (GeX.firstV ns) := by
  unfold firstD GeX.firstV
  cases GeX.firstP ns with
  | none => simp only [VRel]
  | some i => simp only [VRel]
section
variable {C : Cp} {e : Expr} {da : DE}
theorem pex_next {xa xb q : Str} {c : Addr} {p pos pa pb pt p1 p2 p3 p4 p5 pc pe' gpos : Pos} {kt j j2 : Nat} {scope : Scope} (hcq : C.cq = some (q, c)) (hT : TbOk C.G q c "<genexpr>") (hb : genB scope xa xb = true)
    (hgn : glB C "next" = true) (hmn : C.G.mg "next" = none) (hg : glB C "enumerate" = true) (hm : C.G.mg "enumerate" = none) (ha : PEx C e da)
    (hs : ∀ env v, genFold (.Call (.Name "enumerate" pe') [e] [] pc) env v = pure v := by intro _ _; rfl) (hst : ∀ env, starEach [e] env = [(false, eval e env)] := by intro _; rfl) :
    PEx C (.Call (.Name "next" p) [.GeneratorExp (.Name xa p1) [⟨.Tuple [.Name xa pa, .Name xb pb] kt pt, .Call (.Name "enumerate" pe') [e] [] pc, [.Compare (.Name xb p2) [.NotEq] [.Constant (.int 0) j p3] p4], 0⟩] scope gpos, .Constant .none j2 p5] [] pos) (dNextE da) := fun X W hx => by
  obtain ⟨hq, hc⟩ := hx.cd q c hcq
  obtain ⟨P, TB, hmT, hu⟩ := hT
  unfold genB at hb
  simp only [Bool.and_eq_true, decide_eq_true_eq, Bool.not_eq_true', List.all_eq_true, decide_eq_false_iff_not] at hb
  obtain ⟨b1, b2, b3, b4, b5, b6, b7, b8, b9⟩ := hb
  have S : GeX.GenS2 X.env scope xa xb := ⟨b1, b2, fun y hy => (b3 y hy).1, b4, b5, b6, fun y hy z => absurd z (b3 y hy).2⟩
  refine pe_imp (GeX.pe_nextE (T := C.G.T) hx.room (by rw [hx.base, hx.mg]; exact TB) hc (by rw [hq]; exact hmT) (by rw [hq]; exact hu) S b7 b8 b9 (glB_ok hgn hx) (by rw [hx.mg]; exact hmn) (glB_ok hg hx) (by rw [hx.mg]; exact hm) (pa_cons (ha X W hx) pa_nil (by rw [hst]; rfl)) (hs X.env) (hst X.env)) fun σ H Q ⟨φ, S, env, R, E, P⟩ => ?_
  refine ⟨φ, S, env, R, E, ?_⟩
  have P0 := P.bind
  cases qd : da env S with
  | bad => rw [qd] at P0; exact P0.elim
  | er y S1 => rw [qd] at P0; exact P0
  | ok x S1 =>
    rw [qd] at P0
    intro φ1 H1 n1 R1 v r1
    have P1 := P0 φ1 H1 n1 R1
    dsimp only at P1
    show tNil σ H1 _
    cases hi : (itemsD S1 x).bind intsOf with
    | none => rw [hi] at P1; exact P1.elim
    | some ns =>
      rw [hi] at P1
      obtain ⟨ds, hds, hns⟩ := Option.bind_eq_some_iff.mp hi
      obtain ⟨a, vs, rfl, sq, rs⟩ := items_kind R1 r1 hds
      have evs : vs = ns.map V.int := by
        rw [intsOf_eq hns] at rs
        exact (rel_ints rs)
      subst evs
      refine ⟨kindD x, a, ns, rfl, by rw [hx.K]; exact sq, R1.tabs, fun H2 eN t2 => ?_⟩
      obtain ⟨R2, n2⟩ := R1.extN eN t2
      exact P1 φ1 H2 n2 R2 _ first_rel
end
/-! ### the head with tables -/
/-- unlike names stand in unlike tables -/
def ckTabs (tf : Tf) : Ck := fun K => (tabZ K tf).all fun a => (tabZ K tf).all fun b => !decide (a.1 = b.1) || decide (a.2 = b.2)
section
variable {cs : List Ck} {fn : List Df} {cl : List Str} {tf : Tf} {pr : Program} {G : Glo}
theorem codeF_A (K : PySem.W.Frag) (a : Addr) : codeF K a = codeA K a := rfl
theorem Hyp.tbOk (h : Hyp cs fn cl tf pr G) (i j : Nat) {q w : Str} {ad : PySem.W.Frag → Addr} (e : tf[i]? = some (ad, q ++ w)) (e2 : cs[j]? = some (ckTabs tf)) : TbOk G q (codeF G.K (ad G.K)) w := by
  have hm := List.mem_of_getElem? e
  have hmT : ((tabA G.K (ad G.K)).2, q ++ w) ∈ tabZ G.K tf := List.mem_map.mpr ⟨_, hm, rfl⟩
  refine ⟨(tabA G.K (ad G.K)).2, h.tabB _ hm, by rw [h.tabs]; exact hmT, fun p hp e3 => ?_⟩
  rw [h.tabs] at hp
  have c := h.ck j e2
  have c1 := List.all_eq_true.mp (List.all_eq_true.mp c p hp) _ hmT
  simp only [Bool.or_eq_true, Bool.not_eq_true', decide_eq_false_iff_not, decide_eq_true_eq] at c1
  rcases c1 with z | z
  · exact absurd e3 z
  · exact z
variable {i j k n : Nat} {d : Df} {y : Str} {N ps : List Str} {b : DS}
/-- a def of the module that makes code objects -/
theorem Hyp.fnIsC (h : Hyp cs fn cl tf pr G) (i j : Nat) (hd : fn[i]? = some d) (ha : d.ad G.K = ga G.K y) (hc : cs[j]? = some (ckFa (.glo y))) (Sc : FnScope N ps d.scope) (hn : ps.length = n)
    (hbi : ∀ (kV doc pm : Value) (an : Option Addr) (cdv ct : Value) (us : List Value), us.length = ps.length → bindArgs (PySem.W.fnOf d.name d.qual d.params d.body d.scope .none kV doc pm an cdv ct) ⟨us, []⟩ = pure (ps.zip us))
    (hb : PSsx ⟨G, k, N, d.scope, fun _ => true, some (d.qual ++ ".<locals>.", codeF G.K (d.ad G.K)), false⟩ d.body b) (hv : d.dvs = [] := by rfl) (hcl : d.clo = [] := by rfl) : FnIs G (k + 1) y n (mkFn N.length b) := by
  obtain ⟨fd, F⟩ := h.def_ i hd hcl
  rw [hv] at F
  exact fn_isC F (by rw [ha]; exact h.glo j hc) Sc hn hbi hb
end
/-- the script as it comes: a list that never changes, or one of the store's -/
def Scr (S : Store) (x : D) (ns : List Int) : Prop := x = .fls (ns.map D.int) ∨ ∃ r, x = .ref r ∧ S[r]? = some (.lst (ns.map D.int))
theorem script_relT {G : Glo} {H : Hp} {a : Addr} {ns : List Int} (hT : LamX.Tabs G.T H) (hS : SqL G.K H a (ns.map V.int)) : ∃ φ S x, Rel G φ S H ∧ VRel G φ H x (.ref a) ∧ Scr S x ns := by
  have fl : FzL G.K H a (ns.map V.int) → ∃ φ S x, Rel G φ S H ∧ VRel G φ H x (.ref a) ∧ Scr S x ns := fun h => by
    refine ⟨[], [], _, ⟨rfl, List.nodup_nil, fun i b o e => by simp at e, hT⟩, ?_, .inl rfl⟩
    simp only [VRel]
    exact ⟨a, ns.map V.int, rfl, h, ints_rel ns⟩
  rcases hS with (h | h) | h
  · refine ⟨[a], [.lst (ns.map D.int)], .ref 0, ⟨rfl, by simp, fun i b o e1 e2 => ?_, hT⟩, ?_, .inr ⟨0, rfl, rfl⟩⟩
    · have : i = 0 := by have := (List.getElem?_eq_some_iff.mp e1).1; simpa using this
      subst this
      cases e1
      cases e2
      exact ⟨ns.map V.int, h, ints_rel ns⟩
    · simp only [VRel]
      exact ⟨a, rfl, rfl⟩
  · exact fl (.inl h)
  · exact fl (.inr h)
theorem law_endsT {G : Glo} {H : Hp} {a : Addr} {ns : List Int} {F : Fn} (hT : LamX.Tabs G.T H) (hS : SqL G.K H a (ns.map V.int)) (plain : ∀ S x, Scr S x ns → ∃ S', F [x] S = .ok (.bl true) S') : spD G 1 F [.ref a] H (fun v _ => v = .bl true) fun _ _ _ => False := by
  obtain ⟨φ, S, x, R, r, sc⟩ := script_relT hT hS
  obtain ⟨S', e⟩ := plain S x sc
  refine ⟨φ, S, _, R, VRels.cons r VRels.nil, rfl, ?_⟩
  rw [e]
  intro φ' H' _ _ v rv
  simpa only [VRel] using rv
theorem tabs_nil {G : Glo} {H : Hp} {tf : Tf} (e : G.T = tabZ G.K tf) (h : ∀ p ∈ tf.map (fun z => tabA G.K (z.1 G.K)), H p.2 = some (.tbl #[])) : LamX.Tabs G.T H := fun p hp => by
  rw [e] at hp
  obtain ⟨z, hz, rfl⟩ := List.mem_map.mp hp
  exact LamX.TabS.nil (h _ (List.mem_map.mpr ⟨z, hz, rfl⟩))
section
variable {cs : List Ck} {fn : List Df} {tl : List (PySem.W.Frag → Addr)} {h : Heap} {K : PySem.W.Frag}
theorem SaysZ.ck (c : SaysZ cs fn tl h K) (i : Nat) {k : Ck} (e : cs[i]? = some k) : k K = true := by
  have c1 := (ba (show ((cs.all fun c => c K) && fn.all fun d => d.ok K) = true from congrArg (fun z : AlZ => z.1) c.all)).1
  exact List.all_eq_true.mp c1 k (List.mem_of_getElem? e)
theorem SaysZ.fun_ (c : SaysZ cs fn tl h K) (i : Nat) {d : Df} (e0 : fn[i]? = some d) (hc : d.clo = [] := by rfl) : ∃ fd, FunD K d.name d.qual d.params d.body d.scope d.dvs [] (d.ad K) fd := by
  have c2 := (ba (show ((cs.all fun c => c K) && fn.all fun d => d.ok K) = true from congrArg (fun z : AlZ => z.1) c.all)).2
  have e : fn.map (fun d => fnA K (d.ad K)) = fn.map Df.val := congrArg (fun z : AlZ => z.2) c.all
  have e2 : (fn.map fun d => fnA K (d.ad K))[i]? = (fn.map Df.val)[i]? := by rw [e]
  rw [List.getElem?_map, List.getElem?_map, e0] at e2
  exact Df.funD (Option.some.inj e2) (List.all_eq_true.mp c2 d (List.mem_of_getElem? e0)) hc
end
end Z

/-! Z23: sorted(xs), sorted(set(xs)) of ints. -/
namespace SeX
open PySem PySem.Spec PyProof.Rows L2
/-- a set as it is made -/
abbrev newSet (w : World) : Obj := { cls := .type "set", dict := none, data := .set #[] 0 (.fresh 0 0 (!w.params.followText "set-order")) }
section
variable {P : Program} {w : World} {A : Around} {E : Value → Shared → Prop} {s : Shared}
/-- set(xs), xs a list of ints; what its order asks is told, too -/
theorem set_of_list {l : Addr} {items : Array Value} (ns : List Int) {Q : Value → Shared → Prop} (hh : A.handled = none) (hl : s.heap.IsList l items) (hit : IntsAre items.toList ns) (hb : ns.length + 1 < scanBound)
    (h : ∀ (h' : Heap) (tk c : Nat), SetR w h' s.heap.objs.size (fun j => decide (j ∈ ns)) c → c ≤ ns.length → (∀ b o, s.heap.get? b = some o → h'.get? b = some o) → Q (.ref s.heap.objs.size) { s with heap := h', toks := tk }) :
    wpAny (model P w) A (call (.type "set") [.ref l]) Q E s := by
  have size : items.size = ns.length := by have q := IntsAre.length hit; rwa [Array.length_toList] at q
  obtain ⟨c, tl, hmro⟩ := F.called_set.mro
  have f1 := F.called_set.made
  have f2 := F.called_set.sub
  refine wpAny_call (codeAny_of_tree ?_)
  show wpAny _ _ (callAny (.type "set") _) _ _ _
  refine wpAny_pure ⟨Code.quiet_builtin _ (by decide +kernel), codeAny_builtin F.entry_type_call ?_⟩
  rw [Around.under_plain (weight_type_call_type "set" [.ref l] []) rfl]
  have f3 := F.called_set.notType
  have f4 := F.called_set.canCreate
  have f5 := F.typeCall_set_1 (.ref l)
  repeat (any_goals (first | assumption | wp_step))
  refine codeAny_mono (code_set_led1 (.ref l) (E := E) (Q₁ := fun obj s₁ => obj = .ref s.heap.objs.size ∧ s₁ = { s with heap := s.heap.push (newSet w) }) ⟨rfl, rfl⟩) fun r s₁ hr => ?_
  match r, hr with
  | .error e, hr => exact hr
  | .ok .next, hr => exact hr.elim
  | .ok .brk, hr => exact hr.elim
  | .ok .cont, hr => exact hr.elim
  | .ok (.ret obj), hr =>
    obtain ⟨rfl, rfl⟩ := hr
    have at_ : (s.heap.push (newSet w)).get? s.heap.objs.size = some (newSet w) := Heap.get?_push_size _ rfl
    have hT : Shared.TypeIs { s with heap := s.heap.push (newSet w) } (.ref s.heap.objs.size) "set" := ⟨_, at_, rfl⟩
    have f6 := F.called_set.init.lookup
    have f7 := F.called_set.init.bind (.ref s.heap.objs.size)
    repeat (any_goals (first | assumption | wp_step))
    refine codeAny_mono (codeAny_call_builtin (R := wants (fun r s₂ => r = .none ∧ ∃ h' tk c, s₂ = { s with heap := h', toks := tk } ∧ SetR w h' s.heap.objs.size (fun j => decide (j ∈ ns)) c ∧ c ≤ ns.length ∧ ∀ b o, s.heap.get? b = some o → h'.get? b = some o) E)
      F.called_set.init.plain F.entry_set_init (check_set_init_1 hT ?_)) fun r₂ s₂ hr₂ => ?_
    · obtain ⟨⟨ocls, odict, odata, oslots⟩, hol, hcl, nl, hdl⟩ := hl
      dsimp only at hcl hdl
      subst hcl hdl
      have hlS : l < s.heap.objs.size := Heap.lt_size hol
      have hol' := Heap.get?_push_of_some (newSet w) hol
      have g1 := F.sub_list_set
      have g2 := F.sub_list_frozenset
      have g3 : (Value.type "list" == Value.type "dict") = false := by decide
      have hl1 : (s.heap.push (newSet w)).IsList l items := ⟨_, hol', rfl, nl, rfl⟩
      unfold Builtin.«set.__init__» noKeywords Builtin.Frozenset.updateFrom
      generalize hPI : pyIter = PI
      wp_walk
      subst hPI
      refine wpAny_pyIter_list hl1 ?_
      refine wpAny_bind (wpAny_runValue ?_)
      have hz1 : (s.heap.push (newSet w)).objs.size = s.heap.objs.size + 1 := Heap.size_push ..
      have hneI : l ≠ (s.heap.push (newSet w)).objs.size := by rw [hz1]; exact Nat.ne_of_lt (Nat.lt_succ_of_lt hlS)
      have hS0 : s.heap.objs.size ≠ (s.heap.push (newSet w)).objs.size := by rw [hz1]; exact Nat.ne_of_lt (Nat.lt_succ_self _)
      have hval : ∀ (i : Nat) (v : Value), items[i]? = some v → ∃ k t, ns[i]? = some k ∧ v = .int k t := fun i v hv => by
        have hi : i < ns.length := by rw [← size]; exact (Array.getElem?_eq_some_iff.mp hv).1
        obtain ⟨t, e⟩ := PyProof.Rows.IntsAre.int_at hit i v (by rw [Array.getElem?_toList]; exact hv)
        exact ⟨ns[i], t, List.getElem?_eq_getElem hi, by rw [e, List.getD_eq_getElem?_getD, List.getElem?_eq_getElem hi]; rfl⟩
      refine set_update_ints ((Walks.list (show A.in1.in1.in1.handled = none by simp [hh]) _ l hneI items).toS) s.heap.objs.size
        (by simp only [List.mem_cons, List.mem_singleton, List.not_mem_nil, or_false, not_or]; exact ⟨hS0, Nat.ne_of_gt hlS⟩) ns size hb hval (items.size - 0) 0 _ (by omega) (Nat.zero_le _)
        ⟨⟨_, Heap.get?_push_size _ rfl, rfl, rfl⟩, hl1.push _⟩ ⟨0, Nat.le_refl 0, setR_new_at (Heap.get?_push_of_some _ at_)⟩ fun s' c' hm hc' hS' => ?_
      obtain ⟨h', g2, d', tk', os'⟩ := s'
      obtain ⟨m1, m2, m3, m4, _⟩ := hm
      dsimp only at m1 m2 m3 m4
      have m2 : g2 = s.gens := m2
      subst m2 m3 m4
      refine wpAny_pure ?_
      show wpAny _ _ (ret Value.none) _ _ _
      rw [size] at hc'
      refine wpAny_pure ⟨rfl, h', tk', c', rfl, hS', hc', fun b o e => ?_⟩
      have hb0 : b < s.heap.objs.size := Heap.lt_size e
      refine m1 b o ?_ (Heap.get?_push_of_some _ (Heap.get?_push_of_some _ e))
      simp only [List.mem_cons, List.mem_singleton, List.not_mem_nil, or_false, not_or]
      exact ⟨Nat.ne_of_lt hb0, by rw [hz1]; exact Nat.ne_of_lt (Nat.lt_succ_of_lt hb0)⟩
    · match r₂, hr₂ with
      | .error e, hr₂ => exact hr₂
      | .ok .next, hr₂ => exact hr₂.elim
      | .ok .brk, hr₂ => exact hr₂.elim
      | .ok .cont, hr₂ => exact hr₂.elim
      | .ok (.ret r), hr₂ =>
        obtain ⟨rfl, h', tk, c', rfl, q1, q2, q3⟩ := hr₂
        repeat (any_goals (first | assumption | wp_step))
        exact h _ _ _ q1 q2 q3
end
end SeX

/-! Z24: sorted(xs), sorted(set(xs)) of ints, the rules. -/
namespace SeX
open PySem PySem.Spec PyProof.Rows L2
/-- sorted(set(a)) -/
def tSortSet (K : PySem.W.Frag) (te : TE) : TE := fun σ H Q => te σ H fun x H1 => ∃ (t : Bool) (l : Addr) (ns : List Int), x = .ref l ∧ Z.SqB K H1 t l (ns.map V.int) ∧ ns.length < 64 ∧
  ∀ (ns' : List Int) (p : Addr), ns'.Pairwise (· < ·) → (∀ k : Int, k ∈ ns' ↔ k ∈ ns) → H1 p = none → Q (.ref p) (upd H1 p (.lst (ns'.map V.int)))
section
variable {X : Cx}
theorem pe_sortedSet {a : Expr} {te : TE} {p p2 q pos : Pos} (hc : X.calm = true) (hg : Gl X "sorted") (hm : X.mg "sorted" = none) (hg2 : Gl X "set") (hm2 : X.mg "set" = none) (ha : PE X a te)
    (na : starEach [a] X.env = (false, eval a X.env) :: starEach [] X.env := by rfl) : PE X (.Call (.Name "sorted" p) [.Call (.Name "set" p2) [a] [] q] [] pos) (tSortSet X.K te) := by
  refine ⟨fun pins s σ H Q I h => ?_⟩
  refine Call_ (ld_blt (u := .builtin "sorted") I hg hm (by first | rfl | decide +kernel) ?_ (by decide) (by decide))
  refine PyProof.Rows.callWith_builtin1 (PyProof.Rows.args_cons ?_ rfl) rfl rfl
  refine Call_ (ld_blt I hg2 hm2 PyProof.Rows.boot_set ?_)
  refine PyProof.Rows.callWith_type1 (PyProof.Rows.args_cons (thn (ha.run pins s σ H _ I h) fun v s1 ⟨x, H1, I1, r1, q1⟩ => PyProof.Rows.args_nil ?_) na) na rfl
  obtain ⟨t, l, ns, rfl, hq, h64, q1⟩ := q1
  cases r1
  obtain ⟨its, rv, p', hz, lt⟩ := Z.inv_seqB I1 hq
  have fin : ∀ (h' : Heap) (tk c : Nat), SetR X.w h' s1.heap.objs.size (fun j => decide (j ∈ ns)) c → c ≤ ns.length → (∀ b o, s1.heap.get? b = some o → h'.get? b = some o) →
      wpAny (model X.prog X.w) X.A (call (.builtin "sorted") [.ref s1.heap.objs.size]) (EP X pins σ Q) X.xe { s1 with heap := h', toks := tk } := fun h' tk c R hcl k => by
    have I2 : Inv X pins σ H1 { s1 with heap := h', toks := tk } := I1.kept k
    refine sorted_set R (I2.ok.hd hc) (by omega) fun s' p out c ns' k' g o hp hg hi hs hm hl => ?_
    have hlen : (ns'.map V.int).length ≤ sizeLine := by rw [List.length_map, hl, sizeLine_eq]; omega
    have hn : H1 p = none := I2.hok.fresh hp
    have J : Inv X pins σ (upd H1 p (.lst (ns'.map V.int))) s' := I2.call' (ch := []) o (Un.laid (h := h') k' hp hn) (I2.hok.laid (o := .lst (ns'.map V.int)) k' hp ⟨hlen, out.toList, c, vals_of_ints hi, hg⟩) (by rw [g]; exact I2.bare) (fun _ z => nomatch z)
    exact ⟨.ref p, _, J, rfl, q1 ns' p hs (fun k => by rw [hm k]; simp) hn⟩
  cases t
  · exact set_of_list ns (I1.ok.hd hc) p' (by simpa using rv.ints) (by unfold scanBound; omega) fun h' tk c R hcl k => PyProof.Rows.args_nil (fin h' tk c R hcl k)
  · exact call_set_tupI ns (I1.ok.hd hc) p' (by simpa using rv.ints) (by unfold scanBound; omega) fun h' tk c R hcl k => PyProof.Rows.args_nil (fin h' tk c R hcl k)
end
end SeX
namespace Z
open PySem PySem.Spec PyProof.Rows L2
/-! ### sorting in plain Lean -/
def insS (x : Int) : List Int → List Int
  | [] => [x]
  | y :: l => if x ≤ y then x :: y :: l else y :: insS x l
def srt : List Int → List Int
  | [] => []
  | x :: l => insS x (srt l)
def insU (x : Int) : List Int → List Int
  | [] => [x]
  | y :: l => if x < y then x :: y :: l else if x = y then y :: l else y :: insU x l
def srtU : List Int → List Int
  | [] => []
  | x :: l => insU x (srtU l)
theorem insS_perm (x : Int) : ∀ l, (insS x l).Perm (x :: l)
  | [] => List.Perm.refl _
  | y :: l => by
    unfold insS
    split
    · exact List.Perm.refl _
    · exact ((insS_perm x l).cons y).trans (List.Perm.swap x y l)
theorem srt_perm : ∀ l, (srt l).Perm l
  | [] => List.Perm.refl _
  | x :: l => (insS_perm x (srt l)).trans ((srt_perm l).cons x)
theorem insS_up (x : Int) : ∀ {l : List Int}, l.Pairwise (· ≤ ·) → (insS x l).Pairwise (· ≤ ·)
  | [], _ => List.pairwise_singleton _ _
  | y :: l, h => by
    obtain ⟨h1, h2⟩ := List.pairwise_cons.mp h
    unfold insS
    split
    · rename_i hx
      exact List.pairwise_cons.mpr ⟨fun z hz => by
        rcases List.mem_cons.mp hz with e | e
        · rw [e]; exact hx
        · exact Int.le_trans hx (h1 z e), h⟩
    · rename_i hx
      refine List.pairwise_cons.mpr ⟨fun z hz => ?_, insS_up x h2⟩
      rcases List.mem_cons.mp ((insS_perm x l).mem_iff.mp hz) with e | e
      · rw [e]; omega
      · exact h1 z e
theorem srt_up : ∀ l, (srt l).Pairwise (· ≤ ·)
  | [] => List.Pairwise.nil
  | x :: l => insS_up x (srt_up l)
theorem up_uniq : ∀ {l m : List Int}, l.Perm m → l.Pairwise (· ≤ ·) → m.Pairwise (· ≤ ·) → l = m
  | [], m, h, _, _ => h.nil_eq
  | x :: l, [], h, _, _ => absurd h.length_eq (by simp)
  | x :: l, y :: m, h, a, b => by
    obtain ⟨a1, a2⟩ := List.pairwise_cons.mp a
    obtain ⟨b1, b2⟩ := List.pairwise_cons.mp b
    have e : x = y := by
      have hx := h.mem_iff.mp List.mem_cons_self
      have hy := h.mem_iff.mpr (List.mem_cons_self (a := y) (l := m))
      rcases List.mem_cons.mp hx with e | e
      · exact e
      · rcases List.mem_cons.mp hy with e' | e'
        · exact e'.symm
        · have := b1 x e
          have := a1 y e'
          omega
    subst e
    rw [up_uniq h.cons_inv a2 b2]
theorem mem_insU (x z : Int) : ∀ l, z ∈ insU x l ↔ z = x ∨ z ∈ l
  | [] => by unfold insU; simp
  | y :: l => by
    unfold insU
    split
    · simp
    · split
      · rename_i h; subst h; simp
      · rw [List.mem_cons, mem_insU x z l, List.mem_cons]
        constructor
        · rintro (h | h | h) <;> simp [h]
        · rintro (h | h | h) <;> simp [h]
theorem mem_srtU (z : Int) : ∀ l, z ∈ srtU l ↔ z ∈ l
  | [] => by unfold srtU; simp
  | x :: l => by unfold srtU; rw [mem_insU, mem_srtU z l, List.mem_cons]
theorem insU_up (x : Int) : ∀ {l : List Int}, l.Pairwise (· < ·) → (insU x l).Pairwise (· < ·)
  | [], _ => List.pairwise_singleton _ _
  | y :: l, h => by
    obtain ⟨h1, h2⟩ := List.pairwise_cons.mp h
    unfold insU
    split
    · rename_i hx
      exact List.pairwise_cons.mpr ⟨fun z hz => by
        rcases List.mem_cons.mp hz with e | e
        · rw [e]; exact hx
        · exact Int.lt_trans hx (h1 z e), h⟩
    · split
      · exact h
      · rename_i h3 h4
        refine List.pairwise_cons.mpr ⟨fun z hz => ?_, insU_up x h2⟩
        rcases (mem_insU x z l).mp hz with e | e
        · rw [e]; omega
        · exact h1 z e
theorem srtU_up : ∀ l, (srtU l).Pairwise (· < ·)
  | [] => List.Pairwise.nil
  | x :: l => insU_up x (srtU_up l)
theorem strict_uniq : ∀ {l m : List Int}, (∀ k, k ∈ l ↔ k ∈ m) → l.Pairwise (· < ·) → m.Pairwise (· < ·) → l = m
  | [], [], _, _, _ => rfl
  | [], y :: m, h, _, _ => absurd ((h y).mpr List.mem_cons_self) (by simp)
  | x :: l, [], h, _, _ => absurd ((h x).mp List.mem_cons_self) (by simp)
  | x :: l, y :: m, h, a, b => by
    obtain ⟨a1, a2⟩ := List.pairwise_cons.mp a
    obtain ⟨b1, b2⟩ := List.pairwise_cons.mp b
    have e : x = y := by
      rcases List.mem_cons.mp ((h x).mp List.mem_cons_self) with e | e
      · exact e
      · rcases List.mem_cons.mp ((h y).mpr List.mem_cons_self) with e' | e'
        · exact e'.symm
        · have := b1 x e
          have := a1 y e'
          omega
    subst e
    rw [strict_uniq (fun k => ?_) a2 b2]
    constructor
    · intro hk
      rcases List.mem_cons.mp ((h k).mp (List.mem_cons_of_mem _ hk)) with e | e
      · have := a1 k hk; omega
      · exact e
    · intro hk
      rcases List.mem_cons.mp ((h k).mpr (List.mem_cons_of_mem _ hk)) with e | e
      · have := b1 k hk; omega
      · exact e
/-! ### the rules -/
def fSortI : D → Store → Option (D × Store) := fun d S => ((itemsL S d).bind intsOf).map fun ns => (.ref S.length, S ++ [.lst ((srt ns).map D.int)])
def dSortSet (a : DE) : DE := fun env S => (a env S).bind fun x S1 => match (itemsD S1 x).bind intsOf with
  | some ns => if ns.length < 64 then .ok (.ref S1.length) (S1 ++ [.lst ((srtU ns).map D.int)]) else .bad
  | none => .bad
theorem cx_sortI {C : Cp} : CallRx C (.builtin "sorted") (b1 fSortI) := CallRx.imp (fun X => rSortedI X.K) (fun _ _ hx => cr_sortedI) fun X W hx φ S H ds vs Q R r P => by
  obtain ⟨d, v, rfl, rv, P⟩ := b1_some P r
  unfold fSortI at P
  cases e : (itemsL S d).bind intsOf with
  | none => rw [e] at P; exact P.elim
  | some ns =>
    rw [e] at P
    obtain ⟨a, rfl, sq⟩ := ints_lst R rv e
    refine ⟨a, ns, rfl, by rw [hx.K]; exact sq, fun ns' p hp hu hn => ?_⟩
    rw [up_uniq (hp.trans (srt_perm ns).symm) hu (srt_up ns)]
    exact PstV.lst P R (ints_rel _) hn
theorem pex_sortSet {C : Cp} {a : Expr} {da : DE} {p p2 q pos : Pos} (hg : glB C "sorted" = true) (hm : C.G.mg "sorted" = none) (hg2 : glB C "set" = true) (hm2 : C.G.mg "set" = none) (ha : PEx C a da)
    (na : ∀ env, starEach [a] env = (false, eval a env) :: starEach [] env := by intro _; rfl) : PEx C (.Call (.Name "sorted" p) [.Call (.Name "set" p2) [a] [] q] [] pos) (dSortSet da) := fun X W hx => by
  refine pe_imp (SeX.pe_sortedSet hx.calm (glB_ok hg hx) (by rw [hx.mg]; exact hm) (glB_ok hg2 hx) (by rw [hx.mg]; exact hm2) (ha X W hx) (na X.env)) fun σ H Q ⟨φ, S, env, R, E, P⟩ => ?_
  refine ⟨φ, S, env, R, E, ?_⟩
  have P0 := P.bind
  cases qd : da env S with
  | bad => rw [qd] at P0; exact P0.elim
  | er y S1 => rw [qd] at P0; exact P0
  | ok x S1 =>
    rw [qd] at P0
    intro φ1 H1 n1 R1 v r1
    have P1 := P0 φ1 H1 n1 R1
    dsimp only at P1
    cases hi : (itemsD S1 x).bind intsOf with
    | none => rw [hi] at P1; exact P1.elim
    | some ns =>
      rw [hi] at P1
      obtain ⟨ds, hds, hns⟩ := Option.bind_eq_some_iff.mp hi
      obtain ⟨a, vs, rfl, sq, rs⟩ := items_kind R1 r1 hds
      have evs : vs = ns.map V.int := by
        rw [intsOf_eq hns] at rs
        exact (rel_ints rs)
      subst evs
      by_cases h64 : ns.length < 64
      · dsimp only at P1
        rw [if_pos h64] at P1
        refine ⟨kindD x, a, ns, rfl, by rw [hx.K]; exact sq, h64, fun ns' p hu hk hn => ?_⟩
        rw [strict_uniq (fun k => (hk k).trans (mem_srtU k ns).symm) hu (srtU_up ns)]
        obtain ⟨R2, n2⟩ := R1.push (o := .lst ((srtU ns).map D.int)) (u := .lst ((srtU ns).map V.int)) hn ⟨_, upd_same, ints_rel _⟩
        refine P1 _ _ n2 R2 _ ?_
        simp only [VRel]
        exact ⟨p, rfl, by rw [← R1.len]; simp⟩
      · dsimp only at P1
        rw [if_neg h64] at P1
        exact P1.elim
end Z

/-! Z50: an own exception whose __init__ hands a text to super().__init__ and stores its one value. -/
namespace Z
open PySem PySem.Spec PyProof.Rows L2
section
open PySem.W PySem.Calls
variable {P : Program} {w : World} {A : Around} {E : Value → Shared → Prop} {hp : Heap} {g : Array GenState} {dn : Drawn} {tk : Nat} {os : OsState}
variable {B newId initId : String} {bmB : List Value} {K : Frag} {C x u t0 : Addr}
/-- the bound __init__ of the built-in base is called: the args are laid anew -/
theorem xs_wrapped (FB : ExcBaseFacts B newId initId bmB) {us : List Value} {Q : Value → Shared → Prop} (X : K.In hp) (q : excInitIn K C bmB newId = true)
    (hu : hp.get? u = some (kxs_mw initId x)) (hx : hp.get? x = some (excObj C t0 none .none)) (hz : us.length ≤ sizeLine)
    (fin : ∀ hp' t1, (∀ b o, b ≠ x → hp.get? b = some o → hp'.get? b = some o) → hp'.get? x = some (excObj C t1 none .none) → Q .none ⟨hp', g, dn, tk, os⟩) :
    wpAny (model P w) A (call (.ref u) us) Q E ⟨hp, g, dn, tk, os⟩ := by
  obtain ⟨_, _, _, _, _, _, _, _, _, _, _, _, _, _, _, _, hC, _⟩ := excInit_of X q
  have ty : (Value.type "method-wrapper" == Value.type "method" || Value.type "method-wrapper" == Value.type "builtin_function_or_method" || Value.type "method-wrapper" == Value.type "method-wrapper") = true := by decide
  refine wpAny_call (codeAny_of_tree ?_)
  show wpAny _ A.in1 (callAny (.ref u) ⟨us, []⟩) _ _ _
  simp only [callAny]
  refine wpAny_bind (wpAny_load hu ?_)
  simp only [kxs_mw, ty, if_true]
  refine KFB.if_so (by decide) (wpAny_bind (check_bound_init FB.toExcCallFacts hC hx rfl ?_))
  refine wpAny_bind (wpAny_pure (wpAny_pure ⟨plainId_quiet FB.init.plain _, codeAny_builtin FB.initEntry ?_⟩))
  refine exc_init_tree (t0 := t0) (cls := .ref C) (dv := none) (c2 := .none) (c3 := .none) (b4 := .bool false) hx hz fun hp' k e' _ => ?_
  exact fin hp' _ k e'
/-- the first field -/
theorem xs_store (SF : StoreFacts B bmB "object.__setattr__" "object") {name : Str} {v : Value} {Q : Unit → Shared → Prop} (X : K.In hp) (q : excOver K C bmB = true) (hh : hasDictIn K C = true) (sa : findIn K (.ref C) "__setattr__" = some (some (.builtin "object.__setattr__")))
    (ht : takerIn K C name = some none) (hx : hp.get? x = some (excObj C t0 none .none))
    (fin : ∀ hp' tk' dx, (∀ b o, b ≠ x → hp.get? b = some o → hp'.get? b = some o) → hp.objs.size ≤ dx → dx ≠ x → hp'.get? x = some (excObj C t0 (some dx) .none) → hp'.Ns1 dx (fun y => if y = name then some v else none) → Q () ⟨hp', g, dn, tk', os⟩) :
    wpAny (model P w) A (setAttr (.ref x) name v) Q E ⟨hp, g, dn, tk, os⟩ := by
  have I : InstAt hp x (excObj C t0 none .none) C none := ⟨hx, rfl, rfl, trivial⟩
  have hlt : x < hp.objs.size := Heap.lt_size hx
  obtain ⟨cd, hc, hd⟩ := any_some hh
  refine set_plain X I sa (osa_openX (s := ⟨hp, g, dn, tk + 1, os⟩) SF X I q ht fun b => ?_)
  refine wpAny_bind (wpAny_pure (wpAny_bind (instanceDict_exc (s := ⟨hp, g, dn, tk + 1, os⟩) hx (looks_clsIn X hc) hd ?_)))
  show wpAny _ _ (Builtin.ObjectAttr.storeInDict hp.objs.size (.str name (tk + 1)) name v) _ _ _
  have hx1 : (hp.push (dictOf [] 0)).get? x = some (excObj C t0 none .none) := Heap.get?_push_of_some _ hx
  have hne : x ≠ hp.objs.size := Nat.ne_of_lt hlt
  refine HandSPX.store_in_new ?_ fun hp' tk' hn hs => ?_
  · exact ⟨_, #[], _, (Heap.get?_update_ne _ _ _ _ hne.symm).trans (Heap.get?_push_at rfl rfl), rfl, fun e he => absurd he (by simp), fun _ => rfl⟩
  · refine fin hp' tk' hp.objs.size (fun b o hb ho => ?_) (Nat.le_refl _) hne.symm ?_ hn
    · exact (hs.2 b (Nat.ne_of_lt (Heap.lt_size ho))).trans ((Heap.get?_update_ne _ _ _ _ hb).trans (Heap.get?_push_of_some _ ho))
    · exact (hs.2 x hne).trans (Heap.get?_update_self _ hx1 rfl)
end
end Z

/-! Z51: such an exception is made. -/
namespace Z
open PySem PySem.Spec PyProof.Rows L2
open PySem.W PySem.Calls

/-- the shape of the def: its text and its scope -/
structure XsShape (params : Arguments) (body : List Stmt) (scope : Scope) (v fld m : Str) : Prop where
  text : ∃ p0 p1 p2 p3 p4 p5 j q0 q1 q2 q3, (∀ env : Env, ∃ pl : Sem Bool, eval (.Call (.Attribute (.Call (.Name "super" p0) [] [] p1) "__init__" p2) [.Constant (.str m) j p3] [] p4) env = (do
      let ov ← attributeBase (.Call (.Name "super" p0) [] [] p1) "__init__" env (eval (.Call (.Name "super" p0) [] [] p1) env)
      standAt p2.atName
      let (f, first) ← holding [ov] (getMethod ov "__init__" pl)
      callWith p4 f first (backTo p4 (starEach [.Constant (.str m) j p3] env)) [])) ∧ body = [.Expr (.Call (.Attribute (.Call (.Name "super" p0) [] [] p1) "__init__" p2) [.Constant (.str m) j p3] [] p4) p5, .Assign [.Attribute (.Name "self" q0) fld q1] (.Name v q2) q3]
  head : ∃ ar : Arg, (params.posonlyargs ++ params.args).head? = some ar ∧ ar.arg = "self"
  sup : scope.names.lookup ("super" : Str) = some .globalImplicit
  cls : scope.names.lookup ("__class__" : Str) = some .free
  self : scope.names.lookup ("self" : Str) = some .local
  val : scope.names.lookup v = some .local
  kind : scope.kind = .function
  noCell : ∀ x ∈ scope.names, x.2 ≠ .cell
  co : scope.isCoroutine = false
  gen : scope.isGenerator = false
  ne : v ≠ ("self" : Str)
  db : (v == ("__debug__" : Str)) = false
  bind : ∀ (name qual : Str) (kV doc pm : Value) (an : Option Addr) (cdv ct : Value) (cc : Addr) (a b : Value), bindArgs (ksFn name qual params body scope .none kV doc pm an cdv ct cc) ⟨[a, b], []⟩ = pure [(("self" : Str), a), (v, b)]
/-- what the written part says of the class at C and of its __init__ -/
structure XsC (P : Program) (K : Frag) (C : Addr) (v fld m : Str) : Prop where
  base : ∃ (B newId initId : String) (bmB : List Value), ExcBaseFacts B newId initId bmB ∧ KxsFacts B initId ∧ StoreFacts B bmB "object.__setattr__" "object" ∧ excInitIn K C bmB newId = true ∧ excOver K C bmB = true ∧ subIn K (.ref C) (.type B) = some true ∧ ks_superIn K C C "__init__" = some (some (.builtin initId))
  hh : hasDictIn K C = true
  kC : keepIn K (.ref C) = true
  sa : findIn K (.ref C) "__setattr__" = some (some (.builtin "object.__setattr__"))
  tk : takerIn K C fld = some none
  me : mroIn K C (.ref C) = some true
  exC : subIn K (.ref C) (.type "BaseException") = some true
  tyC : typeIn K (.ref C) = some (.type "type")
  opq : nsIn K cStatics "thirdparty.any" = some none
  ini : ∃ (f cc cda : Addr) (name qual : Str) (params : Arguments) (body : List Stmt) (scope : Scope) (kV doc pm ct oc : Value) (an od : Option Addr) (osl : Array (Option Value)),
    findIn K (.ref C) "__init__" = some (some (.ref f)) ∧ typeIn K (.ref f) = some (.type "function") ∧ K.lookup f = some ⟨oc, od, .func (ksFn name qual params body scope .none kV doc pm an (.ref cda) ct cc), osl⟩ ∧ codeIn K (.ref cda) qual = true ∧ XsShape params body scope v fld m ∧
    (∃ (ccl : Value) (cdd : Option Addr) (vs : Array Value) (ccs : Array (Option Value)) (file : Str) (tf : Tok), K.lookup cda = some ⟨ccl, cdd, .fields vs, ccs⟩ ∧ vs[2]? = some (.str file tf) ∧ ((P.main.file : Str) == file) = true) ∧
    ∃ (cl : Value) (cld : Option Addr) (csl : Array (Option Value)), K.lookup cc = some ⟨cl, cld, .cell (some (.ref C)), csl⟩
theorem inter {env : Env} (h : env.scope.kind = .function) : interactive env = false := by
  unfold interactive
  rw [h]
  rfl
section
variable {X : Cx} {pins : List (Addr × Obj)} {σ : St} {H : Hp} {s : Shared} {Q : XK} {C : Addr} {v fld m : Str} {y : V} {u : Value} {k : Nat}
theorem xs_made (T : XsC X.prog X.K C v fld m) (I : Inv X pins σ H s) (ru : RelV y u) (hms : X.mg "super" = none) (htop : (X.prog.main.scope.names.lookup ("super" : Str)).isSome = false) (hr : Room (k + 1) X.A)
    (h : ∀ d, H d = none → Q (.ref C) (some d) (upd H d (.xd [(fld, y)]))) : wpAny (model X.prog X.w) X.A (call (.ref C) [u]) (MkP X pins σ Q) X.xe s := by
  obtain ⟨B, newId, initId, bmB, FB, KF, SF, hq, hqo, hsub, hsup⟩ := T.base
  obtain ⟨f, cc, cda, name, qual, params, body, scope, kV, doc, pm, ct, oc, an, od, osl, hf, tf, lf, hcd, Sh, ⟨ccl, cdd, vs, ccs, file, tfl, lc, hvs, hfile⟩, cl, cld, csl, lcc⟩ := T.ini
  obtain ⟨p0, p1, p2, p3, p4, p5, j, q0, q1, q2, q3, hcall, hbody⟩ := Sh.text
  obtain ⟨ar, har, har2⟩ := Sh.head
  obtain ⟨hp, g, dn, tk, os⟩ := s
  have XK : X.K.In hp := I.kIn
  obtain ⟨nm, N', qn, bs, bm, hdct, sn, sub, ab, col, dd, k0, k1, k2, k3, k5, hC, hT⟩ := excInit_of XK hq
  obtain ⟨cdC, hcl⟩ : ∃ cd, clsIn X.K C = some cd := by
    obtain ⟨cd, e, _⟩ := any_some T.hh
    exact ⟨cd, e⟩
  obtain ⟨oD, hD1, hD2⟩ : ∃ oD, hp.get? C = some oD ∧ oD.data = .cls cdC := by
    unfold clsIn at hcl
    split at hcl
    · rename_i c d cd' sl ho
      cases hcl
      exact ⟨_, XK _ _ ho, rfl⟩
    · cases hcl
  have hz : [u].length ≤ sizeLine := by show 1 ≤ sizeLine; rw [sizeLine_eq]; omega
  refine wpAny_call (HandSPX.call_own FB hT hC (looks_findIn XK hf) (fun self => bind_fn XK self tf) hz ?_)
  obtain ⟨e, ee⟩ : ∃ e, hp.objs.size + 1 = e := ⟨_, rfl⟩
  have kk : ∀ b o, hp.get? b = some o → ((hp.push (kdv_tup [u])).push (HandSPX.excO C hp.objs.size)).get? b = some o := fun b o z => Heap.get?_push_of_some _ (Heap.get?_push_of_some _ z)
  have ge : ((hp.push (kdv_tup [u])).push (HandSPX.excO C hp.objs.size)).get? e = some (excObj C hp.objs.size none .none) := by rw [← ee]; heap_get
  rw [ee]
  have hne : ∀ b o, hp.get? b = some o → b ≠ e := fun b o z q => Nat.ne_of_lt (Nat.lt_succ_of_lt (Heap.lt_size z)) (q.trans ee.symm)
  generalize (hp.push (kdv_tup [u])).push (HandSPX.excO C hp.objs.size) = h1 at *
  have X1 : X.K.In h1 := fun b o z => kk b o (XK b o z)
  refine ks_codeAny_call_defAt (fd := ksFn name qual params body scope .none kV doc pm an (.ref cda) ct cc) (body := body) (binds := [(("self" : Str), .ref e), (v, u)]) (hr.make C [u] []).depth (X1 _ _ lf) rfl (I.nolimit.keeps kk) (codeRec_of X1 hcd) rfl (BindsTo.of_eq (Sh.bind _ _ _ _ _ _ _ _ _ _ _)) Sh.noCell ?_ (fun h2 hns k2 => ?_) Sh.co Sh.gen Sh.kind
  · intro z hz
    rcases List.mem_cons.mp hz with q | q
    · rw [q]; exact Sh.self
    · rw [List.mem_singleton.mp q]; exact Sh.val
  subst hbody
  have X2 : X.K.In h2 := fun b o z => k2 b o (X1 b o z)
  have k02 : ∀ b o, hp.get? b = some o → h2.get? b = some o := fun b o z => k2 b o (kk b o z)
  have ge2 := k2 _ _ ge
  have IX : InstAt h2 e (excObj C hp.objs.size none .none) C none := ⟨ge2, rfl, rfl, trivial⟩
  obtain ⟨mb, b1, b2⟩ := I.mod.blt
  obtain ⟨pl, hcall⟩ := hcall (callEnv (ksFn name qual params [.Expr (.Call (.Attribute (.Call (.Name "super" p0) [] [] p1) "__init__" p2) [.Constant (.str m) j p3] [] p4) p5, .Assign [.Attribute (.Name "self" q0) fld q1] (.Name v q2) q3] scope .none kV doc pm an (.ref cda) ct cc) h1.objs.size f)
  refine ks_wpAt_execs_cons (ks_wpAt_Expr_any (ks_wpAt_MethodCall (pl := pl) (ks_wpAt_super_base (ar := ar) Sh.sup Sh.cls (by decide) rfl (X2 _ _ lf) rfl har rfl (X2 _ _ lc) rfl hvs hfile htop ?_) hcall) (inter Sh.kind))
  refine ks_loadName_global Sh.kind Sh.sup (Calls.loadGlobal_builtin (mg := X.mg) (mb := mb) (v := .type "super") ((I.mod.glob.keeps I.bk).keeps k02) hms ((b1.keeps I.bk).keeps k02) ((b2 _ (by decide)).trans (by kernel_rfl)) ⟨rfl, ?_⟩)
  refine wpAny_loadName_free Sh.kind Sh.cls rfl ⟨_, X2 _ _ lcc, rfl⟩ ?_
  rw [har2]
  have look1 : (List.lookup ("self" : Str) [(("self" : Str), Value.ref e), (v, u)].reverse) = some (.ref e) := by
    show List.lookup ("self" : Str) [(v, u), (("self" : Str), Value.ref e)] = _
    have n1 : (("self" : Str) == v) = false := by
      rw [beq_eq_false_iff_ne]; exact fun z => Sh.ne z.symm
    simp [List.lookup, n1]
  have look2 : (List.lookup v [(("self" : Str), Value.ref e), (v, u)].reverse) = some u := by
    show List.lookup v [(v, u), (("self" : Str), Value.ref e)] = _
    simp [List.lookup]
  refine wpAny_loadName_local Sh.kind Sh.self hns (v := .ref e) look1 ?_
  refine ks_wpAny_isType_cls (k02 _ _ hD1) hD2 ⟨rfl, ?_⟩
  refine ks_wpAny_call_super (k02 _ _ hD1) hD2 ge2 rfl (fun c z => nomatch z) (looks_mroIn X2 T.me) (fun h3 gs k23 => ?_)
  have X3 : X.K.In h3 := fun b o z => k23 b o (X2 b o z)
  have ge3 := k23 _ _ ge2
  have IX3 : InstAt h3 e (excObj C hp.objs.size none .none) C none := ⟨ge3, rfl, rfl, trivial⟩
  have hal : alongIn X.K "__init__" ((cdC.mro.dropWhile (· != .ref C)).drop 1) = some (some (.builtin initId)) := by
    unfold ks_superIn at hsup
    rw [hcl] at hsup
    exact hsup
  have heC : e ≠ C := fun z => hne _ _ hD1 z.symm
  refine kxs_getMethod KF gs (looks_opaque X3 T.opq) (l₀ := cdC.mro) (fun A Q E s k q => wpAny_bind ((looks_clsIn X3 hcl) A _ E s k (wpAny_pure q))) rfl X3 hal (IX3.type.andThen (looks_subIn X3 hsub)) heC (by decide) ?_
  have gu : (h3.push (kxs_mw initId e)).get? h3.objs.size = some (kxs_mw initId e) := Heap.get?_push_at rfl rfl
  have k34 : ∀ b o, h3.get? b = some o → (h3.push (kxs_mw initId e)).get? b = some o := fun b o z => Heap.get?_push_of_some _ z
  obtain ⟨qa, hqa⟩ : ∃ qa, h3.objs.size = qa := ⟨_, rfl⟩
  rw [hqa] at gu ⊢
  generalize h3.push (kxs_mw initId e) = h4 at *
  refine kxs_callWith (i := initId) (x := e) rfl (evalArgs_plain (Calls.spliced_cons (Calls.Constant_str (k := j) (pos := p3) (Calls.spliced_nil ⟨gu, ?_⟩))))
  have X4 : X.K.In h4 := fun b o z => k34 b o (X3 b o z)
  refine xs_wrapped FB X4 hq gu (k34 _ _ ge3) (by show 1 ≤ sizeLine; rw [sizeLine_eq]; omega) fun h5 t1 k45 ge5 => ?_
  have X5 : X.K.In h5 := fun b o z => k45 b o (hne b o (XK b o z)) (X4 b o z)
  have eL : e < h1.objs.size := Heap.lt_size ge
  have nL : h1.objs.size ≠ e := fun z => by omega
  have hns5 : h5.Ns h1.objs.size (fun x => List.lookup x [(("self" : Str), Value.ref e), (v, u)].reverse) := by
    obtain ⟨oL, es, ep, hL, r⟩ := hns
    exact ⟨oL, es, ep, k45 _ _ nL (k34 _ _ (k23 _ _ hL)), r⟩
  refine wpAt_of_wpAny (wpAny_execs_cons (plainObj_wpAny_Assign_Attribute (wpAny_Name (wpAny_loadName_local Sh.kind Sh.val hns5 look2 (wpAny_Name (wpAny_loadName_local Sh.kind Sh.self hns5 look1 ?_))) Sh.db)))
  refine xs_store SF X5 hqo T.hh T.sa T.tk ge5 fun h6 tk' dx k56 sz dne ge6 hn6 => wpAny_execs_nil ⟨rfl, ?_⟩
  have k05 : ∀ b o, hp.get? b = some o → h5.get? b = some o := fun b o z => k45 b o (hne b o z) (k34 _ _ (k23 _ _ (k02 b o z)))
  have k06 : ∀ b o, hp.get? b = some o → h6.get? b = some o := fun b o z => k56 b o (hne b o z) (k05 b o z)
  have h56 : hp.objs.size ≤ dx := by
    have := Heap.lt_size ge5
    have : e ≤ dx := Nat.le_trans (Nat.le_of_lt this) sz
    omega
  obtain ⟨G, g1, g2⟩ := restrict h6 fun b => decide (b ≠ e)
  have gk : ∀ b, b ≠ e → G.get? b = h6.get? b := fun b hb => g1 b (decide_eq_true hb)
  have gn : G.get? e = none := g2 e (by simp)
  have hdx : H dx = none := I.hok.fresh h56
  have hex : H e = none := I.hok.fresh (by show hp.objs.size ≤ e; omega)
  have J : Inv X pins σ (upd H dx (.xd [(fld, y)])) ⟨G, g, dn, tk', os⟩ := by
    refine I.laid (t' := tk') (h' := G) (a := dx) (o := .xd [(fld, y)]) (fun b o z => ?_) h56 ?_
    · rw [gk b (hne b o z)]; exact k06 b o z
    · refine ⟨_, hn6.at fun o z => ?_, fun n => ?_⟩
      · rw [gk dx dne]; exact z
      · exact relO_put (fs := []) (mA := fun _ => none) ru (fun _ => True.intro) n
  refine ⟨e, _, _, ⟨G, g, dn, tk', os⟩, upd H dx (.xd [(fld, y)]), .ref C, some dx, rfl, J, fun b o z => ?_, gn, ge6, ⟨rfl, rfl⟩, rfl, rfl, ?_, rfl, I.bare, raises_own T.exC T.tyC, h dx hdx⟩
  · by_cases hb : b = e
    · rw [hb, gn] at z; cases z
    · rw [← gk b hb]; exact z
  · rw [upd_ne (Ne.symm dne)]; exact hex
end
end Z

/-! Z52: try with clauses of both kinds, with a name and without. -/
namespace Z
open PySem PySem.Spec PyProof.Rows L2
/-- a clause: the class, the slot of its name, what its suite does -/
structure Cl where
  c : Value
  slot : Option Nat
  ts : Addr → Value → Option Addr → TS
def clEnd (i : Option Nat) (D : Ends) : Ends := match i with
  | none => D
  | some i => { nx := fun τ H => D.nx (τ.set i none) H, rt := D.rt, bk := fun τ H => D.bk (τ.set i none) H, ct := fun τ H => D.ct (τ.set i none) H }
def clSt (i : Option Nat) (a : Addr) (σ : St) : St := match i with
  | none => σ
  | some i => σ.set i (some (.ref a))
def wCls (K : PySem.W.Frag) (Wo : WX) (D : Ends) : List Cl → WX
  | [] => Wo
  | z :: zs => fun cls d σ H => ∃ b, PySem.W.exmOne K cls z.c = some b ∧ (b = true → ∀ a, H a = none → z.ts a cls d (clEnd z.slot D) (clSt z.slot a σ) H) ∧ (b = false → wCls K Wo D zs cls d σ H)
def clNm (X : Cx) : Option Str → Option Nat → Prop
  | none, none => True
  | some n, some i => X.N[i]? = some n ∧ X.env.kindOf n = some .local
  | _, _ => False
inductive ClsOk (X : Cx) : List ExceptHandler → List Cl → Prop
  | nil : ClsOk X [] []
  | cons {x : Str} {nm : Option Str} {z : Cl} {st0 : Stmt} {sts : List Stmt} {p p' : Pos} {hs : List ExceptHandler} {zs : List Cl} (hc : Names X x z.c) (hn : clNm X nm z.slot)
      (su : ∀ (a : Addr) (oe : Obj) (cls : Value) (d : Option Addr) (pn : List (Addr × Obj)), Zc cls d oe → (∃ vs, oe.data = .fields vs) → PSs (X.suite a ((a, oe) :: pn)) (st0 :: sts) (z.ts a cls d)) (r : ClsOk X hs zs) :
      ClsOk X (.ExceptHandler (some (.Name x p)) nm (st0 :: sts) p' :: hs) (z :: zs)
section
variable {X : Cx} {body : List Stmt} {h0 : ExceptHandler} {hs : List ExceptHandler} {zs : List Cl} {pos : Pos} {tb : WX → TS} {Wo : WX}
/-- out of the body into the clauses -/
theorem ps_tryZ (st : X.stack = X.env :: X.outer) (fr : X.env.frame = some X.env.locals) (nd : X.N.Nodup) (tk : Takes X Wo)
    (hb : ∀ (W : WX) (pn : List (Addr × Obj)) (xe : Value → Shared → Prop), Takes (X.tr pn xe) W → PassesOwn (model X.prog X.w) X.A X.env xe → PSs (X.tr pn xe) body (tb W))
    (hh : ClsOk X (h0 :: hs) zs) : PS X (.Try body (h0 :: hs) [] [] pos) (fun D σ H => tb (wCls X.K Wo D zs) D σ H) := by
  refine ⟨fun pins s σ H D I w0 => ?_⟩
  have okX := I.ok
  have frm : X.A.frames = some (X.env :: X.outer) := by rw [okX.frames, st]
  -- the clauses, tried one behind another, the exception noted by this frame
  have tries : ∀ {a : Addr} {B : Heap} {sI s' : Shared} {σ' : St} {H' : Hp} {cls : Value} {d : Option Addr} {hp3 : Heap}, Inv X pins σ' H' sI → (∀ b o, sI.heap.get? b = some o → b ∉ frs X.stack → B.get? b = some o) → sI.heap.UpToSlots hp3 → s'.os = sI.os → AllBare s'.gens →
      H' a = none → HandSPX.FlyingZ B (X.env :: X.outer) a (Zc cls d) hp3 → ∀ {es : List ExceptHandler} {ys : List Cl}, ClsOk X es ys → wCls X.K Wo D ys cls d σ' H' → wpAny (model X.prog X.w) X.A (handleBy (.ref a) X.env es) (SP X pins D) X.xe { s' with heap := hp3 } := by
    intro a B sI s' σ' H' cls d hp3 J nb up3 eo bare na fl es ys hk
    obtain ⟨oe3, vs3, he3, hz3, hd3⟩ := fl.there
    have J3 : Inv X pins σ' H' { s' with heap := hp3 } := J.landed nb fl.1 up3 eo bare
    have apart : ∀ {o : Obj} {vs : Array Value}, hp3.get? a = some o → o.data = .fields vs → a ∉ frs (X.env :: X.outer) := fun {o vs} e1 e2 hm => by
      obtain ⟨_, o', e3, e4⟩ := fl.2.2.1.mem hm
      rw [e1] at e3
      cases e3
      exact e4 _ e2
    have out := apart he3 hd3
    have nL : a ≠ X.env.locals := fun e => out (List.mem_filterMap.mpr ⟨X.env, List.mem_cons_self, by rw [fr, e]⟩)
    have nF : a ∉ X.fs := fun e => out (by
      obtain ⟨ev, h1, h2⟩ := List.mem_filterMap.mp e
      exact List.mem_filterMap.mpr ⟨ev, List.mem_cons_of_mem _ h1, h2⟩)
    have S3 := J3.suite he3 hd3 na nL nF
    induction hk with
    | nil =>
      intro w
      refine wpAny_handleBy_nil ?_
      obtain ⟨_, _, _, _, _, T, _, _, e1, _, e2, e3, _⟩ := id fl
      have last : wpAny (model X.prog X.w) X.A (setFlight (.ref a) X.env.frame) (fun _ s4 => wpAny (model X.prog X.w) X.A (throw (.ref a) : Sem Flow) (SP X pins D) X.xe s4) X.xe { s' with heap := hp3 } := by
        rw [fr]
        exact HandSPX.setFlight_upZ fl fun hp4 hd4 up4 => wpAny_throw (tk _ _ ⟨a, B, sI, pins, σ', H', cls, d, rfl, J, nb, up3.trans up4, .inr (.inr (by rw [st]; exact hd4)), na, eo, bare, w⟩)
      unfold PySem.passOn
      refine wpAny_bind (wpAny_field e1 e2 e3 ?_)
      rw [if_neg (show ¬ ((Value.ref T == Value.none) = true) by simp)]
      first
        | exact wpAny_bind (wpAny_pure (wpAny_bind last))
        | exact wpAny_bind last
    | @cons x nm z st0 sts p p' es' ys' hc hn su r ih =>
      intro w
      obtain ⟨b, q1, yes, no⟩ := w
      refine wpAny_handleBy_cons (codeAny_handlers_test ?_) (by intro q; cases q)
      have ty : PySem.W.Looks (model X.prog X.w) hp3 (typeOf (.ref a)) cls := fun A Q E s k q => wpAny_typeOf_ref (k _ _ he3) (by rw [hz3.1]; exact q)
      have mt := PySem.W.exm_one (M := model X.prog X.w) (J3.kIn) ty q1
      have named : ∀ {Q E : Value → Shared → Prop}, Q z.c { s' with heap := hp3 } → wpAny (model X.prog X.w) (X.A.mark (some (.ref a))) (eval (.Name x p) X.env) Q E { s' with heap := hp3 } := fun {Q E} q => by
        obtain ⟨g1, g2, g3 | ⟨g3, g4, g5⟩⟩ := hc
        · exact ld_glob (X := X.suite a ((a, oe3) :: (X.pn ++ pins))) S3 g1 g3 q g2
        · exact ld_blt (X := X.suite a ((a, oe3) :: (X.pn ++ pins))) S3 g1 g3 g4 q g5 g2
      refine named (mt.here ?_)
      cases b with
      | false => exact ih (no rfl)
      | true =>
        have w2 := yes rfl a na
        cases nm with
        | none =>
          cases hz : z.slot with
          | some i => rw [hz] at hn; exact hn.elim
          | none =>
            rw [hz] at w2
            refine codeAny_handlers_suite (HandSPX.lands_againZ fl fun hp4 fl4 up4 => ?_)
            obtain ⟨oe4, vs4, he4, hz4, hd4⟩ := fl4.there
            have J4 : Inv X pins σ' H' { s' with heap := hp4 } := J.landed nb fl4.1 (up3.trans up4) eo bare
            have S4 := J4.suite he4 hd4 na nL nF
            refine wpAny_mono ((su a oe4 cls d (X.pn ++ pins) hz4 ⟨_, hd4⟩).run [] _ _ H' _ S4 w2) (fun f s6 e6 => ?_) fun _ _ e6 => e6.elim
            cases f with
            | next => obtain ⟨_, _, S6, q6⟩ := e6; exact ⟨_, _, S6.unsuite okX, q6⟩
            | brk => obtain ⟨_, _, S6, q6⟩ := e6; exact ⟨_, _, S6.unsuite okX, q6⟩
            | cont => obtain ⟨_, _, S6, q6⟩ := e6; exact ⟨_, _, S6.unsuite okX, q6⟩
            | ret u => obtain ⟨_, _, _, S6, r6, q6⟩ := e6; exact ⟨_, _, _, S6.unsuite okX, r6, q6⟩
        | some n =>
          cases hz : z.slot with
          | none => rw [hz] at hn; exact hn.elim
          | some i =>
            rw [hz] at w2 hn
            obtain ⟨n1, n2⟩ := hn
            refine codeAny_handlers_suite_as (HandSPX.lands_againZ fl fun hp4 fl4 up4 => ?_)
            obtain ⟨oe4, vs4, he4, hz4, hd4⟩ := fl4.there
            have J4 : Inv X pins σ' H' { s' with heap := hp4 } := J.landed nb fl4.1 (up3.trans up4) eo bare
            have S4 := J4.suite he4 hd4 na nL nF
            refine store_ok (X := X.suite a ((a, oe4) :: (X.pn ++ pins))) (v := .ref a) S4 nd n1 (.inl n2) rfl (fun s5 S5 => ?_) (.inr n2)
            refine wpAny_mono ((su a oe4 cls d (X.pn ++ pins) hz4 ⟨_, hd4⟩).run [] s5 _ H' _ S5 w2) (fun f s6 e6 => ?_) fun _ _ e6 => e6.elim
            have fin : ∀ {σ6 : St} {H6 : Hp} {Q : Shared → Prop}, Inv (X.suite a ((a, oe4) :: (X.pn ++ pins))) [] σ6 H6 s6 → (∀ s7, Inv X pins (σ6.set i none) H6 s7 → Q s7) → wpAny (model X.prog X.w) X.A (do bindName X.env n .none; unbindBehindTheSuite X.env n p') (fun _ s7 => Q s7) X.xe s6 :=
              fun {σ6 H6 Q} S6 q6 => gone_ok (S6.unsuite okX) nd n1 n2 q6
            cases f with
            | next => obtain ⟨_, _, S6, q6⟩ := e6; exact fin S6 fun s7 J7 => ⟨_, _, J7, q6⟩
            | brk => obtain ⟨_, _, S6, q6⟩ := e6; exact fin S6 fun s7 J7 => ⟨_, _, J7, q6⟩
            | cont => obtain ⟨_, _, S6, q6⟩ := e6; exact fin S6 fun s7 J7 => ⟨_, _, J7, q6⟩
            | ret u => obtain ⟨_, _, _, S6, r6, q6⟩ := e6; exact fin S6 fun s7 J7 => ⟨_, _, _, J7, r6, q6⟩
  refine wpAny_Try_except ?_
  refine wpAny_mono ((hb (wCls X.K Wo D zs) (X.pn ++ pins) (fun u s1 => wpAny (model X.prog X.w) X.A (noteFrame u X.env) (fun _ s2 => wpAny (model X.prog X.w) X.A (setFlight u none) (fun _ s3 => wpAny (model X.prog X.w) X.A (handleBy u X.env (h0 :: hs)) (SP X pins D) X.xe s3) X.xe s2) X.xe s1)
    (fun u s' air => ?_) PassesOwn.looking).run [] s σ H D (I.toTry _) w0) (fun f s1 e1 => ?_) (fun _ _ e1 => e1)
  · obtain ⟨a, B, sI, _, σ', H', cls, d, rfl, J', nb, up, sky, na, eo, bare, w⟩ := air
    have J : Inv X pins σ' H' sI := J'.ofTry okX
    refine Sky.land Zc.steady frm fr (by rw [← st]; exact sky) fun hp3 fl3 up3 => ?_
    exact tries J nb (up.trans up3) eo bare na fl3 hh w
  · cases f with
    | next => obtain ⟨_, _, J', q⟩ := e1; exact wpAny_execs_nil ⟨_, _, J'.ofTry okX, q⟩
    | brk => obtain ⟨_, _, J', q⟩ := e1; exact ⟨_, _, J'.ofTry okX, q⟩
    | cont => obtain ⟨_, _, J', q⟩ := e1; exact ⟨_, _, J'.ofTry okX, q⟩
    | ret u => obtain ⟨_, _, _, J', r, q⟩ := e1; exact ⟨_, _, _, J'.ofTry okX, r, q⟩
end
end Z

/-! Z53: defs that may ask for a text of nested data: their promise holds where no such text is being made. -/
namespace Z
open PySem PySem.Spec PyProof.Rows L2 He
structure FnG (G : Glo) (k : Nat) (f : Addr) (fd : FuncData) (ps : List Str) (sp : Sp) : Prop where
  len : ∀ vs H Q E, sp vs H Q E → vs.length = ps.length
  run : ∀ (A : Around) (outer : List Env) (s : Shared) (H : Hp) (args : Args) (us : List Value) (vs : List V) (Q : VK) (E : XK), A.guards = some [] → Room k A → Env0 G.P G.w G.K G.mg G.base A outer s H → BindsTo s fd args (ps.zip us) → Vals vs us → sp vs H Q E →
    codeAny (model G.P G.w) A (.call (.ref f) args) (CR (L2.CX G.P G.w) outer G.P G.w H s Q E) s
theorem FnG.imp {G : Glo} {k : Nat} {f : Addr} {fd : FuncData} {ps : List Str} {sp sp' : Sp} (F : FnG G k f fd ps sp) (h : ∀ vs H Q E, sp' vs H Q E → sp vs H Q E) : FnG G k f fd ps sp' :=
  ⟨fun vs H Q E q => F.len vs H Q E (h _ _ _ _ q), fun A o s H a us vs Q E g hr e b r q => F.run A o s H a us vs Q E g hr e b r (h _ _ _ _ q)⟩
structure FnIsG (G : Glo) (k : Nat) (x : Str) (n : Nat) (F : Fn) : Prop where
  ex : ∃ (f : Addr) (fd : FuncData) (ps : List Str), ps.length = n ∧ FnG G k f fd ps (spD G n F) ∧ G.mg x = some (.ref f) ∧ PySem.W.keepIn G.K (.ref f) = true ∧ Binds G.K fd ps []
section
variable {G : Glo} {x qual : Str} {params : Arguments} {body : List Stmt} {scope : Scope} {dvs : List V} {kws : List (Str × V)} {f : Addr} {fd : FuncData} {N ps : List Str} {k n : Nat} {b : DS}
theorem fn_okG (F : FunD G.K x qual params body scope dvs kws f fd) (Sc : FnScope N ps scope) (hn : ps.length = n) (hb : PSsx ⟨G, k, N, scope, fun _ => true, some (qual ++ ".<locals>.", codeF G.K f), true⟩ body b) : FnG G (k + 1) f fd ps (spD G n (mkFn N.length b)) := by
  obtain ⟨oc, od, dV, kV, doc, pm, an, cdv, ct, osl, rfl, lk, hcd, _, _⟩ := F.ex
  have hc : cdv = .ref (codeF G.K f) := by
    unfold codeF
    rw [lk]
    unfold PySem.W.codeIn at hcd
    split at hcd
    · rfl
    · cases hcd
  have hlen : ∀ vs H Q E, spD G n (mkFn N.length b) vs H Q E → vs.length = ps.length := fun vs H Q E ⟨φ, S, ds, R, r, e, _⟩ => by rw [← r.length, e, hn]
  refine ⟨hlen, fun A outer s H args us vs Q E hg hr e0 hbd rv sp => LamX.run_ofS lk hcd Sc hr e0 hbd rv (hlen _ _ _ _ sp) fun hr' => ?_⟩
  obtain ⟨φ, S, ds, R, r, e, P⟩ := sp
  refine ⟨_, hb _ (fun cls d _ H => E cls d H) ⟨rfl, rfl, rfl, rfl, rfl, rfl, rfl, rfl, hr', rfl, takes_of rfl rfl rfl rfl, passes_of rfl, (fun q c z => by cases z; exact ⟨rfl, hc⟩), (fun _ => hg), (fun _ _ _ _ _ z => z)⟩, φ, S, _, R, ERel.start r, ?_⟩
  have P0 := P.bind
  have P1 : Pst G (fun c p H' => ∀ σ' : St, E c p H') φ H (fun φ1 H1 S1 a => Pst G E φ1 H1 (fun φ' H' _ r => ∀ v, VRel G φ' H' r v → Q v H') (match a with
      | .rt d => .ok d S1
      | .nx _ => .ok .non S1
      | _ => .bad)) (b (ds.map some ++ List.replicate (N.length - ds.length) none) S) := by
    cases q : b (ds.map some ++ List.replicate (N.length - ds.length) none) S with
    | ok a S1 => rw [q] at P0; exact P0
    | er y S1 => rw [q] at P0; exact fun φ1 H1 n1 R1 cls dd xr _ => P0 φ1 H1 n1 R1 cls dd xr
    | bad => rw [q] at P0; exact P0
  refine P1.imp fun φ1 H1 S1 fl n1 R1 P2 => ?_
  cases fl with
  | nx e => exact fun σ1 E1 => Pst.now P2 R1 .non (by simp only [VRel])
  | rt d => exact Pst.now P2 R1
  | bk e => exact P2.elim
  | ct e => exact P2.elim
end
section
variable {cs : List Ck} {fn : List Df} {cl : List Str} {tf : Tf} {pr : Program} {G : Glo} {i j k n : Nat} {d : Df} {y : Str} {N ps : List Str} {b : DS}
theorem Hyp.fnIsG (h : Hyp cs fn cl tf pr G) (i j : Nat) (hd : fn[i]? = some d) (ha : d.ad G.K = ga G.K y) (hc : cs[j]? = some (ckFa (.glo y))) (Sc : FnScope N ps d.scope) (hn : ps.length = n)
    (hbi : ∀ (kV doc pm : Value) (an : Option Addr) (cdv ct : Value) (us : List Value), us.length = ps.length → bindArgs (PySem.W.fnOf d.name d.qual d.params d.body d.scope .none kV doc pm an cdv ct) ⟨us, []⟩ = pure (ps.zip us))
    (hb : PSsx ⟨G, k, N, d.scope, fun _ => true, some (d.qual ++ ".<locals>.", codeF G.K (d.ad G.K)), true⟩ d.body b) (hv : d.dvs = [] := by rfl) (hcl : d.clo = [] := by rfl) : FnIsG G (k + 1) y n (mkFn N.length b) := by
  obtain ⟨fd, F⟩ := h.def_ i hd hcl
  rw [hv] at F
  exact ⟨_, fd, ps, hn, fn_okG F Sc hn hb, by rw [ha]; exact h.glo j hc, F.kp, F.bindsN hbi⟩
end
section
variable {C : Cp} {e : Expr} {es : List Expr} {dr : DA} {x : Str} {p pos : Pos} {k n : Nat} {F : Fn}
theorem run_fnG {X : Cx} {W : WX} {f : Addr} {fd : FuncData} {ps : List Str} {sp : Sp} {pins : List (Addr × Obj)} {σ : St} {H : Hp} {s : Shared} {Q : VK} {us : List Value} {vs : List V} (hx : Cxt C W X) (hgd : C.gd = true) (F : FnG C.G k f fd ps sp) (hk : k ≤ C.k) (hb : Binds C.G.K fd ps [])
    (I : Inv X pins σ H s) (r : Vals vs us) (h : sp vs H Q (WE W σ)) : wpAny (model X.prog X.w) X.A (call (.ref f) us) (EP X pins σ Q) X.xe s := by
  have hl : us.length = ps.length := by rw [← r.length]; exact F.len _ _ _ _ h
  have b := hb s us (by rw [← hx.K]; exact I.kIn) (by rw [List.append_nil]; exact hl)
  rw [List.append_nil] at b
  have e0 : Env0 C.G.P C.G.w C.G.K C.G.mg C.G.base X.A X.stack s H := by rw [← hx.prog, ← hx.w, ← hx.K, ← hx.mg, ← hx.base]; exact I.env0
  have go := F.run X.A X.stack s H ⟨us, []⟩ us vs Q (WE W σ) (hx.gd hgd) (hx.room.mono hk) e0 b r h
  rw [← hx.prog, ← hx.w] at go
  refine wpAny_call (codeAny_mono go fun r s' hq => ?_)
  cases r with
  | error e => exact passAt hx.takes σ pins H s e s' I hq
  | ok fl =>
    cases fl with
    | ret u => exact I.after hq
    | next => exact False.elim hq
    | brk => exact False.elim hq
    | cont => exact False.elim hq
theorem pex_clG {e : Expr} {es : List Expr} (h : FnIsG C.G k x n F) (hk : Nat.ble k C.k = true) (hg : okG C x = true) (hgd : C.gd = true) (ha : PAx C (e :: es) dr) (hn : LenIs dr n)
    (he : ∀ env, starEach (e :: es) env = (false, eval e env) :: starEach es env := by intro _; rfl) (hpl : ∀ env, (backTo pos (starEach es env)).any (·.1) = false := by intro _; rfl) : PEx C (.Call (.Name x p) (e :: es) [] pos) (dCall F dr) := fun X W hx => by
  obtain ⟨g1, g2⟩ := ba hg
  obtain ⟨f, fd, ps, _, ok, hm, kp, hb⟩ := h.ex
  refine ⟨fun pins s σ H Q I ⟨φ, S, env, R, E, P⟩ => ?_⟩
  refine wpAny_Call_Name_kw (ld_glob I (glB_ok g1 hx) (by rw [hx.mg]; exact hm) ?_ (nb g2))
  have P0 := P.bind
  have rd : rdA C.G W dr σ H fun vs H1 => spD C.G n F vs H1 Q (WE W σ) := by
    cases q : dr env S with
    | bad => rw [q] at P0; exact P0.elim
    | er y S1 => rw [q] at P0; exact ⟨φ, S, env, R, E, by rw [q]; exact P0⟩
    | ok xs S1 =>
      rw [q] at P0
      refine ⟨φ, S, env, R, E, ?_⟩
      rw [q]
      exact fun φ1 H1 n1 R1 vs rs => ⟨φ1, S1, xs, R1, rs, hn env S xs S1 q, P0 φ1 H1 n1 R1⟩
  refine PySem.W.callWith_K (h₀ := X.base) I.ok.mod.kin (by rw [hx.K]; exact kp) (thn ((ha X W hx).run pos pins s σ H _ I rd) fun us s1 ⟨vs, H1, I1, r, q⟩ => ⟨I1.kIn, ?_⟩) (he X.env) (hpl X.env)
  exact run_fnG hx hgd ok (Nat.le_of_ble_eq_true hk) hb I1 r q
end
end Z

/-! Z54: the end of a law whose def knows that no text is being made. -/
namespace Z
open PySem PySem.Spec PyProof.Rows L2 He
section
variable {P : Program} {w : World} {K : PySem.W.Frag} {mg mb : Str → Option Value} {k : Nat} {fa a : Addr} {cs : List (Addr × Addr)} {fd : FuncData} {x : Str} {sp : Sp} {s1 : Shared} {vs : List Value} {ns : List Int} {ad : Nat → Addr} {T : List (Addr × Str)}
/-- what is tracked at the entry: the empty tables, the script unless the module keeps it -/
def hp0 (K : PySem.W.Frag) (cs : List (Addr × Addr)) (a : Addr) (o : Obj) (ns : List Int) : Hp := fun b => if b ∈ cs.map (·.2) then some (.tbl #[]) else if b = a ∧ K.lookup a = none then some (.frz o (.lst (ns.map V.int))) else none
theorem law_callG (KX : K.In s1.heap) (hns : s1.heap.Ns mainGlobals mg) (hb : s1.heap.Ns builtinsNs mb) (hbb : ∀ x : Str, x ≠ "__name__" → mb x = bootBuiltins x) (hlim : s1.heap.NoLimit) (hg : s1.gens = #[])
    (hT : ∀ p ∈ cs, s1.heap.get? p.2 = some { cls := .none, data := .fields #[] }) (nT : ∀ p ∈ cs, K.lookup p.2 = none) (hC : ∀ p ∈ cs, PySem.W.CodeHd s1.heap p.1 p.2)
    (hbm : ∃ (bm : Addr) (ob : Obj), mg "__builtins__" = some (.ref bm) ∧ bm ≠ builtinsNs ∧ s1.heap.get? bm = some ob ∧ ob.cls = .type "module" ∧ ob.dict = some builtinsNs ∧ ob.data = .plain)
    (ha : s1.heap.get? a = some { cls := .type "list", data := .seq vs.toArray }) (hi : IntsAre vs ns) (hl : ns.length ≤ sizeLine) (hr : Room k callerA)
    (F : ∀ base : Heap, K.In base → base.Ns mainGlobals mg → (∀ p ∈ cs, LamX.TabB base mg p.1 p.2) → FnG ⟨P, w, K, mg, base, ad, T⟩ k fa fd [x] sp) (hbind : ∀ (s : Shared) (u : Value), BindsTo s fd ⟨[u], []⟩ [(x, u)])
    (hsp : ∀ H : Hp, (∀ p ∈ cs, H p.2 = some (.tbl #[])) → SqL K H a (ns.map V.int) → sp [.ref a] H (fun v _ => v = .bl true) fun _ _ _ => False) :
    codeAny (model P w) callerA (.call (.ref fa) ⟨[.ref a], []⟩) (fun r s' => r = .ok (.ret (.bool true)) ∧ OldK s1.heap s'.heap ∧ s'.os = s1.os ∧ AllBare s'.gens) s1 := by
  have rv := vals_ints hi
  have lenV := hi.length
  obtain ⟨H, eH⟩ : ∃ H, hp0 K cs a { cls := .type "list", data := .seq vs.toArray } ns = H := ⟨_, rfl⟩
  have atT : ∀ b ∈ cs.map (·.2), s1.heap.get? b = some { cls := .none, data := .fields #[] } ∧ K.lookup b = none := fun b hm => by
    obtain ⟨p, hp, rfl⟩ := List.mem_map.mp hm
    exact ⟨hT p hp, nT p hp⟩
  have inT : ∀ p ∈ cs, p.2 ∈ cs.map (·.2) := fun p hp => List.mem_map.mpr ⟨p, hp, rfl⟩
  have aT : a ∉ cs.map (·.2) := fun z => by
    have q := (atT a z).1
    rw [ha] at q
    have := congrArg Obj.data (Option.some.inj q)
    cases this
  -- H, case by case
  have hTb : ∀ b ∈ cs.map (·.2), H b = some (.tbl #[]) := fun b hm => by rw [← eH]; exact if_pos hm
  have hA : K.lookup a = none → H a = some (.frz { cls := .type "list", data := .seq vs.toArray } (.lst (ns.map V.int))) := fun hk => by
    rw [← eH]; unfold hp0; rw [if_neg aT, if_pos ⟨rfl, hk⟩]
  have hN : ∀ b, b ∉ cs.map (·.2) → ¬ (b = a ∧ K.lookup a = none) → H b = none := fun b h1 h2 => by
    rw [← eH]; unfold hp0; rw [if_neg h1, if_neg h2]
  have cases3 : ∀ b, b ∈ cs.map (·.2) ∨ (b = a ∧ K.lookup a = none) ∨ H b = none := fun b => by
    by_cases h1 : b ∈ cs.map (·.2)
    · exact .inl h1
    · by_cases h2 : b = a ∧ K.lookup a = none
      · exact .inr (.inl h2)
      · exact .inr (.inr (hN b h1 h2))
  have sq : SqL K H a (ns.map V.int) := by
    cases hk : K.lookup a with
    | none => exact .inl (.inr ⟨_, hA hk⟩)
    | some o =>
      have e := KX a o hk
      rw [ha] at e
      cases e
      exact .inr ⟨_, vs.toArray, _, hk, rfl, rfl, rfl, by rw [List.size_toArray, lenV]; exact hl, by simpa using rv⟩
  have hok : HOk P w H s1.heap := fun b u z => by
    rcases cases3 b with h | ⟨h, hk⟩ | h
    · rw [hTb b h] at z
      cases z
      exact (atT b h).1
    · subst h
      rw [hA hk] at z
      cases z
      exact ⟨ha, by rw [List.length_map]; exact hl, vs, _, rv, ha⟩
    · rw [h] at z; cases z
  -- an object that is neither a list nor an empty record is not tracked
  have free : ∀ {b : Addr} {o : Obj}, s1.heap.get? b = some o → (∀ us n, o.data ≠ .seq us n) → o.data ≠ .fields #[] → H b = none := fun {b o} e h1 h2 => by
    rcases cases3 b with h | ⟨h, _⟩ | h
    · rw [(atT b h).1] at e
      cases e
      exact (h2 rfl).elim
    · rw [h, ha] at e
      cases e
      exact (h1 _ _ rfl).elim
    · exact h
  have keepD : ∀ {b : Addr} {o : Obj} {es : Array DictEntry} {ep : Nat}, s1.heap.get? b = some o → o.data = .dict es ep → (hidT s1.heap H).get? b = some o := fun {b o es ep} e d =>
    hidT_get e (free e (fun us n z => by rw [d] at z; cases z) fun z => by rw [d] at z; cases z)
  have keepN : ∀ {b : Addr} {m : Str → Option Value}, s1.heap.Ns b m → (hidT s1.heap H).Ns b m := fun ⟨o, es, ep, e, d, r⟩ => ⟨o, es, ep, keepD e d, d, r⟩
  have KB : K.In (hidT s1.heap H) := fun b o e => hidT_get (KX b o e) (by
    rcases cases3 b with h | ⟨h, hk⟩ | h
    · rw [(atT b h).2] at e; cases e
    · rw [h, hk] at e; cases e
    · exact h)
  have md : L2.Mod K mg (hidT s1.heap H) := ⟨KB, keepN hns, ⟨mb, keepN hb, hbb⟩, let ⟨mc, h1, h2⟩ := hlim; ⟨mc, keepN h1, h2⟩⟩
  have TB : ∀ p ∈ cs, LamX.TabB (hidT s1.heap H) mg p.1 p.2 := fun p hp => by
    have tp := hT p hp
    refine ⟨?_, ?_, fun z => ?_⟩
    · obtain ⟨o, us, file, tfl, flags, tg, inF, text, tt, e1, r1, r2, r3, rest⟩ := hC p hp
      exact ⟨o, us, file, tfl, flags, tg, inF, text, tt, hidT_get e1 (free e1 (fun vs n z => by rw [r2] at z; cases z) fun z => by rw [r2] at z; cases z; simp at r3), r1, r2, r3, rest⟩
    · obtain ⟨bm, ob, b1, b2, b3, b4, b5, b6⟩ := hbm
      refine ⟨bm, ob, b1, b2, fun q => ?_, fun q => ?_, hidT_get b3 (free b3 (fun vs n z => by rw [b6] at z; cases z) fun z => by rw [b6] at z; cases z), b4, b5, b6⟩
      · obtain ⟨o, es, ep, e, d, _⟩ := hns
        rw [q, e] at b3
        cases b3
        rw [d] at b6
        cases b6
      · rw [q, tp] at b3
        cases b3
        cases b6
    · obtain ⟨o, es, ep, e, d, _⟩ := hns
      rw [z, tp] at e
      cases e
      cases d
  have e0 : Env0 P w K mg (hidT s1.heap H) callerA [] s1 H := ⟨rfl, md, fun b o e => of_hidT e, Nat.le_of_eq (hidT_size _ _), trivial, fun b hm => absurd (show b ∈ ([] : List Addr) from hm) (by simp), hok, .of_eq hg⟩
  refine codeAny_mono ((F _ KB (keepN hns) TB).run callerA [] s1 H ⟨[.ref a], []⟩ [.ref a] [.ref a] _ _ rfl hr e0 (hbind s1 (.ref a)) (.cons rfl .nil) (hsp H (fun p hp => hTb _ (inT p hp)) sq)) fun r s' h => ?_
  cases r with
  | error e => exact (cx_none h).elim
  | ok fl =>
    cases fl with
    | next => exact False.elim h
    | brk => exact False.elim h
    | cont => exact False.elim h
    | ret u =>
      obtain ⟨v, H', eo, bare, un, hok', r', q⟩ := h
      have q' : v = .bl true := q
      subst q'
      obtain rfl : u = Value.bool true := r'
      have still : ∀ b o, b ∉ cs.map (·.2) → s1.heap.get? b = some o → s'.heap.get? b = some o := fun b o nb e => by
        rcases cases3 b with h | ⟨h, hk⟩ | h
        · exact absurd h nb
        · have z := hA hk
          rw [← h] at z
          obtain ⟨e1, _⟩ := hok b _ z
          obtain ⟨e2, _⟩ := hok' b _ (un.frzs b _ _ z)
          rw [e] at e1
          cases e1
          exact e2
        · exact un.keep b o e h (by intro z; exact absurd (show b ∈ ([] : List Addr) from z) (by simp)) (by simp)
      have more : ∀ b ∈ cs.map (·.2), ∃ us : Array Value, s'.heap.get? b = some { cls := .none, data := .fields us } := fun b hm => by
        obtain ⟨us, z⟩ := un.tbls b #[] (hTb b hm)
        exact ⟨_, hok' b _ z⟩
      refine ⟨rfl, ⟨fun b o e => ?_, fun b o e => ?_⟩, eo, bare⟩
      · by_cases hm : b ∈ cs.map (·.2)
        · obtain ⟨us, e2⟩ := more b hm
          have e1 := (atT b hm).1
          rw [e1] at e
          cases e
          obtain ⟨p, hp, ep⟩ := List.mem_map.mp hm
          have hcd := hC p hp
          have hTp := hT p hp
          have hct := (hcd.tab hTp).isCodeTable
          rw [ep] at hct
          exact .inr (.inl ⟨hct, rfl, #[], us, rfl, by rw [Array.empty_append]; exact e2⟩)
        · exact .inl (still b o hm e)
      · by_cases hm : b ∈ cs.map (·.2)
        · obtain ⟨us, e2⟩ := more b hm
          exact ⟨_, e2⟩
        · exact ⟨o, still b o hm e⟩
end
/-- what is known of such a law's promise at the head's heap -/
def LawAtG (P : Program) (w : World) (K : PySem.W.Frag) (k n : Nat) (x : Str) (mg : Str → Option Value) (fa : Addr) (h : Heap) : Prop :=
  ∃ (ad : Nat → Addr) (T : List (Addr × Str)) (fd : FuncData) (cs : List (Addr × Addr)) (sp : Sp), (∀ p ∈ cs, h.get? p.2 = some { cls := .none, data := .fields #[] }) ∧ (∀ p ∈ cs, K.lookup p.2 = none) ∧ (∀ p ∈ cs, PySem.W.CodeHd h p.1 p.2) ∧ (∀ (s : Shared) (u : Value), BindsTo s fd ⟨[u], []⟩ [(x, u)]) ∧
    (∀ (H : Hp) (a : Addr) (ns : List Int), ns.length ≤ n → (∀ p ∈ cs, H p.2 = some (.tbl #[])) → SqL K H a (ns.map V.int) → sp [.ref a] H (fun v _ => v = .bl true) fun _ _ _ => False) ∧
    ∀ base : Heap, K.In base → base.Ns mainGlobals mg → (∀ p ∈ cs, LamX.TabB base mg p.1 p.2) → FnG ⟨P, w, K, mg, base, ad, T⟩ k fa fd [x] sp
theorem walk_ZG {l : PySem.W.OpenLaw} {n k : Nat} {q : Program} {loose : List Str} {XP : (Str → Option Value) → Heap → Prop} {YP : World → Heap → Prop} {d : DefRec} {x : Str}
    (hn : l.most = some n) (hn2 : n ≤ sizeLine) (hdf : d.params.defaults = []) (hr : Room k callerA)
    (F : ∀ (w : World) (mg : Str → Option Value) (fa : Addr) (h : Heap), YP w h → h.Ns mainGlobals mg → mg d.name = some (.ref fa) → ∃ K : PySem.W.Frag, K.In h ∧ LawAtG l.prog w K k n x mg fa h) :
    PySem.W.WalkO q loose XP YP l.row.toRowW d [] (fun f vs => PySem.call f vs) := by
  refine Att.attach_callB hn hdf fun w s0 s1 mg mb fa o pm cd doc a vs ns G Y ho hd hcd hmg hobj hints hlen hbits hg => ?_
  obtain ⟨K, KX, ad, T, fd, cs, sp, h1, h2, h3, h4, h5, h6⟩ := F w mg fa _ Y G.T.g hmg
  exact law_callG KX G.T.g G.T.b G.T.builtins G.T.nolimit hg h1 h2 h3 G.T.bmain hobj hints (Nat.le_trans hlen hn2) hr h6 h4 fun H z1 z2 => h5 H a ns hlen z1 z2
end Z

/-! Z55: repr of data; what an except clause answers with. -/
namespace Z
open PySem PySem.Spec PyProof.Rows L2 He
/-- the text of data, with a bound that the tables hold -/
def shD (S : Store) (d : D) : Option Str := match toPy S 60 d with
  | some p => if p.showable && decide (p.shown.length ≤ 1000) then some p.shown else none
  | none => none
def fRepr : D → Store → Option (D × Store) := fun d S => (shD S d).map fun y => (.str y, S)
/-- data of this kind hold no dict -/
theorem toPy_noDict {S : Store} : ∀ {k : Nat} {d : D} {p : PyData}, toPy S k d = some p → p.hasDict = false := by
  intro k
  induction k with
  | zero =>
    intro d p e
    cases d with
    | non => cases e; rfl
    | bl b => cases e; rfl
    | int i => cases e; rfl
    | str x =>
      simp only [toPy] at e
      split at e
      · cases e; rfl
      · cases e
    | _ => simp only [toPy] at e; cases e
  | succ k ih =>
    have all : ∀ {ds : List D} {ps : List PyData}, seqO (ds.map (toPy S k)) = some ps → PyData.hasDictAll ps = false := by
      intro ds
      induction ds with
      | nil => intro ps e; cases e; rfl
      | cons d ds ihd =>
        intro ps e
        obtain ⟨a, r, e1, e2, rfl⟩ := seqO_cons e
        rw [PyData.hasDictAll, ih e1, ihd e2]; rfl
    intro d p e
    cases d with
    | non => cases e; rfl
    | bl b => cases e; rfl
    | int i => cases e; rfl
    | str x =>
      simp only [toPy] at e
      split at e
      · cases e; rfl
      · cases e
    | tup ds =>
      simp only [toPy, Option.map_eq_some_iff] at e
      obtain ⟨ps, e, rfl⟩ := e
      simpa only [PyData.hasDict] using all e
    | fls ds =>
      simp only [toPy, Option.map_eq_some_iff] at e
      obtain ⟨ps, e, rfl⟩ := e
      simpa only [PyData.hasDict] using all e
    | ref i =>
      simp only [toPy] at e
      split at e
      · simp only [Option.map_eq_some_iff] at e
        obtain ⟨ps, e, rfl⟩ := e
        simpa only [PyData.hasDict] using all e
      · cases e
    | _ => simp only [toPy] at e; cases e
section
variable {X : Cx} {G : Glo}
/-- repr, in any context in which no such text is being made -/
def rReprZ (G : Glo) : List V → Hp → VK → Prop := fun xs H Q => ∃ (φ : List Addr) (S : Store) (d : D) (v : V) (y : Str), xs = [v] ∧ Rel G φ S H ∧ VRel G φ H d v ∧ shD S d = some y ∧ Q (.str y) H
theorem call_reprZ (hK : X.K = G.K) (hg : X.A.guards = some []) (hu : X.A.units + 100 < cLine) : CallR X (.builtin "repr") (rReprZ G) := by
  intro pins s σ H xs us Q I r ⟨φ, S, d, v, y, ex, R, rv, hs, q⟩
  subst ex
  obtain ⟨u, rfl, ru⟩ := vals1 r
  unfold shD at hs
  split at hs
  · rename_i p hp
    split at hs
    · rename_i hb
      cases hs
      obtain ⟨h1, h2⟩ := ba hb
      have hsz : p.shown.length ≤ sizeLine := Nat.le_trans (of_decide_eq_true h2) (by rw [sizeLine_eq]; omega)
      obtain ⟨dp, dep, _⟩ := sq_any R rv hp
      obtain ⟨as, rd⟩ := Dp.reads I p v u (by rw [hK]; exact dp) ru
      cases rd with
      | none => exact PySem.P.repr_of_none ⟨.str _, H, I.tok _, ⟨_, rfl⟩, q⟩
      | bool b => exact PySem.P.repr_of_bool ⟨.str _, H, I.tok _, ⟨_, rfl⟩, q⟩
      | int i t => exact PySem.P.repr_of_int (of_decide_eq_true h1) ⟨.str _, H, I.tok _, ⟨_, rfl⟩, q⟩
      | str x t => exact PySem.P.repr_of_str ⟨.str _, H, I.tok _, ⟨_, rfl⟩, q⟩ hsz
      | list a1 a2 a3 a4 =>
        exact repr_of_reads' (.list a1 a2 a3 a4) h1 (fun z => by rw [toPy_noDict hp] at z; cases z) hg (by omega) (fun _ _ e => e) (fun h' u' tk k => ⟨.str _, H, I.kept (t' := tk) k, ⟨_, rfl⟩, q⟩) hsz
      | tuple a1 a2 a3 a4 =>
        exact repr_of_reads' (.tuple a1 a2 a3 a4) h1 (fun z => by rw [toPy_noDict hp] at z; cases z) hg (by omega) (fun _ _ e => e) (fun h' u' tk k => ⟨.str _, H, I.kept (t' := tk) k, ⟨_, rfl⟩, q⟩) hsz
      | dict a1 a2 a3 a4 a5 =>
        have z := toPy_noDict hp
        simp only [PyData.hasDict] at z
        cases z
    · cases hs
  · cases hs
end
theorem cx_repr {C : Cp} (hgd : C.gd = true) : CallRx C (.builtin "repr") (b1 fRepr) := CallRx.imp (fun _ => rReprZ C.G) (fun X W hx => call_reprZ hx.K (hx.gd hgd) (by have := hx.room.un; omega)) fun X W hx φ S H ds vs Q R r P => by
  obtain ⟨d, v, rfl, rv, P⟩ := b1_some P r
  unfold fRepr at P
  cases hs : shD S d with
  | none => rw [hs] at P; exact P.elim
  | some y => rw [hs] at P; exact ⟨φ, S, d, v, y, rfl, R, rv, hs, P.now R (by simp only [VRel])⟩

/-! ### what a clause answers with -/
abbrev HE := Exn → Store → Option D
/-- the place of a clause -/
structure HxOk (G : Glo) (sc : Scope) (N : List Str) (X : Cx) : Prop where
  prog : X.prog = G.P
  w : X.w = G.w
  K : X.K = G.K
  mg : X.mg = G.mg
  N : X.N = N
  sc : X.env.scope = sc
  gd : X.A.guards = some []
  un : X.A.units + 100 < cLine
def tHE (G : Glo) (i : Option Nat) (a : Addr) (cls : Value) (dd : Option Addr) (h : HE) : TE := fun σ H Q => ∃ (φ : List Addr) (S : Store) (x : Exn) (d : D), Rel G φ S H ∧ XRel G φ H x cls dd ∧ (∀ j, i = some j → σ[j]? = some (some (.ref a))) ∧ h x S = some d ∧
  ∀ H' v, Nxt φ φ H H' → Rel G φ S H' → VRel G φ H' d v → Q v H'
def tHEs (G : Glo) (i : Option Nat) (a : Addr) (cls : Value) (dd : Option Addr) (hs : List HE) : TA := fun σ H Q => ∃ (φ : List Addr) (S : Store) (x : Exn) (ds : List D), Rel G φ S H ∧ XRel G φ H x cls dd ∧ (∀ j, i = some j → σ[j]? = some (some (.ref a))) ∧ seqO (hs.map fun h => h x S) = some ds ∧
  ∀ H' vs, Nxt φ φ H H' → Rel G φ S H' → VRels G φ H' ds vs → Q vs H'
def PHx (G : Glo) (sc : Scope) (N : List Str) (i : Option Nat) (e : Expr) (h : HE) : Prop :=
  ∀ (X : Cx) (a : Addr) (oe : Obj) (cls : Value) (dd : Option Addr) (pn : List (Addr × Obj)), HxOk G sc N X → Zc cls dd oe → (∃ vs, oe.data = .fields vs) → PE (X.suite a ((a, oe) :: pn)) e (tHE G i a cls dd h)
def PHAx (G : Glo) (sc : Scope) (N : List Str) (i : Option Nat) (es : List Expr) (hs : List HE) : Prop :=
  ∀ (X : Cx) (a : Addr) (oe : Obj) (cls : Value) (dd : Option Addr) (pn : List (Addr × Obj)), HxOk G sc N X → Zc cls dd oe → (∃ vs, oe.data = .fields vs) → PA (X.suite a ((a, oe) :: pn)) es (tHEs G i a cls dd hs)
theorem XRel.nxt {G : Glo} {φ φ' : List Addr} {H H' : Hp} {x : Exn} {cls : Value} {dd : Option Addr} (n : Nxt φ φ' H H') (h : XRel G φ H x cls dd) : XRel G φ' H' x cls dd := by
  obtain ⟨e, h⟩ := h
  refine ⟨e, ?_⟩
  cases hf : x.fs with
  | none => rw [hf] at h; exact h
  | some fs =>
    rw [hf] at h
    obtain ⟨p, gs, e1, e2, e3⟩ := h
    exact ⟨p, gs, e1, n.grow.xds _ _ e2, e3.nxt n⟩
def heC (d : D) : HE := fun _ _ => some d
def heT (hs : List HE) : HE := fun x S => (seqO (hs.map fun h => h x S)).bind fun ds => if ds.length ≤ 1000 then some (.tup ds) else none
def heF (c : Nat) (f : Str) : HE := fun x _ => if x.cls = c then x.fs.bind fun fs => fs.lookup f else none
def heA (a b : HE) : HE := fun x S => match a x S, b x S with
  | some (.str y), some (.str z) => if y.length + z.length ≤ 2000 then some (.str (y ++ z)) else none
  | _, _ => none
def heR (a : HE) : HE := fun x S => (a x S).bind fun d => (shD S d).map .str
section
variable {G : Glo} {sc : Scope} {N : List Str} {i : Option Nat} {e : Expr} {es : List Expr} {h : HE} {hs : List HE} {pos p : Pos}
theorem phx_str {x : Str} {j : Nat} : PHx G sc N i (.Constant (.str x) j pos) (heC (.str x)) := fun X a oe cls dd pn hx hz hf => pe_imp pe_str fun σ H Q ⟨φ, S, y, d, R, xr, sl, e, q⟩ => by
  cases e
  exact q H _ (Nxt.refl _ _) R (by simp only [VRel])
theorem phx_non {j : Nat} : PHx G sc N i (.Constant .none j pos) (heC .non) := fun X a oe cls dd pn hx hz hf => pe_imp pe_non fun σ H Q ⟨φ, S, y, d, R, xr, sl, e, q⟩ => by
  cases e
  exact q H _ (Nxt.refl _ _) R (by simp only [VRel])
theorem pa_hnil : PHAx G sc N i [] [] := fun X a oe cls dd pn hx hz hf => pa_imp pa_nil fun σ H Q ⟨φ, S, y, ds, R, xr, sl, e, q⟩ => by
  cases e
  exact q H _ (Nxt.refl _ _) R VRels.nil
theorem pa_hcons (ha : PHx G sc N i e h) (hr : PHAx G sc N i es hs) (hst : ∀ env, starEach (e :: es) env = (false, eval e env) :: starEach es env := by intro _; rfl) : PHAx G sc N i (e :: es) (h :: hs) := fun X a oe cls dd pn hx hz hf =>
  pa_imp (pa_cons (ha X a oe cls dd pn hx hz hf) (hr X a oe cls dd pn hx hz hf) (hst _)) fun σ H Q ⟨φ, S, y, ds, R, xr, sl, e, q⟩ => by
    obtain ⟨d, r, e1, e2, rfl⟩ := seqO_cons e
    refine ⟨φ, S, y, d, R, xr, sl, e1, fun H1 v n1 R1 r1 => ⟨φ, S, y, r, R1, xr.nxt n1, sl, e2, fun H2 vs n2 R2 r2 => q H2 (v :: vs) (n1.trans n2) R2 (VRels.cons (r1.nxt n2) r2)⟩⟩
theorem phx_tup {k : Nat} (ha : PHAx G sc N i es hs) : PHx G sc N i (.Tuple es k pos) (heT hs) := fun X a oe cls dd pn hx hz hf =>
  pe_imp (pe_tup (ha X a oe cls dd pn hx hz hf)) fun σ H Q ⟨φ, S, y, d, R, xr, sl, e, q⟩ => by
    obtain ⟨ds, e1, e2⟩ := Option.bind_eq_some_iff.mp e
    split at e2
    · rename_i hl
      cases e2
      refine ⟨φ, S, y, ds, R, xr, sl, e1, fun H1 vs n1 R1 r1 => ⟨?_, fun b hb => ?_⟩⟩
      · rw [← r1.length, sizeLine_eq]; omega
      · have nb := R1.notmem hb
        have n2 : Nxt φ φ H1 (upd H1 b (.tup vs)) := Nxt.mute hb
        refine q _ _ (n1.trans n2) (R1.mute nb (Grow.new hb) (nx_none hb)) ?_
        simp only [VRel]
        exact ⟨b, vs, rfl, .inl (.inl upd_same), r1.nxt n2⟩
    · cases e2
theorem phx_add {e2 : Expr} {h2 : HE} (ha : PHx G sc N i e h) (hb : PHx G sc N i e2 h2) : PHx G sc N i (.BinOp e .Add e2 pos) (heA h h2) := fun X a oe cls dd pn hx hz hf =>
  pe_imp (pe_op op_add_str (ha X a oe cls dd pn hx hz hf) (hb X a oe cls dd pn hx hz hf)) fun σ H Q ⟨φ, S, y, d, R, xr, sl, e, q⟩ => by
    unfold heA at e
    split at e
    · rename_i s1 s2 q1 q2
      split at e
      · rename_i hl
        cases e
        refine ⟨φ, S, y, _, R, xr, sl, q1, fun H1 v n1 R1 r1 => ⟨φ, S, y, _, R1, xr.nxt n1, sl, q2, fun H2 v2 n2 R2 r2 => ?_⟩⟩
        simp only [VRel] at r1 r2
        exact ⟨s1, s2, r1, r2, by rw [sizeLine_eq]; omega, q _ _ (n1.trans n2) R2 (by simp only [VRel])⟩
      · cases e
    · cases e
theorem phx_repr (hg : sc.names.lookup ("repr" : Str) = some .globalImplicit) (hm : G.mg "repr" = none) (ha : PHx G sc N i e h) (hst : ∀ env, starEach [e] env = (false, eval e env) :: starEach [] env := by intro _; rfl) : PHx G sc N i (.Call (.Name "repr" p) [e] [] pos) (heR h) := fun X a oe cls dd pn hx hz hf =>
  pe_imp (pe_callB (r := rReprZ G) (X := X.suite a ((a, oe) :: pn)) (call_reprZ hx.K (by exact hx.gd) (by exact hx.un)) (show X.env.scope.names.lookup _ = _ by rw [hx.sc]; exact hg) (show X.mg _ = none by rw [hx.mg]; exact hm) boot_repr (pa_hcons ha pa_hnil hst X a oe cls dd pn hx hz hf) (by decide) (by decide) (hst _) (by rfl)) fun σ H Q ⟨φ, S, y, d, R, xr, sl, e, q⟩ => by
    obtain ⟨d1, e1, e2⟩ := Option.bind_eq_some_iff.mp e
    obtain ⟨z, e3, rfl⟩ := Option.map_eq_some_iff.mp e2
    refine ⟨φ, S, y, [d1], R, xr, sl, by simp only [List.map_cons, List.map_nil, e1, seqO, Option.map_some], fun H1 vs n1 R1 r1 => ?_⟩
    simp only [VRels] at r1
    obtain ⟨v, us, ev, rv, eu⟩ := r1
    subst eu
    exact ⟨φ, S, d1, v, z, ev, R1, rv, e3, q _ _ n1 R1 (by simp only [VRel])⟩
theorem lookup_krel {φ : List Addr} {H : Hp} {f : Str} : ∀ {fs : List (Str × D)} {gs : List (Str × V)} {d : D}, KRel G φ H fs gs → fs.lookup f = some d → ∃ v, gs.lookup f = some v ∧ VRel G φ H d v
  | [], _, _, _, e => by cases e
  | (g, d0) :: fs, _, d, r, e => by
    obtain ⟨v, gs', rfl, r1, r2⟩ := r
    rw [List.lookup_cons] at e ⊢
    cases hq : (f == g) with
    | true => rw [hq] at e; cases e; exact ⟨v, rfl, r1⟩
    | false => rw [hq] at e; exact lookup_krel r2 e
theorem phx_fld {c j : Nat} {x f : Str} (T : XfC G.K (G.ad c)) (hno : PySem.W.findIn G.K (.ref (G.ad c)) f = some none) (hN : N[j]? = some x) (hv : visB sc x = true) (hd : (x == ("__debug__" : Str)) = false := by decide) (hcd : (x == ("__classdict__" : Str)) = false := by decide)
    (hb : ∀ env, attributeBase (.Name x p) f env (eval (.Name x p) env) = eval (.Name x p) env := by intro _; rfl) : PHx G sc N (some j) (.Attribute (.Name x p) f pos) (heF c f) := fun X a oe cls dd pn hx hz hf =>
  pe_imp (pe_xf (X := X) (C := G.ad c) (te := fun σ H Q => ∃ v, σ[j]? = some (some v) ∧ Q v H) (by rw [hx.K]; exact T) (by rw [hx.K]; exact hno) hz hf (pe_var (X := X.suite a ((a, oe) :: pn)) (by show X.N[j]? = _; rw [hx.N]; exact hN) (by show Vis X.env.scope x; rw [hx.sc]; exact visB_ok hv) hd hcd) (hb _)) fun σ H Q ⟨φ, S, y, d, R, xr, sl, e, q⟩ => by
    unfold heF at e
    split at e
    · rename_i hc
      obtain ⟨fs, e1, e2⟩ := Option.bind_eq_some_iff.mp e
      obtain ⟨ec, xr2⟩ := xr
      rw [e1] at xr2
      obtain ⟨b, gs, e3, e4, e5⟩ := xr2
      obtain ⟨v, l, r⟩ := lookup_krel e5 e2
      exact ⟨.ref a, sl j rfl, rfl, by rw [ec, hc], b, gs, v, e3, e4, l, q H v (Nxt.refl _ _) R r⟩
    · cases e
end
end Z

/-! Z56: word(lambda: e), where word tries what it got and answers by the kind of the exception. -/
namespace Z
open PySem PySem.Spec PyProof.Rows L2 He
structure Hd where
  k : Nat
  slot : Option Nat
  h : HE
/-- the clauses, one behind another; sup: the classes that the exception is one of -/
def pickH (sup : List Nat) (x : Exn) (S : Store) : List Hd → Option D
  | [] => none
  | z :: zs => if sup.contains z.k = true then z.h x S else pickH sup x S zs
def fWord (exs : List (Nat × List Nat)) (hs : List Hd) (fin : D) : Res D → Res D
  | .ok _ S => .ok fin S
  | .er x S => match (exs.lookup x.cls).bind fun sup => pickH sup x S hs with
    | some d => .ok d S
    | none => .bad
  | .bad => .bad
def dWord (exs : List (Nat × List Nat)) (hs : List Hd) (fin : D) (d : DE) : DE := fun env S => fWord exs hs fin (d env S)
/-- what the table says of the classes -/
def XSub (G : Glo) (exs : List (Nat × List Nat)) (hs : List Hd) : Prop := ∀ c sup, exs.lookup c = some sup → ∀ z ∈ hs, PySem.W.exmOne G.K (.ref (G.ad c)) (.ref (G.ad z.k)) = some (sup.contains z.k)
inductive HdsZ (G : Glo) (sg : Scope) (Ng : List Str) : List ExceptHandler → List Hd → Prop
  | nil : HdsZ G sg Ng [] []
  | cons {x : Str} {nm : Option Str} {z : Hd} {e : Expr} {p p' pr : Pos} {es : List ExceptHandler} {zs : List Hd} (hg : sg.names.lookup x = some .globalImplicit) (db : (x == ("__debug__" : Str)) = false) (hm : G.mg x = some (.ref (G.ad z.k)))
      (hn : match nm, z.slot with
        | none, none => True
        | some n, some i => Ng[i]? = some n ∧ sg.names.lookup n = some .local
        | _, _ => False) (he : PHx G sg Ng z.slot e z.h) (r : HdsZ G sg Ng es zs) : HdsZ G sg Ng (.ExceptHandler (some (.Name x p)) nm [.Return (some e) pr] p' :: es) (z :: zs)
/-- a value that is made where all is calm -/
def tD (G : Glo) (d : D) : TE := fun _ H Q => ∃ (φ : List Addr) (S : Store), Rel G φ S H ∧ ∀ H' v, Nxt φ φ H H' → Rel G φ S H' → VRel G φ H' d v → Q v H'
def PNx (e : Expr) (d : D) : Prop := ∀ (G : Glo) (X : Cx), PE X e (tD G d)
def PNAx (es : List Expr) (ds : List D) : Prop := ∀ (G : Glo) (X : Cx), PA X es (fun _ H Q => ∃ (φ : List Addr) (S : Store), Rel G φ S H ∧ ∀ H' vs, Nxt φ φ H H' → Rel G φ S H' → VRels G φ H' ds vs → Q vs H')
section
variable {e : Expr} {es : List Expr} {d : D} {ds : List D} {pos : Pos}
theorem pnx_str {x : Str} {j : Nat} : PNx (.Constant (.str x) j pos) (.str x) := fun G X => pe_imp pe_str fun σ H Q ⟨φ, S, R, q⟩ => q H _ (Nxt.refl _ _) R (by simp only [VRel])
theorem pnx_non {j : Nat} : PNx (.Constant .none j pos) .non := fun G X => pe_imp pe_non fun σ H Q ⟨φ, S, R, q⟩ => q H _ (Nxt.refl _ _) R (by simp only [VRel])
theorem pnx_nil : PNAx [] [] := fun G X => pa_imp pa_nil fun σ H Q ⟨φ, S, R, q⟩ => q H _ (Nxt.refl _ _) R VRels.nil
theorem pnx_cons (ha : PNx e d) (hr : PNAx es ds) (hst : ∀ env, starEach (e :: es) env = (false, eval e env) :: starEach es env := by intro _; rfl) : PNAx (e :: es) (d :: ds) := fun G X =>
  pa_imp (pa_cons (ha G X) (hr G X) (hst _)) fun σ H Q ⟨φ, S, R, q⟩ => ⟨φ, S, R, fun H1 v n1 R1 r1 => ⟨φ, S, R1, fun H2 vs n2 R2 r2 => q H2 (v :: vs) (n1.trans n2) R2 (VRels.cons (r1.nxt n2) r2)⟩⟩
theorem pnx_tup {k : Nat} (ha : PNAx es ds) (hl : ds.length ≤ 1000 := by decide) : PNx (.Tuple es k pos) (.tup ds) := fun G X => pe_imp (pe_tup (ha G X)) fun σ H Q ⟨φ, S, R, q⟩ => ⟨φ, S, R, fun H1 vs n1 R1 r1 => ⟨by rw [← r1.length, sizeLine_eq]; omega, fun b hb => by
  refine q _ _ (n1.trans (Nxt.mute hb)) (R1.mute (R1.notmem hb) (Grow.new hb) (nx_none hb)) ?_
  simp only [VRel]
  exact ⟨b, vs, rfl, .inl (.inl upd_same), r1.nxt (Nxt.mute hb)⟩⟩⟩
end
/-- such a def -/
structure WdIs (G : Glo) (x : Str) (exs : List (Nat × List Nat)) (hs : List Hd) (fin : D) : Prop where
  ex : ∃ (g : Addr) (pg : Arguments) (bg : List Stmt) (sg : Scope) (dV kV doc pm cdv ct oc : Value) (an od : Option Addr) (osl : Array (Option Value)) (Ng : List Str) (a : Str) (p1 p2 p3 p4 p5 : Pos) (es : List ExceptHandler) (ef : Expr),
    G.mg x = some (.ref g) ∧ PySem.W.keepIn G.K (.ref g) = true ∧ G.K.lookup g = some ⟨oc, od, .func (PySem.W.fnOf x x pg bg sg dV kV doc pm an cdv ct), osl⟩ ∧ PySem.W.codeIn G.K cdv x = true ∧ L2.Binds G.K (PySem.W.fnOf x x pg bg sg dV kV doc pm an cdv ct) [a] [] ∧
      FnScope Ng [a] sg ∧ Ng[0]? = some a ∧ 0 < Ng.length ∧ visB sg a = true ∧ (a == ("__debug__" : Str)) = false ∧ (a == ("__classdict__" : Str)) = false ∧ bg = [.Try [.Expr (.Call (.Name a p1) [] [] p2) p3] es [] [] p4, .Return (some ef) p5] ∧ es ≠ [] ∧ HdsZ G sg Ng es hs ∧ PNx ef fin
/-- what the tried part must let happen -/
def EchW (G : Glo) (exs : List (Nat × List Nat)) (hs : List Hd) (Q : VK) : XK := fun cls dd H' => ∃ (φ : List Addr) (S : Store) (x : Exn) (sup : List Nat) (d : D), Rel G φ S H' ∧ XRel G φ H' x cls dd ∧ exs.lookup x.cls = some sup ∧ pickH sup x S hs = some d ∧ ∀ H2 v, Nxt φ φ H' H2 → Rel G φ S H2 → VRel G φ H2 d v → Q v H2
def TTw (G : Glo) (exs : List (Nat × List Nat)) (hs : List Hd) (fin : D) : (XK → Hp → VK → Prop) → Hp → VK → Prop := fun tl H Q =>
  tl (EchW G exs hs Q) H
    (fun _ H' => ∃ (φ : List Addr) (S : Store), Rel G φ S H' ∧ ∀ H2 v, Nxt φ φ H' H2 → Rel G φ S H2 → VRel G φ H2 fin v → Q v H2)
/-- the clauses as Z52 has them -/
def clOf (G : Glo) (z : Hd) : Cl := ⟨.ref (G.ad z.k), z.slot, fun a cls dd => tRet (tHE G z.slot a cls dd z.h)⟩
theorem hds_ok {G : Glo} {sg : Scope} {Ng : List Str} {X : Cx} (hx : HxOk G sg Ng X) : ∀ {es : List ExceptHandler} {zs : List Hd}, HdsZ G sg Ng es zs → ClsOk X es (zs.map (clOf G)) := by
  intro es zs h
  induction h with
  | nil => exact .nil
  | @cons x nm z e p p' pr es zs hg db hm hn he r ih =>
    refine .cons ⟨show X.env.scope.names.lookup x = _ by rw [hx.sc]; exact hg, db, .inl (by rw [hx.mg]; exact hm)⟩ ?_ (fun a oe cls d pn h1 h2 => pss_one (ps_ret (he X a oe cls d pn hx h1 h2))) ih
    show clNm X nm z.slot
    cases nm <;> cases hs : z.slot <;> rw [hs] at hn
    · exact hn
    · exact hn.elim
    · exact hn.elim
    · exact ⟨by rw [hx.N]; exact hn.1, show X.env.scope.names.lookup _ = _ by rw [hx.sc]; exact hn.2⟩
theorem wcls_of {G : Glo} {K : PySem.W.Frag} {Dn : Ends} {σ : St} {H : Hp} {cls : Value} {dd : Option Addr} {φ : List Addr} {S : Store} {x : Exn} {sup : List Nat} {d : D} {n : Nat} (hK : K = G.K) (R : Rel G φ S H) (xr : XRel G φ H x cls dd) (hl : σ.length = n)
    (q : ∀ H2 v, Nxt φ φ H H2 → Rel G φ S H2 → VRel G φ H2 d v → Dn.rt v H2) : ∀ {zs : List Hd}, (∀ z ∈ zs, PySem.W.exmOne G.K (.ref (G.ad x.cls)) (.ref (G.ad z.k)) = some (sup.contains z.k)) → (∀ z ∈ zs, ∀ i, z.slot = some i → i < n) → pickH sup x S zs = some d → wCls K (fun _ _ _ _ => False) Dn (zs.map (clOf G)) cls dd σ H := by
  subst hK
  intro zs
  induction zs with
  | nil => intro _ _ e; cases e
  | cons z zs ih =>
    intro hs hi e
    have hb := hs z List.mem_cons_self
    unfold pickH at e
    refine ⟨sup.contains z.k, by rw [xr.1]; exact hb, fun hy a na => ?_, fun hn => ih (fun y hy => hs y (List.mem_cons_of_mem _ hy)) (fun y hy => hi y (List.mem_cons_of_mem _ hy)) (by rw [if_neg (by rw [hn]; decide)] at e; exact e)⟩
    rw [if_pos hy] at e
    refine ⟨φ, S, x, d, R, xr, fun j hj => ?_, e, fun H2 v n2 R2 r2 => ?_⟩
    · have hj' : z.slot = some j := hj
      have := hi z List.mem_cons_self j hj'
      show (clSt z.slot a σ)[j]? = _
      rw [hj']
      show (σ.set j (some (.ref a)))[j]? = _
      rw [List.getElem?_set_self (by omega)]
    · have := q H2 v n2 R2 r2
      show (clEnd z.slot Dn).rt v H2
      cases z.slot <;> exact this
theorem hds_slot {G : Glo} {sg : Scope} {Ng : List Str} {es : List ExceptHandler} {zs : List Hd} (h : HdsZ G sg Ng es zs) : ∀ z ∈ zs, ∀ i, z.slot = some i → i < Ng.length := by
  induction h with
  | nil => intro z hz; cases hz
  | @cons x nm z e p p' pr es zs hg db hm hn he r ih =>
    intro y hy i hi
    rcases List.mem_cons.mp hy with rfl | hy
    · rw [hi] at hn
      cases nm with
      | none => exact hn.elim
      | some n => exact (List.getElem?_eq_some_iff.mp hn.1).1
    · exact ih y hy i hi
section
variable {C : Cp} {x : Str} {exs : List (Nat × List Nat)} {hs : List Hd} {fin : D} {body : Expr} {d : DE} {scope : Scope} {params : Arguments} {p lpos pos : Pos} {k : Nat} {q : Str} {c : Addr}
def Cp.lam (C : Cp) (k : Nat) (scope : Scope) : Cp := ⟨C.G, k, C.N, scope, fun _ => false, none, false⟩
theorem pex_word (hw : WdIs C.G x exs hs fin) (hsub : XSub C.G exs hs) (hcq : C.cq = some (q, c)) (hgd : C.gd = true) (hT : TbOk C.G q c "<lambda>") (hg : okG C x = true) (hk : Nat.ble (k + 2) C.k = true) (L : LamX.lamSB C.sc scope = true) (hbody : PEx (C.lam k scope) body d)
    (hdef : ∀ env, defaultsOf params env = ([], []) := by intro _; rfl) (hbind : ∀ (q : Str) (cl : List (Str × Addr)) (pm cv ctv : Value), bindArgs (PySem.W.kla_fn "<lambda>" q params body scope cl pm cv ctv) ⟨[], []⟩ = pure [] := by intros; rfl) :
    PEx C (.Call (.Name x p) [.Lambda params body scope lpos] [] pos) (dWord exs hs fin d) := fun X W hx => by
  obtain ⟨g1, g2⟩ := ba hg
  obtain ⟨g, pg, bg, sg, dV, kV, doc, pm, cdv, ct, oc, an, od, osl, Ng, a, p1, p2, p3, p4, p5, es, ef, hm, kp, lk, hcd, hb, Sg, hN0, hNl, hva, hda, hcda, rfl, hne, hh, hfin⟩ := hw.ex
  obtain ⟨P, TB, hmT, hu⟩ := hT
  obtain ⟨hq, hc⟩ := hx.cd q c hcq
  have hroom : Room (k + 2) X.A := hx.room.mono (Nat.le_of_ble_eq_true hk)
  have hG : LamX.GivesTo X Ng x sg g cdv [.Try [.Expr (.Call (.Name a p1) [] [] p2) p3] es [] [] p4, .Return (some ef) p5] a (X.env.qual ++ "<lambda>") (TTw C.G exs hs fin) := by
    intro f c' s H Q tl act hco tt
    obtain ⟨h0, es', rfl⟩ : ∃ h0 es', es = h0 :: es' := by
      cases es with
      | nil => exact absurd rfl hne
      | cons h0 es' => exact ⟨h0, es', rfl⟩
    generalize hXw : (cxOf C8.CX0 X.prog X.w X.K X.mg X.base Ng x sg g cdv X.A X.stack s H C8.E0).nox = Xw
    have hxw : HxOk C.G sg Ng Xw := by
      rw [← hXw]
      exact ⟨hx.prog, hx.w, hx.K, hx.mg, rfl, rfl, hx.gd hgd, by have := hroom.un; show X.A.units + 3 + 100 < cLine; omega⟩
    have tk0 : Takes Xw (fun _ _ _ _ => False) := takes0
    refine ⟨_, pss_cons (ps_tryZ (X := Xw) (tb := fun W' D σ H => ∃ Ech : XK, (∀ cls d σ' H', σ'.length = Ng.length → Ech cls d H' → W' cls d σ' H') ∧ σ[0]? = some (some (.ref f)) ∧ H c' = some (LamX.CodeO c' (X.env.qual ++ "<lambda>")) ∧ tl Ech H fun v H1 => D.nx σ H1)
      (by rw [← hXw]; rfl) (by rw [← hXw]; rfl) (by rw [hxw.N]; exact Sg.nd) tk0 (fun W' pn xe tk _ => ?_) (hds_ok hxw hh)) (pss_one (ps_ret (hfin C.G Xw))), ?_⟩
    · refine ⟨fun pins s' σ H' D I h' => ?_⟩
      obtain ⟨Ech, hW, h1, h2, h3⟩ := h'
      have tk' : Takes (Xw.tr pn xe) (fun cls d σ' H' => Ech cls d H') := fun u s2 ⟨a1, B1, sI, pins1, σ1, H1, cls, d1, e1, J, n1, u1, sk, na, os, ag, w1⟩ =>
        tk u s2 ⟨a1, B1, sI, pins1, σ1, H1, cls, d1, e1, J, n1, u1, sk, na, os, ag, hW _ _ _ _ (by rw [J.len]; show Xw.N.length = _; rw [hxw.N]) w1⟩
      have ha : PE (Xw.tr pn xe) (.Call (.Name a p1) [] [] p2) (fun σZ HZ Q => σZ[0]? = some (some (.ref f)) ∧ HZ c' = some (LamX.CodeO c' (X.env.qual ++ "<lambda>")) ∧ tl Ech HZ Q) := by
        subst hXw
        exact act (fun cls d σ' H' => Ech cls d H') pn xe Ech p1 p2 tk' fun _ _ _ _ z => z
      have hp := pss_one (ps_expr (pos := p3) ha (by rfl))
      exact hp.run pins s' σ H' D I ⟨h1, h2, h3⟩
    · refine ⟨EchW C.G exs hs Q, fun cls dd σ' H' hlen ⟨φ, S, xx, sup, dv, R, xr, h1, h2, h3⟩ => ?_, ?_, hco, ?_⟩
      rotate_left
      · show (L2.start Ng [V.ref f])[0]? = _
        rfl
      · exact tt
      · exact wcls_of (show Xw.K = C.G.K from hxw.K) R xr hlen h3 (hsub _ _ h1) (hds_slot hh) h2
  refine pe_imp (LamX.pe_lamcall (T := C.G.T) (k := k) (t := fun E => rdE C.G (fun c p _ H' => E c p H') d) (glB_ok g1 hx) (by rw [hx.mg]; exact hm) (by rw [hx.K]; exact kp) (by rw [hx.K]; exact lk) (by rw [hx.K]; exact hcd) (by rw [hx.K]; exact hb) Sg hN0 (visB_ok hva) hG (by rw [hx.base, hx.mg]; exact TB) hc (by rw [hq]; exact hmT) (by rw [hq]; exact hu) hroom
    (LamX.lamS_by (by rw [hx.sc]; exact L)) (hdef X.env) hbind (fun A outer s H E f c' hr2 => hbody _ _ ⟨hx.prog, hx.w, hx.K, hx.mg, hx.base, hx.N, rfl, rfl, hr2, rfl, takes_of rfl rfl rfl rfl, passes_of rfl, (fun _ _ z => nomatch z), (fun z => nomatch z), (fun _ _ _ _ _ z => z)⟩) (nb g2) hda hcda) fun σ H Q ⟨φ, S, env, R, E, P⟩ => ?_
  refine ⟨R.tabs, fun H1 eN t1 => ?_⟩
  obtain ⟨R1, n1⟩ := R.extN eN t1
  have P1 := P.nxt n1
  unfold dWord at P1
  refine ⟨φ, S, env, R1, E.nxt n1, ?_⟩
  cases hd : d env S with
  | bad => rw [hd] at P1; exact P1.elim
  | ok y S1 =>
    rw [hd] at P1
    exact fun φ2 H2 n2 R2 v r2 => ⟨φ2, S1, R2, fun H3 v3 n3 R3 r3 => P1 φ2 H3 (n2.trans n3) R3 v3 r3⟩
  | er y S1 =>
    rw [hd] at P1
    unfold fWord at P1
    dsimp only at P1
    intro φ2 H2 n2 R2 cls dd xr
    cases hp : (exs.lookup y.cls).bind fun sup => pickH sup y S1 hs with
    | none => rw [hp] at P1; exact P1.elim
    | some dv =>
      rw [hp] at P1
      obtain ⟨sup, h1, h2⟩ := Option.bind_eq_some_iff.mp hp
      exact ⟨φ2, S1, y, sup, dv, R2, xr, h1, h2, fun H3 v3 n3 R3 r3 => P1 φ2 H3 (n2.trans n3) R3 v3 r3⟩
end
end Z

/-! Z57: raise; a call that is given data alone and leaves nothing behind. -/
namespace Z
open PySem PySem.Spec PyProof.Rows L2 He
/-! ### raise -/
def rX0 (c : Nat) : DS := fun _ S => .er ⟨c, none⟩ S
def rX1 (c : Nat) (f : Str) (a : DE) : DS := fun env S => (a env S).bind fun x S1 => .er ⟨c, some [(f, x)]⟩ S1
/-- an own class over ValueError without an __init__ -/
structure X0Ok (G : Glo) (C : Addr) : Prop where
  exc : PySem.W.excIn G.K C [.type "ValueError", .type "Exception", .type "BaseException", .type "object"] "ValueError.__new__" = true
  kC : PySem.W.keepIn G.K (.ref C) = true
  exC : PySem.W.subIn G.K (.ref C) (.type "BaseException") = some true
  tyC : PySem.W.typeIn G.K (.ref C) = some (.type "type")
section
variable {C : Cp} {c : Nat} {x m : Str} {e : Expr} {da : DE} {p p2 p3 pos : Pos} {j : Nat}
theorem psx_raise0 (h : X0Ok C.G (C.G.ad c)) (hg : okG C x = true) (hm : C.G.mg x = some (.ref (C.G.ad c))) : PSx C (.Raise (some (.Call (.Name x p) [.Constant (.str m) j p2] [] p3)) none pos) (rX0 c) := fun X W hx => by
  obtain ⟨g1, g2⟩ := ba hg
  refine ps_imp (ps_raise hx.calm hx.takes (pmk_own F.excBase_ValueError (by rw [hx.K]; exact h.exc) (by rw [hx.mg]; exact hm) (by rw [hx.K]; exact h.kC) (raises_own (by rw [hx.K]; exact h.exC) (by rw [hx.K]; exact h.tyC)) (glB_ok g1 hx) (nb g2))) fun D σ H ⟨φ, S, env, R, E, P⟩ => ?_
  exact P φ H (Nxt.refl _ _) R _ _ ⟨rfl, rfl⟩ σ
theorem pmk_xs {X : Cx} {C : Addr} {v fld m : Str} {ta : TA} {k : Nat} {e : Expr} (T : XsC X.prog X.K C v fld m) (hg : Gl X x) (hm : X.mg x = some (.ref C)) (hms : X.mg "super" = none) (htop : (X.prog.main.scope.names.lookup ("super" : Str)).isSome = false) (hr : Room (k + 1) X.A) (ha : PA X [e] ta)
    (hdb : (x == ("__debug__" : Str)) = false) (he : starEach [e] X.env = (false, eval e X.env) :: starEach [] X.env) :
    PMk X (.Call (.Name x p) [e] [] pos) (fun σ H Q => ta σ H fun vs H1 => ∃ y, vs = [y] ∧ ∀ d, H1 d = none → Q (.ref C) (some d) (upd H1 d (.xd [(fld, y)]))) := fun pins s σ H Q I h => by
  refine wpAny_Call_Name_kw (ld_glob I hg hm ?_ hdb)
  refine PySem.W.callWith_K (h₀ := X.base) I.ok.mod.kin T.kC (thn (ha.run pos pins s σ H _ I h) fun us s1 ⟨vs, H1, I1, r1, y, ev, q⟩ => ⟨I1.kIn, ?_⟩) he (by rfl)
  subst ev
  obtain ⟨u, rfl, ru⟩ := vals1 r1
  exact xs_made T I1 ru hms htop hr q
theorem psx_raise1 {v fld : Str} (h : XsC C.G.P C.G.K (C.G.ad c) v fld m) (hg : okG C x = true) (hm : C.G.mg x = some (.ref (C.G.ad c))) (hms : C.G.mg "super" = none) (htop : (C.G.P.main.scope.names.lookup ("super" : Str)).isSome = false) (hk : Nat.ble 1 C.k = true) (ha : PEx C e da)
    (he : ∀ env, starEach [e] env = (false, eval e env) :: starEach [] env := by intro _; rfl) : PSx C (.Raise (some (.Call (.Name x p) [e] [] p3)) none pos) (rX1 c fld da) := fun X W hx => by
  obtain ⟨g1, g2⟩ := ba hg
  refine ps_imp (ps_raise hx.calm hx.takes (pmk_xs (k := 0) (by rw [hx.prog, hx.K]; exact h) (glB_ok g1 hx) (by rw [hx.mg]; exact hm) (by rw [hx.mg]; exact hms) (by rw [hx.prog]; exact htop) (hx.room.mono (Nat.le_of_ble_eq_true hk)) (pa_cons (ha X W hx) pa_nil (he X.env)) (nb g2) (he X.env))) fun D σ H ⟨φ, S, env, R, E, P⟩ => ?_
  refine ⟨φ, S, env, R, E, ?_⟩
  have P0 := P.bind
  cases q : da env S with
  | bad => rw [q] at P0; exact P0.elim
  | er y S1 =>
    rw [q] at P0
    exact fun φ1 H1 n1 R1 cls dd xr => P0 φ1 H1 n1 R1 cls dd xr σ
  | ok y S1 =>
    rw [q] at P0
    intro φ1 H1 n1 R1 w r1
    refine ⟨w, rfl, fun d hd => ?_⟩
    have n2 : Nxt φ1 φ1 H1 (upd H1 d (.xd [(fld, w)])) := Nxt.mute hd
    exact P0 φ1 H1 n1 R1 φ1 _ n2 (R1.mute (R1.notmem hd) (Grow.new hd) (nx_none hd)) _ _ ⟨rfl, d, _, rfl, upd_same, w, [], rfl, r1.nxt n2, rfl⟩ σ
end
/-! ### data alone -/
mutual
/-- no place of the store in it -/
def pure_ : D → Bool
  | .ref _ => false
  | .tup ds => pures ds
  | .fls ds => pures ds
  | _ => true
def pures : List D → Bool
  | [] => true
  | d :: ds => pure_ d && pures ds
end
mutual
theorem pure_rel {G : Glo} {φ φ' : List Addr} {H : Hp} : ∀ {d : D} {v : V}, pure_ d = true → VRel G φ H d v → VRel G φ' H d v
  | .non, _, _, h => by simpa only [VRel] using h
  | .bl _, _, _, h => by simpa only [VRel] using h
  | .int _, _, _, h => by simpa only [VRel] using h
  | .str _, _, _, h => by simpa only [VRel] using h
  | .st _, _, _, h => by simpa only [VRel] using h
  | .ty _, _, _, h => by simpa only [VRel] using h
  | .ref _, _, p, _ => by simp only [pure_] at p; cases p
  | .tup ds, _, p, h => by
    simp only [VRel] at h ⊢
    obtain ⟨a, vs, e, s, r⟩ := h
    exact ⟨a, vs, e, s, pures_rel (by simpa only [pure_] using p) r⟩
  | .fls ds, _, p, h => by
    simp only [VRel] at h ⊢
    obtain ⟨a, vs, e, s, r⟩ := h
    exact ⟨a, vs, e, s, pures_rel (by simpa only [pure_] using p) r⟩
theorem pures_rel {G : Glo} {φ φ' : List Addr} {H : Hp} : ∀ {ds : List D} {vs : List V}, pures ds = true → VRels G φ H ds vs → VRels G φ' H ds vs
  | [], _, _, h => by simpa only [VRels] using h
  | d :: ds, _, p, h => by
    simp only [pures] at p
    obtain ⟨p1, p2⟩ := ba p
    simp only [VRels] at h ⊢
    obtain ⟨u, us, e, r, rs⟩ := h
    exact ⟨u, us, e, pure_rel p1 r, pures_rel p2 rs⟩
end
/-- behind a step that knows none of the store's objects, they stand as they stood -/
theorem Rel.aside {G : Glo} {φ ψ : List Addr} {S S' : Store} {H H' : Hp} (R : Rel G φ S H) (n : Nxt [] ψ H H') (R' : Rel G ψ S' H') : Rel G φ S H' ∧ Nxt φ φ H H' := by
  have g := n.grow
  refine ⟨⟨R.len, R.nd, fun i a o e1 e2 => ?_, R'.tabs⟩, ⟨⟨[], by simp, fun _ z => nomatch z⟩, g, fun b o e _ st => n.frame b o e (by simp) st, n.there⟩⟩
  have h := R.at_ i a o e1 e2
  obtain ⟨u, hu, mu, nx⟩ := h.mut_
  have st : Stdy u := by
    cases u <;> first | trivial | exact absurd mu (by intro z; exact z) | exact nx
  refine h.up (fun _ _ z => z) g ?_
  rw [hu]
  exact n.frame a u hu (by simp) st
end Z

/-! Z58: what is made on the way is forgotten; a def that is given a lot and data is run in a store of its own. -/
namespace Z
open PySem PySem.Spec PyProof.Rows L2 He
mutual
/-- all places are below n -/
def lowD (n : Nat) : D → Prop
  | .ref i => i < n
  | .tup ds => lowDs n ds
  | .fls ds => lowDs n ds
  | _ => True
def lowDs (n : Nat) : List D → Prop
  | [] => True
  | d :: ds => lowD n d ∧ lowDs n ds
end
section
variable {G : Glo} {φ ψ : List Addr} {H H' : Hp}
mutual
theorem low_of : ∀ {d : D} {v : V}, VRel G φ H d v → lowD φ.length d
  | .non, _, _ => by simp only [lowD]
  | .bl _, _, _ => by simp only [lowD]
  | .int _, _, _ => by simp only [lowD]
  | .str _, _, _ => by simp only [lowD]
  | .st _, _, _ => by simp only [lowD]
  | .ty _, _, _ => by simp only [lowD]
  | .ref i, _, h => by
    simp only [VRel] at h
    obtain ⟨a, _, e⟩ := h
    simpa only [lowD] using (List.getElem?_eq_some_iff.mp e).1
  | .tup ds, _, h => by
    simp only [VRel] at h
    obtain ⟨_, vs, _, _, r⟩ := h
    simpa only [lowD] using lows_of r
  | .fls ds, _, h => by
    simp only [VRel] at h
    obtain ⟨_, vs, _, _, r⟩ := h
    simpa only [lowD] using lows_of r
theorem lows_of : ∀ {ds : List D} {vs : List V}, VRels G φ H ds vs → lowDs φ.length ds
  | [], _, _ => by simp only [lowDs]
  | d :: ds, _, h => by
    simp only [VRels] at h
    obtain ⟨u, us, _, r, rs⟩ := h
    simp only [lowDs]
    exact ⟨low_of r, lows_of rs⟩
end
mutual
theorem VRel.cut : ∀ {d : D} {v : V}, lowD φ.length d → VRel G (φ ++ ψ) H d v → VRel G φ H d v
  | .non, _, _, h => by simpa only [VRel] using h
  | .bl _, _, _, h => by simpa only [VRel] using h
  | .int _, _, _, h => by simpa only [VRel] using h
  | .str _, _, _, h => by simpa only [VRel] using h
  | .st _, _, _, h => by simpa only [VRel] using h
  | .ty _, _, _, h => by simpa only [VRel] using h
  | .ref i, _, l, h => by
    simp only [VRel] at h ⊢
    obtain ⟨a, e, q⟩ := h
    rw [List.getElem?_append_left (by simpa only [lowD] using l)] at q
    exact ⟨a, e, q⟩
  | .tup ds, _, l, h => by
    simp only [VRel] at h ⊢
    obtain ⟨a, vs, e, s, r⟩ := h
    exact ⟨a, vs, e, s, VRels.cut (by simpa only [lowD] using l) r⟩
  | .fls ds, _, l, h => by
    simp only [VRel] at h ⊢
    obtain ⟨a, vs, e, s, r⟩ := h
    exact ⟨a, vs, e, s, VRels.cut (by simpa only [lowD] using l) r⟩
theorem VRels.cut : ∀ {ds : List D} {vs : List V}, lowDs φ.length ds → VRels G (φ ++ ψ) H ds vs → VRels G φ H ds vs
  | [], _, _, h => by simpa only [VRels] using h
  | d :: ds, _, l, h => by
    simp only [lowDs] at l
    simp only [VRels] at h ⊢
    obtain ⟨u, us, e, r, rs⟩ := h
    exact ⟨u, us, e, VRel.cut l.1 r, VRels.cut l.2 rs⟩
end
theorem KRel.cut {κ : Type} {H0 : Hp} : ∀ {l : List (κ × D)} {m m0 : List (κ × V)}, KRel G φ H0 l m0 → KRel G (φ ++ ψ) H l m → KRel G φ H l m
  | [], _, _, _, h => h
  | (k, d) :: r, _, _, h0, h => by
    obtain ⟨v0, _, _, r0, t0⟩ := h0
    obtain ⟨v, ks, e, q, t⟩ := h
    exact ⟨v, ks, e, q.cut (low_of r0), KRel.cut t0 t⟩
theorem ORel.cut {H0 : Hp} {a a0 : Addr} {o : O} (h0 : ORel G φ H0 a0 o) (h : ORel G (φ ++ ψ) H a o) : ORel G φ H a o := by
  cases o with
  | lst ds => obtain ⟨v0, _, r0⟩ := h0; obtain ⟨vs, e, r⟩ := h; exact ⟨vs, e, r.cut (lows_of r0)⟩
  | dK ds => obtain ⟨v0, _, r0⟩ := h0; obtain ⟨vs, e, r⟩ := h; exact ⟨vs, e, KRel.cut r0 r⟩
  | dT ds => obtain ⟨v0, _, r0⟩ := h0; obtain ⟨vs, e, r⟩ := h; exact ⟨vs, e, KRel.cut r0 r⟩
  | ins c fs => obtain ⟨_, v0, _, r0⟩ := h0; obtain ⟨dx, vs, e, r⟩ := h; exact ⟨dx, vs, e, KRel.cut r0 r⟩
  | slt c vs =>
    obtain ⟨_, w0, _, _, r0⟩ := h0
    obtain ⟨dx, ws, e, k, r⟩ := h
    exact ⟨dx, ws, e, k, fun i d q => let ⟨v, e1, r1⟩ := r i d q; let ⟨_, _, r2⟩ := r0 i d q; ⟨v, e1, r1.cut (low_of r2)⟩⟩
/-- the store's first part stands as it stood: the rest may be forgotten -/
theorem Rel.forget {S S' : Store} (R : Rel G φ S H) {φ' : List Addr} (n : Nxt φ φ' H H') (R' : Rel G φ' S' H') (e : S'.take S.length = S) : Rel G φ S H' ∧ Nxt φ φ H H' := by
  obtain ⟨ψ, rfl, _⟩ := n.ext
  refine ⟨⟨R.len, R.nd, fun i a o e1 e2 => ?_, R'.tabs⟩, ⟨⟨[], by simp, fun _ z => nomatch z⟩, n.grow, n.frame, n.there⟩⟩
  have hi : i < S.length := (List.getElem?_eq_some_iff.mp e2).1
  have e3 : S'[i]? = some o := by
    rw [← e, List.getElem?_take, if_pos hi] at e2
    exact e2
  have e4 : (φ ++ ψ)[i]? = some a := by rw [List.getElem?_append_left (by rw [R.len]; exact hi)]; exact e1
  exact (R.at_ i a o e1 e2).cut (R'.at_ i a o e4 e3)
end
/-! ### an expression whose garbage is forgotten -/
def pureX (x : Exn) : Bool := match x.fs with
  | none => true
  | some fs => pures (fs.map (·.2))
def gcv (r : Res D) (n : Nat) : Option (D × Store) := match r with
  | .ok v S => if pure_ v = true then some (v, S.take n) else none
  | _ => none
open Classical in
noncomputable def dGc (d : DE) : DE := fun env S => match gcv (d env S) S.length with
  | some (v, S0) => if S0 = S then .ok v S else .bad
  | none => .bad
theorem gc_ok {d : DE} {env : En} {S : Store} {v : D} (h : gcv (d env S) S.length = some (v, S)) : dGc d env S = .ok v S := by
  unfold dGc
  rw [h]
  exact if_pos rfl
theorem pex_drop {C : Cp} {e : Expr} {d : DE} (h : PEx C e d) : PEx C e (dGc d) := fun X W hx => pe_imp (h X W hx) fun σ H Q ⟨φ, S, env, R, E, P⟩ => by
  refine ⟨φ, S, env, R, E, ?_⟩
  unfold dGc at P
  cases hd : d env S with
  | bad => rw [hd] at P; exact P.elim
  | er x S1 => rw [hd] at P; exact P.elim
  | ok v S1 =>
    rw [hd] at P
    unfold gcv at P
    dsimp only at P
    by_cases hp : pure_ v = true
    · rw [if_pos hp] at P
      dsimp only at P
      by_cases he : S1.take S.length = S
      · rw [if_pos he] at P
        intro φ1 H1 n1 R1 w r1
        obtain ⟨R2, n2⟩ := R.forget n1 R1 he
        exact P φ H1 n2 R2 w (pure_rel hp r1)
      · rw [if_neg he] at P; exact P.elim
    · rw [if_neg hp] at P; exact P.elim
/-! ### a def run in a store of its own: the lot, and data -/
def lotO (o : O) : Bool := match o with
  | .lst ds => pures ds
  | _ => false
def lotGo (F : Fn) : List D → Store → Res D
  | .ref i :: ys, S1 => (match S1[i]? with
    | some o => if (lotO o && pures ys) = true then (match F (.ref 0 :: ys) [o] with
      | .ok v S2 => (match S2[0]? with
        | some o2 => if (pure_ v && lotO o2) = true then .ok v (S1.set i o2) else .bad
        | none => .bad)
      | _ => .bad) else .bad
    | none => .bad)
  | _, _ => .bad
def dCallL (F : Fn) (r : DA) : DE := fun env S => (r env S).bind fun xs S1 => lotGo F xs S1
theorem lot_rel {G : Glo} {φ φ' : List Addr} {H : Hp} {a : Addr} {o : O} (h : lotO o = true) (r : ORel G φ H a o) : ORel G φ' H a o := by
  cases o with
  | lst ds => obtain ⟨vs, e, rs⟩ := r; exact ⟨vs, e, pures_rel h rs⟩
  | _ => cases h
/-- the lot's own store, and back -/
theorem Rel.lot {G : Glo} {φ : List Addr} {S : Store} {H : Hp} (R : Rel G φ S H) {i : Nat} {a : Addr} {o : O} (e1 : φ[i]? = some a) (e2 : S[i]? = some o) (hl : lotO o = true) : Rel G [a] [o] H :=
  ⟨rfl, by simp, fun j b u h1 h2 => by
    have hj : j = 0 := by have := (List.getElem?_eq_some_iff.mp h1).1; simpa using this
    subst hj
    cases h1
    cases h2
    exact lot_rel hl (R.at_ i a o e1 e2), R.tabs⟩
theorem Rel.lotBack {G : Glo} {φ ψ : List Addr} {S S' : Store} {H H' : Hp} (R : Rel G φ S H) {i : Nat} {a : Addr} {o o2 : O} (e1 : φ[i]? = some a) (e2 : S[i]? = some o) (n : Nxt [a] ψ H H') (R' : Rel G ψ S' H') (e3 : S'[0]? = some o2) (hl : lotO o2 = true) : Rel G φ (S.set i o2) H' ∧ Nxt φ φ H H' := by
  have g := n.grow
  have hm : a ∈ φ := List.mem_of_getElem? e1
  refine ⟨⟨by simp [R.len], R.nd, fun j b u h1 h2 => ?_, R'.tabs⟩, ⟨⟨[], by simp, fun _ z => nomatch z⟩, g, fun b o e nb st => n.frame b o e (fun z => nb (by rw [List.mem_singleton.mp z]; exact hm)) st, n.there⟩⟩
  by_cases hj : j = i
  · subst hj
    rw [e1] at h1
    cases h1
    rw [List.getElem?_set_self (List.getElem?_eq_some_iff.mp e2).1] at h2
    cases h2
    have ha : ψ[0]? = some a := n.at_ (i := 0) rfl
    exact lot_rel hl (R'.at_ 0 a o2 ha e3)
  · rw [List.getElem?_set_ne (Ne.symm hj)] at h2
    have h := R.at_ j b u h1 h2
    obtain ⟨w, hw, mu, nx⟩ := h.mut_
    have st : Stdy w := by cases w <;> first | trivial | exact absurd mu (by intro z; exact z) | exact nx
    have nb : b ∉ [a] := fun z => by
      have z' := List.mem_singleton.mp z
      subst z'
      exact hj ((List.getElem?_inj (List.getElem?_eq_some_iff.mp h1).1 R.nd).mp (h1.trans e1.symm))
    refine h.up (fun _ _ z => z) g ?_
    rw [hw]
    exact n.frame b w hw nb st
section
variable {C : Cp} {e : Expr} {es : List Expr} {dr : DA} {x : Str} {p pos : Pos} {k n : Nat} {F : Fn}
/-- what is needed of the call: the promise told with a store of its own -/
theorem sp_lot {G : Glo} {n : Nat} {F : Fn} {φ : List Addr} {S : Store} {H : Hp} {xs : List D} {vs : List V} {B : Value → Option Addr → Hp → Prop} {Q : VK} {E : XK} (R : Rel G φ S H) (rs : VRels G φ H xs vs) (hl : xs.length = n)
    (P : Pst G B φ H (fun φ' H' _ x => ∀ v, VRel G φ' H' x v → Q v H') (lotGo F xs S)) : spD G n F vs H Q E := by
  unfold lotGo at P
  split at P
  · rename_i i ys
    split at P
    · rename_i o eo
      split at P
      · rename_i hb
        obtain ⟨b1, b2⟩ := ba hb
        simp only [VRels] at rs
        obtain ⟨u, us, ev, ru, rus⟩ := rs
        simp only [VRel] at ru
        obtain ⟨a, rfl, ea⟩ := ru
        have R0 := R.lot ea eo b1
        refine ⟨[a], [o], .ref 0 :: ys, R0, ?_, by rw [← hl]; rfl, ?_⟩
        · rw [ev]
          exact VRels.cons (by simp only [VRel]; exact ⟨a, rfl, rfl⟩) (pures_rel b2 rus)
        · split at P
          · rename_i v S2 eF
            split at P
            · rename_i o2 e2
              split at P
              · rename_i hc
                obtain ⟨c1, c2⟩ := ba hc
                rw [eF]
                intro φ1 H1 n1 R1 w r1
                obtain ⟨R2, n2⟩ := R.lotBack ea eo n1 R1 e2 c2
                exact P φ H1 n2 R2 w (pure_rel c1 r1)
              · exact P.elim
            · exact P.elim
          · exact P.elim
      · exact P.elim
    · exact P.elim
  · exact P.elim
theorem pex_clGL (h : FnIsG C.G k x n F) (hk : Nat.ble k C.k = true) (hg : okG C x = true) (hgd : C.gd = true) (ha : PAx C (e :: es) dr) (hn : LenIs dr n)
    (he : ∀ env, starEach (e :: es) env = (false, eval e env) :: starEach es env := by intro _; rfl) (hpl : ∀ env, (backTo pos (starEach es env)).any (·.1) = false := by intro _; rfl) : PEx C (.Call (.Name x p) (e :: es) [] pos) (dCallL F dr) := fun X W hx => by
  obtain ⟨g1, g2⟩ := ba hg
  obtain ⟨f, fd, ps, _, ok, hm, kp, hb⟩ := h.ex
  refine ⟨fun pins s σ H Q I ⟨φ, S, env, R, E, P⟩ => ?_⟩
  refine wpAny_Call_Name_kw (ld_glob I (glB_ok g1 hx) (by rw [hx.mg]; exact hm) ?_ (nb g2))
  have P0 := P.bind
  have rd : rdA C.G W dr σ H fun vs H1 => spD C.G n F vs H1 Q (WE W σ) := by
    cases q : dr env S with
    | bad => rw [q] at P0; exact P0.elim
    | er y S1 => rw [q] at P0; exact ⟨φ, S, env, R, E, by rw [q]; exact P0⟩
    | ok xs S1 =>
      rw [q] at P0
      refine ⟨φ, S, env, R, E, ?_⟩
      rw [q]
      exact fun φ1 H1 n1 R1 vs rs => sp_lot R1 rs (hn env S xs S1 q) (P0 φ1 H1 n1 R1)
  refine PySem.W.callWith_K (h₀ := X.base) I.ok.mod.kin (by rw [hx.K]; exact kp) (thn ((ha X W hx).run pos pins s σ H _ I rd) fun us s1 ⟨vs, H1, I1, r, q⟩ => ⟨I1.kIn, ?_⟩) (he X.env) (hpl X.env)
  exact run_fnG hx hgd ok (Nat.le_of_ble_eq_true hk) hb I1 r q
end
/-! ### an expression that knows nothing of what stood before -/
def dNew (d : DE) : DE := fun env S => match d (env.map fun _ => none) [] with
  | .ok v _ => if pure_ v = true then .ok v S else .bad
  | _ => .bad
theorem pex_bare {C : Cp} {e : Expr} {d : DE} (h : PEx C e d) : PEx C e (dNew d) := fun X W hx => pe_imp (h X W hx) fun σ H Q ⟨φ, S, env, R, E, P⟩ => by
  refine ⟨[], [], env.map fun _ => none, ⟨rfl, List.nodup_nil, fun i a o e1 e2 => by simp at e2, R.tabs⟩, ⟨by rw [List.length_map]; exact E.1, fun i x q => ?_⟩, ?_⟩
  · rw [List.getElem?_map] at q
    cases hq : env[i]? <;> rw [hq] at q <;> cases q
  unfold dNew at P
  cases hd : d (env.map fun _ => none) [] with
  | bad => rw [hd] at P; exact P.elim
  | er x S1 => rw [hd] at P; exact P.elim
  | ok v S1 =>
    rw [hd] at P
    dsimp only at P
    by_cases hp : pure_ v = true
    · rw [if_pos hp] at P
      intro φ1 H1 n1 R1 w r1
      obtain ⟨R2, n2⟩ := R.aside n1 R1
      exact P φ H1 n2 R2 w (pure_rel hp r1)
    · rw [if_neg hp] at P; exact P.elim
end Z

/-! Z59: exceptions' classes and word defs, read at the heap behind the top. -/
namespace Z
open PySem PySem.Spec PyProof.Rows L2 He
def veL : List Value := [.type "ValueError", .type "Exception", .type "BaseException", .type "object"]
def ckX0 (x : Str) : Ck := fun K => PySem.W.excIn K (ga K x) veL "ValueError.__new__" && (PySem.W.keepIn K (.ref (ga K x)) && (decide (PySem.W.subIn K (.ref (ga K x)) (.type "BaseException") = some true) && decide (PySem.W.typeIn K (.ref (ga K x)) = some (.type "type"))))
/-- the built-in bases of own exceptions with an __init__ -/
inductive Eb where
  | idx | ovf | ari | run | val
def Eb.B : Eb → String
  | .idx => "IndexError" | .ovf => "OverflowError" | .ari => "ArithmeticError" | .run => "RuntimeError" | .val => "ValueError"
def Eb.new : Eb → String
  | .idx => "IndexError.__new__" | .ovf => "OverflowError.__new__" | .ari => "ArithmeticError.__new__" | .run => "RuntimeError.__new__" | .val => "ValueError.__new__"
def Eb.ini : Eb → String
  | .idx => "IndexError.__init__" | .ovf => "OverflowError.__init__" | .ari => "ArithmeticError.__init__" | .run => "RuntimeError.__init__" | .val => "ValueError.__init__"
def Eb.bm : Eb → List Value
  | .idx => [.type "IndexError", .type "LookupError", .type "Exception", .type "BaseException", .type "object"]
  | .ovf => [.type "OverflowError", .type "ArithmeticError", .type "Exception", .type "BaseException", .type "object"]
  | .ari => [.type "ArithmeticError", .type "Exception", .type "BaseException", .type "object"]
  | .run => [.type "RuntimeError", .type "Exception", .type "BaseException", .type "object"]
  | .val => [.type "ValueError", .type "Exception", .type "BaseException", .type "object"]
theorem Eb.facts (b : Eb) : ExcBaseFacts b.B b.new b.ini b.bm ∧ PySem.W.KxsFacts b.B b.ini ∧ StoreFacts b.B b.bm "object.__setattr__" "object" := by
  cases b
  · exact ⟨F.excBase_IndexError, PySem.W.kxs_IndexError, F.store_IndexError⟩
  · exact ⟨F.excBase_OverflowError, PySem.W.kxs_OverflowError, F.store_OverflowError⟩
  · exact ⟨F.excBase_ArithmeticError, PySem.W.kxs_ArithmeticError, F.store_ArithmeticError⟩
  · exact ⟨F.excBase_RuntimeError, PySem.W.kxs_RuntimeError, F.store_RuntimeError⟩
  · exact ⟨F.excBase_ValueError, PySem.W.kxs_ValueError, F.store_ValueError⟩
/-- the code object's file, the cell of the class -/
def ckFile (file : Str) (C f : Addr) (K : PySem.W.Frag) : Bool := match K.lookup f with
  | some ⟨_, _, .func fd, _⟩ => (match fd.code with
    | .ref c => (match K.lookup c with
      | some ⟨_, _, .fields vs, _⟩ => (match (vs[2]? : Option Value) with
        | some (Value.str fl _) => file == fl
        | _ => false)
      | _ => false)
    | _ => false) && (match fd.closure with
    | [(_, cc)] => (match K.lookup cc with
      | some ⟨_, _, .cell (some (.ref D)), _⟩ => decide (D = C)
      | _ => false)
    | _ => false)
  | _ => false
def ckXs (b : Eb) (x fld file : Str) : Ck := fun K => (PySem.W.excInitIn K (ga K x) b.bm b.new && (PySem.W.excOver K (ga K x) b.bm && (decide (PySem.W.subIn K (.ref (ga K x)) (.type b.B) = some true) && eqO (PySem.W.ks_superIn K (ga K x) (ga K x) "__init__") (some (some (.builtin b.ini)))))) &&
  ((PySem.W.hasDictIn K (ga K x) && (PySem.W.keepIn K (.ref (ga K x)) && (eqO (PySem.W.findIn K (.ref (ga K x)) "__setattr__") (some (some (.builtin "object.__setattr__"))) && (eqO (PySem.W.takerIn K (ga K x) fld) (some none) && decide (PySem.W.mroIn K (ga K x) (.ref (ga K x)) = some true))))) &&
  ((decide (PySem.W.subIn K (.ref (ga K x)) (.type "BaseException") = some true) && (decide (PySem.W.typeIn K (.ref (ga K x)) = some (.type "type")) && eqO (PySem.W.nsIn K cStatics "thirdparty.any") (some none))) &&
  (eqO (PySem.W.findIn K (.ref (ga K x)) "__init__") (some (some (.ref (ma K (ga K x) "__init__")))) && (decide (PySem.W.typeIn K (.ref (ma K (ga K x) "__init__")) = some (.type "function")) && ckFile file (ga K x) (ma K (ga K x) "__init__") K))))
/-- its fields may be read -/
def ckXf (x fld : Str) : Ck := fun K => L2.xfB K (ga K x) && eqO (PySem.W.findIn K (.ref (ga K x)) fld) (some none)
/-- which classes are among which -/
def ckSubs (l : List (Str × List Str)) (ks : List Str) : Ck := fun K => l.all fun z => ks.all fun y => PySem.W.hasDictIn K (ga K y) && (decide (PySem.W.subIn K (.ref (ga K y)) (.type "BaseException") = some true) && (decide (PySem.W.typeIn K (.ref (ga K y)) = some (.type "type")) && decide (PySem.W.subIn K (.ref (ga K z.1)) (.ref (ga K y)) = some (z.2.contains y))))
/-- the text of such an __init__ -/
def xsText (b : List Stmt) : Option (List Str) := match b with
  | [.Expr (.Call (.Attribute (.Call (.Name s _) [] [] _) i p2) [.Constant (.str m) _ _] [] p4) _, .Assign [.Attribute (.Name se _) fld _] (.Name v _) _] => if (p2.endLine == p4.line) = true then some [s, i, m, se, fld, v] else none
  | _ => none
theorem call_line {o : Expr} {i m : Str} {p2 p3 p4 : Pos} {j : Nat} (h : (p2.endLine == p4.line) = true) (env : Env) : ∃ pl : Sem Bool, eval (.Call (.Attribute o i p2) [.Constant (.str m) j p3] [] p4) env = (do
      let ov ← attributeBase o i env (eval o env)
      standAt p2.atName
      let (f, first) ← holding [ov] (getMethod ov i pl)
      callWith p4 f first (backTo p4 (starEach [.Constant (.str m) j p3] env)) []) := by
  refine ⟨plainOf o env, ?_⟩
  rw [arm_eval_Call]
  refine congrArg _ (funext fun ov => congrArg _ (funext fun _ => ?_))
  exact mcall_line (by rfl) h
theorem xs_text {b : List Stmt} {v fld m : Str} (h : xsText b = some [("super" : Str), ("__init__" : Str), m, ("self" : Str), fld, v]) :
    ∃ p0 p1 p2 p3 p4 p5 j q0 q1 q2 q3, (∀ env : Env, ∃ pl : Sem Bool, eval (.Call (.Attribute (.Call (.Name "super" p0) [] [] p1) "__init__" p2) [.Constant (.str m) j p3] [] p4) env = (do
      let ov ← attributeBase (.Call (.Name "super" p0) [] [] p1) "__init__" env (eval (.Call (.Name "super" p0) [] [] p1) env)
      standAt p2.atName
      let (f, first) ← holding [ov] (getMethod ov "__init__" pl)
      callWith p4 f first (backTo p4 (starEach [.Constant (.str m) j p3] env)) [])) ∧ b = [.Expr (.Call (.Attribute (.Call (.Name "super" p0) [] [] p1) "__init__" p2) [.Constant (.str m) j p3] [] p4) p5, .Assign [.Attribute (.Name "self" q0) fld q1] (.Name v q2) q3] := by
  unfold xsText at h
  split at h
  · rename_i s p0 p1 i p2 m' j p3 p4 p5 se q0 fld' q1 v' q2 q3
    split at h
    · rename_i hl
      simp only [Option.some.injEq, List.cons.injEq, and_true] at h
      obtain ⟨rfl, rfl, rfl, rfl, rfl, rfl⟩ := h
      exact ⟨p0, p1, p2, p3, p4, p5, j, q0, q1, q2, q3, fun env => call_line hl env, rfl⟩
    · cases h
  · cases h
/-- a def that closes over its class -/
theorem Df.funX {K : PySem.W.Frag} {d : Df} (e : fnA K (d.ad K) = d.val) (c : d.ok K = true) (hc : d.clo = [("__class__" : Str)]) (hv : d.dvs = []) : ∃ (oc : Value) (od : Option Addr) (kV doc pm : Value) (an : Option Addr) (cdv ct : Value) (osl : Array (Option Value)) (cc : Addr),
    K.lookup (d.ad K) = some ⟨oc, od, .func (PySem.W.ksFn d.name d.qual d.params d.body d.scope .none kV doc pm an cdv ct cc), osl⟩ ∧ PySem.W.codeIn K cdv d.qual = true := by
  obtain ⟨_, c2⟩ := ba c
  unfold fnA at e
  cases q : K.lookup (d.ad K) with
  | none =>
    rw [q] at c2
    cases c2
  | some o =>
    obtain ⟨oc, od, dt, osl⟩ := o
    rw [q] at c2 e
    cases dt with
    | func fd =>
      obtain ⟨n1, n2, n3, n4, n5, n6, n7, n8, n9, n10, n11, n12, n13, n14, n15⟩ := fd
      have e2 : (some (n1, n2, n3, n4, n5, n6, n7.map (fun z => (z.1, 0)), n15) : FnW) = some (d.name, d.qual, d.params, .stmts d.body, d.scope, mainGlobals, d.clo.map (fun z => (z, 0)), builtinsNs) := e
      rw [hc] at e2
      simp only [Option.some.injEq, Prod.mk.injEq] at e2
      obtain ⟨h1, h2, h3, h4, h5, h6, h7, h8⟩ := e2
      match n7, h7 with
      | [(y, cc)], h7 =>
        have hy : y = ("__class__" : Str) := by simpa using h7
        subst h1 h2 h3 h4 h5 h6 hy h8
        have c3 : (PySem.W.codeIn K n13 d.qual && (dflB K n8 d.dvs && kwdB K n9 [])) = true := c2
        obtain ⟨k1, k2⟩ := ba c3
        rw [hv] at k2
        have k3 : DflV K n8 [] := dflB_ok (ba k2).1
        have e8 : n8 = .none := by
          rcases k3 with ⟨_, k3⟩ | ⟨k3, _⟩
          · exact k3
          · exact absurd rfl k3
        subst e8
        exact ⟨oc, od, n9, n10, n11, n12, n13, n14, osl, cc, rfl, k1⟩
      | [], h7 => simp at h7
      | _ :: _ :: _, h7 => simp at h7
    | _ => cases c2
section
variable {cs : List Ck} {fn : List Df} {cl : List Str} {tf : Tf} {pr : Program} {G : Glo}
theorem Hyp.defX (h : Hyp cs fn cl tf pr G) (i : Nat) {d : Df} (e0 : fn[i]? = some d) (hc : d.clo = [("__class__" : Str)] := by rfl) (hv : d.dvs = [] := by rfl) : ∃ (oc : Value) (od : Option Addr) (kV doc pm : Value) (an : Option Addr) (cdv ct : Value) (osl : Array (Option Value)) (cc : Addr),
    G.K.lookup (d.ad G.K) = some ⟨oc, od, .func (PySem.W.ksFn d.name d.qual d.params d.body d.scope .none kV doc pm an cdv ct cc), osl⟩ ∧ PySem.W.codeIn G.K cdv d.qual = true := by
  have c2 := (ba (show ((cs.all fun c => c G.K) && fn.all fun d => d.ok G.K) = true from congrArg (fun z : AlZ => z.1) h.all)).2
  have e : fn.map (fun d => _root_.Z.fnA G.K (d.ad G.K)) = fn.map Df.val := congrArg (fun z : AlZ => z.2) h.all
  have e2 : (fn.map fun d => _root_.Z.fnA G.K (d.ad G.K))[i]? = (fn.map Df.val)[i]? := by rw [e]
  rw [List.getElem?_map, List.getElem?_map, e0] at e2
  exact Df.funX (Option.some.inj e2) (List.all_eq_true.mp c2 d (List.mem_of_getElem? e0)) hc hv
theorem Hyp.x0 (h : Hyp cs fn cl tf pr G) (i : Nat) {x : Str} {c : Nat} (hc0 : cl[c]? = some x) (e : cs[i]? = some (ckX0 x)) : X0Ok G (G.ad c) := by
  rw [h.cls c x hc0]
  obtain ⟨c1, q⟩ := ba (h.ck i e)
  obtain ⟨c2, q⟩ := ba q
  obtain ⟨c3, c4⟩ := ba q
  exact ⟨c1, c2, of_decide_eq_true c3, of_decide_eq_true c4⟩
theorem file_ok {file : Str} {C f : Addr} {K : PySem.W.Frag} {oc : Value} {od : Option Addr} {fd : FuncData} {osl : Array (Option Value)} (c : ckFile file C f K = true) (lf : K.lookup f = some ⟨oc, od, .func fd, osl⟩) :
    ∃ cda, fd.code = .ref cda ∧ (∃ (ccl : Value) (cdd : Option Addr) (vs : Array Value) (ccs : Array (Option Value)) (fl : Str) (tfl : Tok), K.lookup cda = some ⟨ccl, cdd, .fields vs, ccs⟩ ∧ vs[2]? = some (.str fl tfl) ∧ (file == fl) = true) ∧
      ∀ n cc, fd.closure = [(n, cc)] → ∃ (cl : Value) (cld : Option Addr) (csl : Array (Option Value)), K.lookup cc = some ⟨cl, cld, .cell (some (.ref C)), csl⟩ := by
  unfold ckFile at c
  rw [lf] at c
  dsimp only at c
  obtain ⟨c1, c2⟩ := ba c
  split at c1
  · rename_i cda e1
    split at c1
    · rename_i ccl cdd vs ccs e2
      split at c1
      · rename_i fl tfl e3
        refine ⟨cda, e1, ⟨ccl, cdd, vs, ccs, fl, tfl, e2, e3, c1⟩, fun n cc e4 => ?_⟩
        rw [e4] at c2
        dsimp only at c2
        split at c2
        · rename_i cl cld D csl e5
          rw [of_decide_eq_true c2] at e5
          exact ⟨cl, cld, csl, e5⟩
        · cases c2
      · cases c1
    · cases c1
  · cases c1
/-- such a class -/
theorem Hyp.xs (h : Hyp cs fn cl tf pr G) (i j : Nat) {b : Eb} {x v fld m : Str} {c : Nat} {d : Df} (hc0 : cl[c]? = some x) (e : cs[i]? = some (ckXs b x fld pr.main.file)) (ed : fn[j]? = some d) (had : d.ad G.K = ma G.K (ga G.K x) "__init__") (Sh : XsShape d.params d.body d.scope v fld m) (hclo : d.clo = [("__class__" : Str)] := by rfl) (hv : d.dvs = [] := by rfl) : XsC G.P G.K (G.ad c) v fld m := by
  rw [h.cls c x hc0]
  obtain ⟨c1, q⟩ := ba (h.ck i e)
  obtain ⟨c2, q⟩ := ba q
  obtain ⟨c3, c4⟩ := ba q
  obtain ⟨a1, r⟩ := ba c1
  obtain ⟨a2, r⟩ := ba r
  obtain ⟨a3, a4⟩ := ba r
  obtain ⟨b1, r⟩ := ba c2
  obtain ⟨b2, r⟩ := ba r
  obtain ⟨b3, r⟩ := ba r
  obtain ⟨b4, b5⟩ := ba r
  obtain ⟨d1, r⟩ := ba c3
  obtain ⟨d2, d3⟩ := ba r
  obtain ⟨f1, r⟩ := ba c4
  obtain ⟨f2, f3⟩ := ba r
  obtain ⟨g1, g2, g3⟩ := b.facts
  obtain ⟨oc, od, kV, doc, pm, an, cdv, ct, osl, cc, lf, hcd⟩ := h.defX j ed hclo hv
  rw [had] at lf
  obtain ⟨cda, k1, k2, k3⟩ := file_ok f3 lf
  have k1 : cdv = .ref cda := k1
  subst k1
  obtain ⟨l1, l2, l3, l4, l5, l6, m1, m2, m3⟩ := k2
  refine ⟨⟨b.B, b.new, b.ini, b.bm, g1, g2, g3, a1, a2, of_decide_eq_true a3, eqO_ok a4⟩, b1, b2, eqO_ok b3, eqO_ok b4, of_decide_eq_true b5, of_decide_eq_true d1, of_decide_eq_true d2, eqO_ok d3, ?_⟩
  exact ⟨_, cc, cda, d.name, d.qual, d.params, d.body, d.scope, kV, doc, pm, ct, oc, an, od, osl, eqO_ok f1, of_decide_eq_true f2, lf, hcd, Sh, ⟨l1, l2, l3, l4, l5, l6, m1, m2, by rw [h.prog]; exact m3⟩, k3 _ cc rfl⟩
theorem Hyp.xf (h : Hyp cs fn cl tf pr G) (i : Nat) {x fld : Str} {c : Nat} (hc0 : cl[c]? = some x) (e : cs[i]? = some (ckXf x fld)) : XfC G.K (G.ad c) ∧ PySem.W.findIn G.K (.ref (G.ad c)) fld = some none := by
  rw [h.cls c x hc0]
  obtain ⟨c1, c2⟩ := ba (h.ck i e)
  exact ⟨xfB_ok c1, eqO_ok c2⟩
/-- the table of classes by their names -/
theorem Hyp.subs (h : Hyp cs fn cl tf pr G) (i : Nat) {l : List (Str × List Str)} {ks : List Str} {exs : List (Nat × List Nat)} {hs : List Hd} (e : cs[i]? = some (ckSubs l ks))
    (ht : ∀ c sup, exs.lookup c = some sup → ∀ z ∈ hs, ∃ x y ys, cl[c]? = some x ∧ cl[z.k]? = some y ∧ (x, ys) ∈ l ∧ y ∈ ks ∧ sup.contains z.k = ys.contains y) : XSub G exs hs := fun c sup hl z hz => by
  obtain ⟨x, y, ys, h1, h2, h3, h4, h5⟩ := ht c sup hl z hz
  have q := List.all_eq_true.mp (List.all_eq_true.mp (h.ck i e) (x, ys) h3) y h4
  obtain ⟨q1, q⟩ := ba q
  obtain ⟨q2, q⟩ := ba q
  obtain ⟨q3, q4⟩ := ba q
  rw [h.cls c x h1, h.cls z.k y h2, h5]
  exact PySem.W.exm_ref (of_decide_eq_true q2) q1 (of_decide_eq_true q3) (of_decide_eq_true q4)
end
end Z

/-! Z60: word defs read in the head; classmethods that may raise; {}; rules as a program prints them. -/
namespace Z
open PySem PySem.Spec PyProof.Rows L2 He
/-! ### word defs -/
def wA (b : List Stmt) : Str := match b with
  | .Try [.Expr (.Call (.Name a _) _ _ _) _] _ _ _ _ :: _ => a
  | _ => Str.empty
def wEs (b : List Stmt) : List ExceptHandler := match b with
  | .Try _ es _ _ _ :: _ => es
  | _ => []
def wEf (b : List Stmt) : Expr := match b with
  | [_, .Return (some e) _] => e
  | _ => .Constant .none 0 ⟨0, 0, 0, 0⟩
def wOk (b : List Stmt) : Bool := match b with
  | [.Try [.Expr (.Call (.Name _ _) [] [] _) _] (_ :: _) [] [] _, .Return (some _) _] => true
  | _ => false
theorem w_shape {b : List Stmt} (h : wOk b = true) : ∃ p1 p2 p3 p4 p5, b = [.Try [.Expr (.Call (.Name (wA b) p1) [] [] p2) p3] (wEs b) [] [] p4, .Return (some (wEf b)) p5] ∧ wEs b ≠ [] := by
  unfold wOk at h
  split at h
  · exact ⟨_, _, _, _, _, rfl, by simp [wEs]⟩
  · cases h
section
variable {cs : List Ck} {fn : List Df} {cl : List Str} {tf : Tf} {pr : Program} {G : Glo} {i j : Nat} {d : Df} {y a : Str} {N : List Str} {exs : List (Nat × List Nat)} {hs : List Hd} {fin : D}
theorem Hyp.word (h : Hyp cs fn cl tf pr G) (i j : Nat) (hd : fn[i]? = some d) (hn : d.name = y) (hq : d.qual = y) (ha : d.ad G.K = ga G.K y) (hc : cs[j]? = some (ckFa (.glo y))) (hw : wOk d.body = true) (ew : wA d.body = a) (Sc : FnScope N [a] d.scope) (hN : N[0]? = some a) (hv : visB d.scope a = true) (hda : (a == ("__debug__" : Str)) = false) (hdc : (a == ("__classdict__" : Str)) = false)
    (hbi : ∀ (kV doc pm : Value) (an : Option Addr) (cdv ct : Value) (us : List Value), us.length = [a].length → bindArgs (PySem.W.fnOf d.name d.qual d.params d.body d.scope .none kV doc pm an cdv ct) ⟨us, []⟩ = pure ([a].zip us))
    (hh : HdsZ G d.scope N (wEs d.body) hs) (hf : PNx (wEf d.body) fin) (hvv : d.dvs = [] := by rfl) (hcl : d.clo = [] := by rfl) : WdIs G y exs hs fin := by
  obtain ⟨fd, F⟩ := h.def_ i hd hcl
  rw [hvv] at F
  have F' := F
  obtain ⟨oc, od, dV, kV, doc, pm, an, cdv, ct, osl, e1, lk, hcd, _, _⟩ := F.ex
  obtain ⟨p1, p2, p3, p4, p5, eb, ne⟩ := w_shape hw
  have hb := F'.bindsN hbi
  subst e1
  rw [hn, hq] at lk hb
  rw [hq] at hcd
  refine ⟨_, d.params, d.body, d.scope, dV, kV, doc, pm, cdv, ct, oc, an, od, osl, N, a, p1, p2, p3, p4, p5, wEs d.body, wEf d.body, by rw [ha]; exact h.glo j hc, F.kp, lk, hcd, hb, Sc, hN, (List.getElem?_eq_some_iff.mp hN).1, hv, hda, hdc, by rw [← ew]; exact eb, ne, hh, hf⟩
end
/-! ### classmethods that may raise -/
def dCmE (c : Nat) (F : Fn) (o : DE) (r : DA) : DE := fun env S => (o env S).bind fun x S1 => match x with
  | .st c' => if c' = c then (r env S1).bind fun xs S2 => F (.st c :: xs) S2 else .bad
  | _ => .bad
theorem pex_cmE {C : Cp} {k c n : Nat} {m : Str} {F : Fn} {o e : Expr} {es : List Expr} {dₒ : DE} {dr : DA} {pos apos : Pos} {pl : Env → Sem Bool} (h : CmIs C.G k c m (n + 1) F) (hk : Nat.ble k C.k = true) (ho : PEx C o dₒ) (ha : PAx C (e :: es) dr) (hn : LenIs dr n)
    (hst : ∀ env, starEach (e :: es) env = (false, eval e env) :: starEach es env := by intro _; rfl) (hpl : ∀ env, (backTo pos (starEach es env)).any (·.1) = false := by intro _; rfl)
    (ht : ∀ env, eval (.Call (.Attribute o m apos) (e :: es) [] pos) env = (do
      let ov ← eval o env
      standAt apos.atName
      let (f, first) ← holding [ov] (getMethod ov m (pl env))
      callWith pos f first (backTo pos (starEach (e :: es) env)) (backToKw pos (keywordEach [] env))) := by intro _; rfl) :
    PEx C (.Call (.Attribute o m apos) (e :: es) [] pos) (dCmE c F dₒ dr) := fun X W hx => by
  obtain ⟨mc, p, g, hr, hm, hF⟩ := h.ex
  have F' : FnR X.prog X.w X.K X.mg X.base (L2.CX X.prog X.w) k g (spD C.G (n + 1) F) := by rw [hx.prog, hx.w, hx.K, hx.mg, hx.base]; exact hF
  refine pe_imp (ClX.pe_cmeth (pl := pl X.env) (E := fun cls d H => ∀ σ, W cls d σ H) (C := C.G.ad c) (ho X W hx) (by rw [hx.K]; exact hr) (by rw [hx.K]; exact hm) F' (hx.room.mono (Nat.le_of_ble_eq_true hk)) (fun pins σ H s e s' I z => hx.takes e s' (XE.of_call I (fun cls d H' q => q σ) z)) (ha X W hx) (hst X.env) (hpl X.env) (ht X.env)) fun σ H Q ⟨φ, S, env, R, E, P⟩ => ⟨φ, S, env, R, E, P.bind.imp fun φ1 H1 S1 x n1 R1 P1 v1 r1 => ?_⟩
  cases x with
  | st c' =>
    dsimp only at P1
    by_cases hc : c' = c
    · subst hc
      rw [if_pos rfl] at P1
      simp only [VRel] at r1
      refine ⟨r1, φ1, S1, env, R1, E.nxt n1, ?_⟩
      have P2 := P1.bind
      cases q : dr env S1 with
      | bad => rw [q] at P2; exact P2.elim
      | er y S2 => rw [q] at P2; exact P2
      | ok xs S2 =>
        rw [q] at P2
        intro φ2 H2 n2 R2 vs rs
        refine ⟨φ2, S2, .st c' :: xs, R2, VRels.cons (d := .st c') (v := .ref (C.G.ad c')) (by simp only [VRel]) rs, by rw [List.length_cons, hn env S1 xs S2 q], ?_⟩
        have P3 := P2 φ2 H2 n2 R2
        dsimp only at P3
        cases qf : F (.st c' :: xs) S2 with
        | ok v S3 => rw [qf] at P3; exact P3
        | bad => rw [qf] at P3; exact P3.elim
        | er z S3 => rw [qf] at P3; exact fun φ3 H3 n3 R3 cls dd xr σ' => hx.ind _ _ _ _ _ (P3 φ3 H3 n3 R3 cls dd xr)
    · rw [if_neg hc] at P1
      exact P1.elim
  | _ => exact P1.elim
/-! ### {} -/
def dDic0 : DE := fun _ S => .ok (.ref S.length) (S ++ [.dK []])
theorem pex_dic0 {C : Cp} {pos : Pos} : PEx C (.Dict [] [] pos) dDic0 := fun X W hx => pe_imp pe_dnewK fun σ H Q ⟨φ, S, env, R, E, P⟩ => fun p hp => by
  obtain ⟨R1, n1⟩ := R.push (o := .dK []) (u := .dK []) hp ⟨[], upd_same, rfl⟩
  refine P _ _ n1 R1 _ ?_
  simp only [VRel]
  exact ⟨p, rfl, by rw [← R.len]; simp⟩
end Z
namespace Z
open PySem PySem.Spec PyProof.Rows L2 He
/-- the scope of such an __init__ -/
def xsScope (scope : Scope) (v : Str) : Bool := decide (scope.names.lookup ("super" : Str) = some .globalImplicit) && (decide (scope.names.lookup ("__class__" : Str) = some .free) && (decide (scope.names.lookup ("self" : Str) = some .local) && (decide (scope.names.lookup v = some .local) && (decide (scope.kind = .function) && (scope.names.all (fun y => !decide (y.2 = .cell)) &&
  (!scope.isCoroutine && (!scope.isGenerator && (decide (v ≠ ("self" : Str)) && !(v == ("__debug__" : Str))))))))))
theorem xs_shape {params : Arguments} {body : List Stmt} {scope : Scope} {v fld m : Str} (h1 : xsText body = some [("super" : Str), ("__init__" : Str), m, ("self" : Str), fld, v]) (h2 : ((params.posonlyargs ++ params.args).head?.map fun z => z.arg) = some ("self" : Str)) (h3 : xsScope scope v = true)
    (h4 : ∀ (name qual : Str) (kV doc pm : Value) (an : Option Addr) (cdv ct : Value) (cc : Addr) (a b : Value), bindArgs (PySem.W.ksFn name qual params body scope .none kV doc pm an cdv ct cc) ⟨[a, b], []⟩ = pure [(("self" : Str), a), (v, b)]) : XsShape params body scope v fld m := by
  obtain ⟨c1, h⟩ := ba h3
  obtain ⟨c2, h⟩ := ba h
  obtain ⟨c3, h⟩ := ba h
  obtain ⟨c4, h⟩ := ba h
  obtain ⟨c5, h⟩ := ba h
  obtain ⟨c6, h⟩ := ba h
  obtain ⟨c7, h⟩ := ba h
  obtain ⟨c8, h⟩ := ba h
  obtain ⟨c9, c10⟩ := ba h
  refine ⟨xs_text h1, ?_, of_decide_eq_true c1, of_decide_eq_true c2, of_decide_eq_true c3, of_decide_eq_true c4, of_decide_eq_true c5, fun x hx => ?_, nb c7, nb c8, of_decide_eq_true c9, nb c10, h4⟩
  · obtain ⟨ar, e1, e2⟩ := Option.map_eq_some_iff.mp h2
    exact ⟨ar, e1, e2⟩
  · have := List.all_eq_true.mp c6 x hx
    simpa using this
/-- the table of classes, looked at -/
def subsB (cl : List Str) (l : List (Str × List Str)) (ks : List Str) (exs : List (Nat × List Nat)) (is : List Nat) : Bool := exs.all fun e => is.all fun k => match cl[e.1]?, cl[k]? with
  | some x, some y => (match l.find? fun z => z.1 == x with
    | some z => ks.contains y && (e.2.contains k == z.2.contains y)
    | none => false)
  | _, _ => false
theorem mem_lookup_ {c : Nat} {sup : List Nat} : ∀ {exs : List (Nat × List Nat)}, exs.lookup c = some sup → (c, sup) ∈ exs
  | [], h => by cases h
  | (d, s) :: r, h => by
    rw [List.lookup_cons] at h
    cases hq : (c == d) with
    | true => rw [hq] at h; cases h; rw [beq_iff_eq.mp hq]; exact List.mem_cons_self
    | false => rw [hq] at h; exact List.mem_cons_of_mem _ (mem_lookup_ h)
theorem Hyp.subsB {cs : List Ck} {fn : List Df} {cl : List Str} {tf : Tf} {pr : Program} {G : Glo} (h : Hyp cs fn cl tf pr G) (i : Nat) {l : List (Str × List Str)} {ks : List Str} {exs : List (Nat × List Nat)} {hs : List Hd} (e : cs[i]? = some (ckSubs l ks)) (b : Z.subsB cl l ks exs (hs.map (·.k)) = true) : XSub G exs hs := by
  refine h.subs i e fun c sup hl z hz => ?_
  have q := List.all_eq_true.mp (List.all_eq_true.mp b (c, sup) (mem_lookup_ hl)) z.k (List.mem_map.mpr ⟨z, hz, rfl⟩)
  dsimp only at q
  split at q
  · rename_i x y e1 e2
    split at q
    · rename_i w ew
      obtain ⟨q1, q2⟩ := ba q
      have hw := List.mem_of_find?_eq_some ew
      have hx : w.1 = x := by simpa using List.find?_some ew
      refine ⟨x, y, w.2, e1, e2, ?_, by simpa using q1, by simpa using q2⟩
      rw [← hx]
      exact hw
    · cases q
  · cases q
theorem htop {cs : List Ck} {fn : List Df} {cl : List Str} {tf : Tf} {pr : Program} {G : Glo} (h : Hyp cs fn cl tf pr G) (e : (pr.main.scope.names.lookup ("super" : Str)).isSome = false) : (G.P.main.scope.names.lookup ("super" : Str)).isSome = false := by
  rw [h.prog]; exact e
end Z

/-! Z61: a law that draws and tells which error it met, step by step over a store written out. -/
namespace Z
open PySem PySem.Spec
abbrev lotL (a b c : Int) : O := .lst [.int a, .int b, .int c]
def LB (a c : Int) (m : Nat) : Prop := 0 ≤ a ∧ 0 ≤ c ∧ c ≤ m
/-- what a def that draws one of a list answers -/
def Draws (F : Fn) : Prop := ∀ (a b c : Int) (T : Store) (m r : Nat) (ds : List D), LB a c m → m ≤ 1000 → (lotL a b c :: T)[r]? = some (.lst ds) → r ≠ 0 → 0 < ds.length → ds.length ≤ 1000 →
  ∃ (a' b' c' : Int) (x : D), x ∈ ds ∧ LB a' c' (m + 1) ∧ F [.ref 0, .ref r] (lotL a b c :: T) = .ok x (lotL a' b' c' :: T)
theorem draws_of {F : Fn} (h : ∀ {S : Store} {i m r : Nat} {ds : List D} {Q : D → Store → Prop}, Lot S i m → S[r]? = some (.lst ds) → 0 < ds.length → ds.length ≤ 2 ^ 60 → r ≠ i → m ≤ 2 ^ 40 →
    (∀ (k : Nat) (x : D) S', ds[k]? = some x → Lot S' i (m + 1) → Kp i S S' → S.length = S'.length → Q x S') → WP (F [.ref i, .ref r] S) Q) : Draws F := fun a b c T m r ds hb hm hr h0 hp hl => by
  obtain ⟨b1, b2, b3⟩ := hb
  have L : Lot (lotL a b c :: T) 0 m := ⟨a, b, c, rfl, b1, b2, b3⟩
  have w := h (Q := fun x S' => x ∈ ds ∧ ∃ a' b' c', LB a' c' (m + 1) ∧ S' = lotL a' b' c' :: T) L hr hp (by omega) h0 (by omega) fun k x S' e L' kp el => ⟨List.mem_of_getElem? e, ?_⟩
  · obtain ⟨x, S', e, hx, a', b', c', hb', rfl⟩ := w
    exact ⟨a', b', c', x, hx, hb', e⟩
  · obtain ⟨a', b', c', e0, l1, l2, l3⟩ := L'
    refine ⟨a', b', c', ⟨l1, l2, l3⟩, ?_⟩
    apply List.ext_getElem?
    intro j
    cases j with
    | zero => exact e0
    | succ j =>
      rw [List.getElem?_cons_succ]
      cases q : T[j]? with
      | some o => exact kp (j + 1) o (by omega) (by rw [List.getElem?_cons_succ]; exact q)
      | none =>
        have h1 := List.getElem?_eq_none_iff.mp q
        rw [List.length_cons] at el
        exact List.getElem?_eq_none_iff.mpr (by omega)
section
variable {F : Fn} {env e' : En} {S S' T T' : Store} {a b c : Int} {m r j k : Nat} {s s' rest : DS} {Q : Fl → Store → Prop} {dl d W : DE} {v : D} {l : List D}
theorem w_det (h : s env S = .ok (.nx e') S') (q : WP (rest e' S') Q) : WP (sSeq s rest env S) Q := by
  rw [q_seq, h]
  exact q
theorem w_det1 {f : Fl} (h : s env S = .ok f S') (q : Q f S') : WP (s env S) Q := ⟨f, S', h, q⟩
/-- x = one of [..] -/
theorem w_draw (ps : List (D × Str)) (r : Nat) (T' : Store) (hF : Draws F) (hb : LB a c m) (hl : dl env (lotL a b c :: T) = .ok (.ref r) (lotL a b c :: T')) (hr : (lotL a b c :: T')[r]? = some (.lst (ps.map (·.1)))) (he : env[0]? = some (some (.ref 0)))
    (hm : m ≤ 1000) (h0 : r ≠ 0 := by decide) (hp : (ps.map (·.1)).length ≠ 0 ∧ (ps.map (·.1)).length ≤ 1000 := by decide)
    (q : ∀ a' b' c' x t, (x, t) ∈ ps → LB a' c' (m + 1) → WP (rest (env.set j (some x)) (lotL a' b' c' :: T')) Q) : WP (sSeq (sAsg (dCall F (dCons (dVar 0) (dCons dl dNil))) (gNm j)) rest env (lotL a b c :: T)) Q := by
  obtain ⟨a', b', c', x, hx, hb', e⟩ := hF a b c T' m r _ hb hm hr h0 (Nat.pos_of_ne_zero hp.1) hp.2
  obtain ⟨⟨x1, t⟩, hx1, rfl⟩ := List.mem_map.mp hx
  refine w_det (e' := env.set j (some x1)) (S' := lotL a' b' c' :: T') ?_ (q a' b' c' x1 t hx1 hb')
  simp only [q_asg, q_call, q_cons, q_var, he, Res.bind_ok, hl, q_nil, e, q_gnm]
/-- the same as an expression -/
theorem e_draw {Q : D → Store → Prop} (ps : List (D × Str)) (r : Nat) (T' : Store) (hF : Draws F) (hb : LB a c m) (hl : dl env (lotL a b c :: T) = .ok (.ref r) (lotL a b c :: T')) (hr : (lotL a b c :: T')[r]? = some (.lst (ps.map (·.1)))) (he : env[0]? = some (some (.ref 0)))
    (hm : m ≤ 1000) (h0 : r ≠ 0 := by decide) (hp : (ps.map (·.1)).length ≠ 0 ∧ (ps.map (·.1)).length ≤ 1000 := by decide)
    (q : ∀ a' b' c' x t, (x, t) ∈ ps → LB a' c' (m + 1) → Q x (lotL a' b' c' :: T')) : WP (dCall F (dCons (dVar 0) (dCons dl dNil)) env (lotL a b c :: T)) Q := by
  obtain ⟨a', b', c', x, hx, hb', e⟩ := hF a b c T' m r _ hb hm hr h0 (Nat.pos_of_ne_zero hp.1) hp.2
  obtain ⟨⟨x1, t⟩, hx1, rfl⟩ := List.mem_map.mp hx
  refine ⟨x1, _, ?_, q a' b' c' x1 t hx1 hb'⟩
  simp only [q_call, q_cons, q_var, he, Res.bind_ok, hl, q_nil, e]
/-- told = [word] -/
theorem w_told (v : D) (h : gcv (W env S) S.length = some (v, S)) (q : WP (rest (env.set j (some (.ref S.length))) (S ++ [.lst [v]])) Q) : WP (sSeq (sAsg (dLst (dCons (dGc W) dNil)) (gNm j)) rest env S) Q :=
  w_det (by simp only [q_asg, q_lst, q_cons, gc_ok h, Res.bind_ok, q_nil, mkL, q_gnm]; rfl) q
/-- told.append(word) -/
theorem w_tell (v : D) (S' : Store) (h : gcv (W env S) S.length = some (v, S)) (he : env[j]? = some (some (.ref k))) (hk : S[k]? = some (.lst l)) (hl : Nat.blt l.length 1000 = true) (hs : S.set k (.lst (l ++ [v])) = S') (q : WP (rest env S') Q) :
    WP (sSeq (sExpr (dMeth isL mAppend (dVar j) (dCons (dGc W) dNil))) rest env S) Q :=
  w_det (e' := env) (S' := S') (by
    have hl2 : l.length < sl := Nat.lt_trans (Nat.blt_eq.mp hl) (by decide)
    simp only [q_expr, q_meth, q_var, he, Res.bind_ok, isL_r hk, q_cons, gc_ok h, q_nil, if_true, m_append hk hl2, q_ofO, hs]) q
end
/-- all the ways of a drawn value, at once -/
theorem all1 {β : Type} {ps : List (D × Str)} {f g : D → Str → β} (h : ps.map (fun p => f p.1 p.2) = ps.map (fun p => g p.1 p.2)) : ∀ x t, (x, t) ∈ ps → f x t = g x t := fun x t hm => List.map_inj_left.mp h (x, t) hm
theorem all2 {β : Type} {ps qs : List (D × Str)} {f g : D → Str → D → Str → β} (h : ps.map (fun p => qs.map fun q => f p.1 p.2 q.1 q.2) = ps.map (fun p => qs.map fun q => g p.1 p.2 q.1 q.2)) : ∀ x t, (x, t) ∈ ps → ∀ y u, (y, u) ∈ qs → f x t y u = g x t y u :=
  fun x t hm y u hy => List.map_inj_left.mp (List.map_inj_left.mp h (x, t) hm) (y, u) hy
theorem all3 {β : Type} {ps qs rs : List (D × Str)} {f g : D → Str → D → Str → D → Str → β} (h : ps.map (fun p => qs.map fun q => rs.map fun r => f p.1 p.2 q.1 q.2 r.1 r.2) = ps.map (fun p => qs.map fun q => rs.map fun r => g p.1 p.2 q.1 q.2 r.1 r.2)) :
    ∀ x t, (x, t) ∈ ps → ∀ y u, (y, u) ∈ qs → ∀ z w, (z, w) ∈ rs → f x t y u z w = g x t y u z w :=
  fun x t hm y u hy z w hz => List.map_inj_left.mp (List.map_inj_left.mp (List.map_inj_left.mp h (x, t) hm) (y, u) hy) (z, w) hz
/-! ### comprehensions that make no objects -/
theorem lcGo_map {ds : List D} {g : DG} {b : DE} {env : En} {S : Store} {f : D → D} {J : Itd} (hJ : ∀ k, J k S = some ds[k]?) (hb : ∀ d ∈ ds, (g d env S).bind (fun e S1 => b e S1) = .ok (f d) S) : ∀ (n k : Nat) (acc : List D), ds.length < k + n → k ≤ ds.length → acc.length + (ds.length - k) < sl →
    lcGo J g tYes1 b env n k acc S = .ok (acc ++ (ds.drop k).map f) S
  | 0, k, acc, h1, h2, _ => by omega
  | n + 1, k, acc, h1, h2, h3 => by
    unfold lcGo
    rw [hJ k]
    by_cases hk : k < ds.length
    · rw [List.getElem?_eq_getElem hk]
      dsimp only
      have e := hb ds[k] (List.getElem_mem hk)
      cases eg : g ds[k] env S with
      | ok e1 S1 =>
        rw [eg, Res.bind_ok] at e
        simp only [Res.cut, Res.bind_ok, q_yes, if_true, e]
        rw [if_pos (by omega), lcGo_map hJ hb n (k + 1) _ (by omega) (by omega) (by rw [List.length_append]; simp only [List.length_cons, List.length_nil]; omega)]
        rw [List.drop_eq_getElem_cons hk, List.map_cons, List.append_assoc]
        rfl
      | er x S1 => rw [eg] at e; cases e
      | bad => rw [eg] at e; cases e
    · rw [List.getElem?_eq_none_iff.mpr (by omega), List.drop_eq_nil_of_le (by omega)]
      simp
theorem lc_map {ds : List D} {a : DE} {g : DG} {b : DE} {own : List Nat} {env : En} {S S1 : Store} {x : D} {J : Itd} (f : D → D) (ha : a env S = .ok x S1) (hq : seqJ x S1 = some J) (hJ : ∀ k, J k S1 = some ds[k]?) (hl : Nat.blt ds.length 1000 = true)
    (hb : ∀ d ∈ ds, (g d (wipeE env own) S1).bind (fun e S2 => b e S2) = .ok (f d) S1) : dLc (iSeq a) g tYes1 b own env S = .ok (.ref S1.length) (S1 ++ [.lst (ds.map f)]) := by
  have hl2 := Nat.blt_eq.mp hl
  unfold dLc
  rw [q_seqi, ha, Res.bind_ok, hq]
  dsimp only
  rw [Res.bind_ok, lcGo_map hJ hb FUEL 0 [] (by unfold FUEL; omega) (by omega) (by have : sl = 16777216 := rfl; simp only [List.length_nil]; omega), Res.bind_ok]
  rfl
/-! ### several draws in one step -/
section
variable {F : Fn} {env : En} {S S' T : Store} {a b c : Int} {m i j k : Nat} {rest : DS} {Q : Fl → Store → Prop} {e1 e2 e3 : DE} {v : D}
theorem e_det {d : DE} {Q : D → Store → Prop} (h : d env S = .ok v S') (q : Q v S') : WP (d env S) Q := ⟨v, S', h, q⟩
theorem w_tup2 (q : WP (e1 env S) fun x S1 => WP (e2 env S1) fun y S2 => WP (rest ((env.set i (some x)).set j (some y)) S2) Q) : WP (sSeq (sAsg (dTup (dCons e1 (dCons e2 dNil))) (gTup 2 (gCons (gNm i) (gCons (gNm j) gNil)))) rest env S) Q := by
  rw [q_seq, WP_bind, q_asg, WP_bind, q_tup, WP_bind, q_cons, WP_bind]
  refine WP_mono q fun x S1 q1 => ?_
  rw [WP_bind, q_cons, WP_bind]
  refine WP_mono q1 fun y S2 q2 => ?_
  simp only [q_nil, Res.bind_ok, WP_ok, WP_bind, List.length_cons, List.length_nil]
  rw [if_pos (by decide)]
  simpa only [WP_ok, WP_bind, q_gtup, List.length_cons, List.length_nil, if_true, q_gcons, q_gnm, Res.bind_ok, q_gnil] using q2
theorem w_tup3 (q : WP (e1 env S) fun x S1 => WP (e2 env S1) fun y S2 => WP (e3 env S2) fun z S3 => WP (rest (((env.set i (some x)).set j (some y)).set k (some z)) S3) Q) :
    WP (sSeq (sAsg (dTup (dCons e1 (dCons e2 (dCons e3 dNil)))) (gTup 3 (gCons (gNm i) (gCons (gNm j) (gCons (gNm k) gNil))))) rest env S) Q := by
  rw [q_seq, WP_bind, q_asg, WP_bind, q_tup, WP_bind, q_cons, WP_bind]
  refine WP_mono q fun x S1 q1 => ?_
  rw [WP_bind, q_cons, WP_bind]
  refine WP_mono q1 fun y S2 q2 => ?_
  rw [WP_bind, q_cons, WP_bind]
  refine WP_mono q2 fun z S3 q3 => ?_
  simp only [q_nil, Res.bind_ok, WP_ok, WP_bind, List.length_cons, List.length_nil]
  rw [if_pos (by decide)]
  simpa only [WP_ok, WP_bind, q_gtup, List.length_cons, List.length_nil, if_true, q_gcons, q_gnm, Res.bind_ok, q_gnil] using q3
/-- i, j, k = [one of q for q in (.., .., ..)] -/
theorem w_draw3 {dl : DE} {l : Nat} {own : List Nat} (ps qs us : List (D × Str)) (r1 r2 r3 : Nat) (T' : Store) (hF : Draws F) (hb : LB a c m) (hl : dl env (lotL a b c :: T) = .ok (.tup [.ref r1, .ref r2, .ref r3]) (lotL a b c :: T'))
    (h1 : ∀ o : O, (o :: T')[r1]? = some (.lst (ps.map (·.1)))) (h2 : ∀ o : O, (o :: T')[r2]? = some (.lst (qs.map (·.1)))) (h3 : ∀ o : O, (o :: T')[r3]? = some (.lst (us.map (·.1)))) (he : (wipeE env own)[0]? = some (some (.ref 0))) (hlen' : Nat.blt l (wipeE env own).length = true) (hl0 : l ≠ 0)
    (hm : m ≤ 900) (h0 : r1 ≠ 0 ∧ r2 ≠ 0 ∧ r3 ≠ 0 := by decide) (hp : (ps.map (·.1)).length ≠ 0 ∧ (ps.map (·.1)).length ≤ 1000 := by decide) (hq : (qs.map (·.1)).length ≠ 0 ∧ (qs.map (·.1)).length ≤ 1000 := by decide) (hu : (us.map (·.1)).length ≠ 0 ∧ (us.map (·.1)).length ≤ 1000 := by decide)
    (q : ∀ a' b' c' x t y u z w, (x, t) ∈ ps → (y, u) ∈ qs → (z, w) ∈ us → LB a' c' (m + 3) → WP (rest (((env.set i (some x)).set j (some y)).set k (some z)) (lotL a' b' c' :: (T' ++ [.lst [x, y, z]]))) Q) :
    WP (sSeq (sAsg (dLc (iSeq dl) (gNm l) tYes1 (dCall F (dCons (dVar 0) (dCons (dVar l) dNil))) own) (gTup 3 (gCons (gNm i) (gCons (gNm j) (gCons (gNm k) gNil))))) rest env (lotL a b c :: T)) Q := by
  obtain ⟨a1, b1, c1, x, hx, hb1, f1⟩ := hF a b c T' m r1 _ hb (by omega) (h1 _) h0.1 (Nat.pos_of_ne_zero hp.1) hp.2
  obtain ⟨a2, b2, c2, y, hy, hb2, f2⟩ := hF a1 b1 c1 T' (m + 1) r2 _ hb1 (by omega) (h2 _) h0.2.1 (Nat.pos_of_ne_zero hq.1) hq.2
  obtain ⟨a3, b3, c3, z, hz, hb3, f3⟩ := hF a2 b2 c2 T' (m + 1 + 1) r3 _ hb2 (by omega) (h3 _) h0.2.2 (Nat.pos_of_ne_zero hu.1) hu.2
  obtain ⟨⟨x, t⟩, hx9, rfl⟩ := List.mem_map.mp hx
  obtain ⟨⟨y, u⟩, hy9, rfl⟩ := List.mem_map.mp hy
  obtain ⟨⟨z, w⟩, hz9, rfl⟩ := List.mem_map.mp hz
  have q := q a3 b3 c3 x t y u z w hx9 hy9 hz9 hb3
  have hlen := Nat.blt_eq.mp hlen'
  have step : ∀ (d : D), ((wipeE env own).set l (some d))[0]? = some (some (.ref 0)) ∧ ((wipeE env own).set l (some d))[l]? = some (some d) := fun d => ⟨by rw [List.getElem?_set_ne hl0]; exact he, by rw [List.getElem?_set_self hlen]⟩
  rw [q_seq, WP_bind, q_asg, WP_bind]
  refine e_det (v := .ref (T'.length + 1)) (S' := lotL a3 b3 c3 :: (T' ++ [.lst [x, y, z]])) ?_ ?_
  · unfold dLc
    rw [q_seqi, hl, Res.bind_ok, seqT]
    dsimp only
    rw [Res.bind_ok]
    have go : ∀ (n : Nat), lcGo (jT [.ref r1, .ref r2, .ref r3]) (gNm l) tYes1 (dCall F (dCons (dVar 0) (dCons (dVar l) dNil))) (wipeE env own) (n + 4) 0 [] (lotL a b c :: T') = .ok [x, y, z] (lotL a3 b3 c3 :: T') := fun n => by
      unfold lcGo
      simp only [jT, List.getElem?_cons_zero, q_gnm, Res.cut, Res.bind_ok, q_yes, if_true, q_call, q_cons, q_var, q_nil, (step _).1, (step _).2, f1, List.length_nil]
      rw [if_pos (by decide)]
      unfold lcGo
      simp only [jT, List.getElem?_cons_succ, List.getElem?_cons_zero, q_gnm, Res.cut, Res.bind_ok, q_yes, if_true, q_call, q_cons, q_var, q_nil, (step _).1, (step _).2, f2, List.nil_append, List.length_cons, List.length_nil]
      rw [if_pos (by decide)]
      unfold lcGo
      simp only [jT, List.getElem?_cons_succ, List.getElem?_cons_zero, q_gnm, Res.cut, Res.bind_ok, q_yes, if_true, q_call, q_cons, q_var, q_nil, (step _).1, (step _).2, f3, List.cons_append, List.nil_append, List.length_cons, List.length_nil]
      rw [if_pos (by decide)]
      unfold lcGo
      rfl
    rw [show FUEL = (FUEL - 4) + 4 from rfl, go]
    rfl
  · have e : (lotL a3 b3 c3 :: (T' ++ [.lst [x, y, z]]))[T'.length + 1]? = some (.lst [x, y, z]) := by rw [List.getElem?_cons_succ]; simp
    simpa only [WP_ok, WP_bind, q_gtup, e, List.length_cons, List.length_nil, if_true, q_gcons, q_gnm, Res.bind_ok, q_gnil] using q
end
section
variable {F : Fn} {env : En} {S S' T : Store} {m n i : Nat} {rest A : DS} {Q : Fl → Store → Prop} {W : DE}
/-- if told is not what is due: return False -/
theorem w_test (h : gcv (W env S) S.length = some (.bl false, S)) (q : WP (rest env S) Q) : WP (sSeq (sIf (dTst (dGc W)) A sNext) rest env S) Q :=
  w_det (by simp only [q_sif, q_tst, gc_ok h, Res.bind_ok, ofB_bl]; rfl) q
theorem w_ret (v : D) (h : gcv (W env S) S.length = some (v, S)) (q : Q (.rt v) S) : WP (sRet (dGc W) env S) Q :=
  ⟨_, _, by simp only [q_ret, gc_ok h, Res.bind_ok], q⟩
/-- what a def that is given the lot does -/
def Rights (F : Fn) (n : Nat) : Prop := ∀ (a b c : Int) (m : Nat), LB a c m → m ≤ 500 → ∃ (a' b' c' : Int) (T : Store), F [.ref 0] [lotL a b c] = .ok (.bl true) (lotL a' b' c' :: T) ∧ LB a' c' (m + n)
theorem rights_of {nl : Nat} {b : DS} (h : ∀ (a b' c : Int) (m : Nat), LB a c m → m ≤ 500 → WP (b (some (.ref 0) :: List.replicate (nl - 1) none) [lotL a b' c]) fun f S => f = .rt (.bl true) ∧ ∃ (a' b' c' : Int) (T : Store), S = lotL a' b' c' :: T ∧ LB a' c' (m + n)) : Rights (mkFn nl b) n := fun a b' c m hb hm => by
  obtain ⟨f, S, e, rfl, a', b'', c', T, rfl, hl⟩ := h a b' c m hb hm
  refine ⟨a', b'', c', T, ?_, hl⟩
  unfold mkFn
  simp only [List.map_cons, List.map_nil, List.length_cons, List.length_nil, List.cons_append, List.nil_append]
  rw [e]
  rfl
theorem w_callL {r : Nat} {Q : D → Store → Prop} (h : Rights F n) (hL : Lot S r m) (hm : m ≤ 500) (q : ∀ S', Lot S' r (m + n) → Kp r S S' → S.length = S'.length → Q (.bl true) S') : WP (lotGo F [.ref r] S) Q := by
  obtain ⟨a, b, c, e, h1, h2, h3⟩ := hL
  obtain ⟨a', b', c', T, f, h4, h5, h6⟩ := h a b c m ⟨h1, h2, h3⟩ hm
  refine ⟨.bl true, S.set r (lotL a' b' c'), ?_, q _ ⟨a', b', c', set_at e, h4, h5, h6⟩ Kp.set (by simp)⟩
  unfold lotGo
  simp only [e]
  rw [if_pos (by rfl), f]
  rfl
end
theorem all4 {β : Type} {ps qs rs ss : List (D × Str)} {f g : D → Str → D → Str → D → Str → D → Str → β} (h : ps.map (fun p => qs.map fun q => rs.map fun r => ss.map fun s => f p.1 p.2 q.1 q.2 r.1 r.2 s.1 s.2) = ps.map (fun p => qs.map fun q => rs.map fun r => ss.map fun s => g p.1 p.2 q.1 q.2 r.1 r.2 s.1 s.2)) :
    ∀ x t, (x, t) ∈ ps → ∀ y u, (y, u) ∈ qs → ∀ z w, (z, w) ∈ rs → ∀ x' t', (x', t') ∈ ss → f x t y u z w x' t' = g x t y u z w x' t' :=
  fun x t hm y u hy z w hz x' t' hx => List.map_inj_left.mp (List.map_inj_left.mp (List.map_inj_left.mp (List.map_inj_left.mp h (x, t) hm) (y, u) hy) (z, w) hz) (x', t') hx
/-- the script stands, whatever the lot became -/
theorem Scr.past {S S2 S3 : Store} {x : D} {ns : List Int} {r : Nat} (h : Scr S x ns) (s : Sub S S2) (hr : S.length ≤ r) (k : Kp r S2 S3) : Scr S3 x ns := by
  rcases h with h | ⟨q, hq, e⟩
  · exact .inl h
  · have hl := (List.getElem?_eq_some_iff.mp e).1
    exact .inr ⟨q, hq, k q _ (by omega) (s q _ e)⟩
/-- range(max(1, min(most, len(script)))) -/
theorem wp_turns {most : Int} {S : Store} {x : D} {ns : List Int} {env : En} {Q : Itd → Store → Prop} (hx : Scr S x ns) (he : env[0]? = some (some x)) (h1 : 1 ≤ most) (h2 : most ≤ 100) (hQ : ∀ c : Nat, (c : Int) ≤ most → Q (jR 0 c) S) :
    WP (iRng1 (dCons (dCallB (b2 fMax2) (dCons (dC (.int 1)) (dCons (dCallB (b2 fMin2) (dCons (dC (.int most)) (dCons (dCallB (b1 fLen) (dCons (dVar 0) dNil)) dNil))) dNil))) dNil) env S) Q := by
  have hlenD : fLen x S = some (.int ((ns.map D.int).length : Int), S) := by
    rcases hx with rfl | ⟨r, rfl, e⟩
    · exact f_lenF
    · exact f_lenR e
  have e : ∃ v : Int, 1 ≤ v ∧ v ≤ most ∧ (if (if (((ns.map D.int).length : Nat) : Int) < most then (((ns.map D.int).length : Nat) : Int) else most) > 1 then (if (((ns.map D.int).length : Nat) : Int) < most then (((ns.map D.int).length : Nat) : Int) else most) else 1) = v :=
    ⟨_, by split <;> split <;> omega, by split <;> split <;> omega, rfl⟩
  obtain ⟨v, v1, v2, e⟩ := e
  simp only [q_rng1, q_cons, q_callB, q_c, q_var, he, q_nil, Res.bind_ok, q_b1, q_b2, hlenD, q_ofO, f_min, f_max, e]
  rw [if_pos (by omega)]
  exact WP_ok.mpr (hQ v.toNat (by omega))
theorem q_callL {F : Fn} {r : DA} {env : En} {S : Store} : dCallL F r env S = (r env S).bind fun xs S1 => lotGo F xs S1 := rfl
end Z

/-! Z62: list comprehensions of two clauses: the list that is made stands in the store from the start. -/
namespace Z
open PySem PySem.Spec L2
def appO (r : Nat) (y : D) (S : Store) : Option Store := match S[r]? with
  | some (.lst acc) => if acc.length < sl then some (S.set r (.lst (acc ++ [y]))) else none
  | _ => none
def lcI (J : Itd) (g : DG) (t : DT) (b : DE) (env : En) (r : Nat) : Nat → Nat → Store → Res Unit
  | 0, _, _ => .bad
  | n + 1, j, S => match J j S with
    | none => .bad
    | some none => .ok () S
    | some (some d) => (g d env S).cut.bind fun env1 S1 => (t env1 S1).cut.bind fun k S2 => if k = true then (b env1 S2).cut.bind fun y S3 => match appO r y S3 with
        | some S4 => lcI J g t b env r n (j + 1) S4
        | none => .bad
      else lcI J g t b env r n (j + 1) S2
def lcO (J : Itd) (g : DG) (t : DT) (it1 : DI) (g1 : DG) (t1 : DT) (b : DE) (vs1 : List Nat) (env : En) (r : Nat) : Nat → Nat → Store → Res Unit
  | 0, _, _ => .bad
  | n + 1, i, S => match J i S with
    | none => .bad
    | some none => .ok () S
    | some (some d) => (g d env S).cut.bind fun env1 S1 => (t env1 S1).cut.bind fun k S2 => if k = true then (it1 env1 S2).cut.bind fun J1 S3 => (lcI J1 g1 t1 b (wipeE env1 vs1) r FUEL 0 S3).bind fun _ S4 => lcO J g t it1 g1 t1 b vs1 env r n (i + 1) S4
      else lcO J g t it1 g1 t1 b vs1 env r n (i + 1) S2
def dLc2 (it : DI) (g : DG) (t : DT) (it1 : DI) (g1 : DG) (t1 : DT) (b : DE) (own vs1 : List Nat) : DE := fun env S => (it env S).bind fun J S1 => (lcO J g t it1 g1 t1 b vs1 (wipeE env own) S1.length FUEL 0 (S1 ++ [.lst []])).bind fun _ S2 => .ok (.ref S1.length) S2
section
variable {C : Cp} {elt tg iter tg1 iter1 : Expr} {ifs ifs1 : List Expr} {scope : Scope} {own : List (Str × Nat)} {pos : Pos} {it it1 : DI} {g g1 : DG} {t t1 : DT} {b : DE} {vs vs1 : List Nat}
theorem rd_lc2 {W : WX} {σ : St} {H : Hp} {Q : VK} (hv : ∀ j ∈ vs, j ∈ own.map (·.2)) (h : rdE C.G W (dLc2 it g t it1 g1 t1 b (own.map (·.2)) vs1) σ H Q) :
    tLc2 (rdI C.G W it) (rdG C.G W0 vs g) (rdT C.G W0 t) (rdI C.G W0 it1) (rdG C.G W0 vs1 g1) (rdT C.G W0 t1) (rdE C.G W0 b) (own.map (·.2)) vs1 σ H Q := by
  obtain ⟨φ, S, env, R, E, P⟩ := h
  refine ⟨φ, S, env, R, E, P.bind.imp fun φ1 H1 S1 J n1 R1 P1 Jx hJ Da hD => ?_⟩
  have E1 : ERel C.G φ1 H1 (wipeE env (own.map (·.2))) (L2.wipe σ (own.map (·.2))) := (E.nxt n1).wipe _
  obtain ⟨R0, n0⟩ := R1.push (o := .lst []) hD ⟨[], upd_same, VRels.nil⟩
  have a0 : (φ1 ++ [Da])[S1.length]? = some Da := by rw [← R1.len]; simp
  refine ⟨fun i m H' => ∃ φ' S', Rel C.G φ' S' H' ∧ Nxt φ1 φ' H1 H' ∧ φ'[S1.length]? = some Da ∧
    Pst C.G (fun c p H' => W c p σ H') φ1 H1 (fun φ' H' _ x => ∀ v, VRel C.G φ' H' x v → Q v H') ((lcO J g t it1 g1 t1 b vs1 (wipeE env (own.map (·.2))) S1.length m i S').bind fun _ S2 => .ok (.ref S1.length) S2), ⟨FUEL, _, _, R0, n0, a0, P1⟩, ?_⟩
  rintro i m H2 ⟨φ2, S2, R2, n2, a2, P3⟩
  cases m with
  | zero => exact P3.elim
  | succ m =>
    unfold lcO at P3
    cases q : J i S2 with
    | none => rw [q] at P3; exact P3.elim
    | some o =>
      rw [q] at P3
      cases o with
      | none =>
        refine .inl ⟨hJ.stop i φ2 S2 H2 n2 R2 q, ?_⟩
        refine P3 φ2 H2 n2 R2 (.ref Da) ?_
        simp only [VRel]
        exact ⟨Da, rfl, a2⟩
      | some d =>
        obtain ⟨go, yld⟩ := hJ.go i φ2 S2 H2 d n2 R2 q
        refine .inr ⟨go, _, fun H' w => ⟨m, Nat.lt_succ_self m, w⟩, fun x H' y => ?_⟩
        obtain ⟨ny, Ry, ry⟩ := yld x H' y
        dsimp only at P3
        rw [Res.bind_assoc] at P3
        obtain ⟨env3, S3, e3, P4⟩ := P3.cut_bind
        refine ⟨φ2, S2, _, d, Ry, (E1.nxt n2).nxt ny, ry, ?_⟩
        rw [e3]
        intro φ3 H3 n3 R3 σ3 E3 l3 k3
        refine ⟨wipe_same (fun j hj => k3 j fun z => hj (hv j z)) (by rw [l3, L2.wipe_length]), φ3, S3, env3, R3, E3, ?_⟩
        rw [Res.bind_assoc] at P4
        obtain ⟨k, S4, e4, P5⟩ := P4.cut_bind
        rw [e4]
        intro φ4 H4 n4 R4
        have nn : Nxt φ1 φ4 H1 H4 := ((n2.trans ny).trans n3).trans n4
        have a4 : φ4[S1.length]? = some Da := n4.at_ (n3.at_ (ny.at_ a2))
        cases k with
        | false => exact iteF ⟨φ4, S4, R4, nn, a4, P5⟩
        | true =>
          refine iteT ⟨φ4, S4, env3, R4, E3.nxt n4, ?_⟩
          rw [if_pos rfl, Res.bind_assoc] at P5
          obtain ⟨J1, S5, e5, P6⟩ := P5.cut_bind
          rw [e5]
          intro φ5 H5 n5 R5 Jx1 hJ1
          have E5 : ERel C.G φ5 H5 (wipeE env3 vs1) (L2.wipe σ3 vs1) := ((E3.nxt n4).nxt n5).wipe _
          rw [Res.bind_assoc] at P6
          refine ⟨fun j k H' => ∃ φ' S', Rel C.G φ' S' H' ∧ Nxt φ1 φ' H1 H' ∧ Nxt φ5 φ' H5 H' ∧ φ'[S1.length]? = some Da ∧
            Pst C.G (fun c p H' => W c p σ H') φ1 H1 (fun φ' H' _ x => ∀ v, VRel C.G φ' H' x v → Q v H') ((lcI J1 g1 t1 b (wipeE env3 vs1) S1.length k j S').bind fun _ S4 => (lcO J g t it1 g1 t1 b vs1 (wipeE env (own.map (·.2))) S1.length m (i + 1) S4).bind fun _ S2 => .ok (.ref S1.length) S2),
            ⟨FUEL, φ5, S5, R5, nn.trans n5, Nxt.refl _ _, n5.at_ a4, P6⟩, ?_⟩
          rintro j k H6 ⟨φ6, S6, R6, n6, n56, a6, P7⟩
          cases k with
          | zero => exact P7.elim
          | succ k =>
            unfold lcI at P7
            cases q1 : J1 j S6 with
            | none => rw [q1] at P7; exact P7.elim
            | some o1 =>
              rw [q1] at P7
              cases o1 with
              | none => exact .inl ⟨hJ1.stop j φ6 S6 H6 n56 R6 q1, φ6, S6, R6, n6, a6, P7⟩
              | some d1 =>
                obtain ⟨go1, yld1⟩ := hJ1.go j φ6 S6 H6 d1 n56 R6 q1
                refine .inr ⟨go1, _, fun H' w => ⟨k, Nat.lt_succ_self k, w⟩, fun x1 H' y1 => ?_⟩
                obtain ⟨ny1, Ry1, ry1⟩ := yld1 x1 H' y1
                dsimp only at P7
                rw [Res.bind_assoc] at P7
                obtain ⟨env7, S7, e7, P8⟩ := P7.cut_bind
                refine ⟨φ6, S6, _, d1, Ry1, (E5.nxt n56).nxt ny1, ry1, ?_⟩
                rw [e7]
                intro φ7 H7 n7 R7 σ7 E7 l7 k7
                refine ⟨wipe_same (fun j hj => k7 j hj) (by rw [l7, L2.wipe_length]), φ7, S7, env7, R7, E7, ?_⟩
                rw [Res.bind_assoc] at P8
                obtain ⟨kk, S8, e8, P9⟩ := P8.cut_bind
                rw [e8]
                intro φ8 H8 n8 R8
                have mm : Nxt φ6 φ8 H6 H8 := (ny1.trans n7).trans n8
                cases kk with
                | false => exact iteF ⟨φ8, S8, R8, n6.trans mm, n56.trans mm, mm.at_ a6, P9⟩
                | true =>
                  refine iteT ⟨φ8, S8, env7, R8, E7.nxt n8, ?_⟩
                  rw [if_pos rfl, Res.bind_assoc] at P9
                  obtain ⟨y9, S9, e9, P10⟩ := P9.cut_bind
                  rw [e9]
                  intro φ9 H9 n9 R9 v9 r9
                  have a9 := n9.at_ (mm.at_ a6)
                  unfold appO at P10
                  split at P10
                  · rename_i S10 hS10
                    split at hS10
                    · rename_i acc hacc
                      split at hS10
                      · rename_i hlt
                        cases hS10
                        obtain ⟨us, hD9, rs⟩ := R9.at_ _ _ _ a9 hacc
                        have g9 : Grow H9 (upd H9 Da (.lst (us ++ [v9]))) := grow_lst hD9
                        obtain ⟨R10, n10⟩ := R9.set (o' := .lst (acc ++ [y9])) (u := .lst (us ++ [v9])) a9 hacc ⟨us ++ [v9], upd_same, (rs.append (VRels.cons r9 VRels.nil)).up (fun _ _ q => q) g9⟩
                        exact ⟨us, hD9, by rw [sl_eq, ← rs.length]; exact hlt, φ9, _, R10, ((n6.trans mm).trans n9).trans n10, ((n56.trans mm).trans n9).trans n10, a9, P10⟩
                      · cases hS10
                    · cases hS10
                  · exact P10.elim
theorem pex_lc2 (nd : C.N.Nodup) (hi : PIx C tg iter it) (ok : blkC C.N C.sc scope own = true) (hg : PGx (C.blk scope) tg vs g) (ht : PTsx (C.blk scope) ifs t) (hi1 : PIx (C.blk scope) tg1 iter1 it1) (hg1 : PGx (C.blk scope) tg1 vs1 g1) (ht1 : PTsx (C.blk scope) ifs1 t1) (he : PEx (C.blk scope) elt b)
    (hv : ∀ j ∈ vs, j ∈ own.map (·.2)) (hv1 : ∀ j ∈ vs1, j ∈ own.map (·.2)) (hs : ∀ env x, foldedSetIterable iter env x = pure x := by intro _ _; rfl) (hs1 : ∀ env x, foldedSetIterable iter1 env x = pure x := by intro _ _; rfl) :
    PEx C (.ListComp elt [⟨tg, iter, ifs, 0⟩, ⟨tg1, iter1, ifs1, 0⟩] scope pos) (dLc2 it g t it1 g1 t1 b (own.map (·.2)) vs1) := fun X W h => by
  refine pe_imp (pe_lc2 h.calm (by rw [h.N]; exact nd) (hi X W h) (by rw [h.N, h.sc]; exact blkOk_by ok) hv1 (fun s H cn cl fp => hg _ W0 (cxt_blk h)) (fun s H cn cl fp => ht _ W0 (cxt_blk h)) (fun s H cn cl fp => hi1 _ W0 (cxt_blk h)) (fun s H cn cl fp => hg1 _ W0 (cxt_blk h)) (fun s H cn cl fp => ht1 _ W0 (cxt_blk h)) (fun s H cn cl fp => he _ W0 (cxt_blk h)) (hs X.env) hs1) fun σ H Q => rd_lc2 hv
/-- name = [..] -/
theorem psx_setLc2 (i : Nat) {y : Str} {py spos : Pos} (nd : C.N.Nodup) (hy : C.N[i]? = some y) (hyl : C.sc.names.lookup y = some .local) (hi : PIx C tg iter it) (ok : blkC C.N C.sc scope own = true) (hg : PGx (C.blk scope) tg vs g) (ht : PTsx (C.blk scope) ifs t) (hi1 : PIx (C.blk scope) tg1 iter1 it1) (hg1 : PGx (C.blk scope) tg1 vs1 g1) (ht1 : PTsx (C.blk scope) ifs1 t1) (he : PEx (C.blk scope) elt b)
    (hv : ∀ j ∈ vs, j ∈ own.map (·.2)) (hv1 : ∀ j ∈ vs1, j ∈ own.map (·.2)) (hk : C.sc.kind = .function) (hl : (py.line == pos.line) = true) (ha : (scope.names.any fun (n, k) => n == y && (k == .local || k == .cell)) = false) (hs : ∀ env x, foldedSetIterable iter env x = pure x := by intro _ _; rfl) (hs1 : ∀ env x, foldedSetIterable iter1 env x = pure x := by intro _ _; rfl) :
    PSx C (.Assign [.Name y py] (.ListComp elt [⟨tg, iter, ifs, 0⟩, ⟨tg1, iter1, ifs1, 0⟩] scope pos) spos) (sAsg (dLc2 it g t it1 g1 t1 b (own.map (·.2)) vs1) (gNm i)) := fun X W h => by
  refine ps_imp (ps_setLc2 (i := i) h.calm (by rw [h.N]; exact nd) (by rw [h.N]; exact hy) (by rw [h.sc]; exact hyl) (sw_true (by rw [h.sc]; exact hk) (by rw [h.sc]; exact hyl) hl ha) (hi X W h) (by rw [h.N, h.sc]; exact blkOk_by ok) hv1 (fun s H cn cl fp => hg _ W0 (cxt_blk h)) (fun s H cn cl fp => ht _ W0 (cxt_blk h)) (fun s H cn cl fp => hi1 _ W0 (cxt_blk h)) (fun s H cn cl fp => hg1 _ W0 (cxt_blk h)) (fun s H cn cl fp => ht1 _ W0 (cxt_blk h)) (fun s H cn cl fp => he _ W0 (cxt_blk h)) (hs X.env) hs1) fun D σ H ⟨φ, S, env, R, E, P⟩ => ?_
  refine rd_lc2 hv ⟨φ, S, env, R, E, (pst_err P.bind).imp fun φ1 H1 S1 x n1 R1 P1 v1 r1 => ?_⟩
  exact (Pst.now P1 R1 : FlP C.G D φ1 H1 (.nx _)) _ ((E.nxt n1).set r1)
end
end Z

/-! Z63: the module's words; calls of what a local names. -/
namespace Z
open PySem PySem.Spec PyProof.Rows L2 He
theorem Hyp.str {cs : List Ck} {fn : List Df} {cl : List Str} {tf : Tf} {pr : Program} {G : Glo} (h : Hyp cs fn cl tf pr G) (i : Nat) {x z : Str} (e : cs[i]? = some (ckFa (.str x z))) : ∃ t, G.mg x = some (.str z t) := by
  have c2 : (match PySem.W.nsIn G.K mainGlobals x with
    | some (some (.str j _)) => decide (j = z)
    | _ => false) = true := h.ck i e
  split at c2
  · rename_i j t q
    rw [of_decide_eq_true c2] at q
    exact ⟨t, h.mgns x _ q⟩
  · cases c2
theorem pex_gs {C : Cp} {x z : Str} {pos : Pos} (hg : okG C x = true) (hm : ∃ t, C.G.mg x = some (.str z t)) : PEx C (.Name x pos) (dC (.str z)) := by
  obtain ⟨h1, h2⟩ := ba hg
  obtain ⟨t, e⟩ := hm
  exact pex_glob (v := .str z) h1 e ⟨t, rfl⟩ (fun _ _ => by simp only [VRel]) (nb h2)
/-! x(..) where the local x names one of some defs -/
def dCallV (i : Nat) (l : List (Nat × Fn)) (r : DA) : DE := fun env S => match env[i]? with
  | some (some (.st c)) => (match l.lookup c with
    | some F => (r env S).bind fun xs S1 => F xs S1
    | none => .bad)
  | _ => .bad
inductive FnVs (G : Glo) (k n : Nat) : List (Nat × Fn) → Prop
  | nil : FnVs G k n []
  | cons {c : Nat} {F : Fn} {x : Str} {j : Nat} {l : List (Nat × Fn)} (h : FnIs G j x n F) (hj : Nat.ble j k = true) (e : G.mg x = some (.ref (G.ad c))) (r : FnVs G k n l) : FnVs G k n ((c, F) :: l)
theorem FnVs.at_ {G : Glo} {k n : Nat} {l : List (Nat × Fn)} (h : FnVs G k n l) : ∀ {c : Nat} {F : Fn}, l.lookup c = some F → ∃ (x : Str) (j : Nat), FnIs G j x n F ∧ j ≤ k ∧ G.mg x = some (.ref (G.ad c)) := by
  induction h with
  | nil => intro c F e; cases e
  | @cons c' F' x j l h hj e r ih =>
    intro c F q
    rw [List.lookup_cons] at q
    split at q
    · rename_i hb
      have hc : c = c' := by simpa using hb
      subst hc
      cases q
      exact ⟨x, j, h, Nat.le_of_ble_eq_true hj, e⟩
    · exact ih q
theorem pex_clV {C : Cp} {k n : Nat} {x : Str} {l : List (Nat × Fn)} {e : Expr} {es : List Expr} {dr : DA} {p pos : Pos} (i : Nat) (h : FnVs C.G k n l) (hk : Nat.ble k C.k = true) (hv : okV C i x = true) (ha : PAx C (e :: es) dr) (hn : LenIs dr n)
    (he : ∀ env, starEach (e :: es) env = (false, eval e env) :: starEach es env := by intro _; rfl) (hpl : ∀ env, (backTo pos (starEach es env)).any (·.1) = false := by intro _; rfl) : PEx C (.Call (.Name x p) (e :: es) [] pos) (dCallV i l dr) := fun X W hx => by
  refine ⟨fun pins s σ H Q I ⟨φ, S, env, R, E, P⟩ => ?_⟩
  unfold dCallV at P
  split at P
  · rename_i c hi
    split at P
    · rename_i F hF
      obtain ⟨y, j, hFn, hj, hm⟩ := h.at_ hF
      obtain ⟨f, fd, ps, _, ok, hm', kp, hb⟩ := hFn.ex
      have ef : f = C.G.ad c := by rw [hm] at hm'; cases hm'; rfl
      subst ef
      obtain ⟨g1, g⟩ := ba hv
      obtain ⟨g2, g⟩ := ba g
      obtain ⟨g3, g4⟩ := ba g
      obtain ⟨v0, hv0, r0⟩ := E.2 i _ hi
      simp only [VRel] at r0
      subst r0
      refine wpAny_Call_Name_kw (thn ((pe_var (X := X) (pos := p) (i := i) (by rw [hx.N]; exact of_decide_eq_true g1) (by rw [hx.sc]; exact visB_ok g2) (nb g3) (nb g4)).run pins s σ H (fun v H1 => v = .ref (C.G.ad c) ∧ H1 = H) I ⟨_, hv0, rfl, rfl⟩) fun u s1 ⟨v, H1, I1, r1, ev, eH⟩ => ?_)
      subst ev eH
      obtain rfl : u = Value.ref (C.G.ad c) := r1
      have P0 := P.bind
      refine PySem.W.callWith_K (h₀ := X.base) I1.ok.mod.kin (by rw [hx.K]; exact kp) (thn ((ha X W hx).run pos pins s1 σ H1 (fun vs H2 => spD C.G n F vs H2 Q (WE W σ)) I1 ⟨φ, S, env, R, E, ?_⟩) fun us s2 ⟨vs, H2, I2, r, q⟩ => ⟨I2.kIn, ?_⟩) (he X.env) (hpl X.env)
      · cases q : dr env S with
        | bad => rw [q] at P0; exact P0.elim
        | er y S1 => rw [q] at P0; exact P0
        | ok xs S1 =>
          rw [q] at P0
          exact fun φ1 H1 n1 R1 vs rs => ⟨φ1, S1, xs, R1, rs, hn env S xs S1 q, P0 φ1 H1 n1 R1⟩
      · exact run_fnS (by rw [hx.prog, hx.w, hx.K, hx.mg, hx.base]; exact ok) (hx.room.mono (Nat.le_trans hj (Nat.le_of_ble_eq_true hk))) (by rw [hx.K]; exact hb) (E := WE W) (by rw [← hx.prog, ← hx.w]; exact passAt hx.takes σ) I2 r q
    · exact P.elim
  · exact P.elim
end Z

/-! Z64: zip of three lists or tuples. -/
namespace Z
open PySem PySem.Spec PyProof.Rows L2 He
def ItzB3 (K : PySem.W.Frag) (t1 t2 t3 : Bool) (a b c : Addr) : It :=
  ⟨fun i H => ∃ (xs ys zs : List V) (x y z : V), SqB K H t1 a xs ∧ SqB K H t2 b ys ∧ SqB K H t3 c zs ∧ xs[i]? = some x ∧ ys[i]? = some y ∧ zs[i]? = some z,
    fun i H v H' => ∃ T x y z, v = .ref T ∧ H T = none ∧ H' = upd H T (.tup [x, y, z]) ∧ (∀ xs, SqB K H t1 a xs → xs[i]? = some x) ∧ (∀ ys, SqB K H t2 b ys → ys[i]? = some y) ∧ ∀ zs, SqB K H t3 c zs → zs[i]? = some z,
    fun i H => ∃ xs ys zs : List V, SqB K H t1 a xs ∧ SqB K H t2 b ys ∧ SqB K H t3 c zs ∧ i ≤ xs.length ∧ i ≤ ys.length ∧ i ≤ zs.length ∧ (i = xs.length ∨ i = ys.length ∨ i = zs.length)⟩
theorem sep3 {I a b c : Nat} (h1 : a < I) (h2 : b < I) (h3 : c < I) : ZipSep3 (I + 5) (I + 3) (I + 4) I (I + 1) (I + 2) [I, a] [I + 1, b] [I + 2, c] := by
  have nn : ∀ {x y : Nat}, (x < y ∨ y < x) → x ≠ y := fun h => by omega
  constructor
  all_goals first
    | exact nn (by omega)
    | exact List.mem_cons_self
    | (intro hm
       rcases List.mem_cons.mp hm with e | e
       · exact absurd e (nn (by omega))
       · exact absurd (List.mem_singleton.mp e) (nn (by omega)))
theorem turn_zipB3 {P : Program} {w : World} {K : PySem.W.Frag} {elts : List Expr} {kk : Nat} {tpos : Pos} {t1 t2 t3 : Bool} {a b c z TI TO i1 i2 i3 : Addr} (D : ZipSep3 z TI TO i1 i2 i3 [i1, a] [i2, b] [i3, c]) (n1 : a ≠ i1) (n2 : b ≠ i2) (n3 : c ≠ i3) :
    Turn P w K (.Tuple elts kk tpos) (ItzB3 K t1 t2 t3 a b c) [z, TI, TO, i1, i2, i3] z (fun i h => IsZip h z TI TO .none ∧ IsTupOf3 h TI (.ref i1) (.ref i2) (.ref i3) ∧ (∃ x y w, IsTupOf3 h TO x y w) ∧ ItB h t1 i1 a i ∧ ItB h t2 i2 b i ∧ ItB h t3 i3 c i) where
  mem := by simp
  obj := fun i h st c' hc => by
    obtain ⟨hz, hTI, ⟨x, y, w, hTO⟩, h1, h2, h3⟩ := st
    have e' : c' = z ∨ c' = TI ∨ c' = TO ∨ c' = i1 ∨ c' = i2 ∨ c' = i3 := by simpa using hc
    rcases e' with q | q | q | q | q | q
    · rw [q]; exact ⟨_, hz, fun v q => nomatch q⟩
    · rw [q]; exact ⟨_, hTI, fun v q => nomatch q⟩
    · rw [q]; exact ⟨_, hTO, fun v q => nomatch q⟩
    · rw [q]; exact h1.obj
    · rw [q]; exact h2.obj
    · rw [q]; exact h3.obj
  keep := fun i h h' st k => by
    obtain ⟨hz, hTI, ⟨x, y, w, hTO⟩, h1, h2, h3⟩ := st
    exact ⟨k z (by simp) _ hz, k TI (by simp) _ hTI, ⟨x, y, w, k TO (by simp) _ hTO⟩, h1.at fun o q => k i1 (by simp) o q, h2.at fun o q => k i2 (by simp) o q, h3.at fun o q => k i3 (by simp) o q⟩
  item := by
    intro X hP hw hK hc i pins s σ H E I hf st hg
    subst hP hw hK
    obtain ⟨hz, hTI, ⟨x0, y0, w0, hTO⟩, h1, h2, h3⟩ := st
    obtain ⟨xs, ys, zs, x, y, v, hqx, hqy, hqz, hx, hy, hv⟩ := hg
    obtain ⟨its, rv, p, _, _⟩ := inv_seqB I hqx
    obtain ⟨its2, rv2, p2, _, _⟩ := inv_seqB I hqy
    obtain ⟨its3, rv3, p3, _, _⟩ := inv_seqB I hqz
    obtain ⟨u, hu, ru⟩ := rv.get hx
    obtain ⟨u2, hu2, ru2⟩ := rv2.get hy
    obtain ⟨u3, hu3, ru3⟩ := rv3.get hv
    have hzl : z < s.heap.objs.size := Heap.lt_size hz
    have l1 : i < its.toArray.size := by simpa using (List.getElem?_eq_some_iff.mp hu).1
    have l2 : i < its2.toArray.size := by simpa using (List.getElem?_eq_some_iff.mp hu2).1
    have l3 : i < its3.toArray.size := by simpa using (List.getElem?_eq_some_iff.mp hu3).1
    have hd := show X.A.in1.handled = none from I.ok.hd hc
    refine wpAny_pyNext_zipD3_item D (drawsB (prog := X.prog) (w := X.w) (A := X.A.in1) hd t1 i1 a n1 its.toArray) (drawsB (prog := X.prog) (w := X.w) (A := X.A.in1) hd t2 i2 b n2 its2.toArray) (drawsB (prog := X.prog) (w := X.w) (A := X.A.in1) hd t3 i3 c n3 its3.toArray) hz hTI hTO ⟨h1, p⟩ ⟨h2, p2⟩ ⟨h3, p3⟩ l1 l2 l3 fun x1 x2 x3 h' tk e1 e2 e3 z' TO' h1' h2' h3' hT hsz hk => ?_
    have q1 : x1 = u := by
      have e1' : its[i]? = some x1 := by simpa using e1
      rw [hu] at e1'; exact (Option.some.inj e1').symm
    have q2 : x2 = u2 := by
      have e2' : its2[i]? = some x2 := by simpa using e2
      rw [hu2] at e2'; exact (Option.some.inj e2').symm
    have q3 : x3 = u3 := by
      have e3' : its3[i]? = some x3 := by simpa using e3
      rw [hu3] at e3'; exact (Option.some.inj e3').symm
    subst q1 q2 q3
    refine ⟨_, rfl, wpAny_letOwnedTupleGo_zip (s := { s with heap := h', toks := tk }) z' fun h'' z'' sb => ?_⟩
    have hT2 : h''.get? s.heap.objs.size = some { cls := .type "tuple", data := .seq #[x1, x2, x3] } := (sb.2 _ (Nat.ne_of_gt hzl)).trans hT
    have new : ObjOk X.prog X.w (upd H s.heap.objs.size (.tup [x, y, v])) h'' s.heap.objs.size (.tup [x, y, v]) :=
      ⟨by show 3 ≤ sizeLine; decide, [x1, x2, x3], .cons ru (.cons ru2 (.cons ru3 .nil)), ⟨_, hT2, rfl, _, rfl⟩⟩
    have I1 : Inv X pins σ (upd H s.heap.objs.size (.tup [x, y, v])) { s with heap := h'', toks := tk } :=
      I.turnedNew (t' := tk) (ch := [z, TI, TO, i1, i2, i3]) (fun c o hb q => (sb.2 c (fun q' => hb (by simp [q']))).trans (hk c o (fun q' => hb (by simp [q'])) (fun q' => hb (by simp [q'])) (fun q' => hb (by simp [q'])) (fun q' => hb (by simp [q'])) (fun q' => hb (by simp [q'])) q)) hf (Nat.le_refl _) new
    have i1z : i1 ≠ z := fun e => D.zf1 (by rw [e]; exact List.mem_cons_self)
    have i2z : i2 ≠ z := fun e => D.zf2 (by rw [e]; exact List.mem_cons_self)
    have i3z : i3 ≠ z := fun e => D.zf3 (by rw [e]; exact List.mem_cons_self)
    refine ⟨.ref s.heap.objs.size, _, I1, rfl, ⟨_, x, y, v, rfl, I.hok.fresh (Nat.le_refl _), rfl, fun l hl => by rw [seqB_inj I hl hqx]; exact hx, fun l hl => by rw [seqB_inj I hl hqy]; exact hy, fun l hl => by rw [seqB_inj I hl hqz]; exact hv⟩, ⟨z'', ?_, ⟨x1, x2, x3, ?_⟩, ?_, ?_, ?_⟩, fun c' hcm => ?_⟩
    · exact (sb.2 _ D.TIz).trans (hk _ _ D.TIz D.TITO D.TIi1 D.TIi2 D.TIi3 hTI)
    · exact (sb.2 _ D.TOz).trans TO'
    · exact h1'.1.at fun o q => (sb.2 _ i1z).trans q
    · exact h2'.1.at fun o q => (sb.2 _ i2z).trans q
    · exact h3'.1.at fun o q => (sb.2 _ i3z).trans q
    · have hlt : c' < s.heap.objs.size := by
        have e' : c' = z ∨ c' = TI ∨ c' = TO ∨ c' = i1 ∨ c' = i2 ∨ c' = i3 := by simpa using hcm
        rcases e' with q | q | q | q | q | q
        · rw [q]; exact hzl
        · rw [q]; exact Heap.lt_size hTI
        · rw [q]; exact Heap.lt_size hTO
        · rw [q]; obtain ⟨_, e1, _⟩ := h1.obj; exact Heap.lt_size e1
        · rw [q]; obtain ⟨_, e2, _⟩ := h2.obj; exact Heap.lt_size e2
        · rw [q]; obtain ⟨_, e3, _⟩ := h3.obj; exact Heap.lt_size e3
      rw [upd_ne (Nat.ne_of_lt hlt)]
      exact (hf c' hcm).1
  done := by
    intro X hP hw hK hc i pins s σ H E I hf st hg
    subst hP hw hK
    obtain ⟨hz, hTI, ⟨x0, y0, w0, hTO⟩, h1, h2, h3⟩ := st
    obtain ⟨xs, ys, zs, hqx, hqy, hqz, hle1, hle2, hle3, hend⟩ := hg
    obtain ⟨its, rv, p, _, _⟩ := inv_seqB I hqx
    obtain ⟨its2, rv2, p2, _, _⟩ := inv_seqB I hqy
    obtain ⟨its3, rv3, p3, _, _⟩ := inv_seqB I hqz
    have l1 : its.toArray.size = xs.length := by have := rv.length; simp; omega
    have l2 : its2.toArray.size = ys.length := by have := rv2.length; simp; omega
    have l3 : its3.toArray.size = zs.length := by have := rv3.length; simp; omega
    have hd := show X.A.in1.handled = none from I.ok.hd hc
    refine wpAny_pyNext_zipD3_end D (drawsB (prog := X.prog) (w := X.w) (A := X.A.in1) hd t1 i1 a n1 its.toArray) (drawsB (prog := X.prog) (w := X.w) (A := X.A.in1) hd t2 i2 b n2 its2.toArray) (drawsB (prog := X.prog) (w := X.w) (A := X.A.in1) hd t3 i3 c n3 its3.toArray) hz hTI hTO ⟨h1, p⟩ ⟨h2, p2⟩ ⟨h3, p3⟩ (by omega) (by omega) (by omega) (by omega) fun h' tk hk => ?_
    exact ⟨rfl, I.turnedL (t' := tk) (ch := [z, TI, TO, i1, i2, i3]) (fun c o hb q => hk c o (fun q' => hb (by simp [q'])) (fun q' => hb (by simp [q'])) (fun q' => hb (by simp [q'])) (fun q' => hb (by simp [q'])) (fun q' => hb (by simp [q'])) q) hf⟩
  self := fun A i s Q E st h => wpAny_pyIter_zip st.1 h
def iZipB3 (K : PySem.W.Frag) (ta : TA) : TI := fun σ H R => ta σ H fun vs H1 => ∃ t1 t2 t3 a b c xs ys zs, vs = [.ref a, .ref b, .ref c] ∧ SqB K H1 t1 a xs ∧ SqB K H1 t2 b ys ∧ SqB K H1 t3 c zs ∧ R (ItzB3 K t1 t2 t3 a b c) H1
theorem pi_zipB3 {X : Cx} {e e2 e3 : Expr} {ta : TA} {p pos tpos : Pos} {elts : List Expr} {kk : Nat} (hg : Gl X "zip") (hm : X.mg "zip" = none) (ha : PA X [e, e2, e3] ta)
    (hs : starEach [e, e2, e3] X.env = (false, eval e X.env) :: starEach [e2, e3] X.env := by rfl) (hpl : (backTo pos (starEach [e2, e3] X.env)).any (·.1) = false := by rfl) :
    PI X (.Tuple elts kk tpos) (.Call (.Name "zip" p) [e, e2, e3] [] pos) (iZipB3 X.K ta) := by
  refine ⟨fun pins s σ H R I h => ?_⟩
  refine Call_ (ld_blt I hg hm PyProof.Rows.boot_zip (PyProof.Rows.callWith_type1 (thn (ha.run pos pins s σ H _ I h) fun us s1 ⟨vs, H1, I1, r1, q1⟩ => ?_) hs hpl))
  obtain ⟨t1, t2, t3, a, b, c, xs, ys, zs, ex, hqx, hqy, hqz, q⟩ := q1
  subst ex
  cases r1 with
  | cons r rr =>
    cases rr with
    | cons r' rr =>
      cases rr with
      | cons r'' rr =>
        cases rr
        cases r
        cases r'
        cases r''
        have fresh6 : ∀ d, d ∈ [s1.heap.objs.size + 5, s1.heap.objs.size + 3, s1.heap.objs.size + 4, s1.heap.objs.size, s1.heap.objs.size + 1, s1.heap.objs.size + 2] → FpOk X pins H1 d := fun d hcm => by
          have e' : d = s1.heap.objs.size + 5 ∨ d = s1.heap.objs.size + 3 ∨ d = s1.heap.objs.size + 4 ∨ d = s1.heap.objs.size ∨ d = s1.heap.objs.size + 1 ∨ d = s1.heap.objs.size + 2 := by simpa using hcm
          have hle : s1.heap.objs.size ≤ d := by
            rcases e' with z | z | z | z | z | z <;> rw [z] <;> first | exact Nat.le_refl _ | exact Nat.le_add_right _ _
          exact I1.fpOk hle (I1.hok.fresh hle)
        obtain ⟨its, rv, p1, _, lt1⟩ := inv_seqB I1 hqx
        obtain ⟨its2, rv2, p2, _, lt2⟩ := inv_seqB I1 hqy
        obtain ⟨its3, rv3, p3, _, lt3⟩ := inv_seqB I1 hqz
        refine zip_begins3 (beginsB t1 a its.toArray) (beginsB t2 b its2.toArray) (beginsB t3 c its3.toArray) p1 p2 p3 fun h' hz hTI hTO g1 g2 g3 hsz hk => wpAny_pyIter_zip hz ?_
        have I2 : Inv X pins σ H1 { s1 with heap := h' } := I1.kept (t' := s1.toks) hk
        have ne1 : a ≠ s1.heap.objs.size := Nat.ne_of_lt lt1
        have ne2 : b ≠ s1.heap.objs.size + 1 := Nat.ne_of_lt (Nat.lt_succ_of_lt lt2)
        have ne3 : c ≠ s1.heap.objs.size + 2 := Nat.ne_of_lt (Nat.lt_succ_of_lt (Nat.lt_succ_of_lt lt3))
        exact ⟨s1.heap.objs.size + 5, [s1.heap.objs.size + 5, s1.heap.objs.size + 3, s1.heap.objs.size + 4, s1.heap.objs.size, s1.heap.objs.size + 1, s1.heap.objs.size + 2], _, _, H1, rfl, I2, turn_zipB3 (sep3 lt1 lt2 lt3) ne1 ne2 ne3, ⟨hz, hTI, ⟨_, _, _, hTO⟩, itB_new g1, itB_new g2, itB_new g3⟩, fresh6, q⟩
def jZip3 (x y z : D) : Itd := fun k S => match itemsD S x, itemsD S y, itemsD S z with
  | some xs, some ys, some zs => (match xs[k]?, ys[k]?, zs[k]? with
    | some a, some b, some c => some (some (.tup [a, b, c]))
    | _, _, _ => if k ≤ xs.length ∧ k ≤ ys.length ∧ k ≤ zs.length then some none else none)
  | _, _, _ => none
section
variable {G : Glo} {φ0 φ : List Addr} {H0 H : Hp} {S : Store}
theorem trip_new {φ : List Addr} {S : Store} {H : Hp} {T : Addr} {d1 d2 d3 : D} {v1 v2 v3 : V} (R : Rel G φ S H) (h : H T = none) (r1 : VRel G φ H d1 v1) (r2 : VRel G φ H d2 v2) (r3 : VRel G φ H d3 v3) :
    Nxt φ φ H (upd H T (.tup [v1, v2, v3])) ∧ Rel G φ S (upd H T (.tup [v1, v2, v3])) ∧ VRel G φ (upd H T (.tup [v1, v2, v3])) (.tup [d1, d2, d3]) (.ref T) := by
  have n : Nxt φ φ H (upd H T (.tup [v1, v2, v3])) := Nxt.mute h
  refine ⟨n, R.mute (R.notmem h) n.grow (nx_none h), ?_⟩
  simp only [VRel]
  exact ⟨T, _, rfl, .inl (.inl upd_same), VRels.cons (r1.nxt n) (VRels.cons (r2.nxt n) (VRels.cons (r3.nxt n) VRels.nil))⟩
theorem it_zip3 {x y z : D} {a b c : Addr} (r1 : VRel G φ0 H0 x (.ref a)) (r2 : VRel G φ0 H0 y (.ref b)) (r3 : VRel G φ0 H0 z (.ref c)) : ItRel G φ0 H0 (jZip3 x y z) (ItzB3 G.K (kindD x) (kindD y) (kindD z) a b c) := by
  refine ⟨fun k φ S H n R e => ?_, fun k φ S H d n R e => ?_⟩
  · unfold jZip3 at e
    split at e
    · rename_i xs ys zs ix iy iz
      obtain ⟨a', us, ea, qa, ra⟩ := items_kind R (r1.nxt n) ix
      obtain ⟨b', ws, eb, qb, rb⟩ := items_kind R (r2.nxt n) iy
      obtain ⟨c', ts, ec, qc, rc⟩ := items_kind R (r3.nxt n) iz
      cases ea; cases eb; cases ec
      have la := ra.length
      have lb := rb.length
      have lc := rc.length
      split at e
      · cases e
      · rename_i hno
        split at e
        · rename_i hle
          refine ⟨us, ws, ts, qa, qb, qc, by omega, by omega, by omega, ?_⟩
          by_cases h1 : k = us.length
          · exact .inl h1
          · by_cases h2 : k = ws.length
            · exact .inr (.inl h2)
            · by_cases h3 : k = ts.length
              · exact .inr (.inr h3)
              · exact (hno _ _ _ (List.getElem?_eq_getElem (show k < xs.length by omega)) (List.getElem?_eq_getElem (show k < ys.length by omega)) (List.getElem?_eq_getElem (show k < zs.length by omega))).elim
        · cases e
    · cases e
  · unfold jZip3 at e
    split at e
    · rename_i xs ys zs ix iy iz
      obtain ⟨a', us, ea, qa, ra⟩ := items_kind R (r1.nxt n) ix
      obtain ⟨b', ws, eb, qb, rb⟩ := items_kind R (r2.nxt n) iy
      obtain ⟨c', ts, ec, qc, rc⟩ := items_kind R (r3.nxt n) iz
      cases ea; cases eb; cases ec
      split at e
      · rename_i u1 u2 u3 h1 h2 h3
        cases e
        obtain ⟨v1, e1, q1⟩ := ra.get h1
        obtain ⟨v2, e2, q2⟩ := rb.get h2
        obtain ⟨v3, e3, q3⟩ := rc.get h3
        refine ⟨⟨us, ws, ts, v1, v2, v3, qa, qb, qc, e1, e2, e3⟩, fun z H' yl => ?_⟩
        obtain ⟨T, z1, z2, z3, rfl, hT, rfl, f1, f2, f3⟩ := yl
        have g1 := f1 us qa
        have g2 := f2 ws qb
        have g3 := f3 ts qc
        rw [e1] at g1; cases g1
        rw [e2] at g2; cases g2
        rw [e3] at g3; cases g3
        exact trip_new R hT q1 q2 q3
      · split at e <;> cases e
    · cases e
end
def iZip3 (r : DA) : DI := fun env S => (r env S).bind fun xs S1 => match xs with
  | [x, y, z] => if (itemsD S1 x).isSome ∧ (itemsD S1 y).isSome ∧ (itemsD S1 z).isSome then .ok (jZip3 x y z) S1 else .bad
  | _ => .bad
theorem rels3' {G : Glo} {φ : List Addr} {H : Hp} {x y z : D} {vs : List V} (h : VRels G φ H [x, y, z] vs) : ∃ u v w, vs = [u, v, w] ∧ VRel G φ H x u ∧ VRel G φ H y v ∧ VRel G φ H z w := by
  simp only [VRels] at h
  obtain ⟨u, us, rfl, r1, v, vs, rfl, r2, w, ws, rfl, r3, rfl⟩ := h
  exact ⟨u, v, w, rfl, r1, r2, r3⟩
theorem pix_zip3 {C : Cp} {e e2 e3 : Expr} {dr : DA} {p pos tpos : Pos} {elts : List Expr} {kk : Nat} (hg : okG C "zip" = true) (hm : C.G.mg "zip" = none) (ha : PAx C [e, e2, e3] dr)
    (hs : ∀ env, starEach [e, e2, e3] env = (false, eval e env) :: starEach [e2, e3] env := by intro _; rfl) (hpl : ∀ env, (backTo pos (starEach [e2, e3] env)).any (·.1) = false := by intro _; rfl) :
    PIx C (.Tuple elts kk tpos) (.Call (.Name "zip" p) [e, e2, e3] [] pos) (iZip3 dr) := fun X W h => by
  obtain ⟨hg, _⟩ := ba hg
  refine pi_imp (pi_zipB3 (glB_ok hg h) (by rw [h.mg]; exact hm) (ha X W h) (hs X.env) (hpl X.env)) fun σ H R ⟨φ, S, env, R0, E, P⟩ => ⟨φ, S, env, R0, E, P.bind.imp fun φ1 H1 S1 xs n1 R1 P1 vs rs => ?_⟩
  match xs, rs, P1 with
  | [x, y, z], rs, P1 =>
    dsimp only at P1
    by_cases hc : (itemsD S1 x).isSome ∧ (itemsD S1 y).isSome ∧ (itemsD S1 z).isSome
    · rw [if_pos hc] at P1
      obtain ⟨v, w, u, rfl, r1, r2, r3⟩ := rels3' rs
      obtain ⟨xs, hx⟩ := Option.isSome_iff_exists.mp hc.1
      obtain ⟨ys, hy⟩ := Option.isSome_iff_exists.mp hc.2.1
      obtain ⟨zs, hz⟩ := Option.isSome_iff_exists.mp hc.2.2
      obtain ⟨a, us, rfl, qa, _⟩ := items_kind R1 r1 hx
      obtain ⟨b, ws, rfl, qb, _⟩ := items_kind R1 r2 hy
      obtain ⟨c, ts, rfl, qc, _⟩ := items_kind R1 r3 hz
      exact ⟨kindD x, kindD y, kindD z, a, b, c, us, ws, ts, rfl, by rw [h.K]; exact qa, by rw [h.K]; exact qb, by rw [h.K]; exact qc, Pst.now P1 R1 _ (by rw [h.K]; exact it_zip3 r1 r2 r3)⟩
    · rw [if_neg hc] at P1
      exact P1.elim
  | [], rs, P1 => exact P1.elim
  | [_], rs, P1 => exact P1.elim
  | [_, _], rs, P1 => exact P1.elim
  | _ :: _ :: _ :: _ :: _, rs, P1 => exact P1.elim
end Z

/-! Z65: what an expression makes by itself is put behind the store; a def that is given a lot, data and plain objects is run in a store of its own. -/
namespace Z
open PySem PySem.Spec PyProof.Rows L2 He
mutual
def mvD (n : Nat) : D → D
  | .ref i => .ref (n + i)
  | .tup ds => .tup (mvDs n ds)
  | .fls ds => .fls (mvDs n ds)
  | d => d
def mvDs (n : Nat) : List D → List D
  | [] => []
  | d :: ds => mvD n d :: mvDs n ds
end
def mvO (n : Nat) : O → O
  | .lst ds => .lst (mvDs n ds)
  | .dK l => .dK (l.map fun p => (p.1, mvD n p.2))
  | .dT l => .dT (l.map fun p => (p.1, mvD n p.2))
  | .ins c l => .ins c (l.map fun p => (p.1, mvD n p.2))
  | .slt c vs => .slt c (vs.map fun o => o.map (mvD n))
section
variable {G : Glo} {φ ψ : List Addr} {H H' : Hp}
mutual
theorem VRel.shift : ∀ {d : D} {v : V}, VRel G ψ H d v → VRel G (φ ++ ψ) H (mvD φ.length d) v
  | .non, _, h => by simpa only [mvD, VRel] using h
  | .bl _, _, h => by simpa only [mvD, VRel] using h
  | .int _, _, h => by simpa only [mvD, VRel] using h
  | .str _, _, h => by simpa only [mvD, VRel] using h
  | .st _, _, h => by simpa only [mvD, VRel] using h
  | .ty _, _, h => by simpa only [mvD, VRel] using h
  | .ref i, _, h => by
    simp only [mvD, VRel] at h ⊢
    obtain ⟨a, e, q⟩ := h
    exact ⟨a, e, by rw [List.getElem?_append_right (by omega), Nat.add_sub_cancel_left]; exact q⟩
  | .tup ds, _, h => by
    simp only [mvD, VRel] at h ⊢
    obtain ⟨a, vs, e, s, r⟩ := h
    exact ⟨a, vs, e, s, VRels.shift r⟩
  | .fls ds, _, h => by
    simp only [mvD, VRel] at h ⊢
    obtain ⟨a, vs, e, s, r⟩ := h
    exact ⟨a, vs, e, s, VRels.shift r⟩
theorem VRels.shift : ∀ {ds : List D} {vs : List V}, VRels G ψ H ds vs → VRels G (φ ++ ψ) H (mvDs φ.length ds) vs
  | [], _, h => by simpa only [mvDs, VRels] using h
  | d :: ds, _, h => by
    simp only [mvDs, VRels] at h ⊢
    obtain ⟨u, us, e, r, rs⟩ := h
    exact ⟨u, us, e, VRel.shift r, VRels.shift rs⟩
end
theorem KRel.shift {κ : Type} : ∀ {l : List (κ × D)} {m : List (κ × V)}, KRel G ψ H l m → KRel G (φ ++ ψ) H (l.map fun p => (p.1, mvD φ.length p.2)) m
  | [], _, h => h
  | (k, d) :: r, _, h => by
    obtain ⟨v, ks, e, q, t⟩ := h
    exact ⟨v, ks, e, q.shift, KRel.shift t⟩
theorem ORel.shift {a : Addr} {o : O} (h : ORel G ψ H a o) : ORel G (φ ++ ψ) H a (mvO φ.length o) := by
  cases o with
  | lst ds => obtain ⟨vs, e, r⟩ := h; exact ⟨vs, e, r.shift⟩
  | dK ds => obtain ⟨vs, e, r⟩ := h; exact ⟨vs, e, KRel.shift r⟩
  | dT ds => obtain ⟨vs, e, r⟩ := h; exact ⟨vs, e, KRel.shift r⟩
  | ins c fs => obtain ⟨dx, vs, e, r⟩ := h; exact ⟨dx, vs, e, KRel.shift r⟩
  | slt c vs =>
    obtain ⟨dx, ws, e, k, r⟩ := h
    refine ⟨dx, ws, e, k, fun i d q => ?_⟩
    rw [List.getElem?_map] at q
    cases hq : vs[i]? with
    | none => rw [hq] at q; cases q
    | some o =>
      cases o with
      | none => rw [hq] at q; cases q
      | some d0 =>
        rw [hq] at q
        cases q
        obtain ⟨v, e1, r1⟩ := r i d0 hq
        exact ⟨v, e1, r1.shift⟩
theorem Rel.graft {S T : Store} (R : Rel G φ S H) (n : Nxt [] ψ H H') (R' : Rel G ψ T H') : Rel G (φ ++ ψ) (S ++ T.map (mvO S.length)) H' ∧ Nxt φ (φ ++ ψ) H H' := by
  obtain ⟨R1, n1⟩ := R.aside n R'
  obtain ⟨ψ', e0, f⟩ := n.ext
  have e0 : ψ = ψ' := by simpa using e0
  subst e0
  have hl : φ.length = S.length := R.len
  refine ⟨⟨by simp [R.len, R'.len], ?_, fun i a o e1 e2 => ?_, R'.tabs⟩, ⟨⟨ψ, rfl, f⟩, n.grow, fun b o e nb st => n.frame b o e (by simp) st, n.there⟩⟩
  · rw [List.nodup_append]
    refine ⟨R.nd, R'.nd, fun a ha b hb e => ?_⟩
    subst e
    obtain ⟨i, hi, ei⟩ := List.mem_iff_getElem.mp ha
    have hi' : i < S.length := by rw [← hl]; exact hi
    obtain ⟨u, q, _, nx⟩ := (R.at_ i a S[i] (by rw [← ei]; exact List.getElem?_eq_getElem hi) (List.getElem?_eq_getElem hi')).mut_
    exact f a hb u q nx.nt
  · by_cases hi : i < φ.length
    · rw [List.getElem?_append_left hi] at e1
      rw [List.getElem?_append_left (by omega)] at e2
      exact (R1.at_ i a o e1 e2).up (fun j b z => by rw [List.getElem?_append_left (List.getElem?_eq_some_iff.mp z).1]; exact z) (Grow.refl _) rfl
    · rw [List.getElem?_append_right (by omega)] at e1
      rw [List.getElem?_append_right (by omega), List.getElem?_map] at e2
      cases hq : T[i - S.length]? with
      | none => rw [hq] at e2; cases e2
      | some o' =>
        rw [hq] at e2
        cases e2
        rw [hl] at e1
        have := (R'.at_ _ a o' e1 hq).shift (φ := φ)
        rw [hl] at this
        exact this
end
/-- an expression that knows nothing of what stood before; what it made is kept -/
def dNewS (d : DE) : DE := fun env S => match d (env.map fun _ => none) [] with
  | .ok v T => .ok (mvD S.length v) (S ++ T.map (mvO S.length))
  | _ => .bad
theorem pex_bareS {C : Cp} {e : Expr} {d : DE} (h : PEx C e d) : PEx C e (dNewS d) := fun X W hx => pe_imp (h X W hx) fun σ H Q ⟨φ, S, env, R, E, P⟩ => by
  refine ⟨[], [], env.map fun _ => none, ⟨rfl, List.nodup_nil, fun i a o e1 e2 => by simp at e2, R.tabs⟩, ⟨by rw [List.length_map]; exact E.1, fun i x q => ?_⟩, ?_⟩
  · rw [List.getElem?_map] at q
    cases hq : env[i]? <;> rw [hq] at q <;> cases q
  unfold dNewS at P
  cases hd : d (env.map fun _ => none) [] with
  | bad => rw [hd] at P; exact P.elim
  | er x S1 => rw [hd] at P; exact P.elim
  | ok v S1 =>
    rw [hd] at P
    intro φ1 H1 n1 R1 w r1
    obtain ⟨R2, n2⟩ := R.graft n1 R1
    refine P (φ ++ φ1) H1 n2 R2 w ?_
    have := r1.shift (φ := φ)
    rw [R.len] at this
    exact this
/-! ### a def run in a store of its own: the lot, data, plain objects -/
def optP (o : Option D) : Bool := match o with
  | some d => pure_ d
  | none => true
def objO (o : O) : Bool := match o with
  | .lst ds => pures ds
  | .slt _ vs => vs.all optP
  | _ => false
def packO : List D → Store → Nat → Option (List D × List Nat × List O)
  | [], _, _ => some ([], [], [])
  | d :: ys, S, k => match d with
    | .ref j => (match S[j]? with
      | some o => if objO o = true then (packO ys S (k + 1)).map fun z => (.ref k :: z.1, j :: z.2.1, o :: z.2.2) else none
      | none => none)
    | d => if pure_ d = true then (packO ys S k).map fun z => (d :: z.1, z.2.1, z.2.2) else none
theorem obj_rel {G : Glo} {φ φ' : List Addr} {H : Hp} {a : Addr} {o : O} (h : objO o = true) (r : ORel G φ H a o) : ORel G φ' H a o := by
  cases o with
  | lst ds => obtain ⟨vs, e, rs⟩ := r; exact ⟨vs, e, pures_rel h rs⟩
  | slt c vs =>
    obtain ⟨dx, ws, e, k, r⟩ := r
    refine ⟨dx, ws, e, k, fun i d q => ?_⟩
    obtain ⟨v, e1, r1⟩ := r i d q
    have hp : pure_ d = true := List.all_eq_true.mp h (some d) (List.mem_of_getElem? q)
    exact ⟨v, e1, pure_rel hp r1⟩
  | _ => cases h
/-- the addresses of the objects that are given -/
structure Pk (φ : List Addr) (S : Store) (js : List Nat) (os : List O) (as : List Addr) : Prop where
  l1 : as.length = js.length
  l2 : os.length = js.length
  at_ : ∀ (t j : Nat), js[t]? = some j → ∃ (a : Addr) (o : O), as[t]? = some a ∧ os[t]? = some o ∧ φ[j]? = some a ∧ S[j]? = some o ∧ objO o = true
theorem pack_ok {G : Glo} {φ : List Addr} {S : Store} {H : Hp} (R : Rel G φ S H) : ∀ {ys : List D} {us : List V} {k : Nat} {ds : List D} {js : List Nat} {os : List O}, packO ys S k = some (ds, js, os) → VRels G φ H ys us →
    ∃ as, Pk φ S js os as ∧ ds.length = ys.length ∧ ∀ (pre : List Addr), pre.length = k → VRels G (pre ++ as) H ds us
  | [], us, k, ds, js, os, e, r => by
    cases e
    simp only [VRels] at r
    subst r
    exact ⟨[], ⟨rfl, rfl, fun t j h => by simp at h⟩, rfl, fun _ _ => VRels.nil⟩
  | d :: ys, us, k, ds, js, os, e, r => by
    simp only [VRels] at r
    obtain ⟨u, us', rfl, ru, rs⟩ := r
    have plain : ∀ {ds js os}, pure_ d = true → (packO ys S k).map (fun z => (d :: z.1, z.2.1, z.2.2)) = some (ds, js, os) → ∃ as, Pk φ S js os as ∧ ds.length = ys.length + 1 ∧ ∀ (pre : List Addr), pre.length = k → VRels G (pre ++ as) H ds (u :: us') := fun {ds js os} hp e => by
      cases q : packO ys S k with
      | none => rw [q] at e; cases e
      | some z =>
        rw [q] at e
        obtain ⟨z1, z2, z3⟩ := z
        cases e
        obtain ⟨as, P, L, V⟩ := pack_ok R q rs
        exact ⟨as, P, by rw [List.length_cons, L], fun pre hl => VRels.cons (pure_rel hp ru) (V pre hl)⟩
    unfold packO at e
    cases d with
    | ref j =>
      dsimp only at e
      cases q0 : S[j]? with
      | none => rw [q0] at e; cases e
      | some o =>
        rw [q0] at e
        dsimp only at e
        by_cases ho : objO o = true
        · rw [if_pos ho] at e
          cases q : packO ys S (k + 1) with
          | none => rw [q] at e; cases e
          | some z =>
            rw [q] at e
            obtain ⟨z1, z2, z3⟩ := z
            cases e
            obtain ⟨as, P, L, V⟩ := pack_ok R q rs
            simp only [VRel] at ru
            obtain ⟨a, rfl, ea⟩ := ru
            refine ⟨a :: as, ⟨by rw [List.length_cons, List.length_cons, P.l1], by rw [List.length_cons, List.length_cons, P.l2], fun t => ?_⟩, by rw [List.length_cons, List.length_cons, L], fun pre hl => ?_⟩
            · cases t with
              | zero => intro j' h; cases h; exact ⟨a, o, rfl, rfl, ea, q0, ho⟩
              | succ t => intro j' h; exact P.at_ t j' (by simpa using h)
            · have e2 : pre ++ a :: as = (pre ++ [a]) ++ as := by simp
              rw [e2]
              refine VRels.cons ?_ (V (pre ++ [a]) (by simp [hl]))
              simp only [VRel]
              exact ⟨a, rfl, by rw [← e2, List.getElem?_append_right (by omega), hl, Nat.sub_self]; rfl⟩
        · rw [if_neg ho] at e; cases e
    | _ => dsimp only at e; split at e <;> first | exact plain (by assumption) e | cases e
theorem Pk.rel {G : Glo} {φ : List Addr} {S : Store} {H : Hp} {js : List Nat} {os : List O} {as : List Addr} (R : Rel G φ S H) (P : Pk φ S js os as) {i : Nat} {a : Addr} {o : O} (e1 : φ[i]? = some a) (e2 : S[i]? = some o) (hl : lotO o = true) (nd : (i :: js).Nodup) : Rel G (a :: as) (o :: os) H := by
  have inj : ∀ {j j' : Nat} {b : Addr}, φ[j]? = some b → φ[j']? = some b → j = j' := fun h h' => (List.getElem?_inj (List.getElem?_eq_some_iff.mp h).1 R.nd).mp (h.trans h'.symm)
  obtain ⟨n1, n2⟩ := List.nodup_cons.mp nd
  refine ⟨by simp [P.l1, P.l2], ?_, fun t b u h1 h2 => ?_, R.tabs⟩
  · refine List.nodup_cons.mpr ⟨fun hm => ?_, ?_⟩
    · obtain ⟨t, ht, et⟩ := List.mem_iff_getElem.mp hm
      have htj : t < js.length := by rw [← P.l1]; exact ht
      obtain ⟨a', o', q1, _, q3, _⟩ := P.at_ t _ (List.getElem?_eq_getElem htj)
      rw [List.getElem?_eq_getElem ht, et] at q1
      cases q1
      exact n1 (by rw [inj e1 q3]; exact List.getElem_mem htj)
    · refine List.pairwise_iff_getElem.mpr fun t t' ht ht' hlt e => ?_
      have h1 : t < js.length := by rw [← P.l1]; exact ht
      have h2 : t' < js.length := by rw [← P.l1]; exact ht'
      obtain ⟨a1, _, q1, _, q3, _⟩ := P.at_ t _ (List.getElem?_eq_getElem h1)
      obtain ⟨a2, _, r1, _, r3, _⟩ := P.at_ t' _ (List.getElem?_eq_getElem h2)
      rw [List.getElem?_eq_getElem ht] at q1
      rw [List.getElem?_eq_getElem ht', ← e] at r1
      cases q1
      cases r1
      exact List.pairwise_iff_getElem.mp n2 t t' h1 h2 hlt (inj q3 r3)
  · cases t with
    | zero =>
      cases h1
      cases h2
      exact lot_rel hl (R.at_ i a o e1 e2)
    | succ t =>
      rw [List.getElem?_cons_succ] at h1 h2
      have ht : t < js.length := by rw [← P.l1]; exact (List.getElem?_eq_some_iff.mp h1).1
      obtain ⟨a', o', q1, q2, q3, q4, q5⟩ := P.at_ t _ (List.getElem?_eq_getElem ht)
      rw [h1] at q1
      rw [h2] at q2
      cases q1
      cases q2
      exact obj_rel q5 (R.at_ _ _ _ q3 q4)
open Classical in
noncomputable def lotGo2 (F : Fn) : List D → Store → Res D
  | .ref i :: ys, S1 => (match S1[i]?, packO ys S1 1 with
    | some o, some (ds, js, os) => if lotO o = true ∧ (i :: js).Nodup then (match F (.ref 0 :: ds) (o :: os) with
      | .ok v S2 => (match S2[0]? with
        | some o2 => if (pure_ v && lotO o2) = true ∧ (S2.drop 1).take os.length = os then .ok v (S1.set i o2) else .bad
        | none => .bad)
      | _ => .bad) else .bad
    | _, _ => .bad)
  | _, _ => .bad
noncomputable def dCallL2 (F : Fn) (r : DA) : DE := fun env S => (r env S).bind fun xs S1 => lotGo2 F xs S1
theorem Pk.back {G : Glo} {φ ψ : List Addr} {S S' : Store} {H H' : Hp} {js : List Nat} {os : List O} {as : List Addr} (R : Rel G φ S H) (P : Pk φ S js os as) {i : Nat} {a : Addr} {o o2 : O} (e1 : φ[i]? = some a) (e2 : S[i]? = some o) (nd : (i :: js).Nodup)
    (n : Nxt (a :: as) ψ H H') (R' : Rel G ψ S' H') (e3 : S'[0]? = some o2) (hl : lotO o2 = true) (ho : (S'.drop 1).take os.length = os) : Rel G φ (S.set i o2) H' ∧ Nxt φ φ H H' := by
  have g := n.grow
  have hm : a ∈ φ := List.mem_of_getElem? e1
  have has : ∀ b ∈ as, b ∈ φ := fun b hb => by
    obtain ⟨t, ht, et⟩ := List.mem_iff_getElem.mp hb
    have htj : t < js.length := by rw [← P.l1]; exact ht
    obtain ⟨a', o', q1, _, q3, _⟩ := P.at_ t _ (List.getElem?_eq_getElem htj)
    rw [List.getElem?_eq_getElem ht, et] at q1
    cases q1
    exact List.mem_of_getElem? q3
  refine ⟨⟨by simp [R.len], R.nd, fun j b u h1 h2 => ?_, R'.tabs⟩, ⟨⟨[], by simp, fun _ z => nomatch z⟩, g, fun b o e nb st => n.frame b o e (fun z => (List.mem_cons.mp z).elim (fun z => nb (by rw [z]; exact hm)) fun z => nb (has b z)) st, n.there⟩⟩
  by_cases hj : j = i
  · subst hj
    rw [e1] at h1
    cases h1
    rw [List.getElem?_set_self (List.getElem?_eq_some_iff.mp e2).1] at h2
    cases h2
    have ha : ψ[0]? = some a := n.at_ (i := 0) rfl
    exact lot_rel hl (R'.at_ 0 a o2 ha e3)
  · rw [List.getElem?_set_ne (Ne.symm hj)] at h2
    have h := R.at_ j b u h1 h2
    by_cases hb : b ∈ as
    · obtain ⟨t, ht, et⟩ := List.mem_iff_getElem.mp hb
      have htj : t < js.length := by rw [← P.l1]; exact ht
      have hto : t < os.length := by rw [P.l2]; exact htj
      obtain ⟨a', o', q1, q2, q3, q4, q5⟩ := P.at_ t _ (List.getElem?_eq_getElem htj)
      rw [List.getElem?_eq_getElem ht, et] at q1
      cases q1
      have ej : j = js[t] := (List.getElem?_inj (List.getElem?_eq_some_iff.mp h1).1 R.nd).mp (h1.trans q3.symm)
      rw [← ej, h2] at q4
      cases q4
      have hb1 : ψ[t + 1]? = some b := n.at_ (i := t + 1) (by rw [List.getElem?_cons_succ, List.getElem?_eq_getElem ht, et])
      have hs : S'[t + 1]? = some u := by
        rw [← ho, List.getElem?_take, if_pos hto, List.getElem?_drop, Nat.add_comm 1 t] at q2
        exact q2
      exact obj_rel q5 (R'.at_ _ b u hb1 hs)
    · obtain ⟨w, hw, mu, nx⟩ := h.mut_
      have st : Stdy w := by cases w <;> first | trivial | exact absurd mu (by intro z; exact z) | exact nx
      have nb : b ∉ a :: as := fun z => by
        rcases List.mem_cons.mp z with z' | z'
        · subst z'
          exact hj ((List.getElem?_inj (List.getElem?_eq_some_iff.mp h1).1 R.nd).mp (h1.trans e1.symm))
        · exact hb z'
      refine h.up (fun _ _ z => z) g ?_
      rw [hw]
      exact n.frame b w hw nb st
theorem sp_lot2 {G : Glo} {n : Nat} {F : Fn} {φ : List Addr} {S : Store} {H : Hp} {xs : List D} {vs : List V} {B : Value → Option Addr → Hp → Prop} {Q : VK} {E : XK} (R : Rel G φ S H) (rs : VRels G φ H xs vs) (hl : xs.length = n)
    (P : Pst G B φ H (fun φ' H' _ x => ∀ v, VRel G φ' H' x v → Q v H') (lotGo2 F xs S)) : spD G n F vs H Q E := by
  unfold lotGo2 at P
  split at P
  · rename_i i ys
    split at P
    · rename_i o ds js os eo ep
      split at P
      · rename_i hb
        obtain ⟨b1, b2⟩ := hb
        simp only [VRels] at rs
        obtain ⟨u, us, ev, ru, rus⟩ := rs
        simp only [VRel] at ru
        obtain ⟨a, rfl, ea⟩ := ru
        obtain ⟨as, Pk0, L, V⟩ := pack_ok R ep rus
        have R0 := Pk0.rel R ea eo b1 b2
        refine ⟨a :: as, o :: os, .ref 0 :: ds, R0, ?_, by rw [← hl, List.length_cons, List.length_cons, L], ?_⟩
        · rw [ev]
          exact VRels.cons (by simp only [VRel]; exact ⟨a, rfl, rfl⟩) (V [a] rfl)
        · split at P
          · rename_i v S2 eF
            split at P
            · rename_i o2 e2
              split at P
              · rename_i hc
                obtain ⟨hc, h4⟩ := hc
                obtain ⟨c1, c2⟩ := ba hc
                rw [eF]
                intro φ1 H1 n1 R1 w r1
                obtain ⟨R2, n2⟩ := Pk0.back R ea eo b2 n1 R1 e2 c2 h4
                exact P φ H1 n2 R2 w (pure_rel c1 r1)
              · exact P.elim
            · exact P.elim
          · exact P.elim
      · exact P.elim
    · exact P.elim
  · exact P.elim
theorem pex_clGL2 {C : Cp} {e : Expr} {es : List Expr} {dr : DA} {x : Str} {p pos : Pos} {k n : Nat} {F : Fn} (h : FnIsG C.G k x n F) (hk : Nat.ble k C.k = true) (hg : okG C x = true) (hgd : C.gd = true) (ha : PAx C (e :: es) dr) (hn : LenIs dr n)
    (he : ∀ env, starEach (e :: es) env = (false, eval e env) :: starEach es env := by intro _; rfl) (hpl : ∀ env, (backTo pos (starEach es env)).any (·.1) = false := by intro _; rfl) : PEx C (.Call (.Name x p) (e :: es) [] pos) (dCallL2 F dr) := fun X W hx => by
  obtain ⟨g1, g2⟩ := ba hg
  obtain ⟨f, fd, ps, _, ok, hm, kp, hb⟩ := h.ex
  refine ⟨fun pins s σ H Q I ⟨φ, S, env, R, E, P⟩ => ?_⟩
  refine wpAny_Call_Name_kw (ld_glob I (glB_ok g1 hx) (by rw [hx.mg]; exact hm) ?_ (nb g2))
  have P0 := P.bind
  have rd : rdA C.G W dr σ H fun vs H1 => spD C.G n F vs H1 Q (WE W σ) := by
    cases q : dr env S with
    | bad => rw [q] at P0; exact P0.elim
    | er y S1 => rw [q] at P0; exact ⟨φ, S, env, R, E, by rw [q]; exact P0⟩
    | ok xs S1 =>
      rw [q] at P0
      refine ⟨φ, S, env, R, E, ?_⟩
      rw [q]
      exact fun φ1 H1 n1 R1 vs rs => sp_lot2 R1 rs (hn env S xs S1 q) (P0 φ1 H1 n1 R1)
  refine PySem.W.callWith_K (h₀ := X.base) I.ok.mod.kin (by rw [hx.K]; exact kp) (thn ((ha X W hx).run pos pins s σ H _ I rd) fun us s1 ⟨vs, H1, I1, r, q⟩ => ⟨I1.kIn, ?_⟩) (he X.env) (hpl X.env)
  exact run_fnG hx hgd ok (Nat.le_of_ble_eq_true hk) hb I1 r q
/-- what a def does that is given the lot, data and plain objects -/
def Rights2 (F : Fn) (ds : List D) (os : List O) (n : Nat) : Prop := ∀ (a b c : Int) (m : Nat), LB a c m → m ≤ 500 → ∃ (a' b' c' : Int) (T : Store), F (.ref 0 :: ds) (lotL a b c :: os) = .ok (.bl true) (lotL a' b' c' :: (os ++ T)) ∧ LB a' c' (m + n)
theorem rights2_of {nl n : Nat} {ds : List D} {os : List O} {b : DS} (h : ∀ (a b' c : Int) (m : Nat), LB a c m → m ≤ 500 → WP (b (some (.ref 0) :: (ds.map some ++ List.replicate (nl - (ds.length + 1)) none)) (lotL a b' c :: os)) fun f S => f = .rt (.bl true) ∧ ∃ (a' b' c' : Int) (T : Store), S = lotL a' b' c' :: (os ++ T) ∧ LB a' c' (m + n)) : Rights2 (mkFn nl b) ds os n := fun a b' c m hb hm => by
  obtain ⟨f, S, e, rfl, a', b'', c', T, rfl, hl⟩ := h a b' c m hb hm
  refine ⟨a', b'', c', T, ?_, hl⟩
  unfold mkFn
  simp only [List.map_cons, List.length_cons, List.cons_append]
  rw [e]
  rfl
theorem w_callL2 {F : Fn} {S : Store} {r m n : Nat} {ys ds : List D} {js : List Nat} {os : List O} {Q : D → Store → Prop} (h : Rights2 F ds os n) (hp : packO ys S 1 = some (ds, js, os)) (nd : (r :: js).Nodup) (hL : Lot S r m) (hm : m ≤ 500) (q : ∀ S', Lot S' r (m + n) → Kp r S S' → S.length = S'.length → Q (.bl true) S') : WP (lotGo2 F (.ref r :: ys) S) Q := by
  obtain ⟨a, b, c, e, h1, h2, h3⟩ := hL
  obtain ⟨a', b', c', T, f, h4, h5, h6⟩ := h a b c m ⟨h1, h2, h3⟩ hm
  refine ⟨.bl true, S.set r (lotL a' b' c'), ?_, q _ ⟨a', b', c', set_at e, h4, h5, h6⟩ Kp.set (by simp)⟩
  unfold lotGo2
  simp only [e, hp]
  rw [if_pos ⟨by rfl, nd⟩, f]
  dsimp only [List.getElem?_cons_zero]
  rw [if_pos ⟨by rfl, by rw [List.drop_succ_cons, List.drop_zero, List.take_left']; rfl⟩]
theorem q_callL2 {F : Fn} {r : DA} {env : En} {S : Store} : dCallL2 F r env S = (r env S).bind fun xs S1 => lotGo2 F xs S1 := rfl
end Z

/-! Z66: statements at a def's end run in a store of their own. -/
namespace Z
open PySem PySem.Spec PyProof.Rows L2 He
def pickE (env : En) : List Nat → Option (List D)
  | [] => some []
  | j :: vs => match env[j]? with
    | some (some d) => (pickE env vs).map (d :: ·)
    | _ => none
def putE : List Nat → List D → En → En
  | j :: vs, d :: ds, env => putE vs ds (env.set j (some d))
  | _, _, env => env
section
variable {G : Glo} {φ ψ : List Addr} {H H' : Hp}
theorem pickE_rel {env : En} {σ : St} (E : ERel G φ H env σ) : ∀ {vs : List Nat} {ys : List D}, pickE env vs = some ys → ∃ us, VRels G φ H ys us ∧ us.length = vs.length ∧ ∀ (t j : Nat), vs[t]? = some j → ∃ u, us[t]? = some u ∧ σ[j]? = some (some u)
  | [], ys, e => by cases e; exact ⟨[], VRels.nil, rfl, fun t j h => by simp at h⟩
  | j :: vs, ys, e => by
    unfold pickE at e
    split at e
    · rename_i d hd
      cases q : pickE env vs with
      | none => rw [q] at e; cases e
      | some zs =>
        rw [q] at e
        cases e
        obtain ⟨us, r, l, k⟩ := pickE_rel E q
        obtain ⟨u, e1, r1⟩ := E.2 j d hd
        refine ⟨u :: us, VRels.cons r1 r, by simp [l], fun t => ?_⟩
        cases t with
        | zero => intro j' h; cases h; exact ⟨u, rfl, e1⟩
        | succ t => intro j' h; exact k t j' (by simpa using h)
    · cases e
theorem putE_rel {σ : St} : ∀ {vs : List Nat} {ds : List D} {us : List V} {env : En}, VRels G φ H ds us → us.length = vs.length → (∀ (t j : Nat), vs[t]? = some j → ∃ u, us[t]? = some u ∧ σ[j]? = some (some u)) → ERel G φ H env σ → ERel G φ H (putE vs ds env) σ
  | [], ds, us, env, r, l, k, E => by
    cases ds <;> exact E
  | j :: vs, ds, us, env, r, l, k, E => by
    cases ds with
    | nil => exact E
    | cons d ds =>
      simp only [VRels] at r
      obtain ⟨u, us', rfl, r1, rs⟩ := r
      obtain ⟨u', h1, h2⟩ := k 0 j rfl
      cases h1
      unfold putE
      refine putE_rel rs (by simpa using l) (fun t j' h => by simpa using k (t + 1) j' (by simpa using h)) ?_
      have := E.set (i := j) r1
      have e : σ.set j (some u) = σ := by
        refine List.ext_getElem? fun t => ?_
        by_cases ht : j = t
        · subst ht
          rw [List.getElem?_set_self (List.getElem?_eq_some_iff.mp h2).1, h2]
        · rw [List.getElem?_set_ne ht]
      rwa [e] at this
theorem Pk.rel0 {S : Store} {js : List Nat} {os : List O} {as : List Addr} (R : Rel G φ S H) (P : Pk φ S js os as) (nd : js.Nodup) : Rel G as os H := by
  have inj : ∀ {j j' : Nat} {b : Addr}, φ[j]? = some b → φ[j']? = some b → j = j' := fun h h' => (List.getElem?_inj (List.getElem?_eq_some_iff.mp h).1 R.nd).mp (h.trans h'.symm)
  refine ⟨by rw [P.l1, P.l2], ?_, fun t b u h1 h2 => ?_, R.tabs⟩
  · refine List.pairwise_iff_getElem.mpr fun t t' ht ht' hlt e => ?_
    have h1 : t < js.length := by rw [← P.l1]; exact ht
    have h2 : t' < js.length := by rw [← P.l1]; exact ht'
    obtain ⟨a1, _, q1, _, q3, _⟩ := P.at_ t _ (List.getElem?_eq_getElem h1)
    obtain ⟨a2, _, r1, _, r3, _⟩ := P.at_ t' _ (List.getElem?_eq_getElem h2)
    rw [List.getElem?_eq_getElem ht] at q1
    rw [List.getElem?_eq_getElem ht', ← e] at r1
    cases q1
    cases r1
    exact List.pairwise_iff_getElem.mp nd t t' h1 h2 hlt (inj q3 r3)
  · have ht : t < js.length := by rw [← P.l1]; exact (List.getElem?_eq_some_iff.mp h1).1
    obtain ⟨a', o', q1, q2, q3, q4, q5⟩ := P.at_ t _ (List.getElem?_eq_getElem ht)
    rw [h1] at q1
    rw [h2] at q2
    cases q1
    cases q2
    exact obj_rel q5 (R.at_ _ _ _ q3 q4)
theorem Pk.back0 {S S' : Store} {js : List Nat} {os : List O} {as : List Addr} (R : Rel G φ S H) (P : Pk φ S js os as) (n : Nxt as ψ H H') (R' : Rel G ψ S' H') (ho : S'.take os.length = os) : Rel G φ S H' ∧ Nxt φ φ H H' := by
  have g := n.grow
  have has : ∀ b ∈ as, b ∈ φ := fun b hb => by
    obtain ⟨t, ht, et⟩ := List.mem_iff_getElem.mp hb
    have htj : t < js.length := by rw [← P.l1]; exact ht
    obtain ⟨a', o', q1, _, q3, _⟩ := P.at_ t _ (List.getElem?_eq_getElem htj)
    rw [List.getElem?_eq_getElem ht, et] at q1
    cases q1
    exact List.mem_of_getElem? q3
  refine ⟨⟨R.len, R.nd, fun j b u h1 h2 => ?_, R'.tabs⟩, ⟨⟨[], by simp, fun _ z => nomatch z⟩, g, fun b o e nb st => n.frame b o e (fun z => nb (has b z)) st, n.there⟩⟩
  have h := R.at_ j b u h1 h2
  by_cases hb : b ∈ as
  · obtain ⟨t, ht, et⟩ := List.mem_iff_getElem.mp hb
    have htj : t < js.length := by rw [← P.l1]; exact ht
    have hto : t < os.length := by rw [P.l2]; exact htj
    obtain ⟨a', o', q1, q2, q3, q4, q5⟩ := P.at_ t _ (List.getElem?_eq_getElem htj)
    rw [List.getElem?_eq_getElem ht, et] at q1
    cases q1
    have ej : j = js[t] := (List.getElem?_inj (List.getElem?_eq_some_iff.mp h1).1 R.nd).mp (h1.trans q3.symm)
    rw [← ej, h2] at q4
    cases q4
    have hb1 : ψ[t]? = some b := n.at_ (i := t) (by rw [List.getElem?_eq_getElem ht, et])
    have hs : S'[t]? = some u := by
      rw [← ho, List.getElem?_take, if_pos hto] at q2
      exact q2
    exact obj_rel q5 (R'.at_ _ b u hb1 hs)
  · obtain ⟨w, hw, mu, nx⟩ := h.mut_
    have st : Stdy w := by cases w <;> first | trivial | exact absurd mu (by intro z; exact z) | exact nx
    refine h.up (fun _ _ z => z) g ?_
    rw [hw]
    exact n.frame b w hw hb st
end
open Classical in
noncomputable def sIso (vs : List Nat) (s : DS) : DS := fun env S => match pickE env vs with
  | some ys => (match packO ys S 0 with
    | some (ds, js, os) => if js.Nodup then (match s (putE vs ds (env.map fun _ => none)) os with
      | .ok (.rt v) S2 => if pure_ v = true ∧ S2.take os.length = os then .ok (.rt v) S else .bad
      | _ => .bad) else .bad
    | none => .bad)
  | none => .bad
theorem pssx_iso {C : Cp} {sts : List Stmt} {s : DS} (vs : List Nat) (h : PSsx C sts s) : PSsx C sts (sIso vs s) := fun X W hx => pss_imp (h X W hx) fun D σ H ⟨φ, S, env, R, E, P⟩ => by
  unfold sIso at P
  split at P
  · rename_i ys ey
    split at P
    · rename_i ds js os ep
      split at P
      · rename_i nd
        obtain ⟨us, r, l, k⟩ := pickE_rel E ey
        obtain ⟨as, Pk0, L, V⟩ := pack_ok R ep r
        refine ⟨as, os, _, Pk0.rel0 R nd, putE_rel (env := env.map fun _ => (none : Option Z.D)) (V [] rfl) l k ⟨(List.length_map _).trans E.1, fun i x q => ?_⟩, ?_⟩
        · rw [List.getElem?_map] at q
          cases hq : env[i]? <;> rw [hq] at q <;> cases q
        · split at P
          · rename_i v S2 eF
            split at P
            · rename_i hc
              obtain ⟨hp, ho⟩ := hc
              rw [eF]
              intro φ1 H1 n1 R1
              obtain ⟨R2, n2⟩ := Pk0.back0 R n1 R1 ho
              have P2 := P φ H1 n2 R2
              exact fun w r1 => P2 w (pure_rel hp r1)
            · exact P.elim
          · exact P.elim
      · exact P.elim
    · exact P.elim
  · exact P.elim
theorem w_iso {vs : List Nat} {s : DS} {env : En} {S S2 : Store} {ys ds : List D} {js : List Nat} {os : List O} {v : D} {Q : Fl → Store → Prop} (h1 : pickE env vs = some ys) (h2 : packO ys S 0 = some (ds, js, os)) (nd : js.Nodup) (h3 : s (putE vs ds (env.map fun _ => none)) os = .ok (.rt v) S2) (hp : pure_ v = true) (ho : S2.take os.length = os) (q : Q (.rt v) S) : WP (sIso vs s env S) Q := by
  refine ⟨.rt v, S, ?_, q⟩
  unfold sIso
  simp only [h1, h2]
  rw [if_pos nd, h3]
  dsimp only
  rw [if_pos ⟨hp, ho⟩]
end Z

/-! Z67: a for over a tuple of values, turn by turn. -/
namespace Z
open PySem PySem.Spec
def forU (j : Nat) (s : DS) : List D → DS → DS
  | [], rest => rest
  | d :: ds, rest => sSeq (sAsg (dC d) (gNm j)) (sSeq s (forU j s ds rest))
theorem sSeq_assoc {a b c : DS} : sSeq (sSeq a b) c = sSeq a (sSeq b c) := by
  funext env S
  simp only [q_seq]
  cases a env S with
  | ok f S1 => cases f <;> rfl
  | er x S1 => rfl
  | bad => rfl
theorem forU_go {j : Nat} {s rest : DS} {Q : Fl → Store → Prop} (hQ : ∀ (e : En) (S : Store), ¬ Q (.bk e) S ∧ ¬ Q (.ct e) S) : ∀ (ds pre : List D) (m : Nat) (env : En) (S : Store), ds.length < m → WP (forU j s ds rest env S) Q →
    WP ((forGo (jT (pre ++ ds)) (gNm j) s m pre.length env S).bind fun f S1 => match f with
      | .nx e => rest e S1
      | f => .ok f S1) Q
  | [], pre, m, env, S, hm, h => by
    obtain ⟨m, rfl⟩ : ∃ k, m = k + 1 := ⟨m - 1, by omega⟩
    unfold forGo jT
    rw [List.append_nil, List.getElem?_eq_none (Nat.le_refl _)]
    exact h
  | d :: ds, pre, m, env, S, hm, h => by
    obtain ⟨m, rfl⟩ : ∃ k, m = k + 1 := ⟨m - 1, by omega⟩
    have e0 : jT (pre ++ d :: ds) pre.length S = some (some d) := by
      unfold jT
      rw [List.getElem?_append_right (Nat.le_refl _), Nat.sub_self]; rfl
    unfold forGo
    rw [e0]
    unfold forU at h
    rw [q_seq, q_asg] at h
    have h : WP ((s (env.set j (some d)) S).bind fun f S1 => match f with
      | .nx e => forU j s ds rest e S1
      | f => .ok f S1) Q := h
    dsimp only
    rw [q_gnm, Res.bind_ok]
    rw [WP_bind] at h ⊢
    rw [WP_bind]
    refine WP_mono h fun f S1 hf => ?_
    cases f with
    | nx e =>
      have := forU_go hQ ds (pre ++ [d]) m e S1 (by simp at hm; omega) hf
      rw [List.append_assoc, List.length_append] at this
      rw [← WP_bind]
      exact this
    | rt v => exact WP_ok.mpr hf
    | bk e => exact absurd (WP_ok.mp hf) (hQ e S1).1
    | ct e => exact absurd (WP_ok.mp hf) (hQ e S1).2
theorem w_forU {j : Nat} {s rest : DS} {A : DE} {ds : List D} {env : En} {S : Store} {Q : Fl → Store → Prop} (hA : A env S = .ok (.tup ds) S) (hl : ds.length ≤ 1000) (hQ : ∀ (e : En) (S : Store), ¬ Q (.bk e) S ∧ ¬ Q (.ct e) S) (h : WP (forU j s ds rest env S) Q) : WP (sSeq (sFor (iSeq A) (gNm j) s) rest env S) Q := by
  have := forU_go hQ ds [] FUEL env S (by unfold FUEL; omega) h
  rw [List.nil_append, List.length_nil] at this
  have e : seqJ (.tup ds) S = some (jT ds) := rfl
  rw [q_seq, q_for, q_seqi, hA, Res.bind_ok, e]
  simp only [Res.bind_ok]
  exact this
end Z

/-! Z68: a generator def; list(g(..)) of it. -/
namespace Z
open PySem PySem.Spec PyProof.Rows L2 He GenW
/-- what a generator's code does: what is out so far, the slots, the store -/
abbrev GD := List D → En → Store → Res (Fl × List D)
def rdY (G : Glo) (W : WX) (g : GD) : TGn := fun D ys σ H => ∃ φ S env ds, Rel G φ S H ∧ ERel G φ H env σ ∧ VRels G φ H ds ys ∧ Pst G (fun c p H' => ∀ σ', W c p σ' H') φ H (fun φ' H' _ r => ∀ ys', VRels G φ' H' r.2 ys' → FlP G (D.at ys') φ' H' r.1) (g ds env S)
def PYx (C : Cp) (st : Stmt) (g : GD) : Prop := ∀ X W, Cxt C W X → GS X st (rdY C.G W g)
def PYsx (C : Cp) (sts : List Stmt) (g : GD) : Prop := ∀ X W, Cxt C W X → GSs X sts (rdY C.G W g)
theorem gs_imp {X : Cx} {st : Stmt} {t t' : TGn} (h : GS X st t) (k : ∀ D ys σ H, t' D ys σ H → t D ys σ H) : GS X st t' :=
  ⟨fun A S ip R n ys s₀ c fs K J gd lv s σ H D g hn kk hI ht => h.run A S ip R n ys s₀ c fs K J gd lv s σ H D g hn kk hI (k D ys σ H ht)⟩
theorem gss_imp {X : Cx} {st : List Stmt} {t t' : TGn} (h : GSs X st t) (k : ∀ D ys σ H, t' D ys σ H → t D ys σ H) : GSs X st t' :=
  ⟨fun A S ip R n ys s₀ c fs K J gd lv s σ H D g hn kk hI ht => h.run A S ip R n ys s₀ c fs K J gd lv s σ H D g hn kk hI (k D ys σ H ht)⟩
def gPl (s : DS) : GD := fun ds env S => (s env S).bind fun f S1 => .ok (f, ds) S1
def gNv : GD := fun _ _ _ => .bad
def gEnd : GD := fun ds env S => .ok (.nx env, ds) S
def gSeq (a b : GD) : GD := fun ds env S => (a ds env S).bind fun r S1 => match r.1 with
  | .nx e => b r.2 e S1
  | f => .ok (f, r.2) S1
def gYd (d : DE) : GD := fun ds env S => if ds.length < sl then (d env S).bind fun v S1 => .ok (.nx env, ds ++ [v]) S1 else .bad
section
variable {C : Cp} {st : Stmt} {sts : List Stmt} {s : DS} {g g' : GD} {e : Expr} {d : DE} {pos yp : Pos}
theorem pyx_pl (h : PSx C st s) : PYx C st (gPl s) := fun X W hx => gs_imp (gs_ps (h X W hx)) fun D ys σ H ⟨φ, S, env, ds, R, E, r, P⟩ =>
  ⟨φ, S, env, R, E, P.bind.imp fun φ1 H1 S1 f n1 R1 P1 => (Pst.now P1 R1) ys (r.nxt n1)⟩
theorem pyx_never : PYx C st gNv := fun X W hx => ⟨fun A S ip R n ys s₀ c fs K J gd lv s σ H D g hn kk hI ⟨_, _, _, _, _, _, _, P⟩ => P.elim⟩
theorem pysx_nil : PYsx C [] gEnd := fun X W hx => gss_imp gss_nil fun D ys σ H ⟨φ, S, env, ds, R, E, r, P⟩ => (Pst.now P R) ys r σ E
theorem pysx_cons (a : PYx C st g) (b : PYsx C sts g') : PYsx C (st :: sts) (gSeq g g') := fun X W hx => gss_imp (gss_cons (a X W hx) (b X W hx)) fun D ys σ H ⟨φ, S, env, ds, R, E, r, P⟩ => by
  refine ⟨φ, S, env, ds, R, E, r, P.bind.imp fun φ1 H1 S1 q n1 R1 P1 ys1 r1 => ?_⟩
  obtain ⟨f, ds1⟩ := q
  cases f with
  | nx e => exact fun σ1 E1 => ⟨φ1, S1, e, ds1, R1, E1, r1, P1⟩
  | rt d => exact (Pst.now P1 R1) ys1 r1
  | bk e => exact (Pst.now P1 R1) ys1 r1
  | ct e => exact (Pst.now P1 R1) ys1 r1
theorem pyx_yield (he : PEx C e d) (hco : C.sc.isCoroutine = false) (hk : C.sc.kind = .function) : PYx C (.Expr (.Yield (some e) yp) pos) (gYd d) := fun X W hx =>
  gs_imp (gs_yield (he X W hx) (by rw [hx.sc]; exact hco) (by unfold interactive; rw [hx.sc, hk]; rfl)) fun D ys σ H ⟨φ, S, env, ds, R, E, r, P⟩ => by
    unfold gYd at P
    split at P
    · rename_i hl
      refine ⟨?_, φ, S, env, R, E, ?_⟩
      · rw [← r.length, sizeLine_eq]
        exact hl
      · exact (pst_err P).bind.imp fun φ1 H1 S1 v n1 R1 P1 u ru => (Pst.now P1 R1) (ys ++ [u]) ((r.nxt n1).append (VRels.cons ru VRels.nil)) σ (E.nxt n1)
    · exact P.elim
end
/-! ### the def -/
abbrev GFn1 := List D → Store → Res (List D)
def spG (G : Glo) (n : Nat) (F : GFn1) : SpG := fun vs H Q E => ∃ φ S ds, Rel G φ S H ∧ VRels G φ H ds vs ∧ ds.length = n ∧ Pst G E φ H (fun φ' H' _ r => ∀ ys, VRels G φ' H' r ys → Q ys H') (F ds S)
structure GnIs (G : Glo) (k : Nat) (x : Str) (n : Nat) (F : GFn1) : Prop where
  ex : ∃ (f : Addr) (fd : FuncData) (ps : List Str), ps.length = n ∧ GFn G.P G.w G.K G.mg G.base k f fd ps (spG G n F) ∧ G.mg x = some (.ref f) ∧ PySem.W.keepIn G.K (.ref f) = true ∧ Binds G.K fd ps []
def mkGn (nl : Nat) (b : GD) : GFn1 := fun ds S => (b [] (ds.map some ++ List.replicate (nl - ds.length) none) S).bind fun r S1 => match r.1 with
  | .rt .non => .ok r.2 S1
  | .nx _ => .ok r.2 S1
  | _ => .bad
section
variable {G : Glo} {x qual : Str} {params : Arguments} {body : List Stmt} {scope : Scope} {dvs : List V} {kws : List (Str × V)} {f : Addr} {fd : FuncData} {N ps : List Str} {k n : Nat} {b : GD}
theorem gn_ok (F : FunD G.K x qual params body scope dvs kws f fd) (Sc : GScope N ps scope) (hn : ps.length = n) (hb : PYsx ⟨G, k, N, scope, fun _ => true, none, false⟩ body b) : GFn G.P G.w G.K G.mg G.base (k + 1) f fd ps (spG G n (mkGn N.length b)) := by
  obtain ⟨oc, od, dV, kV, doc, pm, an, cdv, ct, osl, rfl, lk, hcd, _, _⟩ := F.ex
  refine gfn_of lk hcd Sc (fun vs H Q E ⟨φ, S, ds, R, r, e, _⟩ => by rw [← r.length, e, hn]) fun A outer s H vs Q E pn hr ⟨φ, S, ds, R, r, e, P⟩ => ?_
  refine ⟨_, hb _ (fun cls d _ H => E cls d H) ⟨rfl, rfl, rfl, rfl, rfl, rfl, rfl, rfl, hr, rfl, takes_gcx, owns_gcx, (fun _ _ z => nomatch z), (fun z => nomatch z), (fun _ _ _ _ _ z => z)⟩, φ, S, _, [], R, ERel.start r, VRels.nil, ?_⟩
  have P0 := P.bind
  have P1 : Pst G (fun c p H' => ∀ σ' : St, E c p H') φ H (fun φ1 H1 S1 a => Pst G E φ1 H1 (fun φ' H' _ r => ∀ ys, VRels G φ' H' r ys → Q ys H') (match a.1 with
      | .rt .non => .ok a.2 S1
      | .nx _ => .ok a.2 S1
      | _ => .bad)) (b [] (ds.map some ++ List.replicate (N.length - ds.length) none) S) := by
    cases q : b [] (ds.map some ++ List.replicate (N.length - ds.length) none) S with
    | ok a S1 => rw [q] at P0; exact P0
    | er y S1 => rw [q] at P0; exact fun φ1 H1 n1 R1 cls dd xr _ => P0 φ1 H1 n1 R1 cls dd xr
    | bad => rw [q] at P0; exact P0
  refine P1.imp fun φ1 H1 S1 q n1 R1 P2 ys1 r1 => ?_
  obtain ⟨fl, ds1⟩ := q
  cases fl with
  | nx e => exact fun σ1 E1 => (Pst.now P2 R1) ys1 r1
  | rt d =>
    cases d with
    | non => exact fun v rv => ⟨by simpa only [VRel] using rv, (Pst.now P2 R1) ys1 r1⟩
    | _ => exact P2.elim
  | bk e => exact P2.elim
  | ct e => exact P2.elim
end
section
variable {cs : List Ck} {fn : List Df} {cl : List Str} {tf : Tf} {pr : Program} {G : Glo} {i j k n : Nat} {d : Df} {y : Str} {N ps : List Str} {b : GD}
theorem Hyp.gnIs (h : Hyp cs fn cl tf pr G) (i j : Nat) (hd : fn[i]? = some d) (ha : d.ad G.K = ga G.K y) (hc : cs[j]? = some (ckFa (.glo y))) (Sc : GScope N ps d.scope) (hn : ps.length = n)
    (hbi : ∀ (kV doc pm : Value) (an : Option Addr) (cdv ct : Value) (us : List Value), us.length = ps.length → bindArgs (PySem.W.fnOf d.name d.qual d.params d.body d.scope .none kV doc pm an cdv ct) ⟨us, []⟩ = pure (ps.zip us))
    (hb : PYsx ⟨G, k, N, d.scope, fun _ => true, none, false⟩ d.body b) (hv : d.dvs = [] := by rfl) (hcl : d.clo = [] := by rfl) : GnIs G (k + 1) y n (mkGn N.length b) := by
  obtain ⟨fd, F⟩ := h.def_ i hd hcl
  rw [hv] at F
  exact ⟨_, fd, ps, hn, gn_ok F Sc hn hb, by rw [ha]; exact h.glo j hc, F.kp, F.bindsN hbi⟩
/-- none of these ends an iterator -/
def NStop (G : Glo) (ns : List Nat) : Prop := ∀ c ∈ ns, PySem.W.subIn G.K (.ref (G.ad c)) (.type "StopIteration") = some false
def ckNst (l : List Str) : Ck := fun K => l.all fun y => decide (PySem.W.subIn K (.ref (ga K y)) (.type "StopIteration") = some false)
theorem Hyp.nst (h : Hyp cs fn cl tf pr G) (i : Nat) {l : List Str} {ns : List Nat} (e : cs[i]? = some (ckNst l)) (ht : (ns.all fun c => match cl[c]? with
    | some x => l.any fun y => decide (x = y)
    | none => false) = true) : NStop G ns := fun c hc => by
  have q := List.all_eq_true.mp ht c hc
  split at q
  · rename_i x ex
    obtain ⟨y, hy, e1⟩ := List.any_eq_true.mp q
    have e1 : x = y := of_decide_eq_true e1
    subst e1
    rw [h.cls c x ex]
    exact of_decide_eq_true (List.all_eq_true.mp (h.ck i e) x hy)
  · cases q
end
/-! ### list(g(..)) -/
def lGen (ns : List Nat) : Res (List D) → Res D
  | .ok ds S => .ok (.ref S.length) (S ++ [.lst ds])
  | .er x S => if ns.contains x.cls = true then .er x S else .bad
  | .bad => .bad
def dListG (ns : List Nat) (F : GFn1) (r : DA) : DE := fun env S => (r env S).bind fun xs S1 => lGen ns (F xs S1)
section
variable {C : Cp} {e : Expr} {es : List Expr} {dr : DA} {x : Str} {p pos p1 pos1 : Pos} {k n : Nat} {F : GFn1} {ns : List Nat}
theorem pex_listG (h : GnIs C.G k x n F) (hk : Nat.ble (k + 3) C.k = true) (hg : okG C x = true) (hgl : okB C "list" (.type "list") = true) (hml : C.G.mg "list" = none) (hns : NStop C.G ns) (ha : PAx C (e :: es) dr) (hn : LenIs dr n)
    (he : ∀ env, starEach (e :: es) env = (false, eval e env) :: starEach es env := by intro _; rfl) (hpl : ∀ env, (backTo pos (starEach es env)).any (·.1) = false := by intro _; rfl)
    (he1 : ∀ env, starEach [Expr.Call (.Name x p) (e :: es) [] pos] env = (false, eval (Expr.Call (.Name x p) (e :: es) [] pos) env) :: starEach [] env := by intro _; rfl) : PEx C (.Call (.Name "list" p1) [.Call (.Name x p) (e :: es) [] pos] [] pos1) (dListG ns F dr) := fun X W hx => by
  obtain ⟨g1, g2⟩ := ba hg
  obtain ⟨b1, b⟩ := ba hgl
  obtain ⟨b2, b⟩ := ba b
  obtain ⟨b3, b4⟩ := ba b
  have hk : k + 3 ≤ C.k := Nat.le_of_ble_eq_true hk
  obtain ⟨f, fd, ps, _, ok, hm, kp, hb⟩ := h.ex
  refine ⟨fun pins s σ H Q I ⟨φ, S, env, R, E, P⟩ => ?_⟩
  let E0 : XK := fun cls d H => W cls d σ H ∧ PySem.W.subIn C.G.K cls (.type "StopIteration") = some false
  have gg : PGen X k (.Call (.Name x p) (e :: es) [] pos) (tCallG (spG C.G n F) [] E0 (rdA C.G W dr)) E0 :=
    pgen_call (ds := []) (by rw [hx.prog, hx.w, hx.K, hx.mg, hx.base]; exact ok) (hx.room.mono (by omega)) (glB_ok g1 hx) (by rw [hx.mg]; exact hm) (by rw [hx.K]; exact kp) (by rw [hx.K]; exact hb) .nil (ha X W hx) (nb g2) (he X.env) (hpl X.env)
  refine (pe_listG (nm := "list") gg (fun pins' σ' H' s' e' s1 I' c => hx.takes e' s1 (XE.of_call I' (fun cls d H hh => hx.ind _ _ _ _ _ hh.1) c)) (fun cls d H hh => by rw [hx.K]; exact hh.2) (hx.room.mono hk) (glB_ok b1 hx) (by rw [hx.mg]; exact hml) (of_decide_eq_true b4) (of_decide_eq_true b3) (nb b2) (he1 X.env)).run pins s σ H Q I ?_
  have P0 := P.bind
  cases q : dr env S with
  | bad => rw [q] at P0; exact P0.elim
  | er y S1 => rw [q] at P0; exact ⟨φ, S, env, R, E, by rw [q]; exact P0⟩
  | ok xs S1 =>
    rw [q] at P0
    refine ⟨φ, S, env, R, E, ?_⟩
    rw [q]
    intro φ1 H1 n1 R1 vs rs
    refine ⟨φ1, S1, xs, R1, by rw [List.append_nil]; exact rs, hn env S xs S1 q, ?_⟩
    have P1 : Pst C.G (fun c p H' => W c p σ H') φ1 H1 (fun φ' H' _ x => ∀ v, VRel C.G φ' H' x v → Q v H') (lGen ns (F xs S1)) := P0 φ1 H1 n1 R1
    cases q2 : F xs S1 with
    | bad => rw [q2] at P1; exact P1.elim
    | er y S2 =>
      rw [q2] at P1
      unfold lGen at P1
      dsimp only at P1
      split at P1
      · rename_i hc
        intro φ2 H2 n2 R2 cls dd xr
        refine ⟨P1 φ2 H2 n2 R2 cls dd xr, ?_⟩
        rw [xr.1]
        exact hns _ (List.contains_iff_mem.mp hc)
      · exact P1.elim
    | ok ds S2 =>
      rw [q2] at P1
      intro φ2 H2 n2 R2 ys rys pp hp
      obtain ⟨R3, n3⟩ := R2.push hp (o := .lst ds) (u := .lst ys) ⟨ys, upd_same, rys.nxt (Nxt.new hp)⟩
      refine P1 _ _ (n2.trans n3) R3 (.ref pp) ?_
      simp only [VRel]
      exact ⟨pp, rfl, by rw [← R2.len]; simp⟩
end
end Z

/-! Z69: a chain of three comparisons. -/
namespace Z
open PySem PySem.Spec PyProof.Rows L2 He
section
variable {X : Cx} {a b c d : Expr} {ta tb tc td : TE} {pos : Pos}
def tChain3 (r r' r'' : R2) (ta tb tc td : TE) : TE := fun σ H Q => ta σ H fun x H1 => tb σ H1 fun y H2 => r x y H2 fun z H3 => ∃ k, z = .bl k ∧
  (if k = true then tc σ H3 fun w H4 => r' y w H4 fun z2 H5 => ∃ k2, z2 = .bl k2 ∧ (if k2 = true then td σ H5 fun w2 H6 => r'' w w2 H6 Q else Q (.bl false) H5) else Q (.bl false) H3)
theorem pe_chain3 {op op' op'' : CmpOp} {r r' r'' : R2} (ho : OpR X (compareOp op) r) (ho' : OpR X (compareOp op') r') (ho'' : OpR X (compareOp op'') r'') (ha : PE X a ta) (hb : PE X b tb) (hc : PE X c tc) (hd : PE X d td)
    (hm : lastMarks [op, op', op''] [b, c, d] = false) : PE X (.Compare a [op, op', op''] [b, c, d] pos) (tChain3 r r' r'' ta tb tc td) := by
  refine ⟨fun pins s σ H Q I h => ?_⟩
  refine Compare_chain (thn (ha.run pins s σ H _ I h) fun v s1 ⟨x, H1, I1, r1, q1⟩ => chain_link (thn (hb.run pins s1 σ H1 _ I1 q1) fun u s2 ⟨y, H2, I2, r2, q2⟩ =>
    thn (ho pins s2 σ H2 x y v u _ I2 r1 r2 q2) fun dd s3 ⟨z, H3, I3, r3, k, e, q3⟩ => ?_)) hm
  subst e
  cases r3
  refine wpAny_truthy_bool ?_
  cases k with
  | false => exact ite_ff ⟨.bl false, H3, I3, rfl, q3⟩
  | true =>
    refine ite_tt (chain_link (thn (hc.run pins s3 σ H3 _ I3 q3) fun w' s4 ⟨z', H4, I4, r4, q4⟩ => thn (ho' pins s4 σ H4 y z' u w' _ I4 r2 r4 q4) fun dd2 s5 ⟨z2, H5, I5, r5, k2, e2, q5⟩ => ?_))
    subst e2
    cases r5
    refine wpAny_truthy_bool ?_
    cases k2 with
    | false => exact ite_ff ⟨.bl false, H5, I5, rfl, q5⟩
    | true => exact ite_tt (chain_last (thn (hd.run pins s5 σ H5 _ I5 q5) fun w2 s6 ⟨z3, H6, I6, r6, q6⟩ => ho'' pins s6 σ H6 z' z3 w' w2 Q I6 r4 r6 q6))
end
def dChain3 (op op' op'' : Op2) (a b c d : DE) : DE := fun env S => (a env S).bind fun x S1 => (b env S1).bind fun y S2 => (ofO (op x y S2)).bind fun z S3 => match z with
  | .bl true => (c env S3).bind fun w S4 => (ofO (op' y w S4)).bind fun z2 S5 => match z2 with
    | .bl true => (d env S5).bind fun w2 S6 => ofO (op'' w w2 S6)
    | .bl false => .ok (.bl false) S5
    | _ => .bad
  | .bl false => .ok (.bl false) S3
  | _ => .bad
section
variable {C : Cp} {a b c d : Expr} {da db dc dd : DE} {pos : Pos}
theorem rd_chain3 {G : Glo} {W : WX} {op op' op'' : Op2} {σ : St} {H : Hp} {Q : VK} (h : rdE G W (dChain3 op op' op'' da db dc dd) σ H Q) : tChain3 (rdO G op) (rdO G op') (rdO G op'') (rdE G W da) (rdE G W db) (rdE G W dc) (rdE G W dd) σ H Q := by
  obtain ⟨φ, S, env, R, E, P⟩ := h
  refine ⟨φ, S, env, R, E, P.bind.imp fun φ1 H1 S1 x n1 R1 P1 v1 r1 => ?_⟩
  refine ⟨φ1, S1, env, R1, E.nxt n1, P1.bind.imp fun φ2 H2 S2 y n2 R2 P2 v2 r2 => ?_⟩
  refine ⟨φ2, S2, x, y, R2, r1.nxt n2, r2, ?_⟩
  cases q : op x y S2 with
  | none => rw [q] at P2; exact P2
  | some p =>
    obtain ⟨z, S3⟩ := p
    rw [q] at P2
    intro φ3 H3 n3 R3 v3 r3
    have P3 := P2.bind φ3 H3 n3 R3
    cases z with
    | bl k =>
      simp only [VRel] at r3
      refine ⟨k, r3, ?_⟩
      cases k with
      | true =>
        refine iteT ?_
        refine ⟨φ3, S3, env, R3, E.nxt ((n1.trans n2).trans n3), Pst.bind P3 |>.imp fun φ4 H4 S4 w n4 R4 P4 v4 r4 => ?_⟩
        refine ⟨φ4, S4, y, w, R4, (r2.nxt n3).nxt n4, r4, ?_⟩
        cases q4 : op' y w S4 with
        | none => rw [q4] at P4; exact P4
        | some p2 =>
          obtain ⟨z2, S5⟩ := p2
          rw [q4] at P4
          intro φ5 H5 n5 R5 v5 r5
          have P5 := P4.bind φ5 H5 n5 R5
          cases z2 with
          | bl k2 =>
            simp only [VRel] at r5
            refine ⟨k2, r5, ?_⟩
            cases k2 with
            | true =>
              refine iteT ?_
              refine ⟨φ5, S5, env, R5, E.nxt ((((n1.trans n2).trans n3).trans n4).trans n5), Pst.bind (f := fun w2 S6 => ofO (op'' w w2 S6)) P5 |>.imp fun φ6 H6 S6 w2 n6 R6 P6 v6 r6 => ?_⟩
              exact ⟨φ6, S6, w, w2, R6, (r4.nxt n5).nxt n6, r6, PstV.of P6⟩
            | false => exact iteF (Pst.now P5 R5 _ (by simp only [VRel]))
          | _ => exact P5.elim
      | false => exact iteF (Pst.now P3 R3 _ (by simp only [VRel]))
    | _ => exact P3.elim
theorem pex_chain3 {o o' o'' : CmpOp} {op op' op'' : Op2} (ho : OpRx C (compareOp o) op) (ho' : OpRx C (compareOp o') op') (ho'' : OpRx C (compareOp o'') op'') (ha : PEx C a da) (hb : PEx C b db) (hc : PEx C c dc) (hd : PEx C d dd) (hm : lastMarks [o, o', o''] [b, c, d] = false) : PEx C (.Compare a [o, o', o''] [b, c, d] pos) (dChain3 op op' op'' da db dc dd) :=
  fun X W h => pe_imp (pe_chain3 (ho X W h) (ho' X W h) (ho'' X W h) (ha X W h) (hb X W h) (hc X W h) (hd X W h) hm) fun _ _ _ => rd_chain3
end
end Z

/-! Z70: what stands ahead of a law's turns: objects made in a store of their own; values drawn by the law itself. -/
namespace Z
open PySem PySem.Spec
/-- what a closed expression makes: the place of an object and the object -/
def newOk (d : DE) (env : En) : Option (Nat × O) := match d env [] with
  | .ok (.ref k) T => (T[k]?).map fun o => (k, o)
  | _ => none
theorem w_newS {d : DE} {env : En} {S : Store} {k : Nat} {o : O} {Q : D → Store → Prop} (h : newOk d (env.map fun _ => none) = some (k, o)) (ho : ∀ n, mvO n o = o) (q : ∀ p S', Sub S S' → S.length ≤ p → p < S'.length → S'[p]? = some o → Q (.ref p) S') : WP (dNewS d env S) Q := by
  unfold newOk at h
  unfold dNewS
  split at h
  · rename_i k' T e
    cases hT : T[k']? with
    | none => rw [hT] at h; cases h
    | some u =>
      rw [hT] at h
      cases h
      rw [e]
      have hk := (List.getElem?_eq_some_iff.mp hT).1
      refine ⟨_, _, rfl, ?_⟩
      have e1 : mvD S.length (.ref k) = .ref (S.length + k) := by
        unfold mvD; first | rfl | rw [Nat.add_comm]
      rw [e1]
      refine q _ _ (fun j u h => ?_) (Nat.le_add_right _ _) (by rw [List.length_append, List.length_map]; omega) ?_
      · rw [List.getElem?_append_left (List.getElem?_eq_some_iff.mp h).1]; exact h
      · rw [List.getElem?_append_right (Nat.le_add_right _ _), Nat.add_sub_cancel_left, List.getElem?_map, hT, Option.map_some, ho]
  · cases h
theorem pack_pure : ∀ {ds : List D} {S : Store} {k : Nat}, (∀ d ∈ ds, pure_ d = true) → packO ds S k = some (ds, [], [])
  | [], _, _, _ => rfl
  | d :: ds, S, k, h => by
    have h1 := h d (List.mem_cons_self ..)
    have h2 := pack_pure (S := S) (k := k) fun x hx => h x (List.mem_cons_of_mem _ hx)
    unfold packO
    cases d <;> first | (exact absurd h1 (by unfold pure_; decide)) | (dsimp only; rw [if_pos h1, h2]; rfl)
theorem drawn_mem {ps : List (D × Str)} {k : Nat} {x : D} (h : (ps.map (·.1))[k]? = some x) : ∃ t, (x, t) ∈ ps := by
  rw [List.getElem?_map] at h
  cases e : ps[k]? with
  | none => rw [e] at h; cases h
  | some p => rw [e] at h; cases h; exact ⟨p.2, List.mem_of_getElem? e⟩
theorem pure_drawn {ps : List (D × Str)} {x : D} {t : Str} (h : ps.all (fun p => pure_ p.1) = true) (hx : (x, t) ∈ ps) : pure_ x = true := List.all_eq_true.mp h _ hx
end Z

/-! Z73: the head's run looked at in parts, each part by a check of its own (a check's memory is given back at its end). -/
namespace Z
open PySem PySem.Spec PyProof.Rows L2 He
section
variable {X A B : Type} {o : Option X}
theorem opt2 {f : X → A} {g : X → B} {a : A} {b : B} (h1 : o.map f = some a) (h2 : o.map g = some b) : o.map (fun x => (f x, g x)) = some (a, b) := by
  cases o with
  | none => cases h1
  | some x => cases h1; cases h2; rfl
theorem opt2L {f : X → A} {g : X → B} {a : A} {b : B} (h : o.map (fun x => (f x, g x)) = some (a, b)) : o.map f = some a := by
  cases o with
  | none => cases h
  | some x => cases h; rfl
theorem opt2R {f : X → A} {g : X → B} {a : A} {b : B} (h : o.map (fun x => (f x, g x)) = some (a, b)) : o.map g = some b := by
  cases o with
  | none => cases h
  | some x => cases h; rfl
theorem optAnd {f g : X → Bool} (h1 : o.map f = some true) (h2 : o.map g = some true) : o.map (fun x => f x && g x) = some true := by
  cases o with
  | none => cases h1
  | some x =>
    have e1 := Option.some.inj h1
    have e2 := Option.some.inj h2
    show some (f x && g x) = some true
    rw [e1, e2]
    rfl
def obA (n : Nat) (cs : List Ck) (g : Addr → Option Obj) : Bool := cs.all fun c => c (frT g (asZ g n))
def obF (n : Nat) (fn : List Df) (g : Addr → Option Obj) : Bool := fn.all fun d => d.ok (frT g (asZ g n))
def obV (n : Nat) (fn : List Df) (g : Addr → Option Obj) : List FnW := fn.map fun d => fnA (frT g (asZ g n)) (d.ad (frT g (asZ g n)))
def obT (n : Nat) (tf : List (PySem.W.Frag → Addr)) (g : Addr → Option Obj) : Bool := tabsZ g tf (frT g (asZ g n))
theorem obs_split (g : X → Addr → Option Obj) (n : Nat) (cs : List Ck) (fn : List Df) (tf : List (PySem.W.Frag → Addr)) (m : Nat)
    (h1 : o.map (fun x => obA n (cs.take m) (g x)) = some true) (h2 : o.map (fun x => obA n (cs.drop m) (g x)) = some true)
    (h3 : o.map (fun x => obF n fn (g x)) = some true)
    (h4 : o.map (fun x => (obV n fn (g x), obT n tf (g x))) = some (fn.map Df.val, true)) :
    o.map (fun x => obsZG n cs fn tf (g x)) = some (valZ fn, true) := by
  have h5 : o.map (fun x => obA n cs (g x)) = some true := by
    have e := optAnd h1 h2
    rw [← e]
    refine congrArg (fun f => Option.map f o) (funext fun x => ?_)
    unfold obA
    rw [← List.all_append, List.take_append_drop]
  exact opt2 (opt2 (optAnd h5 h3) (opt2L h4)) (opt2R h4)
theorem run_split {A1 A2 : Type} {f1 : X → A1} {f2 : X → A2} {a1 : A1} {a2 : A2} (g : X → Addr → Option Obj) (n : Nat) (cs : List Ck) (fn : List Df) (tf : List (PySem.W.Frag → Addr)) (m : Nat)
    (h0 : o.map (fun x => (f1 x, f2 x)) = some (a1, a2))
    (h1 : o.map (fun x => obA n (cs.take m) (g x)) = some true) (h2 : o.map (fun x => obA n (cs.drop m) (g x)) = some true)
    (h3 : o.map (fun x => obF n fn (g x)) = some true)
    (h4 : o.map (fun x => (obV n fn (g x), obT n tf (g x))) = some (fn.map Df.val, true)) :
    o.map (fun x => (f1 x, f2 x, obsZG n cs fn tf (g x))) = some (a1, a2, (valZ fn, true)) :=
  opt2 (opt2L h0) (opt2 (opt2R h0) (obs_split g n cs fn tf m h1 h2 h3 h4))
end
end Z

namespace Zk18
open PySem PySem.Spec PyProof.Rows L2 He Z
noncomputable section
def top (i : Nat) : Stmt := PySem.Challenge.pw_arrowsizes_k18_errors_of_tables.main.body.getD i (.Pass ⟨0, 0, 0, 0⟩)
def tf : Tf := [(fun K => ga K "lead_of", ("lead_of" : Str) ++ (".<locals>." : Str) ++ ("<genexpr>" : Str)), (fun K => ga K "_law_made_right", ("_law_made_right" : Str) ++ (".<locals>." : Str) ++ ("<lambda>" : Str)), (fun K => ga K "_law_listed_right", ("_law_listed_right" : Str) ++ (".<locals>." : Str) ++ ("<lambda>" : Str)), (fun K => ga K "_law_used_right", ("_law_used_right" : Str) ++ (".<locals>." : Str) ++ ("<lambda>" : Str))]
def cs : List Ck := [ckSlt "Kept",
  ckIsi "Kept",
  ckIC "Rows" "Kept" false,
  ckSlt "Poly",
  ckIsi "Poly",
  ckIC "Rows" "Poly" false,
  ckSlt "Rows",
  ckIsi "Rows",
  ckIC "Rows" "Rows" true,
  ckSlt "Table",
  ckIsi "Table",
  ckIC "Rows" "Table" false,
  ckIT "Rows",
  ckFa (.glo "Rows"),
  ckFa (.free "isinstance"),
  ckFld "Rows" "own_rows" 0,
  ckFld "Table" "own_rows" 3,
  ckIN "Kept",
  ckIN "Poly",
  ckIN "Rows",
  ckIN "Table",
  ckFa (.free "int"),
  ckFa (.free "bool"),
  ckFa (.glo "is_whole"),
  ckFa (.int "MOST_DIGITS" (1000000000000000000000000000000000000000000000000000000000000)),
  ckFa (.glo "is_integer"),
  ckTup "PRIMES" [(2), (3), (5), (7)],
  ckFa (.glo "InvalidPrime"),
  ckX0 "InvalidPrime",
  ckFa (.glo "require_prime"),
  ckFa (.glo "InvalidCount"),
  ckXs .idx "InvalidCount" "value" PySem.Challenge.pw_arrowsizes_k18_errors_of_tables.main.file,
  ckFa (.free "super"),
  ckFa (.glo "require_to"),
  ckFa (.int "MAX_SIDE" (36)),
  ckFa (.free "tuple"),
  ckFa (.free "len"),
  ckFa (.glo "is_residue"),
  ckFa (.free "all"),
  ckFa (.glo "is_column"),
  ckFa (.glo "are_rows"),
  ckFa (.glo "InvalidTable"),
  ckX0 "InvalidTable",
  ckFa (.glo "rows_told"),
  ckFld "Table" "own_prime" 1,
  ckFld "Table" "own_height" 0,
  ckFld "Table" "own_width" 4,
  ckFa (.free "list"),
  ckFa (.free "zip"),
  ckFa (.glo "less_row"),
  ckTabs tf,
  ckFa (.free "next"),
  ckFa (.free "enumerate"),
  ckFa (.glo "lead_of"),
  ckFa (.glo "inverse_in"),
  ckFa (.glo "stepped"),
  ckFa (.glo "raw_rank"),
  ckFld "Table" "own_rank" 2,
  ckFa (.mkr "Table"),
  ckFa (.glo "Table"),
  ckIC "Table" "Kept" false,
  ckIC "Table" "Poly" false,
  ckIC "Table" "Rows" false,
  ckIC "Table" "Table" true,
  ckIT "Table",
  ckFa (.meth "Table" "__eq__"),
  ckNe "Table",
  ckFa (.int "MAX_SPACES" (3000)),
  ckFa (.int "MAX_TURNS" (20000)),
  ckFa (.free "min"),
  ckFa (.free "max"),
  ckFa (.free "range"),
  ckFa (.free "abs"),
  ckFa (.glo "_law_lot"),
  ckFa (.glo "_law_pull"),
  ckFa (.glo "_law_one_of"),
  ckXf "TooMany" "limit",
  ckFa (.free "repr"),
  ckFa (.glo "TooMany"),
  ckXf "InvalidCount" "value",
  ckFa (.glo "InvalidOperation"),
  ckFa (.glo "_law_met"),
  ckSubs [("ArrowError", []), ("InvalidPoly", []), ("InvalidTable", ["InvalidTable"]), ("InvalidPrime", ["InvalidPrime"]), ("InvalidOperation", ["InvalidOperation"]), ("InvalidCount", ["InvalidCount"]), ("TooMany", ["TooMany"])] ["InvalidPrime", "InvalidTable", "InvalidOperation", "InvalidCount", "TooMany"],
  ckFa (.mkr "Rows"),
  ckFa (.glo "table_made"),
  ckFa (.glo "raw_idle"),
  ckFa (.glo "idle_table"),
  ckFa (.glo "zero_table"),
  ckX0 "InvalidOperation",
  ckFa (.glo "require_columns"),
  ckFa (.glo "raw_base"),
  ckFa (.glo "base_of"),
  ckFa (.glo "free_rest"),
  ckFa (.glo "_law_made_right"),
  ckFa (.glo "power_in"),
  ckFa (.glo "turn_number_in"),
  ckFa (.glo "turn_number"),
  ckXs .ovf "TooMany" "limit" PySem.Challenge.pw_arrowsizes_k18_errors_of_tables.main.file,
  ckFa (.glo "turns"),
  ckNst ["ArrowError", "InvalidCount", "InvalidOperation", "InvalidPoly", "InvalidPrime", "InvalidTable", "TooMany"],
  ckFa (.int "MOST_COUNTED" (12)),
  ckFa (.glo "is_within"),
  ckFa (.glo "require_within"),
  ckFa (.int "MOST_CHOSEN" (12)),
  ckIC "Kept" "Kept" true,
  ckIC "Kept" "Poly" false,
  ckIC "Kept" "Rows" false,
  ckIC "Kept" "Table" false,
  ckIT "Kept",
  ckFa (.glo "Kept"),
  ckFld "Kept" "own_numbers" 0,
  ckFa (.int "MOST_DEGREE" (100)),
  ckFa (.glo "InvalidPoly"),
  ckX0 "InvalidPoly",
  ckFa (.glo "trimmed"),
  ckFa (.glo "numbers_told"),
  ckFld "Poly" "own_coefficients" 0,
  ckBi "gcd" "math.gcd",
  ckFa (.glo "content_of"),
  ckFld "Poly" "own_content" 1,
  ckFa (.mkr "Poly"),
  ckFa (.glo "Poly"),
  ckFa (.mkr "Kept"),
  ckFa (.glo "poly_of"),
  ckFa (.glo "divided"),
  ckFa (.glo "product_of"),
  ckFa (.glo "gauss_numbers"),
  ckFa (.glo "gauss"),
  ckFa (.glo "tables_of_rank"),
  ckFa (.glo "space_number"),
  ckFa (.glo "spaces"),
  ckFa (.glo "_law_listed_right"),
  ckFa (.glo "require_table"),
  ckFa (.glo "raw_mixed"),
  ckFa (.glo "mixed_in"),
  ckFa (.meth "Table" "plus"),
  ckFa (.meth "Table" "minus"),
  ckFa (.glo "raw_swapped"),
  ckFa (.free "sum"),
  ckFa (.glo "inner_of"),
  ckFa (.glo "raw_times"),
  ckFa (.glo "product_in"),
  ckFa (.meth "Table" "times"),
  ckFa (.meth "Table" "scaled"),
  ckFa (.meth "Table" "leading"),
  ckFa (.glo "raw_solved"),
  ckFa (.meth "Table" "solved"),
  ckFa (.glo "raw_undone"),
  ckFa (.meth "Table" "undone"),
  ckFa (.glo "blocks_in"),
  ckFa (.meth "Table" "blocks"),
  ckFa (.meth "Table" "entry_at"),
  ckFa (.glo "_law_used_right"),
  ckFa (.glo "law")]
def fn : List Df := [⟨fun K => ga K "is_whole", "is_whole", "is_whole", defArgs (top 12), defBody (top 12), defScope (top 12), [], []⟩,
  ⟨fun K => ga K "is_integer", "is_integer", "is_integer", defArgs (top 13), defBody (top 13), defScope (top 13), [], []⟩,
  ⟨fun K => ga K "require_prime", "require_prime", "require_prime", defArgs (top 56), defBody (top 56), defScope (top 56), [], []⟩,
  ⟨fun K => ma K (ga K "InvalidCount") "__init__", "__init__", "InvalidCount.__init__", defArgs (inner (top 8) 0), defBody (inner (top 8) 0), defScope (inner (top 8) 0), [], ["__class__"]⟩,
  ⟨fun K => ga K "require_to", "require_to", "require_to", defArgs (top 57), defBody (top 57), defScope (top 57), [], []⟩,
  ⟨fun K => ga K "is_residue", "is_residue", "is_residue", defArgs (top 58), defBody (top 58), defScope (top 58), [], []⟩,
  ⟨fun K => ga K "is_column", "is_column", "is_column", defArgs (top 59), defBody (top 59), defScope (top 59), [], []⟩,
  ⟨fun K => ga K "are_rows", "are_rows", "are_rows", defArgs (top 60), defBody (top 60), defScope (top 60), [], []⟩,
  ⟨fun K => ga K "rows_told", "rows_told", "rows_told", defArgs (top 62), defBody (top 62), defScope (top 62), [], []⟩,
  ⟨fun K => ga K "less_row", "less_row", "less_row", defArgs (top 22), defBody (top 22), defScope (top 22), [], []⟩,
  ⟨fun K => ga K "lead_of", "lead_of", "lead_of", defArgs (top 21), defBody (top 21), defScope (top 21), [], []⟩,
  ⟨fun K => ga K "inverse_in", "inverse_in", "inverse_in", defArgs (top 20), defBody (top 20), defScope (top 20), [], []⟩,
  ⟨fun K => ga K "stepped", "stepped", "stepped", defArgs (top 23), defBody (top 23), defScope (top 23), [], []⟩,
  ⟨fun K => ga K "raw_rank", "raw_rank", "raw_rank", defArgs (top 25), defBody (top 25), defScope (top 25), [], []⟩,
  ⟨fun K => ma K (ga K "Table") "__init__", "__init__", "Table.__init__", defArgs (inner (top 63) 1), defBody (inner (top 63) 1), defScope (inner (top 63) 1), [], []⟩,
  ⟨fun K => ma K (ga K "Table") "__eq__", "__eq__", "Table.__eq__", defArgs (inner (top 63) 20), defBody (inner (top 63) 20), defScope (inner (top 63) 20), [], []⟩,
  ⟨fun K => ga K "_law_lot", "_law_lot", "_law_lot", defArgs (top 88), defBody (top 88), defScope (top 88), [], []⟩,
  ⟨fun K => ga K "_law_pull", "_law_pull", "_law_pull", defArgs (top 89), defBody (top 89), defScope (top 89), [], []⟩,
  ⟨fun K => ga K "_law_one_of", "_law_one_of", "_law_one_of", defArgs (top 90), defBody (top 90), defScope (top 90), [], []⟩,
  ⟨fun K => ga K "_law_met", "_law_met", "_law_met", defArgs (top 91), defBody (top 91), defScope (top 91), [], []⟩,
  ⟨fun K => ma K (ga K "Rows") "__init__", "__init__", "Rows.__init__", defArgs (inner (top 61) 1), defBody (inner (top 61) 1), defScope (inner (top 61) 1), [], []⟩,
  ⟨fun K => ga K "table_made", "table_made", "table_made", defArgs (top 64), defBody (top 64), defScope (top 64), [], []⟩,
  ⟨fun K => ga K "raw_idle", "raw_idle", "raw_idle", defArgs (top 19), defBody (top 19), defScope (top 19), [], []⟩,
  ⟨fun K => ga K "idle_table", "idle_table", "idle_table", defArgs (top 69), defBody (top 69), defScope (top 69), [], []⟩,
  ⟨fun K => ga K "zero_table", "zero_table", "zero_table", defArgs (top 70), defBody (top 70), defScope (top 70), [], []⟩,
  ⟨fun K => ga K "require_columns", "require_columns", "require_columns", defArgs (top 71), defBody (top 71), defScope (top 71), [], []⟩,
  ⟨fun K => ga K "raw_base", "raw_base", "raw_base", defArgs (top 24), defBody (top 24), defScope (top 24), [], []⟩,
  ⟨fun K => ga K "base_of", "base_of", "base_of", defArgs (top 72), defBody (top 72), defScope (top 72), [], []⟩,
  ⟨fun K => ga K "free_rest", "free_rest", "free_rest", defArgs (top 73), defBody (top 73), defScope (top 73), [], []⟩,
  ⟨fun K => ga K "_law_made_right", "_law_made_right", "_law_made_right", defArgs (top 92), defBody (top 92), defScope (top 92), [], []⟩,
  ⟨fun K => ga K "power_in", "power_in", "power_in", defArgs (top 80), defBody (top 80), defScope (top 80), [], []⟩,
  ⟨fun K => ga K "turn_number_in", "turn_number_in", "turn_number_in", defArgs (top 83), defBody (top 83), defScope (top 83), [], []⟩,
  ⟨fun K => ga K "turn_number", "turn_number", "turn_number", defArgs (top 82), defBody (top 82), defScope (top 82), [], []⟩,
  ⟨fun K => ma K (ga K "TooMany") "__init__", "__init__", "TooMany.__init__", defArgs (inner (top 9) 0), defBody (inner (top 9) 0), defScope (inner (top 9) 0), [], ["__class__"]⟩,
  ⟨fun K => ga K "turns", "turns", "turns", defArgs (top 85), defBody (top 85), defScope (top 85), [], []⟩,
  ⟨fun K => ga K "is_within", "is_within", "is_within", defArgs (top 41), defBody (top 41), defScope (top 41), [], []⟩,
  ⟨fun K => ga K "require_within", "require_within", "require_within", defArgs (top 42), defBody (top 42), defScope (top 42), [], []⟩,
  ⟨fun K => ga K "trimmed", "trimmed", "trimmed", defArgs (top 29), defBody (top 29), defScope (top 29), [], []⟩,
  ⟨fun K => ga K "numbers_told", "numbers_told", "numbers_told", defArgs (top 45), defBody (top 45), defScope (top 45), [], []⟩,
  ⟨fun K => ga K "content_of", "content_of", "content_of", defArgs (top 33), defBody (top 33), defScope (top 33), [], []⟩,
  ⟨fun K => ma K (ga K "Poly") "__init__", "__init__", "Poly.__init__", defArgs (inner (top 46) 1), defBody (inner (top 46) 1), defScope (inner (top 46) 1), [], []⟩,
  ⟨fun K => ma K (ga K "Kept") "__init__", "__init__", "Kept.__init__", defArgs (inner (top 44) 1), defBody (inner (top 44) 1), defScope (inner (top 44) 1), [], []⟩,
  ⟨fun K => ga K "poly_of", "poly_of", "poly_of", defArgs (top 47), defBody (top 47), defScope (top 47), [], []⟩,
  ⟨fun K => ga K "divided", "divided", "divided", defArgs (top 34), defBody (top 34), defScope (top 34), [], []⟩,
  ⟨fun K => ga K "product_of", "product_of", "product_of", defArgs (top 31), defBody (top 31), defScope (top 31), [], []⟩,
  ⟨fun K => ga K "gauss_numbers", "gauss_numbers", "gauss_numbers", defArgs (top 35), defBody (top 35), defScope (top 35), [], []⟩,
  ⟨fun K => ga K "gauss", "gauss", "gauss", defArgs (top 49), defBody (top 49), defScope (top 49), [], []⟩,
  ⟨fun K => ga K "tables_of_rank", "tables_of_rank", "tables_of_rank", defArgs (top 86), defBody (top 86), defScope (top 86), [], []⟩,
  ⟨fun K => ga K "space_number", "space_number", "space_number", defArgs (top 79), defBody (top 79), defScope (top 79), [], []⟩,
  ⟨fun K => ga K "spaces", "spaces", "spaces", defArgs (top 81), defBody (top 81), defScope (top 81), [], []⟩,
  ⟨fun K => ga K "_law_listed_right", "_law_listed_right", "_law_listed_right", defArgs (top 93), defBody (top 93), defScope (top 93), [], []⟩,
  ⟨fun K => ga K "require_table", "require_table", "require_table", defArgs (top 65), defBody (top 65), defScope (top 65), [], []⟩,
  ⟨fun K => ga K "raw_mixed", "raw_mixed", "raw_mixed", defArgs (top 17), defBody (top 17), defScope (top 17), [], []⟩,
  ⟨fun K => ga K "mixed_in", "mixed_in", "mixed_in", defArgs (top 66), defBody (top 66), defScope (top 66), [], []⟩,
  ⟨fun K => ma K (ga K "Table") "plus", "plus", "Table.plus", defArgs (inner (top 63) 9), defBody (inner (top 63) 9), defScope (inner (top 63) 9), [], []⟩,
  ⟨fun K => ma K (ga K "Table") "minus", "minus", "Table.minus", defArgs (inner (top 63) 10), defBody (inner (top 63) 10), defScope (inner (top 63) 10), [], []⟩,
  ⟨fun K => ga K "raw_swapped", "raw_swapped", "raw_swapped", defArgs (top 18), defBody (top 18), defScope (top 18), [], []⟩,
  ⟨fun K => ga K "inner_of", "inner_of", "inner_of", defArgs (top 15), defBody (top 15), defScope (top 15), [], []⟩,
  ⟨fun K => ga K "raw_times", "raw_times", "raw_times", defArgs (top 16), defBody (top 16), defScope (top 16), [], []⟩,
  ⟨fun K => ga K "product_in", "product_in", "product_in", defArgs (top 67), defBody (top 67), defScope (top 67), [], []⟩,
  ⟨fun K => ma K (ga K "Table") "times", "times", "Table.times", defArgs (inner (top 63) 11), defBody (inner (top 63) 11), defScope (inner (top 63) 11), [], []⟩,
  ⟨fun K => ma K (ga K "Table") "scaled", "scaled", "Table.scaled", defArgs (inner (top 63) 12), defBody (inner (top 63) 12), defScope (inner (top 63) 12), [], []⟩,
  ⟨fun K => ma K (ga K "Table") "leading", "leading", "Table.leading", defArgs (inner (top 63) 13), defBody (inner (top 63) 13), defScope (inner (top 63) 13), [], []⟩,
  ⟨fun K => ga K "raw_solved", "raw_solved", "raw_solved", defArgs (top 26), defBody (top 26), defScope (top 26), [], []⟩,
  ⟨fun K => ma K (ga K "Table") "solved", "solved", "Table.solved", defArgs (inner (top 63) 14), defBody (inner (top 63) 14), defScope (inner (top 63) 14), [], []⟩,
  ⟨fun K => ga K "raw_undone", "raw_undone", "raw_undone", defArgs (top 27), defBody (top 27), defScope (top 27), [], []⟩,
  ⟨fun K => ma K (ga K "Table") "undone", "undone", "Table.undone", defArgs (inner (top 63) 18), defBody (inner (top 63) 18), defScope (inner (top 63) 18), [], []⟩,
  ⟨fun K => ga K "blocks_in", "blocks_in", "blocks_in", defArgs (top 68), defBody (top 68), defScope (top 68), [], []⟩,
  ⟨fun K => ma K (ga K "Table") "blocks", "blocks", "Table.blocks", defArgs (inner (top 63) 19), defBody (inner (top 63) 19), defScope (inner (top 63) 19), [], []⟩,
  ⟨fun K => ma K (ga K "Table") "entry_at", "entry_at", "Table.entry_at", defArgs (inner (top 63) 8), defBody (inner (top 63) 8), defScope (inner (top 63) 8), [], []⟩,
  ⟨fun K => ga K "_law_used_right", "_law_used_right", "_law_used_right", defArgs (top 94), defBody (top 94), defScope (top 94), [], []⟩,
  ⟨fun K => ga K "law", "law", "law", defArgs (top 95), defBody (top 95), defScope (top 95), [], []⟩]
def cl : List Str := ["Table", "Rows", "Kept", "Poly", "InvalidPrime", "InvalidCount", "InvalidTable", "TooMany", "InvalidOperation", "ArrowError", "InvalidPoly"]
abbrev Hy (G : Glo) : Prop := Hyp cs fn cl tf PySem.Challenge.pw_arrowsizes_k18_errors_of_tables G
/-! is_whole -/
def n_is_whole : List Str := ["value"]
theorem d_is_whole : n_is_whole.Nodup := by decide +kernel
def b_is_whole : DS := (sRet (dAndV (dCallB (orB bIsi (bIsiN [2, 3, 1, 0])) (dCons (dVar 0) (dCons (dC (.ty "int")) dNil))) (dNotV (dCallB (orB bIsi (bIsiN [2, 3, 1, 0])) (dCons (dVar 0) (dCons (dC (.ty "bool")) dNil))))))
def f_is_whole : Fn := mkFn n_is_whole.length b_is_whole
theorem c_is_whole : FnScope n_is_whole ["value"] (defScope (top 12)) := ⟨by kernel_rfl, by kernel_rfl, by kernel_rfl, d_is_whole, by kernel_rfl, by decide +kernel, by decide +kernel⟩
theorem s_is_whole {G : Glo} (h : Hy G) : PSsx ⟨G, 0, n_is_whole, defScope (top 12), fun _ => true, none, false⟩ (defBody (top 12)) b_is_whole := (pssx_one (psx_ret (pex_and (pex_bf (CallRx.or cx_isi (cx_isiN (IsiNo.add (IsiNo.add (IsiNo.add (h.isiNo1 0 1 17 (c := 2) rfl rfl rfl rfl) (h.isiNo1 3 4 18 (c := 3) rfl rfl rfl rfl)) (h.isiNo1 6 7 19 (c := 1) rfl rfl rfl rfl)) (h.isiNo1 9 10 20 (c := 0) rfl rfl rfl rfl)))) (by kernel_rfl) (h.free 14 rfl) (pax_cons (pex_v 0 (by kernel_rfl)) (pax_cons (pex_tyn (by kernel_rfl) (h.free 21 rfl)) pax_nil))) (pex_one (pex_not (pex_bf (CallRx.or cx_isi (cx_isiN (IsiNo.add (IsiNo.add (IsiNo.add (h.isiNo1 0 1 17 (c := 2) rfl rfl rfl rfl) (h.isiNo1 3 4 18 (c := 3) rfl rfl rfl rfl)) (h.isiNo1 6 7 19 (c := 1) rfl rfl rfl rfl)) (h.isiNo1 9 10 20 (c := 0) rfl rfl rfl rfl)))) (by kernel_rfl) (h.free 14 rfl) (pax_cons (pex_v 0 (by kernel_rfl)) (pax_cons (pex_tyn (by kernel_rfl) (h.free 22 rfl)) pax_nil))))))))
theorem i_is_whole {G : Glo} (h : Hy G) : FnIs G 1 "is_whole" 1 f_is_whole := h.fnIs 0 23 rfl rfl rfl c_is_whole rfl (fun _ _ _ _ _ _ us hl => match us, hl with | [_], _ => by kernel_rfl) (s_is_whole h)
/-! is_integer -/
def n_is_integer : List Str := ["value"]
theorem d_is_integer : n_is_integer.Nodup := by decide +kernel
def b_is_integer : DS := (sRet (dAndV (dCall f_is_whole (dCons (dVar 0) dNil)) (dChain oLtI oLtI (dUn oNeg (dC (.int (1000000000000000000000000000000000000000000000000000000000000)))) (dVar 0) (dC (.int (1000000000000000000000000000000000000000000000000000000000000))))))
def f_is_integer : Fn := mkFn n_is_integer.length b_is_integer
theorem c_is_integer : FnScope n_is_integer ["value"] (defScope (top 13)) := ⟨by kernel_rfl, by kernel_rfl, by kernel_rfl, d_is_integer, by kernel_rfl, by decide +kernel, by decide +kernel⟩
theorem s_is_integer {G : Glo} (h : Hy G) : PSsx ⟨G, 1, n_is_integer, defScope (top 13), fun _ => true, none, false⟩ (defBody (top 13)) b_is_integer := (pssx_one (psx_ret (pex_and (pex_cl (i_is_whole h) (by kernel_rfl) (by kernel_rfl) (pax_cons (pex_v 0 (by kernel_rfl)) pax_nil) (ln1 ln0)) (pex_one (pex_chain opx_ltI opx_ltI (pex_un unx_neg (pex_gi (by kernel_rfl) (h.int 24 rfl))) (pex_v 0 (by kernel_rfl)) (pex_gi (by kernel_rfl) (h.int 24 rfl)) rfl)))))
theorem i_is_integer {G : Glo} (h : Hy G) : FnIs G 2 "is_integer" 1 f_is_integer := h.fnIs 1 25 rfl rfl rfl c_is_integer rfl (fun _ _ _ _ _ _ us hl => match us, hl with | [_], _ => by kernel_rfl) (s_is_integer h)
/-! require_prime -/
def n_require_prime : List Str := ["value"]
theorem d_require_prime : n_require_prime.Nodup := by decide +kernel
def b_require_prime : DS := (sIf (tOr2 (tNot1 (dTst (dCall f_is_integer (dCons (dVar 0) dNil)))) (dTstB (dBin oNotIn (dVar 0) (dC (.tup (([(2), (3), (5), (7)] : List Int).map D.int)))))) (rX0 4) sNext)
def f_require_prime : Fn := mkFn n_require_prime.length b_require_prime
theorem c_require_prime : FnScope n_require_prime ["value"] (defScope (top 56)) := ⟨by kernel_rfl, by kernel_rfl, by kernel_rfl, d_require_prime, by kernel_rfl, by decide +kernel, by decide +kernel⟩
theorem s_require_prime {G : Glo} (h : Hy G) : PSsx ⟨G, 2, n_require_prime, defScope (top 56), fun _ => true, none, false⟩ (defBody (top 56)) b_require_prime := (pssx_one (psx_if (PWx.pt (pwx_or (ptx_not (ptx_truth (pex_cl (i_is_integer h) (by kernel_rfl) (by kernel_rfl) (pax_cons (pex_v 0 (by kernel_rfl)) pax_nil) (ln1 ln0)))) (pwx_or1 (ptx_cmp opx_notIn (pex_v 0 (by kernel_rfl)) (pex_gt (by kernel_rfl) (h.tup 26 rfl (by decide))) rfl)))) (pssx_one (psx_raise0 (h.x0 28 (c := 4) rfl rfl) (by kernel_rfl) (gc_of h 27 (c := 4) rfl rfl))) pssx_nil))
theorem i_require_prime {G : Glo} (h : Hy G) : FnIs G 3 "require_prime" 1 f_require_prime := h.fnIs 2 29 rfl rfl rfl c_require_prime rfl (fun _ _ _ _ _ _ us hl => match us, hl with | [_], _ => by kernel_rfl) (s_require_prime h)
theorem sh_InvalidCount : XsShape (defArgs (inner (top 8) 0)) (defBody (inner (top 8) 0)) (defScope (inner (top 8) 0)) "value" "value" "the number is out of its bounds" := xs_shape (by kernel_rfl) (by kernel_rfl) (by kernel_rfl) (by intros; kernel_rfl)
theorem x_InvalidCount {G : Glo} (h : Hy G) : XsC G.P G.K (G.ad 5) "value" "value" "the number is out of its bounds" := h.xs 31 3 (b := .idx) (x := "InvalidCount") rfl rfl rfl rfl sh_InvalidCount
/-! require_to -/
def n_require_to : List Str := ["value", "most"]
theorem d_require_to : n_require_to.Nodup := by decide +kernel
def b_require_to : DS := (sIf (tOr2 (tNot1 (dTst (dCall f_is_integer (dCons (dVar 0) dNil)))) (tNot1 (dTstB (dChain oLeI oLeI (dC (.int 0)) (dVar 0) (dVar 1))))) (rX1 5 "value" (dVar 0)) sNext)
def f_require_to : Fn := mkFn n_require_to.length b_require_to
theorem c_require_to : FnScope n_require_to ["value", "most"] (defScope (top 57)) := ⟨by kernel_rfl, by kernel_rfl, by kernel_rfl, d_require_to, by kernel_rfl, by decide +kernel, by decide +kernel⟩
theorem s_require_to {G : Glo} (h : Hy G) : PSsx ⟨G, 2, n_require_to, defScope (top 57), fun _ => true, none, false⟩ (defBody (top 57)) b_require_to := (pssx_one (psx_if (PWx.pt (pwx_or (ptx_not (ptx_truth (pex_cl (i_is_integer h) (by kernel_rfl) (by kernel_rfl) (pax_cons (pex_v 0 (by kernel_rfl)) pax_nil) (ln1 ln0)))) (pwx_or1 (ptx_not (ptx_chain opx_leI opx_leI pex_int (pex_v 0 (by kernel_rfl)) (pex_v 1 (by kernel_rfl)) rfl))))) (pssx_one (psx_raise1 (x_InvalidCount h) (by kernel_rfl) (gc_of h 30 (c := 5) rfl rfl) (h.free 32 rfl) (htop h (by kernel_rfl)) (by kernel_rfl) (pex_v 0 (by kernel_rfl)))) pssx_nil))
theorem i_require_to {G : Glo} (h : Hy G) : FnIs G 3 "require_to" 2 f_require_to := h.fnIs 4 33 rfl rfl rfl c_require_to rfl (fun _ _ _ _ _ _ us hl => match us, hl with | [_, _], _ => by kernel_rfl) (s_require_to h)
/-! is_residue -/
def n_is_residue : List Str := ["prime", "value"]
theorem d_is_residue : n_is_residue.Nodup := by decide +kernel
def b_is_residue : DS := (sRet (dAndV (dCall f_is_integer (dCons (dVar 1) dNil)) (dChain oLeI oLtI (dC (.int 0)) (dVar 1) (dVar 0))))
def f_is_residue : Fn := mkFn n_is_residue.length b_is_residue
theorem c_is_residue : FnScope n_is_residue ["prime", "value"] (defScope (top 58)) := ⟨by kernel_rfl, by kernel_rfl, by kernel_rfl, d_is_residue, by kernel_rfl, by decide +kernel, by decide +kernel⟩
theorem s_is_residue {G : Glo} (h : Hy G) : PSsx ⟨G, 2, n_is_residue, defScope (top 58), fun _ => true, none, false⟩ (defBody (top 58)) b_is_residue := (pssx_one (psx_ret (pex_and (pex_cl (i_is_integer h) (by kernel_rfl) (by kernel_rfl) (pax_cons (pex_v 1 (by kernel_rfl)) pax_nil) (ln1 ln0)) (pex_one (pex_chain opx_leI opx_ltI pex_int (pex_v 1 (by kernel_rfl)) (pex_v 0 (by kernel_rfl)) rfl)))))
theorem i_is_residue {G : Glo} (h : Hy G) : FnIs G 3 "is_residue" 2 f_is_residue := h.fnIs 5 37 rfl rfl rfl c_is_residue rfl (fun _ _ _ _ _ _ us hl => match us, hl with | [_, _], _ => by kernel_rfl) (s_is_residue h)
/-! is_column -/
def n_is_column : List Str := ["prime", "height", "value", "entry"]
theorem d_is_column : n_is_column.Nodup := by decide +kernel
def b_is_column : DS := (sRet (dAndV (dCallB (orB bIsi (bIsiN [2, 3, 1, 0])) (dCons (dVar 2) (dCons (dC (.ty "tuple")) dNil))) (dAndV (dBin oEq (dCallB (b1 fLen) (dCons (dVar 2) dNil)) (dVar 1)) (dCallB (b1 fAll) (dCons (dLc (iSeq (dVar 2)) (gNm 3) tYes1 (dCall f_is_residue (dCons (dVar 0) (dCons (dVar 3) dNil))) ([("entry", 3)].map (·.2))) dNil)))))
def f_is_column : Fn := mkFn n_is_column.length b_is_column
theorem c_is_column : FnScope n_is_column ["prime", "height", "value"] (defScope (top 59)) := ⟨by kernel_rfl, by kernel_rfl, by kernel_rfl, d_is_column, by kernel_rfl, by decide +kernel, by decide +kernel⟩
theorem s_is_column {G : Glo} (h : Hy G) : PSsx ⟨G, 3, n_is_column, defScope (top 59), fun _ => true, none, false⟩ (defBody (top 59)) b_is_column := (pssx_one (psx_ret (pex_and (pex_bf (CallRx.or cx_isi (cx_isiN (IsiNo.add (IsiNo.add (IsiNo.add (h.isiNo1 0 1 17 (c := 2) rfl rfl rfl rfl) (h.isiNo1 3 4 18 (c := 3) rfl rfl rfl rfl)) (h.isiNo1 6 7 19 (c := 1) rfl rfl rfl rfl)) (h.isiNo1 9 10 20 (c := 0) rfl rfl rfl rfl)))) (by kernel_rfl) (h.free 14 rfl) (pax_cons (pex_v 2 (by kernel_rfl)) (pax_cons (pex_tyn (by kernel_rfl) (h.free 35 rfl)) pax_nil))) (pex_and (pex_cmp opx_eq (pex_bf cx_len (by kernel_rfl) (h.free 36 rfl) (pax_cons (pex_v 2 (by kernel_rfl)) pax_nil)) (pex_v 1 (by kernel_rfl)) rfl) (pex_one (pex_bf cx_all (by kernel_rfl) (h.free 38 rfl) (pax_cons (pex_lc d_is_column (pix_seq (pex_v 2 (by kernel_rfl))) (own := [("entry", 3)]) (by kernel_rfl) (pgx_v d_is_column 3 (by kernel_rfl)) ptsx_nil (pex_cl (i_is_residue h) (by kernel_rfl) (by kernel_rfl) (pax_cons (pex_v 0 (by kernel_rfl)) (pax_cons (pex_v 3 (by kernel_rfl)) pax_nil)) (ln1 (ln1 ln0))) (by decide)) pax_nil)))))))
theorem i_is_column {G : Glo} (h : Hy G) : FnIs G 4 "is_column" 3 f_is_column := h.fnIs 6 39 rfl rfl rfl c_is_column rfl (fun _ _ _ _ _ _ us hl => match us, hl with | [_, _, _], _ => by kernel_rfl) (s_is_column h)
/-! are_rows -/
def n_are_rows : List Str := ["prime", "height", "width", "value", "row"]
theorem d_are_rows : n_are_rows.Nodup := by decide +kernel
def b_are_rows : DS := (sRet (dAndV (dCallB (orB bIsi (bIsiN [2, 3, 1, 0])) (dCons (dVar 3) (dCons (dC (.ty "tuple")) dNil))) (dAndV (dBin oEq (dCallB (b1 fLen) (dCons (dVar 3) dNil)) (dVar 1)) (dCallB (b1 fAll) (dCons (dLc (iSeq (dVar 3)) (gNm 4) tYes1 (dCall f_is_column (dCons (dVar 0) (dCons (dVar 2) (dCons (dVar 4) dNil)))) ([("row", 4)].map (·.2))) dNil)))))
def f_are_rows : Fn := mkFn n_are_rows.length b_are_rows
theorem c_are_rows : FnScope n_are_rows ["prime", "height", "width", "value"] (defScope (top 60)) := ⟨by kernel_rfl, by kernel_rfl, by kernel_rfl, d_are_rows, by kernel_rfl, by decide +kernel, by decide +kernel⟩
theorem s_are_rows {G : Glo} (h : Hy G) : PSsx ⟨G, 4, n_are_rows, defScope (top 60), fun _ => true, none, false⟩ (defBody (top 60)) b_are_rows := (pssx_one (psx_ret (pex_and (pex_bf (CallRx.or cx_isi (cx_isiN (IsiNo.add (IsiNo.add (IsiNo.add (h.isiNo1 0 1 17 (c := 2) rfl rfl rfl rfl) (h.isiNo1 3 4 18 (c := 3) rfl rfl rfl rfl)) (h.isiNo1 6 7 19 (c := 1) rfl rfl rfl rfl)) (h.isiNo1 9 10 20 (c := 0) rfl rfl rfl rfl)))) (by kernel_rfl) (h.free 14 rfl) (pax_cons (pex_v 3 (by kernel_rfl)) (pax_cons (pex_tyn (by kernel_rfl) (h.free 35 rfl)) pax_nil))) (pex_and (pex_cmp opx_eq (pex_bf cx_len (by kernel_rfl) (h.free 36 rfl) (pax_cons (pex_v 3 (by kernel_rfl)) pax_nil)) (pex_v 1 (by kernel_rfl)) rfl) (pex_one (pex_bf cx_all (by kernel_rfl) (h.free 38 rfl) (pax_cons (pex_lc d_are_rows (pix_seq (pex_v 3 (by kernel_rfl))) (own := [("row", 4)]) (by kernel_rfl) (pgx_v d_are_rows 4 (by kernel_rfl)) ptsx_nil (pex_cl (i_is_column h) (by kernel_rfl) (by kernel_rfl) (pax_cons (pex_v 0 (by kernel_rfl)) (pax_cons (pex_v 2 (by kernel_rfl)) (pax_cons (pex_v 4 (by kernel_rfl)) pax_nil))) (ln1 (ln1 (ln1 ln0)))) (by decide)) pax_nil)))))))
theorem i_are_rows {G : Glo} (h : Hy G) : FnIs G 5 "are_rows" 4 f_are_rows := h.fnIs 7 40 rfl rfl rfl c_are_rows rfl (fun _ _ _ _ _ _ us hl => match us, hl with | [_, _, _, _], _ => by kernel_rfl) (s_are_rows h)
/-! rows_told -/
def n_rows_told : List Str := ["prime", "height", "width", "rows"]
theorem d_rows_told : n_rows_told.Nodup := by decide +kernel
def b_rows_told : DS := (sSeq (sIf (dTst (dCallB (bIsiC 1 [2, 3, 1, 0]) (dCons (dVar 3) (dCons (dC (.st 1)) dNil)))) (sRet (dFld [(1, 0), (0, 3)] (dVar 3))) sNext) (sSeq (sExpr (dCall f_require_prime (dCons (dVar 0) dNil))) (sSeq (sExpr (dCall f_require_to (dCons (dVar 1) (dCons (dC (.int (36))) dNil)))) (sSeq (sExpr (dCall f_require_to (dCons (dVar 2) (dCons (dC (.int (36))) dNil)))) (sSeq (sIf (tNot1 (dTst (dCall f_are_rows (dCons (dVar 0) (dCons (dVar 1) (dCons (dVar 2) (dCons (dVar 3) dNil))))))) (rX0 6) sNext) (sRet (dVar 3)))))))
def f_rows_told : Fn := mkFn n_rows_told.length b_rows_told
theorem c_rows_told : FnScope n_rows_told ["prime", "height", "width", "rows"] (defScope (top 62)) := ⟨by kernel_rfl, by kernel_rfl, by kernel_rfl, d_rows_told, by kernel_rfl, by decide +kernel, by decide +kernel⟩
theorem s_rows_told {G : Glo} (h : Hy G) : PSsx ⟨G, 5, n_rows_told, defScope (top 62), fun _ => true, none, false⟩ (defBody (top 62)) b_rows_told := (pssx_cons (psx_if (ptx_truth (pex_bf (cx_isiC (IsiIs.add (IsiIs.add (IsiIs.add (h.isi1 12 rfl rfl (h.isiOne 9 10 11 (c := 1) (c' := 0) rfl rfl rfl rfl rfl rfl)) (h.isiOne 6 7 8 (c := 1) (c' := 1) rfl rfl rfl rfl rfl rfl)) (h.isiOne 3 4 5 (c := 1) (c' := 3) rfl rfl rfl rfl rfl rfl)) (h.isiOne 0 1 2 (c := 1) (c' := 2) rfl rfl rfl rfl rfl rfl))) (by kernel_rfl) (h.free 14 rfl) (pax_cons (pex_v 3 (by kernel_rfl)) (pax_cons (pex_gc (by kernel_rfl) (gc_of h 13 (c := 1) rfl rfl)) pax_nil)))) (pssx_one (psx_ret (pex_fld ((h.fld1 6 15 (c := 1) rfl rfl rfl).cons (h.fld1 9 16 (c := 0) rfl rfl rfl)) (pex_v 3 (by kernel_rfl))))) pssx_nil) (pssx_cons (psx_expr (pex_cl (i_require_prime h) (by kernel_rfl) (by kernel_rfl) (pax_cons (pex_v 0 (by kernel_rfl)) pax_nil) (ln1 ln0))) (pssx_cons (psx_expr (pex_cl (i_require_to h) (by kernel_rfl) (by kernel_rfl) (pax_cons (pex_v 1 (by kernel_rfl)) (pax_cons (pex_gi (by kernel_rfl) (h.int 34 rfl)) pax_nil)) (ln1 (ln1 ln0)))) (pssx_cons (psx_expr (pex_cl (i_require_to h) (by kernel_rfl) (by kernel_rfl) (pax_cons (pex_v 2 (by kernel_rfl)) (pax_cons (pex_gi (by kernel_rfl) (h.int 34 rfl)) pax_nil)) (ln1 (ln1 ln0)))) (pssx_cons (psx_if (ptx_not (ptx_truth (pex_cl (i_are_rows h) (by kernel_rfl) (by kernel_rfl) (pax_cons (pex_v 0 (by kernel_rfl)) (pax_cons (pex_v 1 (by kernel_rfl)) (pax_cons (pex_v 2 (by kernel_rfl)) (pax_cons (pex_v 3 (by kernel_rfl)) pax_nil)))) (ln1 (ln1 (ln1 (ln1 ln0))))))) (pssx_one (psx_raise0 (h.x0 42 (c := 6) rfl rfl) (by kernel_rfl) (gc_of h 41 (c := 6) rfl rfl))) pssx_nil) (pssx_one (psx_ret (pex_v 3 (by kernel_rfl)))))))))
theorem i_rows_told {G : Glo} (h : Hy G) : FnIs G 6 "rows_told" 4 f_rows_told := h.fnIs 8 43 rfl rfl rfl c_rows_told rfl (fun _ _ _ _ _ _ us hl => match us, hl with | [_, _, _, _], _ => by kernel_rfl) (s_rows_told h)
/-! less_row -/
def n_less_row : List Str := ["prime", "row", "number", "other", "entry", "more"]
theorem d_less_row : n_less_row.Nodup := by decide +kernel
def b_less_row : DS := (sRet (dLc (iZip (dCons (dVar 1) (dCons (dVar 3) dNil))) (gTup 2 (gCons (gNm 4) (gCons (gNm 5) gNil))) tYes1 (dBin oModI (dBin oSubI (dVar 4) (dBin oMulA (dVar 2) (dVar 5))) (dVar 0)) ([("entry", 4), ("more", 5)].map (·.2))))
def f_less_row : Fn := mkFn n_less_row.length b_less_row
theorem c_less_row : FnScope n_less_row ["prime", "row", "number", "other"] (defScope (top 22)) := ⟨by kernel_rfl, by kernel_rfl, by kernel_rfl, d_less_row, by kernel_rfl, by decide +kernel, by decide +kernel⟩
theorem s_less_row {G : Glo} (h : Hy G) : PSsx ⟨G, 0, n_less_row, defScope (top 22), fun _ => true, none, false⟩ (defBody (top 22)) b_less_row := (pssx_one (psx_ret (pex_lc d_less_row (pix_zip (by kernel_rfl) (h.free 48 rfl) (pax_cons (pex_v 1 (by kernel_rfl)) (pax_cons (pex_v 3 (by kernel_rfl)) pax_nil))) (own := [("entry", 4), ("more", 5)]) (by kernel_rfl) (pgx_tup (pgsx_cons (pgx_v d_less_row 4 (by kernel_rfl)) (pgsx_cons (pgx_v d_less_row 5 (by kernel_rfl)) pgsx_nil))) ptsx_nil (pex_op opx_modI (pex_op opx_subI (pex_v 4 (by kernel_rfl)) (pex_op opx_mulA (pex_v 2 (by kernel_rfl)) (pex_v 5 (by kernel_rfl)))) (pex_v 0 (by kernel_rfl))) (by decide))))
theorem i_less_row {G : Glo} (h : Hy G) : FnIs G 1 "less_row" 4 f_less_row := h.fnIs 9 49 rfl rfl rfl c_less_row rfl (fun _ _ _ _ _ _ us hl => match us, hl with | [_, _, _, _], _ => by kernel_rfl) (s_less_row h)
/-! lead_of -/
def n_lead_of : List Str := ["row", "at", "entry"]
theorem d_lead_of : n_lead_of.Nodup := by decide +kernel
def b_lead_of : DS := (sRet (dNextE (dVar 0)))
def f_lead_of : Fn := mkFn n_lead_of.length b_lead_of
theorem c_lead_of : FnScope n_lead_of ["row"] (defScope (top 21)) := ⟨by kernel_rfl, by kernel_rfl, by kernel_rfl, d_lead_of, by kernel_rfl, by decide +kernel, by decide +kernel⟩
theorem s_lead_of {G : Glo} (h : Hy G) : PSsx ⟨G, 0, n_lead_of, defScope (top 21), fun _ => true, some (("lead_of" : Str) ++ (".<locals>." : Str), codeF G.K ((fun K => ga K "lead_of") G.K)), false⟩ (defBody (top 21)) b_lead_of := (pssx_one (psx_ret (pex_next rfl (h.tbOk 0 50 rfl rfl) (by kernel_rfl) (by kernel_rfl) (h.free 51 rfl) (by kernel_rfl) (h.free 52 rfl) (pex_v 0 (by kernel_rfl)))))
theorem i_lead_of {G : Glo} (h : Hy G) : FnIs G 1 "lead_of" 1 f_lead_of := h.fnIsC 10 53 rfl rfl rfl c_lead_of rfl (fun _ _ _ _ _ _ us hl => match us, hl with | [_], _ => by kernel_rfl) (s_lead_of h)
/-! inverse_in -/
def n_inverse_in : List Str := ["prime", "number", "found", "factor", "left"]
theorem d_inverse_in : n_inverse_in.Nodup := by decide +kernel
def b_inverse_in : DS := (sSeq (sAsg (dTup (dCons (dC (.int 1)) (dCons (dBin oModI (dVar 1) (dVar 0)) (dCons (dBin oSubI (dVar 0) (dC (.int 2))) dNil)))) (gTup 3 (gCons (gNm 2) (gCons (gNm 3) (gCons (gNm 4) gNil))))) (sSeq (sWhile (dTstB (dBin oGtI (dVar 4) (dC (.int 0)))) (sSeq (sIf (dTstB (dBin oEq (dBin oModI (dVar 4) (dC (.int 2))) (dC (.int 1)))) (sAsg (dBin oModI (dBin oMulA (dVar 2) (dVar 3)) (dVar 0)) (gNm 2)) sNext) (sAsg (dTup (dCons (dBin oModI (dBin oMulA (dVar 3) (dVar 3)) (dVar 0)) (dCons (dBin oDivI (dVar 4) (dC (.int 2))) dNil))) (gTup 2 (gCons (gNm 3) (gCons (gNm 4) gNil)))))) (sRet (dVar 2))))
def f_inverse_in : Fn := mkFn n_inverse_in.length b_inverse_in
theorem c_inverse_in : FnScope n_inverse_in ["prime", "number"] (defScope (top 20)) := ⟨by kernel_rfl, by kernel_rfl, by kernel_rfl, d_inverse_in, by kernel_rfl, by decide +kernel, by decide +kernel⟩
theorem s_inverse_in {G : Glo} (h : Hy G) : PSsx ⟨G, 0, n_inverse_in, defScope (top 20), fun _ => true, none, false⟩ (defBody (top 20)) b_inverse_in := (pssx_cons (psx_par3 (i := 2) (j := 3) (l := 4) d_inverse_in (by kernel_rfl) (by kernel_rfl) (by kernel_rfl) (by decide) (by decide) (by decide) (by kernel_rfl) (by kernel_rfl) (by kernel_rfl) (pax_cons pex_int (pax_cons (pex_op opx_modI (pex_v 1 (by kernel_rfl)) (pex_v 0 (by kernel_rfl))) (pax_cons (pex_op opx_subI (pex_v 0 (by kernel_rfl)) pex_int) pax_nil))) (fun env he => by cases env; dsimp only at he; subst he; kernel_rfl)) (pssx_cons (psx_while (ptx_cmp opx_gtI (pex_v 4 (by kernel_rfl)) pex_int rfl) (pssx_cons (psx_if (ptx_cmp opx_eq (pex_op opx_modI (pex_v 4 (by kernel_rfl)) pex_int) pex_int rfl) (pssx_one (psx_asg (pex_op opx_modI (pex_op opx_mulA (pex_v 2 (by kernel_rfl)) (pex_v 3 (by kernel_rfl))) (pex_v 0 (by kernel_rfl))) (pgx_v d_inverse_in 2 (by kernel_rfl)))) pssx_nil) (pssx_one (psx_par (i := 3) (j := 4) d_inverse_in (by kernel_rfl) (by kernel_rfl) (by decide) (by kernel_rfl) (by kernel_rfl) (pax_cons (pex_op opx_modI (pex_op opx_mulA (pex_v 3 (by kernel_rfl)) (pex_v 3 (by kernel_rfl))) (pex_v 0 (by kernel_rfl))) (pax_cons (pex_op opx_divI (pex_v 4 (by kernel_rfl)) pex_int) pax_nil)) (fun env he => by cases env; dsimp only at he; subst he; kernel_rfl))))) (pssx_one (psx_ret (pex_v 2 (by kernel_rfl))))))
theorem i_inverse_in {G : Glo} (h : Hy G) : FnIs G 1 "inverse_in" 2 f_inverse_in := h.fnIs 11 54 rfl rfl rfl c_inverse_in rfl (fun _ _ _ _ _ _ us hl => match us, hl with | [_, _], _ => by kernel_rfl) (s_inverse_in h)
/-! stepped -/
def n_stepped : List Str := ["prime", "rows", "found", "leads", "row", "line", "lead", "other", "factor", "place", "entry", "one"]
theorem d_stepped : n_stepped.Nodup := by decide +kernel
def b_stepped : DS := (sSeq (sAsg (dTup (dCons (dLst dNil) (dCons (dLst dNil) dNil))) (gTup 2 (gCons (gNm 2) (gCons (gNm 3) gNil)))) (sSeq (sFor (iSeq (dVar 1)) (gNm 4) (sSeq (sAsg (dCallB (b1 fList) (dCons (dVar 4) dNil)) (gNm 5)) (sSeq (sFor (iZip (dCons (dVar 3) (dCons (dVar 2) dNil))) (gTup 2 (gCons (gNm 6) (gCons (gNm 7) gNil))) (sIf (dTstB (dBin oNe (dBin oIx (dVar 5) (dVar 6)) (dC (.int 0)))) (sAsg (dCall f_less_row (dCons (dVar 0) (dCons (dVar 5) (dCons (dBin oIx (dVar 5) (dVar 6)) (dCons (dVar 7) dNil))))) (gNm 5)) sNext)) (sSeq (sAsg (dCall f_lead_of (dCons (dVar 5) dNil)) (gNm 6)) (sIf (dTstB (dBin oNotN (dVar 6) (dC .non))) (sSeq (sAsg (dCall f_inverse_in (dCons (dVar 0) (dCons (dBin oIx (dVar 5) (dVar 6)) dNil))) (gNm 8)) (sSeq (sAsg (dLc (iSeq (dVar 5)) (gNm 10) tYes1 (dBin oModI (dBin oMulA (dVar 10) (dVar 8)) (dVar 0)) ([("entry", 10)].map (·.2))) (gNm 5)) (sSeq (sAsg (dLc (iSeq (dVar 2)) (gNm 7) tYes1 (dIf (dTstB (dBin oNe (dBin oIx (dVar 7) (dVar 6)) (dC (.int 0)))) (dCall f_less_row (dCons (dVar 0) (dCons (dVar 7) (dCons (dBin oIx (dVar 7) (dVar 6)) (dCons (dVar 5) dNil))))) (dVar 7)) ([("other", 7)].map (·.2))) (gNm 2)) (sSeq (sAsg (dCallB (b1 fLen) (dCons (dLc (iSeq (dVar 3)) (gNm 11) (dTstB (dBin oLtI (dVar 11) (dVar 6))) (dVar 11) ([("one", 11)].map (·.2))) dNil)) (gNm 9)) (sSeq (sExpr (dMeth isL mInsert (dVar 2) (dCons (dVar 9) (dCons (dVar 5) dNil)))) (sExpr (dMeth isL mInsert (dVar 3) (dCons (dVar 9) (dCons (dVar 6) dNil))))))))) sNext))))) (sRet (dVar 2))))
def f_stepped : Fn := mkFn n_stepped.length b_stepped
theorem c_stepped : FnScope n_stepped ["prime", "rows"] (defScope (top 23)) := ⟨by kernel_rfl, by kernel_rfl, by kernel_rfl, d_stepped, by kernel_rfl, by decide +kernel, by decide +kernel⟩
theorem s_stepped {G : Glo} (h : Hy G) : PSsx ⟨G, 1, n_stepped, defScope (top 23), fun _ => true, none, false⟩ (defBody (top 23)) b_stepped := (pssx_cons (psx_par (i := 2) (j := 3) d_stepped (by kernel_rfl) (by kernel_rfl) (by decide) (by kernel_rfl) (by kernel_rfl) (pax_cons (pex_lst pax_nil) (pax_cons (pex_lst pax_nil) pax_nil)) (fun env he => by cases env; dsimp only at he; subst he; kernel_rfl)) (pssx_cons (psx_for (pix_seq (pex_v 1 (by kernel_rfl))) (pgx_v d_stepped 4 (by kernel_rfl)) (pssx_cons (psx_asg (pex_bt cx_list (by kernel_rfl) (h.free 47 rfl) (pax_cons (pex_v 4 (by kernel_rfl)) pax_nil)) (pgx_v d_stepped 5 (by kernel_rfl))) (pssx_cons (psx_for (pix_zip (by kernel_rfl) (h.free 48 rfl) (pax_cons (pex_v 3 (by kernel_rfl)) (pax_cons (pex_v 2 (by kernel_rfl)) pax_nil))) (pgx_tup (pgsx_cons (pgx_v d_stepped 6 (by kernel_rfl)) (pgsx_cons (pgx_v d_stepped 7 (by kernel_rfl)) pgsx_nil))) (pssx_one (psx_if (ptx_cmp opx_ne (pex_ix (pex_v 5 (by kernel_rfl)) (pex_v 6 (by kernel_rfl))) pex_int rfl) (pssx_one (psx_asg (pex_cl (i_less_row h) (by kernel_rfl) (by kernel_rfl) (pax_cons (pex_v 0 (by kernel_rfl)) (pax_cons (pex_v 5 (by kernel_rfl)) (pax_cons (pex_ix (pex_v 5 (by kernel_rfl)) (pex_v 6 (by kernel_rfl))) (pax_cons (pex_v 7 (by kernel_rfl)) pax_nil)))) (ln1 (ln1 (ln1 (ln1 ln0))))) (pgx_v d_stepped 5 (by kernel_rfl)))) pssx_nil))) (pssx_cons (psx_asg (pex_cl (i_lead_of h) (by kernel_rfl) (by kernel_rfl) (pax_cons (pex_v 5 (by kernel_rfl)) pax_nil) (ln1 ln0)) (pgx_v d_stepped 6 (by kernel_rfl))) (pssx_one (psx_if (ptx_cmp opx_notN (pex_v 6 (by kernel_rfl)) pex_non rfl) (pssx_cons (psx_asg (pex_cl (i_inverse_in h) (by kernel_rfl) (by kernel_rfl) (pax_cons (pex_v 0 (by kernel_rfl)) (pax_cons (pex_ix (pex_v 5 (by kernel_rfl)) (pex_v 6 (by kernel_rfl))) pax_nil)) (ln1 (ln1 ln0))) (pgx_v d_stepped 8 (by kernel_rfl))) (pssx_cons (psx_asgS (pex_lc d_stepped (pix_seq (pex_v 5 (by kernel_rfl))) (own := [("entry", 10)]) (by kernel_rfl) (pgx_v d_stepped 10 (by kernel_rfl)) ptsx_nil (pex_op opx_modI (pex_op opx_mulA (pex_v 10 (by kernel_rfl)) (pex_v 8 (by kernel_rfl))) (pex_v 0 (by kernel_rfl))) (by decide)) (pgx_v d_stepped 5 (by kernel_rfl)) (swaps_cell (by kernel_rfl)) (fun _ _ => rfl)) (pssx_cons (psx_setLc 2 d_stepped (by kernel_rfl) (by kernel_rfl) (pix_seq (pex_v 2 (by kernel_rfl))) (own := [("other", 7)]) (by kernel_rfl) (pgx_v d_stepped 7 (by kernel_rfl)) ptsx_nil (pex_if (ptx_cmp opx_ne (pex_ix (pex_v 7 (by kernel_rfl)) (pex_v 6 (by kernel_rfl))) pex_int rfl) (pex_cl (i_less_row h) (by kernel_rfl) (by kernel_rfl) (pax_cons (pex_v 0 (by kernel_rfl)) (pax_cons (pex_v 7 (by kernel_rfl)) (pax_cons (pex_ix (pex_v 7 (by kernel_rfl)) (pex_v 6 (by kernel_rfl))) (pax_cons (pex_v 5 (by kernel_rfl)) pax_nil)))) (ln1 (ln1 (ln1 (ln1 ln0))))) (pex_v 7 (by kernel_rfl))) (by decide) (by kernel_rfl) (by kernel_rfl) (by kernel_rfl)) (pssx_cons (psx_asg (pex_bf cx_len (by kernel_rfl) (h.free 36 rfl) (pax_cons (pex_lc d_stepped (pix_seq (pex_v 3 (by kernel_rfl))) (own := [("one", 11)]) (by kernel_rfl) (pgx_v d_stepped 11 (by kernel_rfl)) (ptsx_one (ptx_cmp opx_ltI (pex_v 11 (by kernel_rfl)) (pex_v 6 (by kernel_rfl)) rfl)) (pex_v 11 (by kernel_rfl)) (by decide)) pax_nil)) (pgx_v d_stepped 9 (by kernel_rfl))) (pssx_cons (psx_expr (pex_bm PySem.F.plainAttrs_list PySem.F.slot_list_insert PySem.F.type_list_insert mtx_insert hckL (pex_v 2 (by kernel_rfl)) (pax_cons (pex_v 9 (by kernel_rfl)) (pax_cons (pex_v 5 (by kernel_rfl)) pax_nil)))) (pssx_one (psx_expr (pex_bm PySem.F.plainAttrs_list PySem.F.slot_list_insert PySem.F.type_list_insert mtx_insert hckL (pex_v 3 (by kernel_rfl)) (pax_cons (pex_v 9 (by kernel_rfl)) (pax_cons (pex_v 6 (by kernel_rfl)) pax_nil)))))))))) pssx_nil)))))) (pssx_one (psx_ret (pex_v 2 (by kernel_rfl))))))
theorem i_stepped {G : Glo} (h : Hy G) : FnIs G 2 "stepped" 2 f_stepped := h.fnIs 12 55 rfl rfl rfl c_stepped rfl (fun _ _ _ _ _ _ us hl => match us, hl with | [_, _], _ => by kernel_rfl) (s_stepped h)
/-! raw_rank -/
def n_raw_rank : List Str := ["prime", "rows"]
theorem d_raw_rank : n_raw_rank.Nodup := by decide +kernel
def b_raw_rank : DS := (sRet (dCallB (b1 fLen) (dCons (dCall f_stepped (dCons (dVar 0) (dCons (dVar 1) dNil))) dNil)))
def f_raw_rank : Fn := mkFn n_raw_rank.length b_raw_rank
theorem c_raw_rank : FnScope n_raw_rank ["prime", "rows"] (defScope (top 25)) := ⟨by kernel_rfl, by kernel_rfl, by kernel_rfl, d_raw_rank, by kernel_rfl, by decide +kernel, by decide +kernel⟩
theorem s_raw_rank {G : Glo} (h : Hy G) : PSsx ⟨G, 2, n_raw_rank, defScope (top 25), fun _ => true, none, false⟩ (defBody (top 25)) b_raw_rank := (pssx_one (psx_ret (pex_bf cx_len (by kernel_rfl) (h.free 36 rfl) (pax_cons (pex_cl (i_stepped h) (by kernel_rfl) (by kernel_rfl) (pax_cons (pex_v 0 (by kernel_rfl)) (pax_cons (pex_v 1 (by kernel_rfl)) pax_nil)) (ln1 (ln1 ln0))) pax_nil))))
theorem i_raw_rank {G : Glo} (h : Hy G) : FnIs G 3 "raw_rank" 2 f_raw_rank := h.fnIs 13 56 rfl rfl rfl c_raw_rank rfl (fun _ _ _ _ _ _ us hl => match us, hl with | [_, _], _ => by kernel_rfl) (s_raw_rank h)
/-! Table.__init__ -/
def n_Table___init__ : List Str := ["self", "prime", "height", "width", "rows"]
theorem d_Table___init__ : n_Table___init__.Nodup := by decide +kernel
def b_Table___init__ : DS := (sSeq (sFld [(1, 0), (0, 3)] (dVar 0) (dCall f_rows_told (dCons (dVar 1) (dCons (dVar 2) (dCons (dVar 3) (dCons (dVar 4) dNil)))))) (sSeq (sFld [(0, 1)] (dVar 0) (dVar 1)) (sSeq (sFld [(0, 0)] (dVar 0) (dVar 2)) (sSeq (sFld [(0, 4)] (dVar 0) (dVar 3)) (sFld [(0, 2)] (dVar 0) (dCall f_raw_rank (dCons (dVar 1) (dCons (dFld [(1, 0), (0, 3)] (dVar 0)) dNil))))))))
def f_Table___init__ : Fn := mkFn n_Table___init__.length b_Table___init__
theorem c_Table___init__ : FnScope n_Table___init__ ["self", "prime", "height", "width", "rows"] (defScope (inner (top 63) 1)) := ⟨by kernel_rfl, by kernel_rfl, by kernel_rfl, d_Table___init__, by kernel_rfl, by decide +kernel, by decide +kernel⟩
theorem s_Table___init__ {G : Glo} (h : Hy G) : PSsx ⟨G, 6, n_Table___init__, defScope (inner (top 63) 1), fun _ => true, none, false⟩ (defBody (inner (top 63) 1)) b_Table___init__ := (pssx_cons (psx_fld ((h.fld1 6 15 (c := 1) rfl rfl rfl).cons (h.fld1 9 16 (c := 0) rfl rfl rfl)) (pex_v 0 (by kernel_rfl)) (pex_cl (i_rows_told h) (by kernel_rfl) (by kernel_rfl) (pax_cons (pex_v 1 (by kernel_rfl)) (pax_cons (pex_v 2 (by kernel_rfl)) (pax_cons (pex_v 3 (by kernel_rfl)) (pax_cons (pex_v 4 (by kernel_rfl)) pax_nil)))) (ln1 (ln1 (ln1 (ln1 ln0)))))) (pssx_cons (psx_fld (h.fld1 9 44 (c := 0) rfl rfl rfl) (pex_v 0 (by kernel_rfl)) (pex_v 1 (by kernel_rfl))) (pssx_cons (psx_fld (h.fld1 9 45 (c := 0) rfl rfl rfl) (pex_v 0 (by kernel_rfl)) (pex_v 2 (by kernel_rfl))) (pssx_cons (psx_fld (h.fld1 9 46 (c := 0) rfl rfl rfl) (pex_v 0 (by kernel_rfl)) (pex_v 3 (by kernel_rfl))) (pssx_one (psx_fld (h.fld1 9 57 (c := 0) rfl rfl rfl) (pex_v 0 (by kernel_rfl)) (pex_cl (i_raw_rank h) (by kernel_rfl) (by kernel_rfl) (pax_cons (pex_v 1 (by kernel_rfl)) (pax_cons (pex_fld ((h.fld1 6 15 (c := 1) rfl rfl rfl).cons (h.fld1 9 16 (c := 0) rfl rfl rfl)) (pex_v 0 (by kernel_rfl))) pax_nil)) (ln1 (ln1 ln0)))))))))
theorem a_Table___init__ {G : Glo} (h : Hy G) : FnA G 7 (ma G.K (ga G.K "Table") "__init__") 5 f_Table___init__ := h.fnA 14 rfl c_Table___init__ rfl (fun _ _ _ _ _ _ us hl => match us, hl with | [_, _, _, _, _], _ => by kernel_rfl) (s_Table___init__ h)
theorem i_Table___init__ {G : Glo} (h : Hy G) : MkIs G 7 0 "Table" 5 f_Table___init__ := h.mkI 58 59 rfl rfl rfl (a_Table___init__ h)
/-! Table.__eq__ -/
def n_Table___eq__ : List Str := ["self", "other"]
theorem d_Table___eq__ : n_Table___eq__.Nodup := by decide +kernel
def b_Table___eq__ : DS := (sSeq (sIf (tOr2 (tNot1 (dTst (dCallB (bIsiC 0 [2, 3, 1, 0]) (dCons (dVar 1) (dCons (dC (.st 0)) dNil))))) (tOr2 (dTstB (dBin oNe (dFld [(0, 1)] (dVar 0)) (dFld [(0, 1)] (dVar 1)))) (dTstB (dBin oNe (dFld [(1, 0), (0, 3)] (dVar 0)) (dFld [(1, 0), (0, 3)] (dVar 1)))))) (sRet (dC (.bl false))) sNext) (sRet (dAndV (dBin oEq (dFld [(0, 0)] (dVar 0)) (dFld [(0, 0)] (dVar 1))) (dBin oEq (dFld [(0, 4)] (dVar 0)) (dFld [(0, 4)] (dVar 1))))))
def f_Table___eq__ : Fn := mkFn n_Table___eq__.length b_Table___eq__
theorem c_Table___eq__ : FnScope n_Table___eq__ ["self", "other"] (defScope (inner (top 63) 20)) := ⟨by kernel_rfl, by kernel_rfl, by kernel_rfl, d_Table___eq__, by kernel_rfl, by decide +kernel, by decide +kernel⟩
theorem s_Table___eq__ {G : Glo} (h : Hy G) : PSsx ⟨G, 0, n_Table___eq__, defScope (inner (top 63) 20), fun _ => true, none, false⟩ (defBody (inner (top 63) 20)) b_Table___eq__ := (pssx_cons (psx_if (PWx.pt (pwx_or (ptx_not (ptx_truth (pex_bf (cx_isiC (IsiIs.add (IsiIs.add (IsiIs.add (h.isi1 64 rfl rfl (h.isiOne 9 10 63 (c := 0) (c' := 0) rfl rfl rfl rfl rfl rfl)) (h.isiOne 6 7 62 (c := 0) (c' := 1) rfl rfl rfl rfl rfl rfl)) (h.isiOne 3 4 61 (c := 0) (c' := 3) rfl rfl rfl rfl rfl rfl)) (h.isiOne 0 1 60 (c := 0) (c' := 2) rfl rfl rfl rfl rfl rfl))) (by kernel_rfl) (h.free 14 rfl) (pax_cons (pex_v 1 (by kernel_rfl)) (pax_cons (pex_gc (by kernel_rfl) (gc_of h 59 (c := 0) rfl rfl)) pax_nil))))) (pwx_or (ptx_cmp opx_ne (pex_fld (h.fld1 9 44 (c := 0) rfl rfl rfl) (pex_v 0 (by kernel_rfl))) (pex_fld (h.fld1 9 44 (c := 0) rfl rfl rfl) (pex_v 1 (by kernel_rfl))) rfl) (pwx_or1 (ptx_cmp opx_ne (pex_fld ((h.fld1 6 15 (c := 1) rfl rfl rfl).cons (h.fld1 9 16 (c := 0) rfl rfl rfl)) (pex_v 0 (by kernel_rfl))) (pex_fld ((h.fld1 6 15 (c := 1) rfl rfl rfl).cons (h.fld1 9 16 (c := 0) rfl rfl rfl)) (pex_v 1 (by kernel_rfl))) rfl))))) (pssx_one (psx_ret pex_bl)) pssx_nil) (pssx_one (psx_ret (pex_and (pex_cmp opx_eq (pex_fld (h.fld1 9 45 (c := 0) rfl rfl rfl) (pex_v 0 (by kernel_rfl))) (pex_fld (h.fld1 9 45 (c := 0) rfl rfl rfl) (pex_v 1 (by kernel_rfl))) rfl) (pex_one (pex_cmp opx_eq (pex_fld (h.fld1 9 46 (c := 0) rfl rfl rfl) (pex_v 0 (by kernel_rfl))) (pex_fld (h.fld1 9 46 (c := 0) rfl rfl rfl) (pex_v 1 (by kernel_rfl))) rfl))))))
theorem a_Table___eq__ {G : Glo} (h : Hy G) : FnA G 1 (ma G.K (ga G.K "Table") "__eq__") 2 f_Table___eq__ := h.fnA 15 rfl c_Table___eq__ rfl (fun _ _ _ _ _ _ us hl => match us, hl with | [_, _], _ => by kernel_rfl) (s_Table___eq__ h)
theorem q_Table___eq__ {G : Glo} (h : Hy G) : EqIs G 1 0 f_Table___eq__ := h.eqIs 10 65 66 rfl rfl rfl rfl (a_Table___eq__ h)
def tail_law : DS := (sSeq (sAsg (dTup (dCons (dMk 0 f_Table___init__ (dCons (dC (.int 3)) (dCons (dC (.int 1)) (dCons (dC (.int 2)) (dCons (dTup (dCons (dTup (dCons (dC (.int 1)) (dCons (dC (.int 2)) dNil))) dNil)) dNil))))) (dCons (dMk 0 f_Table___init__ (dCons (dC (.int 5)) (dCons (dC (.int 1)) (dCons (dC (.int 2)) (dCons (dTup (dCons (dTup (dCons (dC (.int 1)) (dCons (dC (.int 2)) dNil))) dNil)) dNil))))) dNil))) (gTup 2 (gCons (gNm 5) (gCons (gNm 6) gNil)))) (sSeq (sAsg (dLst (dCons (dBin (oOwn 0 f_Table___eq__) (dVar 5) (dVar 6)) (dCons (dBin (oOwn 0 f_Table___eq__) (dVar 5) (dMk 0 f_Table___init__ (dCons (dC (.int 3)) (dCons (dC (.int 1)) (dCons (dC (.int 2)) (dCons (dTup (dCons (dTup (dCons (dC (.int 1)) (dCons (dC (.int 2)) dNil))) dNil)) dNil)))))) (dCons (dBin (oOwn 0 f_Table___eq__) (dVar 5) (dTup (dCons (dTup (dCons (dC (.int 1)) (dCons (dC (.int 2)) dNil))) dNil))) (dCons (dBin (oOwn 0 f_Table___eq__) (dVar 5) (dC .non)) (dCons (dBin (oOwn 0 f_Table___eq__) (dMk 0 f_Table___init__ (dCons (dC (.int 3)) (dCons (dC (.int 0)) (dCons (dC (.int 2)) (dCons (dTup dNil) dNil))))) (dMk 0 f_Table___init__ (dCons (dC (.int 3)) (dCons (dC (.int 0)) (dCons (dC (.int 1)) (dCons (dTup dNil) dNil)))))) dNil)))))) (gNm 7)) (sRet (dAndV (dBin oEq (dVar 7) (dLst (dCons (dC (.bl false)) (dCons (dC (.bl true)) (dCons (dC (.bl false)) (dCons (dC (.bl false)) (dCons (dC (.bl false)) dNil))))))) (dBin oEq (dLst (dCons (dC (.int (36))) (dCons (dC (.int (20000))) (dCons (dC (.int (3000))) dNil)))) (dLst (dCons (dC (.int 36)) (dCons (dC (.int 20000)) (dCons (dC (.int 3000)) dNil)))))))))
/-! _law_lot -/
def n__law_lot : List Str := ["_law_script", "_law_spot", "_law_cell", "_law_left"]
theorem d__law_lot : n__law_lot.Nodup := by decide +kernel
def b__law_lot : DS := (sSeq (sAsg (dIf (dTstB (dBin oLtI (dVar 1) (dCallB (b1 fLen) (dCons (dVar 0) dNil)))) (dCallB (b1 fInt) (dCons (dBin oIx (dVar 0) (dVar 1)) dNil)) (dBin oAdd (dBin oMulA (dC (.int 61)) (dVar 1)) (dC (.int 37)))) (gNm 2)) (sSeq (sAsg (dBin oModI (dCallB (b2 fMax2) (dCons (dC (.int 0)) (dCons (dBin oSubI (dCallB (b1 fAbs) (dCons (dVar 2) dNil)) (dBin oPowI (dC (.int 10)) (dC (.int 17)))) dNil))) (dBin oMulA (dBin oPowI (dC (.int 10)) (dC (.int 58))) (dBin oPowI (dC (.int 10)) (dC (.int 59))))) (gNm 3)) (sRet (dLst (dCons (dVar 3) (dCons (dBin oAdd (dBin oAdd (dBin oAdd (dBin oMulA (dBin oModI (dCallB (b1 fAbs) (dCons (dVar 2) dNil)) (dC (.int 1152921504606846697))) (dC (.int 53))) (dBin oMulA (dC (.int 991)) (dVar 1))) (dBin oMulA (dC (.int 43)) (dCallB (b1 fInt) (dCons (dBin oLtI (dVar 2) (dC (.int 0))) dNil)))) (dC (.int 9))) (dCons (dC (.int 0)) dNil)))))))
def f__law_lot : Fn := mkFn n__law_lot.length b__law_lot
theorem c__law_lot : FnScope n__law_lot ["_law_script", "_law_spot"] (defScope (top 88)) := ⟨by kernel_rfl, by kernel_rfl, by kernel_rfl, d__law_lot, by kernel_rfl, by decide +kernel, by decide +kernel⟩
theorem s__law_lot {G : Glo} (h : Hy G) : PSsx ⟨G, 0, n__law_lot, defScope (top 88), fun _ => true, none, false⟩ (defBody (top 88)) b__law_lot := (pssx_cons (psx_asg (pex_if (ptx_cmp opx_ltI (pex_v 1 (by kernel_rfl)) (pex_bf cx_len (by kernel_rfl) (h.free 36 rfl) (pax_cons (pex_v 0 (by kernel_rfl)) pax_nil)) rfl) (pex_bt cx_int (by kernel_rfl) (h.free 21 rfl) (pax_cons (pex_ix (pex_v 0 (by kernel_rfl)) (pex_v 1 (by kernel_rfl))) pax_nil)) (pex_op opx_add (pex_op opx_mulA pex_int (pex_v 1 (by kernel_rfl))) pex_int)) (pgx_v d__law_lot 2 (by kernel_rfl))) (pssx_cons (psx_asg (pex_op opx_modI (pex_bf cx_max2 (by kernel_rfl) (h.free 70 rfl) (pax_cons pex_int (pax_cons (pex_op opx_subI (pex_bf cx_abs (by kernel_rfl) (h.free 72 rfl) (pax_cons (pex_v 2 (by kernel_rfl)) pax_nil)) (pex_op opx_powI pex_int pex_int)) pax_nil))) (pex_op opx_mulA (pex_op opx_powI pex_int pex_int) (pex_op opx_powI pex_int pex_int))) (pgx_v d__law_lot 3 (by kernel_rfl))) (pssx_one (psx_ret (pex_lst (pax_cons (pex_v 3 (by kernel_rfl)) (pax_cons (pex_op opx_add (pex_op opx_add (pex_op opx_add (pex_op opx_mulA (pex_op opx_modI (pex_bf cx_abs (by kernel_rfl) (h.free 72 rfl) (pax_cons (pex_v 2 (by kernel_rfl)) pax_nil)) pex_int) pex_int) (pex_op opx_mulA pex_int (pex_v 1 (by kernel_rfl)))) (pex_op opx_mulA pex_int (pex_bt cx_int (by kernel_rfl) (h.free 21 rfl) (pax_cons (pex_cmp opx_ltI (pex_v 2 (by kernel_rfl)) pex_int rfl) pax_nil)))) pex_int) (pax_cons pex_int pax_nil))))))))
theorem i__law_lot {G : Glo} (h : Hy G) : FnIs G 1 "_law_lot" 2 f__law_lot := h.fnIs 16 73 rfl rfl rfl c__law_lot rfl (fun _ _ _ _ _ _ us hl => match us, hl with | [_, _], _ => by kernel_rfl) (s__law_lot h)
/-! _law_pull -/
def n__law_pull : List Str := ["_law_lot_here", "_law_total", "_law_found", "_law_one", "_law_two"]
theorem d__law_pull : n__law_pull.Nodup := by decide +kernel
def b__law_pull : DS := (sSeq (sIf (dTstB (dBin oGtI (dBin oIx (dVar 0) (dC (.int 0))) (dC (.int 0)))) (sSeq (sAsg (dBin oModI (dCallB (b1 fInt) (dCons (dBin oIx (dVar 0) (dC (.int 0))) dNil)) (dVar 1)) (gNm 2)) (sSeq (sAsg (dBin oDivI (dBin oIx (dVar 0) (dC (.int 0))) (dVar 1)) (gSb (dVar 0) (dC (.int 0)))) (sRet (dVar 2)))) sNext) (sSeq (sAsg (dBin oAdd (dBin oIx (dVar 0) (dC (.int 2))) (dC (.int 1))) (gSb (dVar 0) (dC (.int 2)))) (sSeq (sAsg (dBin oModI (dCallB (b1 fInt) (dCons (dBin oAdd (dBin oIx (dVar 0) (dC (.int 1))) (dBin oMulA (dC (.int 99990001)) (dBin oIx (dVar 0) (dC (.int 2))))) dNil)) (dC (.int 2305843009213693409))) (gNm 3)) (sSeq (sAsg (dBin oAdd (dBin oMulA (dBin oModI (dCallB (b1 fInt) (dCons (dBin oAdd (dBin oMulA (dVar 3) (dVar 3)) (dBin oMulA (dC (.int 89)) (dBin oIx (dVar 0) (dC (.int 2))))) dNil)) (dC (.int 2305843009213693381))) (dC (.int 8675309))) (dVar 3)) (gNm 4)) (sRet (dBin oModI (dCallB (b1 fInt) (dCons (dBin oDivI (dVar 4) (dC (.int 65537))) dNil)) (dVar 1)))))))
def f__law_pull : Fn := mkFn n__law_pull.length b__law_pull
theorem c__law_pull : FnScope n__law_pull ["_law_lot_here", "_law_total"] (defScope (top 89)) := ⟨by kernel_rfl, by kernel_rfl, by kernel_rfl, d__law_pull, by kernel_rfl, by decide +kernel, by decide +kernel⟩
theorem s__law_pull {G : Glo} (h : Hy G) : PSsx ⟨G, 0, n__law_pull, defScope (top 89), fun _ => true, none, false⟩ (defBody (top 89)) b__law_pull := (pssx_cons (psx_if (ptx_cmp opx_gtI (pex_ix (pex_v 0 (by kernel_rfl)) pex_int) pex_int rfl) (pssx_cons (psx_asg (pex_op opx_modI (pex_bt cx_int (by kernel_rfl) (h.free 21 rfl) (pax_cons (pex_ix (pex_v 0 (by kernel_rfl)) pex_int) pax_nil)) (pex_v 1 (by kernel_rfl))) (pgx_v d__law_pull 2 (by kernel_rfl))) (pssx_cons (psx_asg (pex_op opx_divI (pex_ix (pex_v 0 (by kernel_rfl)) pex_int) (pex_v 1 (by kernel_rfl))) (pgx_sb (pex_v 0 (by kernel_rfl)) pex_int)) (pssx_one (psx_ret (pex_v 2 (by kernel_rfl)))))) pssx_nil) (pssx_cons (psx_asg (pex_op opx_add (pex_ix (pex_v 0 (by kernel_rfl)) pex_int) pex_int) (pgx_sb (pex_v 0 (by kernel_rfl)) pex_int)) (pssx_cons (psx_asg (pex_op opx_modI (pex_bt cx_int (by kernel_rfl) (h.free 21 rfl) (pax_cons (pex_op opx_add (pex_ix (pex_v 0 (by kernel_rfl)) pex_int) (pex_op opx_mulA pex_int (pex_ix (pex_v 0 (by kernel_rfl)) pex_int))) pax_nil)) pex_int) (pgx_v d__law_pull 3 (by kernel_rfl))) (pssx_cons (psx_asg (pex_op opx_add (pex_op opx_mulA (pex_op opx_modI (pex_bt cx_int (by kernel_rfl) (h.free 21 rfl) (pax_cons (pex_op opx_add (pex_op opx_mulA (pex_v 3 (by kernel_rfl)) (pex_v 3 (by kernel_rfl))) (pex_op opx_mulA pex_int (pex_ix (pex_v 0 (by kernel_rfl)) pex_int))) pax_nil)) pex_int) pex_int) (pex_v 3 (by kernel_rfl))) (pgx_v d__law_pull 4 (by kernel_rfl))) (pssx_one (psx_ret (pex_op opx_modI (pex_bt cx_int (by kernel_rfl) (h.free 21 rfl) (pax_cons (pex_op opx_divI (pex_v 4 (by kernel_rfl)) pex_int) pax_nil)) (pex_v 1 (by kernel_rfl)))))))))
theorem i__law_pull {G : Glo} (h : Hy G) : FnIs G 1 "_law_pull" 2 f__law_pull := h.fnIs 17 74 rfl rfl rfl c__law_pull rfl (fun _ _ _ _ _ _ us hl => match us, hl with | [_, _], _ => by kernel_rfl) (s__law_pull h)
/-! _law_one_of -/
def n__law_one_of : List Str := ["_law_lot_here", "_law_items"]
theorem d__law_one_of : n__law_one_of.Nodup := by decide +kernel
def b__law_one_of : DS := (sRet (dBin oIx (dVar 1) (dCall f__law_pull (dCons (dVar 0) (dCons (dCallB (b1 fLen) (dCons (dVar 1) dNil)) dNil)))))
def f__law_one_of : Fn := mkFn n__law_one_of.length b__law_one_of
theorem c__law_one_of : FnScope n__law_one_of ["_law_lot_here", "_law_items"] (defScope (top 90)) := ⟨by kernel_rfl, by kernel_rfl, by kernel_rfl, d__law_one_of, by kernel_rfl, by decide +kernel, by decide +kernel⟩
theorem s__law_one_of {G : Glo} (h : Hy G) : PSsx ⟨G, 1, n__law_one_of, defScope (top 90), fun _ => true, none, false⟩ (defBody (top 90)) b__law_one_of := (pssx_one (psx_ret (pex_ix (pex_v 1 (by kernel_rfl)) (pex_cl (i__law_pull h) (by kernel_rfl) (by kernel_rfl) (pax_cons (pex_v 0 (by kernel_rfl)) (pax_cons (pex_bf cx_len (by kernel_rfl) (h.free 36 rfl) (pax_cons (pex_v 1 (by kernel_rfl)) pax_nil)) pax_nil)) (ln1 (ln1 ln0))))))
theorem i__law_one_of {G : Glo} (h : Hy G) : FnIs G 2 "_law_one_of" 2 f__law_one_of := h.fnIs 18 75 rfl rfl rfl c__law_one_of rfl (fun _ _ _ _ _ _ us hl => match us, hl with | [_, _], _ => by kernel_rfl) (s__law_one_of h)
/-! _law_met -/
def n__law_met : List Str := ["_law_call", "e"]
theorem d__law_met : n__law_met.Nodup := by decide +kernel
theorem c__law_met : FnScope n__law_met ["_law_call"] (defScope (top 91)) := ⟨by kernel_rfl, by kernel_rfl, by kernel_rfl, d__law_met, by kernel_rfl, by decide +kernel, by decide +kernel⟩
def exs__law_met : List (Nat × List Nat) := [(9, []), (10, []), (6, [6]), (4, [4]), (8, [8]), (5, [5]), (7, [7])]
def hs__law_met : List Hd := [⟨4, none, (heC (.str "prime"))⟩, ⟨6, none, (heC (.str "table"))⟩, ⟨8, none, (heC (.str "operation"))⟩, ⟨5, some 1, (heA (heC (.str "count ")) (heR (heF 5 "value")))⟩, ⟨7, some 1, (heA (heC (.str "many ")) (heR (heF 7 "limit")))⟩]
def fin__law_met : D := (.str "fine")
theorem w__law_met {G : Glo} (h : Hy G) : WdIs G "_law_met" exs__law_met hs__law_met fin__law_met := h.word 19 81 (N := n__law_met) (a := "_law_call") rfl rfl rfl rfl rfl (by kernel_rfl) (by kernel_rfl) c__law_met (by kernel_rfl) (by kernel_rfl) (by kernel_rfl) (by kernel_rfl) (fun _ _ _ _ _ _ us hl => match us, hl with | [_], _ => by kernel_rfl) (.cons (by kernel_rfl) (by kernel_rfl) (gc_of h 27 (c := 4) rfl rfl) trivial phx_str (.cons (by kernel_rfl) (by kernel_rfl) (gc_of h 41 (c := 6) rfl rfl) trivial phx_str (.cons (by kernel_rfl) (by kernel_rfl) (gc_of h 80 (c := 8) rfl rfl) trivial phx_str (.cons (by kernel_rfl) (by kernel_rfl) (gc_of h 30 (c := 5) rfl rfl) ⟨by kernel_rfl, by kernel_rfl⟩ (phx_add phx_str (phx_repr (by kernel_rfl) (h.free 77 rfl) (phx_fld (h.xf 79 (c := 5) rfl rfl).1 (h.xf 79 (c := 5) rfl rfl).2 (by kernel_rfl) (by kernel_rfl)))) (.cons (by kernel_rfl) (by kernel_rfl) (gc_of h 78 (c := 7) rfl rfl) ⟨by kernel_rfl, by kernel_rfl⟩ (phx_add phx_str (phx_repr (by kernel_rfl) (h.free 77 rfl) (phx_fld (h.xf 76 (c := 7) rfl rfl).1 (h.xf 76 (c := 7) rfl rfl).2 (by kernel_rfl) (by kernel_rfl)))) .nil))))) pnx_str
theorem sub__law_met {G : Glo} (h : Hy G) : XSub G exs__law_met hs__law_met := h.subsB 82 (l := [("ArrowError", []), ("InvalidPoly", []), ("InvalidTable", ["InvalidTable"]), ("InvalidPrime", ["InvalidPrime"]), ("InvalidOperation", ["InvalidOperation"]), ("InvalidCount", ["InvalidCount"]), ("TooMany", ["TooMany"])]) (ks := ["InvalidPrime", "InvalidTable", "InvalidOperation", "InvalidCount", "TooMany"]) rfl (by kernel_rfl)
/-! Rows.__init__ -/
def n_Rows___init__ : List Str := ["self", "rows"]
theorem d_Rows___init__ : n_Rows___init__.Nodup := by decide +kernel
def b_Rows___init__ : DS := (sFld [(1, 0), (0, 3)] (dVar 0) (dVar 1))
def f_Rows___init__ : Fn := mkFn n_Rows___init__.length b_Rows___init__
theorem c_Rows___init__ : FnScope n_Rows___init__ ["self", "rows"] (defScope (inner (top 61) 1)) := ⟨by kernel_rfl, by kernel_rfl, by kernel_rfl, d_Rows___init__, by kernel_rfl, by decide +kernel, by decide +kernel⟩
theorem s_Rows___init__ {G : Glo} (h : Hy G) : PSsx ⟨G, 0, n_Rows___init__, defScope (inner (top 61) 1), fun _ => true, none, false⟩ (defBody (inner (top 61) 1)) b_Rows___init__ := (pssx_one (psx_fld ((h.fld1 6 15 (c := 1) rfl rfl rfl).cons (h.fld1 9 16 (c := 0) rfl rfl rfl)) (pex_v 0 (by kernel_rfl)) (pex_v 1 (by kernel_rfl))))
theorem a_Rows___init__ {G : Glo} (h : Hy G) : FnA G 1 (ma G.K (ga G.K "Rows") "__init__") 2 f_Rows___init__ := h.fnA 20 rfl c_Rows___init__ rfl (fun _ _ _ _ _ _ us hl => match us, hl with | [_, _], _ => by kernel_rfl) (s_Rows___init__ h)
theorem i_Rows___init__ {G : Glo} (h : Hy G) : MkIs G 1 1 "Rows" 2 f_Rows___init__ := h.mkI 83 13 rfl rfl rfl (a_Rows___init__ h)
/-! table_made -/
def n_table_made : List Str := ["prime", "height", "width", "rows"]
theorem d_table_made : n_table_made.Nodup := by decide +kernel
def b_table_made : DS := (sRet (dMk 0 f_Table___init__ (dCons (dVar 0) (dCons (dVar 1) (dCons (dVar 2) (dCons (dMk 1 f_Rows___init__ (dCons (dVar 3) dNil)) dNil))))))
def f_table_made : Fn := mkFn n_table_made.length b_table_made
theorem c_table_made : FnScope n_table_made ["prime", "height", "width", "rows"] (defScope (top 64)) := ⟨by kernel_rfl, by kernel_rfl, by kernel_rfl, d_table_made, by kernel_rfl, by decide +kernel, by decide +kernel⟩
theorem s_table_made {G : Glo} (h : Hy G) : PSsx ⟨G, 8, n_table_made, defScope (top 64), fun _ => true, none, false⟩ (defBody (top 64)) b_table_made := (pssx_one (psx_ret (pex_new (i_Table___init__ h) (by kernel_rfl) (by kernel_rfl) (pax_cons (pex_v 0 (by kernel_rfl)) (pax_cons (pex_v 1 (by kernel_rfl)) (pax_cons (pex_v 2 (by kernel_rfl)) (pax_cons (pex_new (i_Rows___init__ h) (by kernel_rfl) (by kernel_rfl) (pax_cons (pex_v 3 (by kernel_rfl)) pax_nil) (ln1 ln0)) pax_nil)))) (ln1 (ln1 (ln1 (ln1 ln0)))))))
theorem i_table_made {G : Glo} (h : Hy G) : FnIs G 9 "table_made" 4 f_table_made := h.fnIs 21 84 rfl rfl rfl c_table_made rfl (fun _ _ _ _ _ _ us hl => match us, hl with | [_, _, _, _], _ => by kernel_rfl) (s_table_made h)
/-! raw_idle -/
def n_raw_idle : List Str := ["size", "at", "to"]
theorem d_raw_idle : n_raw_idle.Nodup := by decide +kernel
def b_raw_idle : DS := (sRet (dCallB (b1 fTuple) (dCons (dLc (iRng1 (dCons (dVar 0) dNil)) (gNm 1) tYes1 (dCallB (b1 fTuple) (dCons (dLc (iRng1 (dCons (dVar 0) dNil)) (gNm 2) tYes1 (dCallB (b1 fInt) (dCons (dBin oEq (dVar 1) (dVar 2)) dNil)) ([("to", 2)].map (·.2))) dNil)) ([("at", 1)].map (·.2))) dNil)))
def f_raw_idle : Fn := mkFn n_raw_idle.length b_raw_idle
theorem c_raw_idle : FnScope n_raw_idle ["size"] (defScope (top 19)) := ⟨by kernel_rfl, by kernel_rfl, by kernel_rfl, d_raw_idle, by kernel_rfl, by decide +kernel, by decide +kernel⟩
theorem s_raw_idle {G : Glo} (h : Hy G) : PSsx ⟨G, 0, n_raw_idle, defScope (top 19), fun _ => true, none, false⟩ (defBody (top 19)) b_raw_idle := (pssx_one (psx_ret (pex_bt cx_tuple (by kernel_rfl) (h.free 35 rfl) (pax_cons (pex_lc d_raw_idle (pix_range1 (by kernel_rfl) (h.free 71 rfl) (pax_cons (pex_v 0 (by kernel_rfl)) pax_nil)) (own := [("at", 1)]) (by kernel_rfl) (pgx_v d_raw_idle 1 (by kernel_rfl)) ptsx_nil (pex_bt cx_tuple (by kernel_rfl) (h.free 35 rfl) (pax_cons (pex_lc d_raw_idle (pix_range1 (by kernel_rfl) (h.free 71 rfl) (pax_cons (pex_v 0 (by kernel_rfl)) pax_nil)) (own := [("to", 2)]) (by kernel_rfl) (pgx_v d_raw_idle 2 (by kernel_rfl)) ptsx_nil (pex_bt cx_int (by kernel_rfl) (h.free 21 rfl) (pax_cons (pex_cmp opx_eq (pex_v 1 (by kernel_rfl)) (pex_v 2 (by kernel_rfl)) rfl) pax_nil)) (by decide)) pax_nil)) (by decide)) pax_nil))))
theorem i_raw_idle {G : Glo} (h : Hy G) : FnIs G 1 "raw_idle" 1 f_raw_idle := h.fnIs 22 85 rfl rfl rfl c_raw_idle rfl (fun _ _ _ _ _ _ us hl => match us, hl with | [_], _ => by kernel_rfl) (s_raw_idle h)
/-! idle_table -/
def n_idle_table : List Str := ["prime", "size"]
theorem d_idle_table : n_idle_table.Nodup := by decide +kernel
def b_idle_table : DS := (sSeq (sExpr (dCall f_require_prime (dCons (dVar 0) dNil))) (sSeq (sExpr (dCall f_require_to (dCons (dVar 1) (dCons (dC (.int (36))) dNil)))) (sRet (dCall f_table_made (dCons (dVar 0) (dCons (dVar 1) (dCons (dVar 1) (dCons (dCall f_raw_idle (dCons (dVar 1) dNil)) dNil))))))))
def f_idle_table : Fn := mkFn n_idle_table.length b_idle_table
theorem c_idle_table : FnScope n_idle_table ["prime", "size"] (defScope (top 69)) := ⟨by kernel_rfl, by kernel_rfl, by kernel_rfl, d_idle_table, by kernel_rfl, by decide +kernel, by decide +kernel⟩
theorem s_idle_table {G : Glo} (h : Hy G) : PSsx ⟨G, 9, n_idle_table, defScope (top 69), fun _ => true, none, false⟩ (defBody (top 69)) b_idle_table := (pssx_cons (psx_expr (pex_cl (i_require_prime h) (by kernel_rfl) (by kernel_rfl) (pax_cons (pex_v 0 (by kernel_rfl)) pax_nil) (ln1 ln0))) (pssx_cons (psx_expr (pex_cl (i_require_to h) (by kernel_rfl) (by kernel_rfl) (pax_cons (pex_v 1 (by kernel_rfl)) (pax_cons (pex_gi (by kernel_rfl) (h.int 34 rfl)) pax_nil)) (ln1 (ln1 ln0)))) (pssx_one (psx_ret (pex_cl (i_table_made h) (by kernel_rfl) (by kernel_rfl) (pax_cons (pex_v 0 (by kernel_rfl)) (pax_cons (pex_v 1 (by kernel_rfl)) (pax_cons (pex_v 1 (by kernel_rfl)) (pax_cons (pex_cl (i_raw_idle h) (by kernel_rfl) (by kernel_rfl) (pax_cons (pex_v 1 (by kernel_rfl)) pax_nil) (ln1 ln0)) pax_nil)))) (ln1 (ln1 (ln1 (ln1 ln0)))))))))
theorem i_idle_table {G : Glo} (h : Hy G) : FnIs G 10 "idle_table" 2 f_idle_table := h.fnIs 23 86 rfl rfl rfl c_idle_table rfl (fun _ _ _ _ _ _ us hl => match us, hl with | [_, _], _ => by kernel_rfl) (s_idle_table h)
/-! zero_table -/
def n_zero_table : List Str := ["prime", "height", "width"]
theorem d_zero_table : n_zero_table.Nodup := by decide +kernel
def b_zero_table : DS := (sSeq (sExpr (dCall f_require_prime (dCons (dVar 0) dNil))) (sSeq (sExpr (dCall f_require_to (dCons (dVar 1) (dCons (dC (.int (36))) dNil)))) (sSeq (sExpr (dCall f_require_to (dCons (dVar 2) (dCons (dC (.int (36))) dNil)))) (sRet (dCall f_table_made (dCons (dVar 0) (dCons (dVar 1) (dCons (dVar 2) (dCons (dBin oMulB (dTup (dCons (dBin oMulB (dTup (dCons (dC (.int 0)) dNil)) (dVar 2)) dNil)) (dVar 1)) dNil)))))))))
def f_zero_table : Fn := mkFn n_zero_table.length b_zero_table
theorem c_zero_table : FnScope n_zero_table ["prime", "height", "width"] (defScope (top 70)) := ⟨by kernel_rfl, by kernel_rfl, by kernel_rfl, d_zero_table, by kernel_rfl, by decide +kernel, by decide +kernel⟩
theorem s_zero_table {G : Glo} (h : Hy G) : PSsx ⟨G, 9, n_zero_table, defScope (top 70), fun _ => true, none, false⟩ (defBody (top 70)) b_zero_table := (pssx_cons (psx_expr (pex_cl (i_require_prime h) (by kernel_rfl) (by kernel_rfl) (pax_cons (pex_v 0 (by kernel_rfl)) pax_nil) (ln1 ln0))) (pssx_cons (psx_expr (pex_cl (i_require_to h) (by kernel_rfl) (by kernel_rfl) (pax_cons (pex_v 1 (by kernel_rfl)) (pax_cons (pex_gi (by kernel_rfl) (h.int 34 rfl)) pax_nil)) (ln1 (ln1 ln0)))) (pssx_cons (psx_expr (pex_cl (i_require_to h) (by kernel_rfl) (by kernel_rfl) (pax_cons (pex_v 2 (by kernel_rfl)) (pax_cons (pex_gi (by kernel_rfl) (h.int 34 rfl)) pax_nil)) (ln1 (ln1 ln0)))) (pssx_one (psx_ret (pex_cl (i_table_made h) (by kernel_rfl) (by kernel_rfl) (pax_cons (pex_v 0 (by kernel_rfl)) (pax_cons (pex_v 1 (by kernel_rfl)) (pax_cons (pex_v 2 (by kernel_rfl)) (pax_cons (pex_op opx_mulB (pex_tup (pax_cons (pex_op opx_mulB (pex_tup (pax_cons pex_int pax_nil)) (pex_v 2 (by kernel_rfl))) pax_nil)) (pex_v 1 (by kernel_rfl))) pax_nil)))) (ln1 (ln1 (ln1 (ln1 ln0))))))))))
theorem i_zero_table {G : Glo} (h : Hy G) : FnIs G 10 "zero_table" 3 f_zero_table := h.fnIs 24 87 rfl rfl rfl c_zero_table rfl (fun _ _ _ _ _ _ us hl => match us, hl with | [_, _, _], _ => by kernel_rfl) (s_zero_table h)
/-! require_columns -/
def n_require_columns : List Str := ["prime", "height", "columns", "column"]
theorem d_require_columns : n_require_columns.Nodup := by decide +kernel
def b_require_columns : DS := (sSeq (sExpr (dCall f_require_prime (dCons (dVar 0) dNil))) (sSeq (sExpr (dCall f_require_to (dCons (dVar 1) (dCons (dC (.int (36))) dNil)))) (sSeq (sIf (tOr2 (tNot1 (dTst (dCallB (orB bIsi (bIsiN [2, 3, 1, 0])) (dCons (dVar 2) (dCons (dC (.ty "tuple")) dNil))))) (dTstB (dBin oGtI (dCallB (b1 fLen) (dCons (dVar 2) dNil)) (dC (.int (36)))))) (rX0 8) sNext) (sIf (tNot1 (dTst (dCallB (b1 fAll) (dCons (dLc (iSeq (dVar 2)) (gNm 3) tYes1 (dCall f_is_column (dCons (dVar 0) (dCons (dVar 1) (dCons (dVar 3) dNil)))) ([("column", 3)].map (·.2))) dNil)))) (rX0 8) sNext))))
def f_require_columns : Fn := mkFn n_require_columns.length b_require_columns
theorem c_require_columns : FnScope n_require_columns ["prime", "height", "columns"] (defScope (top 71)) := ⟨by kernel_rfl, by kernel_rfl, by kernel_rfl, d_require_columns, by kernel_rfl, by decide +kernel, by decide +kernel⟩
theorem s_require_columns {G : Glo} (h : Hy G) : PSsx ⟨G, 4, n_require_columns, defScope (top 71), fun _ => true, none, false⟩ (defBody (top 71)) b_require_columns := (pssx_cons (psx_expr (pex_cl (i_require_prime h) (by kernel_rfl) (by kernel_rfl) (pax_cons (pex_v 0 (by kernel_rfl)) pax_nil) (ln1 ln0))) (pssx_cons (psx_expr (pex_cl (i_require_to h) (by kernel_rfl) (by kernel_rfl) (pax_cons (pex_v 1 (by kernel_rfl)) (pax_cons (pex_gi (by kernel_rfl) (h.int 34 rfl)) pax_nil)) (ln1 (ln1 ln0)))) (pssx_cons (psx_if (PWx.pt (pwx_or (ptx_not (ptx_truth (pex_bf (CallRx.or cx_isi (cx_isiN (IsiNo.add (IsiNo.add (IsiNo.add (h.isiNo1 0 1 17 (c := 2) rfl rfl rfl rfl) (h.isiNo1 3 4 18 (c := 3) rfl rfl rfl rfl)) (h.isiNo1 6 7 19 (c := 1) rfl rfl rfl rfl)) (h.isiNo1 9 10 20 (c := 0) rfl rfl rfl rfl)))) (by kernel_rfl) (h.free 14 rfl) (pax_cons (pex_v 2 (by kernel_rfl)) (pax_cons (pex_tyn (by kernel_rfl) (h.free 35 rfl)) pax_nil))))) (pwx_or1 (ptx_cmp opx_gtI (pex_bf cx_len (by kernel_rfl) (h.free 36 rfl) (pax_cons (pex_v 2 (by kernel_rfl)) pax_nil)) (pex_gi (by kernel_rfl) (h.int 34 rfl)) rfl)))) (pssx_one (psx_raise0 (h.x0 88 (c := 8) rfl rfl) (by kernel_rfl) (gc_of h 80 (c := 8) rfl rfl))) pssx_nil) (pssx_one (psx_if (ptx_not (ptx_truth (pex_bf cx_all (by kernel_rfl) (h.free 38 rfl) (pax_cons (pex_lc d_require_columns (pix_seq (pex_v 2 (by kernel_rfl))) (own := [("column", 3)]) (by kernel_rfl) (pgx_v d_require_columns 3 (by kernel_rfl)) ptsx_nil (pex_cl (i_is_column h) (by kernel_rfl) (by kernel_rfl) (pax_cons (pex_v 0 (by kernel_rfl)) (pax_cons (pex_v 1 (by kernel_rfl)) (pax_cons (pex_v 3 (by kernel_rfl)) pax_nil))) (ln1 (ln1 (ln1 ln0)))) (by decide)) pax_nil)))) (pssx_one (psx_raise0 (h.x0 88 (c := 8) rfl rfl) (by kernel_rfl) (gc_of h 80 (c := 8) rfl rfl))) pssx_nil)))))
theorem i_require_columns {G : Glo} (h : Hy G) : FnIs G 5 "require_columns" 3 f_require_columns := h.fnIs 25 89 rfl rfl rfl c_require_columns rfl (fun _ _ _ _ _ _ us hl => match us, hl with | [_, _, _], _ => by kernel_rfl) (s_require_columns h)
/-! raw_base -/
def n_raw_base : List Str := ["prime", "rows", "row"]
theorem d_raw_base : n_raw_base.Nodup := by decide +kernel
def b_raw_base : DS := (sRet (dCallB (b1 fTuple) (dCons (dLc (iSeq (dCall f_stepped (dCons (dVar 0) (dCons (dVar 1) dNil)))) (gNm 2) tYes1 (dCallB (b1 fTuple) (dCons (dVar 2) dNil)) ([("row", 2)].map (·.2))) dNil)))
def f_raw_base : Fn := mkFn n_raw_base.length b_raw_base
theorem c_raw_base : FnScope n_raw_base ["prime", "rows"] (defScope (top 24)) := ⟨by kernel_rfl, by kernel_rfl, by kernel_rfl, d_raw_base, by kernel_rfl, by decide +kernel, by decide +kernel⟩
theorem s_raw_base {G : Glo} (h : Hy G) : PSsx ⟨G, 2, n_raw_base, defScope (top 24), fun _ => true, none, false⟩ (defBody (top 24)) b_raw_base := (pssx_one (psx_ret (pex_bt cx_tuple (by kernel_rfl) (h.free 35 rfl) (pax_cons (pex_lc d_raw_base (pix_seq (pex_cl (i_stepped h) (by kernel_rfl) (by kernel_rfl) (pax_cons (pex_v 0 (by kernel_rfl)) (pax_cons (pex_v 1 (by kernel_rfl)) pax_nil)) (ln1 (ln1 ln0)))) (own := [("row", 2)]) (by kernel_rfl) (pgx_v d_raw_base 2 (by kernel_rfl)) ptsx_nil (pex_bt cx_tuple (by kernel_rfl) (h.free 35 rfl) (pax_cons (pex_v 2 (by kernel_rfl)) pax_nil)) (by decide)) pax_nil))))
theorem i_raw_base {G : Glo} (h : Hy G) : FnIs G 3 "raw_base" 2 f_raw_base := h.fnIs 26 90 rfl rfl rfl c_raw_base rfl (fun _ _ _ _ _ _ us hl => match us, hl with | [_, _], _ => by kernel_rfl) (s_raw_base h)
/-! base_of -/
def n_base_of : List Str := ["prime", "height", "columns"]
theorem d_base_of : n_base_of.Nodup := by decide +kernel
def b_base_of : DS := (sSeq (sExpr (dCall f_require_columns (dCons (dVar 0) (dCons (dVar 1) (dCons (dVar 2) dNil))))) (sRet (dCall f_raw_base (dCons (dVar 0) (dCons (dVar 2) dNil)))))
def f_base_of : Fn := mkFn n_base_of.length b_base_of
theorem c_base_of : FnScope n_base_of ["prime", "height", "columns"] (defScope (top 72)) := ⟨by kernel_rfl, by kernel_rfl, by kernel_rfl, d_base_of, by kernel_rfl, by decide +kernel, by decide +kernel⟩
theorem s_base_of {G : Glo} (h : Hy G) : PSsx ⟨G, 5, n_base_of, defScope (top 72), fun _ => true, none, false⟩ (defBody (top 72)) b_base_of := (pssx_cons (psx_expr (pex_cl (i_require_columns h) (by kernel_rfl) (by kernel_rfl) (pax_cons (pex_v 0 (by kernel_rfl)) (pax_cons (pex_v 1 (by kernel_rfl)) (pax_cons (pex_v 2 (by kernel_rfl)) pax_nil))) (ln1 (ln1 (ln1 ln0))))) (pssx_one (psx_ret (pex_cl (i_raw_base h) (by kernel_rfl) (by kernel_rfl) (pax_cons (pex_v 0 (by kernel_rfl)) (pax_cons (pex_v 2 (by kernel_rfl)) pax_nil)) (ln1 (ln1 ln0))))))
theorem i_base_of {G : Glo} (h : Hy G) : FnIs G 6 "base_of" 3 f_base_of := h.fnIs 27 91 rfl rfl rfl c_base_of rfl (fun _ _ _ _ _ _ us hl => match us, hl with | [_, _, _], _ => by kernel_rfl) (s_base_of h)
/-! free_rest -/
def n_free_rest : List Str := ["prime", "height", "columns", "leads", "column", "at"]
theorem d_free_rest : n_free_rest.Nodup := by decide +kernel
def b_free_rest : DS := (sSeq (sExpr (dCall f_require_columns (dCons (dVar 0) (dCons (dVar 1) (dCons (dVar 2) dNil))))) (sSeq (sAsg (dLc (iSeq (dCall f_raw_base (dCons (dVar 0) (dCons (dVar 2) dNil)))) (gNm 4) tYes1 (dCall f_lead_of (dCons (dVar 4) dNil)) ([("column", 4)].map (·.2))) (gNm 3)) (sRet (dCallB (b1 fTuple) (dCons (dLc (iRng1 (dCons (dVar 1) dNil)) (gNm 5) (dTstB (dBin oNotIn (dVar 5) (dVar 3))) (dVar 5) ([("at", 5)].map (·.2))) dNil)))))
def f_free_rest : Fn := mkFn n_free_rest.length b_free_rest
theorem c_free_rest : FnScope n_free_rest ["prime", "height", "columns"] (defScope (top 73)) := ⟨by kernel_rfl, by kernel_rfl, by kernel_rfl, d_free_rest, by kernel_rfl, by decide +kernel, by decide +kernel⟩
theorem s_free_rest {G : Glo} (h : Hy G) : PSsx ⟨G, 5, n_free_rest, defScope (top 73), fun _ => true, none, false⟩ (defBody (top 73)) b_free_rest := (pssx_cons (psx_expr (pex_cl (i_require_columns h) (by kernel_rfl) (by kernel_rfl) (pax_cons (pex_v 0 (by kernel_rfl)) (pax_cons (pex_v 1 (by kernel_rfl)) (pax_cons (pex_v 2 (by kernel_rfl)) pax_nil))) (ln1 (ln1 (ln1 ln0))))) (pssx_cons (psx_asgS (pex_lc d_free_rest (pix_seq (pex_cl (i_raw_base h) (by kernel_rfl) (by kernel_rfl) (pax_cons (pex_v 0 (by kernel_rfl)) (pax_cons (pex_v 2 (by kernel_rfl)) pax_nil)) (ln1 (ln1 ln0)))) (own := [("column", 4)]) (by kernel_rfl) (pgx_v d_free_rest 4 (by kernel_rfl)) ptsx_nil (pex_cl (i_lead_of h) (by kernel_rfl) (by kernel_rfl) (pax_cons (pex_v 4 (by kernel_rfl)) pax_nil) (ln1 ln0)) (by decide)) (pgx_v d_free_rest 3 (by kernel_rfl)) (swaps_cell (by kernel_rfl)) (fun _ _ => rfl)) (pssx_one (psx_ret (pex_bt cx_tuple (by kernel_rfl) (h.free 35 rfl) (pax_cons (pex_lc d_free_rest (pix_range1 (by kernel_rfl) (h.free 71 rfl) (pax_cons (pex_v 1 (by kernel_rfl)) pax_nil)) (own := [("at", 5)]) (by kernel_rfl) (pgx_v d_free_rest 5 (by kernel_rfl)) (ptsx_one (ptx_cmp opx_notIn (pex_v 5 (by kernel_rfl)) (pex_v 3 (by kernel_rfl)) rfl)) (pex_v 5 (by kernel_rfl)) (by decide)) pax_nil))))))
theorem i_free_rest {G : Glo} (h : Hy G) : FnIs G 6 "free_rest" 3 f_free_rest := h.fnIs 28 92 rfl rfl rfl c_free_rest rfl (fun _ _ _ _ _ _ us hl => match us, hl with | [_, _, _], _ => by kernel_rfl) (s_free_rest h)
/-! _law_made_right -/
def n__law_made_right : List Str := ["_law_lot_here", "_law_prime", "_law_side", "_law_bad", "_law_columns", "_law_told", "_law_word", "_law_due"]
theorem d__law_made_right : n__law_made_right.Nodup := by decide +kernel
def b__law_made_right : DS := (sSeq (sAsg (dCall f__law_one_of (dCons (dVar 0) (dCons (dLst (dCons (dC .non) (dCons (dC (.int 1)) (dCons (dTup (dCons (dTup (dCons (dC (.int 1)) (dCons (dC (.int 2)) dNil))) (dCons (dTup (dCons (dC (.int 3)) dNil)) dNil))) (dCons (dLst (dCons (dTup (dCons (dC (.int 1)) (dCons (dC (.int 2)) dNil))) (dCons (dTup (dCons (dC (.int 0)) (dCons (dC (.int 1)) dNil))) dNil))) (dCons (dTup (dCons (dTup (dCons (dC (.int 1)) (dCons (dC (.int 2)) dNil))) dNil)) (dCons (dTup (dCons (dTup (dCons (dC (.int 1)) (dCons (dC (.int 2)) dNil))) (dCons (dTup (dCons (dC (.int 0)) (dCons (dC (.int 3)) dNil))) dNil))) (dCons (dTup (dCons (dTup (dCons (dC (.int 1)) (dCons (dUn oNeg (dC (.int 1))) dNil))) (dCons (dTup (dCons (dC (.int 0)) (dCons (dC (.int 1)) dNil))) dNil))) (dCons (dTup (dCons (dTup (dCons (dC (.int 1)) (dCons (dC (.bl true)) dNil))) (dCons (dTup (dCons (dC (.int 0)) (dCons (dC (.int 1)) dNil))) dNil))) (dCons (dTup (dCons (dTup (dCons (dC (.int 1)) (dCons (dC .non) dNil))) (dCons (dTup (dCons (dC (.int 0)) (dCons (dC (.int 0)) dNil))) dNil))) (dCons (dC (.str "12")) dNil))))))))))) dNil))) (gNm 3)) (sSeq (sAsg (dCall f__law_one_of (dCons (dVar 0) (dCons (dLst (dCons (dC .non) (dCons (dTup (dCons (dTup (dCons (dC (.int 1)) (dCons (dC (.int 2)) dNil))) (dCons (dTup (dCons (dC (.int 1)) dNil)) dNil))) (dCons (dLst (dCons (dTup (dCons (dC (.int 1)) (dCons (dC (.int 2)) dNil))) dNil)) (dCons (dTup (dCons (dTup (dCons (dC (.int 1)) (dCons (dC (.int 3)) dNil))) dNil)) (dCons (dTup (dCons (dTup (dCons (dC (.int 1)) (dCons (dC (.bl true)) dNil))) dNil)) (dCons (dBin oMulB (dTup (dCons (dTup (dCons (dC (.int 0)) (dCons (dC (.int 0)) dNil))) dNil)) (dC (.int 37))) (dCons (dTup (dCons (dC (.int 1)) (dCons (dC (.int 2)) dNil))) (dCons (dTup (dCons (dLst (dCons (dC (.int 1)) (dCons (dC (.int 2)) dNil))) dNil)) dNil))))))))) dNil))) (gNm 4)) (sSeq (sAsg (dLst (dCons (dGc (dWord exs__law_met hs__law_met fin__law_met (dMk 0 f_Table___init__ (dCons (dVar 1) (dCons (dVar 2) (dCons (dVar 2) (dCons (dVar 3) dNil))))))) dNil)) (gNm 5)) (sSeq (sExpr (dMeth isL mAppend (dVar 5) (dCons (dGc (dWord exs__law_met hs__law_met fin__law_met (dMk 0 f_Table___init__ (dCons (dC (.int 3)) (dCons (dVar 2) (dCons (dC .non) (dCons (dVar 3) dNil))))))) dNil))) (sSeq (sExpr (dMeth isL mAppend (dVar 5) (dCons (dGc (dWord exs__law_met hs__law_met fin__law_met (dMk 0 f_Table___init__ (dCons (dC (.int 3)) (dCons (dC (.int 2)) (dCons (dVar 2) (dCons (dVar 3) dNil))))))) dNil))) (sSeq (sExpr (dMeth isL mAppend (dVar 5) (dCons (dGc (dWord exs__law_met hs__law_met fin__law_met (dMk 0 f_Table___init__ (dCons (dC (.int 3)) (dCons (dC (.int 2)) (dCons (dC (.int 2)) (dCons (dVar 3) dNil))))))) dNil))) (sSeq (sExpr (dMeth isL mAppend (dVar 5) (dCons (dGc (dWord exs__law_met hs__law_met fin__law_met (dCall f_idle_table (dCons (dVar 1) (dCons (dVar 2) dNil))))) dNil))) (sSeq (sExpr (dMeth isL mAppend (dVar 5) (dCons (dGc (dWord exs__law_met hs__law_met fin__law_met (dCall f_idle_table (dCons (dC (.int 3)) (dCons (dVar 2) dNil))))) dNil))) (sSeq (sExpr (dMeth isL mAppend (dVar 5) (dCons (dGc (dWord exs__law_met hs__law_met fin__law_met (dCall f_zero_table (dCons (dVar 1) (dCons (dVar 2) (dCons (dC .non) dNil)))))) dNil))) (sSeq (sExpr (dMeth isL mAppend (dVar 5) (dCons (dGc (dWord exs__law_met hs__law_met fin__law_met (dCall f_zero_table (dCons (dC (.int 3)) (dCons (dC (.int 1)) (dCons (dVar 2) dNil)))))) dNil))) (sSeq (sExpr (dMeth isL mAppend (dVar 5) (dCons (dGc (dWord exs__law_met hs__law_met fin__law_met (dCall f_base_of (dCons (dVar 1) (dCons (dVar 2) (dCons (dVar 4) dNil)))))) dNil))) (sSeq (sExpr (dMeth isL mAppend (dVar 5) (dCons (dGc (dWord exs__law_met hs__law_met fin__law_met (dCall f_base_of (dCons (dC (.int 3)) (dCons (dVar 2) (dCons (dVar 4) dNil)))))) dNil))) (sSeq (sExpr (dMeth isL mAppend (dVar 5) (dCons (dGc (dWord exs__law_met hs__law_met fin__law_met (dCall f_base_of (dCons (dC (.int 3)) (dCons (dC (.int 2)) (dCons (dVar 4) dNil)))))) dNil))) (sSeq (sExpr (dMeth isL mAppend (dVar 5) (dCons (dGc (dWord exs__law_met hs__law_met fin__law_met (dCall f_free_rest (dCons (dVar 1) (dCons (dVar 2) (dCons (dVar 4) dNil)))))) dNil))) (sSeq (sExpr (dMeth isL mAppend (dVar 5) (dCons (dGc (dWord exs__law_met hs__law_met fin__law_met (dCall f_free_rest (dCons (dC (.int 3)) (dCons (dVar 2) (dCons (dVar 4) dNil)))))) dNil))) (sSeq (sExpr (dMeth isL mAppend (dVar 5) (dCons (dGc (dWord exs__law_met hs__law_met fin__law_met (dCall f_free_rest (dCons (dC (.int 3)) (dCons (dC (.int 2)) (dCons (dVar 4) dNil)))))) dNil))) (sSeq (sAsg (dBin oAdd (dC (.str "count ")) (dCallB (b1 fRepr) (dCons (dVar 2) dNil))) (gNm 6)) (sSeq (sAsg (dBin oAdd (dLst (dCons (dC (.str "prime")) (dCons (dVar 6) (dCons (dVar 6) (dCons (dC (.str "table")) (dCons (dC (.str "prime")) (dCons (dVar 6) (dCons (dC (.str "prime")) (dCons (dVar 6) dNil))))))))) (dBin oMulA (dLst (dCons (dC (.str "prime")) (dCons (dVar 6) (dCons (dC (.str "operation")) dNil)))) (dC (.int 2)))) (gNm 7)) (sRet (dGc (dBin oEq (dVar 5) (dVar 7))))))))))))))))))))))
def f__law_made_right : Fn := mkFn n__law_made_right.length b__law_made_right
theorem c__law_made_right : FnScope n__law_made_right ["_law_lot_here", "_law_prime", "_law_side"] (defScope (top 92)) := ⟨by kernel_rfl, by kernel_rfl, by kernel_rfl, d__law_made_right, by kernel_rfl, by decide +kernel, by decide +kernel⟩
theorem s__law_made_right {G : Glo} (h : Hy G) : PSsx ⟨G, 12, n__law_made_right, defScope (top 92), fun _ => true, some (("_law_made_right" : Str) ++ (".<locals>." : Str), codeF G.K ((fun K => ga K "_law_made_right") G.K)), true⟩ (defBody (top 92)) b__law_made_right := (pssx_cons (psx_asg (pex_cl (i__law_one_of h) (by kernel_rfl) (by kernel_rfl) (pax_cons (pex_v 0 (by kernel_rfl)) (pax_cons (pex_lst (pax_cons pex_non (pax_cons pex_int (pax_cons (pex_tup (pax_cons (pex_tup (pax_cons pex_int (pax_cons pex_int pax_nil))) (pax_cons (pex_tup (pax_cons pex_int pax_nil)) pax_nil))) (pax_cons (pex_lst (pax_cons (pex_tup (pax_cons pex_int (pax_cons pex_int pax_nil))) (pax_cons (pex_tup (pax_cons pex_int (pax_cons pex_int pax_nil))) pax_nil))) (pax_cons (pex_tup (pax_cons (pex_tup (pax_cons pex_int (pax_cons pex_int pax_nil))) pax_nil)) (pax_cons (pex_tup (pax_cons (pex_tup (pax_cons pex_int (pax_cons pex_int pax_nil))) (pax_cons (pex_tup (pax_cons pex_int (pax_cons pex_int pax_nil))) pax_nil))) (pax_cons (pex_tup (pax_cons (pex_tup (pax_cons pex_int (pax_cons (pex_un unx_neg pex_int) pax_nil))) (pax_cons (pex_tup (pax_cons pex_int (pax_cons pex_int pax_nil))) pax_nil))) (pax_cons (pex_tup (pax_cons (pex_tup (pax_cons pex_int (pax_cons pex_bl pax_nil))) (pax_cons (pex_tup (pax_cons pex_int (pax_cons pex_int pax_nil))) pax_nil))) (pax_cons (pex_tup (pax_cons (pex_tup (pax_cons pex_int (pax_cons pex_non pax_nil))) (pax_cons (pex_tup (pax_cons pex_int (pax_cons pex_int pax_nil))) pax_nil))) (pax_cons pex_str pax_nil))))))))))) pax_nil)) (ln1 (ln1 ln0))) (pgx_v d__law_made_right 3 (by kernel_rfl))) (pssx_cons (psx_asg (pex_cl (i__law_one_of h) (by kernel_rfl) (by kernel_rfl) (pax_cons (pex_v 0 (by kernel_rfl)) (pax_cons (pex_lst (pax_cons pex_non (pax_cons (pex_tup (pax_cons (pex_tup (pax_cons pex_int (pax_cons pex_int pax_nil))) (pax_cons (pex_tup (pax_cons pex_int pax_nil)) pax_nil))) (pax_cons (pex_lst (pax_cons (pex_tup (pax_cons pex_int (pax_cons pex_int pax_nil))) pax_nil)) (pax_cons (pex_tup (pax_cons (pex_tup (pax_cons pex_int (pax_cons pex_int pax_nil))) pax_nil)) (pax_cons (pex_tup (pax_cons (pex_tup (pax_cons pex_int (pax_cons pex_bl pax_nil))) pax_nil)) (pax_cons (pex_op opx_mulB (pex_tup (pax_cons (pex_tup (pax_cons pex_int (pax_cons pex_int pax_nil))) pax_nil)) pex_int) (pax_cons (pex_tup (pax_cons pex_int (pax_cons pex_int pax_nil))) (pax_cons (pex_tup (pax_cons (pex_lst (pax_cons pex_int (pax_cons pex_int pax_nil))) pax_nil)) pax_nil))))))))) pax_nil)) (ln1 (ln1 ln0))) (pgx_v d__law_made_right 4 (by kernel_rfl))) (pssx_cons (psx_asg (pex_lst (pax_cons (pex_drop (pex_word (k := 8) (w__law_met h) (sub__law_met h) rfl rfl (h.tbOk 1 50 rfl rfl) (by kernel_rfl) (by kernel_rfl) (by kernel_rfl) (pex_new (i_Table___init__ h) (by kernel_rfl) (by kernel_rfl) (pax_cons (pex_v 1 (by kernel_rfl)) (pax_cons (pex_v 2 (by kernel_rfl)) (pax_cons (pex_v 2 (by kernel_rfl)) (pax_cons (pex_v 3 (by kernel_rfl)) pax_nil)))) (ln1 (ln1 (ln1 (ln1 ln0))))))) pax_nil)) (pgx_v d__law_made_right 5 (by kernel_rfl))) (pssx_cons (psx_expr (pex_bm PySem.F.plainAttrs_list PySem.F.slot_list_append PySem.F.type_list_append mtx_append hckL (pex_v 5 (by kernel_rfl)) (pax_cons (pex_drop (pex_word (k := 8) (w__law_met h) (sub__law_met h) rfl rfl (h.tbOk 1 50 rfl rfl) (by kernel_rfl) (by kernel_rfl) (by kernel_rfl) (pex_new (i_Table___init__ h) (by kernel_rfl) (by kernel_rfl) (pax_cons pex_int (pax_cons (pex_v 2 (by kernel_rfl)) (pax_cons pex_non (pax_cons (pex_v 3 (by kernel_rfl)) pax_nil)))) (ln1 (ln1 (ln1 (ln1 ln0))))))) pax_nil))) (pssx_cons (psx_expr (pex_bm PySem.F.plainAttrs_list PySem.F.slot_list_append PySem.F.type_list_append mtx_append hckL (pex_v 5 (by kernel_rfl)) (pax_cons (pex_drop (pex_word (k := 8) (w__law_met h) (sub__law_met h) rfl rfl (h.tbOk 1 50 rfl rfl) (by kernel_rfl) (by kernel_rfl) (by kernel_rfl) (pex_new (i_Table___init__ h) (by kernel_rfl) (by kernel_rfl) (pax_cons pex_int (pax_cons pex_int (pax_cons (pex_v 2 (by kernel_rfl)) (pax_cons (pex_v 3 (by kernel_rfl)) pax_nil)))) (ln1 (ln1 (ln1 (ln1 ln0))))))) pax_nil))) (pssx_cons (psx_expr (pex_bm PySem.F.plainAttrs_list PySem.F.slot_list_append PySem.F.type_list_append mtx_append hckL (pex_v 5 (by kernel_rfl)) (pax_cons (pex_drop (pex_word (k := 8) (w__law_met h) (sub__law_met h) rfl rfl (h.tbOk 1 50 rfl rfl) (by kernel_rfl) (by kernel_rfl) (by kernel_rfl) (pex_new (i_Table___init__ h) (by kernel_rfl) (by kernel_rfl) (pax_cons pex_int (pax_cons pex_int (pax_cons pex_int (pax_cons (pex_v 3 (by kernel_rfl)) pax_nil)))) (ln1 (ln1 (ln1 (ln1 ln0))))))) pax_nil))) (pssx_cons (psx_expr (pex_bm PySem.F.plainAttrs_list PySem.F.slot_list_append PySem.F.type_list_append mtx_append hckL (pex_v 5 (by kernel_rfl)) (pax_cons (pex_drop (pex_word (k := 10) (w__law_met h) (sub__law_met h) rfl rfl (h.tbOk 1 50 rfl rfl) (by kernel_rfl) (by kernel_rfl) (by kernel_rfl) (pex_cl (i_idle_table h) (by kernel_rfl) (by kernel_rfl) (pax_cons (pex_v 1 (by kernel_rfl)) (pax_cons (pex_v 2 (by kernel_rfl)) pax_nil)) (ln1 (ln1 ln0))))) pax_nil))) (pssx_cons (psx_expr (pex_bm PySem.F.plainAttrs_list PySem.F.slot_list_append PySem.F.type_list_append mtx_append hckL (pex_v 5 (by kernel_rfl)) (pax_cons (pex_drop (pex_word (k := 10) (w__law_met h) (sub__law_met h) rfl rfl (h.tbOk 1 50 rfl rfl) (by kernel_rfl) (by kernel_rfl) (by kernel_rfl) (pex_cl (i_idle_table h) (by kernel_rfl) (by kernel_rfl) (pax_cons pex_int (pax_cons (pex_v 2 (by kernel_rfl)) pax_nil)) (ln1 (ln1 ln0))))) pax_nil))) (pssx_cons (psx_expr (pex_bm PySem.F.plainAttrs_list PySem.F.slot_list_append PySem.F.type_list_append mtx_append hckL (pex_v 5 (by kernel_rfl)) (pax_cons (pex_drop (pex_word (k := 10) (w__law_met h) (sub__law_met h) rfl rfl (h.tbOk 1 50 rfl rfl) (by kernel_rfl) (by kernel_rfl) (by kernel_rfl) (pex_cl (i_zero_table h) (by kernel_rfl) (by kernel_rfl) (pax_cons (pex_v 1 (by kernel_rfl)) (pax_cons (pex_v 2 (by kernel_rfl)) (pax_cons pex_non pax_nil))) (ln1 (ln1 (ln1 ln0)))))) pax_nil))) (pssx_cons (psx_expr (pex_bm PySem.F.plainAttrs_list PySem.F.slot_list_append PySem.F.type_list_append mtx_append hckL (pex_v 5 (by kernel_rfl)) (pax_cons (pex_drop (pex_word (k := 10) (w__law_met h) (sub__law_met h) rfl rfl (h.tbOk 1 50 rfl rfl) (by kernel_rfl) (by kernel_rfl) (by kernel_rfl) (pex_cl (i_zero_table h) (by kernel_rfl) (by kernel_rfl) (pax_cons pex_int (pax_cons pex_int (pax_cons (pex_v 2 (by kernel_rfl)) pax_nil))) (ln1 (ln1 (ln1 ln0)))))) pax_nil))) (pssx_cons (psx_expr (pex_bm PySem.F.plainAttrs_list PySem.F.slot_list_append PySem.F.type_list_append mtx_append hckL (pex_v 5 (by kernel_rfl)) (pax_cons (pex_drop (pex_word (k := 6) (w__law_met h) (sub__law_met h) rfl rfl (h.tbOk 1 50 rfl rfl) (by kernel_rfl) (by kernel_rfl) (by kernel_rfl) (pex_cl (i_base_of h) (by kernel_rfl) (by kernel_rfl) (pax_cons (pex_v 1 (by kernel_rfl)) (pax_cons (pex_v 2 (by kernel_rfl)) (pax_cons (pex_v 4 (by kernel_rfl)) pax_nil))) (ln1 (ln1 (ln1 ln0)))))) pax_nil))) (pssx_cons (psx_expr (pex_bm PySem.F.plainAttrs_list PySem.F.slot_list_append PySem.F.type_list_append mtx_append hckL (pex_v 5 (by kernel_rfl)) (pax_cons (pex_drop (pex_word (k := 6) (w__law_met h) (sub__law_met h) rfl rfl (h.tbOk 1 50 rfl rfl) (by kernel_rfl) (by kernel_rfl) (by kernel_rfl) (pex_cl (i_base_of h) (by kernel_rfl) (by kernel_rfl) (pax_cons pex_int (pax_cons (pex_v 2 (by kernel_rfl)) (pax_cons (pex_v 4 (by kernel_rfl)) pax_nil))) (ln1 (ln1 (ln1 ln0)))))) pax_nil))) (pssx_cons (psx_expr (pex_bm PySem.F.plainAttrs_list PySem.F.slot_list_append PySem.F.type_list_append mtx_append hckL (pex_v 5 (by kernel_rfl)) (pax_cons (pex_drop (pex_word (k := 6) (w__law_met h) (sub__law_met h) rfl rfl (h.tbOk 1 50 rfl rfl) (by kernel_rfl) (by kernel_rfl) (by kernel_rfl) (pex_cl (i_base_of h) (by kernel_rfl) (by kernel_rfl) (pax_cons pex_int (pax_cons pex_int (pax_cons (pex_v 4 (by kernel_rfl)) pax_nil))) (ln1 (ln1 (ln1 ln0)))))) pax_nil))) (pssx_cons (psx_expr (pex_bm PySem.F.plainAttrs_list PySem.F.slot_list_append PySem.F.type_list_append mtx_append hckL (pex_v 5 (by kernel_rfl)) (pax_cons (pex_drop (pex_word (k := 6) (w__law_met h) (sub__law_met h) rfl rfl (h.tbOk 1 50 rfl rfl) (by kernel_rfl) (by kernel_rfl) (by kernel_rfl) (pex_cl (i_free_rest h) (by kernel_rfl) (by kernel_rfl) (pax_cons (pex_v 1 (by kernel_rfl)) (pax_cons (pex_v 2 (by kernel_rfl)) (pax_cons (pex_v 4 (by kernel_rfl)) pax_nil))) (ln1 (ln1 (ln1 ln0)))))) pax_nil))) (pssx_cons (psx_expr (pex_bm PySem.F.plainAttrs_list PySem.F.slot_list_append PySem.F.type_list_append mtx_append hckL (pex_v 5 (by kernel_rfl)) (pax_cons (pex_drop (pex_word (k := 6) (w__law_met h) (sub__law_met h) rfl rfl (h.tbOk 1 50 rfl rfl) (by kernel_rfl) (by kernel_rfl) (by kernel_rfl) (pex_cl (i_free_rest h) (by kernel_rfl) (by kernel_rfl) (pax_cons pex_int (pax_cons (pex_v 2 (by kernel_rfl)) (pax_cons (pex_v 4 (by kernel_rfl)) pax_nil))) (ln1 (ln1 (ln1 ln0)))))) pax_nil))) (pssx_cons (psx_expr (pex_bm PySem.F.plainAttrs_list PySem.F.slot_list_append PySem.F.type_list_append mtx_append hckL (pex_v 5 (by kernel_rfl)) (pax_cons (pex_drop (pex_word (k := 6) (w__law_met h) (sub__law_met h) rfl rfl (h.tbOk 1 50 rfl rfl) (by kernel_rfl) (by kernel_rfl) (by kernel_rfl) (pex_cl (i_free_rest h) (by kernel_rfl) (by kernel_rfl) (pax_cons pex_int (pax_cons pex_int (pax_cons (pex_v 4 (by kernel_rfl)) pax_nil))) (ln1 (ln1 (ln1 ln0)))))) pax_nil))) (pssx_cons (psx_asg (pex_op opx_add pex_str (pex_bf (cx_repr rfl) (by kernel_rfl) (h.free 77 rfl) (pax_cons (pex_v 2 (by kernel_rfl)) pax_nil))) (pgx_v d__law_made_right 6 (by kernel_rfl))) (pssx_cons (psx_asg (pex_op opx_add (pex_lst (pax_cons pex_str (pax_cons (pex_v 6 (by kernel_rfl)) (pax_cons (pex_v 6 (by kernel_rfl)) (pax_cons pex_str (pax_cons pex_str (pax_cons (pex_v 6 (by kernel_rfl)) (pax_cons pex_str (pax_cons (pex_v 6 (by kernel_rfl)) pax_nil))))))))) (pex_op opx_mulA (pex_lst (pax_cons pex_str (pax_cons (pex_v 6 (by kernel_rfl)) (pax_cons pex_str pax_nil)))) pex_int)) (pgx_v d__law_made_right 7 (by kernel_rfl))) (pssx_one (psx_ret (pex_drop (pex_cmp opx_eq (pex_v 5 (by kernel_rfl)) (pex_v 7 (by kernel_rfl)) rfl))))))))))))))))))))))
theorem i__law_made_right {G : Glo} (h : Hy G) : FnIsG G 13 "_law_made_right" 3 f__law_made_right := h.fnIsG 29 93 rfl rfl rfl c__law_made_right rfl (fun _ _ _ _ _ _ us hl => match us, hl with | [_, _, _], _ => by kernel_rfl) (s__law_made_right h)
/-! power_in -/
def n_power_in : List Str := ["prime", "many", "found", "turn"]
theorem d_power_in : n_power_in.Nodup := by decide +kernel
def b_power_in : DS := (sSeq (sAsg (dC (.int 1)) (gNm 2)) (sSeq (sFor (iRng1 (dCons (dVar 1) dNil)) (gNm 3) (sAug 2 oIMul (dVar 0))) (sRet (dVar 2))))
def f_power_in : Fn := mkFn n_power_in.length b_power_in
theorem c_power_in : FnScope n_power_in ["prime", "many"] (defScope (top 80)) := ⟨by kernel_rfl, by kernel_rfl, by kernel_rfl, d_power_in, by kernel_rfl, by decide +kernel, by decide +kernel⟩
theorem s_power_in {G : Glo} (h : Hy G) : PSsx ⟨G, 0, n_power_in, defScope (top 80), fun _ => true, none, false⟩ (defBody (top 80)) b_power_in := (pssx_cons (psx_asg pex_int (pgx_v d_power_in 2 (by kernel_rfl))) (pssx_cons (psx_for (pix_range1 (by kernel_rfl) (h.free 71 rfl) (pax_cons (pex_v 1 (by kernel_rfl)) pax_nil)) (pgx_v d_power_in 3 (by kernel_rfl)) (pssx_one (psx_augv d_power_in 2 (by kernel_rfl) ipx_mul (pex_v 0 (by kernel_rfl))))) (pssx_one (psx_ret (pex_v 2 (by kernel_rfl))))))
theorem i_power_in {G : Glo} (h : Hy G) : FnIs G 1 "power_in" 2 f_power_in := h.fnIs 30 94 rfl rfl rfl c_power_in rfl (fun _ _ _ _ _ _ us hl => match us, hl with | [_, _], _ => by kernel_rfl) (s_power_in h)
/-! turn_number_in -/
def n_turn_number_in : List Str := ["prime", "size", "found", "whole", "at"]
theorem d_turn_number_in : n_turn_number_in.Nodup := by decide +kernel
def b_turn_number_in : DS := (sSeq (sAsg (dTup (dCons (dC (.int 1)) (dCons (dCall f_power_in (dCons (dVar 0) (dCons (dVar 1) dNil))) dNil))) (gTup 2 (gCons (gNm 2) (gCons (gNm 3) gNil)))) (sSeq (sFor (iRng1 (dCons (dVar 1) dNil)) (gNm 4) (sAug 2 oIMul (dBin oSubI (dVar 3) (dCall f_power_in (dCons (dVar 0) (dCons (dVar 4) dNil)))))) (sRet (dVar 2))))
def f_turn_number_in : Fn := mkFn n_turn_number_in.length b_turn_number_in
theorem c_turn_number_in : FnScope n_turn_number_in ["prime", "size"] (defScope (top 83)) := ⟨by kernel_rfl, by kernel_rfl, by kernel_rfl, d_turn_number_in, by kernel_rfl, by decide +kernel, by decide +kernel⟩
theorem s_turn_number_in {G : Glo} (h : Hy G) : PSsx ⟨G, 1, n_turn_number_in, defScope (top 83), fun _ => true, none, false⟩ (defBody (top 83)) b_turn_number_in := (pssx_cons (psx_par (i := 2) (j := 3) d_turn_number_in (by kernel_rfl) (by kernel_rfl) (by decide) (by kernel_rfl) (by kernel_rfl) (pax_cons pex_int (pax_cons (pex_cl (i_power_in h) (by kernel_rfl) (by kernel_rfl) (pax_cons (pex_v 0 (by kernel_rfl)) (pax_cons (pex_v 1 (by kernel_rfl)) pax_nil)) (ln1 (ln1 ln0))) pax_nil)) (fun env he => by cases env; dsimp only at he; subst he; kernel_rfl)) (pssx_cons (psx_for (pix_range1 (by kernel_rfl) (h.free 71 rfl) (pax_cons (pex_v 1 (by kernel_rfl)) pax_nil)) (pgx_v d_turn_number_in 4 (by kernel_rfl)) (pssx_one (psx_augv d_turn_number_in 2 (by kernel_rfl) ipx_mul (pex_op opx_subI (pex_v 3 (by kernel_rfl)) (pex_cl (i_power_in h) (by kernel_rfl) (by kernel_rfl) (pax_cons (pex_v 0 (by kernel_rfl)) (pax_cons (pex_v 4 (by kernel_rfl)) pax_nil)) (ln1 (ln1 ln0))))))) (pssx_one (psx_ret (pex_v 2 (by kernel_rfl))))))
theorem i_turn_number_in {G : Glo} (h : Hy G) : FnIs G 2 "turn_number_in" 2 f_turn_number_in := h.fnIs 31 95 rfl rfl rfl c_turn_number_in rfl (fun _ _ _ _ _ _ us hl => match us, hl with | [_, _], _ => by kernel_rfl) (s_turn_number_in h)
/-! turn_number -/
def n_turn_number : List Str := ["prime", "size"]
theorem d_turn_number : n_turn_number.Nodup := by decide +kernel
def b_turn_number : DS := (sSeq (sExpr (dCall f_require_prime (dCons (dVar 0) dNil))) (sSeq (sExpr (dCall f_require_to (dCons (dVar 1) (dCons (dC (.int (36))) dNil)))) (sRet (dCall f_turn_number_in (dCons (dVar 0) (dCons (dVar 1) dNil))))))
def f_turn_number : Fn := mkFn n_turn_number.length b_turn_number
theorem c_turn_number : FnScope n_turn_number ["prime", "size"] (defScope (top 82)) := ⟨by kernel_rfl, by kernel_rfl, by kernel_rfl, d_turn_number, by kernel_rfl, by decide +kernel, by decide +kernel⟩
theorem s_turn_number {G : Glo} (h : Hy G) : PSsx ⟨G, 3, n_turn_number, defScope (top 82), fun _ => true, none, false⟩ (defBody (top 82)) b_turn_number := (pssx_cons (psx_expr (pex_cl (i_require_prime h) (by kernel_rfl) (by kernel_rfl) (pax_cons (pex_v 0 (by kernel_rfl)) pax_nil) (ln1 ln0))) (pssx_cons (psx_expr (pex_cl (i_require_to h) (by kernel_rfl) (by kernel_rfl) (pax_cons (pex_v 1 (by kernel_rfl)) (pax_cons (pex_gi (by kernel_rfl) (h.int 34 rfl)) pax_nil)) (ln1 (ln1 ln0)))) (pssx_one (psx_ret (pex_cl (i_turn_number_in h) (by kernel_rfl) (by kernel_rfl) (pax_cons (pex_v 0 (by kernel_rfl)) (pax_cons (pex_v 1 (by kernel_rfl)) pax_nil)) (ln1 (ln1 ln0)))))))
theorem i_turn_number {G : Glo} (h : Hy G) : FnIs G 4 "turn_number" 2 f_turn_number := h.fnIs 32 96 rfl rfl rfl c_turn_number rfl (fun _ _ _ _ _ _ us hl => match us, hl with | [_, _], _ => by kernel_rfl) (s_turn_number h)
theorem sh_TooMany : XsShape (defArgs (inner (top 9) 0)) (defBody (inner (top 9) 0)) (defScope (inner (top 9) 0)) "limit" "limit" "a limit is passed" := xs_shape (by kernel_rfl) (by kernel_rfl) (by kernel_rfl) (by intros; kernel_rfl)
theorem x_TooMany {G : Glo} (h : Hy G) : XsC G.P G.K (G.ad 7) "limit" "limit" "a limit is passed" := h.xs 97 33 (b := .ovf) (x := "TooMany") rfl rfl rfl rfl sh_TooMany
/-! turns -/
def n_turns : List Str := ["prime", "size", "rows"]
theorem d_turns : n_turns.Nodup := by decide +kernel
def b_turns : GD := (gSeq (gPl (sExpr (dCall f_require_prime (dCons (dVar 0) dNil)))) (gSeq (gPl (sExpr (dCall f_require_to (dCons (dVar 1) (dCons (dC (.int (36))) dNil))))) (gSeq (gPl (sIf (dTstB (dBin oGtI (dCall f_turn_number_in (dCons (dVar 0) (dCons (dVar 1) dNil))) (dC (.int (20000))))) (rX1 7 "limit" (dC (.int (20000)))) sNext)) (gSeq gNv gEnd))))
def f_turns : GFn1 := mkGn n_turns.length b_turns
theorem c_turns : GScope n_turns ["prime", "size"] (defScope (top 85)) := ⟨by kernel_rfl, by kernel_rfl, by kernel_rfl, d_turns, by kernel_rfl, by decide +kernel, by decide +kernel⟩
theorem s_turns {G : Glo} (h : Hy G) : PYsx ⟨G, 3, n_turns, defScope (top 85), fun _ => true, none, false⟩ (defBody (top 85)) b_turns := (pysx_cons (pyx_pl (psx_expr (pex_cl (i_require_prime h) (by kernel_rfl) (by kernel_rfl) (pax_cons (pex_v 0 (by kernel_rfl)) pax_nil) (ln1 ln0)))) (pysx_cons (pyx_pl (psx_expr (pex_cl (i_require_to h) (by kernel_rfl) (by kernel_rfl) (pax_cons (pex_v 1 (by kernel_rfl)) (pax_cons (pex_gi (by kernel_rfl) (h.int 34 rfl)) pax_nil)) (ln1 (ln1 ln0))))) (pysx_cons (pyx_pl (psx_if (ptx_cmp opx_gtI (pex_cl (i_turn_number_in h) (by kernel_rfl) (by kernel_rfl) (pax_cons (pex_v 0 (by kernel_rfl)) (pax_cons (pex_v 1 (by kernel_rfl)) pax_nil)) (ln1 (ln1 ln0))) (pex_gi (by kernel_rfl) (h.int 68 rfl)) rfl) (pssx_one (psx_raise1 (x_TooMany h) (by kernel_rfl) (gc_of h 78 (c := 7) rfl rfl) (h.free 32 rfl) (htop h (by kernel_rfl)) (by kernel_rfl) (pex_gi (by kernel_rfl) (h.int 68 rfl)))) pssx_nil)) (pysx_cons pyx_never pysx_nil))))
theorem i_turns {G : Glo} (h : Hy G) : GnIs G 4 "turns" 2 f_turns := h.gnIs 34 98 rfl rfl rfl c_turns rfl (fun _ _ _ _ _ _ us hl => match us, hl with | [_, _], _ => by kernel_rfl) (s_turns h)
/-! is_within -/
def n_is_within : List Str := ["value", "least", "most"]
theorem d_is_within : n_is_within.Nodup := by decide +kernel
def b_is_within : DS := (sRet (dAndV (dCall f_is_integer (dCons (dVar 0) dNil)) (dChain oLeI oLeI (dVar 1) (dVar 0) (dVar 2))))
def f_is_within : Fn := mkFn n_is_within.length b_is_within
theorem c_is_within : FnScope n_is_within ["value", "least", "most"] (defScope (top 41)) := ⟨by kernel_rfl, by kernel_rfl, by kernel_rfl, d_is_within, by kernel_rfl, by decide +kernel, by decide +kernel⟩
theorem s_is_within {G : Glo} (h : Hy G) : PSsx ⟨G, 2, n_is_within, defScope (top 41), fun _ => true, none, false⟩ (defBody (top 41)) b_is_within := (pssx_one (psx_ret (pex_and (pex_cl (i_is_integer h) (by kernel_rfl) (by kernel_rfl) (pax_cons (pex_v 0 (by kernel_rfl)) pax_nil) (ln1 ln0)) (pex_one (pex_chain opx_leI opx_leI (pex_v 1 (by kernel_rfl)) (pex_v 0 (by kernel_rfl)) (pex_v 2 (by kernel_rfl)) rfl)))))
theorem i_is_within {G : Glo} (h : Hy G) : FnIs G 3 "is_within" 3 f_is_within := h.fnIs 35 101 rfl rfl rfl c_is_within rfl (fun _ _ _ _ _ _ us hl => match us, hl with | [_, _, _], _ => by kernel_rfl) (s_is_within h)
/-! require_within -/
def n_require_within : List Str := ["value", "least", "most"]
theorem d_require_within : n_require_within.Nodup := by decide +kernel
def b_require_within : DS := (sIf (tNot1 (dTst (dCall f_is_within (dCons (dVar 0) (dCons (dVar 1) (dCons (dVar 2) dNil)))))) (rX1 5 "value" (dVar 0)) sNext)
def f_require_within : Fn := mkFn n_require_within.length b_require_within
theorem c_require_within : FnScope n_require_within ["value", "least", "most"] (defScope (top 42)) := ⟨by kernel_rfl, by kernel_rfl, by kernel_rfl, d_require_within, by kernel_rfl, by decide +kernel, by decide +kernel⟩
theorem s_require_within {G : Glo} (h : Hy G) : PSsx ⟨G, 3, n_require_within, defScope (top 42), fun _ => true, none, false⟩ (defBody (top 42)) b_require_within := (pssx_one (psx_if (ptx_not (ptx_truth (pex_cl (i_is_within h) (by kernel_rfl) (by kernel_rfl) (pax_cons (pex_v 0 (by kernel_rfl)) (pax_cons (pex_v 1 (by kernel_rfl)) (pax_cons (pex_v 2 (by kernel_rfl)) pax_nil))) (ln1 (ln1 (ln1 ln0)))))) (pssx_one (psx_raise1 (x_InvalidCount h) (by kernel_rfl) (gc_of h 30 (c := 5) rfl rfl) (h.free 32 rfl) (htop h (by kernel_rfl)) (by kernel_rfl) (pex_v 0 (by kernel_rfl)))) pssx_nil))
theorem i_require_within {G : Glo} (h : Hy G) : FnIs G 4 "require_within" 3 f_require_within := h.fnIs 36 102 rfl rfl rfl c_require_within rfl (fun _ _ _ _ _ _ us hl => match us, hl with | [_, _, _], _ => by kernel_rfl) (s_require_within h)
/-! trimmed -/
def n_trimmed : List Str := ["numbers", "size"]
theorem d_trimmed : n_trimmed.Nodup := by decide +kernel
def b_trimmed : DS := (sSeq (sAsg (dCallB (b1 fLen) (dCons (dVar 0) dNil)) (gNm 1)) (sSeq (sWhile (tAnd2 (dTstB (dBin oGtI (dVar 1) (dC (.int 0)))) (dTstB (dBin oEq (dBin oIx (dVar 0) (dBin oSubI (dVar 1) (dC (.int 1)))) (dC (.int 0))))) (sAug 1 oSubI (dC (.int 1)))) (sRet (dCallB (b1 fList) (dCons (dSl (dVar 0) pNo (pAt (dVar 1))) dNil)))))
def f_trimmed : Fn := mkFn n_trimmed.length b_trimmed
theorem c_trimmed : FnScope n_trimmed ["numbers"] (defScope (top 29)) := ⟨by kernel_rfl, by kernel_rfl, by kernel_rfl, d_trimmed, by kernel_rfl, by decide +kernel, by decide +kernel⟩
theorem s_trimmed {G : Glo} (h : Hy G) : PSsx ⟨G, 0, n_trimmed, defScope (top 29), fun _ => true, none, false⟩ (defBody (top 29)) b_trimmed := (pssx_cons (psx_asg (pex_bf cx_len (by kernel_rfl) (h.free 36 rfl) (pax_cons (pex_v 0 (by kernel_rfl)) pax_nil)) (pgx_v d_trimmed 1 (by kernel_rfl))) (pssx_cons (psx_while (PWx.pt (pwx_and (ptx_cmp opx_gtI (pex_v 1 (by kernel_rfl)) pex_int rfl) (pwx_and1 (ptx_cmp opx_eq (pex_ix (pex_v 0 (by kernel_rfl)) (pex_op opx_subI (pex_v 1 (by kernel_rfl)) pex_int)) pex_int rfl)))) (pssx_one (psx_augv d_trimmed 1 (by kernel_rfl) ipx_sub pex_int))) (pssx_one (psx_ret (pex_bt cx_list (by kernel_rfl) (h.free 47 rfl) (pax_cons (pex_sl (pex_v 0 (by kernel_rfl)) pox_no (pox_at (pex_v 1 (by kernel_rfl)))) pax_nil))))))
theorem i_trimmed {G : Glo} (h : Hy G) : FnIs G 1 "trimmed" 1 f_trimmed := h.fnIs 37 114 rfl rfl rfl c_trimmed rfl (fun _ _ _ _ _ _ us hl => match us, hl with | [_], _ => by kernel_rfl) (s_trimmed h)
/-! numbers_told -/
def n_numbers_told : List Str := ["value", "entry"]
theorem d_numbers_told : n_numbers_told.Nodup := by decide +kernel
def b_numbers_told : DS := (sSeq (sIf (dTst (dCallB (bIsiC 2 [2, 3, 1, 0]) (dCons (dVar 0) (dCons (dC (.st 2)) dNil)))) (sRet (dFld [(2, 0)] (dVar 0))) sNext) (sSeq (sIf (tOr2 (tNot1 (dTst (dCallB (orB bIsi (bIsiN [2, 3, 1, 0])) (dCons (dVar 0) (dCons (dC (.ty "tuple")) dNil))))) (tOr2 (dTstB (dBin oGtI (dCallB (b1 fLen) (dCons (dVar 0) dNil)) (dBin oAdd (dC (.int (100))) (dC (.int 1))))) (tNot1 (dTst (dCallB (b1 fAll) (dCons (dLc (iSeq (dVar 0)) (gNm 1) tYes1 (dCall f_is_integer (dCons (dVar 1) dNil)) ([("entry", 1)].map (·.2))) dNil)))))) (rX0 10) sNext) (sRet (dCall f_trimmed (dCons (dVar 0) dNil)))))
def f_numbers_told : Fn := mkFn n_numbers_told.length b_numbers_told
theorem c_numbers_told : FnScope n_numbers_told ["value"] (defScope (top 45)) := ⟨by kernel_rfl, by kernel_rfl, by kernel_rfl, d_numbers_told, by kernel_rfl, by decide +kernel, by decide +kernel⟩
theorem s_numbers_told {G : Glo} (h : Hy G) : PSsx ⟨G, 2, n_numbers_told, defScope (top 45), fun _ => true, none, false⟩ (defBody (top 45)) b_numbers_told := (pssx_cons (psx_if (ptx_truth (pex_bf (cx_isiC (IsiIs.add (IsiIs.add (IsiIs.add (h.isi1 108 rfl rfl (h.isiOne 9 10 107 (c := 2) (c' := 0) rfl rfl rfl rfl rfl rfl)) (h.isiOne 6 7 106 (c := 2) (c' := 1) rfl rfl rfl rfl rfl rfl)) (h.isiOne 3 4 105 (c := 2) (c' := 3) rfl rfl rfl rfl rfl rfl)) (h.isiOne 0 1 104 (c := 2) (c' := 2) rfl rfl rfl rfl rfl rfl))) (by kernel_rfl) (h.free 14 rfl) (pax_cons (pex_v 0 (by kernel_rfl)) (pax_cons (pex_gc (by kernel_rfl) (gc_of h 109 (c := 2) rfl rfl)) pax_nil)))) (pssx_one (psx_ret (pex_fld (h.fld1 0 110 (c := 2) rfl rfl rfl) (pex_v 0 (by kernel_rfl))))) pssx_nil) (pssx_cons (psx_if (PWx.pt (pwx_or (ptx_not (ptx_truth (pex_bf (CallRx.or cx_isi (cx_isiN (IsiNo.add (IsiNo.add (IsiNo.add (h.isiNo1 0 1 17 (c := 2) rfl rfl rfl rfl) (h.isiNo1 3 4 18 (c := 3) rfl rfl rfl rfl)) (h.isiNo1 6 7 19 (c := 1) rfl rfl rfl rfl)) (h.isiNo1 9 10 20 (c := 0) rfl rfl rfl rfl)))) (by kernel_rfl) (h.free 14 rfl) (pax_cons (pex_v 0 (by kernel_rfl)) (pax_cons (pex_tyn (by kernel_rfl) (h.free 35 rfl)) pax_nil))))) (pwx_or (ptx_cmp opx_gtI (pex_bf cx_len (by kernel_rfl) (h.free 36 rfl) (pax_cons (pex_v 0 (by kernel_rfl)) pax_nil)) (pex_op opx_add (pex_gi (by kernel_rfl) (h.int 111 rfl)) pex_int) rfl) (pwx_or1 (ptx_not (ptx_truth (pex_bf cx_all (by kernel_rfl) (h.free 38 rfl) (pax_cons (pex_lc d_numbers_told (pix_seq (pex_v 0 (by kernel_rfl))) (own := [("entry", 1)]) (by kernel_rfl) (pgx_v d_numbers_told 1 (by kernel_rfl)) ptsx_nil (pex_cl (i_is_integer h) (by kernel_rfl) (by kernel_rfl) (pax_cons (pex_v 1 (by kernel_rfl)) pax_nil) (ln1 ln0)) (by decide)) pax_nil)))))))) (pssx_one (psx_raise0 (h.x0 113 (c := 10) rfl rfl) (by kernel_rfl) (gc_of h 112 (c := 10) rfl rfl))) pssx_nil) (pssx_one (psx_ret (pex_cl (i_trimmed h) (by kernel_rfl) (by kernel_rfl) (pax_cons (pex_v 0 (by kernel_rfl)) pax_nil) (ln1 ln0))))))
theorem i_numbers_told {G : Glo} (h : Hy G) : FnIs G 3 "numbers_told" 1 f_numbers_told := h.fnIs 38 115 rfl rfl rfl c_numbers_told rfl (fun _ _ _ _ _ _ us hl => match us, hl with | [_], _ => by kernel_rfl) (s_numbers_told h)
/-! content_of -/
def n_content_of : List Str := ["one", "found", "entry"]
theorem d_content_of : n_content_of.Nodup := by decide +kernel
def b_content_of : DS := (sSeq (sAsg (dC (.int 0)) (gNm 1)) (sSeq (sFor (iSeq (dVar 0)) (gNm 2) (sAsg (dCallB (b2 fGcd) (dCons (dVar 1) (dCons (dVar 2) dNil))) (gNm 1))) (sRet (dVar 1))))
def f_content_of : Fn := mkFn n_content_of.length b_content_of
theorem c_content_of : FnScope n_content_of ["one"] (defScope (top 33)) := ⟨by kernel_rfl, by kernel_rfl, by kernel_rfl, d_content_of, by kernel_rfl, by decide +kernel, by decide +kernel⟩
theorem s_content_of {G : Glo} (h : Hy G) : PSsx ⟨G, 0, n_content_of, defScope (top 33), fun _ => true, none, false⟩ (defBody (top 33)) b_content_of := (pssx_cons (psx_asg pex_int (pgx_v d_content_of 1 (by kernel_rfl))) (pssx_cons (psx_for (pix_seq (pex_v 0 (by kernel_rfl))) (pgx_v d_content_of 2 (by kernel_rfl)) (pssx_one (psx_asg (pex_bm2 cx_gcd (by kernel_rfl) (h.bi 117 rfl) (pax_cons (pex_v 1 (by kernel_rfl)) (pax_cons (pex_v 2 (by kernel_rfl)) pax_nil))) (pgx_v d_content_of 1 (by kernel_rfl))))) (pssx_one (psx_ret (pex_v 1 (by kernel_rfl))))))
theorem i_content_of {G : Glo} (h : Hy G) : FnIs G 1 "content_of" 1 f_content_of := h.fnIs 39 118 rfl rfl rfl c_content_of rfl (fun _ _ _ _ _ _ us hl => match us, hl with | [_], _ => by kernel_rfl) (s_content_of h)
/-! Poly.__init__ -/
def n_Poly___init__ : List Str := ["self", "coefficients"]
theorem d_Poly___init__ : n_Poly___init__.Nodup := by decide +kernel
def b_Poly___init__ : DS := (sSeq (sFld [(3, 0)] (dVar 0) (dCallB (b1 fTuple) (dCons (dCall f_numbers_told (dCons (dVar 1) dNil)) dNil))) (sFld [(3, 1)] (dVar 0) (dCall f_content_of (dCons (dFld [(3, 0)] (dVar 0)) dNil))))
def f_Poly___init__ : Fn := mkFn n_Poly___init__.length b_Poly___init__
theorem c_Poly___init__ : FnScope n_Poly___init__ ["self", "coefficients"] (defScope (inner (top 46) 1)) := ⟨by kernel_rfl, by kernel_rfl, by kernel_rfl, d_Poly___init__, by kernel_rfl, by decide +kernel, by decide +kernel⟩
theorem s_Poly___init__ {G : Glo} (h : Hy G) : PSsx ⟨G, 3, n_Poly___init__, defScope (inner (top 46) 1), fun _ => true, none, false⟩ (defBody (inner (top 46) 1)) b_Poly___init__ := (pssx_cons (psx_fld (h.fld1 3 116 (c := 3) rfl rfl rfl) (pex_v 0 (by kernel_rfl)) (pex_bt cx_tuple (by kernel_rfl) (h.free 35 rfl) (pax_cons (pex_cl (i_numbers_told h) (by kernel_rfl) (by kernel_rfl) (pax_cons (pex_v 1 (by kernel_rfl)) pax_nil) (ln1 ln0)) pax_nil))) (pssx_one (psx_fld (h.fld1 3 119 (c := 3) rfl rfl rfl) (pex_v 0 (by kernel_rfl)) (pex_cl (i_content_of h) (by kernel_rfl) (by kernel_rfl) (pax_cons (pex_fld (h.fld1 3 116 (c := 3) rfl rfl rfl) (pex_v 0 (by kernel_rfl))) pax_nil) (ln1 ln0)))))
theorem a_Poly___init__ {G : Glo} (h : Hy G) : FnA G 4 (ma G.K (ga G.K "Poly") "__init__") 2 f_Poly___init__ := h.fnA 40 rfl c_Poly___init__ rfl (fun _ _ _ _ _ _ us hl => match us, hl with | [_, _], _ => by kernel_rfl) (s_Poly___init__ h)
theorem i_Poly___init__ {G : Glo} (h : Hy G) : MkIs G 4 3 "Poly" 2 f_Poly___init__ := h.mkI 120 121 rfl rfl rfl (a_Poly___init__ h)
/-! Kept.__init__ -/
def n_Kept___init__ : List Str := ["self", "numbers"]
theorem d_Kept___init__ : n_Kept___init__.Nodup := by decide +kernel
def b_Kept___init__ : DS := (sFld [(2, 0)] (dVar 0) (dVar 1))
def f_Kept___init__ : Fn := mkFn n_Kept___init__.length b_Kept___init__
theorem c_Kept___init__ : FnScope n_Kept___init__ ["self", "numbers"] (defScope (inner (top 44) 1)) := ⟨by kernel_rfl, by kernel_rfl, by kernel_rfl, d_Kept___init__, by kernel_rfl, by decide +kernel, by decide +kernel⟩
theorem s_Kept___init__ {G : Glo} (h : Hy G) : PSsx ⟨G, 0, n_Kept___init__, defScope (inner (top 44) 1), fun _ => true, none, false⟩ (defBody (inner (top 44) 1)) b_Kept___init__ := (pssx_one (psx_fld (h.fld1 0 110 (c := 2) rfl rfl rfl) (pex_v 0 (by kernel_rfl)) (pex_v 1 (by kernel_rfl))))
theorem a_Kept___init__ {G : Glo} (h : Hy G) : FnA G 1 (ma G.K (ga G.K "Kept") "__init__") 2 f_Kept___init__ := h.fnA 41 rfl c_Kept___init__ rfl (fun _ _ _ _ _ _ us hl => match us, hl with | [_, _], _ => by kernel_rfl) (s_Kept___init__ h)
theorem i_Kept___init__ {G : Glo} (h : Hy G) : MkIs G 1 2 "Kept" 2 f_Kept___init__ := h.mkI 122 109 rfl rfl rfl (a_Kept___init__ h)
/-! poly_of -/
def n_poly_of : List Str := ["numbers"]
theorem d_poly_of : n_poly_of.Nodup := by decide +kernel
def b_poly_of : DS := (sRet (dMk 3 f_Poly___init__ (dCons (dMk 2 f_Kept___init__ (dCons (dVar 0) dNil)) dNil)))
def f_poly_of : Fn := mkFn n_poly_of.length b_poly_of
theorem c_poly_of : FnScope n_poly_of ["numbers"] (defScope (top 47)) := ⟨by kernel_rfl, by kernel_rfl, by kernel_rfl, d_poly_of, by kernel_rfl, by decide +kernel, by decide +kernel⟩
theorem s_poly_of {G : Glo} (h : Hy G) : PSsx ⟨G, 5, n_poly_of, defScope (top 47), fun _ => true, none, false⟩ (defBody (top 47)) b_poly_of := (pssx_one (psx_ret (pex_new (i_Poly___init__ h) (by kernel_rfl) (by kernel_rfl) (pax_cons (pex_new (i_Kept___init__ h) (by kernel_rfl) (by kernel_rfl) (pax_cons (pex_v 0 (by kernel_rfl)) pax_nil) (ln1 ln0)) pax_nil) (ln1 ln0))))
theorem i_poly_of {G : Glo} (h : Hy G) : FnIs G 6 "poly_of" 1 f_poly_of := h.fnIs 42 123 rfl rfl rfl c_poly_of rfl (fun _ _ _ _ _ _ us hl => match us, hl with | [_], _ => by kernel_rfl) (s_poly_of h)
/-! divided -/
def n_divided : List Str := ["one", "other", "left", "found", "ahead", "factor", "place", "entry"]
theorem d_divided : n_divided.Nodup := by decide +kernel
def b_divided : DS := (sSeq (sAsg (dTup (dCons (dCallB (b1 fList) (dCons (dVar 0) dNil)) (dCons (dBin oMulA (dLst (dCons (dC (.int 0)) dNil)) (dCallB (b2 fMax2) (dCons (dC (.int 0)) (dCons (dBin oAdd (dBin oSubI (dCallB (b1 fLen) (dCons (dVar 0) dNil)) (dCallB (b1 fLen) (dCons (dVar 1) dNil))) (dC (.int 1))) dNil)))) dNil))) (gTup 2 (gCons (gNm 2) (gCons (gNm 3) gNil)))) (sSeq (sFor (iRngD (dCons (dBin oSubI (dCallB (b1 fLen) (dCons (dVar 0) dNil)) (dCallB (b1 fLen) (dCons (dVar 1) dNil))) (dCons (dUn oNeg (dC (.int 1))) (dCons (dUn oNeg (dC (.int 1))) dNil)))) (gNm 4) (sSeq (sAsg (dBin oDivI (dBin oIx (dVar 2) (dBin oSubI (dBin oAdd (dVar 4) (dCallB (b1 fLen) (dCons (dVar 1) dNil))) (dC (.int 1)))) (dBin oIx (dVar 1) (dUn oNeg (dC (.int 1))))) (gNm 5)) (sSeq (sAsg (dVar 5) (gSb (dVar 3) (dVar 4))) (sIf (dTstB (dBin oNe (dVar 5) (dC (.int 0)))) (sFor (iEnum (dCons (dVar 1) dNil)) (gTup 2 (gCons (gNm 6) (gCons (gNm 7) gNil))) (sAugS (dVar 2) (dBin oAdd (dVar 4) (dVar 6)) oSubI (dBin oMulA (dVar 5) (dVar 7)))) sNext)))) (sRet (dCall f_trimmed (dCons (dVar 3) dNil)))))
def f_divided : Fn := mkFn n_divided.length b_divided
theorem c_divided : FnScope n_divided ["one", "other"] (defScope (top 34)) := ⟨by kernel_rfl, by kernel_rfl, by kernel_rfl, d_divided, by kernel_rfl, by decide +kernel, by decide +kernel⟩
theorem s_divided {G : Glo} (h : Hy G) : PSsx ⟨G, 1, n_divided, defScope (top 34), fun _ => true, none, false⟩ (defBody (top 34)) b_divided := (pssx_cons (psx_par (i := 2) (j := 3) d_divided (by kernel_rfl) (by kernel_rfl) (by decide) (by kernel_rfl) (by kernel_rfl) (pax_cons (pex_bt cx_list (by kernel_rfl) (h.free 47 rfl) (pax_cons (pex_v 0 (by kernel_rfl)) pax_nil)) (pax_cons (pex_op opx_mulA (pex_lst (pax_cons pex_int pax_nil)) (pex_bf cx_max2 (by kernel_rfl) (h.free 70 rfl) (pax_cons pex_int (pax_cons (pex_op opx_add (pex_op opx_subI (pex_bf cx_len (by kernel_rfl) (h.free 36 rfl) (pax_cons (pex_v 0 (by kernel_rfl)) pax_nil)) (pex_bf cx_len (by kernel_rfl) (h.free 36 rfl) (pax_cons (pex_v 1 (by kernel_rfl)) pax_nil))) pex_int) pax_nil)))) pax_nil)) (fun env he => by cases env; dsimp only at he; subst he; kernel_rfl)) (pssx_cons (psx_for (pix_rangeD (by kernel_rfl) (h.free 71 rfl) (pax_cons (pex_op opx_subI (pex_bf cx_len (by kernel_rfl) (h.free 36 rfl) (pax_cons (pex_v 0 (by kernel_rfl)) pax_nil)) (pex_bf cx_len (by kernel_rfl) (h.free 36 rfl) (pax_cons (pex_v 1 (by kernel_rfl)) pax_nil))) (pax_cons (pex_un unx_neg pex_int) (pax_cons (pex_un unx_neg pex_int) pax_nil)))) (pgx_v d_divided 4 (by kernel_rfl)) (pssx_cons (psx_asg (pex_op opx_divI (pex_ix (pex_v 2 (by kernel_rfl)) (pex_op opx_subI (pex_op opx_add (pex_v 4 (by kernel_rfl)) (pex_bf cx_len (by kernel_rfl) (h.free 36 rfl) (pax_cons (pex_v 1 (by kernel_rfl)) pax_nil))) pex_int)) (pex_ix (pex_v 1 (by kernel_rfl)) (pex_un unx_neg pex_int))) (pgx_v d_divided 5 (by kernel_rfl))) (pssx_cons (psx_asg (pex_v 5 (by kernel_rfl)) (pgx_sb (pex_v 3 (by kernel_rfl)) (pex_v 4 (by kernel_rfl)))) (pssx_one (psx_if (ptx_cmp opx_ne (pex_v 5 (by kernel_rfl)) pex_int rfl) (pssx_one (psx_for (pix_enum (by kernel_rfl) (h.free 52 rfl) (pax_cons (pex_v 1 (by kernel_rfl)) pax_nil)) (pgx_tup (pgsx_cons (pgx_v d_divided 6 (by kernel_rfl)) (pgsx_cons (pgx_v d_divided 7 (by kernel_rfl)) pgsx_nil))) (pssx_one (psx_augS (pex_v 2 (by kernel_rfl)) (pex_op opx_add (pex_v 4 (by kernel_rfl)) (pex_v 6 (by kernel_rfl))) ipx_sub (pex_op opx_mulA (pex_v 5 (by kernel_rfl)) (pex_v 7 (by kernel_rfl))))))) pssx_nil))))) (pssx_one (psx_ret (pex_cl (i_trimmed h) (by kernel_rfl) (by kernel_rfl) (pax_cons (pex_v 3 (by kernel_rfl)) pax_nil) (ln1 ln0))))))
theorem i_divided {G : Glo} (h : Hy G) : FnIs G 2 "divided" 2 f_divided := h.fnIs 43 124 rfl rfl rfl c_divided rfl (fun _ _ _ _ _ _ us hl => match us, hl with | [_, _], _ => by kernel_rfl) (s_divided h)
/-! product_of -/
def n_product_of : List Str := ["one", "other", "found", "place", "number", "step", "entry"]
theorem d_product_of : n_product_of.Nodup := by decide +kernel
def b_product_of : DS := (sSeq (sAsg (dBin oMulA (dLst (dCons (dC (.int 0)) dNil)) (dCallB (b2 fMax2) (dCons (dC (.int 0)) (dCons (dBin oSubI (dBin oAdd (dCallB (b1 fLen) (dCons (dVar 0) dNil)) (dCallB (b1 fLen) (dCons (dVar 1) dNil))) (dC (.int 1))) dNil)))) (gNm 2)) (sSeq (sFor (iEnum (dCons (dVar 0) dNil)) (gTup 2 (gCons (gNm 3) (gCons (gNm 4) gNil))) (sIf (dTstB (dBin oNe (dVar 4) (dC (.int 0)))) (sFor (iEnum (dCons (dVar 1) dNil)) (gTup 2 (gCons (gNm 5) (gCons (gNm 6) gNil))) (sAugS (dVar 2) (dBin oAdd (dVar 3) (dVar 5)) oAddI (dBin oMulA (dVar 4) (dVar 6)))) sNext)) (sRet (dCall f_trimmed (dCons (dVar 2) dNil)))))
def f_product_of : Fn := mkFn n_product_of.length b_product_of
theorem c_product_of : FnScope n_product_of ["one", "other"] (defScope (top 31)) := ⟨by kernel_rfl, by kernel_rfl, by kernel_rfl, d_product_of, by kernel_rfl, by decide +kernel, by decide +kernel⟩
theorem s_product_of {G : Glo} (h : Hy G) : PSsx ⟨G, 1, n_product_of, defScope (top 31), fun _ => true, none, false⟩ (defBody (top 31)) b_product_of := (pssx_cons (psx_asg (pex_op opx_mulA (pex_lst (pax_cons pex_int pax_nil)) (pex_bf cx_max2 (by kernel_rfl) (h.free 70 rfl) (pax_cons pex_int (pax_cons (pex_op opx_subI (pex_op opx_add (pex_bf cx_len (by kernel_rfl) (h.free 36 rfl) (pax_cons (pex_v 0 (by kernel_rfl)) pax_nil)) (pex_bf cx_len (by kernel_rfl) (h.free 36 rfl) (pax_cons (pex_v 1 (by kernel_rfl)) pax_nil))) pex_int) pax_nil)))) (pgx_v d_product_of 2 (by kernel_rfl))) (pssx_cons (psx_for (pix_enum (by kernel_rfl) (h.free 52 rfl) (pax_cons (pex_v 0 (by kernel_rfl)) pax_nil)) (pgx_tup (pgsx_cons (pgx_v d_product_of 3 (by kernel_rfl)) (pgsx_cons (pgx_v d_product_of 4 (by kernel_rfl)) pgsx_nil))) (pssx_one (psx_if (ptx_cmp opx_ne (pex_v 4 (by kernel_rfl)) pex_int rfl) (pssx_one (psx_for (pix_enum (by kernel_rfl) (h.free 52 rfl) (pax_cons (pex_v 1 (by kernel_rfl)) pax_nil)) (pgx_tup (pgsx_cons (pgx_v d_product_of 5 (by kernel_rfl)) (pgsx_cons (pgx_v d_product_of 6 (by kernel_rfl)) pgsx_nil))) (pssx_one (psx_augS (pex_v 2 (by kernel_rfl)) (pex_op opx_add (pex_v 3 (by kernel_rfl)) (pex_v 5 (by kernel_rfl))) ipx_add (pex_op opx_mulA (pex_v 4 (by kernel_rfl)) (pex_v 6 (by kernel_rfl))))))) pssx_nil))) (pssx_one (psx_ret (pex_cl (i_trimmed h) (by kernel_rfl) (by kernel_rfl) (pax_cons (pex_v 2 (by kernel_rfl)) pax_nil) (ln1 ln0))))))
theorem i_product_of {G : Glo} (h : Hy G) : FnIs G 2 "product_of" 2 f_product_of := h.fnIs 44 125 rfl rfl rfl c_product_of rfl (fun _ _ _ _ _ _ us hl => match us, hl with | [_, _], _ => by kernel_rfl) (s_product_of h)
/-! gauss_numbers -/
def n_gauss_numbers : List Str := ["top", "low", "found", "step", "above", "under"]
theorem d_gauss_numbers : n_gauss_numbers.Nodup := by decide +kernel
def b_gauss_numbers : DS := (sSeq (sAsg (dLst (dCons (dC (.int 1)) dNil)) (gNm 2)) (sSeq (sFor (iRng1 (dCons (dVar 1) dNil)) (gNm 3) (sSeq (sAsg (dTup (dCons (dLst (dCons (dUn oNeg (dC (.int 1))) (dStar (dBin oMulA (dLst (dCons (dC (.int 0)) dNil)) (dBin oSubI (dBin oSubI (dVar 0) (dVar 3)) (dC (.int 1)))) (dCons (dC (.int 1)) dNil)))) (dCons (dLst (dCons (dUn oNeg (dC (.int 1))) (dStar (dBin oMulA (dLst (dCons (dC (.int 0)) dNil)) (dVar 3)) (dCons (dC (.int 1)) dNil)))) dNil))) (gTup 2 (gCons (gNm 4) (gCons (gNm 5) gNil)))) (sAsg (dCall f_divided (dCons (dCall f_product_of (dCons (dVar 2) (dCons (dVar 4) dNil))) (dCons (dVar 5) dNil))) (gNm 2)))) (sRet (dVar 2))))
def f_gauss_numbers : Fn := mkFn n_gauss_numbers.length b_gauss_numbers
theorem c_gauss_numbers : FnScope n_gauss_numbers ["top", "low"] (defScope (top 35)) := ⟨by kernel_rfl, by kernel_rfl, by kernel_rfl, d_gauss_numbers, by kernel_rfl, by decide +kernel, by decide +kernel⟩
theorem s_gauss_numbers {G : Glo} (h : Hy G) : PSsx ⟨G, 2, n_gauss_numbers, defScope (top 35), fun _ => true, none, false⟩ (defBody (top 35)) b_gauss_numbers := (pssx_cons (psx_asg (pex_lst (pax_cons pex_int pax_nil)) (pgx_v d_gauss_numbers 2 (by kernel_rfl))) (pssx_cons (psx_for (pix_range1 (by kernel_rfl) (h.free 71 rfl) (pax_cons (pex_v 1 (by kernel_rfl)) pax_nil)) (pgx_v d_gauss_numbers 3 (by kernel_rfl)) (pssx_cons (psx_par (i := 4) (j := 5) d_gauss_numbers (by kernel_rfl) (by kernel_rfl) (by decide) (by kernel_rfl) (by kernel_rfl) (pax_cons (pex_lst (pax_cons (pex_un unx_neg pex_int) (pax_star (pex_op opx_mulA (pex_lst (pax_cons pex_int pax_nil)) (pex_op opx_subI (pex_op opx_subI (pex_v 0 (by kernel_rfl)) (pex_v 3 (by kernel_rfl))) pex_int)) (pax_cons pex_int pax_nil)))) (pax_cons (pex_lst (pax_cons (pex_un unx_neg pex_int) (pax_star (pex_op opx_mulA (pex_lst (pax_cons pex_int pax_nil)) (pex_v 3 (by kernel_rfl))) (pax_cons pex_int pax_nil)))) pax_nil)) (fun env he => by cases env; dsimp only at he; subst he; kernel_rfl)) (pssx_one (psx_asg (pex_cl (i_divided h) (by kernel_rfl) (by kernel_rfl) (pax_cons (pex_cl (i_product_of h) (by kernel_rfl) (by kernel_rfl) (pax_cons (pex_v 2 (by kernel_rfl)) (pax_cons (pex_v 4 (by kernel_rfl)) pax_nil)) (ln1 (ln1 ln0))) (pax_cons (pex_v 5 (by kernel_rfl)) pax_nil)) (ln1 (ln1 ln0))) (pgx_v d_gauss_numbers 2 (by kernel_rfl)))))) (pssx_one (psx_ret (pex_v 2 (by kernel_rfl))))))
theorem i_gauss_numbers {G : Glo} (h : Hy G) : FnIs G 3 "gauss_numbers" 2 f_gauss_numbers := h.fnIs 45 126 rfl rfl rfl c_gauss_numbers rfl (fun _ _ _ _ _ _ us hl => match us, hl with | [_, _], _ => by kernel_rfl) (s_gauss_numbers h)
/-! gauss -/
def n_gauss : List Str := ["top", "low"]
theorem d_gauss : n_gauss.Nodup := by decide +kernel
def b_gauss : DS := (sSeq (sExpr (dCall f_require_within (dCons (dVar 0) (dCons (dC (.int 0)) (dCons (dC (.int (12))) dNil))))) (sSeq (sExpr (dCall f_require_within (dCons (dVar 1) (dCons (dC (.int 0)) (dCons (dC (.int (12))) dNil))))) (sRet (dCall f_poly_of (dCons (dIf (dTstB (dBin oLeI (dVar 1) (dVar 0))) (dCall f_gauss_numbers (dCons (dVar 0) (dCons (dVar 1) dNil))) (dLst dNil)) dNil)))))
def f_gauss : Fn := mkFn n_gauss.length b_gauss
theorem c_gauss : FnScope n_gauss ["top", "low"] (defScope (top 49)) := ⟨by kernel_rfl, by kernel_rfl, by kernel_rfl, d_gauss, by kernel_rfl, by decide +kernel, by decide +kernel⟩
theorem s_gauss {G : Glo} (h : Hy G) : PSsx ⟨G, 6, n_gauss, defScope (top 49), fun _ => true, none, false⟩ (defBody (top 49)) b_gauss := (pssx_cons (psx_expr (pex_cl (i_require_within h) (by kernel_rfl) (by kernel_rfl) (pax_cons (pex_v 0 (by kernel_rfl)) (pax_cons pex_int (pax_cons (pex_gi (by kernel_rfl) (h.int 103 rfl)) pax_nil))) (ln1 (ln1 (ln1 ln0))))) (pssx_cons (psx_expr (pex_cl (i_require_within h) (by kernel_rfl) (by kernel_rfl) (pax_cons (pex_v 1 (by kernel_rfl)) (pax_cons pex_int (pax_cons (pex_gi (by kernel_rfl) (h.int 103 rfl)) pax_nil))) (ln1 (ln1 (ln1 ln0))))) (pssx_one (psx_ret (pex_cl (i_poly_of h) (by kernel_rfl) (by kernel_rfl) (pax_cons (pex_if (ptx_cmp opx_leI (pex_v 1 (by kernel_rfl)) (pex_v 0 (by kernel_rfl)) rfl) (pex_cl (i_gauss_numbers h) (by kernel_rfl) (by kernel_rfl) (pax_cons (pex_v 0 (by kernel_rfl)) (pax_cons (pex_v 1 (by kernel_rfl)) pax_nil)) (ln1 (ln1 ln0))) (pex_lst pax_nil)) pax_nil) (ln1 ln0))))))
theorem i_gauss {G : Glo} (h : Hy G) : FnIs G 7 "gauss" 2 f_gauss := h.fnIs 46 127 rfl rfl rfl c_gauss rfl (fun _ _ _ _ _ _ us hl => match us, hl with | [_, _], _ => by kernel_rfl) (s_gauss h)
/-! tables_of_rank -/
def n_tables_of_rank : List Str := ["height", "width", "rank", "side", "found", "at"]
theorem d_tables_of_rank : n_tables_of_rank.Nodup := by decide +kernel
def b_tables_of_rank : DS := (sSeq (sFor (iSeq (dTup (dCons (dVar 0) (dCons (dVar 1) (dCons (dVar 2) dNil))))) (gNm 3) (sExpr (dCall f_require_to (dCons (dVar 3) (dCons (dC (.int (12))) dNil))))) (sSeq (sAsg (dCall f_gauss (dCons (dVar 0) (dCons (dVar 2) dNil))) (gNm 4)) (sSeq (sFor (iRng1 (dCons (dVar 2) dNil)) (gNm 5) sNever) (sRet (dVar 4)))))
def f_tables_of_rank : Fn := mkFn n_tables_of_rank.length b_tables_of_rank
theorem c_tables_of_rank : FnScope n_tables_of_rank ["height", "width", "rank"] (defScope (top 86)) := ⟨by kernel_rfl, by kernel_rfl, by kernel_rfl, d_tables_of_rank, by kernel_rfl, by decide +kernel, by decide +kernel⟩
theorem s_tables_of_rank {G : Glo} (h : Hy G) : PSsx ⟨G, 7, n_tables_of_rank, defScope (top 86), fun _ => true, none, false⟩ (defBody (top 86)) b_tables_of_rank := (pssx_cons (psx_for (pix_seq (pex_tup (pax_cons (pex_v 0 (by kernel_rfl)) (pax_cons (pex_v 1 (by kernel_rfl)) (pax_cons (pex_v 2 (by kernel_rfl)) pax_nil))))) (pgx_v d_tables_of_rank 3 (by kernel_rfl)) (pssx_one (psx_expr (pex_cl (i_require_to h) (by kernel_rfl) (by kernel_rfl) (pax_cons (pex_v 3 (by kernel_rfl)) (pax_cons (pex_gi (by kernel_rfl) (h.int 100 rfl)) pax_nil)) (ln1 (ln1 ln0)))))) (pssx_cons (psx_asg (pex_cl (i_gauss h) (by kernel_rfl) (by kernel_rfl) (pax_cons (pex_v 0 (by kernel_rfl)) (pax_cons (pex_v 2 (by kernel_rfl)) pax_nil)) (ln1 (ln1 ln0))) (pgx_v d_tables_of_rank 4 (by kernel_rfl))) (pssx_cons (psx_for (pix_range1 (by kernel_rfl) (h.free 71 rfl) (pax_cons (pex_v 2 (by kernel_rfl)) pax_nil)) (pgx_v d_tables_of_rank 5 (by kernel_rfl)) (pssx_one psx_never)) (pssx_one (psx_ret (pex_v 4 (by kernel_rfl)))))))
theorem i_tables_of_rank {G : Glo} (h : Hy G) : FnIs G 8 "tables_of_rank" 3 f_tables_of_rank := h.fnIs 47 128 rfl rfl rfl c_tables_of_rank rfl (fun _ _ _ _ _ _ us hl => match us, hl with | [_, _, _], _ => by kernel_rfl) (s_tables_of_rank h)
/-! space_number -/
def n_space_number : List Str := ["prime", "height", "number", "top", "bottom", "at"]
theorem d_space_number : n_space_number.Nodup := by decide +kernel
def b_space_number : DS := (sSeq (sAsg (dTup (dCons (dC (.int 1)) (dCons (dC (.int 1)) dNil))) (gTup 2 (gCons (gNm 3) (gCons (gNm 4) gNil)))) (sSeq (sFor (iRng1 (dCons (dVar 2) dNil)) (gNm 5) (sSeq (sAug 3 oIMul (dBin oSubI (dCall f_power_in (dCons (dVar 0) (dCons (dVar 1) dNil))) (dCall f_power_in (dCons (dVar 0) (dCons (dVar 5) dNil))))) (sAug 4 oIMul (dBin oSubI (dCall f_power_in (dCons (dVar 0) (dCons (dVar 2) dNil))) (dCall f_power_in (dCons (dVar 0) (dCons (dVar 5) dNil))))))) (sRet (dIf (dTstB (dBin oLeI (dVar 2) (dVar 1))) (dBin oDivI (dVar 3) (dVar 4)) (dC (.int 0))))))
def f_space_number : Fn := mkFn n_space_number.length b_space_number
theorem c_space_number : FnScope n_space_number ["prime", "height", "number"] (defScope (top 79)) := ⟨by kernel_rfl, by kernel_rfl, by kernel_rfl, d_space_number, by kernel_rfl, by decide +kernel, by decide +kernel⟩
theorem s_space_number {G : Glo} (h : Hy G) : PSsx ⟨G, 1, n_space_number, defScope (top 79), fun _ => true, none, false⟩ (defBody (top 79)) b_space_number := (pssx_cons (psx_asgS (pex_tup (pax_cons pex_int (pax_cons pex_int pax_nil))) (pgx_tup (pgsx_cons (pgx_v d_space_number 3 (by kernel_rfl)) (pgsx_cons (pgx_v d_space_number 4 (by kernel_rfl)) pgsx_nil))) (fun _ _ => rfl) (fun env he => by cases env; dsimp only at he; subst he; kernel_rfl)) (pssx_cons (psx_for (pix_range1 (by kernel_rfl) (h.free 71 rfl) (pax_cons (pex_v 2 (by kernel_rfl)) pax_nil)) (pgx_v d_space_number 5 (by kernel_rfl)) (pssx_cons (psx_augv d_space_number 3 (by kernel_rfl) ipx_mul (pex_op opx_subI (pex_cl (i_power_in h) (by kernel_rfl) (by kernel_rfl) (pax_cons (pex_v 0 (by kernel_rfl)) (pax_cons (pex_v 1 (by kernel_rfl)) pax_nil)) (ln1 (ln1 ln0))) (pex_cl (i_power_in h) (by kernel_rfl) (by kernel_rfl) (pax_cons (pex_v 0 (by kernel_rfl)) (pax_cons (pex_v 5 (by kernel_rfl)) pax_nil)) (ln1 (ln1 ln0))))) (pssx_one (psx_augv d_space_number 4 (by kernel_rfl) ipx_mul (pex_op opx_subI (pex_cl (i_power_in h) (by kernel_rfl) (by kernel_rfl) (pax_cons (pex_v 0 (by kernel_rfl)) (pax_cons (pex_v 2 (by kernel_rfl)) pax_nil)) (ln1 (ln1 ln0))) (pex_cl (i_power_in h) (by kernel_rfl) (by kernel_rfl) (pax_cons (pex_v 0 (by kernel_rfl)) (pax_cons (pex_v 5 (by kernel_rfl)) pax_nil)) (ln1 (ln1 ln0)))))))) (pssx_one (psx_ret (pex_if (ptx_cmp opx_leI (pex_v 2 (by kernel_rfl)) (pex_v 1 (by kernel_rfl)) rfl) (pex_op opx_divI (pex_v 3 (by kernel_rfl)) (pex_v 4 (by kernel_rfl))) pex_int)))))
theorem i_space_number {G : Glo} (h : Hy G) : FnIs G 2 "space_number" 3 f_space_number := h.fnIs 48 129 rfl rfl rfl c_space_number rfl (fun _ _ _ _ _ _ us hl => match us, hl with | [_, _, _], _ => by kernel_rfl) (s_space_number h)
/-! spaces -/
def n_spaces : List Str := ["prime", "height", "number"]
theorem d_spaces : n_spaces.Nodup := by decide +kernel
def b_spaces : GD := (gSeq (gPl (sExpr (dCall f_require_prime (dCons (dVar 0) dNil)))) (gSeq (gPl (sExpr (dCall f_require_to (dCons (dVar 1) (dCons (dC (.int (12))) dNil))))) (gSeq (gPl (sExpr (dCall f_require_to (dCons (dVar 2) (dCons (dC (.int (12))) dNil))))) (gSeq (gPl (sIf (dTstB (dBin oGtI (dCall f_space_number (dCons (dVar 0) (dCons (dVar 1) (dCons (dVar 2) dNil)))) (dC (.int (3000))))) (rX1 7 "limit" (dC (.int (3000)))) sNext)) (gSeq gNv gEnd)))))
def f_spaces : GFn1 := mkGn n_spaces.length b_spaces
theorem c_spaces : GScope n_spaces ["prime", "height", "number"] (defScope (top 81)) := ⟨by kernel_rfl, by kernel_rfl, by kernel_rfl, d_spaces, by kernel_rfl, by decide +kernel, by decide +kernel⟩
theorem s_spaces {G : Glo} (h : Hy G) : PYsx ⟨G, 3, n_spaces, defScope (top 81), fun _ => true, none, false⟩ (defBody (top 81)) b_spaces := (pysx_cons (pyx_pl (psx_expr (pex_cl (i_require_prime h) (by kernel_rfl) (by kernel_rfl) (pax_cons (pex_v 0 (by kernel_rfl)) pax_nil) (ln1 ln0)))) (pysx_cons (pyx_pl (psx_expr (pex_cl (i_require_to h) (by kernel_rfl) (by kernel_rfl) (pax_cons (pex_v 1 (by kernel_rfl)) (pax_cons (pex_gi (by kernel_rfl) (h.int 100 rfl)) pax_nil)) (ln1 (ln1 ln0))))) (pysx_cons (pyx_pl (psx_expr (pex_cl (i_require_to h) (by kernel_rfl) (by kernel_rfl) (pax_cons (pex_v 2 (by kernel_rfl)) (pax_cons (pex_gi (by kernel_rfl) (h.int 100 rfl)) pax_nil)) (ln1 (ln1 ln0))))) (pysx_cons (pyx_pl (psx_if (ptx_cmp opx_gtI (pex_cl (i_space_number h) (by kernel_rfl) (by kernel_rfl) (pax_cons (pex_v 0 (by kernel_rfl)) (pax_cons (pex_v 1 (by kernel_rfl)) (pax_cons (pex_v 2 (by kernel_rfl)) pax_nil))) (ln1 (ln1 (ln1 ln0)))) (pex_gi (by kernel_rfl) (h.int 67 rfl)) rfl) (pssx_one (psx_raise1 (x_TooMany h) (by kernel_rfl) (gc_of h 78 (c := 7) rfl rfl) (h.free 32 rfl) (htop h (by kernel_rfl)) (by kernel_rfl) (pex_gi (by kernel_rfl) (h.int 67 rfl)))) pssx_nil)) (pysx_cons pyx_never pysx_nil)))))
theorem i_spaces {G : Glo} (h : Hy G) : GnIs G 4 "spaces" 3 f_spaces := h.gnIs 49 130 rfl rfl rfl c_spaces rfl (fun _ _ _ _ _ _ us hl => match us, hl with | [_, _, _], _ => by kernel_rfl) (s_spaces h)
/-! _law_listed_right -/
def n__law_listed_right : List Str := ["_law_lot_here", "_law_prime", "_law_side", "_law_high", "_law_size", "_law_told", "_law_word", "_law_far"]
theorem d__law_listed_right : n__law_listed_right.Nodup := by decide +kernel
def b__law_listed_right : DS := (sSeq (sAsg (dCall f__law_one_of (dCons (dVar 0) (dCons (dLst (dCons (dC .non) (dCons (dUn oNeg (dC (.int 1))) (dCons (dC (.int 13)) (dCons (dC (.bl true)) (dCons (dC (.str "2")) (dCons (dBin oPowI (dC (.int 10)) (dC (.int 60))) dNil))))))) dNil))) (gNm 3)) (sSeq (sAsg (dCall f__law_one_of (dCons (dVar 0) (dCons (dLst (dCons (dTup (dCons (dC (.int 2)) (dCons (dC (.int 5)) dNil))) (dCons (dTup (dCons (dC (.int 3)) (dCons (dC (.int 4)) dNil))) (dCons (dTup (dCons (dC (.int 5)) (dCons (dC (.int 4)) dNil))) (dCons (dTup (dCons (dC (.int 7)) (dCons (dC (.int 3)) dNil))) (dCons (dTup (dCons (dC (.int 2)) (dCons (dC (.int 36)) dNil))) (dCons (dTup (dCons (dC (.int 5)) (dCons (dC (.int 3)) dNil))) dNil))))))) dNil))) (gNm 4)) (sSeq (sAsg (dLst (dCons (dGc (dWord exs__law_met hs__law_met fin__law_met (dCall f_turn_number (dCons (dVar 1) (dCons (dVar 2) dNil))))) dNil)) (gNm 5)) (sSeq (sExpr (dMeth isL mAppend (dVar 5) (dCons (dGc (dWord exs__law_met hs__law_met fin__law_met (dCall f_turn_number (dCons (dC (.int 3)) (dCons (dVar 2) dNil))))) dNil))) (sSeq (sExpr (dMeth isL mAppend (dVar 5) (dCons (dGc (dWord exs__law_met hs__law_met fin__law_met (dListG [9, 5, 8, 10, 4, 6, 7] f_turns (dCons (dVar 1) (dCons (dVar 2) dNil))))) dNil))) (sSeq (sExpr (dMeth isL mAppend (dVar 5) (dCons (dGc (dWord exs__law_met hs__law_met fin__law_met (dListG [9, 5, 8, 10, 4, 6, 7] f_turns (dCons (dC (.int 3)) (dCons (dVar 2) dNil))))) dNil))) (sSeq (sExpr (dMeth isL mAppend (dVar 5) (dCons (dGc (dWord exs__law_met hs__law_met fin__law_met (dListG [9, 5, 8, 10, 4, 6, 7] f_turns (dCons (dBin oIx (dVar 4) (dC (.int 0))) (dCons (dBin oIx (dVar 4) (dC (.int 1))) dNil))))) dNil))) (sSeq (sExpr (dMeth isL mAppend (dVar 5) (dCons (dGc (dWord exs__law_met hs__law_met fin__law_met (dCall f_tables_of_rank (dCons (dVar 3) (dCons (dC .non) (dCons (dVar 2) dNil)))))) dNil))) (sSeq (sExpr (dMeth isL mAppend (dVar 5) (dCons (dGc (dWord exs__law_met hs__law_met fin__law_met (dCall f_tables_of_rank (dCons (dC (.int 1)) (dCons (dVar 3) (dCons (dC .non) dNil)))))) dNil))) (sSeq (sExpr (dMeth isL mAppend (dVar 5) (dCons (dGc (dWord exs__law_met hs__law_met fin__law_met (dCall f_tables_of_rank (dCons (dC (.int 1)) (dCons (dC (.int 1)) (dCons (dVar 3) dNil)))))) dNil))) (sSeq (sExpr (dMeth isL mAppend (dVar 5) (dCons (dGc (dWord exs__law_met hs__law_met fin__law_met (dListG [9, 5, 8, 10, 4, 6, 7] f_spaces (dCons (dVar 1) (dCons (dVar 3) (dCons (dC .non) dNil)))))) dNil))) (sSeq (sExpr (dMeth isL mAppend (dVar 5) (dCons (dGc (dWord exs__law_met hs__law_met fin__law_met (dListG [9, 5, 8, 10, 4, 6, 7] f_spaces (dCons (dC (.int 3)) (dCons (dVar 3) (dCons (dC .non) dNil)))))) dNil))) (sSeq (sExpr (dMeth isL mAppend (dVar 5) (dCons (dGc (dWord exs__law_met hs__law_met fin__law_met (dListG [9, 5, 8, 10, 4, 6, 7] f_spaces (dCons (dC (.int 3)) (dCons (dC (.int 2)) (dCons (dVar 3) dNil)))))) dNil))) (sSeq (sExpr (dMeth isL mAppend (dVar 5) (dCons (dNew (dWord exs__law_met hs__law_met fin__law_met (dListG [9, 5, 8, 10, 4, 6, 7] f_spaces (dCons (dC (.int 2)) (dCons (dC (.int 12)) (dCons (dC (.int 6)) dNil)))))) dNil))) (sSeq (sAsg (dTup (dCons (dBin oAdd (dC (.str "count ")) (dCallB (b1 fRepr) (dCons (dVar 2) dNil))) (dCons (dBin oAdd (dC (.str "count ")) (dCallB (b1 fRepr) (dCons (dVar 3) dNil))) dNil))) (gTup 2 (gCons (gNm 6) (gCons (gNm 7) gNil)))) (sRet (dGc (dBin oEq (dVar 5) (dLst (dCons (dC (.str "prime")) (dCons (dVar 6) (dCons (dC (.str "prime")) (dCons (dVar 6) (dCons (dC (.str "many 20000")) (dCons (dVar 7) (dCons (dVar 7) (dCons (dVar 7) (dCons (dC (.str "prime")) (dCons (dVar 7) (dCons (dVar 7) (dCons (dC (.str "many 3000")) dNil)))))))))))))))))))))))))))))))
def f__law_listed_right : Fn := mkFn n__law_listed_right.length b__law_listed_right
theorem c__law_listed_right : FnScope n__law_listed_right ["_law_lot_here", "_law_prime", "_law_side"] (defScope (top 93)) := ⟨by kernel_rfl, by kernel_rfl, by kernel_rfl, d__law_listed_right, by kernel_rfl, by decide +kernel, by decide +kernel⟩
theorem s__law_listed_right {G : Glo} (h : Hy G) : PSsx ⟨G, 10, n__law_listed_right, defScope (top 93), fun _ => true, some (("_law_listed_right" : Str) ++ (".<locals>." : Str), codeF G.K ((fun K => ga K "_law_listed_right") G.K)), true⟩ (defBody (top 93)) b__law_listed_right := (pssx_cons (psx_asg (pex_cl (i__law_one_of h) (by kernel_rfl) (by kernel_rfl) (pax_cons (pex_v 0 (by kernel_rfl)) (pax_cons (pex_lst (pax_cons pex_non (pax_cons (pex_un unx_neg pex_int) (pax_cons pex_int (pax_cons pex_bl (pax_cons pex_str (pax_cons (pex_op opx_powI pex_int pex_int) pax_nil))))))) pax_nil)) (ln1 (ln1 ln0))) (pgx_v d__law_listed_right 3 (by kernel_rfl))) (pssx_cons (psx_asg (pex_cl (i__law_one_of h) (by kernel_rfl) (by kernel_rfl) (pax_cons (pex_v 0 (by kernel_rfl)) (pax_cons (pex_lst (pax_cons (pex_tup (pax_cons pex_int (pax_cons pex_int pax_nil))) (pax_cons (pex_tup (pax_cons pex_int (pax_cons pex_int pax_nil))) (pax_cons (pex_tup (pax_cons pex_int (pax_cons pex_int pax_nil))) (pax_cons (pex_tup (pax_cons pex_int (pax_cons pex_int pax_nil))) (pax_cons (pex_tup (pax_cons pex_int (pax_cons pex_int pax_nil))) (pax_cons (pex_tup (pax_cons pex_int (pax_cons pex_int pax_nil))) pax_nil))))))) pax_nil)) (ln1 (ln1 ln0))) (pgx_v d__law_listed_right 4 (by kernel_rfl))) (pssx_cons (psx_asg (pex_lst (pax_cons (pex_drop (pex_word (k := 4) (w__law_met h) (sub__law_met h) rfl rfl (h.tbOk 2 50 rfl rfl) (by kernel_rfl) (by kernel_rfl) (by kernel_rfl) (pex_cl (i_turn_number h) (by kernel_rfl) (by kernel_rfl) (pax_cons (pex_v 1 (by kernel_rfl)) (pax_cons (pex_v 2 (by kernel_rfl)) pax_nil)) (ln1 (ln1 ln0))))) pax_nil)) (pgx_v d__law_listed_right 5 (by kernel_rfl))) (pssx_cons (psx_expr (pex_bm PySem.F.plainAttrs_list PySem.F.slot_list_append PySem.F.type_list_append mtx_append hckL (pex_v 5 (by kernel_rfl)) (pax_cons (pex_drop (pex_word (k := 4) (w__law_met h) (sub__law_met h) rfl rfl (h.tbOk 2 50 rfl rfl) (by kernel_rfl) (by kernel_rfl) (by kernel_rfl) (pex_cl (i_turn_number h) (by kernel_rfl) (by kernel_rfl) (pax_cons pex_int (pax_cons (pex_v 2 (by kernel_rfl)) pax_nil)) (ln1 (ln1 ln0))))) pax_nil))) (pssx_cons (psx_expr (pex_bm PySem.F.plainAttrs_list PySem.F.slot_list_append PySem.F.type_list_append mtx_append hckL (pex_v 5 (by kernel_rfl)) (pax_cons (pex_drop (pex_word (k := 7) (w__law_met h) (sub__law_met h) rfl rfl (h.tbOk 2 50 rfl rfl) (by kernel_rfl) (by kernel_rfl) (by kernel_rfl) (pex_listG (i_turns h) (by kernel_rfl) (by kernel_rfl) (by kernel_rfl) (h.free 47 rfl) (h.nst 99 (ns := [9, 5, 8, 10, 4, 6, 7]) rfl (by kernel_rfl)) (pax_cons (pex_v 1 (by kernel_rfl)) (pax_cons (pex_v 2 (by kernel_rfl)) pax_nil)) (ln1 (ln1 ln0))))) pax_nil))) (pssx_cons (psx_expr (pex_bm PySem.F.plainAttrs_list PySem.F.slot_list_append PySem.F.type_list_append mtx_append hckL (pex_v 5 (by kernel_rfl)) (pax_cons (pex_drop (pex_word (k := 7) (w__law_met h) (sub__law_met h) rfl rfl (h.tbOk 2 50 rfl rfl) (by kernel_rfl) (by kernel_rfl) (by kernel_rfl) (pex_listG (i_turns h) (by kernel_rfl) (by kernel_rfl) (by kernel_rfl) (h.free 47 rfl) (h.nst 99 (ns := [9, 5, 8, 10, 4, 6, 7]) rfl (by kernel_rfl)) (pax_cons pex_int (pax_cons (pex_v 2 (by kernel_rfl)) pax_nil)) (ln1 (ln1 ln0))))) pax_nil))) (pssx_cons (psx_expr (pex_bm PySem.F.plainAttrs_list PySem.F.slot_list_append PySem.F.type_list_append mtx_append hckL (pex_v 5 (by kernel_rfl)) (pax_cons (pex_drop (pex_word (k := 7) (w__law_met h) (sub__law_met h) rfl rfl (h.tbOk 2 50 rfl rfl) (by kernel_rfl) (by kernel_rfl) (by kernel_rfl) (pex_listG (i_turns h) (by kernel_rfl) (by kernel_rfl) (by kernel_rfl) (h.free 47 rfl) (h.nst 99 (ns := [9, 5, 8, 10, 4, 6, 7]) rfl (by kernel_rfl)) (pax_cons (pex_ix (pex_v 4 (by kernel_rfl)) pex_int) (pax_cons (pex_ix (pex_v 4 (by kernel_rfl)) pex_int) pax_nil)) (ln1 (ln1 ln0))))) pax_nil))) (pssx_cons (psx_expr (pex_bm PySem.F.plainAttrs_list PySem.F.slot_list_append PySem.F.type_list_append mtx_append hckL (pex_v 5 (by kernel_rfl)) (pax_cons (pex_drop (pex_word (k := 8) (w__law_met h) (sub__law_met h) rfl rfl (h.tbOk 2 50 rfl rfl) (by kernel_rfl) (by kernel_rfl) (by kernel_rfl) (pex_cl (i_tables_of_rank h) (by kernel_rfl) (by kernel_rfl) (pax_cons (pex_v 3 (by kernel_rfl)) (pax_cons pex_non (pax_cons (pex_v 2 (by kernel_rfl)) pax_nil))) (ln1 (ln1 (ln1 ln0)))))) pax_nil))) (pssx_cons (psx_expr (pex_bm PySem.F.plainAttrs_list PySem.F.slot_list_append PySem.F.type_list_append mtx_append hckL (pex_v 5 (by kernel_rfl)) (pax_cons (pex_drop (pex_word (k := 8) (w__law_met h) (sub__law_met h) rfl rfl (h.tbOk 2 50 rfl rfl) (by kernel_rfl) (by kernel_rfl) (by kernel_rfl) (pex_cl (i_tables_of_rank h) (by kernel_rfl) (by kernel_rfl) (pax_cons pex_int (pax_cons (pex_v 3 (by kernel_rfl)) (pax_cons pex_non pax_nil))) (ln1 (ln1 (ln1 ln0)))))) pax_nil))) (pssx_cons (psx_expr (pex_bm PySem.F.plainAttrs_list PySem.F.slot_list_append PySem.F.type_list_append mtx_append hckL (pex_v 5 (by kernel_rfl)) (pax_cons (pex_drop (pex_word (k := 8) (w__law_met h) (sub__law_met h) rfl rfl (h.tbOk 2 50 rfl rfl) (by kernel_rfl) (by kernel_rfl) (by kernel_rfl) (pex_cl (i_tables_of_rank h) (by kernel_rfl) (by kernel_rfl) (pax_cons pex_int (pax_cons pex_int (pax_cons (pex_v 3 (by kernel_rfl)) pax_nil))) (ln1 (ln1 (ln1 ln0)))))) pax_nil))) (pssx_cons (psx_expr (pex_bm PySem.F.plainAttrs_list PySem.F.slot_list_append PySem.F.type_list_append mtx_append hckL (pex_v 5 (by kernel_rfl)) (pax_cons (pex_drop (pex_word (k := 7) (w__law_met h) (sub__law_met h) rfl rfl (h.tbOk 2 50 rfl rfl) (by kernel_rfl) (by kernel_rfl) (by kernel_rfl) (pex_listG (i_spaces h) (by kernel_rfl) (by kernel_rfl) (by kernel_rfl) (h.free 47 rfl) (h.nst 99 (ns := [9, 5, 8, 10, 4, 6, 7]) rfl (by kernel_rfl)) (pax_cons (pex_v 1 (by kernel_rfl)) (pax_cons (pex_v 3 (by kernel_rfl)) (pax_cons pex_non pax_nil))) (ln1 (ln1 (ln1 ln0)))))) pax_nil))) (pssx_cons (psx_expr (pex_bm PySem.F.plainAttrs_list PySem.F.slot_list_append PySem.F.type_list_append mtx_append hckL (pex_v 5 (by kernel_rfl)) (pax_cons (pex_drop (pex_word (k := 7) (w__law_met h) (sub__law_met h) rfl rfl (h.tbOk 2 50 rfl rfl) (by kernel_rfl) (by kernel_rfl) (by kernel_rfl) (pex_listG (i_spaces h) (by kernel_rfl) (by kernel_rfl) (by kernel_rfl) (h.free 47 rfl) (h.nst 99 (ns := [9, 5, 8, 10, 4, 6, 7]) rfl (by kernel_rfl)) (pax_cons pex_int (pax_cons (pex_v 3 (by kernel_rfl)) (pax_cons pex_non pax_nil))) (ln1 (ln1 (ln1 ln0)))))) pax_nil))) (pssx_cons (psx_expr (pex_bm PySem.F.plainAttrs_list PySem.F.slot_list_append PySem.F.type_list_append mtx_append hckL (pex_v 5 (by kernel_rfl)) (pax_cons (pex_drop (pex_word (k := 7) (w__law_met h) (sub__law_met h) rfl rfl (h.tbOk 2 50 rfl rfl) (by kernel_rfl) (by kernel_rfl) (by kernel_rfl) (pex_listG (i_spaces h) (by kernel_rfl) (by kernel_rfl) (by kernel_rfl) (h.free 47 rfl) (h.nst 99 (ns := [9, 5, 8, 10, 4, 6, 7]) rfl (by kernel_rfl)) (pax_cons pex_int (pax_cons pex_int (pax_cons (pex_v 3 (by kernel_rfl)) pax_nil))) (ln1 (ln1 (ln1 ln0)))))) pax_nil))) (pssx_cons (psx_expr (pex_bm PySem.F.plainAttrs_list PySem.F.slot_list_append PySem.F.type_list_append mtx_append hckL (pex_v 5 (by kernel_rfl)) (pax_cons (pex_bare (pex_word (k := 7) (w__law_met h) (sub__law_met h) rfl rfl (h.tbOk 2 50 rfl rfl) (by kernel_rfl) (by kernel_rfl) (by kernel_rfl) (pex_listG (i_spaces h) (by kernel_rfl) (by kernel_rfl) (by kernel_rfl) (h.free 47 rfl) (h.nst 99 (ns := [9, 5, 8, 10, 4, 6, 7]) rfl (by kernel_rfl)) (pax_cons pex_int (pax_cons pex_int (pax_cons pex_int pax_nil))) (ln1 (ln1 (ln1 ln0)))))) pax_nil))) (pssx_cons (psx_par (i := 6) (j := 7) d__law_listed_right (by kernel_rfl) (by kernel_rfl) (by decide) (by kernel_rfl) (by kernel_rfl) (pax_cons (pex_op opx_add pex_str (pex_bf (cx_repr rfl) (by kernel_rfl) (h.free 77 rfl) (pax_cons (pex_v 2 (by kernel_rfl)) pax_nil))) (pax_cons (pex_op opx_add pex_str (pex_bf (cx_repr rfl) (by kernel_rfl) (h.free 77 rfl) (pax_cons (pex_v 3 (by kernel_rfl)) pax_nil))) pax_nil)) (fun env he => by cases env; dsimp only at he; subst he; kernel_rfl)) (pssx_one (psx_ret (pex_drop (pex_cmp opx_eq (pex_v 5 (by kernel_rfl)) (pex_lst (pax_cons pex_str (pax_cons (pex_v 6 (by kernel_rfl)) (pax_cons pex_str (pax_cons (pex_v 6 (by kernel_rfl)) (pax_cons pex_str (pax_cons (pex_v 7 (by kernel_rfl)) (pax_cons (pex_v 7 (by kernel_rfl)) (pax_cons (pex_v 7 (by kernel_rfl)) (pax_cons pex_str (pax_cons (pex_v 7 (by kernel_rfl)) (pax_cons (pex_v 7 (by kernel_rfl)) (pax_cons pex_str pax_nil))))))))))))) rfl)))))))))))))))))))
theorem i__law_listed_right {G : Glo} (h : Hy G) : FnIsG G 11 "_law_listed_right" 3 f__law_listed_right := h.fnIsG 50 131 rfl rfl rfl c__law_listed_right rfl (fun _ _ _ _ _ _ us hl => match us, hl with | [_, _, _], _ => by kernel_rfl) (s__law_listed_right h)
/-! require_table -/
def n_require_table : List Str := ["value"]
theorem d_require_table : n_require_table.Nodup := by decide +kernel
def b_require_table : DS := (sIf (tNot1 (dTst (dCallB (bIsiC 0 [2, 3, 1, 0]) (dCons (dVar 0) (dCons (dC (.st 0)) dNil))))) (rX0 6) sNext)
def f_require_table : Fn := mkFn n_require_table.length b_require_table
theorem c_require_table : FnScope n_require_table ["value"] (defScope (top 65)) := ⟨by kernel_rfl, by kernel_rfl, by kernel_rfl, d_require_table, by kernel_rfl, by decide +kernel, by decide +kernel⟩
theorem s_require_table {G : Glo} (h : Hy G) : PSsx ⟨G, 0, n_require_table, defScope (top 65), fun _ => true, none, false⟩ (defBody (top 65)) b_require_table := (pssx_one (psx_if (ptx_not (ptx_truth (pex_bf (cx_isiC (IsiIs.add (IsiIs.add (IsiIs.add (h.isi1 64 rfl rfl (h.isiOne 9 10 63 (c := 0) (c' := 0) rfl rfl rfl rfl rfl rfl)) (h.isiOne 6 7 62 (c := 0) (c' := 1) rfl rfl rfl rfl rfl rfl)) (h.isiOne 3 4 61 (c := 0) (c' := 3) rfl rfl rfl rfl rfl rfl)) (h.isiOne 0 1 60 (c := 0) (c' := 2) rfl rfl rfl rfl rfl rfl))) (by kernel_rfl) (h.free 14 rfl) (pax_cons (pex_v 0 (by kernel_rfl)) (pax_cons (pex_gc (by kernel_rfl) (gc_of h 59 (c := 0) rfl rfl)) pax_nil))))) (pssx_one (psx_raise0 (h.x0 42 (c := 6) rfl rfl) (by kernel_rfl) (gc_of h 41 (c := 6) rfl rfl))) pssx_nil))
theorem i_require_table {G : Glo} (h : Hy G) : FnIs G 1 "require_table" 1 f_require_table := h.fnIs 51 132 rfl rfl rfl c_require_table rfl (fun _ _ _ _ _ _ us hl => match us, hl with | [_], _ => by kernel_rfl) (s_require_table h)
/-! raw_mixed -/
def n_raw_mixed : List Str := ["prime", "one", "other", "factor", "line", "row", "left", "right"]
theorem d_raw_mixed : n_raw_mixed.Nodup := by decide +kernel
def b_raw_mixed : DS := (sRet (dCallB (b1 fTuple) (dCons (dLc (iZip (dCons (dVar 1) (dCons (dVar 2) dNil))) (gTup 2 (gCons (gNm 4) (gCons (gNm 5) gNil))) tYes1 (dCallB (b1 fTuple) (dCons (dLc (iZip (dCons (dVar 4) (dCons (dVar 5) dNil))) (gTup 2 (gCons (gNm 6) (gCons (gNm 7) gNil))) tYes1 (dBin oModI (dBin oAdd (dVar 6) (dBin oMulA (dVar 3) (dVar 7))) (dVar 0)) ([("left", 6), ("right", 7)].map (·.2))) dNil)) ([("line", 4), ("row", 5)].map (·.2))) dNil)))
def f_raw_mixed : Fn := mkFn n_raw_mixed.length b_raw_mixed
theorem c_raw_mixed : FnScope n_raw_mixed ["prime", "one", "other", "factor"] (defScope (top 17)) := ⟨by kernel_rfl, by kernel_rfl, by kernel_rfl, d_raw_mixed, by kernel_rfl, by decide +kernel, by decide +kernel⟩
theorem s_raw_mixed {G : Glo} (h : Hy G) : PSsx ⟨G, 0, n_raw_mixed, defScope (top 17), fun _ => true, none, false⟩ (defBody (top 17)) b_raw_mixed := (pssx_one (psx_ret (pex_bt cx_tuple (by kernel_rfl) (h.free 35 rfl) (pax_cons (pex_lc d_raw_mixed (pix_zip (by kernel_rfl) (h.free 48 rfl) (pax_cons (pex_v 1 (by kernel_rfl)) (pax_cons (pex_v 2 (by kernel_rfl)) pax_nil))) (own := [("line", 4), ("row", 5)]) (by kernel_rfl) (pgx_tup (pgsx_cons (pgx_v d_raw_mixed 4 (by kernel_rfl)) (pgsx_cons (pgx_v d_raw_mixed 5 (by kernel_rfl)) pgsx_nil))) ptsx_nil (pex_bt cx_tuple (by kernel_rfl) (h.free 35 rfl) (pax_cons (pex_lc d_raw_mixed (pix_zip (by kernel_rfl) (h.free 48 rfl) (pax_cons (pex_v 4 (by kernel_rfl)) (pax_cons (pex_v 5 (by kernel_rfl)) pax_nil))) (own := [("left", 6), ("right", 7)]) (by kernel_rfl) (pgx_tup (pgsx_cons (pgx_v d_raw_mixed 6 (by kernel_rfl)) (pgsx_cons (pgx_v d_raw_mixed 7 (by kernel_rfl)) pgsx_nil))) ptsx_nil (pex_op opx_modI (pex_op opx_add (pex_v 6 (by kernel_rfl)) (pex_op opx_mulA (pex_v 3 (by kernel_rfl)) (pex_v 7 (by kernel_rfl)))) (pex_v 0 (by kernel_rfl))) (by decide)) pax_nil)) (by decide)) pax_nil))))
theorem i_raw_mixed {G : Glo} (h : Hy G) : FnIs G 1 "raw_mixed" 4 f_raw_mixed := h.fnIs 52 133 rfl rfl rfl c_raw_mixed rfl (fun _ _ _ _ _ _ us hl => match us, hl with | [_, _, _, _], _ => by kernel_rfl) (s_raw_mixed h)
/-! mixed_in -/
def n_mixed_in : List Str := ["one", "other", "factor", "rows"]
theorem d_mixed_in : n_mixed_in.Nodup := by decide +kernel
def b_mixed_in : DS := (sSeq (sExpr (dCall f_require_table (dCons (dVar 1) dNil))) (sSeq (sIf (tOr2 (dTstB (dBin oNe (dFld [(0, 1)] (dVar 0)) (dFld [(0, 1)] (dVar 1)))) (tOr2 (dTstB (dBin oNe (dFld [(0, 0)] (dVar 0)) (dFld [(0, 0)] (dVar 1)))) (dTstB (dBin oNe (dFld [(0, 4)] (dVar 0)) (dFld [(0, 4)] (dVar 1)))))) (rX0 8) sNext) (sSeq (sAsg (dCall f_raw_mixed (dCons (dFld [(0, 1)] (dVar 0)) (dCons (dFld [(1, 0), (0, 3)] (dVar 0)) (dCons (dFld [(1, 0), (0, 3)] (dVar 1)) (dCons (dVar 2) dNil))))) (gNm 3)) (sRet (dCall f_table_made (dCons (dFld [(0, 1)] (dVar 0)) (dCons (dFld [(0, 0)] (dVar 0)) (dCons (dFld [(0, 4)] (dVar 0)) (dCons (dVar 3) dNil)))))))))
def f_mixed_in : Fn := mkFn n_mixed_in.length b_mixed_in
theorem c_mixed_in : FnScope n_mixed_in ["one", "other", "factor"] (defScope (top 66)) := ⟨by kernel_rfl, by kernel_rfl, by kernel_rfl, d_mixed_in, by kernel_rfl, by decide +kernel, by decide +kernel⟩
theorem s_mixed_in {G : Glo} (h : Hy G) : PSsx ⟨G, 9, n_mixed_in, defScope (top 66), fun _ => true, none, false⟩ (defBody (top 66)) b_mixed_in := (pssx_cons (psx_expr (pex_cl (i_require_table h) (by kernel_rfl) (by kernel_rfl) (pax_cons (pex_v 1 (by kernel_rfl)) pax_nil) (ln1 ln0))) (pssx_cons (psx_if (PWx.pt (pwx_or (ptx_cmp opx_ne (pex_fld (h.fld1 9 44 (c := 0) rfl rfl rfl) (pex_v 0 (by kernel_rfl))) (pex_fld (h.fld1 9 44 (c := 0) rfl rfl rfl) (pex_v 1 (by kernel_rfl))) rfl) (pwx_or (ptx_cmp opx_ne (pex_fld (h.fld1 9 45 (c := 0) rfl rfl rfl) (pex_v 0 (by kernel_rfl))) (pex_fld (h.fld1 9 45 (c := 0) rfl rfl rfl) (pex_v 1 (by kernel_rfl))) rfl) (pwx_or1 (ptx_cmp opx_ne (pex_fld (h.fld1 9 46 (c := 0) rfl rfl rfl) (pex_v 0 (by kernel_rfl))) (pex_fld (h.fld1 9 46 (c := 0) rfl rfl rfl) (pex_v 1 (by kernel_rfl))) rfl))))) (pssx_one (psx_raise0 (h.x0 88 (c := 8) rfl rfl) (by kernel_rfl) (gc_of h 80 (c := 8) rfl rfl))) pssx_nil) (pssx_cons (psx_asg (pex_cl (i_raw_mixed h) (by kernel_rfl) (by kernel_rfl) (pax_cons (pex_fld (h.fld1 9 44 (c := 0) rfl rfl rfl) (pex_v 0 (by kernel_rfl))) (pax_cons (pex_fld ((h.fld1 6 15 (c := 1) rfl rfl rfl).cons (h.fld1 9 16 (c := 0) rfl rfl rfl)) (pex_v 0 (by kernel_rfl))) (pax_cons (pex_fld ((h.fld1 6 15 (c := 1) rfl rfl rfl).cons (h.fld1 9 16 (c := 0) rfl rfl rfl)) (pex_v 1 (by kernel_rfl))) (pax_cons (pex_v 2 (by kernel_rfl)) pax_nil)))) (ln1 (ln1 (ln1 (ln1 ln0))))) (pgx_v d_mixed_in 3 (by kernel_rfl))) (pssx_one (psx_ret (pex_cl (i_table_made h) (by kernel_rfl) (by kernel_rfl) (pax_cons (pex_fld (h.fld1 9 44 (c := 0) rfl rfl rfl) (pex_v 0 (by kernel_rfl))) (pax_cons (pex_fld (h.fld1 9 45 (c := 0) rfl rfl rfl) (pex_v 0 (by kernel_rfl))) (pax_cons (pex_fld (h.fld1 9 46 (c := 0) rfl rfl rfl) (pex_v 0 (by kernel_rfl))) (pax_cons (pex_v 3 (by kernel_rfl)) pax_nil)))) (ln1 (ln1 (ln1 (ln1 ln0))))))))))
theorem i_mixed_in {G : Glo} (h : Hy G) : FnIs G 10 "mixed_in" 3 f_mixed_in := h.fnIs 53 134 rfl rfl rfl c_mixed_in rfl (fun _ _ _ _ _ _ us hl => match us, hl with | [_, _, _], _ => by kernel_rfl) (s_mixed_in h)
/-! Table.plus -/
def n_Table_plus : List Str := ["self", "other"]
theorem d_Table_plus : n_Table_plus.Nodup := by decide +kernel
def b_Table_plus : DS := (sRet (dCall f_mixed_in (dCons (dVar 0) (dCons (dVar 1) (dCons (dC (.int 1)) dNil)))))
def f_Table_plus : Fn := mkFn n_Table_plus.length b_Table_plus
theorem c_Table_plus : FnScope n_Table_plus ["self", "other"] (defScope (inner (top 63) 9)) := ⟨by kernel_rfl, by kernel_rfl, by kernel_rfl, d_Table_plus, by kernel_rfl, by decide +kernel, by decide +kernel⟩
theorem s_Table_plus {G : Glo} (h : Hy G) : PSsx ⟨G, 10, n_Table_plus, defScope (inner (top 63) 9), fun _ => true, none, false⟩ (defBody (inner (top 63) 9)) b_Table_plus := (pssx_one (psx_ret (pex_cl (i_mixed_in h) (by kernel_rfl) (by kernel_rfl) (pax_cons (pex_v 0 (by kernel_rfl)) (pax_cons (pex_v 1 (by kernel_rfl)) (pax_cons pex_int pax_nil))) (ln1 (ln1 (ln1 ln0))))))
theorem a_Table_plus {G : Glo} (h : Hy G) : FnA G 11 (ma G.K (ga G.K "Table") "plus") 2 f_Table_plus := h.fnA 54 rfl c_Table_plus rfl (fun _ _ _ _ _ _ us hl => match us, hl with | [_, _], _ => by kernel_rfl) (s_Table_plus h)
theorem i_Table_plus {G : Glo} (h : Hy G) : MtIs G 11 0 "plus" 2 f_Table_plus := h.mt 9 135 rfl rfl rfl (a_Table_plus h)
/-! Table.minus -/
def n_Table_minus : List Str := ["self", "other"]
theorem d_Table_minus : n_Table_minus.Nodup := by decide +kernel
def b_Table_minus : DS := (sRet (dCall f_mixed_in (dCons (dVar 0) (dCons (dVar 1) (dCons (dUn oNeg (dC (.int 1))) dNil)))))
def f_Table_minus : Fn := mkFn n_Table_minus.length b_Table_minus
theorem c_Table_minus : FnScope n_Table_minus ["self", "other"] (defScope (inner (top 63) 10)) := ⟨by kernel_rfl, by kernel_rfl, by kernel_rfl, d_Table_minus, by kernel_rfl, by decide +kernel, by decide +kernel⟩
theorem s_Table_minus {G : Glo} (h : Hy G) : PSsx ⟨G, 10, n_Table_minus, defScope (inner (top 63) 10), fun _ => true, none, false⟩ (defBody (inner (top 63) 10)) b_Table_minus := (pssx_one (psx_ret (pex_cl (i_mixed_in h) (by kernel_rfl) (by kernel_rfl) (pax_cons (pex_v 0 (by kernel_rfl)) (pax_cons (pex_v 1 (by kernel_rfl)) (pax_cons (pex_un unx_neg pex_int) pax_nil))) (ln1 (ln1 (ln1 ln0))))))
theorem a_Table_minus {G : Glo} (h : Hy G) : FnA G 11 (ma G.K (ga G.K "Table") "minus") 2 f_Table_minus := h.fnA 55 rfl c_Table_minus rfl (fun _ _ _ _ _ _ us hl => match us, hl with | [_, _], _ => by kernel_rfl) (s_Table_minus h)
theorem i_Table_minus {G : Glo} (h : Hy G) : MtIs G 11 0 "minus" 2 f_Table_minus := h.mt 9 136 rfl rfl rfl (a_Table_minus h)
/-! raw_swapped -/
def n_raw_swapped : List Str := ["rows", "width", "at", "row"]
theorem d_raw_swapped : n_raw_swapped.Nodup := by decide +kernel
def b_raw_swapped : DS := (sRet (dCallB (b1 fTuple) (dCons (dLc (iRng1 (dCons (dVar 1) dNil)) (gNm 2) tYes1 (dCallB (b1 fTuple) (dCons (dLc (iSeq (dVar 0)) (gNm 3) tYes1 (dBin oIx (dVar 3) (dVar 2)) ([("row", 3)].map (·.2))) dNil)) ([("at", 2)].map (·.2))) dNil)))
def f_raw_swapped : Fn := mkFn n_raw_swapped.length b_raw_swapped
theorem c_raw_swapped : FnScope n_raw_swapped ["rows", "width"] (defScope (top 18)) := ⟨by kernel_rfl, by kernel_rfl, by kernel_rfl, d_raw_swapped, by kernel_rfl, by decide +kernel, by decide +kernel⟩
theorem s_raw_swapped {G : Glo} (h : Hy G) : PSsx ⟨G, 0, n_raw_swapped, defScope (top 18), fun _ => true, none, false⟩ (defBody (top 18)) b_raw_swapped := (pssx_one (psx_ret (pex_bt cx_tuple (by kernel_rfl) (h.free 35 rfl) (pax_cons (pex_lc d_raw_swapped (pix_range1 (by kernel_rfl) (h.free 71 rfl) (pax_cons (pex_v 1 (by kernel_rfl)) pax_nil)) (own := [("at", 2)]) (by kernel_rfl) (pgx_v d_raw_swapped 2 (by kernel_rfl)) ptsx_nil (pex_bt cx_tuple (by kernel_rfl) (h.free 35 rfl) (pax_cons (pex_lc d_raw_swapped (pix_seq (pex_v 0 (by kernel_rfl))) (own := [("row", 3)]) (by kernel_rfl) (pgx_v d_raw_swapped 3 (by kernel_rfl)) ptsx_nil (pex_ix (pex_v 3 (by kernel_rfl)) (pex_v 2 (by kernel_rfl))) (by decide)) pax_nil)) (by decide)) pax_nil))))
theorem i_raw_swapped {G : Glo} (h : Hy G) : FnIs G 1 "raw_swapped" 2 f_raw_swapped := h.fnIs 56 137 rfl rfl rfl c_raw_swapped rfl (fun _ _ _ _ _ _ us hl => match us, hl with | [_, _], _ => by kernel_rfl) (s_raw_swapped h)
/-! inner_of -/
def n_inner_of : List Str := ["one", "other", "left", "right"]
theorem d_inner_of : n_inner_of.Nodup := by decide +kernel
def b_inner_of : DS := (sRet (dCallB (b1 fSum) (dCons (dLc (iZip (dCons (dVar 0) (dCons (dVar 1) dNil))) (gTup 2 (gCons (gNm 2) (gCons (gNm 3) gNil))) tYes1 (dBin oMulA (dVar 2) (dVar 3)) ([("left", 2), ("right", 3)].map (·.2))) dNil)))
def f_inner_of : Fn := mkFn n_inner_of.length b_inner_of
theorem c_inner_of : FnScope n_inner_of ["one", "other"] (defScope (top 15)) := ⟨by kernel_rfl, by kernel_rfl, by kernel_rfl, d_inner_of, by kernel_rfl, by decide +kernel, by decide +kernel⟩
theorem s_inner_of {G : Glo} (h : Hy G) : PSsx ⟨G, 0, n_inner_of, defScope (top 15), fun _ => true, none, false⟩ (defBody (top 15)) b_inner_of := (pssx_one (psx_ret (pex_bf cx_sum (by kernel_rfl) (h.free 138 rfl) (pax_cons (pex_lc d_inner_of (pix_zip (by kernel_rfl) (h.free 48 rfl) (pax_cons (pex_v 0 (by kernel_rfl)) (pax_cons (pex_v 1 (by kernel_rfl)) pax_nil))) (own := [("left", 2), ("right", 3)]) (by kernel_rfl) (pgx_tup (pgsx_cons (pgx_v d_inner_of 2 (by kernel_rfl)) (pgsx_cons (pgx_v d_inner_of 3 (by kernel_rfl)) pgsx_nil))) ptsx_nil (pex_op opx_mulA (pex_v 2 (by kernel_rfl)) (pex_v 3 (by kernel_rfl))) (by decide)) pax_nil))))
theorem i_inner_of {G : Glo} (h : Hy G) : FnIs G 1 "inner_of" 2 f_inner_of := h.fnIs 57 139 rfl rfl rfl c_inner_of rfl (fun _ _ _ _ _ _ us hl => match us, hl with | [_, _], _ => by kernel_rfl) (s_inner_of h)
/-! raw_times -/
def n_raw_times : List Str := ["prime", "one", "other", "width", "columns", "line", "column"]
theorem d_raw_times : n_raw_times.Nodup := by decide +kernel
def b_raw_times : DS := (sSeq (sAsg (dCall f_raw_swapped (dCons (dVar 2) (dCons (dVar 3) dNil))) (gNm 4)) (sRet (dCallB (b1 fTuple) (dCons (dLc (iSeq (dVar 1)) (gNm 5) tYes1 (dCallB (b1 fTuple) (dCons (dLc (iSeq (dVar 4)) (gNm 6) tYes1 (dBin oModI (dCall f_inner_of (dCons (dVar 5) (dCons (dVar 6) dNil))) (dVar 0)) ([("column", 6)].map (·.2))) dNil)) ([("line", 5)].map (·.2))) dNil))))
def f_raw_times : Fn := mkFn n_raw_times.length b_raw_times
theorem c_raw_times : FnScope n_raw_times ["prime", "one", "other", "width"] (defScope (top 16)) := ⟨by kernel_rfl, by kernel_rfl, by kernel_rfl, d_raw_times, by kernel_rfl, by decide +kernel, by decide +kernel⟩
theorem s_raw_times {G : Glo} (h : Hy G) : PSsx ⟨G, 1, n_raw_times, defScope (top 16), fun _ => true, none, false⟩ (defBody (top 16)) b_raw_times := (pssx_cons (psx_asg (pex_cl (i_raw_swapped h) (by kernel_rfl) (by kernel_rfl) (pax_cons (pex_v 2 (by kernel_rfl)) (pax_cons (pex_v 3 (by kernel_rfl)) pax_nil)) (ln1 (ln1 ln0))) (pgx_v d_raw_times 4 (by kernel_rfl))) (pssx_one (psx_ret (pex_bt cx_tuple (by kernel_rfl) (h.free 35 rfl) (pax_cons (pex_lc d_raw_times (pix_seq (pex_v 1 (by kernel_rfl))) (own := [("line", 5)]) (by kernel_rfl) (pgx_v d_raw_times 5 (by kernel_rfl)) ptsx_nil (pex_bt cx_tuple (by kernel_rfl) (h.free 35 rfl) (pax_cons (pex_lc d_raw_times (pix_seq (pex_v 4 (by kernel_rfl))) (own := [("column", 6)]) (by kernel_rfl) (pgx_v d_raw_times 6 (by kernel_rfl)) ptsx_nil (pex_op opx_modI (pex_cl (i_inner_of h) (by kernel_rfl) (by kernel_rfl) (pax_cons (pex_v 5 (by kernel_rfl)) (pax_cons (pex_v 6 (by kernel_rfl)) pax_nil)) (ln1 (ln1 ln0))) (pex_v 0 (by kernel_rfl))) (by decide)) pax_nil)) (by decide)) pax_nil)))))
theorem i_raw_times {G : Glo} (h : Hy G) : FnIs G 2 "raw_times" 4 f_raw_times := h.fnIs 58 140 rfl rfl rfl c_raw_times rfl (fun _ _ _ _ _ _ us hl => match us, hl with | [_, _, _, _], _ => by kernel_rfl) (s_raw_times h)
/-! product_in -/
def n_product_in : List Str := ["one", "other", "rows"]
theorem d_product_in : n_product_in.Nodup := by decide +kernel
def b_product_in : DS := (sSeq (sAsg (dCall f_raw_times (dCons (dFld [(0, 1)] (dVar 0)) (dCons (dFld [(1, 0), (0, 3)] (dVar 0)) (dCons (dFld [(1, 0), (0, 3)] (dVar 1)) (dCons (dFld [(0, 4)] (dVar 1)) dNil))))) (gNm 2)) (sRet (dCall f_table_made (dCons (dFld [(0, 1)] (dVar 0)) (dCons (dFld [(0, 0)] (dVar 0)) (dCons (dFld [(0, 4)] (dVar 1)) (dCons (dVar 2) dNil)))))))
def f_product_in : Fn := mkFn n_product_in.length b_product_in
theorem c_product_in : FnScope n_product_in ["one", "other"] (defScope (top 67)) := ⟨by kernel_rfl, by kernel_rfl, by kernel_rfl, d_product_in, by kernel_rfl, by decide +kernel, by decide +kernel⟩
theorem s_product_in {G : Glo} (h : Hy G) : PSsx ⟨G, 9, n_product_in, defScope (top 67), fun _ => true, none, false⟩ (defBody (top 67)) b_product_in := (pssx_cons (psx_asg (pex_cl (i_raw_times h) (by kernel_rfl) (by kernel_rfl) (pax_cons (pex_fld (h.fld1 9 44 (c := 0) rfl rfl rfl) (pex_v 0 (by kernel_rfl))) (pax_cons (pex_fld ((h.fld1 6 15 (c := 1) rfl rfl rfl).cons (h.fld1 9 16 (c := 0) rfl rfl rfl)) (pex_v 0 (by kernel_rfl))) (pax_cons (pex_fld ((h.fld1 6 15 (c := 1) rfl rfl rfl).cons (h.fld1 9 16 (c := 0) rfl rfl rfl)) (pex_v 1 (by kernel_rfl))) (pax_cons (pex_fld (h.fld1 9 46 (c := 0) rfl rfl rfl) (pex_v 1 (by kernel_rfl))) pax_nil)))) (ln1 (ln1 (ln1 (ln1 ln0))))) (pgx_v d_product_in 2 (by kernel_rfl))) (pssx_one (psx_ret (pex_cl (i_table_made h) (by kernel_rfl) (by kernel_rfl) (pax_cons (pex_fld (h.fld1 9 44 (c := 0) rfl rfl rfl) (pex_v 0 (by kernel_rfl))) (pax_cons (pex_fld (h.fld1 9 45 (c := 0) rfl rfl rfl) (pex_v 0 (by kernel_rfl))) (pax_cons (pex_fld (h.fld1 9 46 (c := 0) rfl rfl rfl) (pex_v 1 (by kernel_rfl))) (pax_cons (pex_v 2 (by kernel_rfl)) pax_nil)))) (ln1 (ln1 (ln1 (ln1 ln0))))))))
theorem i_product_in {G : Glo} (h : Hy G) : FnIs G 10 "product_in" 2 f_product_in := h.fnIs 59 141 rfl rfl rfl c_product_in rfl (fun _ _ _ _ _ _ us hl => match us, hl with | [_, _], _ => by kernel_rfl) (s_product_in h)
/-! Table.times -/
def n_Table_times : List Str := ["self", "other"]
theorem d_Table_times : n_Table_times.Nodup := by decide +kernel
def b_Table_times : DS := (sSeq (sExpr (dCall f_require_table (dCons (dVar 1) dNil))) (sSeq (sIf (tOr2 (dTstB (dBin oNe (dFld [(0, 1)] (dVar 0)) (dFld [(0, 1)] (dVar 1)))) (dTstB (dBin oNe (dFld [(0, 4)] (dVar 0)) (dFld [(0, 0)] (dVar 1))))) (rX0 8) sNext) (sRet (dCall f_product_in (dCons (dVar 0) (dCons (dVar 1) dNil))))))
def f_Table_times : Fn := mkFn n_Table_times.length b_Table_times
theorem c_Table_times : FnScope n_Table_times ["self", "other"] (defScope (inner (top 63) 11)) := ⟨by kernel_rfl, by kernel_rfl, by kernel_rfl, d_Table_times, by kernel_rfl, by decide +kernel, by decide +kernel⟩
theorem s_Table_times {G : Glo} (h : Hy G) : PSsx ⟨G, 10, n_Table_times, defScope (inner (top 63) 11), fun _ => true, none, false⟩ (defBody (inner (top 63) 11)) b_Table_times := (pssx_cons (psx_expr (pex_cl (i_require_table h) (by kernel_rfl) (by kernel_rfl) (pax_cons (pex_v 1 (by kernel_rfl)) pax_nil) (ln1 ln0))) (pssx_cons (psx_if (PWx.pt (pwx_or (ptx_cmp opx_ne (pex_fld (h.fld1 9 44 (c := 0) rfl rfl rfl) (pex_v 0 (by kernel_rfl))) (pex_fld (h.fld1 9 44 (c := 0) rfl rfl rfl) (pex_v 1 (by kernel_rfl))) rfl) (pwx_or1 (ptx_cmp opx_ne (pex_fld (h.fld1 9 46 (c := 0) rfl rfl rfl) (pex_v 0 (by kernel_rfl))) (pex_fld (h.fld1 9 45 (c := 0) rfl rfl rfl) (pex_v 1 (by kernel_rfl))) rfl)))) (pssx_one (psx_raise0 (h.x0 88 (c := 8) rfl rfl) (by kernel_rfl) (gc_of h 80 (c := 8) rfl rfl))) pssx_nil) (pssx_one (psx_ret (pex_cl (i_product_in h) (by kernel_rfl) (by kernel_rfl) (pax_cons (pex_v 0 (by kernel_rfl)) (pax_cons (pex_v 1 (by kernel_rfl)) pax_nil)) (ln1 (ln1 ln0)))))))
theorem a_Table_times {G : Glo} (h : Hy G) : FnA G 11 (ma G.K (ga G.K "Table") "times") 2 f_Table_times := h.fnA 60 rfl c_Table_times rfl (fun _ _ _ _ _ _ us hl => match us, hl with | [_, _], _ => by kernel_rfl) (s_Table_times h)
theorem i_Table_times {G : Glo} (h : Hy G) : MtIs G 11 0 "times" 2 f_Table_times := h.mt 9 142 rfl rfl rfl (a_Table_times h)
/-! Table.scaled -/
def n_Table_scaled : List Str := ["self", "number", "rows", "row", "entry"]
theorem d_Table_scaled : n_Table_scaled.Nodup := by decide +kernel
def b_Table_scaled : DS := (sSeq (sIf (tNot1 (dTst (dCall f_is_integer (dCons (dVar 1) dNil)))) (rX1 5 "value" (dVar 1)) sNext) (sSeq (sAsg (dLc (iSeq (dFld [(1, 0), (0, 3)] (dVar 0))) (gNm 3) tYes1 (dCallB (b1 fTuple) (dCons (dLc (iSeq (dVar 3)) (gNm 4) tYes1 (dBin oModI (dBin oMulA (dVar 4) (dVar 1)) (dFld [(0, 1)] (dVar 0))) ([("entry", 4)].map (·.2))) dNil)) ([("row", 3)].map (·.2))) (gNm 2)) (sRet (dCall f_table_made (dCons (dFld [(0, 1)] (dVar 0)) (dCons (dFld [(0, 0)] (dVar 0)) (dCons (dFld [(0, 4)] (dVar 0)) (dCons (dCallB (b1 fTuple) (dCons (dVar 2) dNil)) dNil))))))))
def f_Table_scaled : Fn := mkFn n_Table_scaled.length b_Table_scaled
theorem c_Table_scaled : FnScope n_Table_scaled ["self", "number"] (defScope (inner (top 63) 12)) := ⟨by kernel_rfl, by kernel_rfl, by kernel_rfl, d_Table_scaled, by kernel_rfl, by decide +kernel, by decide +kernel⟩
theorem s_Table_scaled {G : Glo} (h : Hy G) : PSsx ⟨G, 9, n_Table_scaled, defScope (inner (top 63) 12), fun _ => true, none, false⟩ (defBody (inner (top 63) 12)) b_Table_scaled := (pssx_cons (psx_if (ptx_not (ptx_truth (pex_cl (i_is_integer h) (by kernel_rfl) (by kernel_rfl) (pax_cons (pex_v 1 (by kernel_rfl)) pax_nil) (ln1 ln0)))) (pssx_one (psx_raise1 (x_InvalidCount h) (by kernel_rfl) (gc_of h 30 (c := 5) rfl rfl) (h.free 32 rfl) (htop h (by kernel_rfl)) (by kernel_rfl) (pex_v 1 (by kernel_rfl)))) pssx_nil) (pssx_cons (psx_setLc 2 d_Table_scaled (by kernel_rfl) (by kernel_rfl) (pix_seq (pex_fld ((h.fld1 6 15 (c := 1) rfl rfl rfl).cons (h.fld1 9 16 (c := 0) rfl rfl rfl)) (pex_v 0 (by kernel_rfl)))) (own := [("row", 3)]) (by kernel_rfl) (pgx_v d_Table_scaled 3 (by kernel_rfl)) ptsx_nil (pex_bt cx_tuple (by kernel_rfl) (h.free 35 rfl) (pax_cons (pex_lc d_Table_scaled (pix_seq (pex_v 3 (by kernel_rfl))) (own := [("entry", 4)]) (by kernel_rfl) (pgx_v d_Table_scaled 4 (by kernel_rfl)) ptsx_nil (pex_op opx_modI (pex_op opx_mulA (pex_v 4 (by kernel_rfl)) (pex_v 1 (by kernel_rfl))) (pex_fld (h.fld1 9 44 (c := 0) rfl rfl rfl) (pex_v 0 (by kernel_rfl)))) (by decide)) pax_nil)) (by decide) (by kernel_rfl) (by kernel_rfl) (by kernel_rfl)) (pssx_one (psx_ret (pex_cl (i_table_made h) (by kernel_rfl) (by kernel_rfl) (pax_cons (pex_fld (h.fld1 9 44 (c := 0) rfl rfl rfl) (pex_v 0 (by kernel_rfl))) (pax_cons (pex_fld (h.fld1 9 45 (c := 0) rfl rfl rfl) (pex_v 0 (by kernel_rfl))) (pax_cons (pex_fld (h.fld1 9 46 (c := 0) rfl rfl rfl) (pex_v 0 (by kernel_rfl))) (pax_cons (pex_bt cx_tuple (by kernel_rfl) (h.free 35 rfl) (pax_cons (pex_v 2 (by kernel_rfl)) pax_nil)) pax_nil)))) (ln1 (ln1 (ln1 (ln1 ln0)))))))))
theorem a_Table_scaled {G : Glo} (h : Hy G) : FnA G 10 (ma G.K (ga G.K "Table") "scaled") 2 f_Table_scaled := h.fnA 61 rfl c_Table_scaled rfl (fun _ _ _ _ _ _ us hl => match us, hl with | [_, _], _ => by kernel_rfl) (s_Table_scaled h)
theorem i_Table_scaled {G : Glo} (h : Hy G) : MtIs G 10 0 "scaled" 2 f_Table_scaled := h.mt 9 143 rfl rfl rfl (a_Table_scaled h)
/-! Table.leading -/
def n_Table_leading : List Str := ["self", "column", "row"]
theorem d_Table_leading : n_Table_leading.Nodup := by decide +kernel
def b_Table_leading : DS := (sSeq (sIf (tNot1 (dTst (dCall f_is_column (dCons (dFld [(0, 1)] (dVar 0)) (dCons (dFld [(0, 4)] (dVar 0)) (dCons (dVar 1) dNil)))))) (rX0 8) sNext) (sRet (dCallB (b1 fTuple) (dCons (dLc (iSeq (dFld [(1, 0), (0, 3)] (dVar 0))) (gNm 2) tYes1 (dBin oModI (dCall f_inner_of (dCons (dVar 2) (dCons (dVar 1) dNil))) (dFld [(0, 1)] (dVar 0))) ([("row", 2)].map (·.2))) dNil))))
def f_Table_leading : Fn := mkFn n_Table_leading.length b_Table_leading
theorem c_Table_leading : FnScope n_Table_leading ["self", "column"] (defScope (inner (top 63) 13)) := ⟨by kernel_rfl, by kernel_rfl, by kernel_rfl, d_Table_leading, by kernel_rfl, by decide +kernel, by decide +kernel⟩
theorem s_Table_leading {G : Glo} (h : Hy G) : PSsx ⟨G, 4, n_Table_leading, defScope (inner (top 63) 13), fun _ => true, none, false⟩ (defBody (inner (top 63) 13)) b_Table_leading := (pssx_cons (psx_if (ptx_not (ptx_truth (pex_cl (i_is_column h) (by kernel_rfl) (by kernel_rfl) (pax_cons (pex_fld (h.fld1 9 44 (c := 0) rfl rfl rfl) (pex_v 0 (by kernel_rfl))) (pax_cons (pex_fld (h.fld1 9 46 (c := 0) rfl rfl rfl) (pex_v 0 (by kernel_rfl))) (pax_cons (pex_v 1 (by kernel_rfl)) pax_nil))) (ln1 (ln1 (ln1 ln0)))))) (pssx_one (psx_raise0 (h.x0 88 (c := 8) rfl rfl) (by kernel_rfl) (gc_of h 80 (c := 8) rfl rfl))) pssx_nil) (pssx_one (psx_ret (pex_bt cx_tuple (by kernel_rfl) (h.free 35 rfl) (pax_cons (pex_lc d_Table_leading (pix_seq (pex_fld ((h.fld1 6 15 (c := 1) rfl rfl rfl).cons (h.fld1 9 16 (c := 0) rfl rfl rfl)) (pex_v 0 (by kernel_rfl)))) (own := [("row", 2)]) (by kernel_rfl) (pgx_v d_Table_leading 2 (by kernel_rfl)) ptsx_nil (pex_op opx_modI (pex_cl (i_inner_of h) (by kernel_rfl) (by kernel_rfl) (pax_cons (pex_v 2 (by kernel_rfl)) (pax_cons (pex_v 1 (by kernel_rfl)) pax_nil)) (ln1 (ln1 ln0))) (pex_fld (h.fld1 9 44 (c := 0) rfl rfl rfl) (pex_v 0 (by kernel_rfl)))) (by decide)) pax_nil)))))
theorem a_Table_leading {G : Glo} (h : Hy G) : FnA G 5 (ma G.K (ga G.K "Table") "leading") 2 f_Table_leading := h.fnA 62 rfl c_Table_leading rfl (fun _ _ _ _ _ _ us hl => match us, hl with | [_, _], _ => by kernel_rfl) (s_Table_leading h)
theorem i_Table_leading {G : Glo} (h : Hy G) : MtIs G 5 0 "leading" 2 f_Table_leading := h.mt 9 144 rfl rfl rfl (a_Table_leading h)
/-! raw_solved -/
def n_raw_solved : List Str := ["prime", "rows", "width", "column", "steps", "found", "row", "lead", "entry"]
theorem d_raw_solved : n_raw_solved.Nodup := by decide +kernel
def b_raw_solved : DS := (sSeq (sAsg (dCall f_stepped (dCons (dVar 0) (dCons (dLc (iZip (dCons (dVar 1) (dCons (dVar 3) dNil))) (gTup 2 (gCons (gNm 6) (gCons (gNm 8) gNil))) tYes1 (dTup (dStar (dVar 6) (dCons (dVar 8) dNil))) ([("row", 6), ("entry", 8)].map (·.2))) dNil))) (gNm 4)) (sSeq (sAsg (dBin oMulA (dLst (dCons (dC (.int 0)) dNil)) (dVar 2)) (gNm 5)) (sSeq (sFor (iSeq (dVar 4)) (gNm 6) (sSeq (sAsg (dCall f_lead_of (dCons (dVar 6) dNil)) (gNm 7)) (sSeq (sIf (dTstB (dBin oEq (dVar 7) (dVar 2))) (sRet (dC .non)) sNext) (sAsg (dBin oIx (dVar 6) (dVar 2)) (gSb (dVar 5) (dVar 7)))))) (sRet (dCallB (b1 fTuple) (dCons (dVar 5) dNil))))))
def f_raw_solved : Fn := mkFn n_raw_solved.length b_raw_solved
theorem c_raw_solved : FnScope n_raw_solved ["prime", "rows", "width", "column"] (defScope (top 26)) := ⟨by kernel_rfl, by kernel_rfl, by kernel_rfl, d_raw_solved, by kernel_rfl, by decide +kernel, by decide +kernel⟩
theorem s_raw_solved {G : Glo} (h : Hy G) : PSsx ⟨G, 2, n_raw_solved, defScope (top 26), fun _ => true, none, false⟩ (defBody (top 26)) b_raw_solved := (pssx_cons (psx_asg (pex_cl (i_stepped h) (by kernel_rfl) (by kernel_rfl) (pax_cons (pex_v 0 (by kernel_rfl)) (pax_cons (pex_lc d_raw_solved (pix_zip (by kernel_rfl) (h.free 48 rfl) (pax_cons (pex_v 1 (by kernel_rfl)) (pax_cons (pex_v 3 (by kernel_rfl)) pax_nil))) (own := [("row", 6), ("entry", 8)]) (by kernel_rfl) (pgx_tup (pgsx_cons (pgx_v d_raw_solved 6 (by kernel_rfl)) (pgsx_cons (pgx_v d_raw_solved 8 (by kernel_rfl)) pgsx_nil))) ptsx_nil (pex_tup (pax_star (pex_v 6 (by kernel_rfl)) (pax_cons (pex_v 8 (by kernel_rfl)) pax_nil))) (by decide)) pax_nil)) (ln1 (ln1 ln0))) (pgx_v d_raw_solved 4 (by kernel_rfl))) (pssx_cons (psx_asg (pex_op opx_mulA (pex_lst (pax_cons pex_int pax_nil)) (pex_v 2 (by kernel_rfl))) (pgx_v d_raw_solved 5 (by kernel_rfl))) (pssx_cons (psx_for (pix_seq (pex_v 4 (by kernel_rfl))) (pgx_v d_raw_solved 6 (by kernel_rfl)) (pssx_cons (psx_asg (pex_cl (i_lead_of h) (by kernel_rfl) (by kernel_rfl) (pax_cons (pex_v 6 (by kernel_rfl)) pax_nil) (ln1 ln0)) (pgx_v d_raw_solved 7 (by kernel_rfl))) (pssx_cons (psx_if (ptx_cmp opx_eq (pex_v 7 (by kernel_rfl)) (pex_v 2 (by kernel_rfl)) rfl) (pssx_one (psx_ret pex_non)) pssx_nil) (pssx_one (psx_asg (pex_ix (pex_v 6 (by kernel_rfl)) (pex_v 2 (by kernel_rfl))) (pgx_sb (pex_v 5 (by kernel_rfl)) (pex_v 7 (by kernel_rfl)))))))) (pssx_one (psx_ret (pex_bt cx_tuple (by kernel_rfl) (h.free 35 rfl) (pax_cons (pex_v 5 (by kernel_rfl)) pax_nil)))))))
theorem i_raw_solved {G : Glo} (h : Hy G) : FnIs G 3 "raw_solved" 4 f_raw_solved := h.fnIs 63 145 rfl rfl rfl c_raw_solved rfl (fun _ _ _ _ _ _ us hl => match us, hl with | [_, _, _, _], _ => by kernel_rfl) (s_raw_solved h)
/-! Table.solved -/
def n_Table_solved : List Str := ["self", "column"]
theorem d_Table_solved : n_Table_solved.Nodup := by decide +kernel
def b_Table_solved : DS := (sSeq (sIf (tNot1 (dTst (dCall f_is_column (dCons (dFld [(0, 1)] (dVar 0)) (dCons (dFld [(0, 0)] (dVar 0)) (dCons (dVar 1) dNil)))))) (rX0 8) sNext) (sRet (dCall f_raw_solved (dCons (dFld [(0, 1)] (dVar 0)) (dCons (dFld [(1, 0), (0, 3)] (dVar 0)) (dCons (dFld [(0, 4)] (dVar 0)) (dCons (dVar 1) dNil)))))))
def f_Table_solved : Fn := mkFn n_Table_solved.length b_Table_solved
theorem c_Table_solved : FnScope n_Table_solved ["self", "column"] (defScope (inner (top 63) 14)) := ⟨by kernel_rfl, by kernel_rfl, by kernel_rfl, d_Table_solved, by kernel_rfl, by decide +kernel, by decide +kernel⟩
theorem s_Table_solved {G : Glo} (h : Hy G) : PSsx ⟨G, 4, n_Table_solved, defScope (inner (top 63) 14), fun _ => true, none, false⟩ (defBody (inner (top 63) 14)) b_Table_solved := (pssx_cons (psx_if (ptx_not (ptx_truth (pex_cl (i_is_column h) (by kernel_rfl) (by kernel_rfl) (pax_cons (pex_fld (h.fld1 9 44 (c := 0) rfl rfl rfl) (pex_v 0 (by kernel_rfl))) (pax_cons (pex_fld (h.fld1 9 45 (c := 0) rfl rfl rfl) (pex_v 0 (by kernel_rfl))) (pax_cons (pex_v 1 (by kernel_rfl)) pax_nil))) (ln1 (ln1 (ln1 ln0)))))) (pssx_one (psx_raise0 (h.x0 88 (c := 8) rfl rfl) (by kernel_rfl) (gc_of h 80 (c := 8) rfl rfl))) pssx_nil) (pssx_one (psx_ret (pex_cl (i_raw_solved h) (by kernel_rfl) (by kernel_rfl) (pax_cons (pex_fld (h.fld1 9 44 (c := 0) rfl rfl rfl) (pex_v 0 (by kernel_rfl))) (pax_cons (pex_fld ((h.fld1 6 15 (c := 1) rfl rfl rfl).cons (h.fld1 9 16 (c := 0) rfl rfl rfl)) (pex_v 0 (by kernel_rfl))) (pax_cons (pex_fld (h.fld1 9 46 (c := 0) rfl rfl rfl) (pex_v 0 (by kernel_rfl))) (pax_cons (pex_v 1 (by kernel_rfl)) pax_nil)))) (ln1 (ln1 (ln1 (ln1 ln0))))))))
theorem a_Table_solved {G : Glo} (h : Hy G) : FnA G 5 (ma G.K (ga G.K "Table") "solved") 2 f_Table_solved := h.fnA 64 rfl c_Table_solved rfl (fun _ _ _ _ _ _ us hl => match us, hl with | [_, _], _ => by kernel_rfl) (s_Table_solved h)
theorem i_Table_solved {G : Glo} (h : Hy G) : MtIs G 5 0 "solved" 2 f_Table_solved := h.mt 9 146 rfl rfl rfl (a_Table_solved h)
/-! raw_undone -/
def n_raw_undone : List Str := ["prime", "rows", "size", "steps", "row", "idle"]
theorem d_raw_undone : n_raw_undone.Nodup := by decide +kernel
def b_raw_undone : DS := (sSeq (sAsg (dCallB (b1 fLen) (dCons (dVar 1) dNil)) (gNm 2)) (sSeq (sAsg (dCall f_stepped (dCons (dVar 0) (dCons (dLc (iZip (dCons (dVar 1) (dCons (dCall f_raw_idle (dCons (dVar 2) dNil)) dNil))) (gTup 2 (gCons (gNm 4) (gCons (gNm 5) gNil))) tYes1 (dTup (dStar (dVar 4) (dStar (dVar 5) dNil))) ([("row", 4), ("idle", 5)].map (·.2))) dNil))) (gNm 3)) (sRet (dCallB (b1 fTuple) (dCons (dLc (iSeq (dVar 3)) (gNm 4) tYes1 (dCallB (b1 fTuple) (dCons (dSl (dVar 4) (pAt (dVar 2)) pNo) dNil)) ([("row", 4)].map (·.2))) dNil)))))
def f_raw_undone : Fn := mkFn n_raw_undone.length b_raw_undone
theorem c_raw_undone : FnScope n_raw_undone ["prime", "rows"] (defScope (top 27)) := ⟨by kernel_rfl, by kernel_rfl, by kernel_rfl, d_raw_undone, by kernel_rfl, by decide +kernel, by decide +kernel⟩
theorem s_raw_undone {G : Glo} (h : Hy G) : PSsx ⟨G, 2, n_raw_undone, defScope (top 27), fun _ => true, none, false⟩ (defBody (top 27)) b_raw_undone := (pssx_cons (psx_asg (pex_bf cx_len (by kernel_rfl) (h.free 36 rfl) (pax_cons (pex_v 1 (by kernel_rfl)) pax_nil)) (pgx_v d_raw_undone 2 (by kernel_rfl))) (pssx_cons (psx_asg (pex_cl (i_stepped h) (by kernel_rfl) (by kernel_rfl) (pax_cons (pex_v 0 (by kernel_rfl)) (pax_cons (pex_lc d_raw_undone (pix_zip (by kernel_rfl) (h.free 48 rfl) (pax_cons (pex_v 1 (by kernel_rfl)) (pax_cons (pex_cl (i_raw_idle h) (by kernel_rfl) (by kernel_rfl) (pax_cons (pex_v 2 (by kernel_rfl)) pax_nil) (ln1 ln0)) pax_nil))) (own := [("row", 4), ("idle", 5)]) (by kernel_rfl) (pgx_tup (pgsx_cons (pgx_v d_raw_undone 4 (by kernel_rfl)) (pgsx_cons (pgx_v d_raw_undone 5 (by kernel_rfl)) pgsx_nil))) ptsx_nil (pex_tup (pax_star (pex_v 4 (by kernel_rfl)) (pax_star (pex_v 5 (by kernel_rfl)) pax_nil))) (by decide)) pax_nil)) (ln1 (ln1 ln0))) (pgx_v d_raw_undone 3 (by kernel_rfl))) (pssx_one (psx_ret (pex_bt cx_tuple (by kernel_rfl) (h.free 35 rfl) (pax_cons (pex_lc d_raw_undone (pix_seq (pex_v 3 (by kernel_rfl))) (own := [("row", 4)]) (by kernel_rfl) (pgx_v d_raw_undone 4 (by kernel_rfl)) ptsx_nil (pex_bt cx_tuple (by kernel_rfl) (h.free 35 rfl) (pax_cons (pex_sl (pex_v 4 (by kernel_rfl)) (pox_at (pex_v 2 (by kernel_rfl))) pox_no) pax_nil)) (by decide)) pax_nil))))))
theorem i_raw_undone {G : Glo} (h : Hy G) : FnIs G 3 "raw_undone" 2 f_raw_undone := h.fnIs 65 147 rfl rfl rfl c_raw_undone rfl (fun _ _ _ _ _ _ us hl => match us, hl with | [_, _], _ => by kernel_rfl) (s_raw_undone h)
/-! Table.undone -/
def n_Table_undone : List Str := ["self"]
theorem d_Table_undone : n_Table_undone.Nodup := by decide +kernel
def b_Table_undone : DS := (sSeq (sIf (tOr2 (dTstB (dBin oNe (dFld [(0, 0)] (dVar 0)) (dFld [(0, 4)] (dVar 0)))) (dTstB (dBin oNe (dFld [(0, 2)] (dVar 0)) (dFld [(0, 4)] (dVar 0))))) (rX0 8) sNext) (sRet (dCall f_table_made (dCons (dFld [(0, 1)] (dVar 0)) (dCons (dFld [(0, 0)] (dVar 0)) (dCons (dFld [(0, 4)] (dVar 0)) (dCons (dCall f_raw_undone (dCons (dFld [(0, 1)] (dVar 0)) (dCons (dFld [(1, 0), (0, 3)] (dVar 0)) dNil))) dNil)))))))
def f_Table_undone : Fn := mkFn n_Table_undone.length b_Table_undone
theorem c_Table_undone : FnScope n_Table_undone ["self"] (defScope (inner (top 63) 18)) := ⟨by kernel_rfl, by kernel_rfl, by kernel_rfl, d_Table_undone, by kernel_rfl, by decide +kernel, by decide +kernel⟩
theorem s_Table_undone {G : Glo} (h : Hy G) : PSsx ⟨G, 9, n_Table_undone, defScope (inner (top 63) 18), fun _ => true, none, false⟩ (defBody (inner (top 63) 18)) b_Table_undone := (pssx_cons (psx_if (PWx.pt (pwx_or (ptx_cmp opx_ne (pex_fld (h.fld1 9 45 (c := 0) rfl rfl rfl) (pex_v 0 (by kernel_rfl))) (pex_fld (h.fld1 9 46 (c := 0) rfl rfl rfl) (pex_v 0 (by kernel_rfl))) rfl) (pwx_or1 (ptx_cmp opx_ne (pex_fld (h.fld1 9 57 (c := 0) rfl rfl rfl) (pex_v 0 (by kernel_rfl))) (pex_fld (h.fld1 9 46 (c := 0) rfl rfl rfl) (pex_v 0 (by kernel_rfl))) rfl)))) (pssx_one (psx_raise0 (h.x0 88 (c := 8) rfl rfl) (by kernel_rfl) (gc_of h 80 (c := 8) rfl rfl))) pssx_nil) (pssx_one (psx_ret (pex_cl (i_table_made h) (by kernel_rfl) (by kernel_rfl) (pax_cons (pex_fld (h.fld1 9 44 (c := 0) rfl rfl rfl) (pex_v 0 (by kernel_rfl))) (pax_cons (pex_fld (h.fld1 9 45 (c := 0) rfl rfl rfl) (pex_v 0 (by kernel_rfl))) (pax_cons (pex_fld (h.fld1 9 46 (c := 0) rfl rfl rfl) (pex_v 0 (by kernel_rfl))) (pax_cons (pex_cl (i_raw_undone h) (by kernel_rfl) (by kernel_rfl) (pax_cons (pex_fld (h.fld1 9 44 (c := 0) rfl rfl rfl) (pex_v 0 (by kernel_rfl))) (pax_cons (pex_fld ((h.fld1 6 15 (c := 1) rfl rfl rfl).cons (h.fld1 9 16 (c := 0) rfl rfl rfl)) (pex_v 0 (by kernel_rfl))) pax_nil)) (ln1 (ln1 ln0))) pax_nil)))) (ln1 (ln1 (ln1 (ln1 ln0))))))))
theorem a_Table_undone {G : Glo} (h : Hy G) : FnA G 10 (ma G.K (ga G.K "Table") "undone") 1 f_Table_undone := h.fnA 66 rfl c_Table_undone rfl (fun _ _ _ _ _ _ us hl => match us, hl with | [_], _ => by kernel_rfl) (s_Table_undone h)
theorem i_Table_undone {G : Glo} (h : Hy G) : MtIs G 10 0 "undone" 1 f_Table_undone := h.mt 9 148 rfl rfl rfl (a_Table_undone h)
/-! blocks_in -/
def n_blocks_in : List Str := ["one", "other", "upper", "lower", "height", "width", "row"]
theorem d_blocks_in : n_blocks_in.Nodup := by decide +kernel
def b_blocks_in : DS := (sSeq (sAsg (dLc (iSeq (dFld [(1, 0), (0, 3)] (dVar 0))) (gNm 6) tYes1 (dTup (dStar (dVar 6) (dStar (dBin oMulA (dLst (dCons (dC (.int 0)) dNil)) (dFld [(0, 4)] (dVar 1))) dNil))) ([("row", 6)].map (·.2))) (gNm 2)) (sSeq (sAsg (dLc (iSeq (dFld [(1, 0), (0, 3)] (dVar 1))) (gNm 6) tYes1 (dTup (dStar (dBin oMulA (dLst (dCons (dC (.int 0)) dNil)) (dFld [(0, 4)] (dVar 0))) (dStar (dVar 6) dNil))) ([("row", 6)].map (·.2))) (gNm 3)) (sSeq (sAsg (dTup (dCons (dBin oAdd (dFld [(0, 0)] (dVar 0)) (dFld [(0, 0)] (dVar 1))) (dCons (dBin oAdd (dFld [(0, 4)] (dVar 0)) (dFld [(0, 4)] (dVar 1))) dNil))) (gTup 2 (gCons (gNm 4) (gCons (gNm 5) gNil)))) (sRet (dCall f_table_made (dCons (dFld [(0, 1)] (dVar 0)) (dCons (dVar 4) (dCons (dVar 5) (dCons (dCallB (b1 fTuple) (dCons (dLst (dStar (dVar 2) (dStar (dVar 3) dNil))) dNil)) dNil)))))))))
def f_blocks_in : Fn := mkFn n_blocks_in.length b_blocks_in
theorem c_blocks_in : FnScope n_blocks_in ["one", "other"] (defScope (top 68)) := ⟨by kernel_rfl, by kernel_rfl, by kernel_rfl, d_blocks_in, by kernel_rfl, by decide +kernel, by decide +kernel⟩
theorem s_blocks_in {G : Glo} (h : Hy G) : PSsx ⟨G, 9, n_blocks_in, defScope (top 68), fun _ => true, none, false⟩ (defBody (top 68)) b_blocks_in := (pssx_cons (psx_setLc 2 d_blocks_in (by kernel_rfl) (by kernel_rfl) (pix_seq (pex_fld ((h.fld1 6 15 (c := 1) rfl rfl rfl).cons (h.fld1 9 16 (c := 0) rfl rfl rfl)) (pex_v 0 (by kernel_rfl)))) (own := [("row", 6)]) (by kernel_rfl) (pgx_v d_blocks_in 6 (by kernel_rfl)) ptsx_nil (pex_tup (pax_star (pex_v 6 (by kernel_rfl)) (pax_star (pex_op opx_mulA (pex_lst (pax_cons pex_int pax_nil)) (pex_fld (h.fld1 9 46 (c := 0) rfl rfl rfl) (pex_v 1 (by kernel_rfl)))) pax_nil))) (by decide) (by kernel_rfl) (by kernel_rfl) (by kernel_rfl)) (pssx_cons (psx_setLc 3 d_blocks_in (by kernel_rfl) (by kernel_rfl) (pix_seq (pex_fld ((h.fld1 6 15 (c := 1) rfl rfl rfl).cons (h.fld1 9 16 (c := 0) rfl rfl rfl)) (pex_v 1 (by kernel_rfl)))) (own := [("row", 6)]) (by kernel_rfl) (pgx_v d_blocks_in 6 (by kernel_rfl)) ptsx_nil (pex_tup (pax_star (pex_op opx_mulA (pex_lst (pax_cons pex_int pax_nil)) (pex_fld (h.fld1 9 46 (c := 0) rfl rfl rfl) (pex_v 0 (by kernel_rfl)))) (pax_star (pex_v 6 (by kernel_rfl)) pax_nil))) (by decide) (by kernel_rfl) (by kernel_rfl) (by kernel_rfl)) (pssx_cons (psx_par (i := 4) (j := 5) d_blocks_in (by kernel_rfl) (by kernel_rfl) (by decide) (by kernel_rfl) (by kernel_rfl) (pax_cons (pex_op opx_add (pex_fld (h.fld1 9 45 (c := 0) rfl rfl rfl) (pex_v 0 (by kernel_rfl))) (pex_fld (h.fld1 9 45 (c := 0) rfl rfl rfl) (pex_v 1 (by kernel_rfl)))) (pax_cons (pex_op opx_add (pex_fld (h.fld1 9 46 (c := 0) rfl rfl rfl) (pex_v 0 (by kernel_rfl))) (pex_fld (h.fld1 9 46 (c := 0) rfl rfl rfl) (pex_v 1 (by kernel_rfl)))) pax_nil)) (fun env he => by cases env; dsimp only at he; subst he; kernel_rfl)) (pssx_one (psx_ret (pex_cl (i_table_made h) (by kernel_rfl) (by kernel_rfl) (pax_cons (pex_fld (h.fld1 9 44 (c := 0) rfl rfl rfl) (pex_v 0 (by kernel_rfl))) (pax_cons (pex_v 4 (by kernel_rfl)) (pax_cons (pex_v 5 (by kernel_rfl)) (pax_cons (pex_bt cx_tuple (by kernel_rfl) (h.free 35 rfl) (pax_cons (pex_lst (pax_star (pex_v 2 (by kernel_rfl)) (pax_star (pex_v 3 (by kernel_rfl)) pax_nil))) pax_nil)) pax_nil)))) (ln1 (ln1 (ln1 (ln1 ln0))))))))))
theorem i_blocks_in {G : Glo} (h : Hy G) : FnIs G 10 "blocks_in" 2 f_blocks_in := h.fnIs 67 149 rfl rfl rfl c_blocks_in rfl (fun _ _ _ _ _ _ us hl => match us, hl with | [_, _], _ => by kernel_rfl) (s_blocks_in h)
/-! Table.blocks -/
def n_Table_blocks : List Str := ["self", "other"]
theorem d_Table_blocks : n_Table_blocks.Nodup := by decide +kernel
def b_Table_blocks : DS := (sSeq (sExpr (dCall f_require_table (dCons (dVar 1) dNil))) (sSeq (sIf (dTstB (dBin oNe (dFld [(0, 1)] (dVar 0)) (dFld [(0, 1)] (dVar 1)))) (rX0 8) sNext) (sSeq (sIf (dTstB (dBin oGtI (dCallB (b2 fMax2) (dCons (dBin oAdd (dFld [(0, 0)] (dVar 0)) (dFld [(0, 0)] (dVar 1))) (dCons (dBin oAdd (dFld [(0, 4)] (dVar 0)) (dFld [(0, 4)] (dVar 1))) dNil))) (dC (.int (36))))) (rX1 7 "limit" (dC (.int (36)))) sNext) (sRet (dCall f_blocks_in (dCons (dVar 0) (dCons (dVar 1) dNil)))))))
def f_Table_blocks : Fn := mkFn n_Table_blocks.length b_Table_blocks
theorem c_Table_blocks : FnScope n_Table_blocks ["self", "other"] (defScope (inner (top 63) 19)) := ⟨by kernel_rfl, by kernel_rfl, by kernel_rfl, d_Table_blocks, by kernel_rfl, by decide +kernel, by decide +kernel⟩
theorem s_Table_blocks {G : Glo} (h : Hy G) : PSsx ⟨G, 10, n_Table_blocks, defScope (inner (top 63) 19), fun _ => true, none, false⟩ (defBody (inner (top 63) 19)) b_Table_blocks := (pssx_cons (psx_expr (pex_cl (i_require_table h) (by kernel_rfl) (by kernel_rfl) (pax_cons (pex_v 1 (by kernel_rfl)) pax_nil) (ln1 ln0))) (pssx_cons (psx_if (ptx_cmp opx_ne (pex_fld (h.fld1 9 44 (c := 0) rfl rfl rfl) (pex_v 0 (by kernel_rfl))) (pex_fld (h.fld1 9 44 (c := 0) rfl rfl rfl) (pex_v 1 (by kernel_rfl))) rfl) (pssx_one (psx_raise0 (h.x0 88 (c := 8) rfl rfl) (by kernel_rfl) (gc_of h 80 (c := 8) rfl rfl))) pssx_nil) (pssx_cons (psx_if (ptx_cmp opx_gtI (pex_bf cx_max2 (by kernel_rfl) (h.free 70 rfl) (pax_cons (pex_op opx_add (pex_fld (h.fld1 9 45 (c := 0) rfl rfl rfl) (pex_v 0 (by kernel_rfl))) (pex_fld (h.fld1 9 45 (c := 0) rfl rfl rfl) (pex_v 1 (by kernel_rfl)))) (pax_cons (pex_op opx_add (pex_fld (h.fld1 9 46 (c := 0) rfl rfl rfl) (pex_v 0 (by kernel_rfl))) (pex_fld (h.fld1 9 46 (c := 0) rfl rfl rfl) (pex_v 1 (by kernel_rfl)))) pax_nil))) (pex_gi (by kernel_rfl) (h.int 34 rfl)) rfl) (pssx_one (psx_raise1 (x_TooMany h) (by kernel_rfl) (gc_of h 78 (c := 7) rfl rfl) (h.free 32 rfl) (htop h (by kernel_rfl)) (by kernel_rfl) (pex_gi (by kernel_rfl) (h.int 34 rfl)))) pssx_nil) (pssx_one (psx_ret (pex_cl (i_blocks_in h) (by kernel_rfl) (by kernel_rfl) (pax_cons (pex_v 0 (by kernel_rfl)) (pax_cons (pex_v 1 (by kernel_rfl)) pax_nil)) (ln1 (ln1 ln0))))))))
theorem a_Table_blocks {G : Glo} (h : Hy G) : FnA G 11 (ma G.K (ga G.K "Table") "blocks") 2 f_Table_blocks := h.fnA 68 rfl c_Table_blocks rfl (fun _ _ _ _ _ _ us hl => match us, hl with | [_, _], _ => by kernel_rfl) (s_Table_blocks h)
theorem i_Table_blocks {G : Glo} (h : Hy G) : MtIs G 11 0 "blocks" 2 f_Table_blocks := h.mt 9 150 rfl rfl rfl (a_Table_blocks h)
/-! Table.entry_at -/
def n_Table_entry_at : List Str := ["self", "row", "column"]
theorem d_Table_entry_at : n_Table_entry_at.Nodup := by decide +kernel
def b_Table_entry_at : DS := (sSeq (sExpr (dCall f_require_to (dCons (dVar 1) (dCons (dBin oSubI (dFld [(0, 0)] (dVar 0)) (dC (.int 1))) dNil)))) (sSeq (sExpr (dCall f_require_to (dCons (dVar 2) (dCons (dBin oSubI (dFld [(0, 4)] (dVar 0)) (dC (.int 1))) dNil)))) (sRet (dBin oIx (dBin oIx (dFld [(1, 0), (0, 3)] (dVar 0)) (dVar 1)) (dVar 2)))))
def f_Table_entry_at : Fn := mkFn n_Table_entry_at.length b_Table_entry_at
theorem c_Table_entry_at : FnScope n_Table_entry_at ["self", "row", "column"] (defScope (inner (top 63) 8)) := ⟨by kernel_rfl, by kernel_rfl, by kernel_rfl, d_Table_entry_at, by kernel_rfl, by decide +kernel, by decide +kernel⟩
theorem s_Table_entry_at {G : Glo} (h : Hy G) : PSsx ⟨G, 3, n_Table_entry_at, defScope (inner (top 63) 8), fun _ => true, none, false⟩ (defBody (inner (top 63) 8)) b_Table_entry_at := (pssx_cons (psx_expr (pex_cl (i_require_to h) (by kernel_rfl) (by kernel_rfl) (pax_cons (pex_v 1 (by kernel_rfl)) (pax_cons (pex_op opx_subI (pex_fld (h.fld1 9 45 (c := 0) rfl rfl rfl) (pex_v 0 (by kernel_rfl))) pex_int) pax_nil)) (ln1 (ln1 ln0)))) (pssx_cons (psx_expr (pex_cl (i_require_to h) (by kernel_rfl) (by kernel_rfl) (pax_cons (pex_v 2 (by kernel_rfl)) (pax_cons (pex_op opx_subI (pex_fld (h.fld1 9 46 (c := 0) rfl rfl rfl) (pex_v 0 (by kernel_rfl))) pex_int) pax_nil)) (ln1 (ln1 ln0)))) (pssx_one (psx_ret (pex_ix (pex_ix (pex_fld ((h.fld1 6 15 (c := 1) rfl rfl rfl).cons (h.fld1 9 16 (c := 0) rfl rfl rfl)) (pex_v 0 (by kernel_rfl))) (pex_v 1 (by kernel_rfl))) (pex_v 2 (by kernel_rfl)))))))
theorem a_Table_entry_at {G : Glo} (h : Hy G) : FnA G 4 (ma G.K (ga G.K "Table") "entry_at") 3 f_Table_entry_at := h.fnA 69 rfl c_Table_entry_at rfl (fun _ _ _ _ _ _ us hl => match us, hl with | [_, _, _], _ => by kernel_rfl) (s_Table_entry_at h)
theorem i_Table_entry_at {G : Glo} (h : Hy G) : MtIs G 4 0 "entry_at" 3 f_Table_entry_at := h.mt 9 151 rfl rfl rfl (a_Table_entry_at h)
/-! _law_used_right -/
def n__law_used_right : List Str := ["_law_lot_here", "_law_table", "_law_square", "_law_none", "_law_far", "_law_low", "_law_number", "_law_column", "_law_other", "_law_at", "_law_told", "_law_due"]
theorem d__law_used_right : n__law_used_right.Nodup := by decide +kernel
def b__law_used_right : DS := (sSeq (sAsg (dTup (dCons (dMk 0 f_Table___init__ (dCons (dC (.int 3)) (dCons (dC (.int 2)) (dCons (dC (.int 3)) (dCons (dTup (dCons (dTup (dCons (dC (.int 1)) (dCons (dC (.int 2)) (dCons (dC (.int 0)) dNil)))) (dCons (dTup (dCons (dC (.int 0)) (dCons (dC (.int 0)) (dCons (dC (.int 1)) dNil)))) dNil))) dNil))))) (dCons (dMk 0 f_Table___init__ (dCons (dC (.int 3)) (dCons (dC (.int 2)) (dCons (dC (.int 2)) (dCons (dTup (dCons (dTup (dCons (dC (.int 1)) (dCons (dC (.int 2)) dNil))) (dCons (dTup (dCons (dC (.int 2)) (dCons (dC (.int 1)) dNil))) dNil))) dNil))))) dNil))) (gTup 2 (gCons (gNm 1) (gCons (gNm 2) gNil)))) (sSeq (sAsg (dCall f__law_one_of (dCons (dVar 0) (dCons (dLst (dCons (dC .non) (dCons (dC (.int 1)) (dCons (dTup (dCons (dTup (dCons (dC (.int 1)) (dCons (dC (.int 2)) (dCons (dC (.int 0)) dNil)))) (dCons (dTup (dCons (dC (.int 0)) (dCons (dC (.int 0)) (dCons (dC (.int 1)) dNil)))) dNil))) (dCons (dC (.str "table of 2 by 3 modulo 3")) (dCons (dLst dNil) (dCons dDic0 dNil))))))) dNil))) (gNm 3)) (sSeq (sAsg (dCall f__law_one_of (dCons (dVar 0) (dCons (dLst (dCons (dMk 0 f_Table___init__ (dCons (dC (.int 5)) (dCons (dC (.int 2)) (dCons (dC (.int 3)) (dCons (dTup (dCons (dTup (dCons (dC (.int 1)) (dCons (dC (.int 2)) (dCons (dC (.int 0)) dNil)))) (dCons (dTup (dCons (dC (.int 0)) (dCons (dC (.int 0)) (dCons (dC (.int 1)) dNil)))) dNil))) dNil))))) (dCons (dVar 2) (dCons (dMk 0 f_Table___init__ (dCons (dC (.int 3)) (dCons (dC (.int 3)) (dCons (dC (.int 2)) (dCons (dBin oMulB (dTup (dCons (dTup (dCons (dC (.int 1)) (dCons (dC (.int 0)) dNil))) dNil)) (dC (.int 3))) dNil))))) dNil)))) dNil))) (gNm 4)) (sSeq (sAsg (dCall f__law_one_of (dCons (dVar 0) (dCons (dLst (dCons (dVar 2) (dCons (dVar 1) (dCons (dMk 0 f_Table___init__ (dCons (dC (.int 5)) (dCons (dC (.int 3)) (dCons (dC (.int 1)) (dCons (dTup (dCons (dTup (dCons (dC (.int 1)) dNil)) (dCons (dTup (dCons (dC (.int 0)) dNil)) (dCons (dTup (dCons (dC (.int 0)) dNil)) dNil)))) dNil))))) dNil)))) dNil))) (gNm 5)) (sSeq (sAsg (dCall f__law_one_of (dCons (dVar 0) (dCons (dLst (dCons (dC .non) (dCons (dC (.str "1")) (dCons (dC (.bl true)) (dCons (dTup (dCons (dC (.int 1)) dNil)) (dCons (dBin oPowI (dC (.int 10)) (dC (.int 60))) dNil)))))) dNil))) (gNm 6)) (sSeq (sAsg (dCall f__law_one_of (dCons (dVar 0) (dCons (dLst (dCons (dC .non) (dCons (dTup (dCons (dC (.int 1)) (dCons (dC (.int 2)) dNil))) (dCons (dTup (dCons (dC (.int 1)) (dCons (dC (.int 2)) (dCons (dC (.int 3)) dNil)))) (dCons (dTup (dCons (dC (.int 1)) (dCons (dC (.int 0)) (dCons (dC (.bl true)) dNil)))) (dCons (dLst (dCons (dC (.int 1)) (dCons (dC (.int 0)) (dCons (dC (.int 0)) dNil)))) (dCons (dC (.str "120")) (dCons (dC (.int 5)) (dCons (dTup (dCons (dC (.int 0)) (dCons (dC (.int 0)) (dCons (dC (.int 0)) (dCons (dC (.int 0)) dNil))))) dNil))))))))) dNil))) (gNm 7)) (sSeq (sAsg (dCall f__law_one_of (dCons (dVar 0) (dCons (dLst (dCons (dC .non) (dCons (dTup (dCons (dC (.int 1)) (dCons (dC (.int 2)) (dCons (dC (.int 0)) dNil)))) (dCons (dTup (dCons (dC (.int 1)) (dCons (dC (.int 3)) dNil))) (dCons (dTup (dCons (dC (.int 1)) (dCons (dC (.bl true)) dNil))) (dCons (dLst (dCons (dC (.int 1)) (dCons (dC (.int 0)) dNil))) (dCons (dC (.str "12")) (dCons (dC (.int 5)) dNil)))))))) dNil))) (gNm 8)) (sSeq (sAsg (dCall f__law_one_of (dCons (dVar 0) (dCons (dLst (dCons (dC .non) (dCons (dUn oNeg (dC (.int 1))) (dCons (dC (.int 3)) (dCons (dC (.bl true)) (dCons (dC (.str "0")) (dCons (dBin oPowI (dC (.int 10)) (dC (.int 60))) dNil))))))) dNil))) (gNm 9)) (sSeq (sAsg (dLst (dCons (dGc (dWord exs__law_met hs__law_met fin__law_met (dMth 0 f_Table_plus (dVar 1) (dCons (dVar 3) dNil)))) dNil)) (gNm 10)) (sSeq (sExpr (dMeth isL mAppend (dVar 10) (dCons (dGc (dWord exs__law_met hs__law_met fin__law_met (dMth 0 f_Table_plus (dVar 1) (dCons (dVar 4) dNil)))) dNil))) (sSeq (sExpr (dMeth isL mAppend (dVar 10) (dCons (dGc (dWord exs__law_met hs__law_met fin__law_met (dMth 0 f_Table_minus (dVar 1) (dCons (dVar 3) dNil)))) dNil))) (sSeq (sExpr (dMeth isL mAppend (dVar 10) (dCons (dGc (dWord exs__law_met hs__law_met fin__law_met (dMth 0 f_Table_minus (dVar 1) (dCons (dVar 4) dNil)))) dNil))) (sSeq (sExpr (dMeth isL mAppend (dVar 10) (dCons (dGc (dWord exs__law_met hs__law_met fin__law_met (dMth 0 f_Table_times (dVar 1) (dCons (dVar 3) dNil)))) dNil))) (sSeq (sExpr (dMeth isL mAppend (dVar 10) (dCons (dGc (dWord exs__law_met hs__law_met fin__law_met (dMth 0 f_Table_times (dVar 1) (dCons (dVar 5) dNil)))) dNil))) (sSeq (sExpr (dMeth isL mAppend (dVar 10) (dCons (dGc (dWord exs__law_met hs__law_met fin__law_met (dMth 0 f_Table_scaled (dVar 1) (dCons (dVar 6) dNil)))) dNil))) (sSeq (sExpr (dMeth isL mAppend (dVar 10) (dCons (dGc (dWord exs__law_met hs__law_met fin__law_met (dMth 0 f_Table_leading (dVar 1) (dCons (dVar 7) dNil)))) dNil))) (sSeq (sExpr (dMeth isL mAppend (dVar 10) (dCons (dGc (dWord exs__law_met hs__law_met fin__law_met (dMth 0 f_Table_solved (dVar 1) (dCons (dVar 8) dNil)))) dNil))) (sSeq (sExpr (dMeth isL mAppend (dVar 10) (dCons (dGc (dWord exs__law_met hs__law_met fin__law_met (dMth 0 f_Table_undone (dVar 1) dNil))) dNil))) (sSeq (sExpr (dMeth isL mAppend (dVar 10) (dCons (dGc (dWord exs__law_met hs__law_met fin__law_met (dMth 0 f_Table_undone (dVar 2) dNil))) dNil))) (sSeq (sExpr (dMeth isL mAppend (dVar 10) (dCons (dGc (dWord exs__law_met hs__law_met fin__law_met (dMth 0 f_Table_blocks (dVar 1) (dCons (dVar 3) dNil)))) dNil))) (sSeq (sExpr (dMeth isL mAppend (dVar 10) (dCons (dGc (dWord exs__law_met hs__law_met fin__law_met (dMth 0 f_Table_blocks (dVar 1) (dCons (dMk 0 f_Table___init__ (dCons (dC (.int 7)) (dCons (dC (.int 1)) (dCons (dC (.int 1)) (dCons (dTup (dCons (dTup (dCons (dC (.int 1)) dNil)) dNil)) dNil))))) dNil)))) dNil))) (sSeq (sExpr (dMeth isL mAppend (dVar 10) (dCons (dGc (dWord exs__law_met hs__law_met fin__law_met (dMth 0 f_Table_blocks (dCall f_zero_table (dCons (dC (.int 3)) (dCons (dC (.int 1)) (dCons (dC (.int 34)) dNil)))) (dCons (dVar 1) dNil)))) dNil))) (sSeq (sExpr (dMeth isL mAppend (dVar 10) (dCons (dGc (dWord exs__law_met hs__law_met fin__law_met (dMth 0 f_Table_entry_at (dVar 1) (dCons (dVar 9) (dCons (dC .non) dNil))))) dNil))) (sSeq (sExpr (dMeth isL mAppend (dVar 10) (dCons (dGc (dWord exs__law_met hs__law_met fin__law_met (dMth 0 f_Table_entry_at (dVar 1) (dCons (dC (.int 1)) (dCons (dVar 9) dNil))))) dNil))) (sSeq (sAsg (dBin oAdd (dBin oAdd (dBin oAdd (dBin oMulA (dLst (dCons (dC (.str "table")) (dCons (dC (.str "operation")) dNil))) (dC (.int 3))) (dLst (dCons (dBin oAdd (dC (.str "count ")) (dCallB (b1 fRepr) (dCons (dVar 6) dNil))) dNil))) (dBin oMulA (dLst (dCons (dC (.str "operation")) dNil)) (dC (.int 4)))) (dLst (dCons (dC (.str "table")) (dCons (dC (.str "operation")) (dCons (dC (.str "many 36")) dNil))))) (gNm 11)) (sRet (dGc (dBin oEq (dVar 10) (dBin oAdd (dVar 11) (dBin oMulA (dLst (dCons (dBin oAdd (dC (.str "count ")) (dCallB (b1 fRepr) (dCons (dVar 9) dNil))) dNil)) (dC (.int 2))))))))))))))))))))))))))))))))
def f__law_used_right : Fn := mkFn n__law_used_right.length b__law_used_right
theorem c__law_used_right : FnScope n__law_used_right ["_law_lot_here"] (defScope (top 94)) := ⟨by kernel_rfl, by kernel_rfl, by kernel_rfl, d__law_used_right, by kernel_rfl, by decide +kernel, by decide +kernel⟩
theorem s__law_used_right {G : Glo} (h : Hy G) : PSsx ⟨G, 13, n__law_used_right, defScope (top 94), fun _ => true, some (("_law_used_right" : Str) ++ (".<locals>." : Str), codeF G.K ((fun K => ga K "_law_used_right") G.K)), true⟩ (defBody (top 94)) b__law_used_right := (pssx_cons (psx_asgS (pex_tup (pax_cons (pex_new (i_Table___init__ h) (by kernel_rfl) (by kernel_rfl) (pax_cons pex_int (pax_cons pex_int (pax_cons pex_int (pax_cons (pex_tup (pax_cons (pex_tup (pax_cons pex_int (pax_cons pex_int (pax_cons pex_int pax_nil)))) (pax_cons (pex_tup (pax_cons pex_int (pax_cons pex_int (pax_cons pex_int pax_nil)))) pax_nil))) pax_nil)))) (ln1 (ln1 (ln1 (ln1 ln0))))) (pax_cons (pex_new (i_Table___init__ h) (by kernel_rfl) (by kernel_rfl) (pax_cons pex_int (pax_cons pex_int (pax_cons pex_int (pax_cons (pex_tup (pax_cons (pex_tup (pax_cons pex_int (pax_cons pex_int pax_nil))) (pax_cons (pex_tup (pax_cons pex_int (pax_cons pex_int pax_nil))) pax_nil))) pax_nil)))) (ln1 (ln1 (ln1 (ln1 ln0))))) pax_nil))) (pgx_tup (pgsx_cons (pgx_v d__law_used_right 1 (by kernel_rfl)) (pgsx_cons (pgx_v d__law_used_right 2 (by kernel_rfl)) pgsx_nil))) (fun _ _ => rfl) (fun env he => by cases env; dsimp only at he; subst he; kernel_rfl)) (pssx_cons (psx_asg (pex_cl (i__law_one_of h) (by kernel_rfl) (by kernel_rfl) (pax_cons (pex_v 0 (by kernel_rfl)) (pax_cons (pex_lst (pax_cons pex_non (pax_cons pex_int (pax_cons (pex_tup (pax_cons (pex_tup (pax_cons pex_int (pax_cons pex_int (pax_cons pex_int pax_nil)))) (pax_cons (pex_tup (pax_cons pex_int (pax_cons pex_int (pax_cons pex_int pax_nil)))) pax_nil))) (pax_cons pex_str (pax_cons (pex_lst pax_nil) (pax_cons pex_dic0 pax_nil))))))) pax_nil)) (ln1 (ln1 ln0))) (pgx_v d__law_used_right 3 (by kernel_rfl))) (pssx_cons (psx_asg (pex_cl (i__law_one_of h) (by kernel_rfl) (by kernel_rfl) (pax_cons (pex_v 0 (by kernel_rfl)) (pax_cons (pex_lst (pax_cons (pex_new (i_Table___init__ h) (by kernel_rfl) (by kernel_rfl) (pax_cons pex_int (pax_cons pex_int (pax_cons pex_int (pax_cons (pex_tup (pax_cons (pex_tup (pax_cons pex_int (pax_cons pex_int (pax_cons pex_int pax_nil)))) (pax_cons (pex_tup (pax_cons pex_int (pax_cons pex_int (pax_cons pex_int pax_nil)))) pax_nil))) pax_nil)))) (ln1 (ln1 (ln1 (ln1 ln0))))) (pax_cons (pex_v 2 (by kernel_rfl)) (pax_cons (pex_new (i_Table___init__ h) (by kernel_rfl) (by kernel_rfl) (pax_cons pex_int (pax_cons pex_int (pax_cons pex_int (pax_cons (pex_op opx_mulB (pex_tup (pax_cons (pex_tup (pax_cons pex_int (pax_cons pex_int pax_nil))) pax_nil)) pex_int) pax_nil)))) (ln1 (ln1 (ln1 (ln1 ln0))))) pax_nil)))) pax_nil)) (ln1 (ln1 ln0))) (pgx_v d__law_used_right 4 (by kernel_rfl))) (pssx_cons (psx_asg (pex_cl (i__law_one_of h) (by kernel_rfl) (by kernel_rfl) (pax_cons (pex_v 0 (by kernel_rfl)) (pax_cons (pex_lst (pax_cons (pex_v 2 (by kernel_rfl)) (pax_cons (pex_v 1 (by kernel_rfl)) (pax_cons (pex_new (i_Table___init__ h) (by kernel_rfl) (by kernel_rfl) (pax_cons pex_int (pax_cons pex_int (pax_cons pex_int (pax_cons (pex_tup (pax_cons (pex_tup (pax_cons pex_int pax_nil)) (pax_cons (pex_tup (pax_cons pex_int pax_nil)) (pax_cons (pex_tup (pax_cons pex_int pax_nil)) pax_nil)))) pax_nil)))) (ln1 (ln1 (ln1 (ln1 ln0))))) pax_nil)))) pax_nil)) (ln1 (ln1 ln0))) (pgx_v d__law_used_right 5 (by kernel_rfl))) (pssx_cons (psx_asg (pex_cl (i__law_one_of h) (by kernel_rfl) (by kernel_rfl) (pax_cons (pex_v 0 (by kernel_rfl)) (pax_cons (pex_lst (pax_cons pex_non (pax_cons pex_str (pax_cons pex_bl (pax_cons (pex_tup (pax_cons pex_int pax_nil)) (pax_cons (pex_op opx_powI pex_int pex_int) pax_nil)))))) pax_nil)) (ln1 (ln1 ln0))) (pgx_v d__law_used_right 6 (by kernel_rfl))) (pssx_cons (psx_asg (pex_cl (i__law_one_of h) (by kernel_rfl) (by kernel_rfl) (pax_cons (pex_v 0 (by kernel_rfl)) (pax_cons (pex_lst (pax_cons pex_non (pax_cons (pex_tup (pax_cons pex_int (pax_cons pex_int pax_nil))) (pax_cons (pex_tup (pax_cons pex_int (pax_cons pex_int (pax_cons pex_int pax_nil)))) (pax_cons (pex_tup (pax_cons pex_int (pax_cons pex_int (pax_cons pex_bl pax_nil)))) (pax_cons (pex_lst (pax_cons pex_int (pax_cons pex_int (pax_cons pex_int pax_nil)))) (pax_cons pex_str (pax_cons pex_int (pax_cons (pex_tup (pax_cons pex_int (pax_cons pex_int (pax_cons pex_int (pax_cons pex_int pax_nil))))) pax_nil))))))))) pax_nil)) (ln1 (ln1 ln0))) (pgx_v d__law_used_right 7 (by kernel_rfl))) (pssx_cons (psx_asg (pex_cl (i__law_one_of h) (by kernel_rfl) (by kernel_rfl) (pax_cons (pex_v 0 (by kernel_rfl)) (pax_cons (pex_lst (pax_cons pex_non (pax_cons (pex_tup (pax_cons pex_int (pax_cons pex_int (pax_cons pex_int pax_nil)))) (pax_cons (pex_tup (pax_cons pex_int (pax_cons pex_int pax_nil))) (pax_cons (pex_tup (pax_cons pex_int (pax_cons pex_bl pax_nil))) (pax_cons (pex_lst (pax_cons pex_int (pax_cons pex_int pax_nil))) (pax_cons pex_str (pax_cons pex_int pax_nil)))))))) pax_nil)) (ln1 (ln1 ln0))) (pgx_v d__law_used_right 8 (by kernel_rfl))) (pssx_cons (psx_asg (pex_cl (i__law_one_of h) (by kernel_rfl) (by kernel_rfl) (pax_cons (pex_v 0 (by kernel_rfl)) (pax_cons (pex_lst (pax_cons pex_non (pax_cons (pex_un unx_neg pex_int) (pax_cons pex_int (pax_cons pex_bl (pax_cons pex_str (pax_cons (pex_op opx_powI pex_int pex_int) pax_nil))))))) pax_nil)) (ln1 (ln1 ln0))) (pgx_v d__law_used_right 9 (by kernel_rfl))) (pssx_cons (psx_asg (pex_lst (pax_cons (pex_drop (pex_word (k := 11) (w__law_met h) (sub__law_met h) rfl rfl (h.tbOk 3 50 rfl rfl) (by kernel_rfl) (by kernel_rfl) (by kernel_rfl) (pex_mth (i_Table_plus h) (Nat.le_of_ble_eq_true (by kernel_rfl)) (pex_v 1 (by kernel_rfl)) (pax_cons (pex_v 3 (by kernel_rfl)) pax_nil) (ln1 ln0)))) pax_nil)) (pgx_v d__law_used_right 10 (by kernel_rfl))) (pssx_cons (psx_expr (pex_bm PySem.F.plainAttrs_list PySem.F.slot_list_append PySem.F.type_list_append mtx_append hckL (pex_v 10 (by kernel_rfl)) (pax_cons (pex_drop (pex_word (k := 11) (w__law_met h) (sub__law_met h) rfl rfl (h.tbOk 3 50 rfl rfl) (by kernel_rfl) (by kernel_rfl) (by kernel_rfl) (pex_mth (i_Table_plus h) (Nat.le_of_ble_eq_true (by kernel_rfl)) (pex_v 1 (by kernel_rfl)) (pax_cons (pex_v 4 (by kernel_rfl)) pax_nil) (ln1 ln0)))) pax_nil))) (pssx_cons (psx_expr (pex_bm PySem.F.plainAttrs_list PySem.F.slot_list_append PySem.F.type_list_append mtx_append hckL (pex_v 10 (by kernel_rfl)) (pax_cons (pex_drop (pex_word (k := 11) (w__law_met h) (sub__law_met h) rfl rfl (h.tbOk 3 50 rfl rfl) (by kernel_rfl) (by kernel_rfl) (by kernel_rfl) (pex_mth (i_Table_minus h) (Nat.le_of_ble_eq_true (by kernel_rfl)) (pex_v 1 (by kernel_rfl)) (pax_cons (pex_v 3 (by kernel_rfl)) pax_nil) (ln1 ln0)))) pax_nil))) (pssx_cons (psx_expr (pex_bm PySem.F.plainAttrs_list PySem.F.slot_list_append PySem.F.type_list_append mtx_append hckL (pex_v 10 (by kernel_rfl)) (pax_cons (pex_drop (pex_word (k := 11) (w__law_met h) (sub__law_met h) rfl rfl (h.tbOk 3 50 rfl rfl) (by kernel_rfl) (by kernel_rfl) (by kernel_rfl) (pex_mth (i_Table_minus h) (Nat.le_of_ble_eq_true (by kernel_rfl)) (pex_v 1 (by kernel_rfl)) (pax_cons (pex_v 4 (by kernel_rfl)) pax_nil) (ln1 ln0)))) pax_nil))) (pssx_cons (psx_expr (pex_bm PySem.F.plainAttrs_list PySem.F.slot_list_append PySem.F.type_list_append mtx_append hckL (pex_v 10 (by kernel_rfl)) (pax_cons (pex_drop (pex_word (k := 11) (w__law_met h) (sub__law_met h) rfl rfl (h.tbOk 3 50 rfl rfl) (by kernel_rfl) (by kernel_rfl) (by kernel_rfl) (pex_mth (i_Table_times h) (Nat.le_of_ble_eq_true (by kernel_rfl)) (pex_v 1 (by kernel_rfl)) (pax_cons (pex_v 3 (by kernel_rfl)) pax_nil) (ln1 ln0)))) pax_nil))) (pssx_cons (psx_expr (pex_bm PySem.F.plainAttrs_list PySem.F.slot_list_append PySem.F.type_list_append mtx_append hckL (pex_v 10 (by kernel_rfl)) (pax_cons (pex_drop (pex_word (k := 11) (w__law_met h) (sub__law_met h) rfl rfl (h.tbOk 3 50 rfl rfl) (by kernel_rfl) (by kernel_rfl) (by kernel_rfl) (pex_mth (i_Table_times h) (Nat.le_of_ble_eq_true (by kernel_rfl)) (pex_v 1 (by kernel_rfl)) (pax_cons (pex_v 5 (by kernel_rfl)) pax_nil) (ln1 ln0)))) pax_nil))) (pssx_cons (psx_expr (pex_bm PySem.F.plainAttrs_list PySem.F.slot_list_append PySem.F.type_list_append mtx_append hckL (pex_v 10 (by kernel_rfl)) (pax_cons (pex_drop (pex_word (k := 10) (w__law_met h) (sub__law_met h) rfl rfl (h.tbOk 3 50 rfl rfl) (by kernel_rfl) (by kernel_rfl) (by kernel_rfl) (pex_mth (i_Table_scaled h) (Nat.le_of_ble_eq_true (by kernel_rfl)) (pex_v 1 (by kernel_rfl)) (pax_cons (pex_v 6 (by kernel_rfl)) pax_nil) (ln1 ln0)))) pax_nil))) (pssx_cons (psx_expr (pex_bm PySem.F.plainAttrs_list PySem.F.slot_list_append PySem.F.type_list_append mtx_append hckL (pex_v 10 (by kernel_rfl)) (pax_cons (pex_drop (pex_word (k := 5) (w__law_met h) (sub__law_met h) rfl rfl (h.tbOk 3 50 rfl rfl) (by kernel_rfl) (by kernel_rfl) (by kernel_rfl) (pex_mth (i_Table_leading h) (Nat.le_of_ble_eq_true (by kernel_rfl)) (pex_v 1 (by kernel_rfl)) (pax_cons (pex_v 7 (by kernel_rfl)) pax_nil) (ln1 ln0)))) pax_nil))) (pssx_cons (psx_expr (pex_bm PySem.F.plainAttrs_list PySem.F.slot_list_append PySem.F.type_list_append mtx_append hckL (pex_v 10 (by kernel_rfl)) (pax_cons (pex_drop (pex_word (k := 5) (w__law_met h) (sub__law_met h) rfl rfl (h.tbOk 3 50 rfl rfl) (by kernel_rfl) (by kernel_rfl) (by kernel_rfl) (pex_mth (i_Table_solved h) (Nat.le_of_ble_eq_true (by kernel_rfl)) (pex_v 1 (by kernel_rfl)) (pax_cons (pex_v 8 (by kernel_rfl)) pax_nil) (ln1 ln0)))) pax_nil))) (pssx_cons (psx_expr (pex_bm PySem.F.plainAttrs_list PySem.F.slot_list_append PySem.F.type_list_append mtx_append hckL (pex_v 10 (by kernel_rfl)) (pax_cons (pex_drop (pex_word (k := 10) (w__law_met h) (sub__law_met h) rfl rfl (h.tbOk 3 50 rfl rfl) (by kernel_rfl) (by kernel_rfl) (by kernel_rfl) (pex_mth0 (i_Table_undone h) (Nat.le_of_ble_eq_true (by kernel_rfl)) (pex_v 1 (by kernel_rfl))))) pax_nil))) (pssx_cons (psx_expr (pex_bm PySem.F.plainAttrs_list PySem.F.slot_list_append PySem.F.type_list_append mtx_append hckL (pex_v 10 (by kernel_rfl)) (pax_cons (pex_drop (pex_word (k := 10) (w__law_met h) (sub__law_met h) rfl rfl (h.tbOk 3 50 rfl rfl) (by kernel_rfl) (by kernel_rfl) (by kernel_rfl) (pex_mth0 (i_Table_undone h) (Nat.le_of_ble_eq_true (by kernel_rfl)) (pex_v 2 (by kernel_rfl))))) pax_nil))) (pssx_cons (psx_expr (pex_bm PySem.F.plainAttrs_list PySem.F.slot_list_append PySem.F.type_list_append mtx_append hckL (pex_v 10 (by kernel_rfl)) (pax_cons (pex_drop (pex_word (k := 11) (w__law_met h) (sub__law_met h) rfl rfl (h.tbOk 3 50 rfl rfl) (by kernel_rfl) (by kernel_rfl) (by kernel_rfl) (pex_mth (i_Table_blocks h) (Nat.le_of_ble_eq_true (by kernel_rfl)) (pex_v 1 (by kernel_rfl)) (pax_cons (pex_v 3 (by kernel_rfl)) pax_nil) (ln1 ln0)))) pax_nil))) (pssx_cons (psx_expr (pex_bm PySem.F.plainAttrs_list PySem.F.slot_list_append PySem.F.type_list_append mtx_append hckL (pex_v 10 (by kernel_rfl)) (pax_cons (pex_drop (pex_word (k := 11) (w__law_met h) (sub__law_met h) rfl rfl (h.tbOk 3 50 rfl rfl) (by kernel_rfl) (by kernel_rfl) (by kernel_rfl) (pex_mth (i_Table_blocks h) (Nat.le_of_ble_eq_true (by kernel_rfl)) (pex_v 1 (by kernel_rfl)) (pax_cons (pex_new (i_Table___init__ h) (by kernel_rfl) (by kernel_rfl) (pax_cons pex_int (pax_cons pex_int (pax_cons pex_int (pax_cons (pex_tup (pax_cons (pex_tup (pax_cons pex_int pax_nil)) pax_nil)) pax_nil)))) (ln1 (ln1 (ln1 (ln1 ln0))))) pax_nil) (ln1 ln0)))) pax_nil))) (pssx_cons (psx_expr (pex_bm PySem.F.plainAttrs_list PySem.F.slot_list_append PySem.F.type_list_append mtx_append hckL (pex_v 10 (by kernel_rfl)) (pax_cons (pex_drop (pex_word (k := 11) (w__law_met h) (sub__law_met h) rfl rfl (h.tbOk 3 50 rfl rfl) (by kernel_rfl) (by kernel_rfl) (by kernel_rfl) (pex_mth (i_Table_blocks h) (Nat.le_of_ble_eq_true (by kernel_rfl)) (pex_cl (i_zero_table h) (by kernel_rfl) (by kernel_rfl) (pax_cons pex_int (pax_cons pex_int (pax_cons pex_int pax_nil))) (ln1 (ln1 (ln1 ln0)))) (pax_cons (pex_v 1 (by kernel_rfl)) pax_nil) (ln1 ln0)))) pax_nil))) (pssx_cons (psx_expr (pex_bm PySem.F.plainAttrs_list PySem.F.slot_list_append PySem.F.type_list_append mtx_append hckL (pex_v 10 (by kernel_rfl)) (pax_cons (pex_drop (pex_word (k := 4) (w__law_met h) (sub__law_met h) rfl rfl (h.tbOk 3 50 rfl rfl) (by kernel_rfl) (by kernel_rfl) (by kernel_rfl) (pex_mth (i_Table_entry_at h) (Nat.le_of_ble_eq_true (by kernel_rfl)) (pex_v 1 (by kernel_rfl)) (pax_cons (pex_v 9 (by kernel_rfl)) (pax_cons pex_non pax_nil)) (ln1 (ln1 ln0))))) pax_nil))) (pssx_cons (psx_expr (pex_bm PySem.F.plainAttrs_list PySem.F.slot_list_append PySem.F.type_list_append mtx_append hckL (pex_v 10 (by kernel_rfl)) (pax_cons (pex_drop (pex_word (k := 4) (w__law_met h) (sub__law_met h) rfl rfl (h.tbOk 3 50 rfl rfl) (by kernel_rfl) (by kernel_rfl) (by kernel_rfl) (pex_mth (i_Table_entry_at h) (Nat.le_of_ble_eq_true (by kernel_rfl)) (pex_v 1 (by kernel_rfl)) (pax_cons pex_int (pax_cons (pex_v 9 (by kernel_rfl)) pax_nil)) (ln1 (ln1 ln0))))) pax_nil))) (pssx_cons (psx_asg (pex_op opx_add (pex_op opx_add (pex_op opx_add (pex_op opx_mulA (pex_lst (pax_cons pex_str (pax_cons pex_str pax_nil))) pex_int) (pex_lst (pax_cons (pex_op opx_add pex_str (pex_bf (cx_repr rfl) (by kernel_rfl) (h.free 77 rfl) (pax_cons (pex_v 6 (by kernel_rfl)) pax_nil))) pax_nil))) (pex_op opx_mulA (pex_lst (pax_cons pex_str pax_nil)) pex_int)) (pex_lst (pax_cons pex_str (pax_cons pex_str (pax_cons pex_str pax_nil))))) (pgx_v d__law_used_right 11 (by kernel_rfl))) (pssx_one (psx_ret (pex_drop (pex_cmp opx_eq (pex_v 10 (by kernel_rfl)) (pex_op opx_add (pex_v 11 (by kernel_rfl)) (pex_op opx_mulA (pex_lst (pax_cons (pex_op opx_add pex_str (pex_bf (cx_repr rfl) (by kernel_rfl) (h.free 77 rfl) (pax_cons (pex_v 9 (by kernel_rfl)) pax_nil))) pax_nil)) pex_int)) rfl)))))))))))))))))))))))))))))
theorem i__law_used_right {G : Glo} (h : Hy G) : FnIsG G 14 "_law_used_right" 1 f__law_used_right := h.fnIsG 70 152 rfl rfl rfl c__law_used_right rfl (fun _ _ _ _ _ _ us hl => match us, hl with | [_], _ => by kernel_rfl) (s__law_used_right h)
/-! law -/
def n_law : List Str := ["_law_script", "_law_spot", "_law_lot_here", "_law_prime", "_law_side", "_law_one", "_law_two", "_law_told"]
theorem d_law : n_law.Nodup := by decide +kernel
def b_law : DS := (sSeq (sFor (iRng1 (dCons (dCallB (b2 fMax2) (dCons (dC (.int 1)) (dCons (dCallB (b2 fMin2) (dCons (dC (.int 4)) (dCons (dCallB (b1 fLen) (dCons (dVar 0) dNil)) dNil))) dNil))) dNil)) (gNm 1) (sSeq (sAsg (dCall f__law_lot (dCons (dVar 0) (dCons (dVar 1) dNil))) (gNm 2)) (sSeq (sAsg (dCall f__law_one_of (dCons (dVar 2) (dCons (dLst (dCons (dC .non) (dCons (dC (.int 0)) (dCons (dC (.int 1)) (dCons (dC (.int 4)) (dCons (dC (.int 11)) (dCons (dUn oNeg (dC (.int 2))) (dCons (dC (.bl true)) (dCons (dC (.str "2")) (dCons (dTup (dCons (dC (.int 2)) dNil)) (dCons (dBin oPowI (dC (.int 10)) (dC (.int 60))) dNil))))))))))) dNil))) (gNm 3)) (sSeq (sAsg (dCall f__law_one_of (dCons (dVar 2) (dCons (dLst (dCons (dC .non) (dCons (dUn oNeg (dC (.int 1))) (dCons (dC (.int 37)) (dCons (dC (.bl true)) (dCons (dC (.str "2")) (dCons (dTup (dCons (dC (.int 2)) dNil)) (dCons (dBin oPowI (dC (.int 10)) (dC (.int 60))) dNil)))))))) dNil))) (gNm 4)) (sIf (tOr2 (tNot1 (dTst (dCallL2 f__law_made_right (dCons (dVar 2) (dCons (dVar 3) (dCons (dVar 4) dNil)))))) (tOr2 (tNot1 (dTst (dCallL2 f__law_listed_right (dCons (dVar 2) (dCons (dVar 3) (dCons (dVar 4) dNil)))))) (tNot1 (dTst (dCallL2 f__law_used_right (dCons (dVar 2) dNil)))))) (sRet (dC (.bl false))) sNext))))) (sIso [] tail_law))
def f_law : Fn := mkFn n_law.length b_law
theorem c_law : FnScope n_law ["_law_script"] (defScope (top 95)) := ⟨by kernel_rfl, by kernel_rfl, by kernel_rfl, d_law, by kernel_rfl, by decide +kernel, by decide +kernel⟩
theorem s_law {G : Glo} (h : Hy G) : PSsx ⟨G, 14, n_law, defScope (top 95), fun _ => true, some (("law" : Str) ++ (".<locals>." : Str), codeF G.K ((fun K => ga K "law") G.K)), true⟩ (defBody (top 95)) b_law := (pssx_cons (psx_for (pix_range1 (by kernel_rfl) (h.free 71 rfl) (pax_cons (pex_bf cx_max2 (by kernel_rfl) (h.free 70 rfl) (pax_cons pex_int (pax_cons (pex_bf cx_min2 (by kernel_rfl) (h.free 69 rfl) (pax_cons pex_int (pax_cons (pex_bf cx_len (by kernel_rfl) (h.free 36 rfl) (pax_cons (pex_v 0 (by kernel_rfl)) pax_nil)) pax_nil))) pax_nil))) pax_nil)) (pgx_v d_law 1 (by kernel_rfl)) (pssx_cons (psx_asg (pex_cl (i__law_lot h) (by kernel_rfl) (by kernel_rfl) (pax_cons (pex_v 0 (by kernel_rfl)) (pax_cons (pex_v 1 (by kernel_rfl)) pax_nil)) (ln1 (ln1 ln0))) (pgx_v d_law 2 (by kernel_rfl))) (pssx_cons (psx_asg (pex_cl (i__law_one_of h) (by kernel_rfl) (by kernel_rfl) (pax_cons (pex_v 2 (by kernel_rfl)) (pax_cons (pex_lst (pax_cons pex_non (pax_cons pex_int (pax_cons pex_int (pax_cons pex_int (pax_cons pex_int (pax_cons (pex_un unx_neg pex_int) (pax_cons pex_bl (pax_cons pex_str (pax_cons (pex_tup (pax_cons pex_int pax_nil)) (pax_cons (pex_op opx_powI pex_int pex_int) pax_nil))))))))))) pax_nil)) (ln1 (ln1 ln0))) (pgx_v d_law 3 (by kernel_rfl))) (pssx_cons (psx_asg (pex_cl (i__law_one_of h) (by kernel_rfl) (by kernel_rfl) (pax_cons (pex_v 2 (by kernel_rfl)) (pax_cons (pex_lst (pax_cons pex_non (pax_cons (pex_un unx_neg pex_int) (pax_cons pex_int (pax_cons pex_bl (pax_cons pex_str (pax_cons (pex_tup (pax_cons pex_int pax_nil)) (pax_cons (pex_op opx_powI pex_int pex_int) pax_nil)))))))) pax_nil)) (ln1 (ln1 ln0))) (pgx_v d_law 4 (by kernel_rfl))) (pssx_one (psx_if (PWx.pt (pwx_or (ptx_not (ptx_truth (pex_clGL2 (i__law_made_right h) (by kernel_rfl) (by kernel_rfl) rfl (pax_cons (pex_v 2 (by kernel_rfl)) (pax_cons (pex_v 3 (by kernel_rfl)) (pax_cons (pex_v 4 (by kernel_rfl)) pax_nil))) (ln1 (ln1 (ln1 ln0)))))) (pwx_or (ptx_not (ptx_truth (pex_clGL2 (i__law_listed_right h) (by kernel_rfl) (by kernel_rfl) rfl (pax_cons (pex_v 2 (by kernel_rfl)) (pax_cons (pex_v 3 (by kernel_rfl)) (pax_cons (pex_v 4 (by kernel_rfl)) pax_nil))) (ln1 (ln1 (ln1 ln0)))))) (pwx_or1 (ptx_not (ptx_truth (pex_clGL2 (i__law_used_right h) (by kernel_rfl) (by kernel_rfl) rfl (pax_cons (pex_v 2 (by kernel_rfl)) pax_nil) (ln1 ln0)))))))) (pssx_one (psx_ret pex_bl)) pssx_nil)))))) (pssx_iso [] (pssx_cons (psx_par (i := 5) (j := 6) d_law (by kernel_rfl) (by kernel_rfl) (by decide) (by kernel_rfl) (by kernel_rfl) (pax_cons (pex_new (i_Table___init__ h) (by kernel_rfl) (by kernel_rfl) (pax_cons pex_int (pax_cons pex_int (pax_cons pex_int (pax_cons (pex_tup (pax_cons (pex_tup (pax_cons pex_int (pax_cons pex_int pax_nil))) pax_nil)) pax_nil)))) (ln1 (ln1 (ln1 (ln1 ln0))))) (pax_cons (pex_new (i_Table___init__ h) (by kernel_rfl) (by kernel_rfl) (pax_cons pex_int (pax_cons pex_int (pax_cons pex_int (pax_cons (pex_tup (pax_cons (pex_tup (pax_cons pex_int (pax_cons pex_int pax_nil))) pax_nil)) pax_nil)))) (ln1 (ln1 (ln1 (ln1 ln0))))) pax_nil)) (fun env he => by cases env; dsimp only at he; subst he; kernel_rfl)) (pssx_cons (psx_asg (pex_lst (pax_cons (pex_cmp (opx_own (q_Table___eq__ h) (by kernel_rfl)) (pex_v 5 (by kernel_rfl)) (pex_v 6 (by kernel_rfl)) rfl) (pax_cons (pex_cmp (opx_own (q_Table___eq__ h) (by kernel_rfl)) (pex_v 5 (by kernel_rfl)) (pex_new (i_Table___init__ h) (by kernel_rfl) (by kernel_rfl) (pax_cons pex_int (pax_cons pex_int (pax_cons pex_int (pax_cons (pex_tup (pax_cons (pex_tup (pax_cons pex_int (pax_cons pex_int pax_nil))) pax_nil)) pax_nil)))) (ln1 (ln1 (ln1 (ln1 ln0))))) rfl) (pax_cons (pex_cmp (opx_own (q_Table___eq__ h) (by kernel_rfl)) (pex_v 5 (by kernel_rfl)) (pex_tup (pax_cons (pex_tup (pax_cons pex_int (pax_cons pex_int pax_nil))) pax_nil)) rfl) (pax_cons (pex_cmp (opx_own (q_Table___eq__ h) (by kernel_rfl)) (pex_v 5 (by kernel_rfl)) pex_non rfl) (pax_cons (pex_cmp (opx_own (q_Table___eq__ h) (by kernel_rfl)) (pex_new (i_Table___init__ h) (by kernel_rfl) (by kernel_rfl) (pax_cons pex_int (pax_cons pex_int (pax_cons pex_int (pax_cons (pex_tup pax_nil) pax_nil)))) (ln1 (ln1 (ln1 (ln1 ln0))))) (pex_new (i_Table___init__ h) (by kernel_rfl) (by kernel_rfl) (pax_cons pex_int (pax_cons pex_int (pax_cons pex_int (pax_cons (pex_tup pax_nil) pax_nil)))) (ln1 (ln1 (ln1 (ln1 ln0))))) rfl) pax_nil)))))) (pgx_v d_law 7 (by kernel_rfl))) (pssx_one (psx_ret (pex_and (pex_cmp opx_eq (pex_v 7 (by kernel_rfl)) (pex_lst (pax_cons pex_bl (pax_cons pex_bl (pax_cons pex_bl (pax_cons pex_bl (pax_cons pex_bl pax_nil)))))) rfl) (pex_one (pex_cmp opx_eq (pex_lst (pax_cons (pex_gi (by kernel_rfl) (h.int 34 rfl)) (pax_cons (pex_gi (by kernel_rfl) (h.int 68 rfl)) (pax_cons (pex_gi (by kernel_rfl) (h.int 67 rfl)) pax_nil)))) (pex_lst (pax_cons pex_int (pax_cons pex_int (pax_cons pex_int pax_nil)))) rfl)))))))))
theorem i_law {G : Glo} (h : Hy G) : FnIsG G 15 "law" 1 f_law := h.fnIsG 71 153 rfl rfl rfl c_law rfl (fun _ _ _ _ _ _ us hl => match us, hl with | [_], _ => by kernel_rfl) (s_law h)
def names0 : List PySem.Str := ["ArrowError", "InvalidCount", "InvalidOperation", "InvalidPoly", "InvalidPrime", "InvalidTable", "Kept", "MAX_SIDE", "MAX_SPACES", "MAX_TURNS", "MOST_CHOSEN", "MOST_COUNTED", "MOST_DEGREE", "MOST_DIGITS", "PRIMES", "Poly", "Rows", "Table", "TooMany", "_law_listed_right", "_law_lot", "_law_made_right", "_law_met", "_law_one_of", "_law_pull", "_law_used_right", "_wall", "all_columns", "all_turns", "are_rows"]
def names1 : List PySem.Str := ["base_of", "bases_with", "blocks_in", "choices_of", "column_with", "content_of", "divided", "free_rest", "gauss", "gauss_numbers", "gcd", "idle_table", "inner_of", "inverse_in", "is_column", "is_integer", "is_residue", "is_whole", "is_within", "lead_of", "less_row", "mixed_in", "numbers_told", "poly_of", "poly_told", "power_in", "product_in", "product_of", "raw_base", "raw_idle"]
def names2 : List PySem.Str := ["raw_mixed", "raw_rank", "raw_solved", "raw_swapped", "raw_times", "raw_undone", "require_columns", "require_integer", "require_prime", "require_table", "require_to", "require_within", "rows_told", "space_number", "spaces", "spaces_in", "stepped", "sum_of", "table_made", "tables_of_rank", "term_text", "text_of", "trimmed", "turn_number", "turn_number_in", "turns", "value_of", "zero_table"]
def names : List PySem.Str := names0 ++ names1 ++ names2
abbrev R : PySem.W.OpenRow := PySem.W.OpenLaw.row PySem.Challenge.rw_arrowsizes_k18_errors_of_tables
abbrev hk : PySem.W.Hook := hookZ 1200 cs fn (tf.map (·.1))
def ob (s : PySem.W.SharedT) : hk.α := obsZG 1200 cs fn (tf.map (·.1)) (HandSHeadRun.getT s)
theorem ob_eq (s : PySem.W.SharedT) : ob s = hk.obs s.abs := obsZG_eq (HandSHeadRun.getT_eq s)
def GL (P : Program) (w : World) (K : PySem.W.Frag) (mg : Str → Option Value) (base : Heap) : Glo := ⟨P, w, K, mg, base, fun c => match cl[c]? with
  | some x => ga K x
  | none => 0, tabZ K tf⟩
theorem hyp {w : World} {K : PySem.W.Frag} {mg : Str → Option Value} {h base : Heap} (KX : K.In h) (N : h.Ns mainGlobals mg) (c : SaysZ cs fn (tf.map (·.1)) h K) (TB : ∀ z ∈ tf, LamX.TabB base mg (tabA K (z.1 K)).1 (tabA K (z.1 K)).2) : Hy (GL PySem.Challenge.pw_arrowsizes_k18_errors_of_tables w K mg base) where
  prog := rfl
  all := c.all
  mgns := fun x r e => by
    cases r with
    | none => exact PySem.W.mg_none_of KX N e
    | some v => exact PySem.W.mg_of KX N e
  cls := fun c x e => by
    show (match cl[c]? with
      | some x => ga K x
      | none => 0) = ga K x
    rw [e]
  tabs := rfl
  tabB := TB
theorem facts {w : World} {K : PySem.W.Frag} {h : Heap} {mg : Str → Option Value} {fa : Addr} (plain : ∀ ns : List Int, ns.length ≤ 63 → ∀ S x, Scr S x ns → ∃ S', f_law [x] S = .ok (.bl true) S') (KX : K.In h) (N : h.Ns mainGlobals mg) (hmg : mg ("law" : Str) = some (.ref fa)) (c : SaysZ cs fn (tf.map (·.1)) h K) :
    LawAtG PySem.Challenge.pw_arrowsizes_k18_errors_of_tables w K 15 63 "_law_script" mg fa h := by
  obtain ⟨fd, F⟩ := c.fun_ 71 rfl
  have e : mg ("law" : Str) = some (.ref (ga K ("law" : Str))) := PySem.W.mg_of KX N (eqO_ok (c.ck 153 rfl))
  have e := hmg.symm.trans e
  cases e
  have mem : ∀ p ∈ tf.map (fun z => tabA K (z.1 K)), ∃ z ∈ tf.map (·.1), tabA K (z K) = p := fun p hp => by
    obtain ⟨z, hz, rfl⟩ := List.mem_map.mp hp
    exact ⟨z.1, List.mem_map.mpr ⟨z, hz, rfl⟩, rfl⟩
  refine ⟨(fun c => match cl[c]? with
    | some x => ga K x
    | none => 0), tabZ K tf, fd, tf.map (fun z => tabA K (z.1 K)), fun vs H Q E => ∀ base, (∀ p ∈ tf.map (fun z => tabA K (z.1 K)), LamX.TabB base mg p.1 p.2) → spD (GL PySem.Challenge.pw_arrowsizes_k18_errors_of_tables w K mg base) 1 f_law vs H Q E, fun p hp => ?_, fun p hp => ?_, fun p hp => ?_, fun s u => FunD.bindsA (ps := ["_law_script"]) F (fun _ _ _ _ _ _ us hl => match us, hl with | [_], _ => by kernel_rfl) s [u] rfl, fun H a ns hl hH hS base TB => ?_, fun base hKb hN TB => ?_⟩
  · obtain ⟨z, hz, rfl⟩ := mem p hp; exact c.empty z hz
  · obtain ⟨z, hz, rfl⟩ := mem p hp; exact c.out z hz
  · obtain ⟨z, hz, rfl⟩ := mem p hp; exact PySem.W.codeHd_of_K KX (c.hd z hz)
  · exact law_endsT (tabs_nil (tf := tf) rfl hH) hS (plain ns hl)
  · exact FnG.imp (fn_okG (G := GL PySem.Challenge.pw_arrowsizes_k18_errors_of_tables w K mg base) F c_law rfl (s_law (hyp KX N c fun z hz => TB _ (List.mem_map.mpr ⟨z, hz, rfl⟩)))) fun vs H Q E z => z base TB
end
end Zk18

namespace Zk18
open PySem PySem.Spec Z
theorem w_pull {S : Store} {i m : Nat} {n : Int} {Q : D → Store → Prop} (hL : Lot S i m) (hn : 0 < n) (hn2 : n < 2 ^ 200) (hm : m ≤ 2 ^ 40) (hQ : ∀ (k : Int) S', 0 ≤ k → k < n → Lot S' i (m + 1) → Kp i S S' → S.length = S'.length → Q (.int k) S') :
    WP (f__law_pull [.ref i, .int n] S) Q := by
  obtain ⟨a, b, c, hS, ha, hc, hcm⟩ := hL
  have hdn : divOk a n = true := divOk_of hn (pow_lt_of (by omega) hn2) (by decide)
  have hL1 : Lot (S.set i (.lst [.int (a / n), .int b, .int c])) i (m + 1) := ⟨_, _, _, set_at hS, Int.ediv_nonneg ha (by omega), hc, by omega⟩
  have hL2 : Lot (S.set i (.lst [.int a, .int b, .int (c + 1)])) i (m + 1) := ⟨_, _, _, set_at hS, ha, by omega, by omega⟩
  unfold f__law_pull
  rw [mkFn_wp]
  unfold b__law_pull n__law_pull
  have hc1 : (c + 1).natAbs < 2 ^ 41 := pow_lt_of (by omega) (by omega)
  have h1 : mulOk 99990001 (c + 1) = true := mulOk_of (m := 30) (n := 41) (by decide) hc1 (by decide)
  have h2 : mulOk 89 (c + 1) = true := mulOk_of (m := 30) (n := 41) (by decide) hc1 (by decide)
  have e1 : ∀ x : Int, 0 ≤ x % 2305843009213693409 ∧ x % 2305843009213693409 < 2 ^ 62 := fun x => ⟨Int.emod_nonneg _ (by decide), Int.lt_trans (Int.emod_lt_of_pos _ (by decide)) (by decide)⟩
  have e2 : ∀ x : Int, 0 ≤ x % 2305843009213693381 ∧ x % 2305843009213693381 < 2 ^ 62 := fun x => ⟨Int.emod_nonneg _ (by decide), Int.lt_trans (Int.emod_lt_of_pos _ (by decide)) (by decide)⟩
  have h3 : ∀ x : Int, mulOk (x % 2305843009213693409) (x % 2305843009213693409) = true := fun x => mulOk_of (m := 62) (n := 62) (pow_lt_of (e1 x).1 (e1 x).2) (pow_lt_of (e1 x).1 (e1 x).2) (by decide)
  have h4 : ∀ x : Int, mulOk (x % 2305843009213693381) 8675309 = true := fun x => mulOk_of (m := 62) (n := 62) (pow_lt_of (e2 x).1 (e2 x).2) (by decide) (by decide)
  have h5 : ∀ x : Int, divOk x 65537 = true := fun x => divOk_of (n := 30) (by decide) (by decide) (by decide)
  simp only [List.map_cons, List.map_nil, List.length_cons, List.length_nil, List.cons_append, List.nil_append, List.replicate, q_seq, q_sif, WP_bind, q_tstB, q_bin, q_var, q_c, List.getElem?_cons_zero, List.getElem?_cons_succ, WP_ok, o_ixR, itemsR hS, Option.bind_some, ix0, Option.map_some, q_ofO, o_gt]
  by_cases h0 : 0 < a
  · simp only [h0, decide_true, WP_ok, if_true, WP_bind, q_seq, q_asg, q_bin, q_callB, q_cons, q_var, q_c, List.getElem?_cons_zero, List.getElem?_cons_succ, o_ixR, itemsR hS, Option.bind_some, ix0, Option.map_some, q_ofO, q_nil, q_b1, f_intI, o_mod hn, q_gnm, List.set_cons_succ, List.set_cons_zero, o_div hdn, q_gsb, setR hS, List.length_cons, List.length_nil, iN0, ofS_some, q_ret]
    exact hQ _ _ (Int.emod_nonneg _ (by omega)) (Int.emod_lt_of_pos _ hn) hL1 Kp.set (by simp)
  · simp only [h0, decide_false, WP_ok, if_false, Bool.false_eq_true, q_next, WP_bind, q_seq, q_asg, q_bin, q_callB, q_cons, q_var, q_c, List.getElem?_cons_zero, List.getElem?_cons_succ, o_ixR, itemsR hS, Option.bind_some, ix1, ix2, Option.map_some, q_ofO, q_nil, q_b1, f_intI, q_gnm, List.set_cons_succ, List.set_cons_zero, q_gsb, setR hS, List.length_cons, List.length_nil, iN2, ofS_some, q_ret, o_add, itemsR (set_at (u := .lst [.int a, .int b, .int (c + 1)]) hS), o_mul h1, o_mul h2, o_mod (show (0 : Int) < 2305843009213693409 by decide), o_mod (show (0 : Int) < 2305843009213693381 by decide), o_mul (h3 _), o_mul (h4 _), o_div (h5 _), o_mod hn]
    exact hQ _ _ (Int.emod_nonneg _ (by omega)) (Int.emod_lt_of_pos _ hn) hL2 Kp.set (by simp)

theorem w_one_of {S : Store} {i m r : Nat} {ds : List D} {Q : D → Store → Prop} (hL : Lot S i m) (hS : S[r]? = some (.lst ds)) (hne : 0 < ds.length) (hl : ds.length ≤ 2 ^ 60) (hr : r ≠ i) (hm : m ≤ 2 ^ 40)
    (hQ : ∀ (k : Nat) (x : D) S', ds[k]? = some x → Lot S' i (m + 1) → Kp i S S' → S.length = S'.length → Q x S') : WP (f__law_one_of [.ref i, .ref r] S) Q := by
  unfold f__law_one_of
  rw [mkFn_wp]
  unfold b__law_one_of n__law_one_of
  simp only [List.map_cons, List.map_nil, List.length_cons, List.length_nil, List.cons_append, List.nil_append, List.replicate, List.getElem?_cons_zero, List.getElem?_cons_succ, List.set_cons_succ, List.set_cons_zero, WP_bind, WP_ok, WP_cut, q_var, q_c, q_bin, q_un, q_ofO, q_chain, q_tst, q_tstB, q_and2, q_or2, q_not1, q_andV, q_orV, q_notV, q_if, q_nil, q_cons, q_tup, q_lst, q_next, q_seq, q_expr, q_ret, q_retN, q_brk, q_cnt, q_sif, q_gnm, q_gtup, q_gcons, q_gnil, q_asg, q_call, q_callB, q_seqi, q_for, q_while, o_add, o_addI, o_sub, o_lt, o_le, o_gt, o_ge, o_neg, o_ixR, o_ixT, o_ixF, itemsT, itemsF, seqT, seqF, q_b1, q_b2, f_intI, f_intB, f_abs, f_max, f_min, f_lenT, f_lenF, f_list, f_tuple, q_gsb, ofB_bl, q_sl, q_pno, q_pat, q_lrg, q_meth, q_fld, q_rng1, Option.bind_some, Option.map_some, ofS_some, if_true, if_false, Bool.false_eq_true, decide_true, decide_false, ix0, ix1, ix2, wipe_nil, wipe_cons, q_yes, q_rng2, f_lenR hS]
  refine w_pull hL (by omega) (by omega) hm fun k S' h0 h1 hL' kp hlen => ?_
  have hS' := kp.at_ hr hS
  obtain ⟨j, rfl⟩ := Int.eq_ofNat_of_zero_le h0
  have hj : j < ds.length := by omega
  simp only [List.map_cons, List.map_nil, List.length_cons, List.length_nil, List.cons_append, List.nil_append, List.replicate, List.getElem?_cons_zero, List.getElem?_cons_succ, List.set_cons_succ, List.set_cons_zero, WP_bind, WP_ok, WP_cut, q_var, q_c, q_bin, q_un, q_ofO, q_chain, q_tst, q_tstB, q_and2, q_or2, q_not1, q_andV, q_orV, q_notV, q_if, q_nil, q_cons, q_tup, q_lst, q_next, q_seq, q_expr, q_ret, q_retN, q_brk, q_cnt, q_sif, q_gnm, q_gtup, q_gcons, q_gnil, q_asg, q_call, q_callB, q_seqi, q_for, q_while, o_add, o_addI, o_sub, o_lt, o_le, o_gt, o_ge, o_neg, o_ixR, o_ixT, o_ixF, itemsT, itemsF, seqT, seqF, q_b1, q_b2, f_intI, f_intB, f_abs, f_max, f_min, f_lenT, f_lenF, f_list, f_tuple, q_gsb, ofB_bl, q_sl, q_pno, q_pat, q_lrg, q_meth, q_fld, q_rng1, Option.bind_some, Option.map_some, ofS_some, if_true, if_false, Bool.false_eq_true, decide_true, decide_false, ix0, ix1, ix2, wipe_nil, wipe_cons, q_yes, q_rng2, itemsR hS', ix_lit hj, List.getElem?_eq_getElem hj]
  exact hQ j _ S' (List.getElem?_eq_getElem hj) hL' kp hlen
theorem w_lot {S : Store} {x : D} {ns : List Int} {k : Nat} {Q : D → Store → Prop} (hs : Scr S x ns) (hk : k < 4) (hQ : ∀ r S', Lot S' r 0 → Sub S S' → S.length ≤ r → Q (.ref r) S') : WP (f__law_lot [x, .int (k : Int)] S) Q := by
  have hlenD : fLen x S = some (.int ((ns.map D.int).length : Int), S) := by
    rcases hs with rfl | ⟨r, rfl, e⟩
    · exact f_lenF
    · exact f_lenR e
  have hit : itemsD S x = some (ns.map D.int) := by
    rcases hs with rfl | ⟨r, rfl, e⟩
    · rfl
    · exact itemsR e
  have hix : ∀ i : Int, oIx x (.int i) S = (L2.atI (ns.map D.int) i).map fun y => (y, S) := fun i => by
    rcases hs with rfl | ⟨r, rfl, e⟩
    · exact o_ixF
    · rw [o_ixR, itemsR e]; rfl
  unfold f__law_lot
  rw [mkFn_wp]
  unfold b__law_lot n__law_lot
  have p17 : ∀ S : Store, oPowI (.int 10) (.int 17) S = some (.int (10 ^ 17), S) := fun S => o_pow (by decide +kernel)
  have p58 : ∀ S : Store, oPowI (.int 10) (.int 58) S = some (.int (10 ^ 58), S) := fun S => o_pow (by decide +kernel)
  have p59 : ∀ S : Store, oPowI (.int 10) (.int 59) S = some (.int (10 ^ 59), S) := fun S => o_pow (by decide +kernel)
  have mp : ∀ S : Store, oMulA (.int (10 ^ 58)) (.int (10 ^ 59)) S = some (.int (10 ^ 58 * 10 ^ 59), S) := fun S => o_mul (by decide +kernel)
  have rest : ∀ (c : Int), WP ((sSeq (sAsg (dBin oModI (dCallB (b2 fMax2) (dCons (dC (.int 0)) (dCons (dBin oSubI (dCallB (b1 fAbs) (dCons (dVar 2) dNil)) (dBin oPowI (dC (.int 10)) (dC (.int 17)))) dNil))) (dBin oMulA (dBin oPowI (dC (.int 10)) (dC (.int 58))) (dBin oPowI (dC (.int 10)) (dC (.int 59))))) (gNm 3)) (sRet (dLst (dCons (dVar 3) (dCons (dBin oAdd (dBin oAdd (dBin oAdd (dBin oMulA (dBin oModI (dCallB (b1 fAbs) (dCons (dVar 2) dNil)) (dC (.int 1152921504606846697))) (dC (.int 53))) (dBin oMulA (dC (.int 991)) (dVar 1))) (dBin oMulA (dC (.int 43)) (dCallB (b1 fInt) (dCons (dBin oLtI (dVar 2) (dC (.int 0))) dNil)))) (dC (.int 9))) (dCons (dC (.int 0)) dNil))))))
      [some x, some (.int (k : Int)), some (.int c), none] S) fun f S1 => WP (match f with
      | .rt d => .ok d S1
      | .nx _ => .ok .non S1
      | _ => .bad) Q := fun c => by
    have m1 : ∀ S : Store, oModI (.int (if c < 0 then -c else c)) (.int 1152921504606846697) S = some (.int ((if c < 0 then -c else c) % 1152921504606846697), S) := fun S => o_mod (by decide)
    have m2 : mulOk ((if c < 0 then -c else c) % 1152921504606846697) 53 = true := mulOk_of (m := 61) (n := 6) (by
      have h1 := Int.emod_nonneg (if c < 0 then -c else c) (show (1152921504606846697 : Int) ≠ 0 by decide)
      have h2 := Int.emod_lt_of_pos (if c < 0 then -c else c) (show (0 : Int) < 1152921504606846697 by decide)
      omega) (by decide) (by decide)
    have m3 : mulOk 991 (k : Int) = true := mulOk_of (m := 10) (n := 3) (by decide) (by omega) (by decide)
    have m4 : mulOk 43 (if decide (c < 0) = true then 1 else 0) = true := mulOk_of (m := 10) (n := 3) (by decide) (by split <;> decide) (by decide)
    have m5 : ∀ (S : Store) (v : Int), oModI (.int v) (.int (10 ^ 58 * 10 ^ 59)) S = some (.int (v % (10 ^ 58 * 10 ^ 59)), S) := fun S v => o_mod (by decide)
    simp only [List.map_cons, List.map_nil, List.length_cons, List.length_nil, List.cons_append, List.nil_append, List.replicate, List.getElem?_cons_zero, List.getElem?_cons_succ, List.set_cons_succ, List.set_cons_zero, WP_bind, WP_ok, WP_cut, q_var, q_c, q_bin, q_un, q_ofO, q_chain, q_tst, q_tstB, q_and2, q_or2, q_not1, q_andV, q_orV, q_notV, q_if, q_nil, q_cons, q_tup, q_lst, q_next, q_seq, q_expr, q_ret, q_retN, q_brk, q_cnt, q_sif, q_gnm, q_gtup, q_gcons, q_gnil, q_asg, q_call, q_callB, q_seqi, q_for, q_while, o_add, o_addI, o_sub, o_lt, o_le, o_gt, o_ge, o_neg, o_ixR, o_ixT, o_ixF, itemsT, itemsF, seqT, seqF, q_b1, q_b2, f_intI, f_intB, f_abs, f_max, f_min, f_lenT, f_lenF, f_list, f_tuple, q_gsb, ofB_bl, q_sl, q_pno, q_pat, q_lrg, q_meth, q_fld, q_rng1, Option.bind_some, Option.map_some, ofS_some, if_true, if_false, Bool.false_eq_true, decide_true, decide_false, ix0, ix1, ix2, wipe_nil, wipe_cons, q_yes, q_rng2, p17, p58, p59, mp, m5, m1, o_mul m2, o_mul m3, o_mul m4, mkL, show ((0 + 1 + 1 + 1 : Nat) ≤ sl) = True from eq_true (by decide), show ((1 + 1 + 1 : Nat) ≤ sl) = True from eq_true (by decide)]
    refine hQ _ _ ⟨_, _, _, push_at, Int.emod_nonneg _ (by decide), Int.le_refl _, by decide⟩ (Sub.push _ _) (Nat.le_refl _)
  have m0 : mulOk 61 (k : Int) = true := mulOk_of (m := 10) (n := 3) (by decide) (by omega) (by decide)
  rw [q_seq, WP_bind]
  by_cases hl : (k : Int) < ((ns.map D.int).length : Int)
  · have hk2 : k < ns.length := by rw [List.length_map] at hl; omega
    have ix : L2.atI (ns.map D.int) (k : Int) = some (.int ns[k]) := by
      rw [ix_lit (by rw [List.length_map]; exact hk2), List.getElem?_map, List.getElem?_eq_getElem hk2]; rfl
    have dl' : decide ((k : Int) < ((ns.map D.int).length : Int)) = true := decide_eq_true hl
    rw [q_asg, q_if]
    simp only [q_tstB, q_bin, q_var, q_c, q_callB, q_cons, q_nil, q_b1, hlenD, q_ofO, o_lt, dl', WP_bind, WP_ok, List.map_cons, List.map_nil, List.cons_append, List.nil_append, List.getElem?_cons_zero, List.getElem?_cons_succ, if_true, hix, ix, Option.map_some, f_intI, q_gnm, List.length_cons, List.length_nil, List.replicate, List.set_cons_succ, List.set_cons_zero]
    exact rest _
  · have dl' : decide ((k : Int) < ((ns.map D.int).length : Int)) = false := decide_eq_false hl
    rw [q_asg, q_if]
    simp only [q_tstB, q_bin, q_var, q_c, q_callB, q_cons, q_nil, q_b1, hlenD, q_ofO, o_lt, dl', WP_bind, WP_ok, List.map_cons, List.map_nil, List.cons_append, List.nil_append, List.getElem?_cons_zero, List.getElem?_cons_succ, Bool.false_eq_true, if_false, o_mul m0, o_add, f_intI, q_gnm, List.length_cons, List.length_nil, List.replicate, List.set_cons_succ, List.set_cons_zero]
    exact rest _
theorem draws : Draws f__law_one_of := draws_of fun hL hS hne hl hr hm hQ => w_one_of hL hS hne hl hr hm hQ
end Zk18


namespace Zk18
open PySem PySem.Spec Z
theorem r__law_made_right : ∀ (x0 : D) (t0 : Str), (x0, t0) ∈ ([(.non, "None"), (.int 0, "0"), (.int 1, "1"), (.int 4, "4"), (.int 11, "11"), (.int (-2), "-2"), (.bl true, "True"), (.str "2", "'2'"), (.tup [.int 2], "(2,)"), (.int 1000000000000000000000000000000000000000000000000000000000000, "1000000000000000000000000000000000000000000000000000000000000")] : List (D × Str)) → ∀ (x1 : D) (t1 : Str), (x1, t1) ∈ ([(.non, "None"), (.int (-1), "-1"), (.int 37, "37"), (.bl true, "True"), (.str "2", "'2'"), (.tup [.int 2], "(2,)"), (.int 1000000000000000000000000000000000000000000000000000000000000, "1000000000000000000000000000000000000000000000000000000000000")] : List (D × Str)) → Rights2 f__law_made_right [x0, x1] [] 2 := by
  intro x0 t0 h0 x1 t1 h1
  refine rights2_of ?_
  intro a0 b0 c0 m hb0 hm
  unfold b__law_made_right n__law_made_right
  simp only [List.map_cons, List.map_nil, List.length_cons, List.length_nil, List.cons_append, List.nil_append, List.replicate]
  refine w_draw (m := m + 0) [(.non, "None"), (.int 1, "1"), (.tup [.tup [.int 1, .int 2], .tup [.int 3]], "((1, 2), (3,))"), (.ref 1, "[(1, 2), (0, 1)]"), (.tup [.tup [.int 1, .int 2]], "((1, 2),)"), (.tup [.tup [.int 1, .int 2], .tup [.int 0, .int 3]], "((1, 2), (0, 3))"), (.tup [.tup [.int 1, .int (-1)], .tup [.int 0, .int 1]], "((1, -1), (0, 1))"), (.tup [.tup [.int 1, .bl true], .tup [.int 0, .int 1]], "((1, True), (0, 1))"), (.tup [.tup [.int 1, .non], .tup [.int 0, .int 0]], "((1, None), (0, 0))"), (.str "12", "'12'")] 2 [.lst [.tup [.int 1, .int 2], .tup [.int 0, .int 1]], .lst [.non, .int 1, .tup [.tup [.int 1, .int 2], .tup [.int 3]], .ref 1, .tup [.tup [.int 1, .int 2]], .tup [.tup [.int 1, .int 2], .tup [.int 0, .int 3]], .tup [.tup [.int 1, .int (-1)], .tup [.int 0, .int 1]], .tup [.tup [.int 1, .bl true], .tup [.int 0, .int 1]], .tup [.tup [.int 1, .non], .tup [.int 0, .int 0]], .str "12"]] draws hb0 (by kernel_rfl) (by kernel_rfl) rfl (by omega) (by decide) (by decide) ?_
  intro a1 b1 c1 x2 t2 h2 hb1
  dsimp only [List.set_cons_succ, List.set_cons_zero]
  refine w_draw (m := m + 1) [(.non, "None"), (.tup [.tup [.int 1, .int 2], .tup [.int 1]], "((1, 2), (1,))"), (.ref 3, "[(1, 2)]"), (.tup [.tup [.int 1, .int 3]], "((1, 3),)"), (.tup [.tup [.int 1, .bl true]], "((1, True),)"), (.tup [.tup [.int 0, .int 0], .tup [.int 0, .int 0], .tup [.int 0, .int 0], .tup [.int 0, .int 0], .tup [.int 0, .int 0], .tup [.int 0, .int 0], .tup [.int 0, .int 0], .tup [.int 0, .int 0], .tup [.int 0, .int 0], .tup [.int 0, .int 0], .tup [.int 0, .int 0], .tup [.int 0, .int 0], .tup [.int 0, .int 0], .tup [.int 0, .int 0], .tup [.int 0, .int 0], .tup [.int 0, .int 0], .tup [.int 0, .int 0], .tup [.int 0, .int 0], .tup [.int 0, .int 0], .tup [.int 0, .int 0], .tup [.int 0, .int 0], .tup [.int 0, .int 0], .tup [.int 0, .int 0], .tup [.int 0, .int 0], .tup [.int 0, .int 0], .tup [.int 0, .int 0], .tup [.int 0, .int 0], .tup [.int 0, .int 0], .tup [.int 0, .int 0], .tup [.int 0, .int 0], .tup [.int 0, .int 0], .tup [.int 0, .int 0], .tup [.int 0, .int 0], .tup [.int 0, .int 0], .tup [.int 0, .int 0], .tup [.int 0, .int 0], .tup [.int 0, .int 0]], "((0, 0), (0, 0), (0, 0), (0, 0), (0, 0), (0, 0), (0, 0), (0, 0), (0, 0), (0, 0), (0, 0), (0, 0), (0, 0), (0, 0), (0, 0), (0, 0), (0, 0), (0, 0), (0, 0), (0, 0), (0, 0), (0, 0), (0, 0), (0, 0), (0, 0), (0, 0), (0, 0), (0, 0), (0, 0), (0, 0), (0, 0), (0, 0), (0, 0), (0, 0), (0, 0), (0, 0), (0, 0))"), (.tup [.int 1, .int 2], "(1, 2)"), (.tup [.ref 4], "([1, 2],)")] 5 [.lst [.tup [.int 1, .int 2], .tup [.int 0, .int 1]], .lst [.non, .int 1, .tup [.tup [.int 1, .int 2], .tup [.int 3]], .ref 1, .tup [.tup [.int 1, .int 2]], .tup [.tup [.int 1, .int 2], .tup [.int 0, .int 3]], .tup [.tup [.int 1, .int (-1)], .tup [.int 0, .int 1]], .tup [.tup [.int 1, .bl true], .tup [.int 0, .int 1]], .tup [.tup [.int 1, .non], .tup [.int 0, .int 0]], .str "12"], .lst [.tup [.int 1, .int 2]], .lst [.int 1, .int 2], .lst [.non, .tup [.tup [.int 1, .int 2], .tup [.int 1]], .ref 3, .tup [.tup [.int 1, .int 3]], .tup [.tup [.int 1, .bl true]], .tup [.tup [.int 0, .int 0], .tup [.int 0, .int 0], .tup [.int 0, .int 0], .tup [.int 0, .int 0], .tup [.int 0, .int 0], .tup [.int 0, .int 0], .tup [.int 0, .int 0], .tup [.int 0, .int 0], .tup [.int 0, .int 0], .tup [.int 0, .int 0], .tup [.int 0, .int 0], .tup [.int 0, .int 0], .tup [.int 0, .int 0], .tup [.int 0, .int 0], .tup [.int 0, .int 0], .tup [.int 0, .int 0], .tup [.int 0, .int 0], .tup [.int 0, .int 0], .tup [.int 0, .int 0], .tup [.int 0, .int 0], .tup [.int 0, .int 0], .tup [.int 0, .int 0], .tup [.int 0, .int 0], .tup [.int 0, .int 0], .tup [.int 0, .int 0], .tup [.int 0, .int 0], .tup [.int 0, .int 0], .tup [.int 0, .int 0], .tup [.int 0, .int 0], .tup [.int 0, .int 0], .tup [.int 0, .int 0], .tup [.int 0, .int 0], .tup [.int 0, .int 0], .tup [.int 0, .int 0], .tup [.int 0, .int 0], .tup [.int 0, .int 0], .tup [.int 0, .int 0]], .tup [.int 1, .int 2], .tup [.ref 4]]] draws hb1 (by kernel_rfl) (by kernel_rfl) rfl (by omega) (by decide) (by decide) ?_
  intro a2 b2 c2 x3 t3 h3 hb2
  dsimp only [List.set_cons_succ, List.set_cons_zero]
  refine w_told (.str "prime") ?_ ?_
  · revert x2 t2 h2; revert x0 t0 h0; exact all2 (by kernel_rfl)
  dsimp only [List.set_cons_succ, List.set_cons_zero, List.cons_append, List.nil_append, List.length_cons, List.length_nil]
  refine w_tell (.str (("count " : Str) ++ t1)) ([lotL a2 b2 c2, .lst [.tup [.int 1, .int 2], .tup [.int 0, .int 1]], .lst [.non, .int 1, .tup [.tup [.int 1, .int 2], .tup [.int 3]], .ref 1, .tup [.tup [.int 1, .int 2]], .tup [.tup [.int 1, .int 2], .tup [.int 0, .int 3]], .tup [.tup [.int 1, .int (-1)], .tup [.int 0, .int 1]], .tup [.tup [.int 1, .bl true], .tup [.int 0, .int 1]], .tup [.tup [.int 1, .non], .tup [.int 0, .int 0]], .str "12"], .lst [.tup [.int 1, .int 2]], .lst [.int 1, .int 2], .lst [.non, .tup [.tup [.int 1, .int 2], .tup [.int 1]], .ref 3, .tup [.tup [.int 1, .int 3]], .tup [.tup [.int 1, .bl true]], .tup [.tup [.int 0, .int 0], .tup [.int 0, .int 0], .tup [.int 0, .int 0], .tup [.int 0, .int 0], .tup [.int 0, .int 0], .tup [.int 0, .int 0], .tup [.int 0, .int 0], .tup [.int 0, .int 0], .tup [.int 0, .int 0], .tup [.int 0, .int 0], .tup [.int 0, .int 0], .tup [.int 0, .int 0], .tup [.int 0, .int 0], .tup [.int 0, .int 0], .tup [.int 0, .int 0], .tup [.int 0, .int 0], .tup [.int 0, .int 0], .tup [.int 0, .int 0], .tup [.int 0, .int 0], .tup [.int 0, .int 0], .tup [.int 0, .int 0], .tup [.int 0, .int 0], .tup [.int 0, .int 0], .tup [.int 0, .int 0], .tup [.int 0, .int 0], .tup [.int 0, .int 0], .tup [.int 0, .int 0], .tup [.int 0, .int 0], .tup [.int 0, .int 0], .tup [.int 0, .int 0], .tup [.int 0, .int 0], .tup [.int 0, .int 0], .tup [.int 0, .int 0], .tup [.int 0, .int 0], .tup [.int 0, .int 0], .tup [.int 0, .int 0], .tup [.int 0, .int 0]], .tup [.int 1, .int 2], .tup [.ref 4]], .lst [.str "prime", .str (("count " : Str) ++ t1)]]) ?_ rfl rfl (by rfl) (by rfl) ?_
  · revert x2 t2 h2; revert x1 t1 h1; exact all2 (by kernel_rfl)
  refine w_tell (.str (("count " : Str) ++ t1)) ([lotL a2 b2 c2, .lst [.tup [.int 1, .int 2], .tup [.int 0, .int 1]], .lst [.non, .int 1, .tup [.tup [.int 1, .int 2], .tup [.int 3]], .ref 1, .tup [.tup [.int 1, .int 2]], .tup [.tup [.int 1, .int 2], .tup [.int 0, .int 3]], .tup [.tup [.int 1, .int (-1)], .tup [.int 0, .int 1]], .tup [.tup [.int 1, .bl true], .tup [.int 0, .int 1]], .tup [.tup [.int 1, .non], .tup [.int 0, .int 0]], .str "12"], .lst [.tup [.int 1, .int 2]], .lst [.int 1, .int 2], .lst [.non, .tup [.tup [.int 1, .int 2], .tup [.int 1]], .ref 3, .tup [.tup [.int 1, .int 3]], .tup [.tup [.int 1, .bl true]], .tup [.tup [.int 0, .int 0], .tup [.int 0, .int 0], .tup [.int 0, .int 0], .tup [.int 0, .int 0], .tup [.int 0, .int 0], .tup [.int 0, .int 0], .tup [.int 0, .int 0], .tup [.int 0, .int 0], .tup [.int 0, .int 0], .tup [.int 0, .int 0], .tup [.int 0, .int 0], .tup [.int 0, .int 0], .tup [.int 0, .int 0], .tup [.int 0, .int 0], .tup [.int 0, .int 0], .tup [.int 0, .int 0], .tup [.int 0, .int 0], .tup [.int 0, .int 0], .tup [.int 0, .int 0], .tup [.int 0, .int 0], .tup [.int 0, .int 0], .tup [.int 0, .int 0], .tup [.int 0, .int 0], .tup [.int 0, .int 0], .tup [.int 0, .int 0], .tup [.int 0, .int 0], .tup [.int 0, .int 0], .tup [.int 0, .int 0], .tup [.int 0, .int 0], .tup [.int 0, .int 0], .tup [.int 0, .int 0], .tup [.int 0, .int 0], .tup [.int 0, .int 0], .tup [.int 0, .int 0], .tup [.int 0, .int 0], .tup [.int 0, .int 0], .tup [.int 0, .int 0]], .tup [.int 1, .int 2], .tup [.ref 4]], .lst [.str "prime", .str (("count " : Str) ++ t1), .str (("count " : Str) ++ t1)]]) ?_ rfl rfl (by rfl) (by rfl) ?_
  · revert x2 t2 h2; revert x1 t1 h1; exact all2 (by kernel_rfl)
  refine w_tell (.str "table") ([lotL a2 b2 c2, .lst [.tup [.int 1, .int 2], .tup [.int 0, .int 1]], .lst [.non, .int 1, .tup [.tup [.int 1, .int 2], .tup [.int 3]], .ref 1, .tup [.tup [.int 1, .int 2]], .tup [.tup [.int 1, .int 2], .tup [.int 0, .int 3]], .tup [.tup [.int 1, .int (-1)], .tup [.int 0, .int 1]], .tup [.tup [.int 1, .bl true], .tup [.int 0, .int 1]], .tup [.tup [.int 1, .non], .tup [.int 0, .int 0]], .str "12"], .lst [.tup [.int 1, .int 2]], .lst [.int 1, .int 2], .lst [.non, .tup [.tup [.int 1, .int 2], .tup [.int 1]], .ref 3, .tup [.tup [.int 1, .int 3]], .tup [.tup [.int 1, .bl true]], .tup [.tup [.int 0, .int 0], .tup [.int 0, .int 0], .tup [.int 0, .int 0], .tup [.int 0, .int 0], .tup [.int 0, .int 0], .tup [.int 0, .int 0], .tup [.int 0, .int 0], .tup [.int 0, .int 0], .tup [.int 0, .int 0], .tup [.int 0, .int 0], .tup [.int 0, .int 0], .tup [.int 0, .int 0], .tup [.int 0, .int 0], .tup [.int 0, .int 0], .tup [.int 0, .int 0], .tup [.int 0, .int 0], .tup [.int 0, .int 0], .tup [.int 0, .int 0], .tup [.int 0, .int 0], .tup [.int 0, .int 0], .tup [.int 0, .int 0], .tup [.int 0, .int 0], .tup [.int 0, .int 0], .tup [.int 0, .int 0], .tup [.int 0, .int 0], .tup [.int 0, .int 0], .tup [.int 0, .int 0], .tup [.int 0, .int 0], .tup [.int 0, .int 0], .tup [.int 0, .int 0], .tup [.int 0, .int 0], .tup [.int 0, .int 0], .tup [.int 0, .int 0], .tup [.int 0, .int 0], .tup [.int 0, .int 0], .tup [.int 0, .int 0], .tup [.int 0, .int 0]], .tup [.int 1, .int 2], .tup [.ref 4]], .lst [.str "prime", .str (("count " : Str) ++ t1), .str (("count " : Str) ++ t1), .str "table"]]) ?_ rfl rfl (by rfl) (by rfl) ?_
  · revert x2 t2 h2; exact all1 (by kernel_rfl)
  refine w_tell (.str "prime") ([lotL a2 b2 c2, .lst [.tup [.int 1, .int 2], .tup [.int 0, .int 1]], .lst [.non, .int 1, .tup [.tup [.int 1, .int 2], .tup [.int 3]], .ref 1, .tup [.tup [.int 1, .int 2]], .tup [.tup [.int 1, .int 2], .tup [.int 0, .int 3]], .tup [.tup [.int 1, .int (-1)], .tup [.int 0, .int 1]], .tup [.tup [.int 1, .bl true], .tup [.int 0, .int 1]], .tup [.tup [.int 1, .non], .tup [.int 0, .int 0]], .str "12"], .lst [.tup [.int 1, .int 2]], .lst [.int 1, .int 2], .lst [.non, .tup [.tup [.int 1, .int 2], .tup [.int 1]], .ref 3, .tup [.tup [.int 1, .int 3]], .tup [.tup [.int 1, .bl true]], .tup [.tup [.int 0, .int 0], .tup [.int 0, .int 0], .tup [.int 0, .int 0], .tup [.int 0, .int 0], .tup [.int 0, .int 0], .tup [.int 0, .int 0], .tup [.int 0, .int 0], .tup [.int 0, .int 0], .tup [.int 0, .int 0], .tup [.int 0, .int 0], .tup [.int 0, .int 0], .tup [.int 0, .int 0], .tup [.int 0, .int 0], .tup [.int 0, .int 0], .tup [.int 0, .int 0], .tup [.int 0, .int 0], .tup [.int 0, .int 0], .tup [.int 0, .int 0], .tup [.int 0, .int 0], .tup [.int 0, .int 0], .tup [.int 0, .int 0], .tup [.int 0, .int 0], .tup [.int 0, .int 0], .tup [.int 0, .int 0], .tup [.int 0, .int 0], .tup [.int 0, .int 0], .tup [.int 0, .int 0], .tup [.int 0, .int 0], .tup [.int 0, .int 0], .tup [.int 0, .int 0], .tup [.int 0, .int 0], .tup [.int 0, .int 0], .tup [.int 0, .int 0], .tup [.int 0, .int 0], .tup [.int 0, .int 0], .tup [.int 0, .int 0], .tup [.int 0, .int 0]], .tup [.int 1, .int 2], .tup [.ref 4]], .lst [.str "prime", .str (("count " : Str) ++ t1), .str (("count " : Str) ++ t1), .str "table", .str "prime"]]) ?_ rfl rfl (by rfl) (by rfl) ?_
  · revert x0 t0 h0; exact all1 (by kernel_rfl)
  refine w_tell (.str (("count " : Str) ++ t1)) ([lotL a2 b2 c2, .lst [.tup [.int 1, .int 2], .tup [.int 0, .int 1]], .lst [.non, .int 1, .tup [.tup [.int 1, .int 2], .tup [.int 3]], .ref 1, .tup [.tup [.int 1, .int 2]], .tup [.tup [.int 1, .int 2], .tup [.int 0, .int 3]], .tup [.tup [.int 1, .int (-1)], .tup [.int 0, .int 1]], .tup [.tup [.int 1, .bl true], .tup [.int 0, .int 1]], .tup [.tup [.int 1, .non], .tup [.int 0, .int 0]], .str "12"], .lst [.tup [.int 1, .int 2]], .lst [.int 1, .int 2], .lst [.non, .tup [.tup [.int 1, .int 2], .tup [.int 1]], .ref 3, .tup [.tup [.int 1, .int 3]], .tup [.tup [.int 1, .bl true]], .tup [.tup [.int 0, .int 0], .tup [.int 0, .int 0], .tup [.int 0, .int 0], .tup [.int 0, .int 0], .tup [.int 0, .int 0], .tup [.int 0, .int 0], .tup [.int 0, .int 0], .tup [.int 0, .int 0], .tup [.int 0, .int 0], .tup [.int 0, .int 0], .tup [.int 0, .int 0], .tup [.int 0, .int 0], .tup [.int 0, .int 0], .tup [.int 0, .int 0], .tup [.int 0, .int 0], .tup [.int 0, .int 0], .tup [.int 0, .int 0], .tup [.int 0, .int 0], .tup [.int 0, .int 0], .tup [.int 0, .int 0], .tup [.int 0, .int 0], .tup [.int 0, .int 0], .tup [.int 0, .int 0], .tup [.int 0, .int 0], .tup [.int 0, .int 0], .tup [.int 0, .int 0], .tup [.int 0, .int 0], .tup [.int 0, .int 0], .tup [.int 0, .int 0], .tup [.int 0, .int 0], .tup [.int 0, .int 0], .tup [.int 0, .int 0], .tup [.int 0, .int 0], .tup [.int 0, .int 0], .tup [.int 0, .int 0], .tup [.int 0, .int 0], .tup [.int 0, .int 0]], .tup [.int 1, .int 2], .tup [.ref 4]], .lst [.str "prime", .str (("count " : Str) ++ t1), .str (("count " : Str) ++ t1), .str "table", .str "prime", .str (("count " : Str) ++ t1)]]) ?_ rfl rfl (by rfl) (by rfl) ?_
  · revert x1 t1 h1; exact all1 (by kernel_rfl)
  refine w_tell (.str "prime") ([lotL a2 b2 c2, .lst [.tup [.int 1, .int 2], .tup [.int 0, .int 1]], .lst [.non, .int 1, .tup [.tup [.int 1, .int 2], .tup [.int 3]], .ref 1, .tup [.tup [.int 1, .int 2]], .tup [.tup [.int 1, .int 2], .tup [.int 0, .int 3]], .tup [.tup [.int 1, .int (-1)], .tup [.int 0, .int 1]], .tup [.tup [.int 1, .bl true], .tup [.int 0, .int 1]], .tup [.tup [.int 1, .non], .tup [.int 0, .int 0]], .str "12"], .lst [.tup [.int 1, .int 2]], .lst [.int 1, .int 2], .lst [.non, .tup [.tup [.int 1, .int 2], .tup [.int 1]], .ref 3, .tup [.tup [.int 1, .int 3]], .tup [.tup [.int 1, .bl true]], .tup [.tup [.int 0, .int 0], .tup [.int 0, .int 0], .tup [.int 0, .int 0], .tup [.int 0, .int 0], .tup [.int 0, .int 0], .tup [.int 0, .int 0], .tup [.int 0, .int 0], .tup [.int 0, .int 0], .tup [.int 0, .int 0], .tup [.int 0, .int 0], .tup [.int 0, .int 0], .tup [.int 0, .int 0], .tup [.int 0, .int 0], .tup [.int 0, .int 0], .tup [.int 0, .int 0], .tup [.int 0, .int 0], .tup [.int 0, .int 0], .tup [.int 0, .int 0], .tup [.int 0, .int 0], .tup [.int 0, .int 0], .tup [.int 0, .int 0], .tup [.int 0, .int 0], .tup [.int 0, .int 0], .tup [.int 0, .int 0], .tup [.int 0, .int 0], .tup [.int 0, .int 0], .tup [.int 0, .int 0], .tup [.int 0, .int 0], .tup [.int 0, .int 0], .tup [.int 0, .int 0], .tup [.int 0, .int 0], .tup [.int 0, .int 0], .tup [.int 0, .int 0], .tup [.int 0, .int 0], .tup [.int 0, .int 0], .tup [.int 0, .int 0], .tup [.int 0, .int 0]], .tup [.int 1, .int 2], .tup [.ref 4]], .lst [.str "prime", .str (("count " : Str) ++ t1), .str (("count " : Str) ++ t1), .str "table", .str "prime", .str (("count " : Str) ++ t1), .str "prime"]]) ?_ rfl rfl (by rfl) (by rfl) ?_
  · revert x0 t0 h0; exact all1 (by kernel_rfl)
  refine w_tell (.str (("count " : Str) ++ t1)) ([lotL a2 b2 c2, .lst [.tup [.int 1, .int 2], .tup [.int 0, .int 1]], .lst [.non, .int 1, .tup [.tup [.int 1, .int 2], .tup [.int 3]], .ref 1, .tup [.tup [.int 1, .int 2]], .tup [.tup [.int 1, .int 2], .tup [.int 0, .int 3]], .tup [.tup [.int 1, .int (-1)], .tup [.int 0, .int 1]], .tup [.tup [.int 1, .bl true], .tup [.int 0, .int 1]], .tup [.tup [.int 1, .non], .tup [.int 0, .int 0]], .str "12"], .lst [.tup [.int 1, .int 2]], .lst [.int 1, .int 2], .lst [.non, .tup [.tup [.int 1, .int 2], .tup [.int 1]], .ref 3, .tup [.tup [.int 1, .int 3]], .tup [.tup [.int 1, .bl true]], .tup [.tup [.int 0, .int 0], .tup [.int 0, .int 0], .tup [.int 0, .int 0], .tup [.int 0, .int 0], .tup [.int 0, .int 0], .tup [.int 0, .int 0], .tup [.int 0, .int 0], .tup [.int 0, .int 0], .tup [.int 0, .int 0], .tup [.int 0, .int 0], .tup [.int 0, .int 0], .tup [.int 0, .int 0], .tup [.int 0, .int 0], .tup [.int 0, .int 0], .tup [.int 0, .int 0], .tup [.int 0, .int 0], .tup [.int 0, .int 0], .tup [.int 0, .int 0], .tup [.int 0, .int 0], .tup [.int 0, .int 0], .tup [.int 0, .int 0], .tup [.int 0, .int 0], .tup [.int 0, .int 0], .tup [.int 0, .int 0], .tup [.int 0, .int 0], .tup [.int 0, .int 0], .tup [.int 0, .int 0], .tup [.int 0, .int 0], .tup [.int 0, .int 0], .tup [.int 0, .int 0], .tup [.int 0, .int 0], .tup [.int 0, .int 0], .tup [.int 0, .int 0], .tup [.int 0, .int 0], .tup [.int 0, .int 0], .tup [.int 0, .int 0], .tup [.int 0, .int 0]], .tup [.int 1, .int 2], .tup [.ref 4]], .lst [.str "prime", .str (("count " : Str) ++ t1), .str (("count " : Str) ++ t1), .str "table", .str "prime", .str (("count " : Str) ++ t1), .str "prime", .str (("count " : Str) ++ t1)]]) ?_ rfl rfl (by rfl) (by rfl) ?_
  · revert x1 t1 h1; exact all1 (by kernel_rfl)
  refine w_tell (.str "prime") ([lotL a2 b2 c2, .lst [.tup [.int 1, .int 2], .tup [.int 0, .int 1]], .lst [.non, .int 1, .tup [.tup [.int 1, .int 2], .tup [.int 3]], .ref 1, .tup [.tup [.int 1, .int 2]], .tup [.tup [.int 1, .int 2], .tup [.int 0, .int 3]], .tup [.tup [.int 1, .int (-1)], .tup [.int 0, .int 1]], .tup [.tup [.int 1, .bl true], .tup [.int 0, .int 1]], .tup [.tup [.int 1, .non], .tup [.int 0, .int 0]], .str "12"], .lst [.tup [.int 1, .int 2]], .lst [.int 1, .int 2], .lst [.non, .tup [.tup [.int 1, .int 2], .tup [.int 1]], .ref 3, .tup [.tup [.int 1, .int 3]], .tup [.tup [.int 1, .bl true]], .tup [.tup [.int 0, .int 0], .tup [.int 0, .int 0], .tup [.int 0, .int 0], .tup [.int 0, .int 0], .tup [.int 0, .int 0], .tup [.int 0, .int 0], .tup [.int 0, .int 0], .tup [.int 0, .int 0], .tup [.int 0, .int 0], .tup [.int 0, .int 0], .tup [.int 0, .int 0], .tup [.int 0, .int 0], .tup [.int 0, .int 0], .tup [.int 0, .int 0], .tup [.int 0, .int 0], .tup [.int 0, .int 0], .tup [.int 0, .int 0], .tup [.int 0, .int 0], .tup [.int 0, .int 0], .tup [.int 0, .int 0], .tup [.int 0, .int 0], .tup [.int 0, .int 0], .tup [.int 0, .int 0], .tup [.int 0, .int 0], .tup [.int 0, .int 0], .tup [.int 0, .int 0], .tup [.int 0, .int 0], .tup [.int 0, .int 0], .tup [.int 0, .int 0], .tup [.int 0, .int 0], .tup [.int 0, .int 0], .tup [.int 0, .int 0], .tup [.int 0, .int 0], .tup [.int 0, .int 0], .tup [.int 0, .int 0], .tup [.int 0, .int 0], .tup [.int 0, .int 0]], .tup [.int 1, .int 2], .tup [.ref 4]], .lst [.str "prime", .str (("count " : Str) ++ t1), .str (("count " : Str) ++ t1), .str "table", .str "prime", .str (("count " : Str) ++ t1), .str "prime", .str (("count " : Str) ++ t1), .str "prime"]]) ?_ rfl rfl (by rfl) (by rfl) ?_
  · revert x0 t0 h0; exact all1 (by kernel_rfl)
  refine w_tell (.str (("count " : Str) ++ t1)) ([lotL a2 b2 c2, .lst [.tup [.int 1, .int 2], .tup [.int 0, .int 1]], .lst [.non, .int 1, .tup [.tup [.int 1, .int 2], .tup [.int 3]], .ref 1, .tup [.tup [.int 1, .int 2]], .tup [.tup [.int 1, .int 2], .tup [.int 0, .int 3]], .tup [.tup [.int 1, .int (-1)], .tup [.int 0, .int 1]], .tup [.tup [.int 1, .bl true], .tup [.int 0, .int 1]], .tup [.tup [.int 1, .non], .tup [.int 0, .int 0]], .str "12"], .lst [.tup [.int 1, .int 2]], .lst [.int 1, .int 2], .lst [.non, .tup [.tup [.int 1, .int 2], .tup [.int 1]], .ref 3, .tup [.tup [.int 1, .int 3]], .tup [.tup [.int 1, .bl true]], .tup [.tup [.int 0, .int 0], .tup [.int 0, .int 0], .tup [.int 0, .int 0], .tup [.int 0, .int 0], .tup [.int 0, .int 0], .tup [.int 0, .int 0], .tup [.int 0, .int 0], .tup [.int 0, .int 0], .tup [.int 0, .int 0], .tup [.int 0, .int 0], .tup [.int 0, .int 0], .tup [.int 0, .int 0], .tup [.int 0, .int 0], .tup [.int 0, .int 0], .tup [.int 0, .int 0], .tup [.int 0, .int 0], .tup [.int 0, .int 0], .tup [.int 0, .int 0], .tup [.int 0, .int 0], .tup [.int 0, .int 0], .tup [.int 0, .int 0], .tup [.int 0, .int 0], .tup [.int 0, .int 0], .tup [.int 0, .int 0], .tup [.int 0, .int 0], .tup [.int 0, .int 0], .tup [.int 0, .int 0], .tup [.int 0, .int 0], .tup [.int 0, .int 0], .tup [.int 0, .int 0], .tup [.int 0, .int 0], .tup [.int 0, .int 0], .tup [.int 0, .int 0], .tup [.int 0, .int 0], .tup [.int 0, .int 0], .tup [.int 0, .int 0], .tup [.int 0, .int 0]], .tup [.int 1, .int 2], .tup [.ref 4]], .lst [.str "prime", .str (("count " : Str) ++ t1), .str (("count " : Str) ++ t1), .str "table", .str "prime", .str (("count " : Str) ++ t1), .str "prime", .str (("count " : Str) ++ t1), .str "prime", .str (("count " : Str) ++ t1)]]) ?_ rfl rfl (by rfl) (by rfl) ?_
  · revert x1 t1 h1; exact all1 (by kernel_rfl)
  refine w_tell (.str "operation") ([lotL a2 b2 c2, .lst [.tup [.int 1, .int 2], .tup [.int 0, .int 1]], .lst [.non, .int 1, .tup [.tup [.int 1, .int 2], .tup [.int 3]], .ref 1, .tup [.tup [.int 1, .int 2]], .tup [.tup [.int 1, .int 2], .tup [.int 0, .int 3]], .tup [.tup [.int 1, .int (-1)], .tup [.int 0, .int 1]], .tup [.tup [.int 1, .bl true], .tup [.int 0, .int 1]], .tup [.tup [.int 1, .non], .tup [.int 0, .int 0]], .str "12"], .lst [.tup [.int 1, .int 2]], .lst [.int 1, .int 2], .lst [.non, .tup [.tup [.int 1, .int 2], .tup [.int 1]], .ref 3, .tup [.tup [.int 1, .int 3]], .tup [.tup [.int 1, .bl true]], .tup [.tup [.int 0, .int 0], .tup [.int 0, .int 0], .tup [.int 0, .int 0], .tup [.int 0, .int 0], .tup [.int 0, .int 0], .tup [.int 0, .int 0], .tup [.int 0, .int 0], .tup [.int 0, .int 0], .tup [.int 0, .int 0], .tup [.int 0, .int 0], .tup [.int 0, .int 0], .tup [.int 0, .int 0], .tup [.int 0, .int 0], .tup [.int 0, .int 0], .tup [.int 0, .int 0], .tup [.int 0, .int 0], .tup [.int 0, .int 0], .tup [.int 0, .int 0], .tup [.int 0, .int 0], .tup [.int 0, .int 0], .tup [.int 0, .int 0], .tup [.int 0, .int 0], .tup [.int 0, .int 0], .tup [.int 0, .int 0], .tup [.int 0, .int 0], .tup [.int 0, .int 0], .tup [.int 0, .int 0], .tup [.int 0, .int 0], .tup [.int 0, .int 0], .tup [.int 0, .int 0], .tup [.int 0, .int 0], .tup [.int 0, .int 0], .tup [.int 0, .int 0], .tup [.int 0, .int 0], .tup [.int 0, .int 0], .tup [.int 0, .int 0], .tup [.int 0, .int 0]], .tup [.int 1, .int 2], .tup [.ref 4]], .lst [.str "prime", .str (("count " : Str) ++ t1), .str (("count " : Str) ++ t1), .str "table", .str "prime", .str (("count " : Str) ++ t1), .str "prime", .str (("count " : Str) ++ t1), .str "prime", .str (("count " : Str) ++ t1), .str "operation"]]) ?_ rfl rfl (by rfl) (by rfl) ?_
  · revert x3 t3 h3; exact all1 (by kernel_rfl)
  refine w_tell (.str "prime") ([lotL a2 b2 c2, .lst [.tup [.int 1, .int 2], .tup [.int 0, .int 1]], .lst [.non, .int 1, .tup [.tup [.int 1, .int 2], .tup [.int 3]], .ref 1, .tup [.tup [.int 1, .int 2]], .tup [.tup [.int 1, .int 2], .tup [.int 0, .int 3]], .tup [.tup [.int 1, .int (-1)], .tup [.int 0, .int 1]], .tup [.tup [.int 1, .bl true], .tup [.int 0, .int 1]], .tup [.tup [.int 1, .non], .tup [.int 0, .int 0]], .str "12"], .lst [.tup [.int 1, .int 2]], .lst [.int 1, .int 2], .lst [.non, .tup [.tup [.int 1, .int 2], .tup [.int 1]], .ref 3, .tup [.tup [.int 1, .int 3]], .tup [.tup [.int 1, .bl true]], .tup [.tup [.int 0, .int 0], .tup [.int 0, .int 0], .tup [.int 0, .int 0], .tup [.int 0, .int 0], .tup [.int 0, .int 0], .tup [.int 0, .int 0], .tup [.int 0, .int 0], .tup [.int 0, .int 0], .tup [.int 0, .int 0], .tup [.int 0, .int 0], .tup [.int 0, .int 0], .tup [.int 0, .int 0], .tup [.int 0, .int 0], .tup [.int 0, .int 0], .tup [.int 0, .int 0], .tup [.int 0, .int 0], .tup [.int 0, .int 0], .tup [.int 0, .int 0], .tup [.int 0, .int 0], .tup [.int 0, .int 0], .tup [.int 0, .int 0], .tup [.int 0, .int 0], .tup [.int 0, .int 0], .tup [.int 0, .int 0], .tup [.int 0, .int 0], .tup [.int 0, .int 0], .tup [.int 0, .int 0], .tup [.int 0, .int 0], .tup [.int 0, .int 0], .tup [.int 0, .int 0], .tup [.int 0, .int 0], .tup [.int 0, .int 0], .tup [.int 0, .int 0], .tup [.int 0, .int 0], .tup [.int 0, .int 0], .tup [.int 0, .int 0], .tup [.int 0, .int 0]], .tup [.int 1, .int 2], .tup [.ref 4]], .lst [.str "prime", .str (("count " : Str) ++ t1), .str (("count " : Str) ++ t1), .str "table", .str "prime", .str (("count " : Str) ++ t1), .str "prime", .str (("count " : Str) ++ t1), .str "prime", .str (("count " : Str) ++ t1), .str "operation", .str "prime"]]) ?_ rfl rfl (by rfl) (by rfl) ?_
  · revert x0 t0 h0; exact all1 (by kernel_rfl)
  refine w_tell (.str (("count " : Str) ++ t1)) ([lotL a2 b2 c2, .lst [.tup [.int 1, .int 2], .tup [.int 0, .int 1]], .lst [.non, .int 1, .tup [.tup [.int 1, .int 2], .tup [.int 3]], .ref 1, .tup [.tup [.int 1, .int 2]], .tup [.tup [.int 1, .int 2], .tup [.int 0, .int 3]], .tup [.tup [.int 1, .int (-1)], .tup [.int 0, .int 1]], .tup [.tup [.int 1, .bl true], .tup [.int 0, .int 1]], .tup [.tup [.int 1, .non], .tup [.int 0, .int 0]], .str "12"], .lst [.tup [.int 1, .int 2]], .lst [.int 1, .int 2], .lst [.non, .tup [.tup [.int 1, .int 2], .tup [.int 1]], .ref 3, .tup [.tup [.int 1, .int 3]], .tup [.tup [.int 1, .bl true]], .tup [.tup [.int 0, .int 0], .tup [.int 0, .int 0], .tup [.int 0, .int 0], .tup [.int 0, .int 0], .tup [.int 0, .int 0], .tup [.int 0, .int 0], .tup [.int 0, .int 0], .tup [.int 0, .int 0], .tup [.int 0, .int 0], .tup [.int 0, .int 0], .tup [.int 0, .int 0], .tup [.int 0, .int 0], .tup [.int 0, .int 0], .tup [.int 0, .int 0], .tup [.int 0, .int 0], .tup [.int 0, .int 0], .tup [.int 0, .int 0], .tup [.int 0, .int 0], .tup [.int 0, .int 0], .tup [.int 0, .int 0], .tup [.int 0, .int 0], .tup [.int 0, .int 0], .tup [.int 0, .int 0], .tup [.int 0, .int 0], .tup [.int 0, .int 0], .tup [.int 0, .int 0], .tup [.int 0, .int 0], .tup [.int 0, .int 0], .tup [.int 0, .int 0], .tup [.int 0, .int 0], .tup [.int 0, .int 0], .tup [.int 0, .int 0], .tup [.int 0, .int 0], .tup [.int 0, .int 0], .tup [.int 0, .int 0], .tup [.int 0, .int 0], .tup [.int 0, .int 0]], .tup [.int 1, .int 2], .tup [.ref 4]], .lst [.str "prime", .str (("count " : Str) ++ t1), .str (("count " : Str) ++ t1), .str "table", .str "prime", .str (("count " : Str) ++ t1), .str "prime", .str (("count " : Str) ++ t1), .str "prime", .str (("count " : Str) ++ t1), .str "operation", .str "prime", .str (("count " : Str) ++ t1)]]) ?_ rfl rfl (by rfl) (by rfl) ?_
  · revert x1 t1 h1; exact all1 (by kernel_rfl)
  refine w_tell (.str "operation") ([lotL a2 b2 c2, .lst [.tup [.int 1, .int 2], .tup [.int 0, .int 1]], .lst [.non, .int 1, .tup [.tup [.int 1, .int 2], .tup [.int 3]], .ref 1, .tup [.tup [.int 1, .int 2]], .tup [.tup [.int 1, .int 2], .tup [.int 0, .int 3]], .tup [.tup [.int 1, .int (-1)], .tup [.int 0, .int 1]], .tup [.tup [.int 1, .bl true], .tup [.int 0, .int 1]], .tup [.tup [.int 1, .non], .tup [.int 0, .int 0]], .str "12"], .lst [.tup [.int 1, .int 2]], .lst [.int 1, .int 2], .lst [.non, .tup [.tup [.int 1, .int 2], .tup [.int 1]], .ref 3, .tup [.tup [.int 1, .int 3]], .tup [.tup [.int 1, .bl true]], .tup [.tup [.int 0, .int 0], .tup [.int 0, .int 0], .tup [.int 0, .int 0], .tup [.int 0, .int 0], .tup [.int 0, .int 0], .tup [.int 0, .int 0], .tup [.int 0, .int 0], .tup [.int 0, .int 0], .tup [.int 0, .int 0], .tup [.int 0, .int 0], .tup [.int 0, .int 0], .tup [.int 0, .int 0], .tup [.int 0, .int 0], .tup [.int 0, .int 0], .tup [.int 0, .int 0], .tup [.int 0, .int 0], .tup [.int 0, .int 0], .tup [.int 0, .int 0], .tup [.int 0, .int 0], .tup [.int 0, .int 0], .tup [.int 0, .int 0], .tup [.int 0, .int 0], .tup [.int 0, .int 0], .tup [.int 0, .int 0], .tup [.int 0, .int 0], .tup [.int 0, .int 0], .tup [.int 0, .int 0], .tup [.int 0, .int 0], .tup [.int 0, .int 0], .tup [.int 0, .int 0], .tup [.int 0, .int 0], .tup [.int 0, .int 0], .tup [.int 0, .int 0], .tup [.int 0, .int 0], .tup [.int 0, .int 0], .tup [.int 0, .int 0], .tup [.int 0, .int 0]], .tup [.int 1, .int 2], .tup [.ref 4]], .lst [.str "prime", .str (("count " : Str) ++ t1), .str (("count " : Str) ++ t1), .str "table", .str "prime", .str (("count " : Str) ++ t1), .str "prime", .str (("count " : Str) ++ t1), .str "prime", .str (("count " : Str) ++ t1), .str "operation", .str "prime", .str (("count " : Str) ++ t1), .str "operation"]]) ?_ rfl rfl (by rfl) (by rfl) ?_
  · revert x3 t3 h3; exact all1 (by kernel_rfl)
  refine w_det (e' := [some (.ref 0), some (x0), some (x1), some (x2), some (x3), some (.ref 6), some (.str (("count " : Str) ++ t1)), none]) (S' := [lotL a2 b2 c2, .lst [.tup [.int 1, .int 2], .tup [.int 0, .int 1]], .lst [.non, .int 1, .tup [.tup [.int 1, .int 2], .tup [.int 3]], .ref 1, .tup [.tup [.int 1, .int 2]], .tup [.tup [.int 1, .int 2], .tup [.int 0, .int 3]], .tup [.tup [.int 1, .int (-1)], .tup [.int 0, .int 1]], .tup [.tup [.int 1, .bl true], .tup [.int 0, .int 1]], .tup [.tup [.int 1, .non], .tup [.int 0, .int 0]], .str "12"], .lst [.tup [.int 1, .int 2]], .lst [.int 1, .int 2], .lst [.non, .tup [.tup [.int 1, .int 2], .tup [.int 1]], .ref 3, .tup [.tup [.int 1, .int 3]], .tup [.tup [.int 1, .bl true]], .tup [.tup [.int 0, .int 0], .tup [.int 0, .int 0], .tup [.int 0, .int 0], .tup [.int 0, .int 0], .tup [.int 0, .int 0], .tup [.int 0, .int 0], .tup [.int 0, .int 0], .tup [.int 0, .int 0], .tup [.int 0, .int 0], .tup [.int 0, .int 0], .tup [.int 0, .int 0], .tup [.int 0, .int 0], .tup [.int 0, .int 0], .tup [.int 0, .int 0], .tup [.int 0, .int 0], .tup [.int 0, .int 0], .tup [.int 0, .int 0], .tup [.int 0, .int 0], .tup [.int 0, .int 0], .tup [.int 0, .int 0], .tup [.int 0, .int 0], .tup [.int 0, .int 0], .tup [.int 0, .int 0], .tup [.int 0, .int 0], .tup [.int 0, .int 0], .tup [.int 0, .int 0], .tup [.int 0, .int 0], .tup [.int 0, .int 0], .tup [.int 0, .int 0], .tup [.int 0, .int 0], .tup [.int 0, .int 0], .tup [.int 0, .int 0], .tup [.int 0, .int 0], .tup [.int 0, .int 0], .tup [.int 0, .int 0], .tup [.int 0, .int 0], .tup [.int 0, .int 0]], .tup [.int 1, .int 2], .tup [.ref 4]], .lst [.str "prime", .str (("count " : Str) ++ t1), .str (("count " : Str) ++ t1), .str "table", .str "prime", .str (("count " : Str) ++ t1), .str "prime", .str (("count " : Str) ++ t1), .str "prime", .str (("count " : Str) ++ t1), .str "operation", .str "prime", .str (("count " : Str) ++ t1), .str "operation"]]) ?_ ?_
  · revert x1 t1 h1; exact all1 (by kernel_rfl)
  refine w_det (e' := [some (.ref 0), some (x0), some (x1), some (x2), some (x3), some (.ref 6), some (.str (("count " : Str) ++ t1)), some (.ref 10)]) (S' := [lotL a2 b2 c2, .lst [.tup [.int 1, .int 2], .tup [.int 0, .int 1]], .lst [.non, .int 1, .tup [.tup [.int 1, .int 2], .tup [.int 3]], .ref 1, .tup [.tup [.int 1, .int 2]], .tup [.tup [.int 1, .int 2], .tup [.int 0, .int 3]], .tup [.tup [.int 1, .int (-1)], .tup [.int 0, .int 1]], .tup [.tup [.int 1, .bl true], .tup [.int 0, .int 1]], .tup [.tup [.int 1, .non], .tup [.int 0, .int 0]], .str "12"], .lst [.tup [.int 1, .int 2]], .lst [.int 1, .int 2], .lst [.non, .tup [.tup [.int 1, .int 2], .tup [.int 1]], .ref 3, .tup [.tup [.int 1, .int 3]], .tup [.tup [.int 1, .bl true]], .tup [.tup [.int 0, .int 0], .tup [.int 0, .int 0], .tup [.int 0, .int 0], .tup [.int 0, .int 0], .tup [.int 0, .int 0], .tup [.int 0, .int 0], .tup [.int 0, .int 0], .tup [.int 0, .int 0], .tup [.int 0, .int 0], .tup [.int 0, .int 0], .tup [.int 0, .int 0], .tup [.int 0, .int 0], .tup [.int 0, .int 0], .tup [.int 0, .int 0], .tup [.int 0, .int 0], .tup [.int 0, .int 0], .tup [.int 0, .int 0], .tup [.int 0, .int 0], .tup [.int 0, .int 0], .tup [.int 0, .int 0], .tup [.int 0, .int 0], .tup [.int 0, .int 0], .tup [.int 0, .int 0], .tup [.int 0, .int 0], .tup [.int 0, .int 0], .tup [.int 0, .int 0], .tup [.int 0, .int 0], .tup [.int 0, .int 0], .tup [.int 0, .int 0], .tup [.int 0, .int 0], .tup [.int 0, .int 0], .tup [.int 0, .int 0], .tup [.int 0, .int 0], .tup [.int 0, .int 0], .tup [.int 0, .int 0], .tup [.int 0, .int 0], .tup [.int 0, .int 0]], .tup [.int 1, .int 2], .tup [.ref 4]], .lst [.str "prime", .str (("count " : Str) ++ t1), .str (("count " : Str) ++ t1), .str "table", .str "prime", .str (("count " : Str) ++ t1), .str "prime", .str (("count " : Str) ++ t1), .str "prime", .str (("count " : Str) ++ t1), .str "operation", .str "prime", .str (("count " : Str) ++ t1), .str "operation"], .lst [.str "prime", .str (("count " : Str) ++ t1), .str (("count " : Str) ++ t1), .str "table", .str "prime", .str (("count " : Str) ++ t1), .str "prime", .str (("count " : Str) ++ t1)], .lst [.str "prime", .str (("count " : Str) ++ t1), .str "operation"], .lst [.str "prime", .str (("count " : Str) ++ t1), .str "operation", .str "prime", .str (("count " : Str) ++ t1), .str "operation"], .lst [.str "prime", .str (("count " : Str) ++ t1), .str (("count " : Str) ++ t1), .str "table", .str "prime", .str (("count " : Str) ++ t1), .str "prime", .str (("count " : Str) ++ t1), .str "prime", .str (("count " : Str) ++ t1), .str "operation", .str "prime", .str (("count " : Str) ++ t1), .str "operation"]]) ?_ ?_
  · exact (by kernel_rfl)
  refine w_ret (.bl true) ?_ ?_
  · revert x2 t2 h2; revert x1 t1 h1; exact all2 (by kernel_rfl)
  exact ⟨rfl, a2, b2, c2, _, rfl, hb2⟩
end Zk18

namespace Zk18
open PySem PySem.Spec Z
theorem r__law_listed_right : ∀ (x0 : D) (t0 : Str), (x0, t0) ∈ ([(.non, "None"), (.int 0, "0"), (.int 1, "1"), (.int 4, "4"), (.int 11, "11"), (.int (-2), "-2"), (.bl true, "True"), (.str "2", "'2'"), (.tup [.int 2], "(2,)"), (.int 1000000000000000000000000000000000000000000000000000000000000, "1000000000000000000000000000000000000000000000000000000000000")] : List (D × Str)) → ∀ (x1 : D) (t1 : Str), (x1, t1) ∈ ([(.non, "None"), (.int (-1), "-1"), (.int 37, "37"), (.bl true, "True"), (.str "2", "'2'"), (.tup [.int 2], "(2,)"), (.int 1000000000000000000000000000000000000000000000000000000000000, "1000000000000000000000000000000000000000000000000000000000000")] : List (D × Str)) → Rights2 f__law_listed_right [x0, x1] [] 2 := by
  intro x0 t0 h0 x1 t1 h1
  refine rights2_of ?_
  intro a0 b0 c0 m hb0 hm
  unfold b__law_listed_right n__law_listed_right
  simp only [List.map_cons, List.map_nil, List.length_cons, List.length_nil, List.cons_append, List.nil_append, List.replicate]
  refine w_draw (m := m + 0) [(.non, "None"), (.int (-1), "-1"), (.int 13, "13"), (.bl true, "True"), (.str "2", "'2'"), (.int 1000000000000000000000000000000000000000000000000000000000000, "1000000000000000000000000000000000000000000000000000000000000")] 1 [.lst [.non, .int (-1), .int 13, .bl true, .str "2", .int 1000000000000000000000000000000000000000000000000000000000000]] draws hb0 (by kernel_rfl) (by kernel_rfl) rfl (by omega) (by decide) (by decide) ?_
  intro a1 b1 c1 x2 t2 h2 hb1
  dsimp only [List.set_cons_succ, List.set_cons_zero]
  refine w_draw (m := m + 1) [(.tup [.int 2, .int 5], "(2, 5)"), (.tup [.int 3, .int 4], "(3, 4)"), (.tup [.int 5, .int 4], "(5, 4)"), (.tup [.int 7, .int 3], "(7, 3)"), (.tup [.int 2, .int 36], "(2, 36)"), (.tup [.int 5, .int 3], "(5, 3)")] 2 [.lst [.non, .int (-1), .int 13, .bl true, .str "2", .int 1000000000000000000000000000000000000000000000000000000000000], .lst [.tup [.int 2, .int 5], .tup [.int 3, .int 4], .tup [.int 5, .int 4], .tup [.int 7, .int 3], .tup [.int 2, .int 36], .tup [.int 5, .int 3]]] draws hb1 (by kernel_rfl) (by kernel_rfl) rfl (by omega) (by decide) (by decide) ?_
  intro a2 b2 c2 x3 t3 h3 hb2
  dsimp only [List.set_cons_succ, List.set_cons_zero]
  refine w_told (.str "prime") ?_ ?_
  · revert x0 t0 h0; exact all1 (by kernel_rfl)
  dsimp only [List.set_cons_succ, List.set_cons_zero, List.cons_append, List.nil_append, List.length_cons, List.length_nil]
  refine w_tell (.str (("count " : Str) ++ t1)) ([lotL a2 b2 c2, .lst [.non, .int (-1), .int 13, .bl true, .str "2", .int 1000000000000000000000000000000000000000000000000000000000000], .lst [.tup [.int 2, .int 5], .tup [.int 3, .int 4], .tup [.int 5, .int 4], .tup [.int 7, .int 3], .tup [.int 2, .int 36], .tup [.int 5, .int 3]], .lst [.str "prime", .str (("count " : Str) ++ t1)]]) ?_ rfl rfl (by rfl) (by rfl) ?_
  · revert x1 t1 h1; exact all1 (by kernel_rfl)
  refine w_tell (.str "prime") ([lotL a2 b2 c2, .lst [.non, .int (-1), .int 13, .bl true, .str "2", .int 1000000000000000000000000000000000000000000000000000000000000], .lst [.tup [.int 2, .int 5], .tup [.int 3, .int 4], .tup [.int 5, .int 4], .tup [.int 7, .int 3], .tup [.int 2, .int 36], .tup [.int 5, .int 3]], .lst [.str "prime", .str (("count " : Str) ++ t1), .str "prime"]]) ?_ rfl rfl (by rfl) (by rfl) ?_
  · revert x0 t0 h0; exact all1 (by kernel_rfl)
  refine w_tell (.str (("count " : Str) ++ t1)) ([lotL a2 b2 c2, .lst [.non, .int (-1), .int 13, .bl true, .str "2", .int 1000000000000000000000000000000000000000000000000000000000000], .lst [.tup [.int 2, .int 5], .tup [.int 3, .int 4], .tup [.int 5, .int 4], .tup [.int 7, .int 3], .tup [.int 2, .int 36], .tup [.int 5, .int 3]], .lst [.str "prime", .str (("count " : Str) ++ t1), .str "prime", .str (("count " : Str) ++ t1)]]) ?_ rfl rfl (by rfl) (by rfl) ?_
  · revert x1 t1 h1; exact all1 (by kernel_rfl)
  refine w_tell (.str "many 20000") ([lotL a2 b2 c2, .lst [.non, .int (-1), .int 13, .bl true, .str "2", .int 1000000000000000000000000000000000000000000000000000000000000], .lst [.tup [.int 2, .int 5], .tup [.int 3, .int 4], .tup [.int 5, .int 4], .tup [.int 7, .int 3], .tup [.int 2, .int 36], .tup [.int 5, .int 3]], .lst [.str "prime", .str (("count " : Str) ++ t1), .str "prime", .str (("count " : Str) ++ t1), .str "many 20000"]]) ?_ rfl rfl (by rfl) (by rfl) ?_
  · revert x3 t3 h3; exact all1 (by kernel_rfl)
  refine w_tell (.str (("count " : Str) ++ t2)) ([lotL a2 b2 c2, .lst [.non, .int (-1), .int 13, .bl true, .str "2", .int 1000000000000000000000000000000000000000000000000000000000000], .lst [.tup [.int 2, .int 5], .tup [.int 3, .int 4], .tup [.int 5, .int 4], .tup [.int 7, .int 3], .tup [.int 2, .int 36], .tup [.int 5, .int 3]], .lst [.str "prime", .str (("count " : Str) ++ t1), .str "prime", .str (("count " : Str) ++ t1), .str "many 20000", .str (("count " : Str) ++ t2)]]) ?_ rfl rfl (by rfl) (by rfl) ?_
  · revert x2 t2 h2; exact all1 (by kernel_rfl)
  refine w_tell (.str (("count " : Str) ++ t2)) ([lotL a2 b2 c2, .lst [.non, .int (-1), .int 13, .bl true, .str "2", .int 1000000000000000000000000000000000000000000000000000000000000], .lst [.tup [.int 2, .int 5], .tup [.int 3, .int 4], .tup [.int 5, .int 4], .tup [.int 7, .int 3], .tup [.int 2, .int 36], .tup [.int 5, .int 3]], .lst [.str "prime", .str (("count " : Str) ++ t1), .str "prime", .str (("count " : Str) ++ t1), .str "many 20000", .str (("count " : Str) ++ t2), .str (("count " : Str) ++ t2)]]) ?_ rfl rfl (by rfl) (by rfl) ?_
  · revert x2 t2 h2; exact all1 (by kernel_rfl)
  refine w_tell (.str (("count " : Str) ++ t2)) ([lotL a2 b2 c2, .lst [.non, .int (-1), .int 13, .bl true, .str "2", .int 1000000000000000000000000000000000000000000000000000000000000], .lst [.tup [.int 2, .int 5], .tup [.int 3, .int 4], .tup [.int 5, .int 4], .tup [.int 7, .int 3], .tup [.int 2, .int 36], .tup [.int 5, .int 3]], .lst [.str "prime", .str (("count " : Str) ++ t1), .str "prime", .str (("count " : Str) ++ t1), .str "many 20000", .str (("count " : Str) ++ t2), .str (("count " : Str) ++ t2), .str (("count " : Str) ++ t2)]]) ?_ rfl rfl (by rfl) (by rfl) ?_
  · revert x2 t2 h2; exact all1 (by kernel_rfl)
  refine w_tell (.str "prime") ([lotL a2 b2 c2, .lst [.non, .int (-1), .int 13, .bl true, .str "2", .int 1000000000000000000000000000000000000000000000000000000000000], .lst [.tup [.int 2, .int 5], .tup [.int 3, .int 4], .tup [.int 5, .int 4], .tup [.int 7, .int 3], .tup [.int 2, .int 36], .tup [.int 5, .int 3]], .lst [.str "prime", .str (("count " : Str) ++ t1), .str "prime", .str (("count " : Str) ++ t1), .str "many 20000", .str (("count " : Str) ++ t2), .str (("count " : Str) ++ t2), .str (("count " : Str) ++ t2), .str "prime"]]) ?_ rfl rfl (by rfl) (by rfl) ?_
  · revert x0 t0 h0; exact all1 (by kernel_rfl)
  refine w_tell (.str (("count " : Str) ++ t2)) ([lotL a2 b2 c2, .lst [.non, .int (-1), .int 13, .bl true, .str "2", .int 1000000000000000000000000000000000000000000000000000000000000], .lst [.tup [.int 2, .int 5], .tup [.int 3, .int 4], .tup [.int 5, .int 4], .tup [.int 7, .int 3], .tup [.int 2, .int 36], .tup [.int 5, .int 3]], .lst [.str "prime", .str (("count " : Str) ++ t1), .str "prime", .str (("count " : Str) ++ t1), .str "many 20000", .str (("count " : Str) ++ t2), .str (("count " : Str) ++ t2), .str (("count " : Str) ++ t2), .str "prime", .str (("count " : Str) ++ t2)]]) ?_ rfl rfl (by rfl) (by rfl) ?_
  · revert x2 t2 h2; exact all1 (by kernel_rfl)
  refine w_tell (.str (("count " : Str) ++ t2)) ([lotL a2 b2 c2, .lst [.non, .int (-1), .int 13, .bl true, .str "2", .int 1000000000000000000000000000000000000000000000000000000000000], .lst [.tup [.int 2, .int 5], .tup [.int 3, .int 4], .tup [.int 5, .int 4], .tup [.int 7, .int 3], .tup [.int 2, .int 36], .tup [.int 5, .int 3]], .lst [.str "prime", .str (("count " : Str) ++ t1), .str "prime", .str (("count " : Str) ++ t1), .str "many 20000", .str (("count " : Str) ++ t2), .str (("count " : Str) ++ t2), .str (("count " : Str) ++ t2), .str "prime", .str (("count " : Str) ++ t2), .str (("count " : Str) ++ t2)]]) ?_ rfl rfl (by rfl) (by rfl) ?_
  · revert x2 t2 h2; exact all1 (by kernel_rfl)
  refine w_det (e' := [some (.ref 0), some (x0), some (x1), some (x2), some (x3), some (.ref 3), none, none]) (S' := [lotL a2 b2 c2, .lst [.non, .int (-1), .int 13, .bl true, .str "2", .int 1000000000000000000000000000000000000000000000000000000000000], .lst [.tup [.int 2, .int 5], .tup [.int 3, .int 4], .tup [.int 5, .int 4], .tup [.int 7, .int 3], .tup [.int 2, .int 36], .tup [.int 5, .int 3]], .lst [.str "prime", .str (("count " : Str) ++ t1), .str "prime", .str (("count " : Str) ++ t1), .str "many 20000", .str (("count " : Str) ++ t2), .str (("count " : Str) ++ t2), .str (("count " : Str) ++ t2), .str "prime", .str (("count " : Str) ++ t2), .str (("count " : Str) ++ t2), .str "many 3000"]]) ?_ ?_
  · exact (by kernel_rfl)
  refine w_det (e' := [some (.ref 0), some (x0), some (x1), some (x2), some (x3), some (.ref 3), some (.str (("count " : Str) ++ t1)), some (.str (("count " : Str) ++ t2))]) (S' := [lotL a2 b2 c2, .lst [.non, .int (-1), .int 13, .bl true, .str "2", .int 1000000000000000000000000000000000000000000000000000000000000], .lst [.tup [.int 2, .int 5], .tup [.int 3, .int 4], .tup [.int 5, .int 4], .tup [.int 7, .int 3], .tup [.int 2, .int 36], .tup [.int 5, .int 3]], .lst [.str "prime", .str (("count " : Str) ++ t1), .str "prime", .str (("count " : Str) ++ t1), .str "many 20000", .str (("count " : Str) ++ t2), .str (("count " : Str) ++ t2), .str (("count " : Str) ++ t2), .str "prime", .str (("count " : Str) ++ t2), .str (("count " : Str) ++ t2), .str "many 3000"]]) ?_ ?_
  · revert x2 t2 h2; revert x1 t1 h1; exact all2 (by kernel_rfl)
  refine w_ret (.bl true) ?_ ?_
  · revert x2 t2 h2; revert x1 t1 h1; exact all2 (by kernel_rfl)
  exact ⟨rfl, a2, b2, c2, _, rfl, hb2⟩
end Zk18

namespace Zk18
open PySem PySem.Spec Z
theorem r__law_used_right : Rights2 f__law_used_right [] [] 7 := by
  refine rights2_of ?_
  intro a0 b0 c0 m hb0 hm
  unfold b__law_used_right n__law_used_right
  simp only [List.map_cons, List.map_nil, List.length_cons, List.length_nil, List.cons_append, List.nil_append, List.replicate]
  refine w_det (e' := [some (.ref 0), some (.ref 1), some (.ref 15), none, none, none, none, none, none, none, none, none]) (S' := [lotL a0 b0 c0, .slt 0 [some (.int 2), some (.int 3), some (.int 2), some (.tup [.tup [.int 1, .int 2, .int 0], .tup [.int 0, .int 0, .int 1]]), some (.int 3)], .lst [.bl true, .bl true, .bl true], .lst [.bl true, .bl true, .bl true], .lst [.bl true, .bl true], .lst [], .lst [.int 0, .int 2], .lst [.int 1, .int 2, .int 0], .lst [.int 1, .int 2, .int 0], .lst [.ref 8], .lst [], .lst [.int 0, .int 0, .int 1], .lst [.int 0, .int 0, .int 1], .lst [.ref 8, .ref 12], .lst [.int 0], .slt 0 [some (.int 2), some (.int 3), some (.int 1), some (.tup [.tup [.int 1, .int 2], .tup [.int 2, .int 1]]), some (.int 2)], .lst [.bl true, .bl true], .lst [.bl true, .bl true], .lst [.bl true, .bl true], .lst [], .lst [.int 0], .lst [.int 1, .int 2], .lst [.int 1, .int 2], .lst [.ref 22], .lst [], .lst [.int 2, .int 1], .lst [.int 0, .int 0]]) ?_ ?_
  · exact (by kernel_rfl)
  refine w_draw (m := m + 0) [(.non, "None"), (.int 1, "1"), (.tup [.tup [.int 1, .int 2, .int 0], .tup [.int 0, .int 0, .int 1]], "((1, 2, 0), (0, 0, 1))"), (.str "table of 2 by 3 modulo 3", "'table of 2 by 3 modulo 3'"), (.ref 27, "[]"), (.ref 28, "")] 29 [.slt 0 [some (.int 2), some (.int 3), some (.int 2), some (.tup [.tup [.int 1, .int 2, .int 0], .tup [.int 0, .int 0, .int 1]]), some (.int 3)], .lst [.bl true, .bl true, .bl true], .lst [.bl true, .bl true, .bl true], .lst [.bl true, .bl true], .lst [], .lst [.int 0, .int 2], .lst [.int 1, .int 2, .int 0], .lst [.int 1, .int 2, .int 0], .lst [.ref 8], .lst [], .lst [.int 0, .int 0, .int 1], .lst [.int 0, .int 0, .int 1], .lst [.ref 8, .ref 12], .lst [.int 0], .slt 0 [some (.int 2), some (.int 3), some (.int 1), some (.tup [.tup [.int 1, .int 2], .tup [.int 2, .int 1]]), some (.int 2)], .lst [.bl true, .bl true], .lst [.bl true, .bl true], .lst [.bl true, .bl true], .lst [], .lst [.int 0], .lst [.int 1, .int 2], .lst [.int 1, .int 2], .lst [.ref 22], .lst [], .lst [.int 2, .int 1], .lst [.int 0, .int 0], .lst [], .dK [], .lst [.non, .int 1, .tup [.tup [.int 1, .int 2, .int 0], .tup [.int 0, .int 0, .int 1]], .str "table of 2 by 3 modulo 3", .ref 27, .ref 28]] draws hb0 (by kernel_rfl) (by kernel_rfl) rfl (by omega) (by decide) (by decide) ?_
  intro a1 b1 c1 x0 t0 h0 hb1
  dsimp only [List.set_cons_succ, List.set_cons_zero]
  refine w_draw (m := m + 1) [(.ref 30, ""), (.ref 15, ""), (.ref 44, "")] 59 [.slt 0 [some (.int 2), some (.int 3), some (.int 2), some (.tup [.tup [.int 1, .int 2, .int 0], .tup [.int 0, .int 0, .int 1]]), some (.int 3)], .lst [.bl true, .bl true, .bl true], .lst [.bl true, .bl true, .bl true], .lst [.bl true, .bl true], .lst [], .lst [.int 0, .int 2], .lst [.int 1, .int 2, .int 0], .lst [.int 1, .int 2, .int 0], .lst [.ref 8], .lst [], .lst [.int 0, .int 0, .int 1], .lst [.int 0, .int 0, .int 1], .lst [.ref 8, .ref 12], .lst [.int 0], .slt 0 [some (.int 2), some (.int 3), some (.int 1), some (.tup [.tup [.int 1, .int 2], .tup [.int 2, .int 1]]), some (.int 2)], .lst [.bl true, .bl true], .lst [.bl true, .bl true], .lst [.bl true, .bl true], .lst [], .lst [.int 0], .lst [.int 1, .int 2], .lst [.int 1, .int 2], .lst [.ref 22], .lst [], .lst [.int 2, .int 1], .lst [.int 0, .int 0], .lst [], .dK [], .lst [.non, .int 1, .tup [.tup [.int 1, .int 2, .int 0], .tup [.int 0, .int 0, .int 1]], .str "table of 2 by 3 modulo 3", .ref 27, .ref 28], .slt 0 [some (.int 2), some (.int 5), some (.int 2), some (.tup [.tup [.int 1, .int 2, .int 0], .tup [.int 0, .int 0, .int 1]]), some (.int 3)], .lst [.bl true, .bl true, .bl true], .lst [.bl true, .bl true, .bl true], .lst [.bl true, .bl true], .lst [], .lst [.int 0, .int 2], .lst [.int 1, .int 2, .int 0], .lst [.int 1, .int 2, .int 0], .lst [.ref 37], .lst [], .lst [.int 0, .int 0, .int 1], .lst [.int 0, .int 0, .int 1], .lst [.ref 37, .ref 41], .lst [.int 0], .slt 0 [some (.int 3), some (.int 3), some (.int 1), some (.tup [.tup [.int 1, .int 0], .tup [.int 1, .int 0], .tup [.int 1, .int 0]]), some (.int 2)], .lst [.bl true, .bl true], .lst [.bl true, .bl true], .lst [.bl true, .bl true], .lst [.bl true, .bl true, .bl true], .lst [], .lst [.int 0], .lst [.int 1, .int 0], .lst [.int 1, .int 0], .lst [.ref 52], .lst [], .lst [.int 1, .int 0], .lst [.int 0, .int 0], .lst [.int 1, .int 0], .lst [.int 0, .int 0], .lst [.ref 30, .ref 15, .ref 44]] draws hb1 (by kernel_rfl) (by kernel_rfl) rfl (by omega) (by decide) (by decide) ?_
  intro a2 b2 c2 x1 t1 h1 hb2
  dsimp only [List.set_cons_succ, List.set_cons_zero]
  refine w_draw (m := m + 2) [(.ref 15, ""), (.ref 1, ""), (.ref 60, "")] 73 [.slt 0 [some (.int 2), some (.int 3), some (.int 2), some (.tup [.tup [.int 1, .int 2, .int 0], .tup [.int 0, .int 0, .int 1]]), some (.int 3)], .lst [.bl true, .bl true, .bl true], .lst [.bl true, .bl true, .bl true], .lst [.bl true, .bl true], .lst [], .lst [.int 0, .int 2], .lst [.int 1, .int 2, .int 0], .lst [.int 1, .int 2, .int 0], .lst [.ref 8], .lst [], .lst [.int 0, .int 0, .int 1], .lst [.int 0, .int 0, .int 1], .lst [.ref 8, .ref 12], .lst [.int 0], .slt 0 [some (.int 2), some (.int 3), some (.int 1), some (.tup [.tup [.int 1, .int 2], .tup [.int 2, .int 1]]), some (.int 2)], .lst [.bl true, .bl true], .lst [.bl true, .bl true], .lst [.bl true, .bl true], .lst [], .lst [.int 0], .lst [.int 1, .int 2], .lst [.int 1, .int 2], .lst [.ref 22], .lst [], .lst [.int 2, .int 1], .lst [.int 0, .int 0], .lst [], .dK [], .lst [.non, .int 1, .tup [.tup [.int 1, .int 2, .int 0], .tup [.int 0, .int 0, .int 1]], .str "table of 2 by 3 modulo 3", .ref 27, .ref 28], .slt 0 [some (.int 2), some (.int 5), some (.int 2), some (.tup [.tup [.int 1, .int 2, .int 0], .tup [.int 0, .int 0, .int 1]]), some (.int 3)], .lst [.bl true, .bl true, .bl true], .lst [.bl true, .bl true, .bl true], .lst [.bl true, .bl true], .lst [], .lst [.int 0, .int 2], .lst [.int 1, .int 2, .int 0], .lst [.int 1, .int 2, .int 0], .lst [.ref 37], .lst [], .lst [.int 0, .int 0, .int 1], .lst [.int 0, .int 0, .int 1], .lst [.ref 37, .ref 41], .lst [.int 0], .slt 0 [some (.int 3), some (.int 3), some (.int 1), some (.tup [.tup [.int 1, .int 0], .tup [.int 1, .int 0], .tup [.int 1, .int 0]]), some (.int 2)], .lst [.bl true, .bl true], .lst [.bl true, .bl true], .lst [.bl true, .bl true], .lst [.bl true, .bl true, .bl true], .lst [], .lst [.int 0], .lst [.int 1, .int 0], .lst [.int 1, .int 0], .lst [.ref 52], .lst [], .lst [.int 1, .int 0], .lst [.int 0, .int 0], .lst [.int 1, .int 0], .lst [.int 0, .int 0], .lst [.ref 30, .ref 15, .ref 44], .slt 0 [some (.int 3), some (.int 5), some (.int 1), some (.tup [.tup [.int 1], .tup [.int 0], .tup [.int 0]]), some (.int 1)], .lst [.bl true], .lst [.bl true], .lst [.bl true], .lst [.bl true, .bl true, .bl true], .lst [], .lst [.int 0], .lst [.int 1], .lst [.int 1], .lst [.ref 68], .lst [], .lst [.int 0], .lst [.int 0], .lst [.ref 15, .ref 1, .ref 60]] draws hb2 (by kernel_rfl) (by kernel_rfl) rfl (by omega) (by decide) (by decide) ?_
  intro a3 b3 c3 x2 t2 h2 hb3
  dsimp only [List.set_cons_succ, List.set_cons_zero]
  refine w_draw (m := m + 3) [(.non, "None"), (.str "1", "'1'"), (.bl true, "True"), (.tup [.int 1], "(1,)"), (.int 1000000000000000000000000000000000000000000000000000000000000, "1000000000000000000000000000000000000000000000000000000000000")] 74 [.slt 0 [some (.int 2), some (.int 3), some (.int 2), some (.tup [.tup [.int 1, .int 2, .int 0], .tup [.int 0, .int 0, .int 1]]), some (.int 3)], .lst [.bl true, .bl true, .bl true], .lst [.bl true, .bl true, .bl true], .lst [.bl true, .bl true], .lst [], .lst [.int 0, .int 2], .lst [.int 1, .int 2, .int 0], .lst [.int 1, .int 2, .int 0], .lst [.ref 8], .lst [], .lst [.int 0, .int 0, .int 1], .lst [.int 0, .int 0, .int 1], .lst [.ref 8, .ref 12], .lst [.int 0], .slt 0 [some (.int 2), some (.int 3), some (.int 1), some (.tup [.tup [.int 1, .int 2], .tup [.int 2, .int 1]]), some (.int 2)], .lst [.bl true, .bl true], .lst [.bl true, .bl true], .lst [.bl true, .bl true], .lst [], .lst [.int 0], .lst [.int 1, .int 2], .lst [.int 1, .int 2], .lst [.ref 22], .lst [], .lst [.int 2, .int 1], .lst [.int 0, .int 0], .lst [], .dK [], .lst [.non, .int 1, .tup [.tup [.int 1, .int 2, .int 0], .tup [.int 0, .int 0, .int 1]], .str "table of 2 by 3 modulo 3", .ref 27, .ref 28], .slt 0 [some (.int 2), some (.int 5), some (.int 2), some (.tup [.tup [.int 1, .int 2, .int 0], .tup [.int 0, .int 0, .int 1]]), some (.int 3)], .lst [.bl true, .bl true, .bl true], .lst [.bl true, .bl true, .bl true], .lst [.bl true, .bl true], .lst [], .lst [.int 0, .int 2], .lst [.int 1, .int 2, .int 0], .lst [.int 1, .int 2, .int 0], .lst [.ref 37], .lst [], .lst [.int 0, .int 0, .int 1], .lst [.int 0, .int 0, .int 1], .lst [.ref 37, .ref 41], .lst [.int 0], .slt 0 [some (.int 3), some (.int 3), some (.int 1), some (.tup [.tup [.int 1, .int 0], .tup [.int 1, .int 0], .tup [.int 1, .int 0]]), some (.int 2)], .lst [.bl true, .bl true], .lst [.bl true, .bl true], .lst [.bl true, .bl true], .lst [.bl true, .bl true, .bl true], .lst [], .lst [.int 0], .lst [.int 1, .int 0], .lst [.int 1, .int 0], .lst [.ref 52], .lst [], .lst [.int 1, .int 0], .lst [.int 0, .int 0], .lst [.int 1, .int 0], .lst [.int 0, .int 0], .lst [.ref 30, .ref 15, .ref 44], .slt 0 [some (.int 3), some (.int 5), some (.int 1), some (.tup [.tup [.int 1], .tup [.int 0], .tup [.int 0]]), some (.int 1)], .lst [.bl true], .lst [.bl true], .lst [.bl true], .lst [.bl true, .bl true, .bl true], .lst [], .lst [.int 0], .lst [.int 1], .lst [.int 1], .lst [.ref 68], .lst [], .lst [.int 0], .lst [.int 0], .lst [.ref 15, .ref 1, .ref 60], .lst [.non, .str "1", .bl true, .tup [.int 1], .int 1000000000000000000000000000000000000000000000000000000000000]] draws hb3 (by kernel_rfl) (by kernel_rfl) rfl (by omega) (by decide) (by decide) ?_
  intro a4 b4 c4 x3 t3 h3 hb4
  dsimp only [List.set_cons_succ, List.set_cons_zero]
  refine w_draw (m := m + 4) [(.non, "None"), (.tup [.int 1, .int 2], "(1, 2)"), (.tup [.int 1, .int 2, .int 3], "(1, 2, 3)"), (.tup [.int 1, .int 0, .bl true], "(1, 0, True)"), (.ref 75, "[1, 0, 0]"), (.str "120", "'120'"), (.int 5, "5"), (.tup [.int 0, .int 0, .int 0, .int 0], "(0, 0, 0, 0)")] 76 [.slt 0 [some (.int 2), some (.int 3), some (.int 2), some (.tup [.tup [.int 1, .int 2, .int 0], .tup [.int 0, .int 0, .int 1]]), some (.int 3)], .lst [.bl true, .bl true, .bl true], .lst [.bl true, .bl true, .bl true], .lst [.bl true, .bl true], .lst [], .lst [.int 0, .int 2], .lst [.int 1, .int 2, .int 0], .lst [.int 1, .int 2, .int 0], .lst [.ref 8], .lst [], .lst [.int 0, .int 0, .int 1], .lst [.int 0, .int 0, .int 1], .lst [.ref 8, .ref 12], .lst [.int 0], .slt 0 [some (.int 2), some (.int 3), some (.int 1), some (.tup [.tup [.int 1, .int 2], .tup [.int 2, .int 1]]), some (.int 2)], .lst [.bl true, .bl true], .lst [.bl true, .bl true], .lst [.bl true, .bl true], .lst [], .lst [.int 0], .lst [.int 1, .int 2], .lst [.int 1, .int 2], .lst [.ref 22], .lst [], .lst [.int 2, .int 1], .lst [.int 0, .int 0], .lst [], .dK [], .lst [.non, .int 1, .tup [.tup [.int 1, .int 2, .int 0], .tup [.int 0, .int 0, .int 1]], .str "table of 2 by 3 modulo 3", .ref 27, .ref 28], .slt 0 [some (.int 2), some (.int 5), some (.int 2), some (.tup [.tup [.int 1, .int 2, .int 0], .tup [.int 0, .int 0, .int 1]]), some (.int 3)], .lst [.bl true, .bl true, .bl true], .lst [.bl true, .bl true, .bl true], .lst [.bl true, .bl true], .lst [], .lst [.int 0, .int 2], .lst [.int 1, .int 2, .int 0], .lst [.int 1, .int 2, .int 0], .lst [.ref 37], .lst [], .lst [.int 0, .int 0, .int 1], .lst [.int 0, .int 0, .int 1], .lst [.ref 37, .ref 41], .lst [.int 0], .slt 0 [some (.int 3), some (.int 3), some (.int 1), some (.tup [.tup [.int 1, .int 0], .tup [.int 1, .int 0], .tup [.int 1, .int 0]]), some (.int 2)], .lst [.bl true, .bl true], .lst [.bl true, .bl true], .lst [.bl true, .bl true], .lst [.bl true, .bl true, .bl true], .lst [], .lst [.int 0], .lst [.int 1, .int 0], .lst [.int 1, .int 0], .lst [.ref 52], .lst [], .lst [.int 1, .int 0], .lst [.int 0, .int 0], .lst [.int 1, .int 0], .lst [.int 0, .int 0], .lst [.ref 30, .ref 15, .ref 44], .slt 0 [some (.int 3), some (.int 5), some (.int 1), some (.tup [.tup [.int 1], .tup [.int 0], .tup [.int 0]]), some (.int 1)], .lst [.bl true], .lst [.bl true], .lst [.bl true], .lst [.bl true, .bl true, .bl true], .lst [], .lst [.int 0], .lst [.int 1], .lst [.int 1], .lst [.ref 68], .lst [], .lst [.int 0], .lst [.int 0], .lst [.ref 15, .ref 1, .ref 60], .lst [.non, .str "1", .bl true, .tup [.int 1], .int 1000000000000000000000000000000000000000000000000000000000000], .lst [.int 1, .int 0, .int 0], .lst [.non, .tup [.int 1, .int 2], .tup [.int 1, .int 2, .int 3], .tup [.int 1, .int 0, .bl true], .ref 75, .str "120", .int 5, .tup [.int 0, .int 0, .int 0, .int 0]]] draws hb4 (by kernel_rfl) (by kernel_rfl) rfl (by omega) (by decide) (by decide) ?_
  intro a5 b5 c5 x4 t4 h4 hb5
  dsimp only [List.set_cons_succ, List.set_cons_zero]
  refine w_draw (m := m + 5) [(.non, "None"), (.tup [.int 1, .int 2, .int 0], "(1, 2, 0)"), (.tup [.int 1, .int 3], "(1, 3)"), (.tup [.int 1, .bl true], "(1, True)"), (.ref 77, "[1, 0]"), (.str "12", "'12'"), (.int 5, "5")] 78 [.slt 0 [some (.int 2), some (.int 3), some (.int 2), some (.tup [.tup [.int 1, .int 2, .int 0], .tup [.int 0, .int 0, .int 1]]), some (.int 3)], .lst [.bl true, .bl true, .bl true], .lst [.bl true, .bl true, .bl true], .lst [.bl true, .bl true], .lst [], .lst [.int 0, .int 2], .lst [.int 1, .int 2, .int 0], .lst [.int 1, .int 2, .int 0], .lst [.ref 8], .lst [], .lst [.int 0, .int 0, .int 1], .lst [.int 0, .int 0, .int 1], .lst [.ref 8, .ref 12], .lst [.int 0], .slt 0 [some (.int 2), some (.int 3), some (.int 1), some (.tup [.tup [.int 1, .int 2], .tup [.int 2, .int 1]]), some (.int 2)], .lst [.bl true, .bl true], .lst [.bl true, .bl true], .lst [.bl true, .bl true], .lst [], .lst [.int 0], .lst [.int 1, .int 2], .lst [.int 1, .int 2], .lst [.ref 22], .lst [], .lst [.int 2, .int 1], .lst [.int 0, .int 0], .lst [], .dK [], .lst [.non, .int 1, .tup [.tup [.int 1, .int 2, .int 0], .tup [.int 0, .int 0, .int 1]], .str "table of 2 by 3 modulo 3", .ref 27, .ref 28], .slt 0 [some (.int 2), some (.int 5), some (.int 2), some (.tup [.tup [.int 1, .int 2, .int 0], .tup [.int 0, .int 0, .int 1]]), some (.int 3)], .lst [.bl true, .bl true, .bl true], .lst [.bl true, .bl true, .bl true], .lst [.bl true, .bl true], .lst [], .lst [.int 0, .int 2], .lst [.int 1, .int 2, .int 0], .lst [.int 1, .int 2, .int 0], .lst [.ref 37], .lst [], .lst [.int 0, .int 0, .int 1], .lst [.int 0, .int 0, .int 1], .lst [.ref 37, .ref 41], .lst [.int 0], .slt 0 [some (.int 3), some (.int 3), some (.int 1), some (.tup [.tup [.int 1, .int 0], .tup [.int 1, .int 0], .tup [.int 1, .int 0]]), some (.int 2)], .lst [.bl true, .bl true], .lst [.bl true, .bl true], .lst [.bl true, .bl true], .lst [.bl true, .bl true, .bl true], .lst [], .lst [.int 0], .lst [.int 1, .int 0], .lst [.int 1, .int 0], .lst [.ref 52], .lst [], .lst [.int 1, .int 0], .lst [.int 0, .int 0], .lst [.int 1, .int 0], .lst [.int 0, .int 0], .lst [.ref 30, .ref 15, .ref 44], .slt 0 [some (.int 3), some (.int 5), some (.int 1), some (.tup [.tup [.int 1], .tup [.int 0], .tup [.int 0]]), some (.int 1)], .lst [.bl true], .lst [.bl true], .lst [.bl true], .lst [.bl true, .bl true, .bl true], .lst [], .lst [.int 0], .lst [.int 1], .lst [.int 1], .lst [.ref 68], .lst [], .lst [.int 0], .lst [.int 0], .lst [.ref 15, .ref 1, .ref 60], .lst [.non, .str "1", .bl true, .tup [.int 1], .int 1000000000000000000000000000000000000000000000000000000000000], .lst [.int 1, .int 0, .int 0], .lst [.non, .tup [.int 1, .int 2], .tup [.int 1, .int 2, .int 3], .tup [.int 1, .int 0, .bl true], .ref 75, .str "120", .int 5, .tup [.int 0, .int 0, .int 0, .int 0]], .lst [.int 1, .int 0], .lst [.non, .tup [.int 1, .int 2, .int 0], .tup [.int 1, .int 3], .tup [.int 1, .bl true], .ref 77, .str "12", .int 5]] draws hb5 (by kernel_rfl) (by kernel_rfl) rfl (by omega) (by decide) (by decide) ?_
  intro a6 b6 c6 x5 t5 h5 hb6
  dsimp only [List.set_cons_succ, List.set_cons_zero]
  refine w_draw (m := m + 6) [(.non, "None"), (.int (-1), "-1"), (.int 3, "3"), (.bl true, "True"), (.str "0", "'0'"), (.int 1000000000000000000000000000000000000000000000000000000000000, "1000000000000000000000000000000000000000000000000000000000000")] 79 [.slt 0 [some (.int 2), some (.int 3), some (.int 2), some (.tup [.tup [.int 1, .int 2, .int 0], .tup [.int 0, .int 0, .int 1]]), some (.int 3)], .lst [.bl true, .bl true, .bl true], .lst [.bl true, .bl true, .bl true], .lst [.bl true, .bl true], .lst [], .lst [.int 0, .int 2], .lst [.int 1, .int 2, .int 0], .lst [.int 1, .int 2, .int 0], .lst [.ref 8], .lst [], .lst [.int 0, .int 0, .int 1], .lst [.int 0, .int 0, .int 1], .lst [.ref 8, .ref 12], .lst [.int 0], .slt 0 [some (.int 2), some (.int 3), some (.int 1), some (.tup [.tup [.int 1, .int 2], .tup [.int 2, .int 1]]), some (.int 2)], .lst [.bl true, .bl true], .lst [.bl true, .bl true], .lst [.bl true, .bl true], .lst [], .lst [.int 0], .lst [.int 1, .int 2], .lst [.int 1, .int 2], .lst [.ref 22], .lst [], .lst [.int 2, .int 1], .lst [.int 0, .int 0], .lst [], .dK [], .lst [.non, .int 1, .tup [.tup [.int 1, .int 2, .int 0], .tup [.int 0, .int 0, .int 1]], .str "table of 2 by 3 modulo 3", .ref 27, .ref 28], .slt 0 [some (.int 2), some (.int 5), some (.int 2), some (.tup [.tup [.int 1, .int 2, .int 0], .tup [.int 0, .int 0, .int 1]]), some (.int 3)], .lst [.bl true, .bl true, .bl true], .lst [.bl true, .bl true, .bl true], .lst [.bl true, .bl true], .lst [], .lst [.int 0, .int 2], .lst [.int 1, .int 2, .int 0], .lst [.int 1, .int 2, .int 0], .lst [.ref 37], .lst [], .lst [.int 0, .int 0, .int 1], .lst [.int 0, .int 0, .int 1], .lst [.ref 37, .ref 41], .lst [.int 0], .slt 0 [some (.int 3), some (.int 3), some (.int 1), some (.tup [.tup [.int 1, .int 0], .tup [.int 1, .int 0], .tup [.int 1, .int 0]]), some (.int 2)], .lst [.bl true, .bl true], .lst [.bl true, .bl true], .lst [.bl true, .bl true], .lst [.bl true, .bl true, .bl true], .lst [], .lst [.int 0], .lst [.int 1, .int 0], .lst [.int 1, .int 0], .lst [.ref 52], .lst [], .lst [.int 1, .int 0], .lst [.int 0, .int 0], .lst [.int 1, .int 0], .lst [.int 0, .int 0], .lst [.ref 30, .ref 15, .ref 44], .slt 0 [some (.int 3), some (.int 5), some (.int 1), some (.tup [.tup [.int 1], .tup [.int 0], .tup [.int 0]]), some (.int 1)], .lst [.bl true], .lst [.bl true], .lst [.bl true], .lst [.bl true, .bl true, .bl true], .lst [], .lst [.int 0], .lst [.int 1], .lst [.int 1], .lst [.ref 68], .lst [], .lst [.int 0], .lst [.int 0], .lst [.ref 15, .ref 1, .ref 60], .lst [.non, .str "1", .bl true, .tup [.int 1], .int 1000000000000000000000000000000000000000000000000000000000000], .lst [.int 1, .int 0, .int 0], .lst [.non, .tup [.int 1, .int 2], .tup [.int 1, .int 2, .int 3], .tup [.int 1, .int 0, .bl true], .ref 75, .str "120", .int 5, .tup [.int 0, .int 0, .int 0, .int 0]], .lst [.int 1, .int 0], .lst [.non, .tup [.int 1, .int 2, .int 0], .tup [.int 1, .int 3], .tup [.int 1, .bl true], .ref 77, .str "12", .int 5], .lst [.non, .int (-1), .int 3, .bl true, .str "0", .int 1000000000000000000000000000000000000000000000000000000000000]] draws hb6 (by kernel_rfl) (by kernel_rfl) rfl (by omega) (by decide) (by decide) ?_
  intro a7 b7 c7 x6 t6 h6 hb7
  dsimp only [List.set_cons_succ, List.set_cons_zero]
  refine w_told (.str "table") ?_ ?_
  · revert x0 t0 h0; exact all1 (by kernel_rfl)
  dsimp only [List.set_cons_succ, List.set_cons_zero, List.cons_append, List.nil_append, List.length_cons, List.length_nil]
  refine w_tell (.str "operation") ([lotL a7 b7 c7, .slt 0 [some (.int 2), some (.int 3), some (.int 2), some (.tup [.tup [.int 1, .int 2, .int 0], .tup [.int 0, .int 0, .int 1]]), some (.int 3)], .lst [.bl true, .bl true, .bl true], .lst [.bl true, .bl true, .bl true], .lst [.bl true, .bl true], .lst [], .lst [.int 0, .int 2], .lst [.int 1, .int 2, .int 0], .lst [.int 1, .int 2, .int 0], .lst [.ref 8], .lst [], .lst [.int 0, .int 0, .int 1], .lst [.int 0, .int 0, .int 1], .lst [.ref 8, .ref 12], .lst [.int 0], .slt 0 [some (.int 2), some (.int 3), some (.int 1), some (.tup [.tup [.int 1, .int 2], .tup [.int 2, .int 1]]), some (.int 2)], .lst [.bl true, .bl true], .lst [.bl true, .bl true], .lst [.bl true, .bl true], .lst [], .lst [.int 0], .lst [.int 1, .int 2], .lst [.int 1, .int 2], .lst [.ref 22], .lst [], .lst [.int 2, .int 1], .lst [.int 0, .int 0], .lst [], .dK [], .lst [.non, .int 1, .tup [.tup [.int 1, .int 2, .int 0], .tup [.int 0, .int 0, .int 1]], .str "table of 2 by 3 modulo 3", .ref 27, .ref 28], .slt 0 [some (.int 2), some (.int 5), some (.int 2), some (.tup [.tup [.int 1, .int 2, .int 0], .tup [.int 0, .int 0, .int 1]]), some (.int 3)], .lst [.bl true, .bl true, .bl true], .lst [.bl true, .bl true, .bl true], .lst [.bl true, .bl true], .lst [], .lst [.int 0, .int 2], .lst [.int 1, .int 2, .int 0], .lst [.int 1, .int 2, .int 0], .lst [.ref 37], .lst [], .lst [.int 0, .int 0, .int 1], .lst [.int 0, .int 0, .int 1], .lst [.ref 37, .ref 41], .lst [.int 0], .slt 0 [some (.int 3), some (.int 3), some (.int 1), some (.tup [.tup [.int 1, .int 0], .tup [.int 1, .int 0], .tup [.int 1, .int 0]]), some (.int 2)], .lst [.bl true, .bl true], .lst [.bl true, .bl true], .lst [.bl true, .bl true], .lst [.bl true, .bl true, .bl true], .lst [], .lst [.int 0], .lst [.int 1, .int 0], .lst [.int 1, .int 0], .lst [.ref 52], .lst [], .lst [.int 1, .int 0], .lst [.int 0, .int 0], .lst [.int 1, .int 0], .lst [.int 0, .int 0], .lst [.ref 30, .ref 15, .ref 44], .slt 0 [some (.int 3), some (.int 5), some (.int 1), some (.tup [.tup [.int 1], .tup [.int 0], .tup [.int 0]]), some (.int 1)], .lst [.bl true], .lst [.bl true], .lst [.bl true], .lst [.bl true, .bl true, .bl true], .lst [], .lst [.int 0], .lst [.int 1], .lst [.int 1], .lst [.ref 68], .lst [], .lst [.int 0], .lst [.int 0], .lst [.ref 15, .ref 1, .ref 60], .lst [.non, .str "1", .bl true, .tup [.int 1], .int 1000000000000000000000000000000000000000000000000000000000000], .lst [.int 1, .int 0, .int 0], .lst [.non, .tup [.int 1, .int 2], .tup [.int 1, .int 2, .int 3], .tup [.int 1, .int 0, .bl true], .ref 75, .str "120", .int 5, .tup [.int 0, .int 0, .int 0, .int 0]], .lst [.int 1, .int 0], .lst [.non, .tup [.int 1, .int 2, .int 0], .tup [.int 1, .int 3], .tup [.int 1, .bl true], .ref 77, .str "12", .int 5], .lst [.non, .int (-1), .int 3, .bl true, .str "0", .int 1000000000000000000000000000000000000000000000000000000000000], .lst [.str "table", .str "operation"]]) ?_ rfl rfl (by rfl) (by rfl) ?_
  · revert x1 t1 h1; exact all1 (by kernel_rfl)
  refine w_tell (.str "table") ([lotL a7 b7 c7, .slt 0 [some (.int 2), some (.int 3), some (.int 2), some (.tup [.tup [.int 1, .int 2, .int 0], .tup [.int 0, .int 0, .int 1]]), some (.int 3)], .lst [.bl true, .bl true, .bl true], .lst [.bl true, .bl true, .bl true], .lst [.bl true, .bl true], .lst [], .lst [.int 0, .int 2], .lst [.int 1, .int 2, .int 0], .lst [.int 1, .int 2, .int 0], .lst [.ref 8], .lst [], .lst [.int 0, .int 0, .int 1], .lst [.int 0, .int 0, .int 1], .lst [.ref 8, .ref 12], .lst [.int 0], .slt 0 [some (.int 2), some (.int 3), some (.int 1), some (.tup [.tup [.int 1, .int 2], .tup [.int 2, .int 1]]), some (.int 2)], .lst [.bl true, .bl true], .lst [.bl true, .bl true], .lst [.bl true, .bl true], .lst [], .lst [.int 0], .lst [.int 1, .int 2], .lst [.int 1, .int 2], .lst [.ref 22], .lst [], .lst [.int 2, .int 1], .lst [.int 0, .int 0], .lst [], .dK [], .lst [.non, .int 1, .tup [.tup [.int 1, .int 2, .int 0], .tup [.int 0, .int 0, .int 1]], .str "table of 2 by 3 modulo 3", .ref 27, .ref 28], .slt 0 [some (.int 2), some (.int 5), some (.int 2), some (.tup [.tup [.int 1, .int 2, .int 0], .tup [.int 0, .int 0, .int 1]]), some (.int 3)], .lst [.bl true, .bl true, .bl true], .lst [.bl true, .bl true, .bl true], .lst [.bl true, .bl true], .lst [], .lst [.int 0, .int 2], .lst [.int 1, .int 2, .int 0], .lst [.int 1, .int 2, .int 0], .lst [.ref 37], .lst [], .lst [.int 0, .int 0, .int 1], .lst [.int 0, .int 0, .int 1], .lst [.ref 37, .ref 41], .lst [.int 0], .slt 0 [some (.int 3), some (.int 3), some (.int 1), some (.tup [.tup [.int 1, .int 0], .tup [.int 1, .int 0], .tup [.int 1, .int 0]]), some (.int 2)], .lst [.bl true, .bl true], .lst [.bl true, .bl true], .lst [.bl true, .bl true], .lst [.bl true, .bl true, .bl true], .lst [], .lst [.int 0], .lst [.int 1, .int 0], .lst [.int 1, .int 0], .lst [.ref 52], .lst [], .lst [.int 1, .int 0], .lst [.int 0, .int 0], .lst [.int 1, .int 0], .lst [.int 0, .int 0], .lst [.ref 30, .ref 15, .ref 44], .slt 0 [some (.int 3), some (.int 5), some (.int 1), some (.tup [.tup [.int 1], .tup [.int 0], .tup [.int 0]]), some (.int 1)], .lst [.bl true], .lst [.bl true], .lst [.bl true], .lst [.bl true, .bl true, .bl true], .lst [], .lst [.int 0], .lst [.int 1], .lst [.int 1], .lst [.ref 68], .lst [], .lst [.int 0], .lst [.int 0], .lst [.ref 15, .ref 1, .ref 60], .lst [.non, .str "1", .bl true, .tup [.int 1], .int 1000000000000000000000000000000000000000000000000000000000000], .lst [.int 1, .int 0, .int 0], .lst [.non, .tup [.int 1, .int 2], .tup [.int 1, .int 2, .int 3], .tup [.int 1, .int 0, .bl true], .ref 75, .str "120", .int 5, .tup [.int 0, .int 0, .int 0, .int 0]], .lst [.int 1, .int 0], .lst [.non, .tup [.int 1, .int 2, .int 0], .tup [.int 1, .int 3], .tup [.int 1, .bl true], .ref 77, .str "12", .int 5], .lst [.non, .int (-1), .int 3, .bl true, .str "0", .int 1000000000000000000000000000000000000000000000000000000000000], .lst [.str "table", .str "operation", .str "table"]]) ?_ rfl rfl (by rfl) (by rfl) ?_
  · revert x0 t0 h0; exact all1 (by kernel_rfl)
  refine w_tell (.str "operation") ([lotL a7 b7 c7, .slt 0 [some (.int 2), some (.int 3), some (.int 2), some (.tup [.tup [.int 1, .int 2, .int 0], .tup [.int 0, .int 0, .int 1]]), some (.int 3)], .lst [.bl true, .bl true, .bl true], .lst [.bl true, .bl true, .bl true], .lst [.bl true, .bl true], .lst [], .lst [.int 0, .int 2], .lst [.int 1, .int 2, .int 0], .lst [.int 1, .int 2, .int 0], .lst [.ref 8], .lst [], .lst [.int 0, .int 0, .int 1], .lst [.int 0, .int 0, .int 1], .lst [.ref 8, .ref 12], .lst [.int 0], .slt 0 [some (.int 2), some (.int 3), some (.int 1), some (.tup [.tup [.int 1, .int 2], .tup [.int 2, .int 1]]), some (.int 2)], .lst [.bl true, .bl true], .lst [.bl true, .bl true], .lst [.bl true, .bl true], .lst [], .lst [.int 0], .lst [.int 1, .int 2], .lst [.int 1, .int 2], .lst [.ref 22], .lst [], .lst [.int 2, .int 1], .lst [.int 0, .int 0], .lst [], .dK [], .lst [.non, .int 1, .tup [.tup [.int 1, .int 2, .int 0], .tup [.int 0, .int 0, .int 1]], .str "table of 2 by 3 modulo 3", .ref 27, .ref 28], .slt 0 [some (.int 2), some (.int 5), some (.int 2), some (.tup [.tup [.int 1, .int 2, .int 0], .tup [.int 0, .int 0, .int 1]]), some (.int 3)], .lst [.bl true, .bl true, .bl true], .lst [.bl true, .bl true, .bl true], .lst [.bl true, .bl true], .lst [], .lst [.int 0, .int 2], .lst [.int 1, .int 2, .int 0], .lst [.int 1, .int 2, .int 0], .lst [.ref 37], .lst [], .lst [.int 0, .int 0, .int 1], .lst [.int 0, .int 0, .int 1], .lst [.ref 37, .ref 41], .lst [.int 0], .slt 0 [some (.int 3), some (.int 3), some (.int 1), some (.tup [.tup [.int 1, .int 0], .tup [.int 1, .int 0], .tup [.int 1, .int 0]]), some (.int 2)], .lst [.bl true, .bl true], .lst [.bl true, .bl true], .lst [.bl true, .bl true], .lst [.bl true, .bl true, .bl true], .lst [], .lst [.int 0], .lst [.int 1, .int 0], .lst [.int 1, .int 0], .lst [.ref 52], .lst [], .lst [.int 1, .int 0], .lst [.int 0, .int 0], .lst [.int 1, .int 0], .lst [.int 0, .int 0], .lst [.ref 30, .ref 15, .ref 44], .slt 0 [some (.int 3), some (.int 5), some (.int 1), some (.tup [.tup [.int 1], .tup [.int 0], .tup [.int 0]]), some (.int 1)], .lst [.bl true], .lst [.bl true], .lst [.bl true], .lst [.bl true, .bl true, .bl true], .lst [], .lst [.int 0], .lst [.int 1], .lst [.int 1], .lst [.ref 68], .lst [], .lst [.int 0], .lst [.int 0], .lst [.ref 15, .ref 1, .ref 60], .lst [.non, .str "1", .bl true, .tup [.int 1], .int 1000000000000000000000000000000000000000000000000000000000000], .lst [.int 1, .int 0, .int 0], .lst [.non, .tup [.int 1, .int 2], .tup [.int 1, .int 2, .int 3], .tup [.int 1, .int 0, .bl true], .ref 75, .str "120", .int 5, .tup [.int 0, .int 0, .int 0, .int 0]], .lst [.int 1, .int 0], .lst [.non, .tup [.int 1, .int 2, .int 0], .tup [.int 1, .int 3], .tup [.int 1, .bl true], .ref 77, .str "12", .int 5], .lst [.non, .int (-1), .int 3, .bl true, .str "0", .int 1000000000000000000000000000000000000000000000000000000000000], .lst [.str "table", .str "operation", .str "table", .str "operation"]]) ?_ rfl rfl (by rfl) (by rfl) ?_
  · revert x1 t1 h1; exact all1 (by kernel_rfl)
  refine w_tell (.str "table") ([lotL a7 b7 c7, .slt 0 [some (.int 2), some (.int 3), some (.int 2), some (.tup [.tup [.int 1, .int 2, .int 0], .tup [.int 0, .int 0, .int 1]]), some (.int 3)], .lst [.bl true, .bl true, .bl true], .lst [.bl true, .bl true, .bl true], .lst [.bl true, .bl true], .lst [], .lst [.int 0, .int 2], .lst [.int 1, .int 2, .int 0], .lst [.int 1, .int 2, .int 0], .lst [.ref 8], .lst [], .lst [.int 0, .int 0, .int 1], .lst [.int 0, .int 0, .int 1], .lst [.ref 8, .ref 12], .lst [.int 0], .slt 0 [some (.int 2), some (.int 3), some (.int 1), some (.tup [.tup [.int 1, .int 2], .tup [.int 2, .int 1]]), some (.int 2)], .lst [.bl true, .bl true], .lst [.bl true, .bl true], .lst [.bl true, .bl true], .lst [], .lst [.int 0], .lst [.int 1, .int 2], .lst [.int 1, .int 2], .lst [.ref 22], .lst [], .lst [.int 2, .int 1], .lst [.int 0, .int 0], .lst [], .dK [], .lst [.non, .int 1, .tup [.tup [.int 1, .int 2, .int 0], .tup [.int 0, .int 0, .int 1]], .str "table of 2 by 3 modulo 3", .ref 27, .ref 28], .slt 0 [some (.int 2), some (.int 5), some (.int 2), some (.tup [.tup [.int 1, .int 2, .int 0], .tup [.int 0, .int 0, .int 1]]), some (.int 3)], .lst [.bl true, .bl true, .bl true], .lst [.bl true, .bl true, .bl true], .lst [.bl true, .bl true], .lst [], .lst [.int 0, .int 2], .lst [.int 1, .int 2, .int 0], .lst [.int 1, .int 2, .int 0], .lst [.ref 37], .lst [], .lst [.int 0, .int 0, .int 1], .lst [.int 0, .int 0, .int 1], .lst [.ref 37, .ref 41], .lst [.int 0], .slt 0 [some (.int 3), some (.int 3), some (.int 1), some (.tup [.tup [.int 1, .int 0], .tup [.int 1, .int 0], .tup [.int 1, .int 0]]), some (.int 2)], .lst [.bl true, .bl true], .lst [.bl true, .bl true], .lst [.bl true, .bl true], .lst [.bl true, .bl true, .bl true], .lst [], .lst [.int 0], .lst [.int 1, .int 0], .lst [.int 1, .int 0], .lst [.ref 52], .lst [], .lst [.int 1, .int 0], .lst [.int 0, .int 0], .lst [.int 1, .int 0], .lst [.int 0, .int 0], .lst [.ref 30, .ref 15, .ref 44], .slt 0 [some (.int 3), some (.int 5), some (.int 1), some (.tup [.tup [.int 1], .tup [.int 0], .tup [.int 0]]), some (.int 1)], .lst [.bl true], .lst [.bl true], .lst [.bl true], .lst [.bl true, .bl true, .bl true], .lst [], .lst [.int 0], .lst [.int 1], .lst [.int 1], .lst [.ref 68], .lst [], .lst [.int 0], .lst [.int 0], .lst [.ref 15, .ref 1, .ref 60], .lst [.non, .str "1", .bl true, .tup [.int 1], .int 1000000000000000000000000000000000000000000000000000000000000], .lst [.int 1, .int 0, .int 0], .lst [.non, .tup [.int 1, .int 2], .tup [.int 1, .int 2, .int 3], .tup [.int 1, .int 0, .bl true], .ref 75, .str "120", .int 5, .tup [.int 0, .int 0, .int 0, .int 0]], .lst [.int 1, .int 0], .lst [.non, .tup [.int 1, .int 2, .int 0], .tup [.int 1, .int 3], .tup [.int 1, .bl true], .ref 77, .str "12", .int 5], .lst [.non, .int (-1), .int 3, .bl true, .str "0", .int 1000000000000000000000000000000000000000000000000000000000000], .lst [.str "table", .str "operation", .str "table", .str "operation", .str "table"]]) ?_ rfl rfl (by rfl) (by rfl) ?_
  · revert x0 t0 h0; exact all1 (by kernel_rfl)
  refine w_tell (.str "operation") ([lotL a7 b7 c7, .slt 0 [some (.int 2), some (.int 3), some (.int 2), some (.tup [.tup [.int 1, .int 2, .int 0], .tup [.int 0, .int 0, .int 1]]), some (.int 3)], .lst [.bl true, .bl true, .bl true], .lst [.bl true, .bl true, .bl true], .lst [.bl true, .bl true], .lst [], .lst [.int 0, .int 2], .lst [.int 1, .int 2, .int 0], .lst [.int 1, .int 2, .int 0], .lst [.ref 8], .lst [], .lst [.int 0, .int 0, .int 1], .lst [.int 0, .int 0, .int 1], .lst [.ref 8, .ref 12], .lst [.int 0], .slt 0 [some (.int 2), some (.int 3), some (.int 1), some (.tup [.tup [.int 1, .int 2], .tup [.int 2, .int 1]]), some (.int 2)], .lst [.bl true, .bl true], .lst [.bl true, .bl true], .lst [.bl true, .bl true], .lst [], .lst [.int 0], .lst [.int 1, .int 2], .lst [.int 1, .int 2], .lst [.ref 22], .lst [], .lst [.int 2, .int 1], .lst [.int 0, .int 0], .lst [], .dK [], .lst [.non, .int 1, .tup [.tup [.int 1, .int 2, .int 0], .tup [.int 0, .int 0, .int 1]], .str "table of 2 by 3 modulo 3", .ref 27, .ref 28], .slt 0 [some (.int 2), some (.int 5), some (.int 2), some (.tup [.tup [.int 1, .int 2, .int 0], .tup [.int 0, .int 0, .int 1]]), some (.int 3)], .lst [.bl true, .bl true, .bl true], .lst [.bl true, .bl true, .bl true], .lst [.bl true, .bl true], .lst [], .lst [.int 0, .int 2], .lst [.int 1, .int 2, .int 0], .lst [.int 1, .int 2, .int 0], .lst [.ref 37], .lst [], .lst [.int 0, .int 0, .int 1], .lst [.int 0, .int 0, .int 1], .lst [.ref 37, .ref 41], .lst [.int 0], .slt 0 [some (.int 3), some (.int 3), some (.int 1), some (.tup [.tup [.int 1, .int 0], .tup [.int 1, .int 0], .tup [.int 1, .int 0]]), some (.int 2)], .lst [.bl true, .bl true], .lst [.bl true, .bl true], .lst [.bl true, .bl true], .lst [.bl true, .bl true, .bl true], .lst [], .lst [.int 0], .lst [.int 1, .int 0], .lst [.int 1, .int 0], .lst [.ref 52], .lst [], .lst [.int 1, .int 0], .lst [.int 0, .int 0], .lst [.int 1, .int 0], .lst [.int 0, .int 0], .lst [.ref 30, .ref 15, .ref 44], .slt 0 [some (.int 3), some (.int 5), some (.int 1), some (.tup [.tup [.int 1], .tup [.int 0], .tup [.int 0]]), some (.int 1)], .lst [.bl true], .lst [.bl true], .lst [.bl true], .lst [.bl true, .bl true, .bl true], .lst [], .lst [.int 0], .lst [.int 1], .lst [.int 1], .lst [.ref 68], .lst [], .lst [.int 0], .lst [.int 0], .lst [.ref 15, .ref 1, .ref 60], .lst [.non, .str "1", .bl true, .tup [.int 1], .int 1000000000000000000000000000000000000000000000000000000000000], .lst [.int 1, .int 0, .int 0], .lst [.non, .tup [.int 1, .int 2], .tup [.int 1, .int 2, .int 3], .tup [.int 1, .int 0, .bl true], .ref 75, .str "120", .int 5, .tup [.int 0, .int 0, .int 0, .int 0]], .lst [.int 1, .int 0], .lst [.non, .tup [.int 1, .int 2, .int 0], .tup [.int 1, .int 3], .tup [.int 1, .bl true], .ref 77, .str "12", .int 5], .lst [.non, .int (-1), .int 3, .bl true, .str "0", .int 1000000000000000000000000000000000000000000000000000000000000], .lst [.str "table", .str "operation", .str "table", .str "operation", .str "table", .str "operation"]]) ?_ rfl rfl (by rfl) (by rfl) ?_
  · revert x2 t2 h2; exact all1 (by kernel_rfl)
  refine w_tell (.str (("count " : Str) ++ t3)) ([lotL a7 b7 c7, .slt 0 [some (.int 2), some (.int 3), some (.int 2), some (.tup [.tup [.int 1, .int 2, .int 0], .tup [.int 0, .int 0, .int 1]]), some (.int 3)], .lst [.bl true, .bl true, .bl true], .lst [.bl true, .bl true, .bl true], .lst [.bl true, .bl true], .lst [], .lst [.int 0, .int 2], .lst [.int 1, .int 2, .int 0], .lst [.int 1, .int 2, .int 0], .lst [.ref 8], .lst [], .lst [.int 0, .int 0, .int 1], .lst [.int 0, .int 0, .int 1], .lst [.ref 8, .ref 12], .lst [.int 0], .slt 0 [some (.int 2), some (.int 3), some (.int 1), some (.tup [.tup [.int 1, .int 2], .tup [.int 2, .int 1]]), some (.int 2)], .lst [.bl true, .bl true], .lst [.bl true, .bl true], .lst [.bl true, .bl true], .lst [], .lst [.int 0], .lst [.int 1, .int 2], .lst [.int 1, .int 2], .lst [.ref 22], .lst [], .lst [.int 2, .int 1], .lst [.int 0, .int 0], .lst [], .dK [], .lst [.non, .int 1, .tup [.tup [.int 1, .int 2, .int 0], .tup [.int 0, .int 0, .int 1]], .str "table of 2 by 3 modulo 3", .ref 27, .ref 28], .slt 0 [some (.int 2), some (.int 5), some (.int 2), some (.tup [.tup [.int 1, .int 2, .int 0], .tup [.int 0, .int 0, .int 1]]), some (.int 3)], .lst [.bl true, .bl true, .bl true], .lst [.bl true, .bl true, .bl true], .lst [.bl true, .bl true], .lst [], .lst [.int 0, .int 2], .lst [.int 1, .int 2, .int 0], .lst [.int 1, .int 2, .int 0], .lst [.ref 37], .lst [], .lst [.int 0, .int 0, .int 1], .lst [.int 0, .int 0, .int 1], .lst [.ref 37, .ref 41], .lst [.int 0], .slt 0 [some (.int 3), some (.int 3), some (.int 1), some (.tup [.tup [.int 1, .int 0], .tup [.int 1, .int 0], .tup [.int 1, .int 0]]), some (.int 2)], .lst [.bl true, .bl true], .lst [.bl true, .bl true], .lst [.bl true, .bl true], .lst [.bl true, .bl true, .bl true], .lst [], .lst [.int 0], .lst [.int 1, .int 0], .lst [.int 1, .int 0], .lst [.ref 52], .lst [], .lst [.int 1, .int 0], .lst [.int 0, .int 0], .lst [.int 1, .int 0], .lst [.int 0, .int 0], .lst [.ref 30, .ref 15, .ref 44], .slt 0 [some (.int 3), some (.int 5), some (.int 1), some (.tup [.tup [.int 1], .tup [.int 0], .tup [.int 0]]), some (.int 1)], .lst [.bl true], .lst [.bl true], .lst [.bl true], .lst [.bl true, .bl true, .bl true], .lst [], .lst [.int 0], .lst [.int 1], .lst [.int 1], .lst [.ref 68], .lst [], .lst [.int 0], .lst [.int 0], .lst [.ref 15, .ref 1, .ref 60], .lst [.non, .str "1", .bl true, .tup [.int 1], .int 1000000000000000000000000000000000000000000000000000000000000], .lst [.int 1, .int 0, .int 0], .lst [.non, .tup [.int 1, .int 2], .tup [.int 1, .int 2, .int 3], .tup [.int 1, .int 0, .bl true], .ref 75, .str "120", .int 5, .tup [.int 0, .int 0, .int 0, .int 0]], .lst [.int 1, .int 0], .lst [.non, .tup [.int 1, .int 2, .int 0], .tup [.int 1, .int 3], .tup [.int 1, .bl true], .ref 77, .str "12", .int 5], .lst [.non, .int (-1), .int 3, .bl true, .str "0", .int 1000000000000000000000000000000000000000000000000000000000000], .lst [.str "table", .str "operation", .str "table", .str "operation", .str "table", .str "operation", .str (("count " : Str) ++ t3)]]) ?_ rfl rfl (by rfl) (by rfl) ?_
  · revert x3 t3 h3; exact all1 (by kernel_rfl)
  refine w_tell (.str "operation") ([lotL a7 b7 c7, .slt 0 [some (.int 2), some (.int 3), some (.int 2), some (.tup [.tup [.int 1, .int 2, .int 0], .tup [.int 0, .int 0, .int 1]]), some (.int 3)], .lst [.bl true, .bl true, .bl true], .lst [.bl true, .bl true, .bl true], .lst [.bl true, .bl true], .lst [], .lst [.int 0, .int 2], .lst [.int 1, .int 2, .int 0], .lst [.int 1, .int 2, .int 0], .lst [.ref 8], .lst [], .lst [.int 0, .int 0, .int 1], .lst [.int 0, .int 0, .int 1], .lst [.ref 8, .ref 12], .lst [.int 0], .slt 0 [some (.int 2), some (.int 3), some (.int 1), some (.tup [.tup [.int 1, .int 2], .tup [.int 2, .int 1]]), some (.int 2)], .lst [.bl true, .bl true], .lst [.bl true, .bl true], .lst [.bl true, .bl true], .lst [], .lst [.int 0], .lst [.int 1, .int 2], .lst [.int 1, .int 2], .lst [.ref 22], .lst [], .lst [.int 2, .int 1], .lst [.int 0, .int 0], .lst [], .dK [], .lst [.non, .int 1, .tup [.tup [.int 1, .int 2, .int 0], .tup [.int 0, .int 0, .int 1]], .str "table of 2 by 3 modulo 3", .ref 27, .ref 28], .slt 0 [some (.int 2), some (.int 5), some (.int 2), some (.tup [.tup [.int 1, .int 2, .int 0], .tup [.int 0, .int 0, .int 1]]), some (.int 3)], .lst [.bl true, .bl true, .bl true], .lst [.bl true, .bl true, .bl true], .lst [.bl true, .bl true], .lst [], .lst [.int 0, .int 2], .lst [.int 1, .int 2, .int 0], .lst [.int 1, .int 2, .int 0], .lst [.ref 37], .lst [], .lst [.int 0, .int 0, .int 1], .lst [.int 0, .int 0, .int 1], .lst [.ref 37, .ref 41], .lst [.int 0], .slt 0 [some (.int 3), some (.int 3), some (.int 1), some (.tup [.tup [.int 1, .int 0], .tup [.int 1, .int 0], .tup [.int 1, .int 0]]), some (.int 2)], .lst [.bl true, .bl true], .lst [.bl true, .bl true], .lst [.bl true, .bl true], .lst [.bl true, .bl true, .bl true], .lst [], .lst [.int 0], .lst [.int 1, .int 0], .lst [.int 1, .int 0], .lst [.ref 52], .lst [], .lst [.int 1, .int 0], .lst [.int 0, .int 0], .lst [.int 1, .int 0], .lst [.int 0, .int 0], .lst [.ref 30, .ref 15, .ref 44], .slt 0 [some (.int 3), some (.int 5), some (.int 1), some (.tup [.tup [.int 1], .tup [.int 0], .tup [.int 0]]), some (.int 1)], .lst [.bl true], .lst [.bl true], .lst [.bl true], .lst [.bl true, .bl true, .bl true], .lst [], .lst [.int 0], .lst [.int 1], .lst [.int 1], .lst [.ref 68], .lst [], .lst [.int 0], .lst [.int 0], .lst [.ref 15, .ref 1, .ref 60], .lst [.non, .str "1", .bl true, .tup [.int 1], .int 1000000000000000000000000000000000000000000000000000000000000], .lst [.int 1, .int 0, .int 0], .lst [.non, .tup [.int 1, .int 2], .tup [.int 1, .int 2, .int 3], .tup [.int 1, .int 0, .bl true], .ref 75, .str "120", .int 5, .tup [.int 0, .int 0, .int 0, .int 0]], .lst [.int 1, .int 0], .lst [.non, .tup [.int 1, .int 2, .int 0], .tup [.int 1, .int 3], .tup [.int 1, .bl true], .ref 77, .str "12", .int 5], .lst [.non, .int (-1), .int 3, .bl true, .str "0", .int 1000000000000000000000000000000000000000000000000000000000000], .lst [.str "table", .str "operation", .str "table", .str "operation", .str "table", .str "operation", .str (("count " : Str) ++ t3), .str "operation"]]) ?_ rfl rfl (by rfl) (by rfl) ?_
  · revert x4 t4 h4; exact all1 (by kernel_rfl)
  refine w_tell (.str "operation") ([lotL a7 b7 c7, .slt 0 [some (.int 2), some (.int 3), some (.int 2), some (.tup [.tup [.int 1, .int 2, .int 0], .tup [.int 0, .int 0, .int 1]]), some (.int 3)], .lst [.bl true, .bl true, .bl true], .lst [.bl true, .bl true, .bl true], .lst [.bl true, .bl true], .lst [], .lst [.int 0, .int 2], .lst [.int 1, .int 2, .int 0], .lst [.int 1, .int 2, .int 0], .lst [.ref 8], .lst [], .lst [.int 0, .int 0, .int 1], .lst [.int 0, .int 0, .int 1], .lst [.ref 8, .ref 12], .lst [.int 0], .slt 0 [some (.int 2), some (.int 3), some (.int 1), some (.tup [.tup [.int 1, .int 2], .tup [.int 2, .int 1]]), some (.int 2)], .lst [.bl true, .bl true], .lst [.bl true, .bl true], .lst [.bl true, .bl true], .lst [], .lst [.int 0], .lst [.int 1, .int 2], .lst [.int 1, .int 2], .lst [.ref 22], .lst [], .lst [.int 2, .int 1], .lst [.int 0, .int 0], .lst [], .dK [], .lst [.non, .int 1, .tup [.tup [.int 1, .int 2, .int 0], .tup [.int 0, .int 0, .int 1]], .str "table of 2 by 3 modulo 3", .ref 27, .ref 28], .slt 0 [some (.int 2), some (.int 5), some (.int 2), some (.tup [.tup [.int 1, .int 2, .int 0], .tup [.int 0, .int 0, .int 1]]), some (.int 3)], .lst [.bl true, .bl true, .bl true], .lst [.bl true, .bl true, .bl true], .lst [.bl true, .bl true], .lst [], .lst [.int 0, .int 2], .lst [.int 1, .int 2, .int 0], .lst [.int 1, .int 2, .int 0], .lst [.ref 37], .lst [], .lst [.int 0, .int 0, .int 1], .lst [.int 0, .int 0, .int 1], .lst [.ref 37, .ref 41], .lst [.int 0], .slt 0 [some (.int 3), some (.int 3), some (.int 1), some (.tup [.tup [.int 1, .int 0], .tup [.int 1, .int 0], .tup [.int 1, .int 0]]), some (.int 2)], .lst [.bl true, .bl true], .lst [.bl true, .bl true], .lst [.bl true, .bl true], .lst [.bl true, .bl true, .bl true], .lst [], .lst [.int 0], .lst [.int 1, .int 0], .lst [.int 1, .int 0], .lst [.ref 52], .lst [], .lst [.int 1, .int 0], .lst [.int 0, .int 0], .lst [.int 1, .int 0], .lst [.int 0, .int 0], .lst [.ref 30, .ref 15, .ref 44], .slt 0 [some (.int 3), some (.int 5), some (.int 1), some (.tup [.tup [.int 1], .tup [.int 0], .tup [.int 0]]), some (.int 1)], .lst [.bl true], .lst [.bl true], .lst [.bl true], .lst [.bl true, .bl true, .bl true], .lst [], .lst [.int 0], .lst [.int 1], .lst [.int 1], .lst [.ref 68], .lst [], .lst [.int 0], .lst [.int 0], .lst [.ref 15, .ref 1, .ref 60], .lst [.non, .str "1", .bl true, .tup [.int 1], .int 1000000000000000000000000000000000000000000000000000000000000], .lst [.int 1, .int 0, .int 0], .lst [.non, .tup [.int 1, .int 2], .tup [.int 1, .int 2, .int 3], .tup [.int 1, .int 0, .bl true], .ref 75, .str "120", .int 5, .tup [.int 0, .int 0, .int 0, .int 0]], .lst [.int 1, .int 0], .lst [.non, .tup [.int 1, .int 2, .int 0], .tup [.int 1, .int 3], .tup [.int 1, .bl true], .ref 77, .str "12", .int 5], .lst [.non, .int (-1), .int 3, .bl true, .str "0", .int 1000000000000000000000000000000000000000000000000000000000000], .lst [.str "table", .str "operation", .str "table", .str "operation", .str "table", .str "operation", .str (("count " : Str) ++ t3), .str "operation", .str "operation"]]) ?_ rfl rfl (by rfl) (by rfl) ?_
  · revert x5 t5 h5; exact all1 (by kernel_rfl)
  refine w_tell (.str "operation") ([lotL a7 b7 c7, .slt 0 [some (.int 2), some (.int 3), some (.int 2), some (.tup [.tup [.int 1, .int 2, .int 0], .tup [.int 0, .int 0, .int 1]]), some (.int 3)], .lst [.bl true, .bl true, .bl true], .lst [.bl true, .bl true, .bl true], .lst [.bl true, .bl true], .lst [], .lst [.int 0, .int 2], .lst [.int 1, .int 2, .int 0], .lst [.int 1, .int 2, .int 0], .lst [.ref 8], .lst [], .lst [.int 0, .int 0, .int 1], .lst [.int 0, .int 0, .int 1], .lst [.ref 8, .ref 12], .lst [.int 0], .slt 0 [some (.int 2), some (.int 3), some (.int 1), some (.tup [.tup [.int 1, .int 2], .tup [.int 2, .int 1]]), some (.int 2)], .lst [.bl true, .bl true], .lst [.bl true, .bl true], .lst [.bl true, .bl true], .lst [], .lst [.int 0], .lst [.int 1, .int 2], .lst [.int 1, .int 2], .lst [.ref 22], .lst [], .lst [.int 2, .int 1], .lst [.int 0, .int 0], .lst [], .dK [], .lst [.non, .int 1, .tup [.tup [.int 1, .int 2, .int 0], .tup [.int 0, .int 0, .int 1]], .str "table of 2 by 3 modulo 3", .ref 27, .ref 28], .slt 0 [some (.int 2), some (.int 5), some (.int 2), some (.tup [.tup [.int 1, .int 2, .int 0], .tup [.int 0, .int 0, .int 1]]), some (.int 3)], .lst [.bl true, .bl true, .bl true], .lst [.bl true, .bl true, .bl true], .lst [.bl true, .bl true], .lst [], .lst [.int 0, .int 2], .lst [.int 1, .int 2, .int 0], .lst [.int 1, .int 2, .int 0], .lst [.ref 37], .lst [], .lst [.int 0, .int 0, .int 1], .lst [.int 0, .int 0, .int 1], .lst [.ref 37, .ref 41], .lst [.int 0], .slt 0 [some (.int 3), some (.int 3), some (.int 1), some (.tup [.tup [.int 1, .int 0], .tup [.int 1, .int 0], .tup [.int 1, .int 0]]), some (.int 2)], .lst [.bl true, .bl true], .lst [.bl true, .bl true], .lst [.bl true, .bl true], .lst [.bl true, .bl true, .bl true], .lst [], .lst [.int 0], .lst [.int 1, .int 0], .lst [.int 1, .int 0], .lst [.ref 52], .lst [], .lst [.int 1, .int 0], .lst [.int 0, .int 0], .lst [.int 1, .int 0], .lst [.int 0, .int 0], .lst [.ref 30, .ref 15, .ref 44], .slt 0 [some (.int 3), some (.int 5), some (.int 1), some (.tup [.tup [.int 1], .tup [.int 0], .tup [.int 0]]), some (.int 1)], .lst [.bl true], .lst [.bl true], .lst [.bl true], .lst [.bl true, .bl true, .bl true], .lst [], .lst [.int 0], .lst [.int 1], .lst [.int 1], .lst [.ref 68], .lst [], .lst [.int 0], .lst [.int 0], .lst [.ref 15, .ref 1, .ref 60], .lst [.non, .str "1", .bl true, .tup [.int 1], .int 1000000000000000000000000000000000000000000000000000000000000], .lst [.int 1, .int 0, .int 0], .lst [.non, .tup [.int 1, .int 2], .tup [.int 1, .int 2, .int 3], .tup [.int 1, .int 0, .bl true], .ref 75, .str "120", .int 5, .tup [.int 0, .int 0, .int 0, .int 0]], .lst [.int 1, .int 0], .lst [.non, .tup [.int 1, .int 2, .int 0], .tup [.int 1, .int 3], .tup [.int 1, .bl true], .ref 77, .str "12", .int 5], .lst [.non, .int (-1), .int 3, .bl true, .str "0", .int 1000000000000000000000000000000000000000000000000000000000000], .lst [.str "table", .str "operation", .str "table", .str "operation", .str "table", .str "operation", .str (("count " : Str) ++ t3), .str "operation", .str "operation", .str "operation"]]) ?_ rfl rfl (by rfl) (by rfl) ?_
  · exact (by kernel_rfl)
  refine w_tell (.str "operation") ([lotL a7 b7 c7, .slt 0 [some (.int 2), some (.int 3), some (.int 2), some (.tup [.tup [.int 1, .int 2, .int 0], .tup [.int 0, .int 0, .int 1]]), some (.int 3)], .lst [.bl true, .bl true, .bl true], .lst [.bl true, .bl true, .bl true], .lst [.bl true, .bl true], .lst [], .lst [.int 0, .int 2], .lst [.int 1, .int 2, .int 0], .lst [.int 1, .int 2, .int 0], .lst [.ref 8], .lst [], .lst [.int 0, .int 0, .int 1], .lst [.int 0, .int 0, .int 1], .lst [.ref 8, .ref 12], .lst [.int 0], .slt 0 [some (.int 2), some (.int 3), some (.int 1), some (.tup [.tup [.int 1, .int 2], .tup [.int 2, .int 1]]), some (.int 2)], .lst [.bl true, .bl true], .lst [.bl true, .bl true], .lst [.bl true, .bl true], .lst [], .lst [.int 0], .lst [.int 1, .int 2], .lst [.int 1, .int 2], .lst [.ref 22], .lst [], .lst [.int 2, .int 1], .lst [.int 0, .int 0], .lst [], .dK [], .lst [.non, .int 1, .tup [.tup [.int 1, .int 2, .int 0], .tup [.int 0, .int 0, .int 1]], .str "table of 2 by 3 modulo 3", .ref 27, .ref 28], .slt 0 [some (.int 2), some (.int 5), some (.int 2), some (.tup [.tup [.int 1, .int 2, .int 0], .tup [.int 0, .int 0, .int 1]]), some (.int 3)], .lst [.bl true, .bl true, .bl true], .lst [.bl true, .bl true, .bl true], .lst [.bl true, .bl true], .lst [], .lst [.int 0, .int 2], .lst [.int 1, .int 2, .int 0], .lst [.int 1, .int 2, .int 0], .lst [.ref 37], .lst [], .lst [.int 0, .int 0, .int 1], .lst [.int 0, .int 0, .int 1], .lst [.ref 37, .ref 41], .lst [.int 0], .slt 0 [some (.int 3), some (.int 3), some (.int 1), some (.tup [.tup [.int 1, .int 0], .tup [.int 1, .int 0], .tup [.int 1, .int 0]]), some (.int 2)], .lst [.bl true, .bl true], .lst [.bl true, .bl true], .lst [.bl true, .bl true], .lst [.bl true, .bl true, .bl true], .lst [], .lst [.int 0], .lst [.int 1, .int 0], .lst [.int 1, .int 0], .lst [.ref 52], .lst [], .lst [.int 1, .int 0], .lst [.int 0, .int 0], .lst [.int 1, .int 0], .lst [.int 0, .int 0], .lst [.ref 30, .ref 15, .ref 44], .slt 0 [some (.int 3), some (.int 5), some (.int 1), some (.tup [.tup [.int 1], .tup [.int 0], .tup [.int 0]]), some (.int 1)], .lst [.bl true], .lst [.bl true], .lst [.bl true], .lst [.bl true, .bl true, .bl true], .lst [], .lst [.int 0], .lst [.int 1], .lst [.int 1], .lst [.ref 68], .lst [], .lst [.int 0], .lst [.int 0], .lst [.ref 15, .ref 1, .ref 60], .lst [.non, .str "1", .bl true, .tup [.int 1], .int 1000000000000000000000000000000000000000000000000000000000000], .lst [.int 1, .int 0, .int 0], .lst [.non, .tup [.int 1, .int 2], .tup [.int 1, .int 2, .int 3], .tup [.int 1, .int 0, .bl true], .ref 75, .str "120", .int 5, .tup [.int 0, .int 0, .int 0, .int 0]], .lst [.int 1, .int 0], .lst [.non, .tup [.int 1, .int 2, .int 0], .tup [.int 1, .int 3], .tup [.int 1, .bl true], .ref 77, .str "12", .int 5], .lst [.non, .int (-1), .int 3, .bl true, .str "0", .int 1000000000000000000000000000000000000000000000000000000000000], .lst [.str "table", .str "operation", .str "table", .str "operation", .str "table", .str "operation", .str (("count " : Str) ++ t3), .str "operation", .str "operation", .str "operation", .str "operation"]]) ?_ rfl rfl (by rfl) (by rfl) ?_
  · exact (by kernel_rfl)
  refine w_tell (.str "table") ([lotL a7 b7 c7, .slt 0 [some (.int 2), some (.int 3), some (.int 2), some (.tup [.tup [.int 1, .int 2, .int 0], .tup [.int 0, .int 0, .int 1]]), some (.int 3)], .lst [.bl true, .bl true, .bl true], .lst [.bl true, .bl true, .bl true], .lst [.bl true, .bl true], .lst [], .lst [.int 0, .int 2], .lst [.int 1, .int 2, .int 0], .lst [.int 1, .int 2, .int 0], .lst [.ref 8], .lst [], .lst [.int 0, .int 0, .int 1], .lst [.int 0, .int 0, .int 1], .lst [.ref 8, .ref 12], .lst [.int 0], .slt 0 [some (.int 2), some (.int 3), some (.int 1), some (.tup [.tup [.int 1, .int 2], .tup [.int 2, .int 1]]), some (.int 2)], .lst [.bl true, .bl true], .lst [.bl true, .bl true], .lst [.bl true, .bl true], .lst [], .lst [.int 0], .lst [.int 1, .int 2], .lst [.int 1, .int 2], .lst [.ref 22], .lst [], .lst [.int 2, .int 1], .lst [.int 0, .int 0], .lst [], .dK [], .lst [.non, .int 1, .tup [.tup [.int 1, .int 2, .int 0], .tup [.int 0, .int 0, .int 1]], .str "table of 2 by 3 modulo 3", .ref 27, .ref 28], .slt 0 [some (.int 2), some (.int 5), some (.int 2), some (.tup [.tup [.int 1, .int 2, .int 0], .tup [.int 0, .int 0, .int 1]]), some (.int 3)], .lst [.bl true, .bl true, .bl true], .lst [.bl true, .bl true, .bl true], .lst [.bl true, .bl true], .lst [], .lst [.int 0, .int 2], .lst [.int 1, .int 2, .int 0], .lst [.int 1, .int 2, .int 0], .lst [.ref 37], .lst [], .lst [.int 0, .int 0, .int 1], .lst [.int 0, .int 0, .int 1], .lst [.ref 37, .ref 41], .lst [.int 0], .slt 0 [some (.int 3), some (.int 3), some (.int 1), some (.tup [.tup [.int 1, .int 0], .tup [.int 1, .int 0], .tup [.int 1, .int 0]]), some (.int 2)], .lst [.bl true, .bl true], .lst [.bl true, .bl true], .lst [.bl true, .bl true], .lst [.bl true, .bl true, .bl true], .lst [], .lst [.int 0], .lst [.int 1, .int 0], .lst [.int 1, .int 0], .lst [.ref 52], .lst [], .lst [.int 1, .int 0], .lst [.int 0, .int 0], .lst [.int 1, .int 0], .lst [.int 0, .int 0], .lst [.ref 30, .ref 15, .ref 44], .slt 0 [some (.int 3), some (.int 5), some (.int 1), some (.tup [.tup [.int 1], .tup [.int 0], .tup [.int 0]]), some (.int 1)], .lst [.bl true], .lst [.bl true], .lst [.bl true], .lst [.bl true, .bl true, .bl true], .lst [], .lst [.int 0], .lst [.int 1], .lst [.int 1], .lst [.ref 68], .lst [], .lst [.int 0], .lst [.int 0], .lst [.ref 15, .ref 1, .ref 60], .lst [.non, .str "1", .bl true, .tup [.int 1], .int 1000000000000000000000000000000000000000000000000000000000000], .lst [.int 1, .int 0, .int 0], .lst [.non, .tup [.int 1, .int 2], .tup [.int 1, .int 2, .int 3], .tup [.int 1, .int 0, .bl true], .ref 75, .str "120", .int 5, .tup [.int 0, .int 0, .int 0, .int 0]], .lst [.int 1, .int 0], .lst [.non, .tup [.int 1, .int 2, .int 0], .tup [.int 1, .int 3], .tup [.int 1, .bl true], .ref 77, .str "12", .int 5], .lst [.non, .int (-1), .int 3, .bl true, .str "0", .int 1000000000000000000000000000000000000000000000000000000000000], .lst [.str "table", .str "operation", .str "table", .str "operation", .str "table", .str "operation", .str (("count " : Str) ++ t3), .str "operation", .str "operation", .str "operation", .str "operation", .str "table"]]) ?_ rfl rfl (by rfl) (by rfl) ?_
  · revert x0 t0 h0; exact all1 (by kernel_rfl)
  refine w_tell (.str "operation") ([lotL a7 b7 c7, .slt 0 [some (.int 2), some (.int 3), some (.int 2), some (.tup [.tup [.int 1, .int 2, .int 0], .tup [.int 0, .int 0, .int 1]]), some (.int 3)], .lst [.bl true, .bl true, .bl true], .lst [.bl true, .bl true, .bl true], .lst [.bl true, .bl true], .lst [], .lst [.int 0, .int 2], .lst [.int 1, .int 2, .int 0], .lst [.int 1, .int 2, .int 0], .lst [.ref 8], .lst [], .lst [.int 0, .int 0, .int 1], .lst [.int 0, .int 0, .int 1], .lst [.ref 8, .ref 12], .lst [.int 0], .slt 0 [some (.int 2), some (.int 3), some (.int 1), some (.tup [.tup [.int 1, .int 2], .tup [.int 2, .int 1]]), some (.int 2)], .lst [.bl true, .bl true], .lst [.bl true, .bl true], .lst [.bl true, .bl true], .lst [], .lst [.int 0], .lst [.int 1, .int 2], .lst [.int 1, .int 2], .lst [.ref 22], .lst [], .lst [.int 2, .int 1], .lst [.int 0, .int 0], .lst [], .dK [], .lst [.non, .int 1, .tup [.tup [.int 1, .int 2, .int 0], .tup [.int 0, .int 0, .int 1]], .str "table of 2 by 3 modulo 3", .ref 27, .ref 28], .slt 0 [some (.int 2), some (.int 5), some (.int 2), some (.tup [.tup [.int 1, .int 2, .int 0], .tup [.int 0, .int 0, .int 1]]), some (.int 3)], .lst [.bl true, .bl true, .bl true], .lst [.bl true, .bl true, .bl true], .lst [.bl true, .bl true], .lst [], .lst [.int 0, .int 2], .lst [.int 1, .int 2, .int 0], .lst [.int 1, .int 2, .int 0], .lst [.ref 37], .lst [], .lst [.int 0, .int 0, .int 1], .lst [.int 0, .int 0, .int 1], .lst [.ref 37, .ref 41], .lst [.int 0], .slt 0 [some (.int 3), some (.int 3), some (.int 1), some (.tup [.tup [.int 1, .int 0], .tup [.int 1, .int 0], .tup [.int 1, .int 0]]), some (.int 2)], .lst [.bl true, .bl true], .lst [.bl true, .bl true], .lst [.bl true, .bl true], .lst [.bl true, .bl true, .bl true], .lst [], .lst [.int 0], .lst [.int 1, .int 0], .lst [.int 1, .int 0], .lst [.ref 52], .lst [], .lst [.int 1, .int 0], .lst [.int 0, .int 0], .lst [.int 1, .int 0], .lst [.int 0, .int 0], .lst [.ref 30, .ref 15, .ref 44], .slt 0 [some (.int 3), some (.int 5), some (.int 1), some (.tup [.tup [.int 1], .tup [.int 0], .tup [.int 0]]), some (.int 1)], .lst [.bl true], .lst [.bl true], .lst [.bl true], .lst [.bl true, .bl true, .bl true], .lst [], .lst [.int 0], .lst [.int 1], .lst [.int 1], .lst [.ref 68], .lst [], .lst [.int 0], .lst [.int 0], .lst [.ref 15, .ref 1, .ref 60], .lst [.non, .str "1", .bl true, .tup [.int 1], .int 1000000000000000000000000000000000000000000000000000000000000], .lst [.int 1, .int 0, .int 0], .lst [.non, .tup [.int 1, .int 2], .tup [.int 1, .int 2, .int 3], .tup [.int 1, .int 0, .bl true], .ref 75, .str "120", .int 5, .tup [.int 0, .int 0, .int 0, .int 0]], .lst [.int 1, .int 0], .lst [.non, .tup [.int 1, .int 2, .int 0], .tup [.int 1, .int 3], .tup [.int 1, .bl true], .ref 77, .str "12", .int 5], .lst [.non, .int (-1), .int 3, .bl true, .str "0", .int 1000000000000000000000000000000000000000000000000000000000000], .lst [.str "table", .str "operation", .str "table", .str "operation", .str "table", .str "operation", .str (("count " : Str) ++ t3), .str "operation", .str "operation", .str "operation", .str "operation", .str "table", .str "operation"]]) ?_ rfl rfl (by rfl) (by rfl) ?_
  · exact (by kernel_rfl)
  refine w_tell (.str "many 36") ([lotL a7 b7 c7, .slt 0 [some (.int 2), some (.int 3), some (.int 2), some (.tup [.tup [.int 1, .int 2, .int 0], .tup [.int 0, .int 0, .int 1]]), some (.int 3)], .lst [.bl true, .bl true, .bl true], .lst [.bl true, .bl true, .bl true], .lst [.bl true, .bl true], .lst [], .lst [.int 0, .int 2], .lst [.int 1, .int 2, .int 0], .lst [.int 1, .int 2, .int 0], .lst [.ref 8], .lst [], .lst [.int 0, .int 0, .int 1], .lst [.int 0, .int 0, .int 1], .lst [.ref 8, .ref 12], .lst [.int 0], .slt 0 [some (.int 2), some (.int 3), some (.int 1), some (.tup [.tup [.int 1, .int 2], .tup [.int 2, .int 1]]), some (.int 2)], .lst [.bl true, .bl true], .lst [.bl true, .bl true], .lst [.bl true, .bl true], .lst [], .lst [.int 0], .lst [.int 1, .int 2], .lst [.int 1, .int 2], .lst [.ref 22], .lst [], .lst [.int 2, .int 1], .lst [.int 0, .int 0], .lst [], .dK [], .lst [.non, .int 1, .tup [.tup [.int 1, .int 2, .int 0], .tup [.int 0, .int 0, .int 1]], .str "table of 2 by 3 modulo 3", .ref 27, .ref 28], .slt 0 [some (.int 2), some (.int 5), some (.int 2), some (.tup [.tup [.int 1, .int 2, .int 0], .tup [.int 0, .int 0, .int 1]]), some (.int 3)], .lst [.bl true, .bl true, .bl true], .lst [.bl true, .bl true, .bl true], .lst [.bl true, .bl true], .lst [], .lst [.int 0, .int 2], .lst [.int 1, .int 2, .int 0], .lst [.int 1, .int 2, .int 0], .lst [.ref 37], .lst [], .lst [.int 0, .int 0, .int 1], .lst [.int 0, .int 0, .int 1], .lst [.ref 37, .ref 41], .lst [.int 0], .slt 0 [some (.int 3), some (.int 3), some (.int 1), some (.tup [.tup [.int 1, .int 0], .tup [.int 1, .int 0], .tup [.int 1, .int 0]]), some (.int 2)], .lst [.bl true, .bl true], .lst [.bl true, .bl true], .lst [.bl true, .bl true], .lst [.bl true, .bl true, .bl true], .lst [], .lst [.int 0], .lst [.int 1, .int 0], .lst [.int 1, .int 0], .lst [.ref 52], .lst [], .lst [.int 1, .int 0], .lst [.int 0, .int 0], .lst [.int 1, .int 0], .lst [.int 0, .int 0], .lst [.ref 30, .ref 15, .ref 44], .slt 0 [some (.int 3), some (.int 5), some (.int 1), some (.tup [.tup [.int 1], .tup [.int 0], .tup [.int 0]]), some (.int 1)], .lst [.bl true], .lst [.bl true], .lst [.bl true], .lst [.bl true, .bl true, .bl true], .lst [], .lst [.int 0], .lst [.int 1], .lst [.int 1], .lst [.ref 68], .lst [], .lst [.int 0], .lst [.int 0], .lst [.ref 15, .ref 1, .ref 60], .lst [.non, .str "1", .bl true, .tup [.int 1], .int 1000000000000000000000000000000000000000000000000000000000000], .lst [.int 1, .int 0, .int 0], .lst [.non, .tup [.int 1, .int 2], .tup [.int 1, .int 2, .int 3], .tup [.int 1, .int 0, .bl true], .ref 75, .str "120", .int 5, .tup [.int 0, .int 0, .int 0, .int 0]], .lst [.int 1, .int 0], .lst [.non, .tup [.int 1, .int 2, .int 0], .tup [.int 1, .int 3], .tup [.int 1, .bl true], .ref 77, .str "12", .int 5], .lst [.non, .int (-1), .int 3, .bl true, .str "0", .int 1000000000000000000000000000000000000000000000000000000000000], .lst [.str "table", .str "operation", .str "table", .str "operation", .str "table", .str "operation", .str (("count " : Str) ++ t3), .str "operation", .str "operation", .str "operation", .str "operation", .str "table", .str "operation", .str "many 36"]]) ?_ rfl rfl (by rfl) (by rfl) ?_
  · exact (by kernel_rfl)
  refine w_tell (.str (("count " : Str) ++ t6)) ([lotL a7 b7 c7, .slt 0 [some (.int 2), some (.int 3), some (.int 2), some (.tup [.tup [.int 1, .int 2, .int 0], .tup [.int 0, .int 0, .int 1]]), some (.int 3)], .lst [.bl true, .bl true, .bl true], .lst [.bl true, .bl true, .bl true], .lst [.bl true, .bl true], .lst [], .lst [.int 0, .int 2], .lst [.int 1, .int 2, .int 0], .lst [.int 1, .int 2, .int 0], .lst [.ref 8], .lst [], .lst [.int 0, .int 0, .int 1], .lst [.int 0, .int 0, .int 1], .lst [.ref 8, .ref 12], .lst [.int 0], .slt 0 [some (.int 2), some (.int 3), some (.int 1), some (.tup [.tup [.int 1, .int 2], .tup [.int 2, .int 1]]), some (.int 2)], .lst [.bl true, .bl true], .lst [.bl true, .bl true], .lst [.bl true, .bl true], .lst [], .lst [.int 0], .lst [.int 1, .int 2], .lst [.int 1, .int 2], .lst [.ref 22], .lst [], .lst [.int 2, .int 1], .lst [.int 0, .int 0], .lst [], .dK [], .lst [.non, .int 1, .tup [.tup [.int 1, .int 2, .int 0], .tup [.int 0, .int 0, .int 1]], .str "table of 2 by 3 modulo 3", .ref 27, .ref 28], .slt 0 [some (.int 2), some (.int 5), some (.int 2), some (.tup [.tup [.int 1, .int 2, .int 0], .tup [.int 0, .int 0, .int 1]]), some (.int 3)], .lst [.bl true, .bl true, .bl true], .lst [.bl true, .bl true, .bl true], .lst [.bl true, .bl true], .lst [], .lst [.int 0, .int 2], .lst [.int 1, .int 2, .int 0], .lst [.int 1, .int 2, .int 0], .lst [.ref 37], .lst [], .lst [.int 0, .int 0, .int 1], .lst [.int 0, .int 0, .int 1], .lst [.ref 37, .ref 41], .lst [.int 0], .slt 0 [some (.int 3), some (.int 3), some (.int 1), some (.tup [.tup [.int 1, .int 0], .tup [.int 1, .int 0], .tup [.int 1, .int 0]]), some (.int 2)], .lst [.bl true, .bl true], .lst [.bl true, .bl true], .lst [.bl true, .bl true], .lst [.bl true, .bl true, .bl true], .lst [], .lst [.int 0], .lst [.int 1, .int 0], .lst [.int 1, .int 0], .lst [.ref 52], .lst [], .lst [.int 1, .int 0], .lst [.int 0, .int 0], .lst [.int 1, .int 0], .lst [.int 0, .int 0], .lst [.ref 30, .ref 15, .ref 44], .slt 0 [some (.int 3), some (.int 5), some (.int 1), some (.tup [.tup [.int 1], .tup [.int 0], .tup [.int 0]]), some (.int 1)], .lst [.bl true], .lst [.bl true], .lst [.bl true], .lst [.bl true, .bl true, .bl true], .lst [], .lst [.int 0], .lst [.int 1], .lst [.int 1], .lst [.ref 68], .lst [], .lst [.int 0], .lst [.int 0], .lst [.ref 15, .ref 1, .ref 60], .lst [.non, .str "1", .bl true, .tup [.int 1], .int 1000000000000000000000000000000000000000000000000000000000000], .lst [.int 1, .int 0, .int 0], .lst [.non, .tup [.int 1, .int 2], .tup [.int 1, .int 2, .int 3], .tup [.int 1, .int 0, .bl true], .ref 75, .str "120", .int 5, .tup [.int 0, .int 0, .int 0, .int 0]], .lst [.int 1, .int 0], .lst [.non, .tup [.int 1, .int 2, .int 0], .tup [.int 1, .int 3], .tup [.int 1, .bl true], .ref 77, .str "12", .int 5], .lst [.non, .int (-1), .int 3, .bl true, .str "0", .int 1000000000000000000000000000000000000000000000000000000000000], .lst [.str "table", .str "operation", .str "table", .str "operation", .str "table", .str "operation", .str (("count " : Str) ++ t3), .str "operation", .str "operation", .str "operation", .str "operation", .str "table", .str "operation", .str "many 36", .str (("count " : Str) ++ t6)]]) ?_ rfl rfl (by rfl) (by rfl) ?_
  · revert x6 t6 h6; exact all1 (by kernel_rfl)
  refine w_tell (.str (("count " : Str) ++ t6)) ([lotL a7 b7 c7, .slt 0 [some (.int 2), some (.int 3), some (.int 2), some (.tup [.tup [.int 1, .int 2, .int 0], .tup [.int 0, .int 0, .int 1]]), some (.int 3)], .lst [.bl true, .bl true, .bl true], .lst [.bl true, .bl true, .bl true], .lst [.bl true, .bl true], .lst [], .lst [.int 0, .int 2], .lst [.int 1, .int 2, .int 0], .lst [.int 1, .int 2, .int 0], .lst [.ref 8], .lst [], .lst [.int 0, .int 0, .int 1], .lst [.int 0, .int 0, .int 1], .lst [.ref 8, .ref 12], .lst [.int 0], .slt 0 [some (.int 2), some (.int 3), some (.int 1), some (.tup [.tup [.int 1, .int 2], .tup [.int 2, .int 1]]), some (.int 2)], .lst [.bl true, .bl true], .lst [.bl true, .bl true], .lst [.bl true, .bl true], .lst [], .lst [.int 0], .lst [.int 1, .int 2], .lst [.int 1, .int 2], .lst [.ref 22], .lst [], .lst [.int 2, .int 1], .lst [.int 0, .int 0], .lst [], .dK [], .lst [.non, .int 1, .tup [.tup [.int 1, .int 2, .int 0], .tup [.int 0, .int 0, .int 1]], .str "table of 2 by 3 modulo 3", .ref 27, .ref 28], .slt 0 [some (.int 2), some (.int 5), some (.int 2), some (.tup [.tup [.int 1, .int 2, .int 0], .tup [.int 0, .int 0, .int 1]]), some (.int 3)], .lst [.bl true, .bl true, .bl true], .lst [.bl true, .bl true, .bl true], .lst [.bl true, .bl true], .lst [], .lst [.int 0, .int 2], .lst [.int 1, .int 2, .int 0], .lst [.int 1, .int 2, .int 0], .lst [.ref 37], .lst [], .lst [.int 0, .int 0, .int 1], .lst [.int 0, .int 0, .int 1], .lst [.ref 37, .ref 41], .lst [.int 0], .slt 0 [some (.int 3), some (.int 3), some (.int 1), some (.tup [.tup [.int 1, .int 0], .tup [.int 1, .int 0], .tup [.int 1, .int 0]]), some (.int 2)], .lst [.bl true, .bl true], .lst [.bl true, .bl true], .lst [.bl true, .bl true], .lst [.bl true, .bl true, .bl true], .lst [], .lst [.int 0], .lst [.int 1, .int 0], .lst [.int 1, .int 0], .lst [.ref 52], .lst [], .lst [.int 1, .int 0], .lst [.int 0, .int 0], .lst [.int 1, .int 0], .lst [.int 0, .int 0], .lst [.ref 30, .ref 15, .ref 44], .slt 0 [some (.int 3), some (.int 5), some (.int 1), some (.tup [.tup [.int 1], .tup [.int 0], .tup [.int 0]]), some (.int 1)], .lst [.bl true], .lst [.bl true], .lst [.bl true], .lst [.bl true, .bl true, .bl true], .lst [], .lst [.int 0], .lst [.int 1], .lst [.int 1], .lst [.ref 68], .lst [], .lst [.int 0], .lst [.int 0], .lst [.ref 15, .ref 1, .ref 60], .lst [.non, .str "1", .bl true, .tup [.int 1], .int 1000000000000000000000000000000000000000000000000000000000000], .lst [.int 1, .int 0, .int 0], .lst [.non, .tup [.int 1, .int 2], .tup [.int 1, .int 2, .int 3], .tup [.int 1, .int 0, .bl true], .ref 75, .str "120", .int 5, .tup [.int 0, .int 0, .int 0, .int 0]], .lst [.int 1, .int 0], .lst [.non, .tup [.int 1, .int 2, .int 0], .tup [.int 1, .int 3], .tup [.int 1, .bl true], .ref 77, .str "12", .int 5], .lst [.non, .int (-1), .int 3, .bl true, .str "0", .int 1000000000000000000000000000000000000000000000000000000000000], .lst [.str "table", .str "operation", .str "table", .str "operation", .str "table", .str "operation", .str (("count " : Str) ++ t3), .str "operation", .str "operation", .str "operation", .str "operation", .str "table", .str "operation", .str "many 36", .str (("count " : Str) ++ t6), .str (("count " : Str) ++ t6)]]) ?_ rfl rfl (by rfl) (by rfl) ?_
  · revert x6 t6 h6; exact all1 (by kernel_rfl)
  refine w_det (e' := [some (.ref 0), some (.ref 1), some (.ref 15), some (x0), some (x1), some (x2), some (x3), some (x4), some (x5), some (x6), some (.ref 80), some (.ref 89)]) (S' := [lotL a7 b7 c7, .slt 0 [some (.int 2), some (.int 3), some (.int 2), some (.tup [.tup [.int 1, .int 2, .int 0], .tup [.int 0, .int 0, .int 1]]), some (.int 3)], .lst [.bl true, .bl true, .bl true], .lst [.bl true, .bl true, .bl true], .lst [.bl true, .bl true], .lst [], .lst [.int 0, .int 2], .lst [.int 1, .int 2, .int 0], .lst [.int 1, .int 2, .int 0], .lst [.ref 8], .lst [], .lst [.int 0, .int 0, .int 1], .lst [.int 0, .int 0, .int 1], .lst [.ref 8, .ref 12], .lst [.int 0], .slt 0 [some (.int 2), some (.int 3), some (.int 1), some (.tup [.tup [.int 1, .int 2], .tup [.int 2, .int 1]]), some (.int 2)], .lst [.bl true, .bl true], .lst [.bl true, .bl true], .lst [.bl true, .bl true], .lst [], .lst [.int 0], .lst [.int 1, .int 2], .lst [.int 1, .int 2], .lst [.ref 22], .lst [], .lst [.int 2, .int 1], .lst [.int 0, .int 0], .lst [], .dK [], .lst [.non, .int 1, .tup [.tup [.int 1, .int 2, .int 0], .tup [.int 0, .int 0, .int 1]], .str "table of 2 by 3 modulo 3", .ref 27, .ref 28], .slt 0 [some (.int 2), some (.int 5), some (.int 2), some (.tup [.tup [.int 1, .int 2, .int 0], .tup [.int 0, .int 0, .int 1]]), some (.int 3)], .lst [.bl true, .bl true, .bl true], .lst [.bl true, .bl true, .bl true], .lst [.bl true, .bl true], .lst [], .lst [.int 0, .int 2], .lst [.int 1, .int 2, .int 0], .lst [.int 1, .int 2, .int 0], .lst [.ref 37], .lst [], .lst [.int 0, .int 0, .int 1], .lst [.int 0, .int 0, .int 1], .lst [.ref 37, .ref 41], .lst [.int 0], .slt 0 [some (.int 3), some (.int 3), some (.int 1), some (.tup [.tup [.int 1, .int 0], .tup [.int 1, .int 0], .tup [.int 1, .int 0]]), some (.int 2)], .lst [.bl true, .bl true], .lst [.bl true, .bl true], .lst [.bl true, .bl true], .lst [.bl true, .bl true, .bl true], .lst [], .lst [.int 0], .lst [.int 1, .int 0], .lst [.int 1, .int 0], .lst [.ref 52], .lst [], .lst [.int 1, .int 0], .lst [.int 0, .int 0], .lst [.int 1, .int 0], .lst [.int 0, .int 0], .lst [.ref 30, .ref 15, .ref 44], .slt 0 [some (.int 3), some (.int 5), some (.int 1), some (.tup [.tup [.int 1], .tup [.int 0], .tup [.int 0]]), some (.int 1)], .lst [.bl true], .lst [.bl true], .lst [.bl true], .lst [.bl true, .bl true, .bl true], .lst [], .lst [.int 0], .lst [.int 1], .lst [.int 1], .lst [.ref 68], .lst [], .lst [.int 0], .lst [.int 0], .lst [.ref 15, .ref 1, .ref 60], .lst [.non, .str "1", .bl true, .tup [.int 1], .int 1000000000000000000000000000000000000000000000000000000000000], .lst [.int 1, .int 0, .int 0], .lst [.non, .tup [.int 1, .int 2], .tup [.int 1, .int 2, .int 3], .tup [.int 1, .int 0, .bl true], .ref 75, .str "120", .int 5, .tup [.int 0, .int 0, .int 0, .int 0]], .lst [.int 1, .int 0], .lst [.non, .tup [.int 1, .int 2, .int 0], .tup [.int 1, .int 3], .tup [.int 1, .bl true], .ref 77, .str "12", .int 5], .lst [.non, .int (-1), .int 3, .bl true, .str "0", .int 1000000000000000000000000000000000000000000000000000000000000], .lst [.str "table", .str "operation", .str "table", .str "operation", .str "table", .str "operation", .str (("count " : Str) ++ t3), .str "operation", .str "operation", .str "operation", .str "operation", .str "table", .str "operation", .str "many 36", .str (("count " : Str) ++ t6), .str (("count " : Str) ++ t6)], .lst [.str "table", .str "operation"], .lst [.str "table", .str "operation", .str "table", .str "operation", .str "table", .str "operation"], .lst [.str (("count " : Str) ++ t3)], .lst [.str "table", .str "operation", .str "table", .str "operation", .str "table", .str "operation", .str (("count " : Str) ++ t3)], .lst [.str "operation"], .lst [.str "operation", .str "operation", .str "operation", .str "operation"], .lst [.str "table", .str "operation", .str "table", .str "operation", .str "table", .str "operation", .str (("count " : Str) ++ t3), .str "operation", .str "operation", .str "operation", .str "operation"], .lst [.str "table", .str "operation", .str "many 36"], .lst [.str "table", .str "operation", .str "table", .str "operation", .str "table", .str "operation", .str (("count " : Str) ++ t3), .str "operation", .str "operation", .str "operation", .str "operation", .str "table", .str "operation", .str "many 36"]]) ?_ ?_
  · revert x3 t3 h3; exact all1 (by kernel_rfl)
  refine w_ret (.bl true) ?_ ?_
  · revert x3 t3 h3; revert x6 t6 h6; exact all2 (by kernel_rfl)
  exact ⟨rfl, a7, b7, c7, _, rfl, hb7⟩
end Zk18

namespace Zk18
open PySem PySem.Spec Z
theorem nd1 (r : Nat) : [r].Nodup := List.nodup_cons.mpr ⟨List.not_mem_nil, List.nodup_nil⟩
def psA : List (D × Str) := [(.non, "None"), (.int 0, "0"), (.int 1, "1"), (.int 4, "4"), (.int 11, "11"), (.int (-2), "-2"), (.bl true, "True"), (.str "2", "'2'"), (.tup [.int 2], "(2,)"), (.int 1000000000000000000000000000000000000000000000000000000000000, "1000000000000000000000000000000000000000000000000000000000000")]
def psB : List (D × Str) := [(.non, "None"), (.int (-1), "-1"), (.int 37, "37"), (.bl true, "True"), (.str "2", "'2'"), (.tup [.int 2], "(2,)"), (.int 1000000000000000000000000000000000000000000000000000000000000, "1000000000000000000000000000000000000000000000000000000000000")]
def dA : DA := (dCons (dC .non) (dCons (dC (.int 0)) (dCons (dC (.int 1)) (dCons (dC (.int 4)) (dCons (dC (.int 11)) (dCons (dUn oNeg (dC (.int 2))) (dCons (dC (.bl true)) (dCons (dC (.str "2")) (dCons (dTup (dCons (dC (.int 2)) dNil)) (dCons (dBin oPowI (dC (.int 10)) (dC (.int 60))) dNil))))))))))
def dB : DA := (dCons (dC .non) (dCons (dUn oNeg (dC (.int 1))) (dCons (dC (.int 37)) (dCons (dC (.bl true)) (dCons (dC (.str "2")) (dCons (dTup (dCons (dC (.int 2)) dNil)) (dCons (dBin oPowI (dC (.int 10)) (dC (.int 60))) dNil)))))))
theorem eA (env : En) (S : Store) : dA env S = .ok (psA.map (·.1)) S := by kernel_rfl
theorem eB (env : En) (S : Store) : dB env S = .ok (psB.map (·.1)) S := by kernel_rfl
theorem mA (S : Store) : mkL (psA.map (·.1)) S = .ok (.ref S.length) (S ++ [.lst (psA.map (·.1))]) := by unfold mkL; rw [if_pos (by decide)]
theorem mB (S : Store) : mkL (psB.map (·.1)) S = .ok (.ref S.length) (S ++ [.lst (psB.map (·.1))]) := by unfold mkL; rw [if_pos (by decide)]
noncomputable def lawF : DS := (sSeq (sAsg (dCall f__law_lot (dCons (dVar 0) (dCons (dVar 1) dNil))) (gNm 2)) (sSeq (sAsg (dCall f__law_one_of (dCons (dVar 2) (dCons (dLst dA) dNil))) (gNm 3)) (sSeq (sAsg (dCall f__law_one_of (dCons (dVar 2) (dCons (dLst dB) dNil))) (gNm 4)) (sIf (tOr2 (tNot1 (dTst (dCallL2 f__law_made_right (dCons (dVar 2) (dCons (dVar 3) (dCons (dVar 4) dNil)))))) (tOr2 (tNot1 (dTst (dCallL2 f__law_listed_right (dCons (dVar 2) (dCons (dVar 3) (dCons (dVar 4) dNil)))))) (tNot1 (dTst (dCallL2 f__law_used_right (dCons (dVar 2) dNil)))))) (sRet (dC (.bl false))) sNext))))
theorem law_is : b_law = (sSeq (sFor (iRng1 (dCons (dCallB (b2 fMax2) (dCons (dC (.int 1)) (dCons (dCallB (b2 fMin2) (dCons (dC (.int 4)) (dCons (dCallB (b1 fLen) (dCons (dVar 0) dNil)) dNil))) dNil))) dNil)) (gNm 1) lawF) (sIso [] tail_law)) := rfl
def tailS : Store := match tail_law (List.replicate 8 none) [] with | .ok _ T => T | _ => []
theorem tail_ok : tail_law (List.replicate 8 none) [] = .ok (.rt (.bl true)) tailS := by kernel_rfl
theorem plain (ns : List Int) (hns : ns.length ≤ 63) (S0 : Store) (x : D) (hx : Scr S0 x ns) : ∃ S', f_law [x] S0 = .ok (.bl true) S' := by
  have w : WP (f_law [x] S0) fun d _ => d = .bl true := by
    unfold f_law
    rw [mkFn_wp, law_is]
    unfold n_law
    simp only [List.map_cons, List.map_nil, List.length_cons, List.length_nil, List.cons_append, List.nil_append, List.replicate]
    rw [q_seq, WP_bind, q_for, WP_bind]
    refine wp_turns (most := 4) hx rfl (by decide) (by decide) fun c hc => ?_
    refine wp_for c (fun k env S' => ∃ x1 x2 x3 x4, env = [some x, x1, x2, x3, x4, none, none, none] ∧ Scr S' x ns) (by omega) ⟨none, none, none, none, rfl, hx⟩ (fun k env S1 hk ⟨x1, x2, x3, x4, he, hs⟩ => ⟨_, jR_at hk, ?_⟩) fun env S1 ⟨x1, x2, x3, x4, he, hs⟩ => ⟨jR_end, ?_⟩
    · rw [he]
      unfold lawF
      simp only [List.map_cons, List.map_nil, List.length_cons, List.length_nil, List.cons_append, List.nil_append, List.replicate, List.getElem?_cons_zero, List.getElem?_cons_succ, List.set_cons_succ, List.set_cons_zero, WP_bind, WP_ok, WP_cut, q_var, q_c, q_bin, q_un, q_ofO, q_chain, q_tst, q_tstB, q_and2, q_or2, q_not1, q_andV, q_orV, q_notV, q_if, q_nil, q_cons, q_tup, q_lst, q_next, q_seq, q_expr, q_ret, q_retN, q_brk, q_cnt, q_sif, q_gnm, q_gtup, q_gcons, q_gnil, q_asg, q_call, q_callB, q_seqi, q_for, q_while, o_add, o_addI, o_sub, o_lt, o_le, o_gt, o_ge, o_neg, o_ixR, o_ixT, o_ixF, itemsT, itemsF, seqT, seqF, q_b1, q_b2, f_intI, f_intB, f_abs, f_max, f_min, f_lenT, f_lenF, f_list, f_tuple, q_gsb, ofB_bl, q_sl, q_pno, q_pat, q_lrg, q_meth, q_fld, q_rng1, Option.bind_some, Option.map_some, ofS_some, if_true, if_false, Bool.false_eq_true, decide_true, decide_false, ix0, ix1, ix2, wipe_nil, wipe_cons, q_yes, q_rng2]
      refine w_lot hs (by omega) fun r S2 L2 s2 hr => ?_
      have hr2 := (List.getElem?_eq_some_iff.mp L2.choose_spec.choose_spec.choose_spec.1).1
      simp only [List.map_cons, List.map_nil, List.length_cons, List.length_nil, List.cons_append, List.nil_append, List.replicate, List.getElem?_cons_zero, List.getElem?_cons_succ, List.set_cons_succ, List.set_cons_zero, WP_bind, WP_ok, WP_cut, q_var, q_c, q_bin, q_un, q_ofO, q_chain, q_tst, q_tstB, q_and2, q_or2, q_not1, q_andV, q_orV, q_notV, q_if, q_nil, q_cons, q_tup, q_lst, q_next, q_seq, q_expr, q_ret, q_retN, q_brk, q_cnt, q_sif, q_gnm, q_gtup, q_gcons, q_gnil, q_asg, q_call, q_callB, q_seqi, q_for, q_while, o_add, o_addI, o_sub, o_lt, o_le, o_gt, o_ge, o_neg, o_ixR, o_ixT, o_ixF, itemsT, itemsF, seqT, seqF, q_b1, q_b2, f_intI, f_intB, f_abs, f_max, f_min, f_lenT, f_lenF, f_list, f_tuple, q_gsb, ofB_bl, q_sl, q_pno, q_pat, q_lrg, q_meth, q_fld, q_rng1, Option.bind_some, Option.map_some, ofS_some, if_true, if_false, Bool.false_eq_true, decide_true, decide_false, ix0, ix1, ix2, wipe_nil, wipe_cons, q_yes, q_rng2, eA, mA]
      refine w_one_of (ds := psA.map (·.1)) (L2.sub (Sub.push _ _)) push_at (by decide) (by decide) (by omega) (by decide) fun k1 y1 S3 hy1 L3 k3 e3 => ?_
      obtain ⟨t1, m1⟩ := drawn_mem hy1
      simp only [List.map_cons, List.map_nil, List.length_cons, List.length_nil, List.cons_append, List.nil_append, List.replicate, List.getElem?_cons_zero, List.getElem?_cons_succ, List.set_cons_succ, List.set_cons_zero, WP_bind, WP_ok, WP_cut, q_var, q_c, q_bin, q_un, q_ofO, q_chain, q_tst, q_tstB, q_and2, q_or2, q_not1, q_andV, q_orV, q_notV, q_if, q_nil, q_cons, q_tup, q_lst, q_next, q_seq, q_expr, q_ret, q_retN, q_brk, q_cnt, q_sif, q_gnm, q_gtup, q_gcons, q_gnil, q_asg, q_call, q_callB, q_seqi, q_for, q_while, o_add, o_addI, o_sub, o_lt, o_le, o_gt, o_ge, o_neg, o_ixR, o_ixT, o_ixF, itemsT, itemsF, seqT, seqF, q_b1, q_b2, f_intI, f_intB, f_abs, f_max, f_min, f_lenT, f_lenF, f_list, f_tuple, q_gsb, ofB_bl, q_sl, q_pno, q_pat, q_lrg, q_meth, q_fld, q_rng1, Option.bind_some, Option.map_some, ofS_some, if_true, if_false, Bool.false_eq_true, decide_true, decide_false, ix0, ix1, ix2, wipe_nil, wipe_cons, q_yes, q_rng2, eB, mB]
      refine w_one_of (ds := psB.map (·.1)) (L3.sub (Sub.push _ _)) push_at (by decide) (by decide) (by rw [← e3, List.length_append]; omega) (by decide) fun k2 y2 S4 hy2 L4 k4 e4 => ?_
      obtain ⟨t2, m2⟩ := drawn_mem hy2
      have p1 := pure_drawn (ps := psA) (by decide) m1
      have p2 := pure_drawn (ps := psB) (by decide) m2
      have pp : ∀ (S : Store), packO [y1, y2] S 1 = some ([y1, y2], [], []) := fun S => pack_pure (by intro d hd; rcases List.mem_cons.mp hd with rfl | hd; exact p1; rw [List.mem_singleton.mp hd]; exact p2)
      simp only [List.map_cons, List.map_nil, List.length_cons, List.length_nil, List.cons_append, List.nil_append, List.replicate, List.getElem?_cons_zero, List.getElem?_cons_succ, List.set_cons_succ, List.set_cons_zero, WP_bind, WP_ok, WP_cut, q_var, q_c, q_bin, q_un, q_ofO, q_chain, q_tst, q_tstB, q_and2, q_or2, q_not1, q_andV, q_orV, q_notV, q_if, q_nil, q_cons, q_tup, q_lst, q_next, q_seq, q_expr, q_ret, q_retN, q_brk, q_cnt, q_sif, q_gnm, q_gtup, q_gcons, q_gnil, q_asg, q_call, q_callB, q_seqi, q_for, q_while, o_add, o_addI, o_sub, o_lt, o_le, o_gt, o_ge, o_neg, o_ixR, o_ixT, o_ixF, itemsT, itemsF, seqT, seqF, q_b1, q_b2, f_intI, f_intB, f_abs, f_max, f_min, f_lenT, f_lenF, f_list, f_tuple, q_gsb, ofB_bl, q_sl, q_pno, q_pat, q_lrg, q_meth, q_fld, q_rng1, Option.bind_some, Option.map_some, ofS_some, if_true, if_false, Bool.false_eq_true, decide_true, decide_false, ix0, ix1, ix2, wipe_nil, wipe_cons, q_yes, q_rng2, q_callL2]
      refine w_callL2 (r__law_made_right _ _ m1 _ _ m2) (pp _) (nd1 r) L4 (by decide) fun S5 L5 k5 e5 => ?_
      simp only [List.map_cons, List.map_nil, List.length_cons, List.length_nil, List.cons_append, List.nil_append, List.replicate, List.getElem?_cons_zero, List.getElem?_cons_succ, List.set_cons_succ, List.set_cons_zero, WP_bind, WP_ok, WP_cut, q_var, q_c, q_bin, q_un, q_ofO, q_chain, q_tst, q_tstB, q_and2, q_or2, q_not1, q_andV, q_orV, q_notV, q_if, q_nil, q_cons, q_tup, q_lst, q_next, q_seq, q_expr, q_ret, q_retN, q_brk, q_cnt, q_sif, q_gnm, q_gtup, q_gcons, q_gnil, q_asg, q_call, q_callB, q_seqi, q_for, q_while, o_add, o_addI, o_sub, o_lt, o_le, o_gt, o_ge, o_neg, o_ixR, o_ixT, o_ixF, itemsT, itemsF, seqT, seqF, q_b1, q_b2, f_intI, f_intB, f_abs, f_max, f_min, f_lenT, f_lenF, f_list, f_tuple, q_gsb, ofB_bl, q_sl, q_pno, q_pat, q_lrg, q_meth, q_fld, q_rng1, Option.bind_some, Option.map_some, ofS_some, if_true, if_false, Bool.false_eq_true, decide_true, decide_false, ix0, ix1, ix2, wipe_nil, wipe_cons, q_yes, q_rng2, q_callL2, Bool.not_true]
      refine w_callL2 (r__law_listed_right _ _ m1 _ _ m2) (pp _) (nd1 r) L5 (by decide) fun S6 L6 k6 e6 => ?_
      simp only [List.map_cons, List.map_nil, List.length_cons, List.length_nil, List.cons_append, List.nil_append, List.replicate, List.getElem?_cons_zero, List.getElem?_cons_succ, List.set_cons_succ, List.set_cons_zero, WP_bind, WP_ok, WP_cut, q_var, q_c, q_bin, q_un, q_ofO, q_chain, q_tst, q_tstB, q_and2, q_or2, q_not1, q_andV, q_orV, q_notV, q_if, q_nil, q_cons, q_tup, q_lst, q_next, q_seq, q_expr, q_ret, q_retN, q_brk, q_cnt, q_sif, q_gnm, q_gtup, q_gcons, q_gnil, q_asg, q_call, q_callB, q_seqi, q_for, q_while, o_add, o_addI, o_sub, o_lt, o_le, o_gt, o_ge, o_neg, o_ixR, o_ixT, o_ixF, itemsT, itemsF, seqT, seqF, q_b1, q_b2, f_intI, f_intB, f_abs, f_max, f_min, f_lenT, f_lenF, f_list, f_tuple, q_gsb, ofB_bl, q_sl, q_pno, q_pat, q_lrg, q_meth, q_fld, q_rng1, Option.bind_some, Option.map_some, ofS_some, if_true, if_false, Bool.false_eq_true, decide_true, decide_false, ix0, ix1, ix2, wipe_nil, wipe_cons, q_yes, q_rng2, q_callL2, Bool.not_true]
      refine w_callL2 r__law_used_right rfl (nd1 r) L6 (by decide) fun S7 L7 k7 e7 => ?_
      simp only [List.map_cons, List.map_nil, List.length_cons, List.length_nil, List.cons_append, List.nil_append, List.replicate, List.getElem?_cons_zero, List.getElem?_cons_succ, List.set_cons_succ, List.set_cons_zero, WP_bind, WP_ok, WP_cut, q_var, q_c, q_bin, q_un, q_ofO, q_chain, q_tst, q_tstB, q_and2, q_or2, q_not1, q_andV, q_orV, q_notV, q_if, q_nil, q_cons, q_tup, q_lst, q_next, q_seq, q_expr, q_ret, q_retN, q_brk, q_cnt, q_sif, q_gnm, q_gtup, q_gcons, q_gnil, q_asg, q_call, q_callB, q_seqi, q_for, q_while, o_add, o_addI, o_sub, o_lt, o_le, o_gt, o_ge, o_neg, o_ixR, o_ixT, o_ixF, itemsT, itemsF, seqT, seqF, q_b1, q_b2, f_intI, f_intB, f_abs, f_max, f_min, f_lenT, f_lenF, f_list, f_tuple, q_gsb, ofB_bl, q_sl, q_pno, q_pat, q_lrg, q_meth, q_fld, q_rng1, Option.bind_some, Option.map_some, ofS_some, if_true, if_false, Bool.false_eq_true, decide_true, decide_false, ix0, ix1, ix2, wipe_nil, wipe_cons, q_yes, q_rng2, Bool.not_true]
      exact ⟨_, _, _, _, rfl, hs.past s2 hr (((Sub.push _ _).kp.trans k3).trans (((Sub.push _ _).kp.trans k4).trans (k5.trans (k6.trans k7))))⟩
    · rw [he]
      exact w_iso (v := .bl true) rfl rfl (by decide) tail_ok rfl rfl (WP_ok.mpr rfl)
  obtain ⟨d, S, e, rfl⟩ := w
  exact ⟨S, e⟩
end Zk18

namespace Zk18
open PySem PySem.Spec PyProof.Rows L2 He Z
theorem run1 (w : World) : (HandSHeadRun.wholeF (fun p => HandSHeadRun.stepQ (HandSHeadRun.denQ HandSHeadRun.tabQ) p w) HandSHeadRun.fenceQ 20000 R.prog).map (fun x => (HandSHeadRun.looksF R.prog x.1.heap x.2.abs, HandSHeadRun.seenQ (PySem.W.view R.prog [0, 95]) names (importedModules R.prog.main.body) (fun s => PySem.W.xlAt (PySem.W.view R.prog [0, 95]) [] s && PySem.W.recOk R.records s) x.2.abs)) = some (true, PySem.W.openGood (PySem.W.view R.prog [0, 95]) names) := by
  kernel_rfl
theorem run2 (w : World) : (HandSHeadRun.wholeF (fun p => HandSHeadRun.stepQ (HandSHeadRun.denQ HandSHeadRun.tabQ) p w) HandSHeadRun.fenceQ 20000 R.prog).map (fun x => obA 1200 (cs.take 80) (HandSHeadRun.getT x.2)) = some true := by kernel_rfl
theorem run3 (w : World) : (HandSHeadRun.wholeF (fun p => HandSHeadRun.stepQ (HandSHeadRun.denQ HandSHeadRun.tabQ) p w) HandSHeadRun.fenceQ 20000 R.prog).map (fun x => obA 1200 (cs.drop 80) (HandSHeadRun.getT x.2)) = some true := by kernel_rfl
theorem run4 (w : World) : (HandSHeadRun.wholeF (fun p => HandSHeadRun.stepQ (HandSHeadRun.denQ HandSHeadRun.tabQ) p w) HandSHeadRun.fenceQ 20000 R.prog).map (fun x => obF 1200 fn (HandSHeadRun.getT x.2)) = some true := by kernel_rfl
theorem run5 (w : World) : (HandSHeadRun.wholeF (fun p => HandSHeadRun.stepQ (HandSHeadRun.denQ HandSHeadRun.tabQ) p w) HandSHeadRun.fenceQ 20000 R.prog).map (fun x => (obV 1200 fn (HandSHeadRun.getT x.2), obT 1200 (tf.map (·.1)) (HandSHeadRun.getT x.2))) = some (fn.map Df.val, true) := by kernel_rfl
theorem run (w : World) : HandSHeadRun.RunEqI R (PySem.W.view R.prog [0, 95]) hk ob 20000 names w := by
  unfold HandSHeadRun.RunEqI
  have h1 := run1 w
  have h2 := run2 w
  have h3 := run3 w
  have h4 := run4 w
  have h5 := run5 w
  revert h1 h2 h3 h4 h5
  generalize (HandSHeadRun.wholeF (fun p => HandSHeadRun.stepQ (HandSHeadRun.denQ HandSHeadRun.tabQ) p w) HandSHeadRun.fenceQ 20000 R.prog) = o
  intro h1 h2 h3 h4 h5
  exact run_split (fun x : Shared × PySem.W.SharedT => HandSHeadRun.getT x.2) 1200 cs fn (tf.map (·.1)) 80 h1 h2 h3 h4 h5
end Zk18
open PySem PySem.W PySem.Calls PyProof.Rows
theorem PySem.Challenge.cw_arrowsizes_k18_errors_of_tables_holds : PySem.Challenge.rw_arrowsizes_k18_errors_of_tables.Holds := by
  w_on; o_law
  refine HandSHeadRun.head_imp (r := OpenLaw.row PySem.Challenge.rw_arrowsizes_k18_errors_of_tables) (q := view (OpenLaw.row PySem.Challenge.rw_arrowsizes_k18_errors_of_tables).prog [0, 95]) (H := Zk18.hk) (ob := Zk18.ob) (M := 20000) (loose := Zk18.names) (d := HandSHeadRun.topDef (OpenLaw.row PySem.Challenge.rw_arrowsizes_k18_errors_of_tables).prog 95) (kwd := []) Zk18.ob_eq
    Zk18.run (by kernel_rfl) (by kernel_rfl) (by kernel_rfl) (by rfl) (by first | assumption | decide +kernel) (by decide +kernel) ⟨rfl, rfl, rfl, rfl, rfl, by decide +kernel⟩ ?hw ?hc
  case hw => w_witness2
  case hc =>
    refine Z.walk_ZG (l := PySem.Challenge.rw_arrowsizes_k18_errors_of_tables) (n := 63) (k := 15) (x := "_law_script") rfl (by decide) (by kernel_rfl) ⟨rfl, by decide, by decide⟩ ?F
    intro w mg fa h Y G hmg0
    obtain ⟨K, KX, c⟩ := Y
    have hmg : mg ("law" : PySem.Str) = some (.ref fa) := by
      have e : (HandSHeadRun.topDef (OpenLaw.row PySem.Challenge.rw_arrowsizes_k18_errors_of_tables).prog 95).name = ("law" : PySem.Str) := by kernel_rfl
      rw [← e]
      exact hmg0
    exact ⟨K, KX, Zk18.facts Zk18.plain KX G hmg c⟩
