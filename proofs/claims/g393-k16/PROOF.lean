import PyProof.Rows.All
import Wide.All
import OpenK.AllK
import Wide.FinOn
import HandS.ForMost
import HandS.Exc
import HandS.ExcOwn
import HandS.TryMany
import HandS.CallSlots
import HandS.Wide
import HandS.Deep
import HandS.TupAny
import HandS.Defaults
import HandS.WordsExc
import HandS.Flow
import HandS.TryOnly
import HandS.Style
import HandS.Zip
import HandS.IsInst
import HandS.WideMore
import HandS.SortInts
import HandS.Gcd
import HandS.More
import HandS.Lambda
import HandS.EndTab
import HandS.HeadWalk
import HandS.Slots
import HandS.SlotsOwn
import HandS.ClsMeth
import HandS.FStr
import HandS.Star
import HandS.Dict
import HandS.TupMul
import KE.GoesZip
import KE.GoesEnum
import HandS.Conv
import KE.KStateDown
import HandS.Ends
import HandS.Words
import HandS.Head0
import HandS.Head1
import HandS.Head2
import HandS.Head3
import HandS.HeadEnd
import HandS.HeadHook1
import HandS.HeadHook2
import HandS.HeadHook3
import HandS.HeadHook4
import HandS.EndBits
import KE.KFmtOwn
import PyProof.InstNe
import KE.KCallOwn
import KE.KRevSl
import HandS.Iter
import HandS.RaiseMore
import HandS.OwnEq
import HandS.SetFor
import PySem.Challenge.RW_arrowsizes_k16_whole_numbers_of_tables_o
set_option Elab.async false
set_option linter.all false
set_option maxRecDepth 100000
set_option maxHeartbeats 4000000
/-! Z1: values as data, a store of changing objects, what a piece of code does as a function of both; how such a function is a reading of the hand layer. -/
namespace Z
open PySem PySem.Spec PyProof.Rows L2

/-! ### data -/
inductive D where
  | non | bl (b : Bool) | int (i : Int) | str (s : Str) | tup (ds : List D) | ref (i : Nat) | st (k : Nat) | ty (n : String) | fls (ds : List D)

inductive O where
  | lst (ds : List D)
  | dK (kvs : List (Key × D))
  | dT (kvs : List (List Key × D))
  | ins (c : Nat) (fs : List (Str × D))
  | slt (c : Nat) (vs : List (Option D))

abbrev Store := List O
abbrev St := L2.St
abbrev En := List (Option D)

structure Exn where
  cls : Nat
  fs : Option (List (Str × D))

inductive Res (α : Type) where
  | ok (a : α) (S : Store)
  | er (x : Exn) (S : Store)
  | bad

def Res.bind {α β : Type} (r : Res α) (f : α → Store → Res β) : Res β :=
  match r with
  | .ok a S => f a S
  | .er x S => .er x S
  | .bad => .bad

@[simp] theorem Res.bind_ok {α β : Type} (a : α) (S : Store) (f : α → Store → Res β) : (Res.ok a S).bind f = f a S := rfl
@[simp] theorem Res.bind_er {α β : Type} (x : Exn) (S : Store) (f : α → Store → Res β) : (Res.er x S : Res α).bind f = .er x S := rfl
@[simp] theorem Res.bind_bad {α β : Type} (f : α → Store → Res β) : (Res.bad : Res α).bind f = .bad := rfl

abbrev DE := En → Store → Res D
abbrev DT := En → Store → Res Bool
abbrev DA := En → Store → Res (List D)
inductive Fl where
  | nx (e : En) | rt (d : D) | bk (e : En) | ct (e : En)
abbrev DS := En → Store → Res Fl
abbrev Fn := List D → Store → Res D

/-! ### the ground -/
structure Glo where
  P : Program
  w : World
  K : PySem.W.Frag
  mg : Str → Option Value
  base : Heap
  ad : Nat → Addr
  T : List (Addr × Str)

/-- a list that never changes -/
def FzL (K : PySem.W.Frag) (H : Hp) (a : Addr) (xs : List V) : Prop :=
  (∃ o, H a = some (.frz o (.lst xs))) ∨
    ∃ (o : Obj) (its : Array Value) (n : Nat), K.lookup a = some o ∧ o.cls = .type "list" ∧ o.dict = none ∧ o.data = .seq its n ∧ its.size ≤ sizeLine ∧ Vals xs its.toList
theorem FzL.sq {K : PySem.W.Frag} {H : Hp} {a : Addr} {xs : List V} (h : FzL K H a xs) : SqL K H a xs := by
  rcases h with ⟨o, h⟩ | h
  · exact .inl (.inr ⟨o, h⟩)
  · exact .inr h

mutual
def VRel (G : Glo) (φ : List Addr) (H : Hp) : D → V → Prop
  | .non, v => v = .non
  | .bl b, v => v = .bl b
  | .int i, v => v = .int i
  | .str s, v => v = .str s
  | .tup ds, v => ∃ a vs, v = .ref a ∧ SqT G.K H a vs ∧ VRels G φ H ds vs
  | .ref i, v => ∃ a, v = .ref a ∧ φ[i]? = some a
  | .st k, v => v = .ref (G.ad k)
  | .ty n, v => v = .ty n
  | .fls ds, v => ∃ a vs, v = .ref a ∧ FzL G.K H a vs ∧ VRels G φ H ds vs
def VRels (G : Glo) (φ : List Addr) (H : Hp) : List D → List V → Prop
  | [], vs => vs = []
  | d :: ds, vs => ∃ u us, vs = u :: us ∧ VRel G φ H d u ∧ VRels G φ H ds us
end

/-- what never goes -/
structure Grow (H H' : Hp) : Prop where
  tup : ∀ a xs, H a = some (.tup xs) → H' a = some (.tup xs)
  frz : ∀ a o u, H a = some (.frz o u) → H' a = some (.frz o u)
  xds : ∀ a fs, H a = some (.xd fs) → H' a = some (.xd fs)
  owns : ∀ a b, H a = some (.own b) → H' a = some (.own b) ∨ H' a = some (.xd [])
theorem Grow.refl (H : Hp) : Grow H H := ⟨fun _ _ h => h, fun _ _ _ h => h, fun _ _ h => h, fun _ _ h => .inl h⟩
theorem Grow.trans {H H1 H2 : Hp} (a : Grow H H1) (b : Grow H1 H2) : Grow H H2 := ⟨fun c xs h => b.tup c xs (a.tup c xs h), fun c o u h => b.frz c o u (a.frz c o u h), fun c fs h => b.xds c fs (a.xds c fs h), fun c d h => (a.owns c d h).elim (fun z => b.owns c d z) fun z => .inr (b.xds c _ z)⟩
theorem Grow.new {H : Hp} {p : Addr} {o : HO} (h : H p = none) : Grow H (upd H p o) :=
  ⟨fun a xs e => by rw [upd_ne (ne_of_none e h)]; exact e, fun a o u e => by rw [upd_ne (ne_of_none e h)]; exact e, fun a fs e => by rw [upd_ne (ne_of_none e h)]; exact e, fun a b e => .inl (by rw [upd_ne (ne_of_none e h)]; exact e)⟩
theorem Grow.mut {H : Hp} {p : Addr} {o o' : HO} (h : H p = some o) (m : Mut (some o)) : Grow H (upd H p o') :=
  ⟨fun a xs e => by rw [upd_ne (fun z => by subst z; rw [h] at e; cases e; exact m)]; exact e, fun a ob u e => by rw [upd_ne (fun z => by subst z; rw [h] at e; cases e; exact m)]; exact e,
    fun a fs e => by rw [upd_ne (fun z => by subst z; rw [h] at e; cases e; exact m)]; exact e, fun a b e => .inl (by rw [upd_ne (fun z => by subst z; rw [h] at e; cases e; exact m)]; exact e)⟩
theorem Grow.sqt {K : PySem.W.Frag} {H H' : Hp} (g : Grow H H') {a : Addr} {xs : List V} (h : SqT K H a xs) : SqT K H' a xs := by
  rcases h with (h | ⟨o, h⟩) | h
  · exact .inl (.inl (g.tup _ _ h))
  · exact .inl (.inr ⟨o, g.frz _ _ _ h⟩)
  · exact .inr h
theorem Grow.fzl {K : PySem.W.Frag} {H H' : Hp} (g : Grow H H') {a : Addr} {xs : List V} (h : FzL K H a xs) : FzL K H' a xs := by
  rcases h with ⟨o, h⟩ | h
  · exact .inl ⟨o, g.frz _ _ _ h⟩
  · exact .inr h

/-- no table of code objects; what stays as it is; neither a table nor one that a law tells -/
def NT : HO → Prop
  | .tbl _ => False
  | _ => True
def Stdy : HO → Prop
  | .tbl _ => False
  | .own _ => False
  | _ => True
theorem Stdy.nt {o : HO} (h : Stdy o) : NT o := by cases o <;> first | trivial | exact h
structure Nxt (φ φ' : List Addr) (H H' : Hp) : Prop where
  ext : ∃ ψ, φ' = φ ++ ψ ∧ ∀ q ∈ ψ, ∀ o, H q = some o → ¬ NT o
  grow : Grow H H'
  frame : ∀ b o, H b = some o → b ∉ φ → Stdy o → H' b = some o
  there : ∀ b o, H b = some o → NT o → ∃ o', H' b = some o' ∧ NT o'
theorem Nxt.refl (φ : List Addr) (H : Hp) : Nxt φ φ H H := ⟨⟨[], by simp, fun _ z => nomatch z⟩, Grow.refl H, fun _ _ h _ _ => h, fun _ o h n => ⟨o, h, n⟩⟩
theorem Nxt.trans {φ φ1 φ2 : List Addr} {H H1 H2 : Hp} (a : Nxt φ φ1 H H1) (b : Nxt φ1 φ2 H1 H2) : Nxt φ φ2 H H2 := by
  obtain ⟨ψ, e, f⟩ := a.ext
  obtain ⟨ψ', e', f'⟩ := b.ext
  refine ⟨⟨ψ ++ ψ', by rw [e', e, List.append_assoc], fun q hq o h nt => ?_⟩, a.grow.trans b.grow, fun c o h n st => ?_, fun c o h nt => ?_⟩
  · rcases List.mem_append.mp hq with z | z
    · exact f q z o h nt
    · obtain ⟨o', h', nt'⟩ := a.there q o h nt
      exact f' q z o' h' nt'
  · refine b.frame c o (a.frame c o h n st) (fun z => ?_) st
    rw [e] at z
    rcases List.mem_append.mp z with z | z
    · exact n z
    · exact f c z o h st.nt
  · obtain ⟨o', h', nt'⟩ := a.there c o h nt
    exact b.there c o' h' nt'
theorem Nxt.at_ {φ φ' : List Addr} {H H' : Hp} (n : Nxt φ φ' H H') {i : Nat} {a : Addr} (h : φ[i]? = some a) : φ'[i]? = some a := by
  obtain ⟨ψ, e, _⟩ := n.ext
  rw [e, List.getElem?_append_left (List.getElem?_eq_some_iff.mp h).1]
  exact h
/-- an address that is none of the store's stays none -/
theorem Nxt.notin {φ φ' : List Addr} {H H' : Hp} (n : Nxt φ φ' H H') {p : Addr} {o : HO} (h : H p = some o) (hp : p ∉ φ) (nt : NT o := by trivial) : p ∉ φ' := by
  obtain ⟨ψ, e, f⟩ := n.ext
  rw [e]
  intro z
  rcases List.mem_append.mp z with z | z
  · exact hp z
  · exact f p z o h nt
theorem there_upd {H : Hp} {p : Addr} {o : HO} (nt : NT o) : ∀ b u, H b = some u → NT u → ∃ u', upd H p o b = some u' ∧ NT u' := fun b u h n => by
  by_cases hb : b = p
  · exact ⟨o, by rw [hb, upd_same], nt⟩
  · exact ⟨u, by rw [upd_ne hb]; exact h, n⟩
/-- a new object of the store's; one that the store doesn't tell; one that is changed -/
theorem Nxt.new {φ : List Addr} {H : Hp} {p : Addr} {o : HO} (h : H p = none) (nt : NT o := by trivial) : Nxt φ (φ ++ [p]) H (upd H p o) :=
  ⟨⟨[p], rfl, fun q z o e => by rw [List.mem_singleton.mp z, h] at e; cases e⟩, Grow.new h, fun b u e _ _ => by rw [upd_ne (ne_of_none e h)]; exact e, there_upd nt⟩
theorem Nxt.mute {φ : List Addr} {H : Hp} {p : Addr} {o : HO} (h : H p = none) (nt : NT o := by trivial) : Nxt φ φ H (upd H p o) :=
  ⟨⟨[], by simp, fun _ z => nomatch z⟩, Grow.new h, fun b u e _ _ => by rw [upd_ne (ne_of_none e h)]; exact e, there_upd nt⟩
theorem Nxt.mut {φ : List Addr} {H : Hp} {p : Addr} {o o' : HO} (h : H p = some o) (m : Mut (some o)) (hp : p ∈ φ) (nt : NT o' := by trivial) : Nxt φ φ H (upd H p o') :=
  ⟨⟨[], by simp, fun _ z => nomatch z⟩, Grow.mut h m, fun b u e n _ => by rw [upd_ne (show b ≠ p from fun z => n (by rw [z]; exact hp))]; exact e, there_upd nt⟩

mutual
theorem VRel.up {G : Glo} {φ φ' : List Addr} {H H' : Hp} (f : ∀ (i : Nat) (a : Addr), φ[i]? = some a → φ'[i]? = some a) (g : Grow H H') : ∀ {d : D} {v : V}, VRel G φ H d v → VRel G φ' H' d v
  | .non, _, h => by simpa [VRel] using h
  | .bl _, _, h => by simpa [VRel] using h
  | .int _, _, h => by simpa [VRel] using h
  | .str _, _, h => by simpa [VRel] using h
  | .tup ds, _, h => by
    simp only [VRel] at h ⊢
    obtain ⟨a, vs, e, s, r⟩ := h
    exact ⟨a, vs, e, g.sqt s, VRels.up f g r⟩
  | .ref i, _, h => by
    simp only [VRel] at h ⊢
    obtain ⟨a, e, s⟩ := h
    exact ⟨a, e, f _ _ s⟩
  | .st _, _, h => by simpa [VRel] using h
  | .ty _, _, h => by simpa [VRel] using h
  | .fls ds, _, h => by
    simp only [VRel] at h ⊢
    obtain ⟨a, vs, e, s, r⟩ := h
    exact ⟨a, vs, e, g.fzl s, VRels.up f g r⟩
theorem VRels.up {G : Glo} {φ φ' : List Addr} {H H' : Hp} (f : ∀ (i : Nat) (a : Addr), φ[i]? = some a → φ'[i]? = some a) (g : Grow H H') : ∀ {ds : List D} {vs : List V}, VRels G φ H ds vs → VRels G φ' H' ds vs
  | [], _, h => by simpa [VRels] using h
  | d :: ds, _, h => by
    simp only [VRels] at h ⊢
    obtain ⟨u, us, e, r, rs⟩ := h
    exact ⟨u, us, e, VRel.up f g r, VRels.up f g rs⟩
end
theorem VRel.nxt {G : Glo} {φ φ' : List Addr} {H H' : Hp} (n : Nxt φ φ' H H') {d : D} {v : V} (h : VRel G φ H d v) : VRel G φ' H' d v := h.up (fun _ _ => n.at_) n.grow
theorem VRels.nxt {G : Glo} {φ φ' : List Addr} {H H' : Hp} (n : Nxt φ φ' H H') {ds : List D} {vs : List V} (h : VRels G φ H ds vs) : VRels G φ' H' ds vs := h.up (fun _ _ => n.at_) n.grow
section
variable {G : Glo} {φ φ' : List Addr} {H H' : Hp}
theorem VRels.length : ∀ {ds : List D} {vs : List V}, VRels G φ H ds vs → ds.length = vs.length
  | [], _, h => by simp only [VRels] at h; rw [h]; rfl
  | d :: ds, _, h => by
    simp only [VRels] at h
    obtain ⟨u, us, e, _, rs⟩ := h
    rw [e, List.length_cons, List.length_cons, VRels.length rs]
theorem VRels.get : ∀ {ds : List D} {vs : List V} {i : Nat} {d : D}, VRels G φ H ds vs → ds[i]? = some d → ∃ v, vs[i]? = some v ∧ VRel G φ H d v
  | [], _, _, _, _, e => by simp at e
  | d :: ds, _, 0, _, h, e => by
    simp only [VRels] at h
    obtain ⟨u, us, e', r, _⟩ := h
    simp at e
    subst e e'
    exact ⟨u, rfl, r⟩
  | d :: ds, _, i + 1, _, h, e => by
    simp only [VRels] at h
    obtain ⟨u, us, e', _, rs⟩ := h
    subst e'
    obtain ⟨v, q, r⟩ := VRels.get (i := i) rs (by simpa using e)
    exact ⟨v, by simpa using q, r⟩
theorem VRels.cons {d : D} {v : V} {ds : List D} {vs : List V} (r : VRel G φ H d v) (rs : VRels G φ H ds vs) : VRels G φ H (d :: ds) (v :: vs) := by
  simp only [VRels]; exact ⟨v, vs, rfl, r, rs⟩
theorem VRels.nil : VRels G φ H [] [] := by simp only [VRels]
theorem VRels.append : ∀ {ds es : List D} {vs us : List V}, VRels G φ H ds vs → VRels G φ H es us → VRels G φ H (ds ++ es) (vs ++ us)
  | [], _, _, _, h, q => by simp only [VRels] at h; rw [h]; exact q
  | d :: ds, _, _, _, h, q => by
    simp only [VRels] at h
    obtain ⟨u, us, e, r, rs⟩ := h
    rw [e]
    exact VRels.cons r (VRels.append rs q)
theorem VRels.take : ∀ {ds : List D} {vs : List V} (n : Nat), VRels G φ H ds vs → VRels G φ H (ds.take n) (vs.take n)
  | _, _, 0, _ => by simp [VRels]
  | [], _, _ + 1, h => by simp only [VRels] at h; rw [h]; simp [VRels]
  | d :: ds, _, n + 1, h => by
    simp only [VRels] at h
    obtain ⟨u, us, e, r, rs⟩ := h
    rw [e, List.take_succ_cons, List.take_succ_cons]
    exact VRels.cons r (VRels.take n rs)
theorem VRels.drop : ∀ {ds : List D} {vs : List V} (n : Nat), VRels G φ H ds vs → VRels G φ H (ds.drop n) (vs.drop n)
  | _, _, 0, h => h
  | [], _, _ + 1, h => by simp only [VRels] at h; rw [h]; simp [VRels]
  | d :: ds, _, n + 1, h => by
    simp only [VRels] at h
    obtain ⟨u, us, e, r, rs⟩ := h
    rw [e, List.drop_succ_cons, List.drop_succ_cons]
    exact VRels.drop n rs
theorem VRels.set : ∀ {ds : List D} {vs : List V} {d : D} {v : V} (n : Nat), VRels G φ H ds vs → VRel G φ H d v → VRels G φ H (ds.set n d) (vs.set n v)
  | [], _, _, _, _, h, _ => by simp only [VRels] at h; rw [h]; simp [VRels]
  | d :: ds, _, _, _, 0, h, q => by
    simp only [VRels] at h
    obtain ⟨u, us, e, r, rs⟩ := h
    rw [e]
    exact VRels.cons q rs
  | d :: ds, _, _, _, n + 1, h, q => by
    simp only [VRels] at h
    obtain ⟨u, us, e, r, rs⟩ := h
    rw [e, List.set_cons_succ, List.set_cons_succ]
    exact VRels.cons r (VRels.set n rs q)
theorem VRels.reverse {ds : List D} {vs : List V} (h : VRels G φ H ds vs) : VRels G φ H ds.reverse vs.reverse := by
  induction ds generalizing vs with
  | nil => simp only [VRels] at h; rw [h]; exact VRels.nil
  | cons d ds ih =>
    simp only [VRels] at h
    obtain ⟨u, us, e, r, rs⟩ := h
    rw [e, List.reverse_cons, List.reverse_cons]
    exact (ih rs).append (VRels.cons r VRels.nil)
end

def KRel {κ : Type} (G : Glo) (φ : List Addr) (H : Hp) : List (κ × D) → List (κ × V) → Prop
  | [], ks => ks = []
  | (k, d) :: r, ks => ∃ v ks', ks = (k, v) :: ks' ∧ VRel G φ H d v ∧ KRel G φ H r ks'
theorem KRel.up {κ : Type} {G : Glo} {φ φ' : List Addr} {H H' : Hp} (f : ∀ (i : Nat) (a : Addr), φ[i]? = some a → φ'[i]? = some a) (g : Grow H H') : ∀ {l : List (κ × D)} {m : List (κ × V)}, KRel G φ H l m → KRel G φ' H' l m
  | [], _, h => h
  | (k, d) :: r, _, h => by
    obtain ⟨v, ks, e, q, t⟩ := h
    exact ⟨v, ks, e, q.up f g, KRel.up f g t⟩
theorem KRel.nxt {κ : Type} {G : Glo} {φ φ' : List Addr} {H H' : Hp} (n : Nxt φ φ' H H') {l : List (κ × D)} {m : List (κ × V)} (h : KRel G φ H l m) : KRel G φ' H' l m := h.up (fun _ _ => n.at_) n.grow

/-- slots -/
def SRel (G : Glo) (φ : List Addr) (H : Hp) (vs : List (Option D)) (ws : List (Option V)) : Prop := ∀ (i : Nat) (d : D), vs[i]? = some (some d) → ∃ v, ws[i]? = some (some v) ∧ VRel G φ H d v
theorem SRel.up {G : Glo} {φ φ' : List Addr} {H H' : Hp} (f : ∀ (i : Nat) (a : Addr), φ[i]? = some a → φ'[i]? = some a) (g : Grow H H') {vs : List (Option D)} {ws : List (Option V)} (h : SRel G φ H vs ws) : SRel G φ' H' vs ws :=
  fun i d e => let ⟨v, q, r⟩ := h i d e; ⟨v, q, r.up f g⟩
theorem Slt.up {H H' : Hp} {a C dx : Addr} {ws : List (Option V)} (g : Grow H H') (e : H' a = H a) (h : SlX.Slt H a C dx ws) : SlX.Slt H' a C dx ws := by
  rcases h with ⟨h1, h2⟩ | ⟨h1, h2⟩
  · exact .inl ⟨e.trans h1, h2⟩
  · exact .inr ⟨e.trans h1, g.xds _ _ h2⟩
/-- the dict of an instance with slots -/
def DxOk (H : Hp) (a dx : Addr) : Prop := H dx = some (.own a) ∨ H dx = some (.xd [])
theorem DxOk.up {H H' : Hp} {a dx : Addr} (g : Grow H H') (h : DxOk H a dx) : DxOk H' a dx := h.elim (fun z => g.owns _ _ z) fun z => .inr (g.xds _ _ z)
theorem DxOk.ne {H : Hp} {a dx C : Addr} {ws : List (Option V)} (h : DxOk H a dx) (q : SlX.Slt H a C dx ws) : dx ≠ a := fun z => by
  subst z
  rcases q with ⟨q, _⟩ | ⟨q, _⟩ <;> rcases h with h | h <;> rw [h] at q <;> injection q with q <;> first | cases q | (unfold SlX.SlO at q; cases q)
def ORel (G : Glo) (φ : List Addr) (H : Hp) (a : Addr) : O → Prop
  | .lst ds => ∃ vs, H a = some (.lst vs) ∧ VRels G φ H ds vs
  | .dK kvs => ∃ kws, H a = some (.dK kws) ∧ KRel G φ H kvs kws
  | .dT kvs => ∃ kws, H a = some (.dT kws) ∧ KRel G φ H kvs kws
  | .ins c fs => ∃ dx gs, H a = some (.ins (G.ad c) dx gs) ∧ KRel G φ H fs gs
  | .slt c vs => ∃ dx ws, SlX.Slt H a (G.ad c) dx ws ∧ DxOk H a dx ∧ SRel G φ H vs ws

/-- neither a table nor a code object -/
def NX (p : Addr) : HO → Prop
  | .tbl _ => False
  | .ext f => ∀ q, HO.ext f ≠ LamX.CodeO p q
  | _ => True
theorem NX.nt {p : Addr} {o : HO} (h : NX p o) : NT o := by cases o <;> first | trivial | exact h
open LamX in
theorem tabs_upd {T : List (Addr × Str)} {H : Hp} {p : Addr} {u : HO} (t : Tabs T H) (h : ∀ o, H p = some o → NX p o) : Tabs T (upd H p u) := fun x hx => by
  obtain ⟨ps, h1, h2, h3⟩ := t x hx
  refine ⟨ps, ?_, h2, fun pos cv hc => ?_⟩
  · rw [upd_ne fun z => by rw [z] at h1; exact h _ h1]
    exact h1
  · obtain ⟨c, e1, e2⟩ := h3 pos cv hc
    refine ⟨c, e1, ?_⟩
    rw [upd_ne fun z => by subst z; exact h _ e2 _ rfl]
    exact e2
theorem slO_code {a C dx p : Addr} {vs : List (Option V)} {q : Str} : SlX.SlO a C dx vs ≠ LamX.CodeO p q := fun z => by
  unfold SlX.SlO LamX.CodeO at z
  injection z with z
  let o1 : Obj := { cls := .none, data := .fields #[.none, .str q 0] }
  let o2 : Obj := { cls := .none, data := .plain }
  by_cases hp : a = p
  · subst hp
    let h : Heap := { objs := Array.replicate (a + 1) o1, life := {} }
    have hg : h.get? a = some o1 := by
      show (match (Array.replicate (a + 1) o1)[a]? with
        | some ⟨_, _, .freed, _⟩ => none
        | o => o) = _
      rw [Array.getElem?_replicate, if_pos (Nat.lt_succ_self a)]
    have q2 : (∃ (oc : Obj) (vs : Array Value) (t : Tok), h.get? a = some oc ∧ oc.data = .fields vs ∧ vs[1]? = some (.str q t)) := ⟨o1, _, 0, hg, rfl, rfl⟩
    rw [← congrFun z h] at q2
    obtain ⟨sl, e, _⟩ := q2
    rw [hg] at e
    injection e with e
    injection e with _ _ e _
    cases e
  · let h : Heap := { objs := Array.replicate (p + a + 1) o1, life := {} }
    have hg : h.get? p = some o1 := by
      show (match (Array.replicate (p + a + 1) o1)[p]? with
        | some ⟨_, _, .freed, _⟩ => none
        | o => o) = _
      rw [Array.getElem?_replicate, if_pos (by omega)]
    have hga : h.get? a = some o1 := by
      show (match (Array.replicate (p + a + 1) o1)[a]? with
        | some ⟨_, _, .freed, _⟩ => none
        | o => o) = _
      rw [Array.getElem?_replicate, if_pos (by omega)]
    have q2 : (∃ (oc : Obj) (vs : Array Value) (t : Tok), h.get? p = some oc ∧ oc.data = .fields vs ∧ vs[1]? = some (.str q t)) := ⟨o1, _, 0, hg, rfl, rfl⟩
    rw [← congrFun z h] at q2
    obtain ⟨sl, e, _⟩ := q2
    rw [hga] at e
    injection e with e
    injection e with _ _ e _
    cases e
structure Rel (G : Glo) (φ : List Addr) (S : Store) (H : Hp) : Prop where
  len : φ.length = S.length
  nd : φ.Nodup
  at_ : ∀ (i : Nat) (a : Addr) (o : O), φ[i]? = some a → S[i]? = some o → ORel G φ H a o
  tabs : LamX.Tabs G.T H

theorem ORel.mut_ {G : Glo} {φ : List Addr} {H : Hp} {a : Addr} {o : O} (h : ORel G φ H a o) : ∃ u, H a = some u ∧ Mut (some u) ∧ NX a u := by
  cases o with
  | lst ds => obtain ⟨vs, e, _⟩ := h; exact ⟨_, e, trivial, trivial⟩
  | dK ds => obtain ⟨vs, e, _⟩ := h; exact ⟨_, e, trivial, trivial⟩
  | dT ds => obtain ⟨vs, e, _⟩ := h; exact ⟨_, e, trivial, trivial⟩
  | ins c fs => obtain ⟨dx, vs, e, _⟩ := h; exact ⟨_, e, trivial, trivial⟩
  | slt c vs =>
    obtain ⟨dx, ws, h, _, _⟩ := h
    rcases h with ⟨h1, _⟩ | ⟨h1, _⟩
    · exact ⟨_, h1, trivial, trivial⟩
    · exact ⟨_, h1, trivial, fun q => slO_code⟩
/-- what stands at a stays where a's own object does -/
theorem ORel.up {G : Glo} {φ φ' : List Addr} {H H' : Hp} {a : Addr} {o : O} (f : ∀ (i : Nat) (a : Addr), φ[i]? = some a → φ'[i]? = some a) (g : Grow H H') (e : H' a = H a) (h : ORel G φ H a o) : ORel G φ' H' a o := by
  cases o with
  | lst ds => obtain ⟨vs, q, r⟩ := h; exact ⟨vs, e.trans q, r.up f g⟩
  | dK ds => obtain ⟨vs, q, r⟩ := h; exact ⟨vs, e.trans q, r.up f g⟩
  | dT ds => obtain ⟨vs, q, r⟩ := h; exact ⟨vs, e.trans q, r.up f g⟩
  | ins c fs => obtain ⟨dx, vs, q, r⟩ := h; exact ⟨dx, vs, e.trans q, r.up f g⟩
  | slt c vs => obtain ⟨dx, ws, q, k, r⟩ := h; exact ⟨dx, ws, Slt.up g e q, k.up g, r.up f g⟩
theorem ORel.nxt {G : Glo} {φ φ' : List Addr} {H H' : Hp} {a : Addr} {o : O} (n : Nxt φ φ' H H') (e : H' a = H a) (h : ORel G φ H a o) : ORel G φ' H' a o := h.up (fun _ _ => n.at_) n.grow e
section
variable {G : Glo} {φ : List Addr} {S : Store} {H : Hp}
theorem Rel.get (R : Rel G φ S H) {i : Nat} {o : O} (h : S[i]? = some o) : ∃ a, φ[i]? = some a ∧ ORel G φ H a o := by
  have hi := (List.getElem?_eq_some_iff.mp h).1
  have hi' : i < φ.length := by rw [R.len]; exact hi
  exact ⟨φ[i], List.getElem?_eq_getElem hi', R.at_ i _ o (List.getElem?_eq_getElem hi') h⟩
theorem Rel.notmem (R : Rel G φ S H) {p : Addr} (h : H p = none) : p ∉ φ := fun hm => by
  obtain ⟨i, hi, e⟩ := List.mem_iff_getElem.mp hm
  have hi' : i < S.length := by rw [← R.len]; exact hi
  obtain ⟨u, q, _, _⟩ := (R.at_ i p S[i] (by rw [← e]; exact List.getElem?_eq_getElem hi) (List.getElem?_eq_getElem hi')).mut_
  rw [h] at q; cases q
/-- a new object -/
theorem Rel.push {o : O} {u : HO} (R : Rel G φ S H) {p : Addr} (h : H p = none) (n : ORel G (φ ++ [p]) (upd H p u) p o) : Rel G (φ ++ [p]) (S ++ [o]) (upd H p u) ∧ Nxt φ (φ ++ [p]) H (upd H p u) := by
  have nx : Nxt φ (φ ++ [p]) H (upd H p u) := Nxt.new h (by obtain ⟨w, e, _, z⟩ := n.mut_; rw [upd_same] at e; cases e; exact z.nt)
  refine ⟨⟨by simp [R.len], ?_, fun i a ob e1 e2 => ?_, tabs_upd R.tabs fun o e => by rw [h] at e; cases e⟩, nx⟩
  · rw [List.nodup_append]
    exact ⟨R.nd, by simp, fun a ha b hb => by
      have : b = p := by simpa using hb
      subst this
      exact fun z => R.notmem h (z ▸ ha)⟩
  · by_cases hi : i < φ.length
    · rw [List.getElem?_append_left hi] at e1
      rw [List.getElem?_append_left (by rw [← R.len]; exact hi)] at e2
      have q := R.at_ i a ob e1 e2
      refine q.nxt nx (upd_ne ?_)
      intro z
      subst z
      exact R.notmem h (List.mem_of_getElem? e1)
    · rw [List.getElem?_append_right (by omega)] at e1
      rw [List.getElem?_append_right (by have := R.len; omega)] at e2
      have h0 : i - φ.length = 0 := by
        have := (List.getElem?_eq_some_iff.mp e1).1
        simp at this
        omega
      rw [h0] at e1
      rw [← R.len, h0] at e2
      simp at e1 e2
      subst e1 e2
      exact n
/-- what the store doesn't tell changes -/
theorem Rel.mute (R : Rel G φ S H) {p : Addr} {u : HO} (h : p ∉ φ) (g : Grow H (upd H p u)) (hx : ∀ o, H p = some o → NX p o) : Rel G φ S (upd H p u) :=
  ⟨R.len, R.nd, fun i a o e1 e2 => (R.at_ i a o e1 e2).up (fun _ _ q => q) g (upd_ne fun z => h (z ▸ List.mem_of_getElem? e1)), tabs_upd R.tabs hx⟩
theorem nx_none {H : Hp} {p : Addr} (h : H p = none) : ∀ o, H p = some o → NX p o := fun o e => by rw [h] at e; cases e
theorem nx_some {H : Hp} {p : Addr} {u : HO} (h : H p = some u) (n : NX p u := by trivial) : ∀ o, H p = some o → NX p o := fun o e => by rw [h] at e; cases e; exact n
/-- an object that the store didn't tell is told from now on -/
theorem Rel.adopt {o : O} (R : Rel G φ S H) {p : Addr} (h : p ∉ φ) (n : ORel G (φ ++ [p]) H p o) : Rel G (φ ++ [p]) (S ++ [o]) H := by
  have f : ∀ (i : Nat) (a : Addr), φ[i]? = some a → (φ ++ [p])[i]? = some a := fun i a e => by rw [List.getElem?_append_left (List.getElem?_eq_some_iff.mp e).1]; exact e
  refine ⟨by simp [R.len], ?_, fun i a ob e1 e2 => ?_, R.tabs⟩
  · rw [List.nodup_append]
    exact ⟨R.nd, by simp, fun a ha b hb => by
      have : b = p := by simpa using hb
      subst this
      exact fun z => h (z ▸ ha)⟩
  · by_cases hi : i < φ.length
    · rw [List.getElem?_append_left hi] at e1
      rw [List.getElem?_append_left (by rw [← R.len]; exact hi)] at e2
      exact (R.at_ i a ob e1 e2).up f (Grow.refl H) rfl
    · rw [List.getElem?_append_right (by omega)] at e1
      rw [List.getElem?_append_right (by have := R.len; omega)] at e2
      have h0 : i - φ.length = 0 := by
        have := (List.getElem?_eq_some_iff.mp e1).1
        simp at this
        omega
      rw [h0] at e1
      rw [← R.len, h0] at e2
      simp at e1 e2
      subst e1 e2
      exact n
/-- an object is changed -/
theorem Rel.set {i : Nat} {a : Addr} {o o' : O} {u : HO} (R : Rel G φ S H) (h1 : φ[i]? = some a) (h2 : S[i]? = some o) (n : ORel G φ (upd H a u) a o') : Rel G φ (S.set i o') (upd H a u) ∧ Nxt φ φ H (upd H a u) := by
  obtain ⟨w, hw, mw, xw⟩ := (R.at_ i a o h1 h2).mut_
  have nx : Nxt φ φ H (upd H a u) := Nxt.mut hw mw (List.mem_of_getElem? h1) (by obtain ⟨w, e, _, z⟩ := n.mut_; rw [upd_same] at e; cases e; exact z.nt)
  refine ⟨⟨by simp [R.len], R.nd, fun j b ob e1 e2 => ?_, tabs_upd R.tabs (nx_some hw xw)⟩, nx⟩
  by_cases hj : j = i
  · subst hj
    rw [h1] at e1; cases e1
    have hl : j < S.length := (List.getElem?_eq_some_iff.mp h2).1
    rw [List.getElem?_set_self hl] at e2
    cases e2
    exact n
  · rw [List.getElem?_set_ne (Ne.symm hj)] at e2
    refine (R.at_ j b ob e1 e2).nxt nx (upd_ne ?_)
    intro z
    subst z
    exact hj ((List.getElem?_inj (List.getElem?_eq_some_iff.mp e1).1 R.nd).mp (e1.trans h1.symm))
end

/-- the slots -/
def ERel (G : Glo) (φ : List Addr) (H : Hp) (env : En) (σ : St) : Prop := env.length = σ.length ∧ ∀ (i : Nat) (d : D), env[i]? = some (some d) → ∃ v, σ[i]? = some (some v) ∧ VRel G φ H d v
theorem ERel.nxt {G : Glo} {φ φ' : List Addr} {H H' : Hp} {env : En} {σ : St} (n : Nxt φ φ' H H') (h : ERel G φ H env σ) : ERel G φ' H' env σ :=
  ⟨h.1, fun i d e => let ⟨v, q, r⟩ := h.2 i d e; ⟨v, q, r.nxt n⟩⟩
theorem ERel.up {G : Glo} {φ φ' : List Addr} {H H' : Hp} {env : En} {σ : St} (f : ∀ (i : Nat) (a : Addr), φ[i]? = some a → φ'[i]? = some a) (g : Grow H H') (h : ERel G φ H env σ) : ERel G φ' H' env σ :=
  ⟨h.1, fun i d e => let ⟨v, q, r⟩ := h.2 i d e; ⟨v, q, r.up f g⟩⟩
theorem ERel.set {G : Glo} {φ : List Addr} {H : Hp} {env : En} {σ : St} {i : Nat} {d : D} {v : V} (h : ERel G φ H env σ) (r : VRel G φ H d v) : ERel G φ H (env.set i (some d)) (σ.set i (some v)) := by
  refine ⟨by simp [h.1], fun j e q => ?_⟩
  by_cases hj : i = j
  · subst hj
    by_cases hi : i < env.length
    · rw [List.getElem?_set_self hi] at q
      cases q
      exact ⟨v, by rw [List.getElem?_set_self (by rw [← h.1]; exact hi)], r⟩
    · rw [List.getElem?_eq_none (by simpa using hi)] at q
      cases q
  · rw [List.getElem?_set_ne hj] at q ⊢
    exact h.2 j e q
theorem ERel.unset {G : Glo} {φ : List Addr} {H : Hp} {env : En} {σ : St} {i : Nat} {v : Option V} (h : ERel G φ H env σ) : ERel G φ H (env.set i none) (σ.set i v) := by
  refine ⟨by simp [h.1], fun j e q => ?_⟩
  by_cases hj : i = j
  · subst hj
    by_cases hi : i < env.length
    · rw [List.getElem?_set_self hi] at q
      cases q
    · rw [List.getElem?_eq_none (by simpa using hi)] at q
      cases q
  · rw [List.getElem?_set_ne hj] at q ⊢
    exact h.2 j e q

/-- an exception, its class, its own dict -/
def XRel (G : Glo) (φ : List Addr) (H : Hp) (x : Exn) (cls : Value) (dd : Option Addr) : Prop :=
  cls = .ref (G.ad x.cls) ∧ match x.fs with
    | none => dd = none
    | some fs => ∃ p gs, dd = some p ∧ H p = some (.xd gs) ∧ KRel G φ H fs gs

/-- what is wanted of an outcome -/
def Pst {α : Type} (G : Glo) (B : Value → Option Addr → Hp → Prop) (φ : List Addr) (H : Hp) (K : List Addr → Hp → Store → α → Prop) : Res α → Prop
  | .ok a S' => ∀ φ' H', Nxt φ φ' H H' → Rel G φ' S' H' → K φ' H' S' a
  | .er x S' => ∀ φ' H', Nxt φ φ' H H' → Rel G φ' S' H' → ∀ cls dd, XRel G φ' H' x cls dd → B cls dd H'
  | .bad => False
section
variable {α β : Type} {G : Glo} {B : Value → Option Addr → Hp → Prop} {φ φ1 : List Addr} {H H1 : Hp}
theorem Pst.bind {K : List Addr → Hp → Store → β → Prop} {r : Res α} {f : α → Store → Res β} (h : Pst G B φ H K (r.bind f)) : Pst G B φ H (fun φ1 H1 S1 a => Pst G B φ1 H1 K (f a S1)) r := by
  cases r with
  | ok a S =>
    intro φ1 H1 n1 R1
    have h' : Pst G B φ H K (f a S) := h
    show Pst G B φ1 H1 K (f a S)
    cases e : f a S with
    | ok b S2 => rw [e] at h'; exact fun φ2 H2 n2 R2 => h' φ2 H2 (n1.trans n2) R2
    | er x S2 => rw [e] at h'; exact fun φ2 H2 n2 R2 => h' φ2 H2 (n1.trans n2) R2
    | bad => rw [e] at h'; exact h'
  | er x S => exact h
  | bad => exact h
theorem Pst.imp {K K' : List Addr → Hp → Store → α → Prop} {r : Res α} (h : Pst G B φ H K r) (k : ∀ φ1 H1 S1 a, Nxt φ φ1 H H1 → Rel G φ1 S1 H1 → K φ1 H1 S1 a → K' φ1 H1 S1 a) : Pst G B φ H K' r := by
  cases r with
  | ok a S => exact fun φ1 H1 n1 R1 => k φ1 H1 S a n1 R1 (h φ1 H1 n1 R1)
  | er x S => exact h
  | bad => exact h
theorem Pst.nxt {K : List Addr → Hp → Store → α → Prop} {r : Res α} (h : Pst G B φ H K r) (n : Nxt φ φ1 H H1) : Pst G B φ1 H1 K r := by
  cases r with
  | ok a S => exact fun φ2 H2 n2 R2 => h φ2 H2 (n.trans n2) R2
  | er x S => exact fun φ2 H2 n2 R2 => h φ2 H2 (n.trans n2) R2
  | bad => exact h
theorem Pst.now {K : List Addr → Hp → Store → α → Prop} {a : α} {S : Store} (h : Pst G B φ H K (.ok a S)) (R : Rel G φ S H) : K φ H S a := h φ H (Nxt.refl φ H) R
end

/-! ### readings -/
def rdE (G : Glo) (W : WX) (d : DE) : TE := fun σ H Q => ∃ φ S env, Rel G φ S H ∧ ERel G φ H env σ ∧ Pst G (fun c p H' => W c p σ H') φ H (fun φ' H' _ x => ∀ v, VRel G φ' H' x v → Q v H') (d env S)
def rdT (G : Glo) (W : WX) (d : DT) : TT := fun σ H Q => ∃ φ S env, Rel G φ S H ∧ ERel G φ H env σ ∧ Pst G (fun c p H' => W c p σ H') φ H (fun _ H' _ b => Q b H') (d env S)
def rdA (G : Glo) (W : WX) (d : DA) : TA := fun σ H Q => ∃ φ S env, Rel G φ S H ∧ ERel G φ H env σ ∧ Pst G (fun c p H' => W c p σ H') φ H (fun φ' H' _ xs => ∀ vs, VRels G φ' H' xs vs → Q vs H') (d env S)
def FlP (G : Glo) (D : Ends) (φ : List Addr) (H : Hp) : Fl → Prop
  | .nx e => ∀ σ, ERel G φ H e σ → D.nx σ H
  | .rt d => ∀ v, VRel G φ H d v → D.rt v H
  | .bk e => ∀ σ, ERel G φ H e σ → D.bk σ H
  | .ct e => ∀ σ, ERel G φ H e σ → D.ct σ H
def rdS (G : Glo) (W : WX) (d : DS) : TS := fun D σ H => ∃ φ S env, Rel G φ S H ∧ ERel G φ H env σ ∧ Pst G (fun c p H' => ∀ σ', W c p σ' H') φ H (fun φ' H' _ f => FlP G D φ' H' f) (d env S)

/-- a place of code -/
structure Cp where
  G : Glo
  k : Nat
  N : List Str
  sc : Scope
  fn : Str → Bool
structure Cxt (C : Cp) (W : WX) (X : Cx) : Prop where
  prog : X.prog = C.G.P
  w : X.w = C.G.w
  K : X.K = C.G.K
  mg : X.mg = C.G.mg
  base : X.base = C.G.base
  N : X.N = C.N
  sc : X.env.scope = C.sc
  fn : X.fn = C.fn
  room : Room C.k X.A
  calm : X.calm = true
  takes : Takes X W
  pass : PassesOwn (model X.prog X.w) X.A X.env X.xe

def PEx (C : Cp) (e : Expr) (d : DE) : Prop := ∀ X W, Cxt C W X → PE X e (rdE C.G W d)
def PTx (C : Cp) (e : Expr) (d : DT) : Prop := ∀ X W, Cxt C W X → PT X e (rdT C.G W d)
def PAx (C : Cp) (es : List Expr) (d : DA) : Prop := ∀ X W, Cxt C W X → PA X es (rdA C.G W d)
def PSx (C : Cp) (st : Stmt) (d : DS) : Prop := ∀ X W, Cxt C W X → PS X st (rdS C.G W d)
def PSsx (C : Cp) (st : List Stmt) (d : DS) : Prop := ∀ X W, Cxt C W X → PSs X st (rdS C.G W d)

theorem pe_imp {X : Cx} {e : Expr} {t t' : TE} (h : PE X e t) (k : ∀ σ H Q, t' σ H Q → t σ H Q) : PE X e t' := ⟨fun pins s σ H Q I q => h.run pins s σ H Q I (k σ H Q q)⟩
theorem pt_imp {X : Cx} {e : Expr} {t t' : TT} (h : PT X e t) (k : ∀ σ H Q, t' σ H Q → t σ H Q) : PT X e t' := ⟨fun pins s σ H Q I q => h.run pins s σ H Q I (k σ H Q q)⟩
theorem pa_imp {X : Cx} {es : List Expr} {t t' : TA} (h : PA X es t) (k : ∀ σ H Q, t' σ H Q → t σ H Q) : PA X es t' := ⟨fun pos pins s σ H Q I q => h.run pos pins s σ H Q I (k σ H Q q)⟩
theorem ps_imp {X : Cx} {st : Stmt} {t t' : TS} (h : PS X st t) (k : ∀ D σ H, t' D σ H → t D σ H) : PS X st t' := ⟨fun pins s σ H D I q => h.run pins s σ H D I (k D σ H q)⟩
theorem pss_imp {X : Cx} {st : List Stmt} {t t' : TS} (h : PSs X st t) (k : ∀ D σ H, t' D σ H → t D σ H) : PSs X st t' := ⟨fun pins s σ H D I q => h.run pins s σ H D I (k D σ H q)⟩

/-! ### names and constants -/
def dC (d : D) : DE := fun _ S => .ok d S
def dVar (i : Nat) : DE := fun env S => match env[i]? with
  | some (some d) => .ok d S
  | _ => .bad
def visB (sc : Scope) (x : Str) : Bool := match sc.names.lookup x with
  | some .local => true
  | some .cell => true
  | some .free => true
  | _ => false
theorem visB_ok {sc : Scope} {x : Str} (h : visB sc x = true) : Vis sc x := by
  unfold visB at h
  split at h
  · exact .inl (by assumption)
  · exact .inr (.inl (by assumption))
  · exact .inr (.inr (by assumption))
  · cases h
section
variable {C : Cp} {pos : Pos}
theorem pex_var (i : Nat) {x : Str} (hN : C.N[i]? = some x) (hv : visB C.sc x = true) (hd : (x == ("__debug__" : Str)) = false := by decide +kernel) (hcd : (x == ("__classdict__" : Str)) = false := by decide +kernel) : PEx C (.Name x pos) (dVar i) := by
  intro X W h
  refine pe_imp (pe_var (X := X) (i := i) (by rw [h.N]; exact hN) (by rw [h.sc]; exact visB_ok hv) hd hcd) fun σ H Q ⟨φ, S, env, R, E, P⟩ => ?_
  unfold dVar at P
  split at P
  · rename_i d e
    obtain ⟨v, q, r⟩ := E.2 i d e
    exact ⟨v, q, P.now R v r⟩
  · exact P.elim
theorem pex_c {d : D} {v : V} {e : Expr} (h : ∀ X, PE X e (tC v)) (r : ∀ φ H, VRel C.G φ H d v) : PEx C e (dC d) := by
  intro X W hx
  refine pe_imp (h X) fun σ H Q ⟨φ, S, env, R, E, P⟩ => ?_
  exact Pst.now P R v (r φ H)
theorem pex_int {i : Int} {j} : PEx C (.Constant (.int i) j pos) (dC (.int i)) := pex_c (fun _ => pe_int) fun _ _ => by simp only [VRel]
theorem pex_bl {b : Bool} {j} : PEx C (.Constant (.bool b) j pos) (dC (.bl b)) := pex_c (fun _ => pe_bl) fun _ _ => by simp only [VRel]
theorem pex_non {j} : PEx C (.Constant .none j pos) (dC .non) := pex_c (fun _ => pe_non) fun _ _ => by simp only [VRel]
theorem pex_str {x : Str} {j} : PEx C (.Constant (.str x) j pos) (dC (.str x)) := pex_c (fun _ => pe_str) fun _ _ => by simp only [VRel]
end
end Z

/-! Z2: operators, comparisons, truth, indices, slices. -/
namespace Z
open PySem PySem.Spec PyProof.Rows L2

/-! ### operations by values -/
abbrev Op2 := D → D → Store → Option (D × Store)
/-- what is wanted of a value -/
def PstV (G : Glo) (φ : List Addr) (H : Hp) (Q : VK) : Option (D × Store) → Prop
  | some (r, S') => ∀ φ' H', Nxt φ φ' H H' → Rel G φ' S' H' → ∀ v, VRel G φ' H' r v → Q v H'
  | none => False
def rdO (G : Glo) (op : Op2) : R2 := fun x y H Q => ∃ φ S d e, Rel G φ S H ∧ VRel G φ H d x ∧ VRel G φ H e y ∧ PstV G φ H Q (op d e S)
def OpRx (C : Cp) (f : Value → Value → Sem Value) (op : Op2) : Prop := ∀ X W, Cxt C W X → OpR X f (rdO C.G op)
abbrev Op1 := D → Store → Option (D × Store)
def rdU (G : Glo) (op : Op1) : V → Hp → VK → Prop := fun x H Q => ∃ φ S d, Rel G φ S H ∧ VRel G φ H d x ∧ PstV G φ H Q (op d S)
def UnRx (C : Cp) (f : Value → Sem Value) (op : Op1) : Prop := ∀ X W, Cxt C W X → UnR X f (rdU C.G op)

def ofO {α : Type} : Option (α × Store) → Res α
  | some (a, S) => .ok a S
  | none => .bad
@[simp] theorem ofO_some {α : Type} (a : α) (S : Store) : ofO (some (a, S)) = .ok a S := rfl
@[simp] theorem ofO_none {α : Type} : (ofO none : Res α) = .bad := rfl
theorem PstV.of {G : Glo} {B : Value → Option Addr → Hp → Prop} {φ : List Addr} {H : Hp} {Q : VK} {o : Option (D × Store)} (h : Pst G B φ H (fun φ' H' _ x => ∀ v, VRel G φ' H' x v → Q v H') (ofO o)) : PstV G φ H Q o := by
  cases o with
  | none => exact h
  | some p => obtain ⟨a, S⟩ := p; exact h
section
variable {G : Glo} {φ : List Addr} {H : Hp} {Q : VK}
theorem PstV.now {d : D} {S : Store} (h : PstV G φ H Q (some (d, S))) (R : Rel G φ S H) {v : V} (r : VRel G φ H d v) : Q v H := h φ H (Nxt.refl φ H) R v r
/-- a new list -/
theorem PstV.lst {ds : List D} {S : Store} (h : PstV G φ H Q (some (.ref S.length, S ++ [.lst ds]))) (R : Rel G φ S H) {vs : List V} (r : VRels G φ H ds vs) {p : Addr} (hp : H p = none) : Q (.ref p) (upd H p (.lst vs)) := by
  obtain ⟨R', n⟩ := R.push (o := .lst ds) (u := .lst vs) hp ⟨vs, upd_same, r.nxt (Nxt.new hp)⟩
  refine h _ _ n R' _ ?_
  simp only [VRel]
  exact ⟨p, rfl, by rw [← R.len]; simp⟩
/-- a new tuple -/
theorem PstV.tup {ds : List D} {S : Store} (h : PstV G φ H Q (some (.tup ds, S))) (R : Rel G φ S H) {vs : List V} (r : VRels G φ H ds vs) {p : Addr} (hp : H p = none) : Q (.ref p) (upd H p (.tup vs)) := by
  have n : Nxt φ φ H (upd H p (.tup vs)) := Nxt.mute hp
  refine h φ _ n (R.mute (R.notmem hp) n.grow (nx_none hp)) _ ?_
  simp only [VRel]
  exact ⟨p, vs, rfl, SqT.of upd_same, r.nxt n⟩
end
theorem sq_lst {G : Glo} {φ : List Addr} {S : Store} {H : Hp} (R : Rel G φ S H) {i : Nat} {ds : List D} {v : V} (h : VRel G φ H (.ref i) v) (e : S[i]? = some (.lst ds)) : ∃ a vs, v = .ref a ∧ H a = some (.lst vs) ∧ VRels G φ H ds vs ∧ φ[i]? = some a := by
  simp only [VRel] at h
  obtain ⟨a, ev, ha⟩ := h
  obtain ⟨vs, q, r⟩ := R.at_ i a _ ha e
  exact ⟨a, vs, ev, q, r, ha⟩

theorem OpRx.imp {C : Cp} {f : Value → Value → Sem Value} {op : Op2} (r : Cx → R2) (h : ∀ X W, Cxt C W X → OpR X f (r X)) (k : ∀ X W, Cxt C W X → ∀ φ S H d e x y Q, Rel C.G φ S H → VRel C.G φ H d x → VRel C.G φ H e y → PstV C.G φ H Q (op d e S) → r X x y H Q) : OpRx C f op :=
  fun X W hx pins s σ H x y v u Q I rx ry ⟨φ, S, d, e, R, r1, r2, P⟩ => h X W hx pins s σ H x y v u Q I rx ry (k X W hx φ S H d e x y Q R r1 r2 P)

/-- one operation, else another one -/
def orO (a b : Op2) : Op2 := fun d e S => match a d e S with
  | some r => some r
  | none => b d e S
theorem OpRx.or {C : Cp} {f : Value → Value → Sem Value} {a b : Op2} (ha : OpRx C f a) (hb : OpRx C f b) : OpRx C f (orO a b) :=
  fun X W hx pins s σ H x y v u Q I rx ry ⟨φ, S, d, e, R, r1, r2, P⟩ => by
    unfold orO at P
    cases q : a d e S with
    | some r =>
      rw [q] at P
      exact ha X W hx pins s σ H x y v u Q I rx ry ⟨φ, S, d, e, R, r1, r2, by rw [q]; exact P⟩
    | none =>
      rw [q] at P
      exact hb X W hx pins s σ H x y v u Q I rx ry ⟨φ, S, d, e, R, r1, r2, P⟩

/-! ### ints -/
def oInt (c : Int → Int → Bool) (g : Int → Int → D) : Op2 := fun d e S => match d, e with
  | .int i, .int j => if c i j then some (g i j, S) else none
  | _, _ => none
theorem oInt_some {c : Int → Int → Bool} {g : Int → Int → D} {G : Glo} {φ : List Addr} {H : Hp} {Q : VK} {d e : D} {S : Store} (h : PstV G φ H Q (oInt c g d e S)) : ∃ i j, d = .int i ∧ e = .int j ∧ c i j = true ∧ PstV G φ H Q (some (g i j, S)) := by
  unfold oInt at h
  split at h
  · rename_i i j
    split at h
    · exact ⟨i, j, rfl, rfl, by assumption, h⟩
    · exact h.elim
  · exact h.elim
theorem opx_int {C : Cp} {f : Value → Value → Sem Value} {c : Int → Int → Bool} {cp : Int → Int → Prop} {g : Int → Int → D} {gv : Int → Int → V} (h : ∀ X W, Cxt C W X → OpR X f (rI cp gv)) (hc : ∀ i j, c i j = true → cp i j) (hg : ∀ i j φ H, VRel C.G φ H (g i j) (gv i j)) : OpRx C f (oInt c g) :=
  OpRx.imp (fun _ => rI cp gv) h fun X W hx φ S H d e x y Q R r1 r2 P => by
    obtain ⟨i, j, rfl, rfl, hcij, P⟩ := oInt_some P
    simp only [VRel] at r1 r2
    exact ⟨i, j, r1, r2, hc i j hcij, P.now R (hg i j φ H)⟩
theorem opx_int0 {C : Cp} {f : Value → Value → Sem Value} {g : Int → Int → D} {gv : Int → Int → V} (h : ∀ X W, Cxt C W X → OpR X f (rI0 gv)) (hg : ∀ i j φ H, VRel C.G φ H (g i j) (gv i j)) : OpRx C f (oInt (fun _ _ => true) g) :=
  OpRx.imp (fun _ => rI0 gv) h fun X W hx φ S H d e x y Q R r1 r2 P => by
    obtain ⟨i, j, rfl, rfl, hcij, P⟩ := oInt_some P
    simp only [VRel] at r1 r2
    exact ⟨i, j, r1, r2, P.now R (hg i j φ H)⟩
def oAddI : Op2 := oInt (fun _ _ => true) fun i j => .int (i + j)
def oSubI : Op2 := oInt (fun _ _ => true) fun i j => .int (i - j)
def mulOk (i j : Int) : Bool := decide (i.natAbs.log2 + j.natAbs.log2 < 1000000)
def oMulI : Op2 := oInt mulOk fun i j => .int (i * j)
def divOk (_ j : Int) : Bool := decide (0 < j) && decide (j.natAbs.log2 < 9000)
def oDivI : Op2 := oInt divOk fun i j => .int (i / j)
def oModI : Op2 := oInt (fun _ j => decide (0 < j)) fun i j => .int (i % j)
def powOk (i j : Int) : Bool := decide (0 ≤ j) && (decide (j ≤ 1000000) && decide (i.natAbs < 2 ^ 64))
def oPowI : Op2 := oInt powOk fun i j => .int (i ^ j.toNat)
def oLtI : Op2 := oInt (fun _ _ => true) fun i j => .bl (decide (i < j))
def oLeI : Op2 := oInt (fun _ _ => true) fun i j => .bl (decide (i ≤ j))
def oGtI : Op2 := oInt (fun _ _ => true) fun i j => .bl (decide (j < i))
def oGeI : Op2 := oInt (fun _ _ => true) fun i j => .bl (decide (j ≤ i))
section
variable {C : Cp}
theorem opx_addI : OpRx C (binaryOp .Add) oAddI := opx_int0 (fun _ _ _ => op_add) fun _ _ _ _ => by simp only [VRel]
theorem opx_subI : OpRx C (binaryOp .Sub) oSubI := opx_int0 (fun _ _ _ => op_sub) fun _ _ _ _ => by simp only [VRel]
theorem opx_mulI : OpRx C (binaryOp .Mult) oMulI := opx_int (fun _ _ _ => op_mulW) (fun i j h => of_decide_eq_true (p := i.natAbs.log2 + j.natAbs.log2 < 1000000) h) fun _ _ _ _ => by simp only [VRel]
theorem opx_divI : OpRx C (binaryOp .FloorDiv) oDivI := opx_int (fun _ _ _ => op_fdivW) (fun i j h => by
  obtain ⟨a, b⟩ := Bool.and_eq_true_iff.mp h
  exact ⟨of_decide_eq_true a, of_decide_eq_true b⟩) fun _ _ _ _ => by simp only [VRel]
theorem opx_modI : OpRx C (binaryOp .Mod) oModI := opx_int (fun _ _ _ => op_mod) (fun i j h => of_decide_eq_true h) fun _ _ _ _ => by simp only [VRel]
theorem opx_powI : OpRx C (binaryOp .Pow) oPowI := opx_int (fun _ _ _ => op_pow) (fun i j h => by
  obtain ⟨a, b⟩ := Bool.and_eq_true_iff.mp h
  obtain ⟨b, c⟩ := Bool.and_eq_true_iff.mp b
  exact ⟨of_decide_eq_true a, of_decide_eq_true b, of_decide_eq_true c⟩) fun _ _ _ _ => by simp only [VRel]
theorem opx_ltI : OpRx C (compareOp .Lt) oLtI := opx_int0 (fun _ _ _ => op_lt) fun _ _ _ _ => by simp only [VRel]
theorem opx_leI : OpRx C (compareOp .LtE) oLeI := opx_int0 (fun _ _ _ => op_le) fun _ _ _ _ => by simp only [VRel]
theorem opx_gtI : OpRx C (compareOp .Gt) oGtI := opx_int0 (fun _ _ _ => op_gt) fun _ _ _ _ => by simp only [VRel]
theorem opx_geI : OpRx C (compareOp .GtE) oGeI := opx_int0 (fun _ _ _ => op_ge) fun _ _ _ _ => by simp only [VRel]
end

/-! ### texts, tuples, lists: + and * -/
def sl : Nat := 16777216
theorem sl_eq : sizeLine = sl := sizeLine_eq
def oAddS : Op2 := fun d e S => match d, e with
  | .str x, .str y => if x.length + y.length ≤ sl then some (.str (x ++ y), S) else none
  | _, _ => none
theorem opx_addS {C : Cp} : OpRx C (binaryOp .Add) oAddS := OpRx.imp (fun _ => _) (fun _ _ _ => op_add_str) fun X W hx φ S H d e x y Q R r1 r2 P => by
  unfold oAddS at P
  split at P
  · split at P
    · simp only [VRel] at r1 r2
      exact ⟨_, _, r1, r2, by rw [sl_eq]; assumption, P.now R (by simp only [VRel])⟩
    · exact P.elim
  · exact P.elim
def oAddT : Op2 := fun d e S => match d, e with
  | .tup xs, .tup ys => if xs.length + ys.length ≤ sl then some (.tup (xs ++ ys), S) else none
  | _, _ => none
theorem opx_addT {C : Cp} : OpRx C (binaryOp .Add) oAddT := OpRx.imp (fun X => rCatA X.K) (fun _ _ _ => op_catA) fun X W hx φ S H d e x y Q R r1 r2 P => by
  unfold oAddT at P
  split at P
  · rename_i ds es
    split at P
    · have r1' := r1
      have r2' := r2
      simp only [VRel] at r1 r2
      obtain ⟨a, xs, rfl, h1, q1⟩ := r1
      obtain ⟨b, ys, rfl, h2, q2⟩ := r2
      rw [hx.K]
      refine ⟨a, b, xs, ys, rfl, rfl, h1, h2, by rw [sl_eq, ← q1.length, ← q2.length]; assumption, fun e => ?_, fun _ e => ?_, fun _ _ p hp => P.tup R (q1.append q2) hp⟩
      · have : ds = [] := List.length_eq_zero_iff.mp (by rw [q1.length, e]; rfl)
        subst this
        exact P.now R (by simpa using r2')
      · have : es = [] := List.length_eq_zero_iff.mp (by rw [q2.length, e]; rfl)
        subst this
        exact P.now R (by simpa using r1')
    · exact P.elim
  · exact P.elim
def oAddL : Op2 := fun d e S => match d, e with
  | .ref i, .ref j => match S[i]?, S[j]? with
    | some (.lst xs), some (.lst ys) => if xs.length + ys.length ≤ sl then some (.ref S.length, S ++ [.lst (xs ++ ys)]) else none
    | _, _ => none
  | _, _ => none
theorem opx_addL {C : Cp} : OpRx C (binaryOp .Add) oAddL := OpRx.imp (fun _ => rCat) (fun _ _ _ => op_cat) fun X W hx φ S H d e x y Q R r1 r2 P => by
  unfold oAddL at P
  split at P
  · split at P
    · rename_i xs ys e1 e2
      split at P
      · obtain ⟨a, vs, rfl, h1, q1, _⟩ := sq_lst R r1 e1
        obtain ⟨b, us, rfl, h2, q2, _⟩ := sq_lst R r2 e2
        exact ⟨a, b, vs, us, rfl, rfl, h1, h2, by rw [sl_eq, ← q1.length, ← q2.length]; assumption, fun p hp => P.lst R (q1.append q2) hp⟩
      · exact P.elim
    · exact P.elim
  · exact P.elim
def oAdd : Op2 := orO oAddI (orO oAddL (orO oAddT oAddS))
theorem opx_add {C : Cp} : OpRx C (binaryOp .Add) oAdd := opx_addI.or (opx_addL.or (opx_addT.or opx_addS))

theorem VRels.replicate {G : Glo} {φ : List Addr} {H : Hp} {ds : List D} {vs : List V} (h : VRels G φ H ds vs) : ∀ n : Nat, VRels G φ H (List.replicate n ds).flatten (List.replicate n vs).flatten
  | 0 => by simp [VRels]
  | n + 1 => by
    rw [List.replicate_succ, List.replicate_succ, List.flatten_cons, List.flatten_cons]
    exact h.append (VRels.replicate h n)
def oMulL : Op2 := fun d e S => match d, e with
  | .ref i, .int k => match S[i]? with
    | some (.lst xs) => if -(2 ^ 63) ≤ k ∧ k < 2 ^ 63 ∧ xs.length * k.toNat ≤ sl then some (.ref S.length, S ++ [.lst (List.replicate k.toNat xs).flatten]) else none
    | _ => none
  | _, _ => none
theorem opx_mulL {C : Cp} : OpRx C (binaryOp .Mult) oMulL := OpRx.imp (fun _ => rRep) (fun _ _ _ => op_rep) fun X W hx φ S H d e x y Q R r1 r2 P => by
  unfold oMulL at P
  split at P
  · split at P
    · rename_i xs e1
      split at P
      · rename_i hb
        obtain ⟨a, vs, rfl, h1, q1, _⟩ := sq_lst R r1 e1
        simp only [VRel] at r2
        subst r2
        exact ⟨a, _, vs, rfl, rfl, h1, hb.1, hb.2.1, by rw [sl_eq, ← q1.length]; exact hb.2.2, fun p hp => P.lst R (q1.replicate _) hp⟩
      · exact P.elim
    · exact P.elim
  · exact P.elim
def oMul : Op2 := orO oMulI oMulL
theorem opx_mul {C : Cp} : OpRx C (binaryOp .Mult) oMul := opx_mulI.or opx_mulL

/-! ### data without the store: equality -/
def seqO {α : Type} : List (Option α) → Option (List α)
  | [] => some []
  | o :: os => match o with
    | some a => (seqO os).map (a :: ·)
    | none => none
def toPy (S : Store) : Nat → D → Option PyData
  | _, .non => some .none
  | _, .bl b => some (.bool b)
  | _, .int i => some (.int i)
  | _, .str x => if PyData.strOk x then some (.str x) else none
  | k + 1, .tup ds => (seqO (ds.map (toPy S k))).map .tuple
  | k + 1, .fls ds => (seqO (ds.map (toPy S k))).map .list
  | k + 1, .ref i => match S[i]? with
    | some (.lst ds) => (seqO (ds.map (toPy S k))).map .list
    | _ => none
  | _, _ => none
theorem seqO_cons {α : Type} {o : Option α} {os : List (Option α)} {l : List α} (h : seqO (o :: os) = some l) : ∃ a r, o = some a ∧ seqO os = some r ∧ l = a :: r := by
  unfold seqO at h
  split at h
  · rename_i a
    cases e : seqO os with
    | none => rw [e] at h; cases h
    | some r => rw [e] at h; exact ⟨a, r, rfl, rfl, (Option.some.inj h).symm⟩
  · cases h
theorem sq_any {G : Glo} {φ : List Addr} {S : Store} {H : Hp} (R : Rel G φ S H) {d : D} {v : V} (h : VRel G φ H d v) : ∀ {k : Nat} {p : PyData}, toPy S k d = some p → Dp G.K H v p ∧ p.depth ≤ k ∧ p.canLay0 = true := by
  intro k
  induction k generalizing d v with
  | zero =>
    intro p e
    cases d with
    | non => simp only [VRel] at h; subst h; cases e; exact ⟨.non, Nat.le_refl _, rfl⟩
    | bl b => simp only [VRel] at h; subst h; cases e; exact ⟨.bl b, Nat.le_refl _, rfl⟩
    | int i => simp only [VRel] at h; subst h; cases e; exact ⟨.int i, Nat.le_refl _, rfl⟩
    | str x =>
      simp only [VRel] at h; subst h
      simp only [toPy] at e
      split at e
      · cases e; exact ⟨.str x, Nat.le_refl _, by assumption⟩
      · cases e
    | tup ds => cases e
    | ref i => cases e
    | st i => cases e
    | ty n => cases e
    | fls ds => cases e
  | succ k ih =>
    intro p e
    have all : ∀ {ds : List D} {vs : List V} {ps : List PyData}, VRels G φ H ds vs → seqO (ds.map (toPy S k)) = some ps → DpAll G.K H vs ps ∧ PyData.depthAll ps ≤ k ∧ PyData.canLayAll0 ps = true := by
      intro ds
      induction ds with
      | nil =>
        intro vs ps r q
        simp only [VRels] at r
        subst r
        cases q
        exact ⟨.nil, Nat.zero_le _, rfl⟩
      | cons d ds ihd =>
        intro vs ps r q
        simp only [VRels] at r
        obtain ⟨u, us, rfl, ru, rs⟩ := r
        obtain ⟨a, r', e1, e2, rfl⟩ := seqO_cons (by simpa using q)
        obtain ⟨x1, x2, x3⟩ := ih ru e1
        obtain ⟨y1, y2, y3⟩ := ihd rs e2
        exact ⟨.cons x1 y1, by simp only [PyData.depthAll]; omega, by simp only [PyData.canLayAll0, x3, y3, Bool.and_self]⟩
    cases d with
    | non => simp only [VRel] at h; subst h; cases e; exact ⟨.non, Nat.zero_le _, rfl⟩
    | bl b => simp only [VRel] at h; subst h; cases e; exact ⟨.bl b, Nat.zero_le _, rfl⟩
    | int i => simp only [VRel] at h; subst h; cases e; exact ⟨.int i, Nat.zero_le _, rfl⟩
    | str x =>
      simp only [VRel] at h; subst h
      simp only [toPy] at e
      split at e
      · cases e; exact ⟨.str x, Nat.zero_le _, by assumption⟩
      · cases e
    | tup ds =>
      simp only [VRel] at h
      obtain ⟨a, vs, rfl, s, r⟩ := h
      simp only [toPy, Option.map_eq_some_iff] at e
      obtain ⟨ps, e, rfl⟩ := e
      obtain ⟨x1, x2, x3⟩ := all r e
      exact ⟨.tup s x1, by simp only [PyData.depth]; omega, by simpa only [PyData.canLay0] using x3⟩
    | ref i =>
      simp only [toPy] at e
      split at e
      · rename_i ds es
        obtain ⟨a, vs, rfl, q, r, _⟩ := sq_lst R h es
        simp only [Option.map_eq_some_iff] at e
        obtain ⟨ps, e, rfl⟩ := e
        obtain ⟨x1, x2, x3⟩ := all r e
        exact ⟨.lst (SqL.of q) x1, by simp only [PyData.depth]; omega, by simpa only [PyData.canLay0] using x3⟩
      · cases e
    | st i => cases e
    | ty n => cases e
    | fls ds =>
      simp only [VRel] at h
      obtain ⟨a, vs, rfl, s, r⟩ := h
      simp only [toPy, Option.map_eq_some_iff] at e
      obtain ⟨ps, e, rfl⟩ := e
      obtain ⟨x1, x2, x3⟩ := all r e
      exact ⟨.lst s.sq x1, by simp only [PyData.depth]; omega, by simpa only [PyData.canLay0] using x3⟩
theorem shaped_of {p : PyData} {k : Nat} (h : k ≤ 64) (h1 : p.depth ≤ k) (h2 : p.canLay0 = true) : SeqAt.shaped p = true := by
  unfold SeqAt.shaped
  rw [h2, decide_eq_true (Nat.le_trans h1 h)]
  rfl
def eqD (S : Store) (d e : D) : Option Bool := match toPy S 60 d, toPy S 60 e with
  | some p, some q => some (PyData.eqv p q)
  | _, _ => none
theorem eqD_some {S : Store} {d e : D} {b : Bool} (h : eqD S d e = some b) : ∃ p q, toPy S 60 d = some p ∧ toPy S 60 e = some q ∧ b = PyData.eqv p q := by
  unfold eqD at h
  split at h
  · rename_i p q e1 e2
    exact ⟨p, q, e1, e2, (Option.some.inj h).symm⟩
  · cases h
def oEq : Op2 := fun d e S => (eqD S d e).map fun b => (.bl b, S)
def oNe : Op2 := fun d e S => (eqD S d e).map fun b => (.bl (!b), S)
theorem opx_eq {C : Cp} : OpRx C (compareOp .Eq) oEq := OpRx.imp (fun X => rEqD X.K) (fun X W hx => op_eqD hx.room.units) fun X W hx φ S H d e x y Q R r1 r2 P => by
  unfold oEq at P
  cases q : eqD S d e with
  | none => rw [q] at P; exact P.elim
  | some b =>
    rw [q] at P
    obtain ⟨p, p', e1, e2, rfl⟩ := eqD_some q
    obtain ⟨x1, x2, x3⟩ := sq_any R r1 e1
    obtain ⟨y1, y2, y3⟩ := sq_any R r2 e2
    rw [hx.K]
    exact ⟨p, p', x1, y1, shaped_of (by decide) x2 x3, shaped_of (by decide) y2 y3, P.now R (by simp only [VRel])⟩
theorem opx_ne {C : Cp} : OpRx C (compareOp .NotEq) oNe := OpRx.imp (fun X => rNeD X.K) (fun X W hx => op_neD hx.room.units) fun X W hx φ S H d e x y Q R r1 r2 P => by
  unfold oNe at P
  cases q : eqD S d e with
  | none => rw [q] at P; exact P.elim
  | some b =>
    rw [q] at P
    obtain ⟨p, p', e1, e2, rfl⟩ := eqD_some q
    obtain ⟨x1, x2, x3⟩ := sq_any R r1 e1
    obtain ⟨y1, y2, y3⟩ := sq_any R r2 e2
    rw [hx.K]
    exact ⟨p, p', x1, y1, shaped_of (by decide) x2 x3, shaped_of (by decide) y2 y3, P.now R (by simp only [VRel])⟩
end Z

/-! Z3: expressions, tests, arguments, targets, statements, loops, calls. -/
namespace Z
open PySem PySem.Spec PyProof.Rows L2

/-! ### operators in expressions -/
def dBin (op : Op2) (a b : DE) : DE := fun env S => (a env S).bind fun x S1 => (b env S1).bind fun y S2 => ofO (op x y S2)
def dUn (op : Op1) (a : DE) : DE := fun env S => (a env S).bind fun x S1 => ofO (op x S1)
section
variable {C : Cp} {a b c : Expr} {da db dc : DE} {pos : Pos}
theorem rd_bin {G : Glo} {W : WX} {op : Op2} {σ : St} {H : Hp} {Q : VK} (h : rdE G W (dBin op da db) σ H Q) : tOp (rdO G op) (rdE G W da) (rdE G W db) σ H Q := by
  obtain ⟨φ, S, env, R, E, P⟩ := h
  refine ⟨φ, S, env, R, E, P.bind.imp fun φ1 H1 S1 x n1 R1 P1 v1 r1 => ?_⟩
  refine ⟨φ1, S1, env, R1, E.nxt n1, P1.bind.imp fun φ2 H2 S2 y n2 R2 P2 v2 r2 => ?_⟩
  exact ⟨φ2, S2, x, y, R2, r1.nxt n2, r2, PstV.of P2⟩
theorem pex_op {o : Operator} {op : Op2} (ho : OpRx C (binaryOp o) op) (ha : PEx C a da) (hb : PEx C b db) : PEx C (.BinOp a o b pos) (dBin op da db) :=
  fun X W h => pe_imp (pe_op (ho X W h) (ha X W h) (hb X W h)) fun _ _ _ => rd_bin
theorem pex_cmp {o : CmpOp} {op : Op2} (ho : OpRx C (compareOp o) op) (ha : PEx C a da) (hb : PEx C b db) (hm : behindInMarks o b = false) : PEx C (.Compare a [o] [b] pos) (dBin op da db) :=
  fun X W h => pe_imp (pe_cmpR (ho X W h) (ha X W h) (hb X W h) hm) fun _ _ _ => rd_bin
theorem pex_un {o : UnaryOp} {op : Op1} (ho : UnRx C (unaryOp o) op) (ha : PEx C a da) : PEx C (.UnaryOp o a pos) (dUn op da) := fun X W h => by
  refine pe_imp (pe_un (ho X W h) (ha X W h)) fun σ H Q ⟨φ, S, env, R, E, P⟩ => ?_
  exact ⟨φ, S, env, R, E, P.bind.imp fun φ1 H1 S1 x n1 R1 P1 v1 r1 => ⟨φ1, S1, x, R1, r1, PstV.of P1⟩⟩
def oNeg : Op1 := fun d S => match d with
  | .int i => some (.int (-i), S)
  | _ => none
theorem unx_neg : UnRx C (unaryOp .USub) oNeg := fun X W hx pins s σ H x v Q I r ⟨φ, S, d, R, r1, P⟩ => by
  refine un_neg pins s σ H x v Q I r ?_
  unfold oNeg at P
  split at P
  · simp only [VRel] at r1
    exact ⟨_, r1, P.now R (by simp only [VRel])⟩
  · exact P.elim
def dChain (op op' : Op2) (a b c : DE) : DE := fun env S => (a env S).bind fun x S1 => (b env S1).bind fun y S2 => (ofO (op x y S2)).bind fun z S3 => match z with
  | .bl true => (c env S3).bind fun w S4 => ofO (op' y w S4)
  | .bl false => .ok (.bl false) S3
  | _ => .bad
theorem rd_chain {G : Glo} {W : WX} {op op' : Op2} {σ : St} {H : Hp} {Q : VK} (h : rdE G W (dChain op op' da db dc) σ H Q) : tChain (rdO G op) (rdO G op') (rdE G W da) (rdE G W db) (rdE G W dc) σ H Q := by
  obtain ⟨φ, S, env, R, E, P⟩ := h
  refine ⟨φ, S, env, R, E, P.bind.imp fun φ1 H1 S1 x n1 R1 P1 v1 r1 => ?_⟩
  refine ⟨φ1, S1, env, R1, E.nxt n1, P1.bind.imp fun φ2 H2 S2 y n2 R2 P2 v2 r2 => ?_⟩
  refine ⟨φ2, S2, x, y, R2, r1.nxt n2, r2, ?_⟩
  cases q : op x y S2 with
  | none => rw [q] at P2; exact P2
  | some p =>
    obtain ⟨z, S3⟩ := p
    rw [q] at P2
    intro φ3 H3 n3 R3 v3 r3
    have P3 := P2.bind φ3 H3 n3 R3
    cases z with
    | bl k =>
      simp only [VRel] at r3
      refine ⟨k, r3, ?_⟩
      cases k with
      | true =>
        refine iteT ?_
        refine ⟨φ3, S3, env, R3, E.nxt ((n1.trans n2).trans n3), Pst.bind (f := fun w S4 => ofO (op' y w S4)) P3 |>.imp fun φ4 H4 S4 w n4 R4 P4 v4 r4 => ?_⟩
        exact ⟨φ4, S4, y, w, R4, (r2.nxt n3).nxt n4, r4, PstV.of P4⟩
      | false => exact iteF (Pst.now P3 R3 _ (by simp only [VRel]))
    | _ => exact P3.elim
theorem pex_chain {o o' : CmpOp} {op op' : Op2} (ho : OpRx C (compareOp o) op) (ho' : OpRx C (compareOp o') op') (ha : PEx C a da) (hb : PEx C b db) (hc : PEx C c dc) (hm : lastMarks [o, o'] [b, c] = false) : PEx C (.Compare a [o, o'] [b, c] pos) (dChain op op' da db dc) :=
  fun X W h => pe_imp (pe_chain (ho X W h) (ho' X W h) (ha X W h) (hb X W h) (hc X W h) hm) fun _ _ _ => rd_chain
end

/-! ### truth, tests -/
def truD : D → Store → Option Bool
  | .non, _ => some false
  | .bl b, _ => some b
  | .int i, _ => some (i != 0)
  | .str x, _ => if x.length ≤ sl then some ((x.length : Int) != 0) else none
  | .tup ds, _ => some (!ds.isEmpty)
  | .fls ds, _ => some (!ds.isEmpty)
  | .ref i, S => match S[i]? with
    | some (.lst ds) => some (!ds.isEmpty)
    | some (.dK kvs) => some (!kvs.isEmpty)
    | _ => none
  | _, _ => none
theorem isEmpty_rel {G : Glo} {φ : List Addr} {H : Hp} {ds : List D} {vs : List V} (h : VRels G φ H ds vs) : ds.isEmpty = vs.isEmpty := by
  have := h.length
  cases ds <;> cases vs <;> first | rfl | simp at this
theorem kisEmpty_rel {κ : Type} {G : Glo} {φ : List Addr} {H : Hp} {ds : List (κ × D)} {vs : List (κ × V)} (h : KRel G φ H ds vs) : ds.isEmpty = vs.isEmpty := by
  cases ds with
  | nil => simp only [KRel] at h; subst h; rfl
  | cons p r => obtain ⟨k, d⟩ := p; obtain ⟨v, ks, e, _⟩ := h; rw [e]; rfl
theorem truD_ok {G : Glo} {φ : List Addr} {S : Store} {H : Hp} (R : Rel G φ S H) {d : D} {v : V} (r : VRel G φ H d v) {b : Bool} (h : truD d S = some b) : TruV G.K v H b := by
  cases d with
  | non => simp only [VRel] at r; subst r; cases h; rfl
  | bl b => simp only [VRel] at r; subst r; cases h; rfl
  | int i => simp only [VRel] at r; subst r; cases h; rfl
  | str x =>
    simp only [VRel] at r; subst r
    simp only [truD] at h
    split at h
    · cases h; exact ⟨by rw [sl_eq]; assumption, rfl⟩
    · cases h
  | tup ds =>
    simp only [VRel] at r
    obtain ⟨a, vs, rfl, s, q⟩ := r
    cases h
    exact .inr (.inl ⟨vs, s, by rw [isEmpty_rel q]⟩)
  | fls ds =>
    simp only [VRel] at r
    obtain ⟨a, vs, rfl, s, q⟩ := r
    cases h
    exact .inl ⟨vs, s.sq, by rw [isEmpty_rel q]⟩
  | ref i =>
    simp only [truD] at h
    simp only [VRel] at r
    obtain ⟨a, rfl, ha⟩ := r
    split at h
    · rename_i ds e
      obtain ⟨vs, q, rs⟩ := R.at_ i a _ ha e
      cases h
      exact .inl ⟨vs, SqL.of q, by rw [isEmpty_rel rs]⟩
    · rename_i ds e
      obtain ⟨vs, q, rs⟩ := R.at_ i a _ ha e
      cases h
      exact .inr (.inr ⟨vs, q, by rw [kisEmpty_rel rs]⟩)
    · cases h
  | st k => cases h
  | ty n => cases h
def ofB (o : Option Bool) (S : Store) : Res Bool := match o with
  | some b => .ok b S
  | none => .bad
@[simp] theorem ofB_some (b : Bool) (S : Store) : ofB (some b) S = .ok b S := rfl
def dTst (a : DE) : DT := fun env S => (a env S).bind fun x S1 => ofB (truD x S1) S1
def tAnd2 (a b : DT) : DT := fun env S => (a env S).bind fun c S1 => if c = true then b env S1 else .ok false S1
def tOr2 (a b : DT) : DT := fun env S => (a env S).bind fun c S1 => if c = true then .ok true S1 else b env S1
def tNot1 (a : DT) : DT := fun env S => (a env S).bind fun c S1 => .ok (!c) S1
def PWx (C : Cp) (e : Expr) (d : DT) : Prop := ∀ X W, Cxt C W X → PW X e (rdT C.G W d)
section
variable {C : Cp} {a b c : Expr} {rest : List Expr} {da db dc : DE} {ta tb : DT} {pos : Pos}
theorem pw_imp {X : Cx} {e : Expr} {t t' : TT} (h : PW X e t) (k : ∀ σ H Q, t' σ H Q → t σ H Q) : PW X e t' := ⟨fun wh pins s σ H Q I q => h.run wh pins s σ H Q I (k σ H Q q)⟩
/-- the value's truth, whatever the expression -/
theorem rd_tst {G : Glo} {W : WX} {σ : St} {H : Hp} {Q : Bool → Hp → Prop} (h : rdT G W (dTst da) σ H Q) : rdE G W da σ H fun x H' => ∃ k, TruV G.K x H' k ∧ Q k H' := by
  obtain ⟨φ, S, env, R, E, P⟩ := h
  refine ⟨φ, S, env, R, E, P.bind.imp fun φ1 H1 S1 x n1 R1 P1 v1 r1 => ?_⟩
  cases q : truD x S1 with
  | none => rw [q] at P1; exact P1.elim
  | some k => rw [q] at P1; exact ⟨k, truD_ok R1 r1 q, Pst.now P1 R1⟩
theorem ptx_truth (ha : PEx C a da) (he : ∀ env whole, isTrue a env whole = (do let v ← whole; standAt a.pos; holding [v] (truthy v)) := by intro _ _; rfl) : PTx C a (dTst da) := fun X W h => by
  refine pt_imp (pt_truth (ha X W h) (he X.env)) fun σ H Q q => ?_
  rw [h.K]
  exact rd_tst q
end
def dTstB (a : DE) : DT := fun env S => (a env S).bind fun x S1 => match x with
  | .bl k => .ok k S1
  | _ => .bad
section
variable {C : Cp} {a b c : Expr} {rest : List Expr} {da db dc : DE} {ta tb : DT} {pos : Pos}
theorem rd_tstB {G : Glo} {W : WX} {σ : St} {H : Hp} {Q : Bool → Hp → Prop} (h : rdT G W (dTstB da) σ H Q) : rdE G W da σ H fun x H' => ∃ k, x = .bl k ∧ Q k H' := by
  obtain ⟨φ, S, env, R, E, P⟩ := h
  refine ⟨φ, S, env, R, E, P.bind.imp fun φ1 H1 S1 x n1 R1 P1 v1 r1 => ?_⟩
  cases x with
  | bl k => simp only [VRel] at r1; exact ⟨k, r1, Pst.now P1 R1⟩
  | _ => exact P1.elim
theorem ptx_cmp {o : CmpOp} {op : Op2} (ho : OpRx C (compareOp o) op) (ha : PEx C a da) (hb : PEx C b db) (hm : behindInMarks o b = false) : PTx C (.Compare a [o] [b] pos) (dTstB (dBin op da db)) := fun X W h =>
  pt_imp (pt_cmpR (ho X W h) (ha X W h) (hb X W h) hm) fun σ H Q q => rd_bin (rd_tstB q)
theorem ptx_chain {o o' : CmpOp} {op op' : Op2} (ho : OpRx C (compareOp o) op) (ho' : OpRx C (compareOp o') op') (ha : PEx C a da) (hb : PEx C b db) (hc : PEx C c dc) (hm : lastMarks [o, o'] [b, c] = false) : PTx C (.Compare a [o, o'] [b, c] pos) (dTstB (dChain op op' da db dc)) := fun X W h =>
  pt_imp (pt_chain (ho X W h) (ho' X W h) (ha X W h) (hb X W h) (hc X W h) hm) fun σ H Q q => rd_chain (rd_tstB q)
theorem rd_and {G : Glo} {W : WX} {σ : St} {H : Hp} {Q : Bool → Hp → Prop} (h : rdT G W (tAnd2 ta tb) σ H Q) : L2.tAnd (rdT G W ta) (rdT G W tb) σ H Q := by
  obtain ⟨φ, S, env, R, E, P⟩ := h
  refine ⟨φ, S, env, R, E, P.bind.imp fun φ1 H1 S1 k n1 R1 P1 => ?_⟩
  cases k with
  | true => exact iteT ⟨φ1, S1, env, R1, E.nxt n1, P1⟩
  | false => exact iteF (Pst.now P1 R1)
theorem rd_or {G : Glo} {W : WX} {σ : St} {H : Hp} {Q : Bool → Hp → Prop} (h : rdT G W (tOr2 ta tb) σ H Q) : L2.tOr (rdT G W ta) (rdT G W tb) σ H Q := by
  obtain ⟨φ, S, env, R, E, P⟩ := h
  refine ⟨φ, S, env, R, E, P.bind.imp fun φ1 H1 S1 k n1 R1 P1 => ?_⟩
  cases k with
  | true => exact iteT (Pst.now P1 R1)
  | false => exact iteF ⟨φ1, S1, env, R1, E.nxt n1, P1⟩
theorem pwx_and1 (ha : PTx C a ta) : PWx C (.BoolOp .And [a] pos) ta := fun X W h => pw_and1 (ha X W h)
theorem pwx_or1 (ha : PTx C a ta) : PWx C (.BoolOp .Or [a] pos) ta := fun X W h => pw_or1 (ha X W h)
theorem pwx_and (ha : PTx C a ta) (hb : PWx C (.BoolOp .And (b :: rest) pos) tb) : PWx C (.BoolOp .And (a :: b :: rest) pos) (tAnd2 ta tb) := fun X W h => pw_imp (pw_and (ha X W h) (hb X W h)) fun _ _ _ => rd_and
theorem pwx_or (ha : PTx C a ta) (hb : PWx C (.BoolOp .Or (b :: rest) pos) tb) : PWx C (.BoolOp .Or (a :: b :: rest) pos) (tOr2 ta tb) := fun X W h => pw_imp (pw_or (ha X W h) (hb X W h)) fun _ _ _ => rd_or
theorem PWx.pt {e : Expr} {t : DT} (h : PWx C e t) : PTx C e t := fun X W hx => (h X W hx).pt
theorem ptx_not (ha : PTx C a ta) : PTx C (.UnaryOp .Not a pos) (tNot1 ta) := fun X W h => by
  refine pt_imp (pt_not (ha X W h)) fun σ H Q ⟨φ, S, env, R, E, P⟩ => ?_
  exact ⟨φ, S, env, R, E, P.bind.imp fun φ1 H1 S1 k n1 R1 P1 => Pst.now P1 R1⟩
end
/-! ### and, or, not as values; a if t else b -/
def dAndV (a b : DE) : DE := fun env S => (a env S).bind fun x S1 => (ofB (truD x S1) S1).bind fun k S1 => if k = true then b env S1 else .ok x S1
def dOrV (a b : DE) : DE := fun env S => (a env S).bind fun x S1 => (ofB (truD x S1) S1).bind fun k S1 => if k = true then .ok x S1 else b env S1
def dNotV (a : DE) : DE := fun env S => (a env S).bind fun x S1 => (ofB (truD x S1) S1).bind fun k S1 => .ok (.bl (!k)) S1
def dIf (t : DT) (a b : DE) : DE := fun env S => (t env S).bind fun k S1 => if k = true then a env S1 else b env S1
section
variable {C : Cp} {a b c : Expr} {rest : List Expr} {da db dc : DE} {ta tb : DT} {pos : Pos}
theorem pex_one {op : BoolOp} (ha : PEx C a da) : PEx C (.BoolOp op [a] pos) da := fun X W h => pe_one (ha X W h)
theorem pex_and (ha : PEx C a da) (hb : PEx C (.BoolOp .And (b :: rest) pos) db) : PEx C (.BoolOp .And (a :: b :: rest) pos) (dAndV da db) := fun X W h => by
  refine pe_imp (pe_andT (ha X W h) (hb X W h)) fun σ H Q ⟨φ, S, env, R, E, P⟩ => ?_
  refine ⟨φ, S, env, R, E, P.bind.imp fun φ1 H1 S1 x n1 R1 P1 v1 r1 => ?_⟩
  cases q : truD x S1 with
  | none => rw [q] at P1; exact P1.elim
  | some k =>
    rw [q] at P1
    rw [h.K]
    refine ⟨k, truD_ok R1 r1 q, ?_⟩
    cases k with
    | true => exact iteT ⟨φ1, S1, env, R1, E.nxt n1, P1⟩
    | false => exact iteF (Pst.now P1 R1 _ r1)
theorem pex_or (ha : PEx C a da) (hb : PEx C (.BoolOp .Or (b :: rest) pos) db) : PEx C (.BoolOp .Or (a :: b :: rest) pos) (dOrV da db) := fun X W h => by
  refine pe_imp (pe_orT (ha X W h) (hb X W h)) fun σ H Q ⟨φ, S, env, R, E, P⟩ => ?_
  refine ⟨φ, S, env, R, E, P.bind.imp fun φ1 H1 S1 x n1 R1 P1 v1 r1 => ?_⟩
  cases q : truD x S1 with
  | none => rw [q] at P1; exact P1.elim
  | some k =>
    rw [q] at P1
    rw [h.K]
    refine ⟨k, truD_ok R1 r1 q, ?_⟩
    cases k with
    | true => exact iteT (Pst.now P1 R1 _ r1)
    | false => exact iteF ⟨φ1, S1, env, R1, E.nxt n1, P1⟩
theorem pex_not (ha : PEx C a da) : PEx C (.UnaryOp .Not a pos) (dNotV da) := fun X W h => by
  refine pe_imp (pe_notT (ha X W h)) fun σ H Q ⟨φ, S, env, R, E, P⟩ => ?_
  refine ⟨φ, S, env, R, E, P.bind.imp fun φ1 H1 S1 x n1 R1 P1 v1 r1 => ?_⟩
  cases q : truD x S1 with
  | none => rw [q] at P1; exact P1.elim
  | some k =>
    rw [q] at P1
    rw [h.K]
    exact ⟨k, truD_ok R1 r1 q, Pst.now P1 R1 _ (by simp only [VRel])⟩
theorem pex_if (hc : PTx C c ta) (ha : PEx C a da) (hb : PEx C b db) : PEx C (.IfExp c a b pos) (dIf ta da db) := fun X W h => by
  refine pe_imp (pe_ifExp (hc X W h) (ha X W h) (hb X W h)) fun σ H Q ⟨φ, S, env, R, E, P⟩ => ?_
  refine ⟨φ, S, env, R, E, P.bind.imp fun φ1 H1 S1 k n1 R1 P1 => ?_⟩
  cases k with
  | true => exact iteT ⟨φ1, S1, env, R1, E.nxt n1, P1⟩
  | false => exact iteF ⟨φ1, S1, env, R1, E.nxt n1, P1⟩
end

/-! ### arguments, displays -/
def dNil : DA := fun _ S => .ok [] S
def dCons (a : DE) (r : DA) : DA := fun env S => (a env S).bind fun x S1 => (r env S1).bind fun xs S2 => .ok (x :: xs) S2
def dTup (r : DA) : DE := fun env S => (r env S).bind fun xs S1 => if xs.length ≤ sl then .ok (.tup xs) S1 else .bad
def mkL (xs : List D) (S : Store) : Res D := if xs.length ≤ sl then .ok (.ref S.length) (S ++ [.lst xs]) else .bad
def dLst (r : DA) : DE := fun env S => (r env S).bind fun xs S1 => mkL xs S1
section
variable {C : Cp} {a b c : Expr} {es : List Expr} {da : DE} {dr : DA} {pos : Pos}
theorem pax_nil : PAx C [] dNil := fun X W h => pa_imp pa_nil fun σ H Q ⟨φ, S, env, R, E, P⟩ => Pst.now P R [] VRels.nil
theorem pax_cons (ha : PEx C a da) (hr : PAx C es dr) (hs : ∀ env, starEach (a :: es) env = (false, eval a env) :: starEach es env := by intro _; rfl) : PAx C (a :: es) (dCons da dr) := fun X W h => by
  refine pa_imp (pa_cons (ha X W h) (hr X W h) (hs X.env)) fun σ H Q ⟨φ, S, env, R, E, P⟩ => ?_
  refine ⟨φ, S, env, R, E, P.bind.imp fun φ1 H1 S1 x n1 R1 P1 v1 r1 => ?_⟩
  exact ⟨φ1, S1, env, R1, E.nxt n1, P1.bind.imp fun φ2 H2 S2 xs n2 R2 P2 vs rs => Pst.now P2 R2 _ (VRels.cons (r1.nxt n2) rs)⟩
theorem pex_tup {j} (h : PAx C es dr) : PEx C (.Tuple es j pos) (dTup dr) := fun X W hx => by
  refine pe_imp (pe_tup (h X W hx)) fun σ H Q ⟨φ, S, env, R, E, P⟩ => ?_
  refine ⟨φ, S, env, R, E, P.bind.imp fun φ1 H1 S1 xs n1 R1 P1 vs rs => ?_⟩
  split at P1
  · refine ⟨by rw [sl_eq, ← rs.length]; assumption, fun p hp => ?_⟩
    exact PstV.tup (S := S1) P1 R1 rs hp
  · exact P1.elim
theorem mkL_ok {G : Glo} {B : Value → Option Addr → Hp → Prop} {φ : List Addr} {H : Hp} {Q : VK} {xs : List D} {vs : List V} {S : Store} (R : Rel G φ S H) (rs : VRels G φ H xs vs) (P : Pst G B φ H (fun φ' H' _ x => ∀ v, VRel G φ' H' x v → Q v H') (mkL xs S)) :
    vs.length ≤ sizeLine ∧ ∀ p, H p = none → Q (.ref p) (upd H p (.lst vs)) := by
  unfold mkL at P
  split at P
  · exact ⟨by rw [sl_eq, ← rs.length]; assumption, fun p hp => PstV.lst (S := S) P R rs hp⟩
  · exact P.elim
theorem pex_lst (h : PAx C es dr) : PEx C (.List es pos) (dLst dr) := fun X W hx => by
  refine pe_imp (pe_lst (h X W hx)) fun σ H Q ⟨φ, S, env, R, E, P⟩ => ?_
  exact ⟨φ, S, env, R, E, P.bind.imp fun φ1 H1 S1 xs n1 R1 P1 vs rs => mkL_ok R1 rs P1⟩
end

/-! ### statements -/
def sNext : DS := fun env S => .ok (.nx env) S
def sSeq (a b : DS) : DS := fun env S => (a env S).bind fun f S1 => match f with
  | .nx e => b e S1
  | f => .ok f S1
def sExpr (a : DE) : DS := fun env S => (a env S).bind fun _ S1 => .ok (.nx env) S1
def sRet (a : DE) : DS := fun env S => (a env S).bind fun x S1 => .ok (.rt x) S1
def sRetN : DS := fun _ S => .ok (.rt .non) S
def sBrk : DS := fun env S => .ok (.bk env) S
def sCnt : DS := fun env S => .ok (.ct env) S
def sIf (t : DT) (a b : DS) : DS := fun env S => (t env S).bind fun k S1 => if k = true then a env S1 else b env S1
def sNever : DS := fun _ _ => .bad
section
variable {C : Cp} {a c : Expr} {da : DE} {tc : DT} {st : Stmt} {sts sts' : List Stmt} {ds ds' : DS} {pos : Pos}
theorem rd_seq {G : Glo} {W : WX} {D : Ends} {σ : St} {H : Hp} (h : rdS G W (sSeq ds ds') D σ H) : tSeq (rdS G W ds) (rdS G W ds') D σ H := by
  obtain ⟨φ, S, env, R, E, P⟩ := h
  refine ⟨φ, S, env, R, E, P.bind.imp fun φ1 H1 S1 f n1 R1 P1 => ?_⟩
  cases f with
  | nx e => exact fun σ1 E1 => ⟨φ1, S1, e, R1, E1, P1⟩
  | rt d => exact Pst.now P1 R1
  | bk e => exact Pst.now P1 R1
  | ct e => exact Pst.now P1 R1
theorem pssx_nil : PSsx C [] sNext := fun X W h => pss_imp pss_nil fun D σ H ⟨φ, S, env, R, E, P⟩ => Pst.now P R σ E
theorem pssx_cons (h1 : PSx C st ds) (h2 : PSsx C sts ds') : PSsx C (st :: sts) (sSeq ds ds') := fun X W h => pss_imp (pss_cons (h1 X W h) (h2 X W h)) fun _ _ _ => rd_seq
theorem pssx_one (h1 : PSx C st ds) : PSsx C [st] ds := fun X W h => pss_one (h1 X W h)
theorem psx_pass : PSx C (.Pass pos) sNext := fun X W h => ps_imp ps_pass fun D σ H ⟨φ, S, env, R, E, P⟩ => Pst.now P R σ E
theorem psx_brk : PSx C (.Break pos) sBrk := fun X W h => ps_imp ps_break fun D σ H ⟨φ, S, env, R, E, P⟩ => Pst.now P R σ E
theorem psx_cnt : PSx C (.Continue pos) sCnt := fun X W h => ps_imp ps_continue fun D σ H ⟨φ, S, env, R, E, P⟩ => Pst.now P R σ E
theorem psx_never : PSx C st sNever := fun X W h => ps_imp ps_never fun D σ H ⟨φ, S, env, R, E, P⟩ => P
theorem pssx_never : PSsx C sts sNever := fun X W h => pss_imp pss_never fun D σ H ⟨φ, S, env, R, E, P⟩ => P
theorem pst_err {G : Glo} {W : WX} {α : Type} {σ : St} {φ : List Addr} {H : Hp} {K : List Addr → Hp → Store → α → Prop} {r : Res α} (h : Pst G (fun c p H' => ∀ σ', W c p σ' H') φ H K r) : Pst G (fun c p H' => W c p σ H') φ H K r := by
  cases r with
  | ok a S => exact h
  | er x S => exact fun φ1 H1 n1 R1 cls dd xr => h φ1 H1 n1 R1 cls dd xr σ
  | bad => exact h
theorem psx_expr (ha : PEx C a da) (hs : ∀ env, swapsWith a none pos.line env = pure false := by intro _; rfl) : PSx C (.Expr a pos) (sExpr da) := fun X W h => by
  refine ps_imp (ps_expr (ha X W h) (hs X.env)) fun D σ H ⟨φ, S, env, R, E, P⟩ => ?_
  refine ⟨φ, S, env, R, E, Pst.bind (B := fun c p H' => W c p σ H') ?_ |>.imp fun φ1 H1 S1 x n1 R1 P1 v1 r1 => (Pst.now P1 R1 : FlP C.G D φ1 H1 (.nx env)) σ (E.nxt n1)⟩
  exact pst_err P
theorem psx_ret (ha : PEx C a da) : PSx C (.Return (some a) pos) (sRet da) := fun X W h => by
  refine ps_imp (ps_ret (ha X W h)) fun D σ H ⟨φ, S, env, R, E, P⟩ => ?_
  exact ⟨φ, S, env, R, E, (pst_err P).bind.imp fun φ1 H1 S1 x n1 R1 P1 v1 r1 => (Pst.now P1 R1 : FlP C.G D φ1 H1 (.rt x)) v1 r1⟩
theorem psx_retN : PSx C (.Return none pos) sRetN := fun X W h => ps_imp ps_retN fun D σ H ⟨φ, S, env, R, E, P⟩ => Pst.now P R .non (by simp only [VRel])
theorem psx_if (hc : PTx C c tc) (ha : PSsx C sts ds) (hb : PSsx C sts' ds') : PSx C (.If c sts sts' pos) (sIf tc ds ds') := fun X W h => by
  refine ps_imp (ps_if (hc X W h) (ha X W h) (hb X W h)) fun D σ H ⟨φ, S, env, R, E, P⟩ => ?_
  have P1 : Pst C.G (fun c p H' => ∀ σ', W c p σ' H') φ H (fun φ1 H1 S1 k => Pst C.G (fun c p H' => ∀ σ', W c p σ' H') φ1 H1 (fun φ' H' _ f => FlP C.G D φ' H' f) (if k = true then ds env S1 else ds' env S1)) (tc env S) := P.bind
  refine ⟨φ, S, env, R, E, (pst_err P1).imp fun φ1 H1 S1 k n1 R1 P1 => ?_⟩
  cases k with
  | true => exact iteT ⟨φ1, S1, env, R1, E.nxt n1, P1⟩
  | false => exact iteF ⟨φ1, S1, env, R1, E.nxt n1, P1⟩
end
end Z

/-! Z4: targets, assignments, loops, comprehensions, defs and their calls. -/
namespace Z
open PySem PySem.Spec PyProof.Rows L2

/-! ### targets -/
abbrev DG := D → En → Store → Res En
abbrev DGs := List D → En → Store → Res En
def GK (G : Glo) (vs : List Nat) (σ : St) (Q : St → Hp → Prop) : List Addr → Hp → Store → En → Prop := fun φ' H' _ e => ∀ σ', ERel G φ' H' e σ' → σ'.length = σ.length → (∀ j : Nat, j ∉ vs → σ'[j]? = σ[j]?) → Q σ' H'
def rdG (G : Glo) (W : WX) (vs : List Nat) (g : DG) : TG := fun v σ H Q => ∃ φ S env d, Rel G φ S H ∧ ERel G φ H env σ ∧ VRel G φ H d v ∧ Pst G (fun c p H' => ∀ σ', W c p σ' H') φ H (GK G vs σ Q) (g d env S)
def rdGs (G : Glo) (W : WX) (vs : List Nat) (g : DGs) : TGs := fun us σ H Q => ∃ φ S env ds, Rel G φ S H ∧ ERel G φ H env σ ∧ VRels G φ H ds us ∧ Pst G (fun c p H' => ∀ σ', W c p σ' H') φ H (GK G vs σ Q) (g ds env S)
def PGx (C : Cp) (e : Expr) (vs : List Nat) (g : DG) : Prop := ∀ X W, Cxt C W X → PG X e (rdG C.G W vs g)
def PGsx (C : Cp) (es : List Expr) (vs : List Nat) (g : DGs) : Prop := ∀ X W, Cxt C W X → PGs X es (rdGs C.G W vs g)
theorem pg_imp {X : Cx} {e : Expr} {t t' : TG} (h : PG X e t) (k : ∀ v σ H Q, t' v σ H Q → t v σ H Q) : PG X e t' := ⟨fun pins s σ H v u Q I r q => h.run pins s σ H v u Q I r (k v σ H Q q)⟩
theorem pgs_imp {X : Cx} {es : List Expr} {t t' : TGs} (h : PGs X es t) (k : ∀ v σ H Q, t' v σ H Q → t v σ H Q) : PGs X es t' := ⟨fun pins s σ H v u Q I r q => h.run pins s σ H v u Q I r (k v σ H Q q)⟩
def locB (C : Cp) (x : Str) : Bool := match C.sc.names.lookup x with
  | some .local => true
  | some .cell => C.fn x
  | _ => false
def gNm (i : Nat) : DG := fun d env S => .ok (env.set i (some d)) S
def gNil : DGs := fun ds env S => match ds with
  | [] => .ok env S
  | _ => .bad
def gCons (g : DG) (r : DGs) : DGs := fun ds env S => match ds with
  | d :: t => (g d env S).bind fun e S1 => r t e S1
  | [] => .bad
def gTup (n : Nat) (g : DGs) : DG := fun d env S => match d with
  | .tup ds => if ds.length = n then g ds env S else .bad
  | .ref i => match S[i]? with
    | some (.lst ds) => if ds.length = n then g ds env S else .bad
    | _ => .bad
  | _ => .bad
section
variable {C : Cp} {pos : Pos}
theorem locB_ok {x : Str} (h : locB C x = true) {X : Cx} {W : WX} (hx : Cxt C W X) : Loc X.env.scope x ∧ (X.fn x = true ∨ X.env.scope.names.lookup x = some .local) := by
  rw [hx.sc, hx.fn]
  unfold locB at h
  split at h
  · exact ⟨.inl (by assumption), .inr (by assumption)⟩
  · exact ⟨.inr (by assumption), .inl h⟩
  · cases h
theorem set_other {σ : St} {i : Nat} {v : Option V} {j : Nat} (h : j ∉ [i]) : (σ.set i v)[j]? = σ[j]? := List.getElem?_set_ne fun e => h (by simp [e])
theorem pgx_nm (i : Nat) {x : Str} (nd : C.N.Nodup) (hN : C.N[i]? = some x) (hl : locB C x = true) : PGx C (.Name x pos) [i] (gNm i) := fun X W h => by
  obtain ⟨l1, l2⟩ := locB_ok hl h
  refine pg_imp (pg_name (X := X) (i := i) (by rw [h.N]; exact nd) (by rw [h.N]; exact hN) l1 l2) fun v σ H Q ⟨φ, S, env, d, R, E, r, P⟩ => ?_
  exact Pst.now P R _ (E.set r) (by simp) fun j hj => set_other hj
theorem pgsx_nil : PGsx C [] [] gNil := fun X W h => by
  refine pgs_imp pgs_nil fun vs σ H Q ⟨φ, S, env, ds, R, E, r, P⟩ => ?_
  cases ds with
  | nil =>
    simp only [VRels] at r
    exact ⟨r, Pst.now P R _ E rfl fun _ _ => rfl⟩
  | cons d t => exact P.elim
theorem pgsx_cons {e : Expr} {es : List Expr} {vs ws : List Nat} {g : DG} {gs : DGs} (h1 : PGx C e vs g) (h2 : PGsx C es ws gs) (hs : ∀ env, (assignEach (e :: es) env).map (·.2) = assign e env :: (assignEach es env).map (·.2) := by intro _; rfl) : PGsx C (e :: es) (vs ++ ws) (gCons g gs) := fun X W h => by
  refine pgs_imp (pgs_cons (h1 X W h) (h2 X W h) (hs X.env)) fun us σ H Q ⟨φ, S, env, ds, R, E, r, P⟩ => ?_
  cases ds with
  | nil => exact P.elim
  | cons d t =>
    simp only [VRels] at r
    obtain ⟨u, us', e, r, rs⟩ := r
    refine ⟨u, us', e, φ, S, env, d, R, E, r, Pst.imp (Pst.bind (f := fun e S1 => gs t e S1) P) fun φ1 H1 S1 env1 n1 R1 P1 σ1 E1 l1 k1 => ?_⟩
    refine ⟨φ1, S1, env1, t, R1, E1, rs.nxt n1, P1.imp fun φ2 H2 S2 env2 n2 R2 P2 σ2 E2 l2 k2 => P2 σ2 E2 (l2.trans l1) fun j hj => ?_⟩
    rw [List.mem_append, not_or] at hj
    exact (k2 j hj.2).trans (k1 j hj.1)
theorem pgx_tup {es : List Expr} {k n : Nat} {vs : List Nat} {gs : DGs} (h : PGsx C es vs gs) (hn : ∀ env, (assignEach es env).length = n := by intro _; rfl) (hst : ∀ env, (assignEach es env).findIdx? (·.1) = none := by intro _; rfl) : PGx C (.Tuple es k pos) vs (gTup n gs) := fun X W hx => by
  refine ⟨fun pins s σ H v u Q I ru ⟨φ, S, env, d, R, E, r, P⟩ => ?_⟩
  cases d with
  | tup ds =>
    have r' := r
    simp only [VRel] at r
    obtain ⟨a, us, rfl, q, rs⟩ := r
    have P' : Pst C.G (fun c p H' => ∀ σ', W c p σ' H') φ H (GK C.G vs σ Q) (if ds.length = n then gs ds env S else .bad) := P
    split at P'
    · exact (pg_tup hx.calm (h X W hx) (hn X.env) (hst X.env)).run pins s σ H _ u Q I ru ⟨a, us, rfl, by rw [hx.K]; exact q, by rw [← rs.length]; assumption, φ, S, env, ds, R, E, rs, P'⟩
    · exact P'.elim
  | ref i =>
    have P' : Pst C.G (fun c p H' => ∀ σ', W c p σ' H') φ H (GK C.G vs σ Q) (match S[i]? with | some (.lst ds) => if ds.length = n then gs ds env S else .bad | _ => .bad) := P
    split at P'
    · rename_i ds e
      split at P'
      · obtain ⟨a, us, rfl, q, rs, _⟩ := sq_lst R r e
        exact (pg_lst hx.calm (h X W hx) (hn X.env) (hst X.env)).run pins s σ H _ u Q I ru ⟨a, us, rfl, SqL.of q, by rw [← rs.length]; assumption, φ, S, env, ds, R, E, rs, P'⟩
      · exact P'.elim
    · exact P'.elim
  | _ => exact P.elim
end

/-! ### assignments -/
def sAsg (a : DE) (g : DG) : DS := fun env S => (a env S).bind fun x S1 => (g x env S1).bind fun e S2 => .ok (.nx e) S2
section
variable {C : Cp} {a t : Expr} {da : DE} {vs : List Nat} {g : DG} {pos : Pos}
theorem rd_asg {G : Glo} {W : WX} {D : Ends} {σ : St} {H : Hp} (h : rdS G W (sAsg da g) D σ H) : tAsg (rdE G W da) (rdG G W vs g) D σ H := by
  obtain ⟨φ, S, env, R, E, P⟩ := h
  refine ⟨φ, S, env, R, E, (pst_err P.bind).imp fun φ1 H1 S1 x n1 R1 P1 v1 r1 => ?_⟩
  exact ⟨φ1, S1, env, x, R1, E.nxt n1, r1, P1.bind.imp fun φ2 H2 S2 e n2 R2 P2 σ2 E2 _ _ => (Pst.now P2 R2 : FlP G D φ2 H2 (.nx e)) σ2 E2⟩
theorem psx_asg (ha : PEx C a da) (hg : PGx C t vs g) (hs : ∀ env, swapsWithSole [t] a pos.line env = pure false := by intro _; rfl) (hw : ∀ env, swappedStores [t] a env = pure none := by intro _; rfl)
    (h1 : ∀ env, (assignEach [t] env).map (·.2) = [assign t env] := by intro _; rfl) : PSx C (.Assign [t] a pos) (sAsg da g) := fun X W h =>
  ps_imp (ps_asg (ha X W h) (hg X W h) (hs X.env) (hw X.env) (h1 X.env)) fun _ _ _ => rd_asg
theorem psx_set (i : Nat) {x : Str} {px : Pos} (nd : C.N.Nodup) (hN : C.N[i]? = some x) (hl : locB C x = true) (ha : PEx C a da) (hs : ∀ env, swapsWithSole [.Name x px] a pos.line env = pure false := by intro _; rfl) (hw : ∀ env, swappedStores [.Name x px] a env = pure none := by intro _; rfl) :
    PSx C (.Assign [.Name x px] a pos) (sAsg da (gNm i)) := psx_asg ha (pgx_nm i nd hN hl) hs hw
/-- a, b = e1, e2, no tuple made -/
theorem psx_par {i j : Nat} {x y : Str} {b c : Expr} {dr : DA} {px py pt pt2 : Pos} {kt k2} (nd : C.N.Nodup) (hi : C.N[i]? = some x) (hj : C.N[j]? = some y) (hij : i ≠ j) (hx : C.sc.names.lookup x = some .local) (hy : C.sc.names.lookup y = some .local) (ha : PAx C [b, c] dr)
    (hw : ∀ env : Env, env.scope = C.sc → swappedStores [.Tuple [.Name x px, .Name y py] kt pt] (.Tuple [b, c] k2 pt2) env = pure (some [x, y]))
    (hs : ∀ env, swapsWithSole [.Tuple [.Name x px, .Name y py] kt pt] (.Tuple [b, c] k2 pt2) pos.line env = pure false := by intro _; rfl) :
    PSx C (.Assign [.Tuple [.Name x px, .Name y py] kt pt] (.Tuple [b, c] k2 pt2) pos) (sAsg (dTup dr) (gTup 2 (gCons (gNm i) (gCons (gNm j) gNil)))) := fun X W h => by
  refine ps_imp (ps_par h.calm (by rw [h.N]; exact nd) (by rw [h.N]; exact hi) (by rw [h.N]; exact hj) hij (by rw [h.sc]; exact hx) (by rw [h.sc]; exact hy) (ha X W h) (hw X.env h.sc) (hs X.env)) fun D σ H ⟨φ, S, env, R, E, P⟩ => ?_
  have P0 : Pst C.G (fun c p H' => ∀ σ', W c p σ' H') φ H _ (dTup dr env S) := P.bind
  unfold dTup at P0
  refine ⟨φ, S, env, R, E, (pst_err P0.bind).imp fun φ1 H1 S1 xs n1 R1 P1 vs rs => ?_⟩
  split at P1
  · have P2 := Pst.now P1 R1
    match xs, rs, P2 with
    | [d, e], rs, P2 =>
      simp only [VRels] at rs
      obtain ⟨v, us, rfl, rv, w, us', rfl, rw', rfl⟩ := rs
      refine ⟨v, w, rfl, ?_⟩
      exact (Pst.now (α := Fl) P2 R1 : FlP C.G D φ1 H1 (.nx _)) _ (((E.nxt n1).set rv).set rw')
    | [], rs, P2 => exact P2.elim
    | [_], rs, P2 => exact P2.elim
    | _ :: _ :: _ :: _, rs, P2 =>
      exfalso
      simp [gTup, Res.bind, Pst] at P2
  · exact P1.elim
end

/-! ### what a for walks -/
abbrev Itd := Nat → Store → Option (Option D)
structure ItRel (G : Glo) (φ0 : List Addr) (H0 : Hp) (J : Itd) (Jx : It) : Prop where
  stop : ∀ i φ S H, Nxt φ0 φ H0 H → Rel G φ S H → J i S = some none → Jx.stop i H
  go : ∀ i φ S H d, Nxt φ0 φ H0 H → Rel G φ S H → J i S = some (some d) → Jx.go i H ∧ ∀ x H', Jx.yld i H x H' → Nxt φ φ H H' ∧ Rel G φ S H' ∧ VRel G φ H' d x
abbrev DI := En → Store → Res Itd
def rdI (G : Glo) (W : WX) (d : DI) : TI := fun σ H R => ∃ φ S env, Rel G φ S H ∧ ERel G φ H env σ ∧ Pst G (fun c p H' => W c p σ H') φ H (fun φ' H' _ J => ∀ Jx, ItRel G φ' H' J Jx → R Jx H') (d env S)
def PIx (C : Cp) (tg iter : Expr) (d : DI) : Prop := ∀ X W, Cxt C W X → PI X tg iter (rdI C.G W d)
theorem pi_imp {X : Cx} {tg e : Expr} {t t' : TI} (h : PI X tg e t) (k : ∀ σ H R, t' σ H R → t σ H R) : PI X tg e t' := ⟨fun pins s σ H R I q => h.run pins s σ H R I (k σ H R q)⟩

/-- the list i as it stands, a tuple's items, ints -/
def jL (i : Nat) : Itd := fun k S => match S[i]? with
  | some (.lst ds) => some ds[k]?
  | _ => none
def jT (ds : List D) : Itd := fun k _ => some ds[k]?
def jR (lo : Int) (n : Nat) : Itd := fun k _ => some (if k < n then some (.int (lo + (k : Int))) else none)
def seqJ : D → Store → Option Itd
  | .tup ds, _ => some (jT ds)
  | .fls ds, _ => some (jT ds)
  | .ref i, S => match S[i]? with
    | some (.lst _) => some (jL i)
    | _ => none
  | _, _ => none
def iSeq (a : DE) : DI := fun env S => (a env S).bind fun x S1 => match seqJ x S1 with
  | some J => .ok J S1
  | none => .bad
section
variable {G : Glo} {φ0 φ : List Addr} {H0 H : Hp} {S : Store}
theorem SqL.uniq {K : PySem.W.Frag} {H : Hp} {a : Addr} {xs : List V} (h : H a = some (.lst xs)) : SqL K H a xs := SqL.of h
theorem it_list {i : Nat} {a : Addr} (ha : φ0[i]? = some a) : ItRel G φ0 H0 (jL i) (Itl G.K a) := by
  refine ⟨fun k φ S H n R e => ?_, fun k φ S H d n R e => ?_⟩
  · unfold jL at e
    split at e
    · rename_i ds es
      obtain ⟨vs, q, rs⟩ := R.at_ i a _ (n.at_ ha) es
      exact ⟨vs, SqL.of q, by rw [← rs.length]; exact List.getElem?_eq_none_iff.mp (Option.some.inj e)⟩
    · cases e
  · unfold jL at e
    split at e
    · rename_i ds es
      obtain ⟨vs, q, rs⟩ := R.at_ i a _ (n.at_ ha) es
      obtain ⟨v, hv, rv⟩ := rs.get (Option.some.inj e)
      refine ⟨⟨vs, v, SqL.of q, hv⟩, fun x H' y => ?_⟩
      obtain ⟨rfl, y⟩ := y
      have := y vs (SqL.of q)
      rw [hv] at this; cases this
      exact ⟨Nxt.refl _ _, R, rv⟩
    · cases e
theorem it_tup {ds : List D} {a : Addr} {vs : List V} (h : SqT G.K H0 a vs) (rs : VRels G φ0 H0 ds vs) : ItRel G φ0 H0 (jT ds) (Itt G.K a) := by
  refine ⟨fun k φ S H n R e => ?_, fun k φ S H d n R e => ?_⟩
  · exact ⟨vs, n.grow.sqt h, by rw [← rs.length]; exact List.getElem?_eq_none_iff.mp (Option.some.inj e)⟩
  · obtain ⟨v, hv, rv⟩ := rs.get (Option.some.inj e)
    refine ⟨⟨vs, v, n.grow.sqt h, hv⟩, fun x H' y => ?_⟩
    obtain ⟨rfl, y⟩ := y
    have := y vs (n.grow.sqt h)
    rw [hv] at this; cases this
    exact ⟨Nxt.refl _ _, R, rv.nxt n⟩
theorem it_fls {ds : List D} {a : Addr} {vs : List V} (h : FzL G.K H0 a vs) (rs : VRels G φ0 H0 ds vs) : ItRel G φ0 H0 (jT ds) (Itl G.K a) := by
  refine ⟨fun k φ S H n R e => ?_, fun k φ S H d n R e => ?_⟩
  · exact ⟨vs, (n.grow.fzl h).sq, by rw [← rs.length]; exact List.getElem?_eq_none_iff.mp (Option.some.inj e)⟩
  · obtain ⟨v, hv, rv⟩ := rs.get (Option.some.inj e)
    refine ⟨⟨vs, v, (n.grow.fzl h).sq, hv⟩, fun x H' y => ?_⟩
    obtain ⟨rfl, y⟩ := y
    have := y vs (n.grow.fzl h).sq
    rw [hv] at this; cases this
    exact ⟨Nxt.refl _ _, R, rv.nxt n⟩
theorem it_rng {lo : Int} {n : Nat} : ItRel G φ0 H0 (jR lo n) (Itr lo n) := by
  refine ⟨fun k φ S H nx R e => ?_, fun k φ S H d nx R e => ?_⟩
  · have e' : (if k < n then some (D.int (lo + (k : Int))) else none) = none := Option.some.inj e
    show n ≤ k
    by_cases h : k < n
    · rw [if_pos h] at e'; cases e'
    · omega
  · have e' : (if k < n then some (D.int (lo + (k : Int))) else none) = some d := Option.some.inj e
    by_cases h : k < n
    · rw [if_pos h] at e'
      cases e'
      refine ⟨h, fun x H' y => ?_⟩
      obtain ⟨rfl, rfl⟩ := y
      exact ⟨Nxt.refl _ _, R, by simp only [VRel]⟩
    · rw [if_neg h] at e'; cases e'
end
section
variable {C : Cp} {tg a b : Expr} {da : DE} {dr : DA} {pos p : Pos}
theorem pix_seq (ha : PEx C a da) : PIx C tg a (iSeq da) := fun X W h => by
  refine ⟨fun pins s σ H Rr I ⟨φ, S, env, R, E, P⟩ => ?_⟩
  have P0 := P.bind
  cases q : da env S with
  | bad => rw [q] at P0; exact P0.elim
  | er x S1 =>
    rw [q] at P0
    exact (pi_tup (ha X W h)).run pins s σ H Rr I ⟨φ, S, env, R, E, by rw [q]; exact P0⟩
  | ok x S1 =>
    rw [q] at P0
    cases e : seqJ x S1 with
    | none => simp only [iSeq, q, Res.bind_ok, e] at P; exact P.elim
    | some J =>
      have key : ∀ φ1 H1, Nxt φ φ1 H H1 → Rel C.G φ1 S1 H1 → ∀ Jx, ItRel C.G φ1 H1 J Jx → Rr Jx H1 := fun φ1 H1 n1 R1 Jx r => by
        have P1 := P0 φ1 H1 n1 R1
        dsimp only at P1
        rw [e] at P1
        exact Pst.now P1 R1 Jx r
      cases x with
      | tup ds =>
        refine (pi_tup (ha X W h)).run pins s σ H Rr I ⟨φ, S, env, R, E, ?_⟩
        rw [q]
        intro φ1 H1 n1 R1 v1 r1
        simp only [VRel] at r1
        obtain ⟨b, vs, rfl, sq, rs⟩ := r1
        have eJ : jT ds = J := Option.some.inj e
        subst eJ
        exact ⟨b, rfl, ⟨vs, by rw [h.K]; exact sq⟩, key φ1 H1 n1 R1 _ (by rw [h.K]; exact it_tup sq rs)⟩
      | fls ds =>
        refine (pi_list (ha X W h)).run pins s σ H Rr I ⟨φ, S, env, R, E, ?_⟩
        rw [q]
        intro φ1 H1 n1 R1 v1 r1
        simp only [VRel] at r1
        obtain ⟨b, vs, rfl, sq, rs⟩ := r1
        have eJ : jT ds = J := Option.some.inj e
        subst eJ
        exact ⟨b, rfl, ⟨vs, by rw [h.K]; exact sq.sq⟩, key φ1 H1 n1 R1 _ (by rw [h.K]; exact it_fls sq rs)⟩
      | ref i =>
        refine (pi_list (ha X W h)).run pins s σ H Rr I ⟨φ, S, env, R, E, ?_⟩
        rw [q]
        intro φ1 H1 n1 R1 v1 r1
        have e' : (match S1[i]? with
          | some (.lst _) => some (jL i)
          | _ => none) = some J := e
        split at e'
        · rename_i ds es
          obtain ⟨b, vs, rfl, sq, rs, hb⟩ := sq_lst R1 r1 es
          cases e'
          exact ⟨b, rfl, ⟨vs, SqL.of sq⟩, key φ1 H1 n1 R1 _ (by rw [h.K]; exact it_list hb)⟩
        · cases e'
      | _ => cases e
def glB (C : Cp) (x : Str) : Bool := match C.sc.names.lookup x with
  | some .globalImplicit => true
  | _ => false
theorem glB_ok {x : Str} (h : glB C x = true) {X : Cx} {W : WX} (hx : Cxt C W X) : Gl X x := by
  unfold glB at h
  split at h
  · show X.env.scope.names.lookup x = _
    rw [hx.sc]; assumption
  · cases h
def iRng1 (r : DA) : DI := fun env S => (r env S).bind fun xs S1 => match xs with
  | [.int j] => if -(2 ^ 62) ≤ j ∧ j < 2 ^ 62 then .ok (jR 0 j.toNat) S1 else .bad
  | _ => .bad
def iRng2 (r : DA) : DI := fun env S => (r env S).bind fun xs S1 => match xs with
  | [.int i, .int j] => if -(2 ^ 62) ≤ i ∧ i < 2 ^ 62 ∧ -(2 ^ 62) ≤ j ∧ j < 2 ^ 62 then .ok (jR i (j - i).toNat) S1 else .bad
  | _ => .bad
theorem pix_range1 (hg : glB C "range" = true) (hm : C.G.mg "range" = none) (ha : PAx C [a] dr) (hs : ∀ env, starEach [a] env = [(false, eval a env)] := by intro _; rfl) : PIx C tg (.Call (.Name "range" p) [a] [] pos) (iRng1 dr) := fun X W h => by
  refine pi_imp (pi_range1 (glB_ok hg h) (by rw [h.mg]; exact hm) (ha X W h) (hs X.env)) fun σ H Rr ⟨φ, S, env, R, E, P⟩ => ?_
  refine ⟨φ, S, env, R, E, P.bind.imp fun φ1 H1 S1 xs n1 R1 P1 vs rs => ?_⟩
  match xs, rs, P1 with
  | [.int j], rs, P1 =>
    simp only [VRels, VRel] at rs
    obtain ⟨u, us, rfl, rfl, rfl⟩ := rs
    simp only [] at P1
    split at P1
    · rename_i hb
      exact ⟨j, rfl, hb.1, hb.2, Pst.now P1 R1 _ it_rng⟩
    · exact P1.elim
  | [], rs, P1 => exact P1.elim
  | [.non], rs, P1 => exact P1.elim
  | [.bl _], rs, P1 => exact P1.elim
  | [.str _], rs, P1 => exact P1.elim
  | [.tup _], rs, P1 => exact P1.elim
  | [.ref _], rs, P1 => exact P1.elim
  | [.st _], rs, P1 => exact P1.elim
  | [.ty _], rs, P1 => exact P1.elim
  | [.fls _], rs, P1 => exact P1.elim
  | x :: _ :: _, rs, P1 => cases x <;> exact P1.elim
theorem pix_range2 (hg : glB C "range" = true) (hm : C.G.mg "range" = none) (ha : PAx C [a, b] dr) (hs : ∀ env, starEach [a, b] env = [(false, eval a env), (false, eval b env)] := by intro _; rfl) (hs2 : ∀ env, starEach [b] env = [(false, eval b env)] := by intro _; rfl) : PIx C tg (.Call (.Name "range" p) [a, b] [] pos) (iRng2 dr) := fun X W h => by
  refine pi_imp (pi_range2 (glB_ok hg h) (by rw [h.mg]; exact hm) (ha X W h) (hs X.env) (hs2 X.env)) fun σ H Rr ⟨φ, S, env, R, E, P⟩ => ?_
  refine ⟨φ, S, env, R, E, P.bind.imp fun φ1 H1 S1 xs n1 R1 P1 vs rs => ?_⟩
  split at P1
  · rename_i i j
    simp only [VRels, VRel] at rs
    obtain ⟨u, us, rfl, rfl, u2, us2, rfl, rfl, rfl⟩ := rs
    split at P1
    · rename_i hb
      exact ⟨i, j, rfl, hb, Pst.now P1 R1 _ it_rng⟩
    · exact P1.elim
  · exact P1.elim
end

/-! ### for, while -/
def FUEL : Nat := 2 ^ 70
def forGo (J : Itd) (g : DG) (b : DS) : Nat → Nat → En → Store → Res Fl
  | 0, _, _, _ => .bad
  | n + 1, i, env, S => match J i S with
    | none => .bad
    | some none => .ok (.nx env) S
    | some (some d) => (g d env S).bind fun env1 S1 => (b env1 S1).bind fun f S2 => match f with
      | .nx e => forGo J g b n (i + 1) e S2
      | .ct e => forGo J g b n (i + 1) e S2
      | .bk e => .ok (.nx e) S2
      | .rt d => .ok (.rt d) S2
def sFor (it : DI) (g : DG) (b : DS) : DS := fun env S => (it env S).bind fun J S1 => forGo J g b FUEL 0 env S1
def whileGo (t : DT) (b : DS) : Nat → En → Store → Res Fl
  | 0, _, _ => .bad
  | n + 1, env, S => (t env S).bind fun k S1 => if k = true then (b env S1).bind fun f S2 => match f with
      | .nx e => whileGo t b n e S2
      | .ct e => whileGo t b n e S2
      | .bk e => .ok (.nx e) S2
      | .rt d => .ok (.rt d) S2
    else .ok (.nx env) S1
def sWhile (t : DT) (b : DS) : DS := fun env S => whileGo t b FUEL env S
section
variable {C : Cp} {tg iter c : Expr} {body : List Stmt} {it : DI} {g : DG} {b : DS} {t : DT} {vs : List Nat} {pos : Pos}
theorem psx_for (hi : PIx C tg iter it) (hg : PGx C tg vs g) (hb : PSsx C body b) (hs : ∀ env x, foldedSetIterable iter env x = pure x := by intro _ _; rfl) : PSx C (.For tg iter body [] pos) (sFor it g b) := fun X W h => by
  refine ps_imp (ps_for h.pass h.calm (hi X W h) (hg X W h) (hb X W h) (hs X.env)) fun D σ H ⟨φ, S, env, R, E, P⟩ => ?_
  have P0 : Pst C.G (fun c p H' => ∀ σ', W c p σ' H') φ H _ (it env S) := P.bind
  refine ⟨φ, S, env, R, E, (pst_err P0).imp fun φ1 H1 S1 J n1 R1 P1 Jx hJ => ?_⟩
  refine ⟨fun i m σ' H' => ∃ φ' S' env', Rel C.G φ' S' H' ∧ ERel C.G φ' H' env' σ' ∧ Nxt φ1 φ' H1 H' ∧ Pst C.G (fun c p H' => ∀ σ', W c p σ' H') φ' H' (fun φ' H' _ f => FlP C.G D φ' H' f) (forGo J g b m i env' S'), ⟨FUEL, φ1, S1, env, R1, E.nxt n1, Nxt.refl _ _, P1⟩, ?_⟩
  rintro i m σ2 H2 ⟨φ2, S2, env2, R2, E2, n2, P2⟩
  cases m with
  | zero => exact P2.elim
  | succ m =>
    unfold forGo at P2
    cases q : J i S2 with
    | none => rw [q] at P2; exact P2.elim
    | some o =>
      rw [q] at P2
      cases o with
      | none => exact .inl ⟨hJ.stop i φ2 S2 H2 n2 R2 q, Pst.now P2 R2 σ2 E2⟩
      | some d =>
        obtain ⟨go, yld⟩ := hJ.go i φ2 S2 H2 d n2 R2 q
        refine .inr ⟨go, _, fun σ' H' w => ⟨m, Nat.lt_succ_self m, w⟩, fun x H' y => ?_⟩
        obtain ⟨ny, Ry, ry⟩ := yld x H' y
        refine ⟨φ2, S2, env2, d, Ry, E2.nxt ny, ry, (Pst.nxt P2 ny).bind.imp fun φ3 H3 S3 env3 n3 R3 P3 σ3 E3 _ _ => ?_⟩
        refine ⟨φ3, S3, env3, R3, E3, P3.bind.imp fun φ4 H4 S4 f n4 R4 P4 => ?_⟩
        have nn : Nxt φ1 φ4 H1 H4 := ((n2.trans ny).trans n3).trans n4
        cases f with
        | nx e => exact fun σ4 E4 => ⟨φ4, S4, e, R4, E4, nn, P4⟩
        | ct e => exact fun σ4 E4 => ⟨φ4, S4, e, R4, E4, nn, P4⟩
        | bk e => exact fun σ4 E4 => (Pst.now P4 R4 : FlP C.G D φ4 H4 (.nx e)) σ4 E4
        | rt d => exact (Pst.now P4 R4 : FlP C.G D φ4 H4 (.rt d))
theorem psx_while (hc : PTx C c t) (hb : PSsx C body b) : PSx C (.While c body [] pos) (sWhile t b) := fun X W h => by
  refine ps_imp (ps_while h.pass (hc X W h) (hb X W h)) fun D σ H ⟨φ, S, env, R, E, P⟩ => ?_
  refine ⟨fun m σ' H' => ∃ φ' S' env', Rel C.G φ' S' H' ∧ ERel C.G φ' H' env' σ' ∧ Pst C.G (fun c p H' => ∀ σ', W c p σ' H') φ' H' (fun φ' H' _ f => FlP C.G D φ' H' f) (whileGo t b m env' S'), ⟨FUEL, φ, S, env, R, E, P⟩, ?_⟩
  rintro m σ2 H2 ⟨φ2, S2, env2, R2, E2, P2⟩
  cases m with
  | zero => exact P2.elim
  | succ m =>
    unfold whileGo at P2
    refine ⟨φ2, S2, env2, R2, E2, (pst_err P2.bind).imp fun φ3 H3 S3 k n3 R3 P3 => ?_⟩
    cases k with
    | false => exact iteF (Pst.now P3 R3 σ2 (E2.nxt n3))
    | true =>
      refine iteT ⟨_, fun σ' H' w => ⟨m, Nat.lt_succ_self m, w⟩, φ3, S3, env2, R3, E2.nxt n3, P3.bind.imp fun φ4 H4 S4 f n4 R4 P4 => ?_⟩
      cases f with
      | nx e => exact fun σ4 E4 => ⟨φ4, S4, e, R4, E4, P4⟩
      | ct e => exact fun σ4 E4 => ⟨φ4, S4, e, R4, E4, P4⟩
      | bk e => exact fun σ4 E4 => (Pst.now P4 R4 : FlP C.G D φ4 H4 (.nx e)) σ4 E4
      | rt d => exact (Pst.now P4 R4 : FlP C.G D φ4 H4 (.rt d))
end
end Z

/-! Z5: defs and their calls; list comprehensions. -/
namespace Z
open PySem PySem.Spec PyProof.Rows L2

/-! ### defs -/
def spD (G : Glo) (n : Nat) (F : Fn) : Sp := fun vs H Q E => ∃ φ S ds, Rel G φ S H ∧ VRels G φ H ds vs ∧ ds.length = n ∧ Pst G E φ H (fun φ' H' _ r => ∀ v, VRel G φ' H' r v → Q v H') (F ds S)
structure FnIs (G : Glo) (k : Nat) (x : Str) (n : Nat) (F : Fn) : Prop where
  ex : ∃ (f : Addr) (fd : FuncData) (ps : List Str), ps.length = n ∧ FnOk G.P G.w G.K G.mg G.base (L2.CX G.P G.w) k f fd ps (spD G n F) ∧ G.mg x = some (.ref f) ∧ PySem.W.keepIn G.K (.ref f) = true ∧ Binds G.K fd ps []
def mkFn (nl : Nat) (b : DS) : Fn := fun ds S => (b (ds.map some ++ List.replicate (nl - ds.length) none) S).bind fun f S1 => match f with
  | .rt d => .ok d S1
  | .nx _ => .ok .non S1
  | _ => .bad
theorem ERel.start {G : Glo} {φ : List Addr} {H : Hp} {N : List Str} {ds : List D} {vs : List V} (h : VRels G φ H ds vs) : ERel G φ H (ds.map some ++ List.replicate (N.length - ds.length) none) (start N vs) := by
  have hl := h.length
  show ERel G φ H _ (vs.map some ++ List.replicate (N.length - vs.length) none)
  refine ⟨by simp [hl], fun i d e => ?_⟩
  by_cases hi : i < ds.length
  · rw [List.getElem?_append_left (by simpa using hi), List.getElem?_map] at e
    cases q : ds[i]? with
    | none => rw [q] at e; cases e
    | some d' =>
      rw [q] at e
      cases e
      obtain ⟨v, hv, r⟩ := h.get q
      exact ⟨v, by rw [List.getElem?_append_left (by simp; omega), List.getElem?_map, hv]; rfl, r⟩
  · rw [List.getElem?_append_right (by simpa using hi), List.getElem?_replicate] at e
    split at e <;> cases e
section
variable {G : Glo} {x qual : Str} {params : Arguments} {body : List Stmt} {scope : Scope} {dvs : List V} {kws : List (Str × V)} {f : Addr} {fd : FuncData} {N ps : List Str} {k n : Nat} {b : DS}
theorem fn_ok (F : FunD G.K x qual params body scope dvs kws f fd) (Sc : FnScope N ps scope) (hn : ps.length = n) (hb : PSsx ⟨G, k, N, scope, fun _ => true⟩ body b) : FnOk G.P G.w G.K G.mg G.base (L2.CX G.P G.w) (k + 1) f fd ps (spD G n (mkFn N.length b)) := by
  refine F.ok Sc (fun vs H Q E ⟨φ, S, ds, R, r, e, _⟩ => by rw [← r.length, e, hn]) fun cdv A outer s H vs Q E hr ⟨φ, S, ds, R, r, e, P⟩ => ?_
  refine ⟨_, hb _ (fun cls d _ H => E cls d H) ⟨rfl, rfl, rfl, rfl, rfl, rfl, rfl, rfl, hr, rfl, takes_of rfl rfl rfl rfl, passes_of rfl⟩, φ, S, _, R, ERel.start r, ?_⟩
  have P0 := P.bind
  have P1 : Pst G (fun c p H' => ∀ σ' : St, E c p H') φ H (fun φ1 H1 S1 a => Pst G E φ1 H1 (fun φ' H' _ r => ∀ v, VRel G φ' H' r v → Q v H') (match a with
      | .rt d => .ok d S1
      | .nx _ => .ok .non S1
      | _ => .bad)) (b (ds.map some ++ List.replicate (N.length - ds.length) none) S) := by
    cases q : b (ds.map some ++ List.replicate (N.length - ds.length) none) S with
    | ok a S1 => rw [q] at P0; exact P0
    | er y S1 => rw [q] at P0; exact fun φ1 H1 n1 R1 cls dd xr _ => P0 φ1 H1 n1 R1 cls dd xr
    | bad => rw [q] at P0; exact P0
  refine P1.imp fun φ1 H1 S1 fl n1 R1 P2 => ?_
  cases fl with
  | nx e => exact fun σ1 E1 => Pst.now P2 R1 .non (by simp only [VRel])
  | rt d => exact Pst.now P2 R1
  | bk e => exact P2.elim
  | ct e => exact P2.elim
theorem fn_is {y : Str} (F : FunD G.K x qual params body scope [] kws f fd) (hm : G.mg y = some (.ref f)) (Sc : FnScope N ps scope) (hn : ps.length = n)
    (hbi : ∀ (kV doc pm : Value) (an : Option Addr) (cdv ct : Value) (us : List Value), us.length = ps.length → bindArgs (PySem.W.fnOf x qual params body scope .none kV doc pm an cdv ct) ⟨us, []⟩ = pure (ps.zip us))
    (hb : PSsx ⟨G, k, N, scope, fun _ => true⟩ body b) : FnIs G (k + 1) y n (mkFn N.length b) :=
  ⟨f, fd, ps, hn, fn_ok F Sc hn hb, hm, F.kp, F.bindsN hbi⟩
end
def dCall (F : Fn) (r : DA) : DE := fun env S => (r env S).bind fun xs S1 => F xs S1
section
variable {C : Cp} {e : Expr} {es : List Expr} {dr : DA} {x : Str} {p pos : Pos} {k n : Nat} {F : Fn}
theorem pex_call (h : FnIs C.G k x n F) (hk : k ≤ C.k) (hg : glB C x = true) (ha : PAx C (e :: es) dr) (hn : ∀ env S xs S', dr env S = .ok xs S' → xs.length = n) (hdb : (x == ("__debug__" : Str)) = false := by decide +kernel)
    (he : ∀ env, starEach (e :: es) env = (false, eval e env) :: starEach es env := by intro _; rfl) (hpl : ∀ env, (backTo pos (starEach es env)).any (·.1) = false := by intro _; rfl) : PEx C (.Call (.Name x p) (e :: es) [] pos) (dCall F dr) := fun X W hx => by
  obtain ⟨f, fd, ps, _, ok, hm, kp, hb⟩ := h.ex
  refine pe_imp (pe_callS (by rw [hx.prog, hx.w, hx.K, hx.mg, hx.base]; exact ok) (hx.room.mono hk) (glB_ok hg hx) (by rw [hx.mg]; exact hm) (by rw [hx.K]; exact kp) (by rw [hx.K]; exact hb) (E := WE W) (fun σ => by rw [← hx.prog, ← hx.w]; exact passAt hx.takes σ) (ha X W hx) hdb (he X.env) (hpl X.env)) fun σ H Q ⟨φ, S, env, R, E, P⟩ => ?_
  have P0 := P.bind
  cases q : dr env S with
  | bad => rw [q] at P0; exact P0.elim
  | er y S1 => rw [q] at P0; exact ⟨φ, S, env, R, E, by rw [q]; exact P0⟩
  | ok xs S1 =>
    rw [q] at P0
    refine ⟨φ, S, env, R, E, ?_⟩
    rw [q]
    exact fun φ1 H1 n1 R1 vs rs => ⟨φ1, S1, xs, R1, rs, hn env S xs S1 q, P0 φ1 H1 n1 R1⟩
theorem pex_call0 (h : FnIs C.G k x 0 F) (hk : k ≤ C.k) (hg : glB C x = true) (hdb : (x == ("__debug__" : Str)) = false := by decide +kernel) : PEx C (.Call (.Name x p) [] [] pos) (dCall F dNil) := fun X W hx => by
  obtain ⟨f, fd, ps, _, ok, hm, kp, hb⟩ := h.ex
  refine ⟨fun pins s σ H Q I ⟨φ, S, env, R, E, P⟩ => ?_⟩
  refine wpAny_Call_Name_kw (ld_glob I (glB_ok hg hx) (by rw [hx.mg]; exact hm) ?_ hdb)
  refine PySem.W.callWith_K0 I.kIn (by rw [hx.K]; exact kp) (run_fnS (us := []) (vs := []) (by rw [hx.prog, hx.w, hx.K, hx.mg, hx.base]; exact ok) (hx.room.mono hk) (by rw [hx.K]; exact hb) (E := WE W) (by rw [← hx.prog, ← hx.w]; exact passAt hx.takes σ) I .nil ?_)
  exact ⟨φ, S, [], R, VRels.nil, rfl, P⟩
end

/-! ### list comprehensions -/
def DTs := DT
def tYes1 : DT := fun _ S => .ok true S
def wipeE (env : En) : List Nat → En
  | [] => env
  | v :: vs => (wipeE env vs).set v none
/-- nothing may be raised -/
def Res.cut {α : Type} : Res α → Res α
  | .ok a S => .ok a S
  | _ => .bad
@[simp] theorem Res.cut_ok {α : Type} (a : α) (S : Store) : (Res.ok a S).cut = .ok a S := rfl
theorem Pst.cut {α : Type} {G : Glo} {B B' : Value → Option Addr → Hp → Prop} {φ : List Addr} {H : Hp} {K : List Addr → Hp → Store → α → Prop} {r : Res α} (h : Pst G B φ H K r.cut) : Pst G B' φ H K r := by
  cases r with
  | ok a S => exact h
  | er x S => exact h.elim
  | bad => exact h.elim
theorem Pst.cut_bind {α β : Type} {G : Glo} {B : Value → Option Addr → Hp → Prop} {φ : List Addr} {H : Hp} {K : List Addr → Hp → Store → β → Prop} {r : Res α} {f : α → Store → Res β} (h : Pst G B φ H K (r.cut.bind f)) : ∃ a S, r = .ok a S ∧ Pst G B φ H K (f a S) := by
  cases r with
  | ok a S => exact ⟨a, S, rfl, h⟩
  | er x S => exact h.elim
  | bad => exact h.elim
theorem Res.bind_assoc {α β γ : Type} (r : Res α) (f : α → Store → Res β) (g : β → Store → Res γ) : (r.bind f).bind g = r.bind fun a S => (f a S).bind g := by cases r <;> rfl
def lcGo (J : Itd) (g : DG) (t : DT) (b : DE) (env : En) : Nat → Nat → List D → Store → Res (List D)
  | 0, _, _, _ => .bad
  | n + 1, i, acc, S => match J i S with
    | none => .bad
    | some none => .ok acc S
    | some (some d) => (g d env S).cut.bind fun env1 S1 => (t env1 S1).cut.bind fun k S2 => if k = true then (b env1 S2).cut.bind fun y S3 => if acc.length < sl then lcGo J g t b env n (i + 1) (acc ++ [y]) S3 else .bad
      else lcGo J g t b env n (i + 1) acc S2
def dLc (it : DI) (g : DG) (t : DT) (b : DE) (own : List Nat) : DE := fun env S => (it env S).bind fun J S1 => (lcGo J g t b (wipeE env own) FUEL 0 [] S1).bind fun acc S2 => .ok (.ref S2.length) (S2 ++ [.lst acc])
/-- the place within a comprehension's block -/
def Cp.blk (C : Cp) (scope : Scope) : Cp := ⟨C.G, C.k, C.N, relS scope C.sc, fun x => scope.names.lookup x == some .cell⟩
def PTsx (C : Cp) (ifs : List Expr) (t : DT) : Prop := ∀ X W, Cxt C W X → PTs X ifs (rdT C.G W t)
theorem pts_imp {X : Cx} {es : List Expr} {t t' : TT} (h : PTs X es t) (k : ∀ σ H Q, t' σ H Q → t σ H Q) : PTs X es t' := ⟨fun pins s σ H Q I q => h.run pins s σ H Q I (k σ H Q q)⟩
theorem ptsx_nil {C : Cp} : PTsx C [] tYes1 := fun X W h => pts_imp pts_nil fun σ H Q ⟨φ, S, env, R, E, P⟩ => Pst.now P R
theorem ptsx_one {C : Cp} {c : Expr} {t : DT} (h : PTx C c t) : PTsx C [c] t := fun X W hx => pts_one (h X W hx)
/-- nothing is let out -/
def W0 : WX := fun _ _ _ _ => False
theorem cxt_blk {C : Cp} {W : WX} {X : Cx} (h : Cxt C W X) {scope : Scope} {s : Shared} {H : Hp} {cn : Addr} {cl : List (Str × Addr)} {fp : List Addr} : Cxt (C.blk scope) W0 (X.blk s H scope (compEnvC scope cl cn X.env) fp) where
  prog := h.prog
  w := h.w
  K := h.K
  mg := h.mg
  base := h.base
  N := h.N
  sc := by show relS scope X.env.scope = relS scope C.sc; rw [h.sc]
  fn := rfl
  room := h.room
  calm := h.calm
  takes := L2.takes0
  pass := PassesOwn.never
theorem ERel.wipe {G : Glo} {φ : List Addr} {H : Hp} {env : En} {σ : St} (h : ERel G φ H env σ) : ∀ vs : List Nat, ERel G φ H (wipeE env vs) (wipe σ vs)
  | [] => h
  | v :: vs => ERel.unset (ERel.wipe h vs)
theorem wipe_same {σ σ' : St} {vs : List Nat} (h : ∀ j : Nat, j ∉ vs → σ'[j]? = (L2.wipe σ vs)[j]?) (hl : σ'.length = σ.length) : L2.wipe σ' vs = L2.wipe σ vs := by
  refine List.ext_getElem? fun i => ?_
  by_cases hi : i ∈ vs
  · have wn : ∀ (τ : St) (us : List Nat), i ∈ us → i < τ.length → (L2.wipe τ us)[i]? = some none := by
      intro τ us
      induction us with
      | nil => intro z; cases z
      | cons u us ih =>
        intro z hlt
        show ((L2.wipe τ us).set u none)[i]? = some none
        by_cases e : u = i
        · subst e
          rw [List.getElem?_set_self (by rw [L2.wipe_length]; exact hlt)]
        · rw [List.getElem?_set_ne e]
          exact ih ((List.mem_cons.mp z).resolve_left (Ne.symm e)) hlt
    by_cases hlt : i < σ.length
    · rw [wn σ' vs hi (by rw [hl]; exact hlt), wn σ vs hi hlt]
    · rw [List.getElem?_eq_none (by rw [L2.wipe_length, hl]; omega), List.getElem?_eq_none (by rw [L2.wipe_length]; omega)]
  · rw [L2.wipe_out hi, h i hi]
section
variable {C : Cp} {elt tg iter : Expr} {ifs : List Expr} {scope : Scope} {own : List (Str × Nat)} {pos : Pos} {it : DI} {g : DG} {t : DT} {b : DE} {vs : List Nat}
theorem nxt_over {φ0 φ : List Addr} {H0 H : Hp} {p : Addr} {o : HO} (n : Nxt φ0 φ H0 H) (h : H0 p = none) (nt : NT o := by trivial) : Nxt φ0 φ H0 (upd H p o) :=
  ⟨n.ext, ⟨fun a xs e => by rw [upd_ne (ne_of_none e h)]; exact n.grow.tup a xs e, fun a ob u e => by rw [upd_ne (ne_of_none e h)]; exact n.grow.frz a ob u e, fun a fs e => by rw [upd_ne (ne_of_none e h)]; exact n.grow.xds a fs e, fun a b e => by rw [upd_ne (ne_of_none e h)]; exact n.grow.owns a b e⟩, fun b u e nb st => by rw [upd_ne (ne_of_none e h)]; exact n.frame b u e nb st,
    fun b u e z => let ⟨u', q, z'⟩ := n.there b u e z; there_upd nt b u' q z'⟩
theorem grow_lst {H : Hp} {p : Addr} {vs us : List V} (h : H p = some (.lst vs)) : Grow H (upd H p (.lst us)) := Grow.mut h trivial
/-- the turns -/
theorem rd_lc {W : WX} {σ : St} {H : Hp} {Q : VK} (hv : ∀ j ∈ vs, j ∈ own.map (·.2)) (h : rdE C.G W (dLc it g t b (own.map (·.2))) σ H Q) : tLc (rdI C.G W it) (rdG C.G W0 vs g) (rdT C.G W0 t) (rdE C.G W0 b) (own.map (·.2)) σ H Q := by
  obtain ⟨φ, S, env, R, E, P⟩ := h
  refine ⟨φ, S, env, R, E, P.bind.imp fun φ1 H1 S1 J n1 R1 P1 Jx hJ Da hD => ?_⟩
  have E1 : ERel C.G φ1 H1 (wipeE env (own.map (·.2))) (L2.wipe σ (own.map (·.2))) := (E.nxt n1).wipe _
  refine ⟨fun i m H' => ∃ φ' S' acc vs', Rel C.G φ' S' H' ∧ Nxt φ1 φ' H1 H' ∧ Da ∉ φ' ∧ H' Da = some (.lst vs') ∧ VRels C.G φ' H' acc vs' ∧
    Pst C.G (fun c p H' => W c p σ H') φ1 H1 (fun φ' H' _ x => ∀ v, VRel C.G φ' H' x v → Q v H') ((lcGo J g t b (wipeE env (own.map (·.2))) m i acc S').bind fun acc S2 => .ok (.ref S2.length) (S2 ++ [.lst acc])), ⟨FUEL, φ1, S1, [], [], ?_⟩, ?_⟩
  · exact ⟨R1.mute (R1.notmem hD) (Grow.new hD) (nx_none hD), nxt_over (Nxt.refl _ _) hD, R1.notmem hD, upd_same, VRels.nil, P1⟩
  · rintro i m H2 ⟨φ2, S2, acc, us, R2, n2, nd, hDa, rs, P3⟩
    cases m with
    | zero => exact P3.elim
    | succ m =>
      unfold lcGo at P3
      cases q : J i S2 with
      | none => rw [q] at P3; exact P3.elim
      | some o =>
        rw [q] at P3
        cases o with
        | none =>
          refine .inl ⟨hJ.stop i φ2 S2 H2 n2 R2 q, ?_⟩
          have f : ∀ (i : Nat) (a : Addr), φ2[i]? = some a → (φ2 ++ [Da])[i]? = some a := fun i a e => by rw [List.getElem?_append_left (List.getElem?_eq_some_iff.mp e).1]; exact e
          have R3 : Rel C.G (φ2 ++ [Da]) (S2 ++ [.lst acc]) H2 := R2.adopt nd ⟨us, hDa, rs.up f (Grow.refl _)⟩
          obtain ⟨ψ, e, fr⟩ := n2.ext
          have n3 : Nxt φ1 (φ2 ++ [Da]) H1 H2 := ⟨⟨ψ ++ [Da], by rw [e, List.append_assoc], fun q z => by
            rcases List.mem_append.mp z with z | z
            · exact fr q z
            · rw [List.mem_singleton.mp z, hD]; intro _ e; cases e⟩, n2.grow, n2.frame, n2.there⟩
          have P4 := P3 (φ2 ++ [Da]) H2 n3 R3 (.ref Da)
          refine P4 ?_
          simp only [VRel]
          exact ⟨Da, rfl, by rw [← R2.len]; simp⟩
        | some d =>
          obtain ⟨go, yld⟩ := hJ.go i φ2 S2 H2 d n2 R2 q
          refine .inr ⟨go, _, fun H' w => ⟨m, Nat.lt_succ_self m, w⟩, fun x H' y => ?_⟩
          obtain ⟨ny, Ry, ry⟩ := yld x H' y
          dsimp only at P3
          rw [Res.bind_assoc] at P3
          obtain ⟨env3, S3, e3, P4⟩ := P3.cut_bind
          have hDy : H' Da = some (.lst us) := ny.frame _ _ hDa nd trivial
          refine ⟨φ2, S2, _, d, Ry, (E1.nxt n2).nxt ny, ry, ?_⟩
          rw [e3]
          intro φ3 H3 n3 R3 σ3 E3 l3 k3
          refine ⟨wipe_same (fun j hj => k3 j fun z => hj (hv j z)) (by rw [l3, L2.wipe_length]), φ3, S3, env3, R3, E3, ?_⟩
          rw [Res.bind_assoc] at P4
          obtain ⟨k, S4, e4, P5⟩ := P4.cut_bind
          rw [e4]
          intro φ4 H4 n4 R4
          have nd3 : Da ∉ φ3 := n3.notin hDy nd
          have hD3 : H3 Da = some (.lst us) := n3.frame _ _ hDy nd trivial
          have nd4 : Da ∉ φ4 := n4.notin hD3 nd3
          have hD4 : H4 Da = some (.lst us) := n4.frame _ _ hD3 nd3 trivial
          have nn : Nxt φ1 φ4 H1 H4 := ((n2.trans ny).trans n3).trans n4
          have rs4 : VRels C.G φ4 H4 acc us := ((rs.nxt ny).nxt n3).nxt n4
          cases k with
          | false => exact iteF ⟨φ4, S4, acc, us, R4, nn, nd4, hD4, rs4, P5⟩
          | true =>
            refine iteT ⟨φ4, S4, env3, R4, E3.nxt n4, ?_⟩
            rw [if_pos rfl, Res.bind_assoc] at P5
            obtain ⟨y5, S5, e5, P6⟩ := P5.cut_bind
            rw [e5]
            intro φ5 H5 n5 R5 v5 r5
            have hD5 : H5 Da = some (.lst us) := n5.frame _ _ hD4 nd4 trivial
            have nd5 : Da ∉ φ5 := n5.notin hD4 nd4
            split at P6
            · rename_i hlt
              have g5 : Grow H5 (upd H5 Da (.lst (us ++ [v5]))) := grow_lst hD5
              refine ⟨us, hD5, by rw [sl_eq, ← rs4.length]; exact hlt, φ5, S5, acc ++ [y5], us ++ [v5], R5.mute nd5 g5 (nx_some hD5), nxt_over (nn.trans n5) hD, nd5, upd_same, ?_, P6⟩
              exact ((rs4.nxt n5).append (VRels.cons r5 VRels.nil)).up (fun _ _ q => q) g5
            · exact P6.elim
theorem pex_lc (nd : C.N.Nodup) (hi : PIx C tg iter it) (ok : blkC C.N C.sc scope own = true) (hg : PGx (C.blk scope) tg vs g) (ht : PTsx (C.blk scope) ifs t) (he : PEx (C.blk scope) elt b) (hv : ∀ j ∈ vs, j ∈ own.map (·.2)) (hs : ∀ env x, foldedSetIterable iter env x = pure x := by intro _ _; rfl) :
    PEx C (.ListComp elt [⟨tg, iter, ifs, 0⟩] scope pos) (dLc it g t b (own.map (·.2))) := fun X W h => by
  refine pe_imp (pe_lc h.calm (by rw [h.N]; exact nd) (hi X W h) (by rw [h.N, h.sc]; exact blkOk_by ok) (fun s H cn cl fp => hg _ W0 (cxt_blk h)) (fun s H cn cl fp => ht _ W0 (cxt_blk h)) (fun s H cn cl fp => he _ W0 (cxt_blk h)) (hs X.env)) fun σ H Q => rd_lc hv
/-- name = [..] -/
theorem psx_setLc (i : Nat) {y : Str} {py spos : Pos} (nd : C.N.Nodup) (hy : C.N[i]? = some y) (hyl : C.sc.names.lookup y = some .local) (hi : PIx C tg iter it) (ok : blkC C.N C.sc scope own = true) (hg : PGx (C.blk scope) tg vs g) (ht : PTsx (C.blk scope) ifs t) (he : PEx (C.blk scope) elt b) (hv : ∀ j ∈ vs, j ∈ own.map (·.2))
    (hk : C.sc.kind = .function) (hl : (py.line == pos.line) = true) (ha : (scope.names.any fun (n, k) => n == y && (k == .local || k == .cell)) = false) (hs : ∀ env x, foldedSetIterable iter env x = pure x := by intro _ _; rfl) :
    PSx C (.Assign [.Name y py] (.ListComp elt [⟨tg, iter, ifs, 0⟩] scope pos) spos) (sAsg (dLc it g t b (own.map (·.2))) (gNm i)) := fun X W h => by
  refine ps_imp (ps_setLc (i := i) h.calm (by rw [h.N]; exact nd) (by rw [h.N]; exact hy) (by rw [h.sc]; exact hyl) (sw_true (by rw [h.sc]; exact hk) (by rw [h.sc]; exact hyl) hl ha) (hi X W h) (by rw [h.N, h.sc]; exact blkOk_by ok) (fun s H cn cl fp => hg _ W0 (cxt_blk h)) (fun s H cn cl fp => ht _ W0 (cxt_blk h)) (fun s H cn cl fp => he _ W0 (cxt_blk h)) (hs X.env)) fun D σ H ⟨φ, S, env, R, E, P⟩ => ?_
  refine rd_lc hv ⟨φ, S, env, R, E, (pst_err P.bind).imp fun φ1 H1 S1 x n1 R1 P1 v1 r1 => ?_⟩
  exact (Pst.now P1 R1 : FlP C.G D φ1 H1 (.nx _)) _ ((E.nxt n1).set r1)
end
end Z

/-! Z6: built-in functions and methods, indices, slices, stores to items. -/
namespace Z
open PySem PySem.Spec PyProof.Rows L2

/-! ### a built-in called -/
abbrev Bf := List D → Store → Option (D × Store)
def rdB (G : Glo) (f : Bf) : List V → Hp → VK → Prop := fun vs H Q => ∃ φ S ds, Rel G φ S H ∧ VRels G φ H ds vs ∧ PstV G φ H Q (f ds S)
def CallRx (C : Cp) (v : Value) (f : Bf) : Prop := ∀ X W, Cxt C W X → CallR X v (rdB C.G f)
def dCallB (f : Bf) (r : DA) : DE := fun env S => (r env S).bind fun xs S1 => ofO (f xs S1)
theorem CallRx.imp {C : Cp} {v : Value} {f : Bf} (r : Cx → List V → Hp → VK → Prop) (h : ∀ X W, Cxt C W X → CallR X v (r X)) (k : ∀ X W, Cxt C W X → ∀ φ S H ds vs Q, Rel C.G φ S H → VRels C.G φ H ds vs → PstV C.G φ H Q (f ds S) → r X vs H Q) : CallRx C v f :=
  fun X W hx pins s σ H vs us Q I rx ⟨φ, S, ds, R, r1, P⟩ => h X W hx pins s σ H vs us Q I rx (k X W hx φ S H ds vs Q R r1 P)
def orB (a b : Bf) : Bf := fun ds S => match a ds S with
  | some r => some r
  | none => b ds S
theorem CallRx.or {C : Cp} {v : Value} {a b : Bf} (ha : CallRx C v a) (hb : CallRx C v b) : CallRx C v (orB a b) :=
  fun X W hx pins s σ H vs us Q I rx ⟨φ, S, ds, R, r1, P⟩ => by
    unfold orB at P
    cases q : a ds S with
    | some r => rw [q] at P; exact ha X W hx pins s σ H vs us Q I rx ⟨φ, S, ds, R, r1, by rw [q]; exact P⟩
    | none => rw [q] at P; exact hb X W hx pins s σ H vs us Q I rx ⟨φ, S, ds, R, r1, P⟩
section
variable {C : Cp} {x : Str} {e : Expr} {es : List Expr} {dr : DA} {p pos : Pos} {f : Bf} {id T : String}
theorem rd_callB {G : Glo} {W : WX} {σ : St} {H : Hp} {Q : VK} (h : rdE G W (dCallB f dr) σ H Q) : tCB (rdB G f) (rdA G W dr) σ H Q := by
  obtain ⟨φ, S, env, R, E, P⟩ := h
  exact ⟨φ, S, env, R, E, P.bind.imp fun φ1 H1 S1 xs n1 R1 P1 vs rs => ⟨φ1, S1, xs, R1, rs, PstV.of P1⟩⟩
theorem pex_callB (hc : CallRx C (.builtin id) f) (hg : glB C x = true) (hm : C.G.mg x = none) (hv : bootBuiltins x = some (.builtin id)) (ha : PAx C (e :: es) dr) (hn : x ≠ "__name__" := by decide +kernel) (hdb : (x == ("__debug__" : Str)) = false := by decide +kernel)
    (he : ∀ env, starEach (e :: es) env = (false, eval e env) :: starEach es env := by intro _; rfl) (hpl : ∀ env, (backTo pos (starEach es env)).any (·.1) = false := by intro _; rfl) : PEx C (.Call (.Name x p) (e :: es) [] pos) (dCallB f dr) := fun X W h =>
  pe_imp (pe_callB (hc X W h) (glB_ok hg h) (by rw [h.mg]; exact hm) hv (ha X W h) hn hdb (he X.env) (hpl X.env)) fun _ _ _ => rd_callB
theorem pex_callTy (hc : CallRx C (.type T) f) (hg : glB C x = true) (hm : C.G.mg x = none) (hv : bootBuiltins x = some (.type T)) (ha : PAx C (e :: es) dr) (hn : x ≠ "__name__" := by decide +kernel) (hdb : (x == ("__debug__" : Str)) = false := by decide +kernel)
    (he : ∀ env, starEach (e :: es) env = (false, eval e env) :: starEach es env := by intro _; rfl) (hpl : ∀ env, (backTo pos (starEach es env)).any (·.1) = false := by intro _; rfl) : PEx C (.Call (.Name x p) (e :: es) [] pos) (dCallB f dr) := fun X W h =>
  pe_imp (pe_callTy (hc X W h) (glB_ok hg h) (by rw [h.mg]; exact hm) hv (ha X W h) hn hdb (he X.env) (hpl X.env)) fun _ _ _ => rd_callB
end
theorem rels1 {G : Glo} {φ : List Addr} {H : Hp} {d : D} {vs : List V} (h : VRels G φ H [d] vs) : ∃ v, vs = [v] ∧ VRel G φ H d v := by
  simp only [VRels] at h
  obtain ⟨u, us, e, r, rfl⟩ := h
  exact ⟨u, e, r⟩
theorem rels2 {G : Glo} {φ : List Addr} {H : Hp} {d e : D} {vs : List V} (h : VRels G φ H [d, e] vs) : ∃ v w, vs = [v, w] ∧ VRel G φ H d v ∧ VRel G φ H e w := by
  simp only [VRels] at h
  obtain ⟨u, us, e1, r, w, us', rfl, r', rfl⟩ := h
  exact ⟨u, w, e1, r, r'⟩
/-- one argument, two ints -/
def b1 (f : D → Store → Option (D × Store)) : Bf := fun ds S => match ds with
  | [d] => f d S
  | _ => none
def b2 (f : D → D → Store → Option (D × Store)) : Bf := fun ds S => match ds with
  | [d, e] => f d e S
  | _ => none
theorem b1_some {f : D → Store → Option (D × Store)} {G : Glo} {φ : List Addr} {H : Hp} {Q : VK} {ds : List D} {S : Store} {vs : List V} (h : PstV G φ H Q (b1 f ds S)) (r : VRels G φ H ds vs) : ∃ d v, vs = [v] ∧ VRel G φ H d v ∧ PstV G φ H Q (f d S) := by
  unfold b1 at h
  split at h
  · obtain ⟨v, e, q⟩ := rels1 r
    exact ⟨_, v, e, q, h⟩
  · exact h.elim
theorem b2_some {f : D → D → Store → Option (D × Store)} {G : Glo} {φ : List Addr} {H : Hp} {Q : VK} {ds : List D} {S : Store} {vs : List V} (h : PstV G φ H Q (b2 f ds S)) (r : VRels G φ H ds vs) : ∃ d e v w, vs = [v, w] ∧ VRel G φ H d v ∧ VRel G φ H e w ∧ PstV G φ H Q (f d e S) := by
  unfold b2 at h
  split at h
  · obtain ⟨v, w, e, q, q'⟩ := rels2 r
    exact ⟨_, _, v, w, e, q, q', h⟩
  · exact h.elim

/-! ### numbers -/
def fAbs : D → Store → Option (D × Store) := fun d S => match d with
  | .int i => some (.int (if i < 0 then -i else i), S)
  | _ => none
def fMax2 : D → D → Store → Option (D × Store) := oInt (fun _ _ => true) fun i j => .int (if j > i then j else i)
def fMin2 : D → D → Store → Option (D × Store) := oInt (fun _ _ => true) fun i j => .int (if j < i then j else i)
def fInt : D → Store → Option (D × Store) := fun d S => match d with
  | .int i => some (.int i, S)
  | .bl b => some (.int (if b = true then 1 else 0), S)
  | _ => none
def fLen : D → Store → Option (D × Store) := fun d S => match d with
  | .str x => if x.length ≤ sl then some (.int x.length, S) else none
  | .tup ds => some (.int ds.length, S)
  | .fls ds => some (.int ds.length, S)
  | .ref i => match S[i]? with
    | some (.lst ds) => some (.int ds.length, S)
    | _ => none
  | _ => none
def fStr : D → Store → Option (D × Store) := fun d S => match d with
  | .int i => if i.natAbs.log2 < 1920 then some (.str (toString i), S) else none
  | _ => none
/-- the items of what is walked -/
def itemsD (S : Store) : D → Option (List D)
  | .tup ds => some ds
  | .fls ds => some ds
  | .ref i => match S[i]? with
    | some (.lst ds) => some ds
    | _ => none
  | _ => none
theorem items_seq {G : Glo} {φ : List Addr} {S : Store} {H : Hp} (R : Rel G φ S H) {d : D} {v : V} (r : VRel G φ H d v) {ds : List D} (h : itemsD S d = some ds) : ∃ a vs, v = .ref a ∧ (SqL G.K H a vs ∨ SqT G.K H a vs) ∧ VRels G φ H ds vs := by
  cases d with
  | tup es =>
    cases h
    simp only [VRel] at r
    obtain ⟨a, vs, e, q, rs⟩ := r
    exact ⟨a, vs, e, .inr q, rs⟩
  | fls es =>
    cases h
    simp only [VRel] at r
    obtain ⟨a, vs, e, q, rs⟩ := r
    exact ⟨a, vs, e, .inl q.sq, rs⟩
  | ref i =>
    simp only [itemsD] at h
    split at h
    · rename_i es e
      cases h
      obtain ⟨a, vs, e, q, rs, _⟩ := sq_lst R r e
      exact ⟨a, vs, e, .inl (SqL.of q), rs⟩
    · cases h
  | _ => cases h
/-- the same of lists alone -/
def itemsL (S : Store) : D → Option (List D)
  | .fls ds => some ds
  | .ref i => match S[i]? with
    | some (.lst ds) => some ds
    | _ => none
  | _ => none
theorem items_lst {G : Glo} {φ : List Addr} {S : Store} {H : Hp} (R : Rel G φ S H) {d : D} {v : V} (r : VRel G φ H d v) {ds : List D} (h : itemsL S d = some ds) : ∃ a vs, v = .ref a ∧ SqL G.K H a vs ∧ VRels G φ H ds vs := by
  cases d with
  | fls es =>
    cases h
    simp only [VRel] at r
    obtain ⟨a, vs, e, q, rs⟩ := r
    exact ⟨a, vs, e, q.sq, rs⟩
  | ref i =>
    simp only [itemsL] at h
    split at h
    · rename_i es e
      cases h
      obtain ⟨a, vs, e, q, rs, _⟩ := sq_lst R r e
      exact ⟨a, vs, e, SqL.of q, rs⟩
    · cases h
  | _ => cases h
def fList : D → Store → Option (D × Store) := fun d S => (itemsD S d).map fun ds => (.ref S.length, S ++ [.lst ds])
def fTuple : D → Store → Option (D × Store) := fun d S => (itemsD S d).map fun ds => (.tup ds, S)
/-- all ints, all bools -/
def intsOf : List D → Option (List Int)
  | [] => some []
  | .int i :: r => (intsOf r).map (i :: ·)
  | _ :: _ => none
def blsOf : List D → Option (List Bool)
  | [] => some []
  | .bl b :: r => (blsOf r).map (b :: ·)
  | _ :: _ => none
theorem intsOf_eq : ∀ {ds : List D} {ns : List Int}, intsOf ds = some ns → ds = ns.map D.int
  | [], _, h => by cases h; rfl
  | .int i :: r, ns, h => by
    simp only [intsOf, Option.map_eq_some_iff] at h
    obtain ⟨ms, e, rfl⟩ := h
    rw [intsOf_eq e]; rfl
  | .non :: _, _, h => by cases h
  | .bl _ :: _, _, h => by cases h
  | .str _ :: _, _, h => by cases h
  | .tup _ :: _, _, h => by cases h
  | .ref _ :: _, _, h => by cases h
  | .st _ :: _, _, h => by cases h
  | .ty _ :: _, _, h => by cases h
  | .fls _ :: _, _, h => by cases h
@[simp] theorem intsOf_map : ∀ ns : List Int, intsOf (ns.map D.int) = some ns
  | [] => rfl
  | n :: ns => by simp [intsOf, intsOf_map ns]
theorem blsOf_eq : ∀ {ds : List D} {ns : List Bool}, blsOf ds = some ns → ds = ns.map D.bl
  | [], _, h => by cases h; rfl
  | .bl i :: r, ns, h => by
    simp only [blsOf, Option.map_eq_some_iff] at h
    obtain ⟨ms, e, rfl⟩ := h
    rw [blsOf_eq e]; rfl
  | .non :: _, _, h => by cases h
  | .int _ :: _, _, h => by cases h
  | .str _ :: _, _, h => by cases h
  | .tup _ :: _, _, h => by cases h
  | .ref _ :: _, _, h => by cases h
  | .st _ :: _, _, h => by cases h
  | .ty _ :: _, _, h => by cases h
  | .fls _ :: _, _, h => by cases h
@[simp] theorem blsOf_map : ∀ ns : List Bool, blsOf (ns.map D.bl) = some ns
  | [] => rfl
  | n :: ns => by simp [blsOf, blsOf_map ns]
theorem rel_ints {G : Glo} {φ : List Addr} {H : Hp} : ∀ {ns : List Int} {vs : List V}, VRels G φ H (ns.map D.int) vs → vs = ns.map V.int
  | [], _, h => by simpa [VRels] using h
  | n :: ns, _, h => by
    simp only [List.map_cons, VRels, VRel] at h
    obtain ⟨u, us, rfl, rfl, rs⟩ := h
    rw [rel_ints rs]; rfl
theorem ints_rel {G : Glo} {φ : List Addr} {H : Hp} : ∀ (ns : List Int), VRels G φ H (ns.map D.int) (ns.map V.int)
  | [] => by simp [VRels]
  | n :: ns => by
    rw [List.map_cons, List.map_cons]
    exact VRels.cons (by simp only [VRel]) (ints_rel ns)
theorem rel_bls {G : Glo} {φ : List Addr} {H : Hp} : ∀ {ns : List Bool} {vs : List V}, VRels G φ H (ns.map D.bl) vs → vs = ns.map V.bl
  | [], _, h => by simpa [VRels] using h
  | n :: ns, _, h => by
    simp only [List.map_cons, VRels, VRel] at h
    obtain ⟨u, us, rfl, rfl, rs⟩ := h
    rw [rel_bls rs]; rfl
def fSum : D → Store → Option (D × Store) := fun d S => ((itemsL S d).bind intsOf).map fun ns => (.int ns.sum, S)
def maxI : List Int → Int
  | [] => 0
  | [a] => a
  | a :: r => max a (maxI r)
def minI : List Int → Int
  | [] => 0
  | [a] => a
  | a :: r => min a (minI r)
theorem maxI_le : ∀ {ns : List Int} {y : Int}, y ∈ ns → y ≤ maxI ns
  | [], _, h => by cases h
  | [a], y, h => by simp at h; subst h; exact Int.le_refl _
  | a :: b :: r, y, h => by
    show y ≤ max a (maxI (b :: r))
    rcases List.mem_cons.mp h with rfl | h
    · exact Int.le_max_left _ _
    · exact Int.le_trans (maxI_le h) (Int.le_max_right _ _)
theorem maxI_mem : ∀ {ns : List Int}, ns ≠ [] → maxI ns ∈ ns
  | [], h => absurd rfl h
  | [a], _ => List.mem_singleton.mpr rfl
  | a :: b :: r, _ => by
    show max a (maxI (b :: r)) ∈ a :: b :: r
    have q := maxI_mem (ns := b :: r) (by simp)
    rcases Int.le_total a (maxI (b :: r)) with h | h
    · rw [Int.max_eq_right h]; exact List.mem_cons_of_mem _ q
    · rw [Int.max_eq_left h]; exact List.mem_cons_self
theorem minI_le : ∀ {ns : List Int} {y : Int}, y ∈ ns → minI ns ≤ y
  | [], _, h => by cases h
  | [a], y, h => by simp at h; subst h; exact Int.le_refl _
  | a :: b :: r, y, h => by
    show min a (minI (b :: r)) ≤ y
    rcases List.mem_cons.mp h with rfl | h
    · exact Int.min_le_left _ _
    · exact Int.le_trans (Int.min_le_right _ _) (minI_le h)
theorem minI_mem : ∀ {ns : List Int}, ns ≠ [] → minI ns ∈ ns
  | [], h => absurd rfl h
  | [a], _ => List.mem_singleton.mpr rfl
  | a :: b :: r, _ => by
    show min a (minI (b :: r)) ∈ a :: b :: r
    have q := minI_mem (ns := b :: r) (by simp)
    rcases Int.le_total a (minI (b :: r)) with h | h
    · rw [Int.min_eq_left h]; exact List.mem_cons_self
    · rw [Int.min_eq_right h]; exact List.mem_cons_of_mem _ q
def fMaxL : D → Store → Option (D × Store) := fun d S => ((itemsL S d).bind intsOf).bind fun ns => if ns = [] then none else some (.int (maxI ns), S)
def fMinL : D → Store → Option (D × Store) := fun d S => ((itemsL S d).bind intsOf).bind fun ns => if ns = [] then none else some (.int (minI ns), S)
def fAll : D → Store → Option (D × Store) := fun d S => ((itemsL S d).bind blsOf).map fun bs => (.bl (bs.all id), S)
def fAny : D → Store → Option (D × Store) := fun d S => ((itemsL S d).bind blsOf).map fun bs => (.bl (bs.any id), S)
section
variable {C : Cp}
theorem cx_abs : CallRx C (.builtin "abs") (b1 fAbs) := CallRx.imp (fun _ => _) (fun _ _ _ => call_abs) fun X W hx φ S H ds vs Q R r P => by
  obtain ⟨d, v, rfl, rv, P⟩ := b1_some P r
  unfold fAbs at P
  split at P
  · simp only [VRel] at rv; subst rv
    exact ⟨_, rfl, P.now R (by simp only [VRel])⟩
  · exact P.elim
theorem cx_max2 : CallRx C (.builtin "max") (b2 fMax2) := CallRx.imp (fun _ => _) (fun _ _ hx => call_max2 hx.calm) fun X W hx φ S H ds vs Q R r P => by
  obtain ⟨d, e, v, w, rfl, rv, rw', P⟩ := b2_some P r
  obtain ⟨i, j, rfl, rfl, _, P⟩ := oInt_some P
  simp only [VRel] at rv rw'; subst rv rw'
  exact ⟨_, _, rfl, P.now R (by simp only [VRel])⟩
theorem cx_min2 : CallRx C (.builtin "min") (b2 fMin2) := CallRx.imp (fun _ => _) (fun _ _ hx => call_min2 hx.calm) fun X W hx φ S H ds vs Q R r P => by
  obtain ⟨d, e, v, w, rfl, rv, rw', P⟩ := b2_some P r
  obtain ⟨i, j, rfl, rfl, _, P⟩ := oInt_some P
  simp only [VRel] at rv rw'; subst rv rw'
  exact ⟨_, _, rfl, P.now R (by simp only [VRel])⟩
theorem cx_int : CallRx C (.type "int") (b1 fInt) := CallRx.imp (fun _ => _) (fun _ _ _ => call_int1) fun X W hx φ S H ds vs Q R r P => by
  obtain ⟨d, v, rfl, rv, P⟩ := b1_some P r
  unfold fInt at P
  split at P
  · simp only [VRel] at rv; subst rv
    exact .inl ⟨_, rfl, P.now R (by simp only [VRel])⟩
  · simp only [VRel] at rv; subst rv
    exact .inr ⟨_, rfl, P.now R (by simp only [VRel])⟩
  · exact P.elim
theorem cx_str : CallRx C (.type "str") (b1 fStr) := CallRx.imp (fun _ => _) (fun _ _ _ => call_str_int) fun X W hx φ S H ds vs Q R r P => by
  obtain ⟨d, v, rfl, rv, P⟩ := b1_some P r
  unfold fStr at P
  split at P
  · split at P
    · simp only [VRel] at rv; subst rv
      exact ⟨_, rfl, by assumption, P.now R (by simp only [VRel])⟩
    · exact P.elim
  · exact P.elim
theorem cx_len : CallRx C (.builtin "len") (b1 fLen) := CallRx.imp (fun _ => _) (fun _ _ _ => call_len) fun X W hx φ S H ds vs Q R r P => by
  obtain ⟨d, v, rfl, rv, P⟩ := b1_some P r
  rw [hx.K]
  cases d with
  | str x =>
    simp only [fLen] at P
    split at P
    · simp only [VRel] at rv; subst rv
      exact ⟨_, _, rfl, ⟨by rw [sl_eq]; assumption, rfl⟩, P.now R (by simp only [VRel])⟩
    · exact P.elim
  | tup es =>
    simp only [fLen] at P
    simp only [VRel] at rv
    obtain ⟨a, us, rfl, q, rs⟩ := rv
    exact ⟨_, _, rfl, .inr ⟨us, q, rfl⟩, by rw [← rs.length]; exact P.now R (by simp only [VRel])⟩
  | fls es =>
    simp only [fLen] at P
    simp only [VRel] at rv
    obtain ⟨a, us, rfl, q, rs⟩ := rv
    exact ⟨_, _, rfl, .inl ⟨us, q.sq, rfl⟩, by rw [← rs.length]; exact P.now R (by simp only [VRel])⟩
  | ref i =>
    simp only [fLen] at P
    split at P
    · rename_i es e
      obtain ⟨a, us, rfl, q, rs, _⟩ := sq_lst R rv e
      exact ⟨_, _, rfl, .inl ⟨us, SqL.of q, rfl⟩, by rw [← rs.length]; exact P.now R (by simp only [VRel])⟩
    · exact P.elim
  | _ => exact P.elim
theorem cx_list : CallRx C (.type "list") (b1 fList) := CallRx.imp (fun _ => _) (fun _ _ _ => call_list_of) fun X W hx φ S H ds vs Q R r P => by
  obtain ⟨d, v, rfl, rv, P⟩ := b1_some P r
  unfold fList at P
  cases q : itemsD S d with
  | none => rw [q] at P; exact P.elim
  | some es =>
    rw [q] at P
    obtain ⟨a, us, rfl, s, rs⟩ := items_seq R rv q
    rw [hx.K]
    exact ⟨a, us, rfl, s, fun l hl => PstV.lst P R rs hl⟩
theorem cx_tuple : CallRx C (.type "tuple") (b1 fTuple) := CallRx.imp (fun _ => _) (fun _ _ _ => call_tuple_of) fun X W hx φ S H ds vs Q R r P => by
  obtain ⟨d, v, rfl, rv, P⟩ := b1_some P r
  unfold fTuple at P
  cases q : itemsD S d with
  | none => rw [q] at P; exact P.elim
  | some es =>
    rw [q] at P
    rw [hx.K]
    cases d with
    | tup fs =>
      cases q
      have rv' := rv
      simp only [VRel] at rv
      obtain ⟨a, us, rfl, s, rs⟩ := rv
      exact ⟨a, us, rfl, .inr ⟨s, P.now R rv'⟩⟩
    | fls fs =>
      cases q
      simp only [VRel] at rv
      obtain ⟨a, us, rfl, s, rs⟩ := rv
      exact ⟨a, us, rfl, .inl ⟨s.sq, fun l hl => PstV.tup P R rs hl⟩⟩
    | ref i =>
      simp only [itemsD] at q
      split at q
      · rename_i fs e
        cases q
        obtain ⟨a, us, rfl, s, rs, _⟩ := sq_lst R rv e
        exact ⟨a, us, rfl, .inl ⟨SqL.of s, fun l hl => PstV.tup P R rs hl⟩⟩
      · cases q
    | _ => cases q
theorem ints_lst {φ : List Addr} {S : Store} {H : Hp} (R : Rel C.G φ S H) {d : D} {v : V} (r : VRel C.G φ H d v) {ns : List Int} (h : (itemsL S d).bind intsOf = some ns) : ∃ a, v = .ref a ∧ SqL C.G.K H a (ns.map V.int) := by
  obtain ⟨es, q, e⟩ := Option.bind_eq_some_iff.mp h
  obtain ⟨a, us, rfl, s, rs⟩ := items_lst R r q
  rw [intsOf_eq e] at rs
  rw [rel_ints rs] at s
  exact ⟨a, rfl, s⟩
theorem bls_lst {φ : List Addr} {S : Store} {H : Hp} (R : Rel C.G φ S H) {d : D} {v : V} (r : VRel C.G φ H d v) {ns : List Bool} (h : (itemsL S d).bind blsOf = some ns) : ∃ a, v = .ref a ∧ SqL C.G.K H a (ns.map V.bl) := by
  obtain ⟨es, q, e⟩ := Option.bind_eq_some_iff.mp h
  obtain ⟨a, us, rfl, s, rs⟩ := items_lst R r q
  rw [blsOf_eq e] at rs
  rw [rel_bls rs] at s
  exact ⟨a, rfl, s⟩
theorem cx_sum : CallRx C (.builtin "sum") (b1 fSum) := CallRx.imp (fun X => rSum X.K) (fun _ _ hx => cr_sum hx.calm) fun X W hx φ S H ds vs Q R r P => by
  obtain ⟨d, v, rfl, rv, P⟩ := b1_some P r
  unfold fSum at P
  cases q : (itemsL S d).bind intsOf with
  | none => rw [q] at P; exact P.elim
  | some ns =>
    rw [q] at P
    obtain ⟨a, rfl, s⟩ := ints_lst R rv q
    rw [hx.K]
    exact ⟨a, ns, rfl, s, P.now R (by simp only [VRel])⟩
theorem cx_maxL : CallRx C (.builtin "max") (b1 fMaxL) := CallRx.imp (fun X => rMax X.K) (fun _ _ hx => cr_max hx.calm) fun X W hx φ S H ds vs Q R r P => by
  obtain ⟨d, v, rfl, rv, P⟩ := b1_some P r
  unfold fMaxL at P
  cases q : (itemsL S d).bind intsOf with
  | none => rw [q] at P; exact P.elim
  | some ns =>
    rw [q] at P
    simp only [Option.bind_some] at P
    split at P
    · exact P.elim
    · rename_i hne
      obtain ⟨a, rfl, s⟩ := ints_lst R rv q
      rw [hx.K]
      refine ⟨a, ns, rfl, s, List.length_pos_iff.mpr hne, fun m hm hy => ?_⟩
      have e : m = maxI ns := Int.le_antisymm (maxI_le hm) (hy _ (maxI_mem hne))
      subst e
      exact P.now R (by simp only [VRel])
theorem cx_minL : CallRx C (.builtin "min") (b1 fMinL) := CallRx.imp (fun X => rMin X.K) (fun _ _ hx => cr_min hx.calm) fun X W hx φ S H ds vs Q R r P => by
  obtain ⟨d, v, rfl, rv, P⟩ := b1_some P r
  unfold fMinL at P
  cases q : (itemsL S d).bind intsOf with
  | none => rw [q] at P; exact P.elim
  | some ns =>
    rw [q] at P
    simp only [Option.bind_some] at P
    split at P
    · exact P.elim
    · rename_i hne
      obtain ⟨a, rfl, s⟩ := ints_lst R rv q
      rw [hx.K]
      refine ⟨a, ns, rfl, s, List.length_pos_iff.mpr hne, fun m hm hy => ?_⟩
      have e : m = minI ns := Int.le_antisymm (hy _ (minI_mem hne)) (minI_le hm)
      subst e
      exact P.now R (by simp only [VRel])
theorem cx_all : CallRx C (.builtin "all") (b1 fAll) := CallRx.imp (fun X => rAll X.K) (fun _ _ hx => cr_all hx.calm) fun X W hx φ S H ds vs Q R r P => by
  obtain ⟨d, v, rfl, rv, P⟩ := b1_some P r
  unfold fAll at P
  cases q : (itemsL S d).bind blsOf with
  | none => rw [q] at P; exact P.elim
  | some ns =>
    rw [q] at P
    obtain ⟨a, rfl, s⟩ := bls_lst R rv q
    rw [hx.K]
    exact ⟨a, ns, rfl, s, P.now R (by simp only [VRel])⟩
theorem cx_any : CallRx C (.builtin "any") (b1 fAny) := CallRx.imp (fun X => rAny X.K) (fun _ _ hx => cr_any hx.calm) fun X W hx φ S H ds vs Q R r P => by
  obtain ⟨d, v, rfl, rv, P⟩ := b1_some P r
  unfold fAny at P
  cases q : (itemsL S d).bind blsOf with
  | none => rw [q] at P; exact P.elim
  | some ns =>
    rw [q] at P
    obtain ⟨a, rfl, s⟩ := bls_lst R rv q
    rw [hx.K]
    exact ⟨a, ns, rfl, s, P.now R (by simp only [VRel])⟩
end
end Z

/-! Z7: indices, slices, stores to items, methods of lists, in, isinstance. -/
namespace Z
open PySem PySem.Spec PyProof.Rows L2

/-! ### indices -/
theorem VRels.atI {G : Glo} {φ : List Addr} {H : Hp} {ds : List D} {vs : List V} (h : VRels G φ H ds vs) {i : Int} {d : D} (e : atI ds i = some d) : ∃ v, atI vs i = some v ∧ VRel G φ H d v := by
  unfold L2.atI at e ⊢
  rw [← h.length]
  cases q : ixN ds.length i with
  | none => rw [q] at e; cases e
  | some j => rw [q] at e; exact h.get e
def oIx : Op2 := fun d e S => match e with
  | .int i => match d with
    | .str z => if z.length ≤ sl then (atI z.cps.toList i).map fun c => (.str ⟨#[c]⟩, S) else none
    | _ => (itemsD S d).bind fun ds => (atI ds i).map fun x => (x, S)
  | _ => none
section
variable {C : Cp}
theorem ixx : ∀ X W, Cxt C W X → IxR X (rdO C.G oIx) := fun X W hx value slice pins s σ H x y v u Q I rx ry ⟨φ, S, d, e, R, r1, r2, P⟩ hs => by
  unfold oIx at P
  cases e with
  | int i =>
    dsimp only at P
    simp only [VRel] at r2
    subst r2
    cases d with
    | str z =>
      simp only [VRel] at r1
      subst r1
      dsimp only at P
      split at P
      · cases q : atI z.cps.toList i with
        | none => rw [q] at P; exact P.elim
        | some c =>
          rw [q] at P
          exact ix_str value slice pins s σ H _ _ v u Q I rx ry ⟨z, i, c, rfl, rfl, by rw [sl_eq]; assumption, q, PstV.now P R (by simp only [VRel])⟩ hs
      · exact P.elim
    | _ =>
      dsimp only at P
      rename_i d0
      first
        | (cases q : itemsD S (.tup d0) with
          | none => rw [q] at P; exact P.elim
          | some ds =>
            cases q
            simp only [VRel] at r1
            obtain ⟨a, vs, rfl, sq, rs⟩ := r1
            cases q2 : atI d0 i with
            | none => simp only [itemsD, Option.bind_some, q2] at P; exact P.elim
            | some w =>
              simp only [itemsD, Option.bind_some, q2] at P
              obtain ⟨z, ez, rz⟩ := rs.atI q2
              exact ix_tup value slice pins s σ H _ _ v u Q I rx ry ⟨a, vs, i, z, rfl, rfl, by rw [hx.K]; exact sq, ez, PstV.now P R rz⟩ hs)
        | skip
      all_goals first
        | (cases q : itemsL S (.fls d0) with
          | none => cases q
          | some ds =>
            cases q
            simp only [VRel] at r1
            obtain ⟨a, vs, rfl, sq, rs⟩ := r1
            cases q2 : atI d0 i with
            | none => simp only [itemsD, Option.bind_some, q2] at P; exact P.elim
            | some w =>
              simp only [itemsD, Option.bind_some, q2] at P
              obtain ⟨z, ez, rz⟩ := rs.atI q2
              exact ix_list value slice pins s σ H _ _ v u Q I rx ry ⟨a, vs, i, z, rfl, rfl, by rw [hx.K]; exact sq.sq, ez, PstV.now P R rz⟩ hs)
        | skip
      all_goals first
        | (cases q : itemsD S (.ref d0) with
          | none => rw [q] at P; exact P.elim
          | some ds =>
            rw [q] at P
            obtain ⟨a, vs, rfl, sq, rs⟩ := items_lst R r1 (show itemsL S (.ref d0) = some ds from q)
            cases q2 : atI ds i with
            | none => simp only [Option.bind_some, q2] at P; exact P.elim
            | some w =>
              simp only [Option.bind_some, q2] at P
              obtain ⟨z, ez, rz⟩ := rs.atI q2
              exact ix_list value slice pins s σ H _ _ v u Q I rx ry ⟨a, vs, i, z, rfl, rfl, by rw [hx.K]; exact sq, ez, PstV.now P R rz⟩ hs)
        | exact P.elim
  | _ => exact P.elim
end
section
variable {C : Cp} {a b : Expr} {da db : DE} {pos : Pos}
theorem pex_ix (ha : PEx C a da) (hb : PEx C b db) (hs : PlainIx b := by intro _ _; rfl) : PEx C (.Subscript a b pos) (dBin oIx da db) := fun X W h => pe_imp (pe_ix (ixx X W h) (ha X W h) (hb X W h) hs) fun _ _ _ => rd_bin
end

/-! ### slices -/
abbrev DP := En → Store → Res (Option Int)
def pNo : DP := fun _ S => .ok none S
def pAt (a : DE) : DP := fun env S => (a env S).bind fun x S1 => match x with
  | .int i => .ok (some i) S1
  | _ => .bad
def rdP (G : Glo) (W : WX) (d : DP) : TO := fun σ H Q => ∃ φ S env, Rel G φ S H ∧ ERel G φ H env σ ∧ Pst G (fun c p H' => W c p σ H') φ H (fun _ H' _ o => Q o H') (d env S)
def POx (C : Cp) (e : Option Expr) (d : DP) : Prop := ∀ X W, Cxt C W X → PO X e (rdP C.G W d)
theorem po_imp {X : Cx} {e : Option Expr} {t t' : TO} (h : PO X e t) (k : ∀ σ H Q, t' σ H Q → t σ H Q) : PO X e t' := ⟨fun pins s σ H Q I q => h.run pins s σ H Q I (k σ H Q q)⟩
def cutD {α : Type} (xs : List α) (lo hi : Option Int) : List α := (xs.drop (HT.sIx xs.length 0 lo)).take (HT.sIx xs.length xs.length hi - HT.sIx xs.length 0 lo)
def oSl (d : D) (lo hi : Option Int) (S : Store) : Option (D × Store) := match d with
  | .str z => if z.length ≤ sl then some (.str (cutS z lo hi), S) else none
  | .tup ds => some (.tup (cutD ds lo hi), S)
  | d => (itemsL S d).map fun ds => (.ref S.length, S ++ [.lst (cutD ds lo hi)])
def dSl (a : DE) (lo hi : DP) : DE := fun env S => (a env S).bind fun x S1 => (lo env S1).bind fun l S2 => (hi env S2).bind fun h S3 => ofO (oSl x l h S3)
theorem cut_rel {G : Glo} {φ : List Addr} {H : Hp} {ds : List D} {vs : List V} (h : VRels G φ H ds vs) (lo hi : Option Int) : VRels G φ H (cutD ds lo hi) (cutV vs lo hi) := by
  unfold cutD cutV
  rw [h.length]
  exact (h.drop _).take _
section
variable {C : Cp} {a b : Expr} {da db : DE} {pos p2 : Pos} {lo hi : Option Expr} {dl dh : DP}
theorem pox_no : POx C none pNo := fun X W h => po_imp po_none fun σ H Q ⟨φ, S, env, R, E, P⟩ => Pst.now P R
theorem pox_at (ha : PEx C a da) : POx C (some a) (pAt da) := fun X W h => by
  refine po_imp (po_some (ha X W h)) fun σ H Q ⟨φ, S, env, R, E, P⟩ => ?_
  refine ⟨φ, S, env, R, E, P.bind.imp fun φ1 H1 S1 x n1 R1 P1 v1 r1 => ?_⟩
  cases x with
  | int i => simp only [VRel] at r1; exact ⟨i, r1, Pst.now P1 R1⟩
  | _ => exact P1.elim
def rSlZ (G : Glo) : V → Option Int → Option Int → Hp → VK → Prop := fun x lo hi H Q => ∃ φ S d, Rel G φ S H ∧ VRel G φ H d x ∧ PstV G φ H Q (oSl d lo hi S)
theorem slx : ∀ X W, Cxt C W X → L2.SlR X (rSlZ C.G) := fun X W hx pins s σ H x v vl vu lo hi sl Q I rx hs pl pu ⟨φ, S, d, R, r, P⟩ => by
  cases d with
  | str z =>
    simp only [VRel] at r
    subst r
    simp only [oSl] at P
    split at P
    · exact sl_str pins s σ H _ v vl vu lo hi sl Q I rx hs pl pu ⟨z, rfl, by rw [sl_eq]; assumption, P.now R (by simp only [VRel])⟩
    · exact P.elim
  | tup ds =>
    have r' := r
    simp only [VRel] at r
    obtain ⟨a, vs, rfl, sq, rs⟩ := r
    refine sl_tupA pins s σ H _ v vl vu lo hi sl Q I rx hs pl pu ⟨a, vs, rfl, by rw [hx.K]; exact sq, fun e => ?_, fun _ p hp => PstV.tup P R (cut_rel rs lo hi) hp⟩
    refine P.now R ?_
    have : cutD ds lo hi = ds := by
      unfold cutD
      rw [rs.length, e.1, e.2]
      simp [← rs.length]
    rw [this]
    exact r'
  | fls ds =>
    simp only [VRel] at r
    obtain ⟨a, vs, rfl, sq, rs⟩ := r
    exact sl_list pins s σ H _ v vl vu lo hi sl Q I rx hs pl pu ⟨a, vs, rfl, by rw [hx.K]; exact sq.sq, fun p hp => PstV.lst P R (cut_rel rs lo hi) hp⟩
  | ref i =>
    cases q : itemsL S (.ref i) with
    | none => simp only [oSl, q] at P; exact P.elim
    | some ds =>
      simp only [oSl, q] at P
      obtain ⟨a, vs, rfl, sq, rs⟩ := items_lst R r q
      exact sl_list pins s σ H _ v vl vu lo hi sl Q I rx hs pl pu ⟨a, vs, rfl, by rw [hx.K]; exact sq, fun p hp => PstV.lst P R (cut_rel rs lo hi) hp⟩
  | _ => exact P.elim
theorem pex_sl (ha : PEx C a da) (hl : POx C lo dl) (hh : POx C hi dh) : PEx C (.Subscript a (.Slice lo hi none p2) pos) (dSl da dl dh) := fun X W h => by
  refine pe_imp (pe_slice (slx X W h) (ha X W h) (hl X W h) (hh X W h)) fun σ H Q ⟨φ, S, env, R, E, P⟩ => ?_
  refine ⟨φ, S, env, R, E, P.bind.imp fun φ1 H1 S1 x n1 R1 P1 v1 r1 => ?_⟩
  refine ⟨φ1, S1, env, R1, E.nxt n1, P1.bind.imp fun φ2 H2 S2 l n2 R2 P2 => ?_⟩
  refine ⟨φ2, S2, env, R2, (E.nxt n1).nxt n2, P2.bind.imp fun φ3 H3 S3 h n3 R3 P3 => ?_⟩
  exact ⟨φ3, S3, x, R3, (r1.nxt n2).nxt n3, PstV.of P3⟩
end

/-! ### o[i] = v, o[i] op= v -/
def setD (o i d : D) (S : Store) : Option Store := match o, i with
  | .ref r, .int k => match S[r]? with
    | some (.lst ds) => (ixN ds.length k).map fun j => S.set r (.lst (ds.set j d))
    | _ => none
  | _, _ => none
def ofS (o : Option Store) (env : En) : Res En := match o with
  | some S => .ok env S
  | none => .bad
@[simp] theorem ofS_some (S : Store) (env : En) : ofS (some S) env = .ok env S := rfl
def gSb (o i : DE) : DG := fun d env S => (o env S).bind fun x S1 => (i env S1).bind fun y S2 => ofS (setD x y d S2) env
def rdSet (G : Glo) : TSet := fun o i v H Q => ∃ φ S x y d, Rel G φ S H ∧ VRel G φ H x o ∧ VRel G φ H y i ∧ VRel G φ H d v ∧ match setD x y d S with
  | some S' => ∀ φ' H', Nxt φ φ' H H' → Rel G φ' S' H' → Q H'
  | none => False
section
variable {C : Cp} {a b e : Expr} {da db de : DE} {pos : Pos}
theorem setx : ∀ X W, Cxt C W X → PSet X (rdSet C.G) := fun X W hx pins s σ H o i v ov iv u Q I r1 r2 r3 ⟨φ, S, x, y, d, R, q1, q2, q3, P⟩ => by
  cases hS : setD x y d S with
  | none => rw [hS] at P; exact P.elim
  | some S' =>
    rw [hS] at P
    unfold setD at hS
    split at hS
    · rename_i r k
      split at hS
      · rename_i ds e
        simp only [Option.map_eq_some_iff] at hS
        obtain ⟨j, hj, rfl⟩ := hS
        obtain ⟨p, vs, rfl, q, rs, hp⟩ := sq_lst R q1 e
        simp only [VRel] at q2
        subst q2
        refine set_list pins s σ H _ _ v ov iv u Q I r1 r2 r3 ⟨p, vs, k, j, rfl, rfl, q, by rw [← rs.length]; exact hj, ?_⟩
        have n0 : Nxt φ φ H (upd H p (.lst (vs.set j v))) := Nxt.mut q trivial (List.mem_of_getElem? hp)
        obtain ⟨R', n'⟩ := R.set (o' := .lst (ds.set j d)) (u := .lst (vs.set j v)) hp e ⟨_, upd_same, (rs.set j q3).nxt n0⟩
        exact P φ _ n' R'
      · cases hS
    · cases hS
theorem pgx_sb (ha : PEx C a da) (hb : PEx C b db) (hs : ∀ env v, assign (.Subscript a b pos) env v = (do
      let ov ← holding [v] (eval a env)
      let iv ← holding [v, ov] (eval b env)
      standAt pos
      holding [v, ov, iv] (setItem ov iv v)
      release [v, ov, iv] []) := by intro _ _; rfl) : PGx C (.Subscript a b pos) [] (gSb da db) := fun X W h => by
  refine pg_imp (pg_sub (ha X W h) (hb X W h) (setx X W h) (hs X.env)) fun v σ H Q ⟨φ, S, env, d, R, E, r, P⟩ => ?_
  refine ⟨φ, S, env, R, E, (pst_err P.bind).imp fun φ1 H1 S1 x n1 R1 P1 v1 r1 => ?_⟩
  refine ⟨φ1, S1, env, R1, E.nxt n1, (pst_err P1.bind).imp fun φ2 H2 S2 y n2 R2 P2 v2 r2 => ?_⟩
  refine ⟨φ2, S2, x, y, d, R2, r1.nxt n2, r2, (r.nxt n1).nxt n2, ?_⟩
  cases q : setD x y d S2 with
  | none => rw [q] at P2; exact P2.elim
  | some S3 =>
    rw [q] at P2
    exact fun φ3 H3 n3 R3 => P2 φ3 H3 n3 R3 σ (((E.nxt n1).nxt n2).nxt n3) rfl fun _ _ => rfl
/-- name op= e -/
def sAug (i : Nat) (op : Op2) (a : DE) : DS := fun env S => match env[i]? with
  | some (some d) => (a env S).bind fun x S1 => (ofO (op d x S1)).bind fun y S2 => .ok (.nx (env.set i (some y))) S2
  | _ => .bad
theorem psx_aug (i : Nat) {o : Operator} {op : Op2} {x : Str} {px : Pos} (nd : C.N.Nodup) (hN : C.N[i]? = some x) (hl : locB C x = true) (ho : OpRx C (inplaceOp o) op) (ha : PEx C a da) : PSx C (.AugAssign (.Name x px) o a pos) (sAug i op da) := fun X W h => by
  obtain ⟨l1, l2⟩ := locB_ok hl h
  refine ps_imp (ps_aug (X := X) (i := i) (ti := rdO C.G op) (by rw [h.N]; exact nd) (by rw [h.N]; exact hN) l1 (ha X W h) (ho X W h) l2) fun D σ H ⟨φ, S, env, R, E, P⟩ => ?_
  unfold sAug at P
  split at P
  · rename_i d e
    obtain ⟨v, hv, r⟩ := E.2 i d e
    refine ⟨v, hv, φ, S, env, R, E, (pst_err P.bind).imp fun φ1 H1 S1 x n1 R1 P1 v1 r1 => ?_⟩
    refine ⟨φ1, S1, d, x, R1, r.nxt n1, r1, ?_⟩
    cases q : op d x S1 with
    | none => rw [q] at P1; exact P1.elim
    | some p =>
      obtain ⟨y, S2⟩ := p
      rw [q] at P1
      intro φ2 H2 n2 R2 w rw'
      exact (P1.nxt n2 |> fun P2 => (Pst.now P2 R2 : FlP C.G D φ2 H2 (.nx _))) _ (((E.nxt n1).nxt n2).set rw')
  · exact P.elim
/-- o[i], by values -/
theorem pget_list {X : Cx} : PGet X (rIxL X.K) := fun pins s σ H x y v u Q I rx ry h => by
  obtain ⟨p, xs, i, z, rfl, rfl, hq, he, q⟩ := h
  cases rx
  obtain ⟨t, rfl⟩ := ry
  obtain ⟨its, r, pl, hz⟩ := I.list hq
  obtain ⟨j, h1, h2, h3, h4, h5⟩ := atI_get he
  obtain ⟨w, ew, rw'⟩ := r.get h2
  have hl := r.length
  have hn := line63
  have fin : EP X pins σ Q w s := ⟨z, H, I, rw', q⟩
  by_cases h0 : 0 ≤ i
  · have hj : i.toNat = j := by
      rw [seqIndex_of h0 h5] at h1
      exact Option.some.inj h1
    exact wpAny_getItem_list pl.isList h0 (by omega) (by rw [hj]; simpa using ew) fin
  · have hj : (i + (its.toArray.size : Int)).toNat = j := by
      rw [seqIndex_neg (by omega) h4] at h1
      rw [List.size_toArray, ← hl]
      exact Option.some.inj h1
    exact wpAny_getItem_list_neg pl.isList (by omega) (by rw [List.size_toArray] <;> omega) (by omega) (by rw [hj]; simpa using ew) fin
def getL (o i : D) (S : Store) : Option D := match o, i with
  | .ref r, .int k => match S[r]? with
    | some (.lst ds) => atI ds k
    | _ => none
  | _, _ => none
def sAugS (o i : DE) (op : Op2) (a : DE) : DS := fun env S => (o env S).bind fun x S1 => (i env S1).bind fun y S2 => match getL x y S2 with
  | some old => (a env S2).bind fun w S3 => (ofO (op old w S3)).bind fun new S4 => match setD x y new S4 with
    | some S5 => .ok (.nx env) S5
    | none => .bad
  | none => .bad
theorem psx_augS {o : Operator} {op : Op2} {tpos : Pos} (ha : PEx C a da) (hb : PEx C b db) (ho : OpRx C (inplaceOp o) op) (he : PEx C e de)
    (hs : ∀ ov iv new, augStore b ov iv new = (do holding [new, ov, iv] (setItem ov iv new); release [new, ov, iv] []; pure .next) := by intros; rfl) : PSx C (.AugAssign (.Subscript a b tpos) o e pos) (sAugS da db op de) := fun X W h => by
  refine ps_imp (ps_augS (tip := rdO C.G op) (ha X W h) (hb X W h) pget_list (he X W h) (ho X W h) (setx X W h) hs) fun D σ H ⟨φ, S, env, R, E, P⟩ => ?_
  refine ⟨φ, S, env, R, E, (pst_err P.bind).imp fun φ1 H1 S1 x n1 R1 P1 v1 r1 => ?_⟩
  refine ⟨φ1, S1, env, R1, E.nxt n1, (pst_err P1.bind).imp fun φ2 H2 S2 y n2 R2 P2 v2 r2 => ?_⟩
  cases q : getL x y S2 with
  | none => rw [q] at P2; exact P2.elim
  | some old =>
    rw [q] at P2
    unfold getL at q
    split at q
    · rename_i r k
      split at q
      · rename_i ds es
        obtain ⟨p, vs, rfl, sq, rs, hp⟩ := sq_lst R2 (r1.nxt n2) es
        simp only [VRel] at r2
        subst r2
        obtain ⟨z, ez, rz⟩ := rs.atI q
        rw [h.K]
        refine ⟨p, vs, k, z, rfl, rfl, SqL.of sq, ez, φ2, S2, env, R2, (E.nxt n1).nxt n2, (pst_err P2.bind).imp fun φ3 H3 S3 w n3 R3 P3 v3 r3 => ?_⟩
        refine ⟨φ3, S3, old, w, R3, rz.nxt n3, r3, ?_⟩
        cases q3 : op old w S3 with
        | none => rw [q3] at P3; exact P3.elim
        | some pr =>
          obtain ⟨new, S4⟩ := pr
          rw [q3] at P3
          intro φ4 H4 n4 R4 v4 r4
          refine ⟨φ4, S4, .ref r, .int k, new, R4, (((r1.nxt n2).nxt n3).nxt n4), by simp only [VRel], r4, ?_⟩
          simp only [ofO_some, Res.bind_ok] at P3
          cases q4 : setD (.ref r) (.int k) new S4 with
          | none => rw [q4] at P3; exact P3.elim
          | some S5 =>
            rw [q4] at P3
            exact fun φ5 H5 n5 R5 => (P3 φ5 H5 (n4.trans n5) R5 : FlP C.G D φ5 H5 (.nx env)) σ (((((E.nxt n1).nxt n2).nxt n3).nxt n4).nxt n5)
      · cases q
    · cases q
end
/-! ### in-place operators -/
def mul64 (i j : Int) : Bool := (decide (-(2 ^ 64) < i) && decide (i < 2 ^ 64)) || (decide (-(2 ^ 64) < j) && decide (j < 2 ^ 64))
def oIMul : Op2 := oInt mul64 fun i j => .int (i * j)
section
variable {C : Cp}
theorem ipx_add : OpRx C (inplaceOp .Add) oAddI := opx_int0 (fun _ _ _ => iop_add) fun _ _ _ _ => by simp only [VRel]
theorem ipx_sub : OpRx C (inplaceOp .Sub) oSubI := opx_int0 (fun _ _ _ => iop_sub) fun _ _ _ _ => by simp only [VRel]
theorem ipx_mul : OpRx C (inplaceOp .Mult) oIMul := opx_int (fun _ _ _ => iop_mul) (fun i j h => by
  rcases Bool.or_eq_true_iff.mp h with h | h
  · obtain ⟨a, b⟩ := Bool.and_eq_true_iff.mp h
    exact .inl ⟨of_decide_eq_true a, of_decide_eq_true b⟩
  · obtain ⟨a, b⟩ := Bool.and_eq_true_iff.mp h
    exact .inr ⟨of_decide_eq_true a, of_decide_eq_true b⟩) fun _ _ _ _ => by simp only [VRel]
theorem ipx_div : OpRx C (inplaceOp .FloorDiv) oDivI := opx_int (fun _ _ _ => iop_fdivW) (fun i j h => by
  obtain ⟨a, b⟩ := Bool.and_eq_true_iff.mp h
  exact ⟨of_decide_eq_true a, of_decide_eq_true b⟩) fun _ _ _ _ => by simp only [VRel]
end
end Z

/-! Z8: methods of lists and texts, in, is, isinstance. -/
namespace Z
open PySem PySem.Spec PyProof.Rows L2

/-! ### methods -/
abbrev Mf := D → List D → Store → Option (D × Store)
def rdM (G : Glo) (f : Mf) : V → List V → Hp → VK → Prop := fun x vs H Q => ∃ φ S d ds, Rel G φ S H ∧ VRel G φ H d x ∧ VRels G φ H ds vs ∧ PstV G φ H Q (f d ds S)
def MtRx (C : Cp) (id : String) (f : Mf) : Prop := ∀ X W, Cxt C W X → MtR X id (rdM C.G f)
def isL (d : D) (S : Store) : Bool := match d with
  | .ref i => match S[i]? with
    | some (.lst _) => true
    | _ => false
  | _ => false
theorem isL_ok {G : Glo} {φ : List Addr} {S : Store} {H : Hp} (R : Rel G φ S H) {d : D} {v : V} (r : VRel G φ H d v) (h : isL d S = true) : tyV G.K "list" v H := by
  unfold isL at h
  split at h
  · split at h
    · rename_i i ds e
      obtain ⟨a, vs, rfl, q, _, _⟩ := sq_lst R r e
      exact .inl ⟨rfl, vs, SqL.of q⟩
    · cases h
  · cases h
def dMeth (ck : D → Store → Bool) (f : Mf) (o : DE) (r : DA) : DE := fun env S => (o env S).bind fun x S1 => if ck x S1 = true then (r env S1).bind fun xs S2 => ofO (f x xs S2) else .bad
section
variable {C : Cp} {o e : Expr} {es : List Expr} {dₒ : DE} {dr : DA} {name : Str} {id T : String} {f : Mf} {apos cpos : Pos} {ck : D → Store → Bool}
theorem pex_bm (pa : PlainAttrs T) (slot : Slot T name id) (hty : typeOf (.builtin id) = pure (.type "method_descriptor")) (hm : MtRx C id f) (hck : ∀ φ S H d v, Rel C.G φ S H → VRel C.G φ H d v → ck d S = true → tyV C.G.K T v H) (ho : PEx C o dₒ) (ha : PAx C (e :: es) dr)
    (hbase : ∀ env, attributeBase o name env (eval o env) = eval o env := by intro _; rfl)
    (hfew : ∀ env, ((backTo cpos (starEach (e :: es) env)).all (fun x => !x.1) && (backToKw cpos (keywordEach [] env)).all (fun x => x.1.isSome)
      && decide ((e :: es).length + ([] : List Keyword).length + (if ([] : List Keyword).isEmpty then 0 else 1) < 30)) = true := by intro _; rfl)
    (hline : (apos.endLine == cpos.line) = true := by rfl) (hs : ∀ env, starEach (e :: es) env = (false, eval e env) :: starEach es env := by intro _; rfl) (hplain : ∀ env, (backTo cpos (starEach es env)).any (·.1) = false := by intro _; rfl) :
    PEx C (.Call (.Attribute o name apos) (e :: es) [] cpos) (dMeth ck f dₒ dr) := fun X W h => by
  refine pe_imp (pe_bm pa slot hty (hm X W h) (ho X W h) (ha X W h) (hbase X.env) (hfew X.env) hline (hs X.env) (hplain X.env)) fun σ H Q ⟨φ, S, env, R, E, P⟩ => ?_
  refine ⟨φ, S, env, R, E, P.bind.imp fun φ1 H1 S1 x n1 R1 P1 v1 r1 => ?_⟩
  split at P1
  · rename_i hc
    rw [h.K]
    refine ⟨hck φ1 S1 H1 x v1 R1 r1 hc, φ1, S1, env, R1, E.nxt n1, P1.bind.imp fun φ2 H2 S2 xs n2 R2 P2 vs rs => ?_⟩
    exact ⟨φ2, S2, x, xs, R2, r1.nxt n2, rs, PstV.of P2⟩
  · exact P1.elim
theorem pex_bm0 (pa : PlainAttrs T) (slot : Slot T name id) (hty : typeOf (.builtin id) = pure (.type "method_descriptor")) (hm : MtRx C id f) (hck : ∀ φ S H d v, Rel C.G φ S H → VRel C.G φ H d v → ck d S = true → tyV C.G.K T v H) (ho : PEx C o dₒ)
    (hbase : ∀ env, attributeBase o name env (eval o env) = eval o env := by intro _; rfl) (hline : (apos.endLine == cpos.line) = true := by rfl) :
    PEx C (.Call (.Attribute o name apos) [] [] cpos) (dMeth ck f dₒ dNil) := fun X W h => by
  refine pe_imp (pe_bm0 pa slot hty (hm X W h) (ho X W h) (hbase X.env) hline) fun σ H Q ⟨φ, S, env, R, E, P⟩ => ?_
  refine ⟨φ, S, env, R, E, P.bind.imp fun φ1 H1 S1 x n1 R1 P1 v1 r1 => ?_⟩
  split at P1
  · rename_i hc
    rw [h.K]
    exact ⟨hck φ1 S1 H1 x v1 R1 r1 hc, φ1, S1, x, [], R1, r1, VRels.nil, PstV.of P1⟩
  · exact P1.elim
end
/-- a list method that changes it -/
def onL (d : D) (S : Store) (k : Nat → List D → Option (D × Store)) : Option (D × Store) := match d with
  | .ref i => match S[i]? with
    | some (.lst ds) => k i ds
    | _ => none
  | _ => none
theorem onL_some {G : Glo} {φ : List Addr} {S : Store} {H : Hp} {Q : VK} {d : D} {k : Nat → List D → Option (D × Store)} (h : PstV G φ H Q (onL d S k)) : ∃ i ds, d = .ref i ∧ S[i]? = some (.lst ds) ∧ PstV G φ H Q (k i ds) := by
  unfold onL at h
  split at h
  · split at h
    · exact ⟨_, _, rfl, by assumption, h⟩
    · exact h.elim
  · exact h.elim
/-- the list i changed, a value handed back -/
theorem PstV.put {G : Glo} {φ : List Addr} {S : Store} {H : Hp} {Q : VK} {i : Nat} {ds ds' : List D} {r : D} {p : Addr} {vs vs' : List V} {v : V} (h : PstV G φ H Q (some (r, S.set i (.lst ds')))) (R : Rel G φ S H) (e : S[i]? = some (.lst ds)) (hp : φ[i]? = some p) (q : H p = some (.lst vs)) (rs : VRels G φ H ds' vs') (rv : VRel G φ H r v) : Q v (upd H p (.lst vs')) := by
  have n0 : Nxt φ φ H (upd H p (.lst vs')) := Nxt.mut q trivial (List.mem_of_getElem? hp)
  obtain ⟨R', n'⟩ := R.set (o' := .lst ds') (u := .lst vs') hp e ⟨_, upd_same, rs.nxt n0⟩
  exact h φ _ n' R' v (rv.nxt n')
def mAppend : Mf := fun d xs S => match xs with
  | [x] => onL d S fun i ds => if ds.length < sl then some (.non, S.set i (.lst (ds ++ [x]))) else none
  | _ => none
def mExtend : Mf := fun d xs S => match xs with
  | [.ref j] => onL d S fun i ds => match S[j]? with
    | some (.lst es) => if ds.length + es.length ≤ sl then some (.non, S.set i (.lst (ds ++ es))) else none
    | _ => none
  | _ => none
def mPop : Mf := fun d xs S => match xs with
  | [] => onL d S fun i ds => (ds[ds.length - 1]?).map fun y => (y, S.set i (.lst ds.dropLast))
  | [.int k] => onL d S fun i ds => if -(2 ^ 63) ≤ k ∧ k < 2 ^ 63 then (seqIndex? k ds.length).bind fun j => (ds[j]?).map fun y => (y, S.set i (.lst (ds.eraseIdx j))) else none
  | _ => none
def mInsert : Mf := fun d xs S => match xs with
  | [.int k, x] => onL d S fun i ds => if ds.length < sl ∧ 0 ≤ k ∧ k < 2 ^ 63 then some (.non, S.set i (.lst (ds.take k.toNat ++ [x] ++ ds.drop k.toNat))) else none
  | _ => none
theorem VRels.dropLast {G : Glo} {φ : List Addr} {H : Hp} {ds : List D} {vs : List V} (h : VRels G φ H ds vs) : VRels G φ H ds.dropLast vs.dropLast := by
  rw [List.dropLast_eq_take, List.dropLast_eq_take, h.length]
  exact h.take _
theorem VRels.eraseIdx {G : Glo} {φ : List Addr} {H : Hp} {ds : List D} {vs : List V} (h : VRels G φ H ds vs) (j : Nat) : VRels G φ H (ds.eraseIdx j) (vs.eraseIdx j) := by
  rw [List.eraseIdx_eq_take_drop_succ, List.eraseIdx_eq_take_drop_succ]
  exact (h.take j).append (h.drop (j + 1))
section
variable {C : Cp}
theorem mtx_append : MtRx C "list.append" mAppend := fun X W hx pins s σ H x vs v us Q I r1 r2 ⟨φ, S, d, ds, R, q1, q2, P⟩ => by
  unfold mAppend at P
  split at P
  · rename_i y
    obtain ⟨i, es, rfl, e, P⟩ := onL_some P
    obtain ⟨p, ws, rfl, q, rs, hp⟩ := sq_lst R q1 e
    obtain ⟨w, rfl, rw'⟩ := rels1 q2
    split at P
    · exact mt_append pins s σ H _ _ v us Q I r1 r2 ⟨p, ws, w, rfl, rfl, q, by rw [sl_eq, ← rs.length]; assumption, P.put R e hp q (rs.append (VRels.cons rw' VRels.nil)) (by simp only [VRel])⟩
    · exact P.elim
  · exact P.elim
theorem mtx_extend : MtRx C "list.extend" mExtend := fun X W hx pins s σ H x vs v us Q I r1 r2 ⟨φ, S, d, ds, R, q1, q2, P⟩ => by
  unfold mExtend at P
  split at P
  · rename_i j
    obtain ⟨i, es, rfl, e, P⟩ := onL_some P
    obtain ⟨p, ws, rfl, q, rs, hp⟩ := sq_lst R q1 e
    obtain ⟨w, rfl, rw'⟩ := rels1 q2
    split at P
    · rename_i fs ef
      obtain ⟨b, ts, rfl, q', rs', _⟩ := sq_lst R rw' ef
      split at P
      · exact mt_extend pins s σ H _ _ v us Q I r1 r2 ⟨p, b, ws, ts, rfl, rfl, q, q', by rw [sl_eq, ← rs.length, ← rs'.length]; assumption, P.put R e hp q (rs.append rs') (by simp only [VRel])⟩
      · exact P.elim
    · exact P.elim
  · exact P.elim
theorem mtx_pop : MtRx C "list.pop" mPop := fun X W hx pins s σ H x vs v us Q I r1 r2 ⟨φ, S, d, ds, R, q1, q2, P⟩ => by
  unfold mPop at P
  split at P
  · obtain ⟨i, es, rfl, e, P⟩ := onL_some P
    obtain ⟨p, ws, rfl, q, rs, hp⟩ := sq_lst R q1 e
    have e0 : vs = [] := by simpa [VRels] using q2
    subst e0
    cases ey : es[es.length - 1]? with
    | none => rw [ey] at P; exact P.elim
    | some y =>
      rw [ey] at P
      obtain ⟨w, ew, rw'⟩ := rs.get ey
      exact mt_pop pins s σ H _ _ v us Q I r1 r2 ⟨p, ws, w, rfl, rfl, q, by rw [← rs.length]; exact ew, PstV.put P R e hp q rs.dropLast rw'⟩
  · rename_i k
    obtain ⟨i, es, rfl, e, P⟩ := onL_some P
    obtain ⟨p, ws, rfl, q, rs, hp⟩ := sq_lst R q1 e
    obtain ⟨w, rfl, rw'⟩ := rels1 q2
    simp only [VRel] at rw'
    subst rw'
    split at P
    · rename_i hk
      cases ej : seqIndex? k es.length with
      | none => rw [ej] at P; exact P.elim
      | some j =>
        rw [ej] at P
        simp only [Option.bind_some] at P
        cases ey : es[j]? with
        | none => rw [ey] at P; exact P.elim
        | some y =>
          rw [ey] at P
          obtain ⟨w, ew, rw'⟩ := rs.get ey
          exact mt_popAt pins s σ H _ _ v us Q I r1 r2 ⟨p, ws, k, j, w, rfl, rfl, q, hk.1, hk.2, by rw [← rs.length]; exact ej, ew, PstV.put P R e hp q (rs.eraseIdx j) rw'⟩
    · exact P.elim
  · exact P.elim
theorem mtx_insert : MtRx C "list.insert" mInsert := fun X W hx pins s σ H x vs v us Q I r1 r2 ⟨φ, S, d, ds, R, q1, q2, P⟩ => by
  unfold mInsert at P
  split at P
  · rename_i k y
    obtain ⟨i, es, rfl, e, P⟩ := onL_some P
    obtain ⟨p, ws, rfl, q, rs, hp⟩ := sq_lst R q1 e
    obtain ⟨w, w2, rfl, rw', rw2⟩ := rels2 q2
    simp only [VRel] at rw'
    subst rw'
    split at P
    · rename_i hk
      exact mt_insert pins s σ H _ _ v us Q I r1 r2 ⟨p, ws, k, w2, rfl, rfl, q, by rw [sl_eq, ← rs.length]; exact hk.1, hk.2.1, hk.2.2, PstV.put P R e hp q (((rs.take _).append (VRels.cons rw2 VRels.nil)).append (rs.drop _)) (by simp only [VRel])⟩
    · exact P.elim
  · exact P.elim
variable {o e : Expr} {dₒ de : DE} {apos cpos : Pos}
theorem hckL : ∀ φ S H d v, Rel C.G φ S H → VRel C.G φ H d v → isL d S = true → tyV C.G.K "list" v H := fun φ S H d v R r h => isL_ok R r h
end
/-! ### texts -/
def strsOf : List D → Option (List Str)
  | [] => some []
  | .str i :: r => (strsOf r).map (i :: ·)
  | _ :: _ => none
theorem strsOf_eq : ∀ {ds : List D} {ns : List Str}, strsOf ds = some ns → ds = ns.map D.str
  | [], _, h => by cases h; rfl
  | .str i :: r, ns, h => by
    simp only [strsOf, Option.map_eq_some_iff] at h
    obtain ⟨ms, e, rfl⟩ := h
    rw [strsOf_eq e]; rfl
  | .non :: _, _, h => by cases h
  | .bl _ :: _, _, h => by cases h
  | .int _ :: _, _, h => by cases h
  | .tup _ :: _, _, h => by cases h
  | .ref _ :: _, _, h => by cases h
  | .st _ :: _, _, h => by cases h
  | .ty _ :: _, _, h => by cases h
  | .fls _ :: _, _, h => by cases h
@[simp] theorem strsOf_map : ∀ ns : List Str, strsOf (ns.map D.str) = some ns
  | [] => rfl
  | n :: ns => by simp [strsOf, strsOf_map ns]
theorem rel_strs {G : Glo} {φ : List Addr} {H : Hp} : ∀ {ns : List Str} {vs : List V}, VRels G φ H (ns.map D.str) vs → vs = ns.map V.str
  | [], _, h => by simpa [VRels] using h
  | n :: ns, _, h => by
    simp only [List.map_cons, VRels, VRel] at h
    obtain ⟨u, us, rfl, rfl, rs⟩ := h
    rw [rel_strs rs]; rfl
def isS (d : D) : Bool := match d with
  | .str _ => true
  | _ => false
def dMethS (f : Mf) (o a : DE) : DE := fun env S => (o env S).bind fun x S1 => if isS x = true then (a env S1).bind fun y S2 => ofO (f x [y] S2) else .bad
def mJoin : Mf := fun d xs S => match d, xs with
  | .str a, [y] => ((itemsD S y).bind strsOf).bind fun ys => if (ys.map (·.length)).sum + ys.length * a.length ≤ 16777216 then some (.str (Txt.join a ys), S) else none
  | _, _ => none
section
variable {C : Cp} {o e : Expr} {dₒ de : DE} {apos pos : Pos} {name : Str} {id : String} {f : Mf}
theorem pex_m1 (slot : Slot "str" name id) (ty : typeOf (.builtin id) = pure (.type "method_descriptor")) (hm : MtRx C id f) (ho : PEx C o dₒ) (he : PEx C e de)
    (hs : ∀ env, starEach [e] env = [(false, eval e env)] := by intro _; rfl) (hbase : ∀ env, attributeBase o name env (eval o env) = eval o env := by intro _; rfl) (hline : (apos.endLine == pos.line) = true := by rfl) :
    PEx C (.Call (.Attribute o name apos) [e] [] pos) (dMethS f dₒ de) := fun X W h => by
  refine pe_imp (pe_m1 slot ty (hm X W h) (ho X W h) (he X W h) (hs X.env) (hbase X.env) hline) fun σ H Q ⟨φ, S, env, R, E, P⟩ => ?_
  refine ⟨φ, S, env, R, E, P.bind.imp fun φ1 H1 S1 x n1 R1 P1 v1 r1 => ?_⟩
  split at P1
  · rename_i hc
    cases x with
    | str z =>
      have r1' := r1
      simp only [VRel] at r1
      refine ⟨⟨z, r1⟩, φ1, S1, env, R1, E.nxt n1, P1.bind.imp fun φ2 H2 S2 y n2 R2 P2 v2 r2 => ?_⟩
      exact ⟨φ2, S2, .str z, [y], R2, r1'.nxt n2, VRels.cons r2 VRels.nil, PstV.of P2⟩
    | _ => cases hc
  · exact P1.elim
theorem mtx_join : MtRx C "str.join" mJoin := fun X W hx pins s σ H x vs v us Q I r1 r2 ⟨φ, S, d, ds, R, q1, q2, P⟩ => by
  unfold mJoin at P
  split at P
  · rename_i a y
    obtain ⟨w, rfl, rw'⟩ := rels1 q2
    simp only [VRel] at q1
    subst q1
    cases q : (itemsD S y).bind strsOf with
    | none => rw [q] at P; exact P.elim
    | some ys =>
      rw [q] at P
      simp only [Option.bind_some] at P
      obtain ⟨es, e1, e2⟩ := Option.bind_eq_some_iff.mp q
      obtain ⟨b, ws, rfl, sq, rs⟩ := items_seq R rw' e1
      rw [strsOf_eq e2] at rs
      rw [rel_strs rs] at sq
      split at P
      · refine mt_join pins s σ H _ _ v us Q I r1 r2 ⟨a, b, ys, rfl, rfl, by rw [hx.K]; exact sq, by assumption, P.now R (by simp only [VRel])⟩
      · exact P.elim
    
  · exact P.elim
end

/-! ### in, not in, is None -/
def flatD : D → Bool
  | .non => true
  | .bl _ => true
  | .int _ => true
  | .str _ => true
  | _ => false
def toV : D → V
  | .non => .non
  | .bl b => .bl b
  | .int i => .int i
  | .str s => .str s
  | _ => .non
theorem flat_rel {G : Glo} {φ : List Addr} {H : Hp} {d : D} {v : V} (h : flatD d = true) (r : VRel G φ H d v) : v = toV d ∧ flatV v = true := by
  cases d <;> first | (simp only [VRel] at r; subst r; exact ⟨rfl, rfl⟩) | cases h
theorem flats_rel {G : Glo} {φ : List Addr} {H : Hp} : ∀ {ds : List D} {vs : List V}, ds.all flatD = true → VRels G φ H ds vs → vs = ds.map toV ∧ vs.all flatV = true
  | [], _, _, r => by simp only [VRels] at r; subst r; exact ⟨rfl, rfl⟩
  | d :: ds, _, h, r => by
    simp only [VRels] at r
    obtain ⟨u, us, rfl, r1, rs⟩ := r
    simp only [List.all_cons, Bool.and_eq_true] at h
    obtain ⟨e1, f1⟩ := flat_rel h.1 r1
    obtain ⟨e2, f2⟩ := flats_rel h.2 rs
    exact ⟨by rw [e1, e2]; rfl, by simp [f1, f2]⟩
def inF (d : D) (ds : List D) : Bool := ds.any fun y => eqV (toV y) (toV d)
def oInF (neg : Bool) : Op2 := fun d e S => (itemsD S e).bind fun ds => if flatD d = true ∧ ds.all flatD = true then some (.bl (if neg = true then !inF d ds else inF d ds), S) else none
def oInS (neg : Bool) : Op2 := fun d e S => match d, e with
  | .str x, .str z => match x.cps.toList with
    | [c] => some (.bl (if neg = true then !decide (c ∈ z.cps.toList) else decide (c ∈ z.cps.toList)), S)
    | _ => none
  | _, _ => none
/-- in a list of data of any depth -/
def oInD (neg : Bool) : Op2 := fun d e S => match toPy S 60 d, itemsL S e with
  | some p, some ds => (seqO (ds.map (toPy S 59))).map fun ps => (.bl (if neg = true then !(ps.any fun z => PyData.eqv z p) else ps.any fun z => PyData.eqv z p), S)
  | _, _ => none
def isNonD : D → Bool
  | .non => true
  | _ => false
def oIsN : Op2 := fun d e S => match e with
  | .non => some (.bl (isNonD d), S)
  | _ => none
def oNotN : Op2 := fun d e S => match e with
  | .non => some (.bl (!isNonD d), S)
  | _ => none
section
variable {C : Cp}
theorem inF_eq {d : D} {ds : List D} : inF d ds = inV (toV d) (ds.map toV) := by
  unfold inF inV
  rw [List.any_map]
  rfl
theorem opx_inF {neg : Bool} {op : CmpOp} (h : ∀ X, OpR X (compareOp op) (rIn X.K neg)) : OpRx C (compareOp op) (oInF neg) := OpRx.imp (fun X => rIn X.K neg) (fun X _ _ => h X) fun X W hx φ S H d e x y Q R r1 r2 P => by
  unfold oInF at P
  cases q : itemsD S e with
  | none => rw [q] at P; exact P.elim
  | some ds =>
    rw [q] at P
    simp only [Option.bind_some] at P
    split at P
    · rename_i hc
      obtain ⟨a, vs, rfl, sq, rs⟩ := items_seq R r2 q
      obtain ⟨e1, f1⟩ := flat_rel hc.1 r1
      obtain ⟨e2, f2⟩ := flats_rel hc.2 rs
      rw [hx.K]
      refine ⟨a, vs, rfl, sq, f1, f2, ?_⟩
      rw [e1, e2, ← inF_eq]
      exact P.now R (by simp only [VRel])
    · exact P.elim
theorem opx_inS : OpRx C (compareOp .In) (oInS false) := OpRx.imp (fun _ => _) (fun _ _ _ => op_in_sign) fun X W hx φ S H d e x y Q R r1 r2 P => by
  unfold oInS at P
  split at P
  · rename_i x' z
    split at P
    · rename_i c hc
      simp only [VRel] at r1 r2
      subst r1 r2
      have : x' = ⟨#[c]⟩ := by
        have h2 : x'.cps = #[c] := by rw [← Array.toList_inj]; exact hc
        cases x'; simp_all
      subst this
      exact ⟨c, z, rfl, rfl, P.now R (by simp only [VRel]; rfl)⟩
    · exact P.elim
  · exact P.elim
theorem opx_notInS : OpRx C (compareOp .NotIn) (oInS true) := OpRx.imp (fun _ => _) (fun _ _ _ => op_notIn_sign) fun X W hx φ S H d e x y Q R r1 r2 P => by
  unfold oInS at P
  split at P
  · rename_i x' z
    split at P
    · rename_i c hc
      simp only [VRel] at r1 r2
      subst r1 r2
      have : x' = ⟨#[c]⟩ := by
        have h2 : x'.cps = #[c] := by rw [← Array.toList_inj]; exact hc
        cases x'; simp_all
      subst this
      exact ⟨c, z, rfl, rfl, P.now R (by simp only [VRel]; rfl)⟩
    · exact P.elim
  · exact P.elim
theorem lst_py {φ : List Addr} {S : Store} {H : Hp} (R : Rel C.G φ S H) {e : D} {y : V} (r : VRel C.G φ H e y) {ds : List D} (q : itemsL S e = some ds) {ps : List PyData} (qs : seqO (ds.map (toPy S 59)) = some ps) : Dp C.G.K H y (.list ps) ∧ SeqAt.shaped (.list ps) = true := by
  have key : toPy S 60 e = some (.list ps) := by
    cases e with
    | fls es => cases q; simp [toPy, qs]
    | ref i =>
      simp only [itemsL] at q
      split at q
      · rename_i es ee
        cases q
        simp [toPy, ee, qs]
      · cases q
    | _ => cases q
  obtain ⟨x1, x2, x3⟩ := sq_any R r key
  exact ⟨x1, shaped_of (by decide) x2 x3⟩
theorem opx_inD : OpRx C (compareOp .In) (oInD false) := OpRx.imp (fun X => rInD X.K) (fun X W hx => op_inD (by have := hx.room.un; omega)) fun X W hx φ S H d e x y Q R r1 r2 P => by
  unfold oInD at P
  split at P
  · rename_i p ds e1 e2
    cases qs : seqO (ds.map (toPy S 59)) with
    | none => rw [qs] at P; exact P.elim
    | some ps =>
      rw [qs] at P
      obtain ⟨x1, x2, x3⟩ := sq_any R r1 e1
      obtain ⟨y1, y2⟩ := lst_py R r2 e2 qs
      rw [hx.K]
      exact ⟨p, ps, x1, y1, shaped_of (by decide) x2 x3, y2, P.now R (by simp only [VRel]; rfl)⟩
  · exact P.elim
theorem opx_notInD : OpRx C (compareOp .NotIn) (oInD true) := OpRx.imp (fun X => rNotInD X.K) (fun X W hx => op_notInD (by have := hx.room.un; omega)) fun X W hx φ S H d e x y Q R r1 r2 P => by
  unfold oInD at P
  split at P
  · rename_i p ds e1 e2
    cases qs : seqO (ds.map (toPy S 59)) with
    | none => rw [qs] at P; exact P.elim
    | some ps =>
      rw [qs] at P
      obtain ⟨x1, x2, x3⟩ := sq_any R r1 e1
      obtain ⟨y1, y2⟩ := lst_py R r2 e2 qs
      rw [hx.K]
      exact ⟨p, ps, x1, y1, shaped_of (by decide) x2 x3, y2, P.now R (by simp only [VRel]; rfl)⟩
  · exact P.elim
def oIn : Op2 := orO (oInF false) (orO (oInS false) (oInD false))
def oNotIn : Op2 := orO (oInF true) (orO (oInS true) (oInD true))
theorem opx_in : OpRx C (compareOp .In) oIn := (opx_inF fun X => op_in_seq).or (opx_inS.or opx_inD)
theorem opx_notIn : OpRx C (compareOp .NotIn) oNotIn := (opx_inF fun X => op_notIn_seq).or (opx_notInS.or opx_notInD)
theorem non_iff {φ : List Addr} {H : Hp} {d : D} {v : V} (r : VRel C.G φ H d v) : decide (v = .non) = isNonD d := by
  cases d with
  | non => simp only [VRel] at r; subst r; rfl
  | bl _ => simp only [VRel] at r; subst r; rfl
  | int _ => simp only [VRel] at r; subst r; rfl
  | str _ => simp only [VRel] at r; subst r; rfl
  | tup _ => simp only [VRel] at r; obtain ⟨a, _, rfl, _⟩ := r; rfl
  | ref _ => simp only [VRel] at r; obtain ⟨a, rfl, _⟩ := r; rfl
  | st _ => simp only [VRel] at r; subst r; rfl
  | ty _ => simp only [VRel] at r; subst r; rfl
  | fls _ => simp only [VRel] at r; obtain ⟨a, _, rfl, _⟩ := r; rfl
theorem opx_isN : OpRx C (compareOp .Is) oIsN := OpRx.imp (fun _ => _) (fun _ _ _ => op_isN) fun X W hx φ S H d e x y Q R r1 r2 P => by
  unfold oIsN at P
  split at P
  · simp only [VRel] at r2
    refine ⟨r2, ?_⟩
    rw [non_iff r1]
    exact P.now R (by simp only [VRel])
  · exact P.elim
theorem opx_notN : OpRx C (compareOp .IsNot) oNotN := OpRx.imp (fun _ => _) (fun _ _ _ => op_notN) fun X W hx φ S H d e x y Q R r1 r2 P => by
  unfold oNotN at P
  split at P
  · simp only [VRel] at r2
    refine ⟨r2, ?_⟩
    rw [non_iff r1]
    exact P.now R (by simp only [VRel])
  · exact P.elim
end

/-! ### isinstance of a built-in type -/
inductive Ty where
  | non | bl | int | str | tup | lst | dic
  deriving DecidableEq
def Ty.name : Ty → String
  | .non => "NoneType"
  | .bl => "bool"
  | .int => "int"
  | .str => "str"
  | .tup => "tuple"
  | .lst => "list"
  | .dic => "dict"
def Ty.sub : Ty → Ty → Bool
  | .bl, .int => true
  | a, b => decide (a = b)
theorem Ty.sub_ok (a b : Ty) (h : b ≠ .non) : kitB a.name b.name = some (a.sub b) := by
  cases a <;> cases b <;> first | exact absurd rfl h | decide +kernel
def tyD (S : Store) : D → Option Ty
  | .non => some .non
  | .bl _ => some .bl
  | .int _ => some .int
  | .str _ => some .str
  | .tup _ => some .tup
  | .fls _ => some .lst
  | .ref i => match S[i]? with
    | some (.lst _) => some .lst
    | some (.dK _) => some .dic
    | some (.dT _) => some .dic
    | _ => none
  | _ => none
theorem tyD_ok {G : Glo} {φ : List Addr} {S : Store} {H : Hp} (R : Rel G φ S H) {d : D} {v : V} (r : VRel G φ H d v) {t : Ty} (h : tyD S d = some t) : TyX G.K H v (.type t.name) := by
  cases d with
  | non => simp only [VRel] at r; subst r; cases h; exact .base .non
  | bl b => simp only [VRel] at r; subst r; cases h; exact .base (.bl b)
  | int i => simp only [VRel] at r; subst r; cases h; exact .base (.int i)
  | str x => simp only [VRel] at r; subst r; cases h; exact .base (.str x)
  | tup ds =>
    simp only [VRel] at r
    obtain ⟨a, vs, rfl, s, _⟩ := r
    cases h
    rcases s with (s | ⟨o, s⟩) | ⟨o, its, n, k, c, _⟩
    · exact .base (.tup s)
    · exact .fTuple s
    · exact .kTuple k c
  | fls ds =>
    simp only [VRel] at r
    obtain ⟨a, vs, rfl, s, _⟩ := r
    cases h
    rcases s with ⟨o, s⟩ | ⟨o, its, n, k, c, _⟩
    · exact .base (.frz s)
    · exact .kList k c
  | ref i =>
    simp only [VRel] at r
    obtain ⟨a, rfl, ha⟩ := r
    simp only [tyD] at h
    split at h
    · rename_i ds e
      cases h
      obtain ⟨vs, q, _⟩ := R.at_ i a _ ha e
      exact .base (.lst q)
    · rename_i ds e
      cases h
      obtain ⟨vs, q, _⟩ := R.at_ i a _ ha e
      exact .base (.dK q)
    · rename_i ds e
      cases h
      obtain ⟨vs, q, _⟩ := R.at_ i a _ ha e
      exact .base (.dT q)
    · cases h
  | st k => cases h
  | ty n => cases h
def bIsi : Bf := fun ds S => match ds with
  | [d, .ty n] => (tyD S d).bind fun t => (([Ty.bl, .int, .str, .tup, .lst, .dic].find? fun u => u.name = n).map fun u => (.bl (t.sub u), S))
  | _ => none
section
variable {C : Cp}
theorem cx_isi : CallRx C (.builtin "isinstance") bIsi := CallRx.imp (fun X => rIsi X.K) (fun _ _ _ => call_isi) fun X W hx φ S H ds vs Q R r P => by
  unfold bIsi at P
  split at P
  · rename_i d n
    obtain ⟨v, w, rfl, r1, r2⟩ := rels2 r
    simp only [VRel] at r2
    subst r2
    cases q : tyD S d with
    | none => rw [q] at P; exact P.elim
    | some t =>
      rw [q] at P
      simp only [Option.bind_some] at P
      cases q2 : [Ty.bl, .int, .str, .tup, .lst, .dic].find? (fun u => u.name = n) with
      | none => rw [q2] at P; exact P.elim
      | some u =>
        rw [q2] at P
        have hn : u.name = n := by simpa using List.find?_some q2
        have hne : u ≠ .non := by
          have := List.mem_of_find?_eq_some q2
          intro z; subst z; simp at this
        rw [hx.K]
        exact ⟨v, .ty n, _, _, _, rfl, .ty n, tyD_ok R r1 q, kit_ty (by rw [← hn]; exact Ty.sub_ok t u hne), P.now R (by simp only [VRel])⟩
  · exact P.elim
/-- a built-in type's name -/
theorem pex_ty {x : Str} {n : String} {pos : Pos} (hg : glB C x = true) (hm : C.G.mg x = none) (hv : bootBuiltins x = some (.type n)) (hn : x ≠ "__name__" := by decide +kernel) (hd : (x == ("__debug__" : Str)) = false := by decide +kernel) : PEx C (.Name x pos) (dC (.ty n)) := fun X W h => by
  refine pe_imp (pe_bltn (X := X) (v := .ty n) (glB_ok hg h) (by rw [h.mg]; exact hm) hv rfl hn hd) fun σ H Q ⟨φ, S, env, R, E, P⟩ => ?_
  exact Pst.now P R _ (by simp only [VRel])
/-- a module's constant -/
theorem pex_glob {x : Str} {d : D} {v : V} {u : Value} {pos : Pos} (hg : glB C x = true) (hm : C.G.mg x = some u) (r : RelV v u) (rd : ∀ φ H, VRel C.G φ H d v) (hd : (x == ("__debug__" : Str)) = false := by decide +kernel) : PEx C (.Name x pos) (dC d) := fun X W h => by
  refine pe_imp (pe_glob (X := X) (glB_ok hg h) (by rw [h.mg]; exact hm) r hd) fun σ H Q ⟨φ, S, env, R, E, P⟩ => ?_
  exact Pst.now P R v (rd φ H)
end
end Z

/-! Z9: classes with slots: fields read and stored, methods, properties, instances made. -/
namespace Z
open PySem PySem.Spec PyProof.Rows L2

/-! ### stores into slots -/
def putD (i : Nat) (d : D) (vs : List (Option D)) : List (Option D) := (vs ++ List.replicate (i + 1 - vs.length) none).set i (some d)
theorem putD_get {i j : Nat} {d x : D} {vs : List (Option D)} (h : (putD i d vs)[j]? = some (some x)) : (j = i ∧ x = d) ∨ (j ≠ i ∧ vs[j]? = some (some x)) := by
  unfold putD at h
  by_cases hj : j = i
  · subst hj
    rw [List.getElem?_set_self (by simp only [List.length_append, List.length_replicate]; omega)] at h
    exact .inl ⟨rfl, (Option.some.inj (Option.some.inj h)).symm⟩
  · rw [List.getElem?_set_ne (Ne.symm hj)] at h
    refine .inr ⟨hj, ?_⟩
    by_cases hl : j < vs.length
    · rw [List.getElem?_append_left hl] at h; exact h
    · rw [List.getElem?_append_right (by omega), List.getElem?_replicate] at h
      split at h <;> cases h
theorem SRel.put {G : Glo} {φ : List Addr} {H : Hp} {vs : List (Option D)} {ws : List (Option V)} {d : D} {v : V} (h : SRel G φ H vs ws) (i : Nat) (r : VRel G φ H d v) : SRel G φ H (putD i d vs) (SlX.putS i v ws) := fun j x e => by
  rcases putD_get e with ⟨rfl, rfl⟩ | ⟨hj, e⟩
  · exact ⟨v, SlX.putS_get _ _ _, r⟩
  · obtain ⟨u, q, r'⟩ := h j x e
    exact ⟨u, (SlX.putS_ne hj).mpr q, r'⟩
theorem not_mut {H : Hp} {a dx : Addr} {u : HO} (k : DxOk H a dx) (h : H dx = some u) (m : Mut (some u)) : False := by
  rcases k with k | k <;> rw [k] at h <;> cases h <;> exact m
section
variable {G : Glo} {φ : List Addr} {S : Store} {H : Hp}
theorem rel_slot {i j c : Nat} {a dx : Addr} {vs : List (Option D)} {ws : List (Option V)} {d : D} {v : V} (R : Rel G φ S H) (h1 : φ[i]? = some a) (h2 : S[i]? = some (.slt c vs)) (hs : SlX.Slt H a (G.ad c) dx ws) (hk : DxOk H a dx) (hr : SRel G φ H vs ws) (r : VRel G φ H d v) :
    Rel G φ (S.set i (.slt c (putD j d vs))) (SlX.slH H a (G.ad c) dx (SlX.putS j v ws)) ∧ Nxt φ φ H (SlX.slH H a (G.ad c) dx (SlX.putS j v ws)) := by
  have ne : dx ≠ a := hk.ne hs
  have ma : ∃ u, H a = some u ∧ Mut (some u) ∧ NX a u := (R.at_ i a _ h1 h2).mut_
  obtain ⟨ua, ha, mua, xua⟩ := ma
  have same : ∀ b, b ≠ a → b ≠ dx → SlX.slH H a (G.ad c) dx (SlX.putS j v ws) b = H b := fun b q1 q2 => SlX.slH_ne q1 q2
  have atd : SlX.slH H a (G.ad c) dx (SlX.putS j v ws) dx = some (.xd []) := by unfold SlX.slH; rw [upd_ne ne, upd_same]
  have ata : SlX.slH H a (G.ad c) dx (SlX.putS j v ws) a = some (SlX.SlO a (G.ad c) dx (SlX.putS j v ws)) := by unfold SlX.slH; rw [upd_same]
  have nd : ∀ b u, H b = some u → (∀ x, u ≠ .own x) → (∀ fs, u ≠ .xd fs) → b ≠ dx := fun b u e n1 n2 z => by
    subst z
    rcases hk with k | k <;> rw [k] at e <;> cases e
    · exact n1 _ rfl
    · exact n2 _ rfl
  have na : ∀ b u, H b = some u → ¬ Mut (some u) → b ≠ a := fun b u e n z => by
    subst z
    rw [ha] at e; cases e
    exact n mua
  have gr : Grow H (SlX.slH H a (G.ad c) dx (SlX.putS j v ws)) := by
    refine ⟨fun b xs e => ?_, fun b o u e => ?_, fun b fs e => ?_, fun b x e => ?_⟩
    · rw [same b (na b _ e id) (nd b _ e (fun _ z => nomatch z) fun _ z => nomatch z)]; exact e
    · rw [same b (na b _ e id) (nd b _ e (fun _ z => nomatch z) fun _ z => nomatch z)]; exact e
    · by_cases q : b = dx
      · subst q
        rcases hk with k | k <;> rw [k] at e <;> cases e
        exact atd
      · rw [same b (na b _ e id) q]; exact e
    · by_cases q : b = dx
      · subst q
        exact .inr atd
      · rw [same b (na b _ e id) q]; exact .inl e
  have nx : Nxt φ φ H (SlX.slH H a (G.ad c) dx (SlX.putS j v ws)) := by
    refine ⟨⟨[], by simp, fun _ z => nomatch z⟩, gr, fun b o e n st => ?_, fun b o e nt => ?_⟩
    · have qa : b ≠ a := fun z => n (by rw [z]; exact List.mem_of_getElem? h1)
      by_cases q : b = dx
      · subst q
        rcases hk with k | k <;> rw [k] at e <;> cases e
        · exact st.elim
        · exact atd
      · rw [same b qa q]; exact e
    · by_cases qa : b = a
      · subst qa
        exact ⟨_, ata, trivial⟩
      · by_cases q : b = dx
        · subst q
          exact ⟨_, atd, trivial⟩
        · exact ⟨o, by rw [same b qa q]; exact e, nt⟩
  refine ⟨⟨by simp [R.len], R.nd, fun k b ob e1 e2 => ?_, ?_⟩, nx⟩
  · by_cases hj : k = i
    · subst hj
      rw [h1] at e1; cases e1
      rw [List.getElem?_set_self (List.getElem?_eq_some_iff.mp h2).1] at e2
      cases e2
      exact ⟨dx, _, SlX.slH_slt ne, .inr atd, (hr.put j r).up (fun _ _ q => q) gr⟩
    · rw [List.getElem?_set_ne (Ne.symm hj)] at e2
      have ob0 := R.at_ k b ob e1 e2
      obtain ⟨u, hu, mu, _⟩ := ob0.mut_
      have qa : b ≠ a := fun z => by
        subst z
        exact hj ((List.getElem?_inj (List.getElem?_eq_some_iff.mp e1).1 R.nd).mp (e1.trans h1.symm))
      have qd : b ≠ dx := fun z => by
        subst z
        exact not_mut hk hu mu
      exact ob0.up (fun _ _ q => q) gr (same b qa qd)
  · unfold SlX.slH
    refine tabs_upd (tabs_upd R.tabs fun o e => ?_) fun o e => ?_
    · rcases hk with k | k <;> rw [k] at e <;> cases e <;> trivial
    · rw [upd_ne (Ne.symm ne), ha] at e
      cases e
      exact xua
end

/-! ### what is known of a class -/
/-- the class at place c has slots; its fields' places: tb -/
structure SlCls (G : Glo) (c : Nat) : Prop where
  cls : SlX.SCls G.K (G.ad c)
  isi : SlX.SIsi G.K (G.ad c)
def SlFld (G : Glo) (f : Str) (tb : List (Nat × Nat)) : Prop := ∀ c j, tb.lookup c = some j → SlX.SCls G.K (G.ad c) ∧ ∃ p, SlX.Slot1 G.K (G.ad c) f p j
def getF (tb : List (Nat × Nat)) (d : D) (S : Store) : Option D := match d with
  | .ref i => (match S[i]? with
    | some (.slt c vs) => (match tb.lookup c with
      | some j => (match vs[j]? with
        | some (some x) => some x
        | _ => none)
      | none => none)
    | _ => none)
  | _ => none
theorem getF_some {tb : List (Nat × Nat)} {d x : D} {S : Store} (h : getF tb d S = some x) : ∃ i c vs j, d = .ref i ∧ S[i]? = some (.slt c vs) ∧ tb.lookup c = some j ∧ vs[j]? = some (some x) := by
  unfold getF at h
  split at h
  · rename_i i
    split at h
    · rename_i c vs e
      split at h
      · rename_i j ej
        split at h
        · rename_i y ey
          cases h
          exact ⟨i, c, vs, j, rfl, e, ej, ey⟩
        · cases h
      · cases h
    · cases h
  · cases h
def dFld (tb : List (Nat × Nat)) (a : DE) : DE := fun env S => (a env S).bind fun x S1 => ofO ((getF tb x S1).map fun d => (d, S1))
section
variable {C : Cp} {a : Expr} {da de : DE} {e : Expr} {f : Str} {pos pos' : Pos} {tb : List (Nat × Nat)}
theorem pex_fld (ht : SlFld C.G f tb) (ha : PEx C a da) (hb : ∀ env, attributeBase a f env (eval a env) = eval a env := by intro _; rfl) : PEx C (.Attribute a f pos) (dFld tb da) := fun X W h => by
  refine pe_imp (SlX.pe_sl (ha X W h) (hb X.env)) fun σ H Q ⟨φ, S, env, R, E, P⟩ => ⟨φ, S, env, R, E, P.bind.imp fun φ1 H1 S1 x n1 R1 P1 v1 r1 => ?_⟩
  cases q : getF tb x S1 with
  | none => rw [q] at P1; exact P1.elim
  | some d =>
    rw [q] at P1
    obtain ⟨i, c, vs, j, rfl, e1, e2, e3⟩ := getF_some q
    obtain ⟨ad, had, dx, ws, hs, hk, hr⟩ := R1.get e1
    simp only [VRel] at r1
    obtain ⟨ad', rfl, had'⟩ := r1
    rw [had] at had'; cases had'
    obtain ⟨hc, p, hp⟩ := ht c j e2
    obtain ⟨v, ev, rv⟩ := hr j d e3
    rw [h.K]
    exact ⟨ad, C.G.ad c, dx, p, ws, j, v, rfl, hs, hc, hp, ev, Pst.now P1 R1 v rv⟩
/-- o.f = e -/
def setF (tb : List (Nat × Nat)) (d x : D) (S : Store) : Option Store := match d with
  | .ref i => (match S[i]? with
    | some (.slt c vs) => (match tb.lookup c with
      | some j => some (S.set i (.slt c (putD j x vs)))
      | none => none)
    | _ => none)
  | _ => none
theorem setF_some {tb : List (Nat × Nat)} {d x : D} {S S' : Store} (h : setF tb d x S = some S') : ∃ i c vs j, d = .ref i ∧ S[i]? = some (.slt c vs) ∧ tb.lookup c = some j ∧ S' = S.set i (.slt c (putD j x vs)) := by
  unfold setF at h
  split at h
  · rename_i i
    split at h
    · rename_i c vs e
      split at h
      · rename_i j ej
        cases h
        exact ⟨i, c, vs, j, rfl, e, ej, rfl⟩
      · cases h
    · cases h
  · cases h
def sFld (tb : List (Nat × Nat)) (o a : DE) : DS := fun env S => (a env S).bind fun x S1 => (o env S1).bind fun y S2 => match setF tb y x S2 with
  | some S3 => .ok (.nx env) S3
  | none => .bad
theorem psx_fld (ht : SlFld C.G f tb) (ho : PEx C a da) (he : PEx C e de) (hs : ∀ env, swapsWith e (some (.Attribute a f pos')) pos.line env = pure false := by intro _; rfl) : PSx C (.Assign [.Attribute a f pos'] e pos) (sFld tb da de) := fun X W h => by
  refine ps_imp (SlX.ps_sl (ho X W h) (he X W h) (hs X.env)) fun Dn σ H ⟨φ, S, env, R, E, P⟩ => ⟨φ, S, env, R, E, (pst_err P.bind).imp fun φ1 H1 S1 x n1 R1 P1 v1 r1 => ?_⟩
  refine ⟨φ1, S1, env, R1, E.nxt n1, (pst_err P1.bind).imp fun φ2 H2 S2 y n2 R2 P2 v2 r2 => ?_⟩
  cases q : setF tb y x S2 with
  | none => rw [q] at P2; exact P2.elim
  | some S3 =>
    rw [q] at P2
    obtain ⟨i, c, vs, j, rfl, e1, e2, rfl⟩ := setF_some q
    obtain ⟨ad, had, dx, ws, hs, hk, hr⟩ := R2.get e1
    simp only [VRel] at r2
    obtain ⟨ad', rfl, had'⟩ := r2
    rw [had] at had'; cases had'
    obtain ⟨hc, p, hp⟩ := ht c j e2
    obtain ⟨R3, n3⟩ := rel_slot (j := j) R2 had e1 hs hk hr (r1.nxt n2)
    rw [h.K]
    exact ⟨ad, C.G.ad c, dx, p, ws, j, rfl, hs, hc, hp, P2 φ2 _ n3 R3 σ (((E.nxt n1).nxt n2).nxt n3)⟩
end

/-! ### methods -/
def FnA (G : Glo) (k : Nat) (g : Addr) (n : Nat) (F : Fn) : Prop := FnR G.P G.w G.K G.mg G.base (L2.CX G.P G.w) k g (spD G n F)
theorem FnIs.raw {G : Glo} {k n : Nat} {x : Str} {F : Fn} (h : FnIs G k x n F) : ∃ f, G.mg x = some (.ref f) ∧ FnA G k f n F := by
  obtain ⟨f, fd, ps, hn, ok, hm, kp, hb⟩ := h.ex
  refine ⟨f, hm, FnR.imp (ok.raw hb .nil) fun vs H Q E z => ?_⟩
  rw [List.append_nil]
  exact z
/-- m is a def of the class at c -/
structure MtIs (G : Glo) (k c : Nat) (m : Str) (n : Nat) (F : Fn) : Prop where
  cls : SlX.SCls G.K (G.ad c)
  ex : ∃ g, Meth G.K (G.ad c) m g ∧ FnA G k g n F
def isC (c : Nat) (d : D) (S : Store) : Bool := match d with
  | .ref i => (match S[i]? with
    | some (.slt c' _) => c' == c
    | _ => false)
  | _ => false
theorem isC_ok {c : Nat} {d : D} {S : Store} (h : isC c d S = true) : ∃ i vs, d = .ref i ∧ S[i]? = some (.slt c vs) := by
  unfold isC at h
  split at h
  · rename_i i
    split at h
    · rename_i c' vs e
      rw [beq_iff_eq] at h
      subst h
      exact ⟨i, vs, rfl, e⟩
    · cases h
  · cases h
def dMth (c : Nat) (F : Fn) (o : DE) (r : DA) : DE := fun env S => (o env S).bind fun x S1 => if isC c x S1 = true then (r env S1).bind fun xs S2 => F (x :: xs) S2 else .bad
section
variable {C : Cp} {k c n : Nat} {m : Str} {F : Fn} {o e : Expr} {es : List Expr} {dₒ : DE} {dr : DA} {pos apos : Pos} {pl : Env → Sem Bool}
theorem passesW {X : Cx} {W : WX} {σ : St} (tk : Takes X W) : PassesAt (L2.CX X.prog X.w) X σ (WE W σ) := passAt tk σ
theorem run_fnA {X : Cx} {W : WX} {g : Addr} {pins : List (Addr × Obj)} {σ : St} {H : Hp} {s : Shared} {Q : VK} {us : List Value} {vs : List V} (hx : Cxt C W X) (hF : FnA C.G k g n F) (hr : Room k X.A) (I : Inv X pins σ H s) (r : Vals vs us) (h : spD C.G n F vs H Q (WE W σ)) :
    codeAny (model X.prog X.w) X.A (.call (.ref g) ⟨us, []⟩) (fun r s' => match r with | .ok (.ret v) => EP X pins σ Q v s' | .ok _ => False | .error e => X.xe e s') s := by
  have F' : FnR X.prog X.w X.K X.mg X.base (L2.CX X.prog X.w) k g (spD C.G n F) := by rw [hx.prog, hx.w, hx.K, hx.mg, hx.base]; exact hF
  refine codeAny_mono (F' X.A X.stack s H us vs Q _ hr I.env0 r h) fun r s' hq => ?_
  cases r with
  | error e => exact passAt hx.takes σ pins H s e s' I hq
  | ok fl =>
    cases fl with
    | ret u => exact I.after hq
    | next => exact False.elim hq
    | brk => exact False.elim hq
    | cont => exact False.elim hq
theorem pex_mth (h : MtIs C.G k c m (n + 1) F) (hk : k ≤ C.k) (ho : PEx C o dₒ) (ha : PAx C (e :: es) dr) (hn : ∀ env S xs S', dr env S = .ok xs S' → xs.length = n)
    (hst : ∀ env, starEach (e :: es) env = (false, eval e env) :: starEach es env := by intro _; rfl) (hpl : ∀ env, (backTo pos (starEach es env)).any (·.1) = false := by intro _; rfl)
    (ht : ∀ env, eval (.Call (.Attribute o m apos) (e :: es) [] pos) env = (do
      let ov ← eval o env
      standAt apos.atName
      let (f, first) ← holding [ov] (getMethod ov m (pl env))
      callWith pos f first (backTo pos (starEach (e :: es) env)) (backToKw pos (keywordEach [] env))) := by intro _; rfl) :
    PEx C (.Call (.Attribute o m apos) (e :: es) [] pos) (dMth c F dₒ dr) := fun X W hx => by
  obtain ⟨g, hm, hF⟩ := h.ex
  refine ⟨fun pins s σ H Q I ⟨φ, S, env, R, E, P⟩ => ?_⟩
  refine PySem.W.methodCall_KW (pl := pl X.env) (thn ((ho X W hx).run pins s σ H (fun x H1 => ∃ a dx ws, x = .ref a ∧ SlX.Slt H1 a (C.G.ad c) dx ws ∧ rdA C.G W dr σ H1 fun vs H2 => spD C.G (n + 1) F (x :: vs) H2 Q (WE W σ)) I ⟨φ, S, env, R, E, P.bind.imp fun φ1 H1 S1 x n1 R1 P1 v1 r1 => ?_⟩) fun u s1 ⟨x, H1, I1, rx, a, dx, vs, ex, hsl, q⟩ => ?_) (ht X.env)
  · by_cases hc : isC c x S1 = true
    · rw [if_pos hc] at P1
      obtain ⟨i, ws0, rfl, e1⟩ := isC_ok hc
      obtain ⟨ad, had, dx, ws, hs, hk', hr⟩ := R1.get e1
      simp only [VRel] at r1
      obtain ⟨ad', rfl, had'⟩ := r1
      rw [had] at had'; cases had'
      refine ⟨ad, dx, ws, rfl, hs, φ1, S1, env, R1, E.nxt n1, ?_⟩
      have P2 := P1.bind
      cases q : dr env S1 with
      | bad => rw [q] at P2; exact P2.elim
      | er y S2 => rw [q] at P2; exact P2
      | ok xs S2 =>
        rw [q] at P2
        exact fun φ2 H2 n2 R2 vs rs => ⟨φ2, S2, _, R2, VRels.cons (by simp only [VRel]; exact ⟨ad, rfl, n2.at_ had⟩) rs, by rw [List.length_cons, hn env S1 xs S2 q], P2 φ2 H2 n2 R2⟩
    · rw [if_neg hc] at P1
      exact P1.elim
  · subst ex
    obtain rfl : u = Value.ref a := rx
    refine SlX.getmethsl_ok I1 hsl (by rw [hx.K]; exact h.cls) (by rw [hx.K]; exact hm) ?_
    refine PySem.W.callWith_K (first := [.ref a]) (h₀ := X.base) I.ok.mod.kin (by rw [hx.K]; exact hm.kp) (thn ((ha X W hx).run pos pins s1 σ H1 _ I1 q) fun us s2 ⟨ws, H2, I2, r, q2⟩ => ⟨I2.kIn, ?_⟩) (hst X.env) (hpl X.env)
    exact wpAny_call (run_fnA (us := .ref a :: us) (vs := .ref a :: ws) hx hF (hx.room.mono hk) I2 (.cons rfl r) q2)
theorem pex_mth0 (h : MtIs C.G k c m 1 F) (hk : k ≤ C.k) (ho : PEx C o dₒ)
    (ht : ∀ env, eval (.Call (.Attribute o m apos) [] [] pos) env = (do
      let ov ← eval o env
      standAt apos.atName
      let (f, first) ← holding [ov] (getMethod ov m (pl env))
      callWith pos f first (backTo pos (starEach [] env)) (backToKw pos (keywordEach [] env))) := by intro _; rfl) :
    PEx C (.Call (.Attribute o m apos) [] [] pos) (dMth c F dₒ dNil) := fun X W hx => by
  obtain ⟨g, hm, hF⟩ := h.ex
  refine ⟨fun pins s σ H Q I ⟨φ, S, env, R, E, P⟩ => ?_⟩
  refine PySem.W.methodCall_KW (pl := pl X.env) (thn ((ho X W hx).run pins s σ H (fun x H1 => ∃ a dx ws, x = .ref a ∧ SlX.Slt H1 a (C.G.ad c) dx ws ∧ spD C.G 1 F [x] H1 Q (WE W σ)) I ⟨φ, S, env, R, E, P.bind.imp fun φ1 H1 S1 x n1 R1 P1 v1 r1 => ?_⟩) fun u s1 ⟨x, H1, I1, rx, a, dx, vs, ex, hsl, q⟩ => ?_) (ht X.env)
  · by_cases hc : isC c x S1 = true
    · rw [if_pos hc] at P1
      obtain ⟨i, ws0, rfl, e1⟩ := isC_ok hc
      obtain ⟨ad, had, dx, ws, hs, hk', hr⟩ := R1.get e1
      have r1' := r1
      simp only [VRel] at r1
      obtain ⟨ad', rfl, had'⟩ := r1
      rw [had] at had'; cases had'
      exact ⟨ad, dx, ws, rfl, hs, φ1, S1, _, R1, VRels.cons r1' VRels.nil, rfl, P1⟩
    · rw [if_neg hc] at P1
      exact P1.elim
  · subst ex
    obtain rfl : u = Value.ref a := rx
    refine SlX.getmethsl_ok I1 hsl (by rw [hx.K]; exact h.cls) (by rw [hx.K]; exact hm) ?_
    exact PySem.W.callWith_K0 (first := [.ref a]) I1.kIn (by rw [hx.K]; exact hm.kp) (wpAny_call (run_fnA (us := [.ref a]) (vs := [.ref a]) hx hF (hx.room.mono hk) I1 (.cons rfl .nil) q))
end

/-! ### instances made -/
structure MkIs (G : Glo) (k c : Nat) (x : Str) (n : Nat) (F : Fn) : Prop where
  ex : ∃ g, Mk G.K (G.ad c) g ∧ G.mg x = some (.ref (G.ad c)) ∧ FnA G k g n F
def dMk (c : Nat) (F : Fn) (r : DA) : DE := fun env S => (r env S).bind fun xs S1 => (F (.ref S1.length :: xs) (S1 ++ [.slt c []])).bind fun v S2 => match v with
  | .non => .ok (.ref S1.length) S2
  | _ => .bad
theorem rel_made {G : Glo} {φ : List Addr} {S : Store} {H : Hp} {x dx : Addr} {c : Nat} (R : Rel G φ S H) (hx : H x = none) (hd : H dx = none) (ne : dx ≠ x) :
    Rel G (φ ++ [x]) (S ++ [.slt c []]) (upd (upd H dx (.own x)) x (.ins (G.ad c) dx [])) ∧ Nxt φ (φ ++ [x]) H (upd (upd H dx (.own x)) x (.ins (G.ad c) dx [])) := by
  have n1 : Nxt φ φ H (upd H dx (.own x)) := Nxt.mute hd
  have R1 : Rel G φ S (upd H dx (.own x)) := R.mute (R.notmem hd) n1.grow (nx_none hd)
  have hx1 : upd H dx (.own x) x = none := by rw [upd_ne (Ne.symm ne)]; exact hx
  obtain ⟨R2, n2⟩ := R1.push (o := .slt c []) (u := .ins (G.ad c) dx []) hx1 ⟨dx, [], .inl ⟨upd_same, rfl⟩, .inl (by rw [upd_ne ne, upd_same]), fun i d e => by simp at e⟩
  exact ⟨R2, n1.trans n2⟩
section
variable {C : Cp} {k c n : Nat} {x : Str} {F : Fn} {e : Expr} {es : List Expr} {dr : DA} {p pos : Pos}
theorem run_mk {X : Cx} {W : WX} {g : Addr} {pins : List (Addr × Obj)} {σ : St} {H : Hp} {s : Shared} {Q : VK} {us : List Value} {vs : List V} (hx : Cxt C W X) (M : Mk X.K (C.G.ad c) g) (hF : FnA C.G k g n F) (hr : Room (k + 1) X.A) (I : Inv X pins σ H s) (r : Vals vs us)
    (h : ∀ x dx, H x = Option.none → H dx = Option.none → dx ≠ x → spD C.G n F (V.ref x :: vs) (upd (upd H dx (.own x)) x (.ins (C.G.ad c) dx [])) (fun v H2 => v = .non ∧ Q (.ref x) H2) (WE W σ)) :
    wpAny (model X.prog X.w) X.A (call (.ref (C.G.ad c)) us) (EP X pins σ Q) X.xe s := by
  have F' : FnR X.prog X.w X.K X.mg X.base (L2.CX X.prog X.w) k g (spD C.G n F) := by rw [hx.prog, hx.w, hx.K, hx.mg, hx.base]; exact hF
  have hq := h (s.heap.objs.size + 1) s.heap.objs.size (I.hok.fresh (Nat.le_succ _)) (I.hok.fresh (Nat.le_refl _)) (Nat.ne_of_lt (Nat.lt_succ_self _))
  have I2 := Inv.made (C := C.G.ad c) I
  have r2 : Vals (V.ref (s.heap.objs.size + 1) :: vs) (Value.ref (s.heap.objs.size + 1) :: us) := .cons rfl r
  refine wpAny_call (make_map (f := g) I.kIn M.makes M.init (beq_iff_eq.mp M.fn) (codeAny_mono (F' _ X.stack _ _ (Value.ref (s.heap.objs.size + 1) :: us) _ _ (WE W σ) (hr.make (C.G.ad c) us []) (I2.env0.make (C.G.ad c) us []) r2 hq) fun r s' hq' => ?_))
  cases r with
  | error e => exact passAt hx.takes σ pins _ _ e s' I2 hq'
  | ok fl =>
    cases fl with
    | ret u =>
      obtain ⟨v, H', I3, rv, ev, q3⟩ := I2.after hq'
      subst ev
      exact ⟨rv, ⟨V.ref (s.heap.objs.size + 1), H', I3, rfl, q3⟩⟩
    | next => exact False.elim hq'
    | brk => exact False.elim hq'
    | cont => exact False.elim hq'
theorem sp_mk {W : WX} {σ : St} {φ : List Addr} {S : Store} {H : Hp} {xs : List D} {vs : List V} {Q : VK} (R : Rel C.G φ S H) (rs : VRels C.G φ H xs vs) (hl : xs.length = n)
    (P : Pst C.G (fun c p H' => W c p σ H') φ H (fun φ' H' _ x => ∀ v, VRel C.G φ' H' x v → Q v H') ((F (.ref S.length :: xs) (S ++ [.slt c []])).bind fun v S2 => match v with
      | .non => .ok (.ref S.length) S2
      | _ => .bad)) (x dx : Addr) (h1 : H x = none) (h2 : H dx = none) (ne : dx ≠ x) :
    spD C.G (n + 1) F (V.ref x :: vs) (upd (upd H dx (.own x)) x (.ins (C.G.ad c) dx [])) (fun v H2 => v = .non ∧ Q (.ref x) H2) (WE W σ) := by
  obtain ⟨R2, n2⟩ := rel_made (c := c) R h1 h2 ne
  have hx : (φ ++ [x])[S.length]? = some x := by rw [← R.len]; simp
  refine ⟨φ ++ [x], _, .ref S.length :: xs, R2, VRels.cons (by simp only [VRel]; exact ⟨x, rfl, hx⟩) (rs.nxt n2), by rw [List.length_cons, hl], ((P.nxt n2).bind).imp fun φ3 H3 S3 v n3 R3 P3 => ?_⟩
  intro v' rv
  cases v with
  | non =>
    simp only [VRel] at rv
    exact ⟨rv, Pst.now P3 R3 (.ref x) (by simp only [VRel]; exact ⟨x, rfl, n3.at_ hx⟩)⟩
  | _ => exact P3.elim
theorem pex_mk (h : MkIs C.G k c x (n + 1) F) (hk : k + 1 ≤ C.k) (hg : glB C x = true) (ha : PAx C (e :: es) dr) (hn : ∀ env S xs S', dr env S = .ok xs S' → xs.length = n) (hdb : (x == ("__debug__" : Str)) = false := by decide +kernel)
    (he : ∀ env, starEach (e :: es) env = (false, eval e env) :: starEach es env := by intro _; rfl) (hpl : ∀ env, (backTo pos (starEach es env)).any (·.1) = false := by intro _; rfl) : PEx C (.Call (.Name x p) (e :: es) [] pos) (dMk c F dr) := fun X W hx => by
  obtain ⟨g, M, hm, hF⟩ := h.ex
  refine ⟨fun pins s σ H Q I ⟨φ, S, env, R, E, P⟩ => ?_⟩
  refine wpAny_Call_Name_kw (ld_glob I (glB_ok hg hx) (by rw [hx.mg]; exact hm) ?_ hdb)
  refine PySem.W.callWith_K (h₀ := X.base) I.ok.mod.kin (by rw [hx.K]; exact M.kp) (thn ((ha X W hx).run pos pins s σ H (fun vs H1 => ∀ x dx, H1 x = none → H1 dx = none → dx ≠ x → spD C.G (n + 1) F (V.ref x :: vs) (upd (upd H1 dx (.own x)) x (.ins (C.G.ad c) dx [])) (fun v H2 => v = .non ∧ Q (.ref x) H2) (WE W σ)) I ⟨φ, S, env, R, E, ?_⟩) fun us s1 ⟨vs, H1, I1, r, q⟩ => ⟨I1.kIn, ?_⟩) (he X.env) (hpl X.env)
  · have P0 := P.bind
    cases q : dr env S with
    | bad => rw [q] at P0; exact P0.elim
    | er y S1 => rw [q] at P0; exact P0
    | ok xs S1 =>
      rw [q] at P0
      exact fun φ1 H1 n1 R1 vs rs x dx h1 h2 ne => sp_mk R1 rs (hn env S xs S1 q) (P0 φ1 H1 n1 R1) x dx h1 h2 ne
  · exact run_mk hx (by rw [hx.K]; exact M) hF (hx.room.mono hk) I1 r q
end

/-! ### properties -/
structure PrIs (G : Glo) (k c : Nat) (f : Str) (F : Fn) : Prop where
  cls : SlX.SCls G.K (G.ad c)
  ex : ∃ p g, PySem.W.findIn G.K (.ref (G.ad c)) f = some (some (.ref p)) ∧ PySem.W.specialIn G.K (.ref p) "__get__" = some (some (.builtin "property.__get__")) ∧ PySem.W.takesIn G.K (.ref p) = some true ∧ (∃ rest, PySem.W.recIn G.K p "property" = some (.ref g :: rest)) ∧ FnA G k g 1 F
def dPrp (c : Nat) (F : Fn) (o : DE) : DE := fun env S => (o env S).bind fun x S1 => if isC c x S1 = true then (F [x] S1).cut else .bad
theorem Pst.of_cut {α : Type} {G : Glo} {B B' : Value → Option Addr → Hp → Prop} {φ : List Addr} {H : Hp} {K : List Addr → Hp → Store → α → Prop} {r : Res α} (h : Pst G B φ H K r.cut) : Pst G B' φ H K r := h.cut
theorem pex_prp {C : Cp} {k c : Nat} {f : Str} {F : Fn} {o : Expr} {dₒ : DE} {pos : Pos} (h : PrIs C.G k c f F) (hk : k + 1 ≤ C.k) (ho : PEx C o dₒ) (hb : ∀ env, attributeBase o f env (eval o env) = eval o env := by intro _; rfl) : PEx C (.Attribute o f pos) (dPrp c F dₒ) := fun X W hx => by
  obtain ⟨p, g, h1, h2, h3, h4, hF⟩ := h.ex
  have F' : FnR X.prog X.w X.K X.mg X.base (L2.CX X.prog X.w) k g (spD C.G 1 F) := by rw [hx.prog, hx.w, hx.K, hx.mg, hx.base]; exact hF
  refine pe_imp (SlX.pe_propSl (E := fun _ _ _ => False) (ho X W hx) (by rw [hx.K]; exact h.cls) (by rw [hx.K]; exact h1) (by rw [hx.K]; exact h2) (by rw [hx.K]; exact h3) (by rw [hx.K]; exact h4) F' (hx.room.mono hk) (fun H s e s' z => ?_) (hb X.env)) fun σ H Q ⟨φ, S, env, R, E, P⟩ => ⟨φ, S, env, R, E, P.bind.imp fun φ1 H1 S1 x n1 R1 P1 v1 r1 => ?_⟩
  · obtain ⟨_, _, _, _, _, _, _, _, _, _, _, _, q⟩ := z
    exact q
  · by_cases hc : isC c x S1 = true
    · rw [if_pos hc] at P1
      obtain ⟨i, ws0, rfl, e1⟩ := isC_ok hc
      obtain ⟨ad, had, dx, ws, hs, hk', hr⟩ := R1.get e1
      have r1' := r1
      simp only [VRel] at r1
      obtain ⟨ad', rfl, had'⟩ := r1
      rw [had] at had'; cases had'
      exact ⟨ad, dx, ws, rfl, hs, φ1, S1, _, R1, VRels.cons r1' VRels.nil, rfl, P1.cut⟩
    · rw [if_neg hc] at P1
      exact P1.elim
end Z

/-! Z10: zip and enumerate of lists and tuples, of one kind or both. -/
namespace Z
open PySem PySem.Spec PyProof.Rows L2

def SqB (K : PySem.W.Frag) (H : Hp) : Bool → Addr → List V → Prop
  | true, a, xs => SqT K H a xs
  | false, a, xs => SqL K H a xs
def ItB (h : Heap) : Bool → Addr → Addr → Nat → Prop
  | true, it, l, i => h.IsTupleIter it l i
  | false, it, l, i => h.IsListIter it l i
def IsB (h : Heap) : Bool → Addr → Array Value → Prop
  | true, l, xs => h.IsTuple l xs
  | false, l, xs => h.IsList l xs
theorem drawsB {prog : Program} {w : World} {A : Around} (hh : A.handled = none) (t : Bool) (it l : Addr) (hne : l ≠ it) (items : Array Value) :
    Draws prog w A it [it, l] items.size (fun i v => items[i]? = some v) (fun i h => ItB h t it l i ∧ IsB h t l items) := by
  cases t
  · exact Draws.list hh it l hne items
  · exact Draws.tuple hh it l hne items
theorem ItB.at {h h' : Heap} {t : Bool} {it l : Addr} {i : Nat} (x : ItB h t it l i) (k : ∀ o, h.get? it = some o → h'.get? it = some o) : ItB h' t it l i := by
  cases t
  · exact Heap.IsListIter.at x k
  · exact Heap.IsTupleIter.at x k
theorem ItB.obj {h : Heap} {t : Bool} {it l : Addr} {i : Nat} (x : ItB h t it l i) : ∃ o, h.get? it = some o ∧ ∀ v, o.data ≠ .cell v := by
  cases t <;> obtain ⟨o, e, _, d⟩ := x <;> exact ⟨o, e, fun v q => by rw [d] at q; cases q⟩
def itObj : Bool → Addr → Obj
  | true, l => { cls := .type "tuple_iterator", data := .fields #[.ref l, .int 0 0] }
  | false, l => { cls := .type "list_iterator", data := .fields #[.ref l, .int 0 0] }
theorem beginsB (t : Bool) (l : Addr) (items : Array Value) : Begins (.ref l) (itObj t l) fun h => IsB h t l items := by
  cases t
  · exact begins_list l items
  · exact begins_tuple l items
theorem itB_new {h : Heap} {t : Bool} {it l : Addr} (e : h.get? it = some (itObj t l)) : ItB h t it l 0 := by
  cases t <;> exact ⟨_, e, rfl, rfl⟩
section
variable {X : Cx} {pins : List (Addr × Obj)} {σ : L2.St} {H : Hp} {s : Shared} {a : Addr} {xs ys : List V}
theorem inv_seqB {t : Bool} (I : Inv X pins σ H s) (h : SqB X.K H t a xs) : ∃ its : List Value, Vals xs its ∧ IsB s.heap t a its.toArray ∧ xs.length ≤ sizeLine ∧ a < s.heap.objs.size := by
  cases t
  · obtain ⟨its, r, p, z⟩ := I.list h
    exact ⟨its, r, p.isList, z, p.lt⟩
  · obtain ⟨its, r, p, z⟩ := I.tuple h
    obtain ⟨o, e, _⟩ := id p
    exact ⟨its, r, p, z, Heap.lt_size e⟩
theorem seqB_inj {t : Bool} (I : Inv X pins σ H s) (h : SqB X.K H t a xs) (h' : SqB X.K H t a ys) : xs = ys := by
  cases t
  · exact I.list_inj h h'
  · exact I.tuple_inj h h'
end
/-- a pair of sequences, the items in new pairs -/
def ItzB (K : PySem.W.Frag) (t1 t2 : Bool) (a b : Addr) : It :=
  ⟨fun i H => ∃ (xs ys : List V) (x y : V), SqB K H t1 a xs ∧ SqB K H t2 b ys ∧ xs[i]? = some x ∧ ys[i]? = some y,
    fun i H v H' => ∃ T x y, v = .ref T ∧ H T = none ∧ H' = upd H T (.tup [x, y]) ∧ (∀ xs, SqB K H t1 a xs → xs[i]? = some x) ∧ ∀ ys, SqB K H t2 b ys → ys[i]? = some y,
    fun i H => ∃ xs ys : List V, SqB K H t1 a xs ∧ SqB K H t2 b ys ∧ i ≤ xs.length ∧ i ≤ ys.length ∧ (i = xs.length ∨ i = ys.length)⟩
theorem sep_of {z TI TO i1 i2 a b : Addr} (D : ZipApart z TI TO i1 i2 a b) : ZipSep2 z TI TO i1 i2 [i1, a] [i2, b] where
  TIz := D.TIz
  TOz := D.TOz
  TITO := D.TITO
  TIi1 := D.TIi1
  mem1 := by simp
  zf1 := by simp [Ne.symm D.i1z, Ne.symm D.l1z]
  Tf1 := by simp [D.TOi1, Ne.symm D.l1TO]
  TIi2 := D.TIi2
  mem2 := by simp
  zf2 := by simp [Ne.symm D.i2z, Ne.symm D.l2z]
  Tf2 := by simp [D.TOi2, Ne.symm D.l2TO]
  sep1_2 := by simp [D.i12, Ne.symm D.l2i1]
  sep2_1 := by simp [Ne.symm D.i12, Ne.symm D.l1i2]
theorem turn_zipB {P : Program} {w : World} {K : PySem.W.Frag} {elts : List Expr} {kk : Nat} {tpos : Pos} {t1 t2 : Bool} {a b z TI TO i1 i2 : Addr} (D : ZipApart z TI TO i1 i2 a b) :
    Turn P w K (.Tuple elts kk tpos) (ItzB K t1 t2 a b) [z, TI, TO, i1, i2] z (fun i h => IsZip h z TI TO .none ∧ IsTupOf2 h TI (.ref i1) (.ref i2) ∧ (∃ x y, IsTupOf2 h TO x y) ∧ ItB h t1 i1 a i ∧ ItB h t2 i2 b i) where
  mem := by simp
  obj := fun i h st c hc => by
    obtain ⟨hz, hTI, ⟨x, y, hTO⟩, h1, h2⟩ := st
    have e' : c = z ∨ c = TI ∨ c = TO ∨ c = i1 ∨ c = i2 := by simpa using hc
    rcases e' with q | q | q | q | q
    · rw [q]; exact ⟨_, hz, fun v q => nomatch q⟩
    · rw [q]; exact ⟨_, hTI, fun v q => nomatch q⟩
    · rw [q]; exact ⟨_, hTO, fun v q => nomatch q⟩
    · rw [q]; exact h1.obj
    · rw [q]; exact h2.obj
  keep := fun i h h' st k => by
    obtain ⟨hz, hTI, ⟨x, y, hTO⟩, h1, h2⟩ := st
    exact ⟨k z (by simp) _ hz, k TI (by simp) _ hTI, ⟨x, y, k TO (by simp) _ hTO⟩, h1.at fun o q => k i1 (by simp) o q, h2.at fun o q => k i2 (by simp) o q⟩
  item := by
    intro X hP hw hK hc i pins s σ H E I hf st hg
    subst hP hw hK
    obtain ⟨hz, hTI, ⟨x0, y0, hTO⟩, h1, h2⟩ := st
    obtain ⟨xs, ys, x, y, hqx, hqy, hx, hy⟩ := hg
    obtain ⟨its, rv, p, _, _⟩ := inv_seqB I hqx
    obtain ⟨its2, rv2, p2, _, _⟩ := inv_seqB I hqy
    obtain ⟨u, hu, ru⟩ := rv.get hx
    obtain ⟨u2, hu2, ru2⟩ := rv2.get hy
    have hzl : z < s.heap.objs.size := Heap.lt_size hz
    have l1 : i < its.toArray.size := by simpa using (List.getElem?_eq_some_iff.mp hu).1
    have l2 : i < its2.toArray.size := by simpa using (List.getElem?_eq_some_iff.mp hu2).1
    refine wpAny_pyNext_zipD2_item (sep_of D) (drawsB (prog := X.prog) (w := X.w) (A := X.A.in1) (show X.A.in1.handled = none from I.ok.hd hc) t1 i1 a D.l1i1 its.toArray) (drawsB (prog := X.prog) (w := X.w) (A := X.A.in1) (show X.A.in1.handled = none from I.ok.hd hc) t2 i2 b D.l2i2 its2.toArray) hz hTI hTO ⟨h1, p⟩ ⟨h2, p2⟩ l1 l2 fun x1 x2 h' tk e1 e2 z' TO' h1' h2' hT hsz hk => ?_
    have q1 : x1 = u := by
      have e1' : its[i]? = some x1 := by simpa using e1
      rw [hu] at e1'; exact (Option.some.inj e1').symm
    have q2 : x2 = u2 := by
      have e2' : its2[i]? = some x2 := by simpa using e2
      rw [hu2] at e2'; exact (Option.some.inj e2').symm
    subst q1 q2
    refine ⟨_, rfl, wpAny_letOwnedTupleGo_zip (s := { s with heap := h', toks := tk }) z' fun h'' z'' sb => ?_⟩
    have hT2 : h''.get? s.heap.objs.size = some { cls := .type "tuple", data := .seq #[x1, x2] } := (sb.2 _ (Nat.ne_of_gt hzl)).trans hT
    have new : ObjOk X.prog X.w (upd H s.heap.objs.size (.tup [x, y])) h'' s.heap.objs.size (.tup [x, y]) :=
      ⟨by show 2 ≤ sizeLine; decide, [x1, x2], .cons ru (.cons ru2 .nil), ⟨_, hT2, rfl, _, rfl⟩⟩
    have I1 : Inv X pins σ (upd H s.heap.objs.size (.tup [x, y])) { s with heap := h'', toks := tk } :=
      I.turnedNew (t' := tk) (ch := [z, TI, TO, i1, i2]) (fun c o hb q => (sb.2 c (fun q' => hb (by simp [q']))).trans (hk c o (fun q' => hb (by simp [q'])) (fun q' => hb (by simp [q'])) (fun q' => hb (by simp [q'])) (fun q' => hb (by simp [q'])) q)) hf (Nat.le_refl _) new
    refine ⟨.ref s.heap.objs.size, _, I1, rfl, ⟨_, x, y, rfl, I.hok.fresh (Nat.le_refl _), rfl, fun l hl => by rw [seqB_inj I hl hqx]; exact hx, fun l hl => by rw [seqB_inj I hl hqy]; exact hy⟩, ⟨z'', ?_, ⟨x1, x2, ?_⟩, ?_, ?_⟩, fun c hcm => ?_⟩
    · exact (sb.2 _ D.TIz).trans (hk _ _ D.TIz D.TITO D.TIi1 D.TIi2 hTI)
    · exact (sb.2 _ D.TOz).trans TO'
    · exact h1'.1.at fun o q => (sb.2 _ D.i1z).trans q
    · exact h2'.1.at fun o q => (sb.2 _ D.i2z).trans q
    · have hlt : c < s.heap.objs.size := by
        have e' : c = z ∨ c = TI ∨ c = TO ∨ c = i1 ∨ c = i2 := by simpa using hcm
        rcases e' with q | q | q | q | q
        · rw [q]; exact hzl
        · rw [q]; exact Heap.lt_size hTI
        · rw [q]; exact Heap.lt_size hTO
        · rw [q]; obtain ⟨_, e1, _⟩ := h1.obj; exact Heap.lt_size e1
        · rw [q]; obtain ⟨_, e2, _⟩ := h2.obj; exact Heap.lt_size e2
      rw [upd_ne (Nat.ne_of_lt hlt)]
      exact (hf c hcm).1
  done := by
    intro X hP hw hK hc i pins s σ H E I hf st hg
    subst hP hw hK
    obtain ⟨hz, hTI, ⟨x0, y0, hTO⟩, h1, h2⟩ := st
    obtain ⟨xs, ys, hqx, hqy, hle1, hle2, hend⟩ := hg
    obtain ⟨its, rv, p, _, _⟩ := inv_seqB I hqx
    obtain ⟨its2, rv2, p2, _, _⟩ := inv_seqB I hqy
    have l1 : its.toArray.size = xs.length := by have := rv.length; simp; omega
    have l2 : its2.toArray.size = ys.length := by have := rv2.length; simp; omega
    refine wpAny_pyNext_zipD2_end (sep_of D) (drawsB (prog := X.prog) (w := X.w) (A := X.A.in1) (show X.A.in1.handled = none from I.ok.hd hc) t1 i1 a D.l1i1 its.toArray) (drawsB (prog := X.prog) (w := X.w) (A := X.A.in1) (show X.A.in1.handled = none from I.ok.hd hc) t2 i2 b D.l2i2 its2.toArray) hz hTI hTO ⟨h1, p⟩ ⟨h2, p2⟩ (by omega) (by omega) (by omega) fun h' tk hk => ⟨rfl, I.turnedL (t' := tk) (ch := [z, TI, TO, i1, i2]) (fun c o hb q =>
      hk c o (fun q' => hb (by simp [q'])) (fun q' => hb (by simp [q'])) (fun q' => hb (by simp [q'])) (fun q' => hb (by simp [q'])) q) hf⟩
  self := fun A i s Q E st h => wpAny_pyIter_zip st.1 h

def iZipB (K : PySem.W.Frag) (ta : TA) : TI := fun σ H R => ta σ H fun vs H1 => ∃ t1 t2 a b xs ys, vs = [.ref a, .ref b] ∧ SqB K H1 t1 a xs ∧ SqB K H1 t2 b ys ∧ R (ItzB K t1 t2 a b) H1
theorem pi_zipB {X : Cx} {e e2 : Expr} {ta : TA} {p pos tpos : Pos} {elts : List Expr} {kk : Nat} (hg : Gl X "zip") (hm : X.mg "zip" = none) (ha : PA X [e, e2] ta)
    (hs : starEach [e, e2] X.env = (false, eval e X.env) :: starEach [e2] X.env := by rfl) (hpl : (backTo pos (starEach [e2] X.env)).any (·.1) = false := by rfl) :
    PI X (.Tuple elts kk tpos) (.Call (.Name "zip" p) [e, e2] [] pos) (iZipB X.K ta) := by
  refine ⟨fun pins s σ H R I h => ?_⟩
  refine Call_ (ld_blt I hg hm PyProof.Rows.boot_zip (PyProof.Rows.callWith_type1 (thn (ha.run pos pins s σ H _ I h) fun us s1 ⟨vs, H1, I1, r1, q1⟩ => ?_) hs hpl))
  obtain ⟨t1, t2, a, b, xs, ys, ex, hqx, hqy, q⟩ := q1
  subst ex
  cases r1 with
  | cons r rr =>
    cases rr with
    | cons r' rr =>
      cases rr
      cases r
      cases r'
      have fresh5 : ∀ c, c ∈ [s1.heap.objs.size + 4, s1.heap.objs.size + 2, s1.heap.objs.size + 3, s1.heap.objs.size, s1.heap.objs.size + 1] → FpOk X pins H1 c := fun c hcm => by
        have e' : c = s1.heap.objs.size + 4 ∨ c = s1.heap.objs.size + 2 ∨ c = s1.heap.objs.size + 3 ∨ c = s1.heap.objs.size ∨ c = s1.heap.objs.size + 1 := by simpa using hcm
        have hle : s1.heap.objs.size ≤ c := by
          rcases e' with z | z | z | z | z <;> rw [z] <;> first | exact Nat.le_refl _ | exact Nat.le_add_right _ _
        exact I1.fpOk hle (I1.hok.fresh hle)
      obtain ⟨its, rv, p1, _, lt1⟩ := inv_seqB I1 hqx
      obtain ⟨its2, rv2, p2, _, lt2⟩ := inv_seqB I1 hqy
      refine zip_begins2 (beginsB t1 a its.toArray) (beginsB t2 b its2.toArray) p1 p2 fun h' hz hTI hTO g1 g2 hsz hk => wpAny_pyIter_zip hz ?_
      have I2 : Inv X pins σ H1 { s1 with heap := h' } := I1.kept (t' := s1.toks) hk
      exact ⟨s1.heap.objs.size + 4, [s1.heap.objs.size + 4, s1.heap.objs.size + 2, s1.heap.objs.size + 3, s1.heap.objs.size, s1.heap.objs.size + 1], _, _, H1, rfl, I2, turn_zipB (PySem.W.ktu_apart s1.heap.objs.size a b lt1 lt2), ⟨hz, hTI, ⟨_, _, hTO⟩, itB_new g1, itB_new g2⟩, fresh5, q⟩

/-! ### enumerate -/
def IteB (K : PySem.W.Frag) (t : Bool) (a : Addr) : It :=
  ⟨fun i H => ∃ (xs : List V) (x : V), SqB K H t a xs ∧ xs[i]? = some x, fun i H v H' => ∃ T x, v = .ref T ∧ H T = none ∧ H' = upd H T (.tup [.int (i : Nat), x]) ∧ ∀ xs, SqB K H t a xs → xs[i]? = some x, fun i H => ∃ xs : List V, SqB K H t a xs ∧ xs.length = i⟩
theorem turn_enumB {P : Program} {w : World} {K : PySem.W.Frag} {elts : List Expr} {kk : Nat} {tpos : Pos} {t : Bool} (a e it : Addr) (hai : a ≠ it) (hae : e ≠ a) :
    Turn P w K (.Tuple elts kk tpos) (IteB K t a) [e, it] e (fun i h => (∃ old, IsEnum h e it ((i : Nat) : Int) old) ∧ ItB h t it a i ∧ e ≠ it) where
  mem := by simp
  obj := fun i h st b hb => by
    obtain ⟨⟨old, he⟩, hi, _⟩ := st
    have e' : b = e ∨ b = it := by simpa using hb
    rcases e' with z | z
    · rw [z]; exact ⟨_, he, fun v q => nomatch q⟩
    · rw [z]; exact hi.obj
  keep := fun i h h' st k => let ⟨⟨old, he⟩, hi, hne⟩ := st; ⟨⟨old, k e (by simp) _ he⟩, hi.at fun o q => k it (by simp) o q, hne⟩
  item := by
    intro X hP hw hK hc i pins s σ H E I hf st hg
    subst hP hw hK
    obtain ⟨⟨old, he⟩, hit, hne⟩ := st
    obtain ⟨xs, x, hq, hx⟩ := hg
    obtain ⟨its, rv, p, hz, _⟩ := inv_seqB I hq
    obtain ⟨u, hu, ru⟩ := rv.get hx
    have hel : e < s.heap.objs.size := Heap.lt_size he
    have hil : it < s.heap.objs.size := by obtain ⟨_, q, _⟩ := hit.obj; exact Heap.lt_size q
    have l1 : i < its.toArray.size := by simpa using (List.getElem?_eq_some_iff.mp hu).1
    refine wpAny_pyNext_enum_itemC (drawsB (prog := X.prog) (w := X.w) (A := X.A.in1) (show X.A.in1.handled = none from I.ok.hd hc) t it a hai its.toArray) he ⟨hit, p⟩ l1 hne (by simp [hne, hae]) fun x1 h' tk e1 ho hit' hT hsz hk => ?_
    have q1 : x1 = u := by
      have e1' : its[i]? = some x1 := by simpa using e1
      rw [hu] at e1'; exact (Option.some.inj e1').symm
    subst q1
    refine ⟨_, rfl, wpAny_letOwnedTupleGo_enum (s := { s with heap := h', toks := tk + 1 }) ho fun h'' he' sb => ?_⟩
    have hT2 : h''.get? s.heap.objs.size = some { cls := .type "tuple", data := .seq #[.int i tk, x1] } := (sb.2 _ (Nat.ne_of_gt hel)).trans hT
    have new : ObjOk X.prog X.w (upd H s.heap.objs.size (.tup [.int (i : Nat), x])) h'' s.heap.objs.size (.tup [.int (i : Nat), x]) :=
      ⟨by show 2 ≤ sizeLine; decide, [.int i tk, x1], .cons ⟨_, rfl⟩ (.cons ru .nil), ⟨_, hT2, rfl, _, rfl⟩⟩
    have I1 : Inv X pins σ (upd H s.heap.objs.size (.tup [.int (i : Nat), x])) { s with heap := h'', toks := tk + 1 } :=
      I.turnedNew (ch := [e, it]) (fun b ob hb q => (sb.2 b (fun z => hb (by simp [z]))).trans (hk b ob (fun z => hb (by simp [z])) (fun z => hb (by simp [z])) q)) hf (Nat.le_refl _) new
    refine ⟨.ref s.heap.objs.size, _, I1, rfl, ⟨_, x, rfl, I.hok.fresh (Nat.le_refl _), rfl, fun ys hy => by rw [seqB_inj I hy hq]; exact hx⟩, ⟨⟨x1, ?_⟩, hit'.1.at fun o q => (sb.2 it (Ne.symm hne)).trans q, hne⟩, fun b hb => ?_⟩
    · have e1 : ((i + 1 : Nat) : Int) = (i : Int) + 1 := by omega
      rw [e1]; exact he'
    · have hb' : b < s.heap.objs.size := by
        have e' : b = e ∨ b = it := by simpa using hb
        rcases e' with z | z
        · rw [z]; exact hel
        · rw [z]; exact hil
      rw [upd_ne (Nat.ne_of_lt hb')]
      exact (hf b hb).1
  done := by
    intro X hP hw hK hc i pins s σ H E I hf st hg
    subst hP hw hK
    obtain ⟨⟨old, he⟩, hit, hne⟩ := st
    obtain ⟨xs, hq, hx⟩ := hg
    obtain ⟨its, rv, p, hz, _⟩ := inv_seqB I hq
    obtain ⟨f0, f1, f2, f3, f4, f5⟩ := hf it (by simp)
    have l1 : its.toArray.size = i := by have := rv.length; simp; omega
    exact wpAny_pyNext_enum_endD (drawsB (prog := X.prog) (w := X.w) (A := X.A.in1) (show X.A.in1.handled = none from I.ok.hd hc) t it a hai its.toArray) he (by rw [l1]; exact ⟨hit, p⟩) fun h' eb => ⟨rfl, I.turned (t' := s.toks) (fun b o hb q => eb b o hb q) f0 f1 f3 f4 f5⟩
  self := fun A i s Q E st h => let ⟨⟨_, he⟩, _⟩ := st; wpAny_pyIter_enum he h
def iEnumB (K : PySem.W.Frag) (ta : TA) : TI := fun σ H R => ta σ H fun vs H1 => ∃ t a xs, vs = [.ref a] ∧ SqB K H1 t a xs ∧ R (IteB K t a) H1

end Z
namespace PySem
open Sem (wp)
open AutoSeq1 (wpAny_loadPart')
theorem meets_enumerate_newZT (l : Addr) (items : Array Value) (n : Nat) (dct : Option Addr) (sl : Array (Option Value)) :
    Meets (Builtin.«enumerate.__new__» ⟨[.type "enumerate", .ref l], []⟩) (fun _ R s => s.heap.get? l = some { cls := .type "tuple", dict := dct, data := .seq items n, slots := sl } ∧
      R (.ok (.ret (.ref (s.heap.push { cls := .type "tuple_iterator", data := .fields #[.ref l, .int 0 0] }).objs.size)))
        { s with heap := (s.heap.push { cls := .type "tuple_iterator", data := .fields #[.ref l, .int 0 0] }).push { cls := .type "enumerate", data := .fields #[.none, .bool false, .ref s.heap.objs.size, rawInt 0, .none, .none] } }) :=
  .of_wp fun prog w A R s h => by
    obtain ⟨hp, g, d, tk, os⟩ := s; obtain ⟨hl, h⟩ := h
    have hsub := sub_enumerate
    have hL : Heap.IsTuple (Shared.heap ⟨hp, g, d, tk, os⟩) l items := ⟨_, hl, rfl, n, rfl⟩
    wp_walk using wpAny_loadPart' hl
    refine wpAny_stack_any fun st => wpAny_pure ?_
    split
    · rename_i c _ _ _ _ _
      cases (c == Value.type "enumerate")
      · wp_walk using wpAny_loadPart' hl, wpAny_pyIter_tuple hL
        exact ⟨_, rfl, h⟩
      · wp_walk using wpAny_loadPart' hl, wpAny_pyIter_tuple hL
        exact ⟨_, rfl, h⟩
    · wp_walk using wpAny_loadPart' hl, wpAny_pyIter_tuple hL
      exact ⟨_, rfl, h⟩
theorem call_enumerate_zt {prog : Program} {w : World} {A : Around} {E : Value → Shared → Prop} {s : Shared} {l : Addr} {items : Array Value} {Q : Value → Shared → Prop} (hL : s.heap.IsTuple l items)
    (h : ∀ h', IsEnum h' (s.heap.objs.size + 1) s.heap.objs.size 0 .none → h'.IsTupleIter s.heap.objs.size l 0 → h'.objs.size = s.heap.objs.size + 2 →
      (∀ b o, s.heap.get? b = some o → h'.get? b = some o) → Q (.ref (s.heap.objs.size + 1)) { s with heap := h' }) :
    wpAny (model prog w) A (call (.type "enumerate") [.ref l]) Q E s := by
  obtain ⟨⟨c, dct, dt, sl⟩, hl, hc, n, hd⟩ := hL
  replace hc : c = .type "tuple" := hc
  replace hd : dt = .seq items n := hd
  subst hc hd
  refine callType_new F.called_enumerate (by decide) (F.typeCall_enumerate_1 _) (F.newCall_enumerate_1 _) (fun obj => F.args_object_init_2 obj _) F.entry_enumerate_new
    (meets_enumerate_newZT l items n dct sl) ⟨hl, ?_⟩
  have hz : (s.heap.push { cls := .type "tuple_iterator", data := .fields #[.ref l, .int 0 0] }).objs.size = s.heap.objs.size + 1 := Heap.size_push ..
  show _ ∧ _
  rw [hz]
  have he : IsEnum ((s.heap.push { cls := .type "tuple_iterator", data := .fields #[.ref l, .int 0 0] }).push
      { cls := .type "enumerate", data := .fields #[.none, .bool false, .ref s.heap.objs.size, rawInt 0, .none, .none] }) (s.heap.objs.size + 1) s.heap.objs.size 0 .none := by
    have := Heap.get?_push_size (s.heap.push { cls := .type "tuple_iterator", data := .fields #[.ref l, .int 0 0] })
      (o := { cls := .type "enumerate", data := .fields #[.none, .bool false, .ref s.heap.objs.size, rawInt 0, .none, .none] }) rfl
    rw [hz] at this; exact this
  refine ⟨⟨_, he, rfl⟩, h _ he ⟨_, Heap.get?_push_of_some _ (Heap.get?_push_size _ rfl), rfl, rfl⟩ (by rw [Heap.size_push, hz]) fun b o x => Heap.get?_push_of_some _ (Heap.get?_push_of_some _ x)⟩
end PySem
namespace Z
open PySem PySem.Spec PyProof.Rows L2
theorem call_enumB {prog : Program} {w : World} {A : Around} {E : Value → Shared → Prop} {s : Shared} {t : Bool} {l : Addr} {items : Array Value} {Q : Value → Shared → Prop} (hL : IsB s.heap t l items)
    (h : ∀ h', IsEnum h' (s.heap.objs.size + 1) s.heap.objs.size 0 .none → ItB h' t s.heap.objs.size l 0 → h'.objs.size = s.heap.objs.size + 2 →
      (∀ b o, s.heap.get? b = some o → h'.get? b = some o) → Q (.ref (s.heap.objs.size + 1)) { s with heap := h' }) :
    wpAny (model prog w) A (call (.type "enumerate") [.ref l]) Q E s := by
  cases t
  · exact call_enumerate_list hL h
  · exact call_enumerate_zt hL h
theorem pi_enumB {X : Cx} {e : Expr} {ta : TA} {p pos tpos : Pos} {elts : List Expr} {kk : Nat} (hg : Gl X "enumerate") (hm : X.mg "enumerate" = none) (ha : PA X [e] ta) (hs : starEach [e] X.env = [(false, eval e X.env)] := by rfl) :
    PI X (.Tuple elts kk tpos) (.Call (.Name "enumerate" p) [e] [] pos) (iEnumB X.K ta) := by
  refine ⟨fun pins s σ H R I h => ?_⟩
  refine Call_ (ld_blt I hg hm boot_enumerate (PyProof.Rows.callWith_type1 (thn (ha.run pos pins s σ H _ I h) fun us s1 ⟨vs, H1, I1, r1, q1⟩ => ?_) hs rfl))
  obtain ⟨t, a, xs, ex, hq, q⟩ := q1
  subst ex
  cases r1 with
  | cons r rr =>
    cases rr
    cases r
    obtain ⟨its, rv, p', hz, lt⟩ := inv_seqB I1 hq
    refine call_enumB p' fun h' he hit hsz hk => wpAny_pyIter_enum he ?_
    have I2 : Inv X pins σ H1 { s1 with heap := h' } := I1.kept (t' := s1.toks) hk
    refine ⟨s1.heap.objs.size + 1, [s1.heap.objs.size + 1, s1.heap.objs.size], _, _, H1, rfl, I2, turn_enumB a (s1.heap.objs.size + 1) s1.heap.objs.size (Nat.ne_of_lt lt) (Nat.ne_of_gt (Nat.lt_succ_of_lt lt)), ⟨⟨.none, he⟩, hit, Nat.succ_ne_self _⟩, fun b hb => ?_, q⟩
    have e' : b = s1.heap.objs.size + 1 ∨ b = s1.heap.objs.size := by simpa using hb
    have hle : s1.heap.objs.size ≤ b := by
      rcases e' with z | z
      · rw [z]; exact Nat.le_add_right _ _
      · rw [z]; exact Nat.le_refl _
    exact I1.fpOk hle (I1.hok.fresh hle)

/-! ### their denotations -/
def kindD : D → Bool
  | .tup _ => true
  | _ => false
theorem items_kind {G : Glo} {φ : List Addr} {S : Store} {H : Hp} (R : Rel G φ S H) {d : D} {v : V} (r : VRel G φ H d v) {ds : List D} (h : itemsD S d = some ds) : ∃ a vs, v = .ref a ∧ SqB G.K H (kindD d) a vs ∧ VRels G φ H ds vs := by
  cases d with
  | tup es =>
    cases h
    simp only [VRel] at r
    obtain ⟨a, vs, e, q, rs⟩ := r
    exact ⟨a, vs, e, q, rs⟩
  | fls es =>
    cases h
    simp only [VRel] at r
    obtain ⟨a, vs, e, q, rs⟩ := r
    exact ⟨a, vs, e, q.sq, rs⟩
  | ref i =>
    simp only [itemsD] at h
    split at h
    · rename_i es e
      cases h
      obtain ⟨a, vs, e, q, rs, _⟩ := sq_lst R r e
      exact ⟨a, vs, e, SqL.of q, rs⟩
    · cases h
  | _ => cases h
def jZip (x y : D) : Itd := fun k S => match itemsD S x, itemsD S y with
  | some xs, some ys => (match xs[k]?, ys[k]? with
    | some a, some b => some (some (.tup [a, b]))
    | _, _ => if k ≤ xs.length ∧ k ≤ ys.length then some none else none)
  | _, _ => none
def jEnum (x : D) : Itd := fun k S => match itemsD S x with
  | some xs => (match xs[k]? with
    | some a => some (some (.tup [.int (k : Int), a]))
    | none => if k = xs.length then some none else none)
  | none => none
section
variable {G : Glo} {φ0 φ : List Addr} {H0 H : Hp} {S : Store}
theorem pair_new {φ : List Addr} {S : Store} {H : Hp} {T : Addr} {d1 d2 : D} {v1 v2 : V} (R : Rel G φ S H) (h : H T = none) (r1 : VRel G φ H d1 v1) (r2 : VRel G φ H d2 v2) :
    Nxt φ φ H (upd H T (.tup [v1, v2])) ∧ Rel G φ S (upd H T (.tup [v1, v2])) ∧ VRel G φ (upd H T (.tup [v1, v2])) (.tup [d1, d2]) (.ref T) := by
  have n : Nxt φ φ H (upd H T (.tup [v1, v2])) := Nxt.mute h
  refine ⟨n, R.mute (R.notmem h) n.grow (nx_none h), ?_⟩
  simp only [VRel]
  exact ⟨T, _, rfl, .inl (.inl upd_same), VRels.cons (r1.nxt n) (VRels.cons (r2.nxt n) VRels.nil)⟩
theorem it_zip {x y : D} {vx vy : V} {a b : Addr} (r1 : VRel G φ0 H0 x vx) (r2 : VRel G φ0 H0 y vy) (ex : vx = .ref a) (ey : vy = .ref b) : ItRel G φ0 H0 (jZip x y) (ItzB G.K (kindD x) (kindD y) a b) := by
  subst ex ey
  refine ⟨fun k φ S H n R e => ?_, fun k φ S H d n R e => ?_⟩
  · unfold jZip at e
    cases ix : itemsD S x with
    | none => rw [ix] at e; cases e
    | some xs =>
      cases iy : itemsD S y with
      | none => rw [ix, iy] at e; cases e
      | some ys =>
        rw [ix, iy] at e
        obtain ⟨a', us, ea, qa, ra⟩ := items_kind R (r1.nxt n) ix
        obtain ⟨b', ws, eb, qb, rb⟩ := items_kind R (r2.nxt n) iy
        cases ea
        cases eb
        have la := ra.length
        have lb := rb.length
        dsimp only at e
        cases h1 : xs[k]? with
        | none =>
          rw [h1] at e
          dsimp only at e
          split at e
          · rename_i hle
            have := List.getElem?_eq_none_iff.mp h1
            exact ⟨us, ws, qa, qb, by omega, by omega, by omega⟩
          · cases e
        | some u =>
          cases h2 : ys[k]? with
          | some w => rw [h1, h2] at e; cases e
          | none =>
            rw [h1, h2] at e
            dsimp only at e
            split at e
            · rename_i hle
              have := List.getElem?_eq_none_iff.mp h2
              exact ⟨us, ws, qa, qb, by omega, by omega, by omega⟩
            · cases e
  · unfold jZip at e
    cases ix : itemsD S x with
    | none => rw [ix] at e; cases e
    | some xs =>
      cases iy : itemsD S y with
      | none => rw [ix, iy] at e; cases e
      | some ys =>
        rw [ix, iy] at e
        obtain ⟨a', us, ea, qa, ra⟩ := items_kind R (r1.nxt n) ix
        obtain ⟨b', ws, eb, qb, rb⟩ := items_kind R (r2.nxt n) iy
        cases ea
        cases eb
        dsimp only at e
        cases h1 : xs[k]? with
        | none =>
          rw [h1] at e
          dsimp only at e
          split at e <;> cases e
        | some u =>
          cases h2 : ys[k]? with
          | none =>
            rw [h1, h2] at e
            dsimp only at e
            split at e <;> cases e
          | some w =>
            rw [h1, h2] at e
            cases e
            obtain ⟨v1, e1, q1⟩ := ra.get h1
            obtain ⟨v2, e2, q2⟩ := rb.get h2
            refine ⟨⟨us, ws, v1, v2, qa, qb, e1, e2⟩, fun z H' yl => ?_⟩
            obtain ⟨T, z1, z2, rfl, hT, rfl, f1, f2⟩ := yl
            have g1 := f1 us qa
            have g2 := f2 ws qb
            rw [e1] at g1; cases g1
            rw [e2] at g2; cases g2
            exact pair_new R hT q1 q2
theorem it_enum {x : D} {vx : V} {a : Addr} (r1 : VRel G φ0 H0 x vx) (ex : vx = .ref a) : ItRel G φ0 H0 (jEnum x) (IteB G.K (kindD x) a) := by
  subst ex
  refine ⟨fun k φ S H n R e => ?_, fun k φ S H d n R e => ?_⟩
  · unfold jEnum at e
    cases ix : itemsD S x with
    | none => rw [ix] at e; cases e
    | some xs =>
      rw [ix] at e
      obtain ⟨a', us, ea, qa, ra⟩ := items_kind R (r1.nxt n) ix
      cases ea
      have la := ra.length
      dsimp only at e
      cases h1 : xs[k]? with
      | some u => rw [h1] at e; cases e
      | none =>
        rw [h1] at e
        dsimp only at e
        split at e
        · rename_i hk
          exact ⟨us, qa, by omega⟩
        · cases e
  · unfold jEnum at e
    cases ix : itemsD S x with
    | none => rw [ix] at e; cases e
    | some xs =>
      rw [ix] at e
      obtain ⟨a', us, ea, qa, ra⟩ := items_kind R (r1.nxt n) ix
      cases ea
      dsimp only at e
      cases h1 : xs[k]? with
      | none =>
        rw [h1] at e
        dsimp only at e
        split at e <;> cases e
      | some u =>
        rw [h1] at e
        cases e
        obtain ⟨v1, e1, q1⟩ := ra.get h1
        refine ⟨⟨us, v1, qa, e1⟩, fun z H' yl => ?_⟩
        obtain ⟨T, z1, rfl, hT, rfl, f1⟩ := yl
        have g1 := f1 us qa
        rw [e1] at g1; cases g1
        exact pair_new R hT (by simp only [VRel]) q1
end
def iZip (r : DA) : DI := fun env S => (r env S).bind fun xs S1 => match xs with
  | [x, y] => if (itemsD S1 x).isSome ∧ (itemsD S1 y).isSome then .ok (jZip x y) S1 else .bad
  | _ => .bad
def iEnum (r : DA) : DI := fun env S => (r env S).bind fun xs S1 => match xs with
  | [x] => if (itemsD S1 x).isSome then .ok (jEnum x) S1 else .bad
  | _ => .bad
section
variable {C : Cp} {e e2 : Expr} {dr : DA} {p pos tpos : Pos} {elts : List Expr} {kk : Nat}
theorem pix_zip (hg : glB C "zip" = true) (hm : C.G.mg "zip" = none) (ha : PAx C [e, e2] dr)
    (hs : ∀ env, starEach [e, e2] env = (false, eval e env) :: starEach [e2] env := by intro _; rfl) (hpl : ∀ env, (backTo pos (starEach [e2] env)).any (·.1) = false := by intro _; rfl) :
    PIx C (.Tuple elts kk tpos) (.Call (.Name "zip" p) [e, e2] [] pos) (iZip dr) := fun X W h => by
  refine pi_imp (pi_zipB (glB_ok hg h) (by rw [h.mg]; exact hm) (ha X W h) (hs X.env) (hpl X.env)) fun σ H R ⟨φ, S, env, R0, E, P⟩ => ⟨φ, S, env, R0, E, P.bind.imp fun φ1 H1 S1 xs n1 R1 P1 vs rs => ?_⟩
  match xs, rs, P1 with
  | [x, y], rs, P1 =>
    dsimp only at P1
    by_cases hc : (itemsD S1 x).isSome ∧ (itemsD S1 y).isSome
    · rw [if_pos hc] at P1
      obtain ⟨v, w, rfl, r1, r2⟩ := rels2 rs
      obtain ⟨xs, hx⟩ := Option.isSome_iff_exists.mp hc.1
      obtain ⟨ys, hy⟩ := Option.isSome_iff_exists.mp hc.2
      obtain ⟨a, us, rfl, qa, _⟩ := items_kind R1 r1 hx
      obtain ⟨b, ws, rfl, qb, _⟩ := items_kind R1 r2 hy
      exact ⟨kindD x, kindD y, a, b, us, ws, rfl, by rw [h.K]; exact qa, by rw [h.K]; exact qb, Pst.now P1 R1 _ (by rw [h.K]; exact it_zip r1 r2 rfl rfl)⟩
    · rw [if_neg hc] at P1
      exact P1.elim
  | [], rs, P1 => exact P1.elim
  | [_], rs, P1 => exact P1.elim
  | _ :: _ :: _ :: _, rs, P1 => exact P1.elim
theorem pix_enum (hg : glB C "enumerate" = true) (hm : C.G.mg "enumerate" = none) (ha : PAx C [e] dr) (hs : ∀ env, starEach [e] env = [(false, eval e env)] := by intro _; rfl) :
    PIx C (.Tuple elts kk tpos) (.Call (.Name "enumerate" p) [e] [] pos) (iEnum dr) := fun X W h => by
  refine pi_imp (pi_enumB (glB_ok hg h) (by rw [h.mg]; exact hm) (ha X W h) (hs X.env)) fun σ H R ⟨φ, S, env, R0, E, P⟩ => ⟨φ, S, env, R0, E, P.bind.imp fun φ1 H1 S1 xs n1 R1 P1 vs rs => ?_⟩
  match xs, rs, P1 with
  | [x], rs, P1 =>
    dsimp only at P1
    by_cases hc : (itemsD S1 x).isSome
    · rw [if_pos hc] at P1
      obtain ⟨v, rfl, r1⟩ := rels1 rs
      obtain ⟨xs, hx⟩ := Option.isSome_iff_exists.mp hc
      obtain ⟨a, us, rfl, qa, _⟩ := items_kind R1 r1 hx
      exact ⟨kindD x, a, us, rfl, by rw [h.K]; exact qa, Pst.now P1 R1 _ (by rw [h.K]; exact it_enum r1 rfl)⟩
    · rw [if_neg hc] at P1
      exact P1.elim
  | [], rs, P1 => exact P1.elim
  | _ :: _ :: _, rs, P1 => exact P1.elim
end
end Z

/-! Z11: starred items, list and tuple of a range, three names at once, f-strings, a tuple repeated. -/
namespace Z
open PySem PySem.Spec PyProof.Rows L2

/-! ### starred items -/
def dStar (a : DE) (r : DA) : DA := fun env S => (a env S).bind fun x S1 => match itemsD S1 x with
  | some xs => (r env S1).bind fun ys S2 => .ok (xs ++ ys) S2
  | none => .bad
section
variable {C : Cp} {e : Expr} {es : List Expr} {de : DE} {dr : DA} {p pos : Pos}
theorem pax_star (he : PEx C e de) (hr : PAx C es dr) (hs : ∀ env, starEach (.Starred e p :: es) env = (true, eval e env) :: starEach es env := by intro _; rfl) : PAx C (.Starred e p :: es) (dStar de dr) := fun X W h => by
  refine pa_imp (StX.pa_star (he X W h) (hr X W h) (hs X.env)) fun σ H Q ⟨φ, S, env, R, E, P⟩ => ⟨φ, S, env, R, E, P.bind.imp fun φ1 H1 S1 x n1 R1 P1 v1 r1 => ?_⟩
  cases q : itemsD S1 x with
  | none => rw [q] at P1; exact P1.elim
  | some xs =>
    rw [q] at P1
    obtain ⟨a, vs, rfl, sq, rs⟩ := items_seq R1 r1 q
    refine ⟨a, vs, rfl, by rw [h.K]; exact sq.symm, φ1, S1, env, R1, E.nxt n1, P1.bind.imp fun φ2 H2 S2 ys n2 R2 P2 ws rw2 => ?_⟩
    exact Pst.now P2 R2 _ ((rs.nxt n2).append rw2)
end

/-! ### list(range(..)), tuple(range(..)) -/
def rgD (a b : Int) : List D := (List.range (b - a).toNat).map fun i => D.int (a + (i : Nat))
theorem rg_map (f : Nat → Int) (G : Glo) (φ : List Addr) (H : Hp) : ∀ l : List Nat, VRels G φ H (l.map fun i => D.int (f i)) (l.map fun i => V.int (f i))
  | [] => VRels.nil
  | i :: l => VRels.cons (by simp only [VRel]) (rg_map f G φ H l)
theorem rg_rel {G : Glo} {φ : List Addr} {H : Hp} (a b : Int) : VRels G φ H (rgD a b) (rgV a b) := rg_map _ G φ H _
def rgB (a b : Int) : Bool := decide (-(2 ^ 62) ≤ a) && (decide (a < 2 ^ 62) && (decide (-(2 ^ 62) ≤ b) && (decide (b < 2 ^ 62) && decide ((b - a).toNat ≤ 2 ^ 24))))
theorem rgB_ok {a b : Int} (h : rgB a b = true) : RgOk a b := by
  unfold rgB at h
  simp only [Bool.and_eq_true, decide_eq_true_eq] at h
  exact ⟨h.1, h.2.1, h.2.2.1, h.2.2.2.1, h.2.2.2.2⟩
def rgOf : List D → Option (Int × Int)
  | [.int n] => some (0, n)
  | [.int a, .int b] => some (a, b)
  | _ => none
def dLRg (r : DA) : DE := fun env S => (r env S).bind fun xs S1 => match rgOf xs with
  | some (a, b) => if rgB a b = true then .ok (.ref S1.length) (S1 ++ [.lst (rgD a b)]) else .bad
  | none => .bad
def dTRg (r : DA) : DE := fun env S => (r env S).bind fun xs S1 => match rgOf xs with
  | some (a, b) => if rgB a b = true then .ok (.tup (rgD a b)) S1 else .bad
  | none => .bad
section
variable {C : Cp} {e e2 : Expr} {de de2 : DE} {p p2 pos pos2 : Pos}
theorem prg1x {W : WX} {X : Cx} (hx : Cxt C W X) (hg : glB C "range" = true) (hm : C.G.mg "range" = none) (ha : PEx C e de) (hs : ∀ env, starEach [e] env = [(false, eval e env)]) : PRg X (.Call (.Name "range" p) [e] [] pos) (tRg1 (rdE C.G W de)) :=
  prg_1 (glB_ok hg hx) (by rw [hx.mg]; exact hm) (ha X W hx) (hs X.env)
theorem prg2x {W : WX} {X : Cx} (hx : Cxt C W X) (hg : glB C "range" = true) (hm : C.G.mg "range" = none) (ha : PEx C e de) (hb : PEx C e2 de2) (hs : ∀ env, starEach [e, e2] env = (false, eval e env) :: starEach [e2] env) (hs2 : ∀ env, starEach [e2] env = [(false, eval e2 env)]) : PRg X (.Call (.Name "range" p) [e, e2] [] pos) (tRg2 (rdE C.G W de) (rdE C.G W de2)) :=
  prg_2 (glB_ok hg hx) (by rw [hx.mg]; exact hm) (ha X W hx) (hb X W hx) (hs X.env) (hs2 X.env) (by rw [hs2 X.env]; rfl)
theorem lrg_end {φ1 : List Addr} {H1 : Hp} {S1 : Store} {B : Value → Option Addr → Hp → Prop} {a b : Int} {Q : VK} (R1 : Rel C.G φ1 S1 H1) (P : Pst C.G B φ1 H1 (fun φ' H' _ x => ∀ v, VRel C.G φ' H' x v → Q v H') (if rgB a b = true then .ok (.ref S1.length) (S1 ++ [.lst (rgD a b)]) else .bad)) :
    RgOk a b ∧ ∀ q, H1 q = none → Q (.ref q) (upd H1 q (.lst (rgV a b))) := by
  split at P
  · rename_i hb
    refine ⟨rgB_ok hb, fun q hq => ?_⟩
    obtain ⟨R2, n2⟩ := R1.push (o := .lst (rgD a b)) (u := .lst (rgV a b)) hq ⟨_, upd_same, rg_rel a b⟩
    refine P _ _ n2 R2 (.ref q) ?_
    simp only [VRel]
    exact ⟨q, rfl, by rw [← R1.len]; simp⟩
  · exact P.elim
theorem trg_end {φ1 : List Addr} {H1 : Hp} {S1 : Store} {B : Value → Option Addr → Hp → Prop} {a b : Int} {Q : VK} (R1 : Rel C.G φ1 S1 H1) (P : Pst C.G B φ1 H1 (fun φ' H' _ x => ∀ v, VRel C.G φ' H' x v → Q v H') (if rgB a b = true then .ok (.tup (rgD a b)) S1 else .bad)) :
    RgOk a b ∧ ∀ q, H1 q = none → Q (.ref q) (upd H1 q (.tup (rgV a b))) := by
  split at P
  · rename_i hb
    refine ⟨rgB_ok hb, fun q hq => ?_⟩
    have n2 : Nxt φ1 φ1 H1 (upd H1 q (.tup (rgV a b))) := Nxt.mute hq
    refine P _ _ n2 (R1.mute (R1.notmem hq) n2.grow (nx_none hq)) (.ref q) ?_
    simp only [VRel]
    exact ⟨q, _, rfl, .inl (.inl upd_same), rg_rel a b⟩
  · exact P.elim
theorem rd_rg1 {W : WX} {σ : St} {H : Hp} {f : Int → Int → Store → Res D} {Q : VK} {P2 : Int → Int → Hp → Prop} (h : rdE C.G W (fun env S => (dCons de dNil env S).bind fun xs S1 => match rgOf xs with
    | some (a, b) => f a b S1
    | none => .bad) σ H Q) (k : ∀ φ1 H1 S1 a b (B : Value → Option Addr → Hp → Prop), Rel C.G φ1 S1 H1 → Pst C.G B φ1 H1 (fun φ' H' _ x => ∀ v, VRel C.G φ' H' x v → Q v H') (f a b S1) → P2 a b H1) : tRg1 (rdE C.G W de) σ H P2 := by
  obtain ⟨φ, S, env, R, E, P⟩ := h
  unfold dCons at P
  dsimp only at P
  rw [Res.bind_assoc] at P
  refine ⟨φ, S, env, R, E, P.bind.imp fun φ1 H1 S1 x n1 R1 P1 v1 r1 => ?_⟩
  cases x with
  | int n =>
    simp only [VRel] at r1
    simp only [dNil, Res.bind_ok, rgOf] at P1
    exact ⟨n, r1, k _ _ _ _ _ _ R1 P1⟩
  | _ => simp only [dNil, Res.bind_ok, rgOf] at P1; exact P1.elim
theorem rd_rg2 {W : WX} {σ : St} {H : Hp} {f : Int → Int → Store → Res D} {Q : VK} {P2 : Int → Int → Hp → Prop} (h : rdE C.G W (fun env S => (dCons de (dCons de2 dNil) env S).bind fun xs S1 => match rgOf xs with
    | some (a, b) => f a b S1
    | none => .bad) σ H Q) (k : ∀ φ1 H1 S1 a b (B : Value → Option Addr → Hp → Prop), Rel C.G φ1 S1 H1 → Pst C.G B φ1 H1 (fun φ' H' _ x => ∀ v, VRel C.G φ' H' x v → Q v H') (f a b S1) → P2 a b H1) : tRg2 (rdE C.G W de) (rdE C.G W de2) σ H P2 := by
  obtain ⟨φ, S, env, R, E, P⟩ := h
  unfold dCons at P
  dsimp only at P
  rw [Res.bind_assoc] at P
  refine ⟨φ, S, env, R, E, P.bind.imp fun φ1 H1 S1 x n1 R1 P1 v1 r1 => ?_⟩
  rw [Res.bind_assoc, Res.bind_assoc] at P1
  refine ⟨φ1, S1, env, R1, E.nxt n1, P1.bind.imp fun φ2 H2 S2 y n2 R2 P3 v2 r2 => ?_⟩
  simp only [dNil, Res.bind_ok] at P3
  cases x with
  | int n =>
    cases y with
    | int m =>
      simp only [VRel] at r1 r2
      simp only [rgOf] at P3
      exact ⟨n, m, r1, r2, k _ _ _ _ _ _ R2 P3⟩
    | _ => simp only [rgOf] at P3; exact P3.elim
  | _ => simp only [rgOf] at P3; exact P3.elim
theorem pex_lrg1 (hl : glB C "list" = true) (hlm : C.G.mg "list" = none) (hg : glB C "range" = true) (hm : C.G.mg "range" = none) (ha : PEx C e de) (hs : ∀ env, starEach [e] env = [(false, eval e env)] := by intro _; rfl)
    (hs1 : ∀ env, starEach [.Call (.Name "range" p) [e] [] pos] env = [(false, eval (.Call (.Name "range" p) [e] [] pos) env)] := by intro _; rfl) : PEx C (.Call (.Name "list" p2) [.Call (.Name "range" p) [e] [] pos] [] pos2) (dLRg (dCons de dNil)) := fun X W h =>
  pe_imp (pe_listRg h.calm (glB_ok hl h) (by rw [h.mg]; exact hlm) (prg1x h hg hm ha hs) (hs1 X.env)) fun σ H Q q => rd_rg1 q fun _ _ _ _ _ _ => lrg_end
theorem pex_lrg2 (hl : glB C "list" = true) (hlm : C.G.mg "list" = none) (hg : glB C "range" = true) (hm : C.G.mg "range" = none) (ha : PEx C e de) (hb : PEx C e2 de2) (hs : ∀ env, starEach [e, e2] env = (false, eval e env) :: starEach [e2] env := by intro _; rfl) (hs2 : ∀ env, starEach [e2] env = [(false, eval e2 env)] := by intro _; rfl)
    (hs1 : ∀ env, starEach [.Call (.Name "range" p) [e, e2] [] pos] env = [(false, eval (.Call (.Name "range" p) [e, e2] [] pos) env)] := by intro _; rfl) : PEx C (.Call (.Name "list" p2) [.Call (.Name "range" p) [e, e2] [] pos] [] pos2) (dLRg (dCons de (dCons de2 dNil))) := fun X W h =>
  pe_imp (pe_listRg h.calm (glB_ok hl h) (by rw [h.mg]; exact hlm) (prg2x h hg hm ha hb hs hs2) (hs1 X.env)) fun σ H Q q => rd_rg2 q fun _ _ _ _ _ _ => lrg_end
theorem pex_trg1 (hl : glB C "tuple" = true) (hlm : C.G.mg "tuple" = none) (hg : glB C "range" = true) (hm : C.G.mg "range" = none) (ha : PEx C e de) (hs : ∀ env, starEach [e] env = [(false, eval e env)] := by intro _; rfl)
    (hs1 : ∀ env, starEach [.Call (.Name "range" p) [e] [] pos] env = [(false, eval (.Call (.Name "range" p) [e] [] pos) env)] := by intro _; rfl) : PEx C (.Call (.Name "tuple" p2) [.Call (.Name "range" p) [e] [] pos] [] pos2) (dTRg (dCons de dNil)) := fun X W h =>
  pe_imp (pe_tupRg h.calm (glB_ok hl h) (by rw [h.mg]; exact hlm) (prg1x h hg hm ha hs) (hs1 X.env)) fun σ H Q q => rd_rg1 q fun _ _ _ _ _ _ => trg_end
theorem pex_trg2 (hl : glB C "tuple" = true) (hlm : C.G.mg "tuple" = none) (hg : glB C "range" = true) (hm : C.G.mg "range" = none) (ha : PEx C e de) (hb : PEx C e2 de2) (hs : ∀ env, starEach [e, e2] env = (false, eval e env) :: starEach [e2] env := by intro _; rfl) (hs2 : ∀ env, starEach [e2] env = [(false, eval e2 env)] := by intro _; rfl)
    (hs1 : ∀ env, starEach [.Call (.Name "range" p) [e, e2] [] pos] env = [(false, eval (.Call (.Name "range" p) [e, e2] [] pos) env)] := by intro _; rfl) : PEx C (.Call (.Name "tuple" p2) [.Call (.Name "range" p) [e, e2] [] pos] [] pos2) (dTRg (dCons de (dCons de2 dNil))) := fun X W h =>
  pe_imp (pe_tupRg h.calm (glB_ok hl h) (by rw [h.mg]; exact hlm) (prg2x h hg hm ha hb hs hs2) (hs1 X.env)) fun σ H Q q => rd_rg2 q fun _ _ _ _ _ _ => trg_end
end

/-! ### a, b, c = x, y, z -/
theorem psx_par3 {C : Cp} {i j l : Nat} {x y z : Str} {a b c : Expr} {dr : DA} {px py pz pt pt2 pos : Pos} {kt k2} (nd : C.N.Nodup) (hi : C.N[i]? = some x) (hj : C.N[j]? = some y) (hl : C.N[l]? = some z) (hij : i ≠ j) (hil : i ≠ l) (hjl : j ≠ l)
    (hx : C.sc.names.lookup x = some .local) (hy : C.sc.names.lookup y = some .local) (hz : C.sc.names.lookup z = some .local) (ha : PAx C [a, b, c] dr)
    (hw : ∀ env : Env, env.scope = C.sc → swappedStores [.Tuple [.Name x px, .Name y py, .Name z pz] kt pt] (.Tuple [a, b, c] k2 pt2) env = pure (some [x, y, z]))
    (hs : ∀ env, swapsWithSole [.Tuple [.Name x px, .Name y py, .Name z pz] kt pt] (.Tuple [a, b, c] k2 pt2) pos.line env = pure false := by intro _; rfl) :
    PSx C (.Assign [.Tuple [.Name x px, .Name y py, .Name z pz] kt pt] (.Tuple [a, b, c] k2 pt2) pos) (sAsg (dTup dr) (gTup 3 (gCons (gNm i) (gCons (gNm j) (gCons (gNm l) gNil))))) := fun X W h => by
  refine ps_imp (ps_par3 h.calm (by rw [h.N]; exact nd) (by rw [h.N]; exact hi) (by rw [h.N]; exact hj) (by rw [h.N]; exact hl) hij hil hjl (by rw [h.sc]; exact hx) (by rw [h.sc]; exact hy) (by rw [h.sc]; exact hz) (ha X W h) (hw X.env h.sc) (hs X.env)) fun D σ H ⟨φ, S, env, R, E, P⟩ => ?_
  have P0 : Pst C.G (fun c p H' => ∀ σ', W c p σ' H') φ H _ (dTup dr env S) := P.bind
  unfold dTup at P0
  refine ⟨φ, S, env, R, E, (pst_err P0.bind).imp fun φ1 H1 S1 xs n1 R1 P1 vs rs => ?_⟩
  split at P1
  · have P2 := Pst.now P1 R1
    match xs, rs, P2 with
    | [d, e, f], rs, P2 =>
      simp only [VRels] at rs
      obtain ⟨v, us, rfl, rv, w, us', rfl, rw', u, us'', rfl, ru, rfl⟩ := rs
      refine ⟨v, w, u, rfl, ?_⟩
      exact (Pst.now (α := Fl) P2 R1 : FlP C.G D φ1 H1 (.nx _)) _ ((((E.nxt n1).set rv).set rw').set ru)
    | [], rs, P2 => exact P2.elim
    | [_], rs, P2 => exact P2.elim
    | [_, _], rs, P2 => exact P2.elim
    | _ :: _ :: _ :: _ :: _, rs, P2 =>
      exfalso
      simp [gTup, Res.bind, Pst] at P2
  · exact P1.elim

/-! ### f-strings -/
def fmtO : D → Option Str
  | .str y => if y.length ≤ sl then some y else none
  | .int i => if i.natAbs.log2 < 1920 then some (toString i) else none
  | _ => none
def dFmt (a : DE) : DE := fun env S => (a env S).bind fun x S1 => match fmtO x with
  | some y => .ok (.str y) S1
  | none => .bad
def goJ : List DE → Str → DE
  | [], acc => fun _ S => .ok (.str acc) S
  | d :: ds, acc => fun env S => (d env S).bind fun x S1 => match x with
    | .str y => if (acc ++ y).length ≤ sl then goJ ds (acc ++ y) env S1 else .bad
    | _ => .bad
def dJs (ds : List DE) : DE := goJ ds Str.empty
section
variable {C : Cp} {e : Expr} {es : List Expr} {de : DE} {dr : DA} {p pos : Pos}
theorem pex_fmt (he : PEx C e de) : PEx C (.FormattedValue e (-1) none pos) (dFmt de) := fun X W h => by
  refine pe_imp (pe_fmt (he X W h)) fun σ H Q ⟨φ, S, env, R, E, P⟩ => ⟨φ, S, env, R, E, P.bind.imp fun φ1 H1 S1 x n1 R1 P1 v1 r1 => ?_⟩
  cases x with
  | str y =>
    simp only [VRel] at r1
    simp only [fmtO] at P1
    by_cases hl : y.length ≤ sl
    · rw [if_pos hl] at P1
      exact .inl ⟨y, r1, by rw [sl_eq]; exact hl, Pst.now P1 R1 _ (by simp only [VRel])⟩
    · rw [if_neg hl] at P1
      exact P1.elim
  | int i =>
    simp only [VRel] at r1
    simp only [fmtO] at P1
    by_cases hl : i.natAbs.log2 < 1920
    · rw [if_pos hl] at P1
      exact .inr ⟨i, r1, hl, Pst.now P1 R1 _ (by simp only [VRel])⟩
    · rw [if_neg hl] at P1
      exact P1.elim
  | _ => exact P1.elim
/-- parts -/
inductive PJx (C : Cp) : List Expr → List DE → Prop
  | nil : PJx C [] []
  | cons {e : Expr} {de : DE} {es : List Expr} {ds : List DE} (h : PEx C e de) (r : PJx C es ds) : PJx C (e :: es) (de :: ds)
theorem PJx.pj {es : List Expr} {ds : List DE} (h : PJx C es ds) {X : Cx} {W : WX} (hx : Cxt C W X) : PJ X es (ds.map fun d => rdE C.G W d) := by
  induction h with
  | nil => exact .nil
  | cons h _ ih => exact .cons (h X W hx) ih
theorem rd_js {W : WX} {σ : St} {Q : VK} : ∀ (ds : List DE) (acc : Str) (H : Hp), rdE C.G W (goJ ds acc) σ H Q → tJs (ds.map fun d => rdE C.G W d) acc σ H fun out H1 => Q (.str out) H1
  | [], acc, H, ⟨φ, S, env, R, E, P⟩ => Pst.now P R _ (by simp only [VRel])
  | d :: ds, acc, H, ⟨φ, S, env, R, E, P⟩ => by
    refine ⟨φ, S, env, R, E, P.bind.imp fun φ1 H1 S1 x n1 R1 P1 v1 r1 => ?_⟩
    cases x with
    | str y =>
      simp only [VRel] at r1
      dsimp only at P1
      by_cases hl : (acc ++ y).length ≤ sl
      · rw [if_pos hl] at P1
        exact ⟨y, r1, by rw [sl_eq]; exact hl, rd_js ds (acc ++ y) H1 ⟨φ1, S1, env, R1, E.nxt n1, P1⟩⟩
      · rw [if_neg hl] at P1
        exact P1.elim
    | _ => exact P1.elim
theorem pex_js {v1 v2 : Expr} {rest : List Expr} {ds : List DE} (h : PJx C (v1 :: v2 :: rest) ds) : PEx C (.JoinedStr (v1 :: v2 :: rest) pos) (dJs ds) := fun X W hx =>
  pe_imp (pe_joined (h.pj hx)) fun σ H Q q => rd_js ds Str.empty H q
theorem pex_js1 (he : PEx C e de) : PEx C (.JoinedStr [e] pos) de := fun X W hx => pe_joined1 (he X W hx)
end

/-! ### a tuple repeated -/
def oMulT : Op2 := fun d e S => match d, e with
  | .tup xs, .int k => if xs ≠ [] ∧ 2 ≤ k ∧ k ≤ 1000 ∧ xs.length ≤ 1000 then some (.tup (List.replicate k.toNat xs).flatten, S) else none
  | _, _ => none
theorem opx_mulT {C : Cp} : OpRx C (binaryOp .Mult) oMulT := OpRx.imp (fun X => rRepT X.K) (fun _ _ _ => op_repT) fun X W hx φ S H d e x y Q R r1 r2 P => by
  unfold oMulT at P
  split at P
  · split at P
    · rename_i xs k hb
      simp only [VRel] at r1 r2
      obtain ⟨a, vs, rfl, sq, rs⟩ := r1
      subst r2
      refine ⟨a, _, vs, rfl, rfl, by rw [hx.K]; exact sq, fun z => hb.1 ?_, hb.2.1, hb.2.2.1, by rw [← rs.length]; exact hb.2.2.2, fun p hp => PstV.tup P R (rs.replicate _) hp⟩
      subst z
      exact List.eq_nil_of_length_eq_zero rs.length
    · exact P.elim
  · exact P.elim
def oMulA : Op2 := orO oMulI (orO oMulL oMulT)
theorem opx_mulA {C : Cp} : OpRx C (binaryOp .Mult) oMulA := opx_mulI.or (opx_mulL.or opx_mulT)
end Z

/-! Z12: the head: a law's facts read at the heap behind the top, the law's end. -/
namespace Z
open PySem PySem.Spec PyProof.Rows L2 He

/-! ### defs by addresses -/
structure Df where
  ad : PySem.W.Frag → Addr
  name : Str
  qual : Str
  params : Arguments
  body : List Stmt
  scope : Scope
  dvs : List V
def fnA (K : PySem.W.Frag) (a : Addr) : FnW := match K.lookup a with
  | some ⟨_, _, .func fd, _⟩ => some (fd.name, fd.qualname, fd.params, fd.body, fd.scope, fd.globals, fd.closure, fd.builtins)
  | _ => none
def Df.val (d : Df) : FnW := some (d.name, d.qual, d.params, .stmts d.body, d.scope, mainGlobals, [], builtinsNs)
def Df.ok (K : PySem.W.Frag) (d : Df) : Bool := PySem.W.keepIn K (.ref (d.ad K)) && (match K.lookup (d.ad K) with
  | some ⟨_, _, .func fd, _⟩ => PySem.W.codeIn K fd.code d.qual && (dflB K fd.defaults d.dvs && kwdB K fd.kwdefaults [])
  | _ => false)
theorem Df.funD {K : PySem.W.Frag} {d : Df} (e : fnA K (d.ad K) = d.val) (c : d.ok K = true) : ∃ fd, FunD K d.name d.qual d.params d.body d.scope d.dvs [] (d.ad K) fd := by
  obtain ⟨kp, c2⟩ := ba c
  unfold fnA at e
  cases q : K.lookup (d.ad K) with
  | none =>
    rw [q] at c2
    cases c2
  | some o =>
    obtain ⟨oc, od, dt, osl⟩ := o
    rw [q] at c2 e
    cases dt with
    | func fd =>
      obtain ⟨n1, n2, n3, n4, n5, n6, n7, n8, n9, n10, n11, n12, n13, n14, n15⟩ := fd
      have e2 : (some (n1, n2, n3, n4, n5, n6, n7, n15) : FnW) = some (d.name, d.qual, d.params, .stmts d.body, d.scope, mainGlobals, [], builtinsNs) := e
      simp only [Option.some.injEq, Prod.mk.injEq] at e2
      obtain ⟨h1, h2, h3, h4, h5, h6, h7, h8⟩ := e2
      subst h1 h2 h3 h4 h5 h6 h7 h8
      have c3 : (PySem.W.codeIn K n13 d.qual && (dflB K n8 d.dvs && kwdB K n9 [])) = true := c2
      obtain ⟨k1, k2⟩ := ba c3
      obtain ⟨k3, k4⟩ := ba k2
      exact ⟨_, ⟨oc, od, n8, n9, n10, n11, n12, n13, n14, osl, rfl, q, k1, dflB_ok k3, kwdB_ok k4⟩, kp⟩
    | _ => cases c2

/-! ### checks of the written part -/
abbrev Ck := PySem.W.Frag → Bool
/-- the getter of a property -/
def pgA (K : PySem.W.Frag) (C : Addr) (f : Str) : Addr := match PySem.W.recIn K (ma K C f) "property" with
  | some (.ref g :: _) => g
  | _ => 0
/-- the def of a classmethod -/
def cmA (K : PySem.W.Frag) (C : Addr) (f : Str) : Addr := match PySem.W.recIn K (ma K C f) "classmethod" with
  | some (.ref g :: _) => g
  | _ => 0
def ckFa (f : Fa) : Ck := fun K => f.ok K
def ckSlt (x : Str) : Ck := fun K => PySem.W.plainGet K (ga K x) Str.empty && (PySem.W.isClsIn K (ga K x) && (PySem.W.plainOver K (ga K x) && eqO (PySem.W.findIn K (.ref (ga K x)) "__setattr__") (some (some (.builtin "object.__setattr__")))))
def ckIsi (x : Str) : Ck := fun K => eqO (PySem.W.findIn K (.ref (ga K x)) "__class__") (some (some (.builtin "object.__class__"))) && (eqO (PySem.W.specialIn K (.builtin "object.__class__") "__get__") (some (some (.builtin "getset_descriptor.__get__"))) &&
  (decide (PySem.W.takesIn K (.builtin "object.__class__") = some true) && decide (PySem.W.mroIn K (ga K x) (.type "object") = some true)))
def ckFld (x f : Str) (i : Nat) : Ck := fun K => eqO (PySem.W.findIn K (.ref (ga K x)) f) (some (some (.ref (ma K (ga K x) f)))) && (eqO (PySem.W.specialIn K (.ref (ma K (ga K x) f)) "__get__") (some (some (.builtin "member_descriptor.__get__"))) &&
  (decide (PySem.W.takesIn K (.ref (ma K (ga K x) f)) = some true) && (decide (PySem.W.typeIn K (.ref (ma K (ga K x) f)) = some (.type "member_descriptor")) && (decide (PySem.W.slotIn K (ma K (ga K x) f) (ga K x) = some i) && decide (i < 1000)))))
def ckPrp (x f : Str) : Ck := fun K => eqO (PySem.W.findIn K (.ref (ga K x)) f) (some (some (.ref (ma K (ga K x) f)))) && (eqO (PySem.W.specialIn K (.ref (ma K (ga K x) f)) "__get__") (some (some (.builtin "property.__get__"))) &&
  (decide (PySem.W.takesIn K (.ref (ma K (ga K x) f)) = some true) && (match PySem.W.recIn K (ma K (ga K x) f) "property" with
    | some (.ref g :: _) => decide (g = pgA K (ga K x) f)
    | _ => false)))
def ckCm (x f : Str) : Ck := fun K => PySem.W.readsIn K (ga K x) (.type "type") && (eqO (PySem.W.specialIn K (.ref (ga K x)) "__getattribute__") (some (some (.builtin "type.__getattribute__"))) &&
  ((match PySem.W.findCls K (.ref (ga K x)) (.type "type") f with
    | some (.get (.builtin b) (.ref p) .none (.ref c)) => decide (b = "classmethod.__get__") && (decide (p = ma K (ga K x) f) && decide (c = ga K x))
    | _ => false) && ((match PySem.W.recIn K (ma K (ga K x) f) "classmethod" with
    | some (.ref g :: _) => decide (g = cmA K (ga K x) f)
    | _ => false) && PySem.W.fnIn K (cmA K (ga K x) f))))
section
variable {K : PySem.W.Frag} {x f : Str}
theorem ckSlt_ok (c : ckSlt x K = true) : SlX.SCls K (ga K x) := by
  obtain ⟨c1, c⟩ := ba c
  obtain ⟨c2, c⟩ := ba c
  obtain ⟨c3, c4⟩ := ba c
  exact ⟨c1, c2, c3, eqO_ok c4⟩
theorem ckIsi_ok (c : ckIsi x K = true) : SlX.SIsi K (ga K x) := by
  obtain ⟨c1, c⟩ := ba c
  obtain ⟨c2, c⟩ := ba c
  obtain ⟨c3, c4⟩ := ba c
  exact ⟨eqO_ok c1, eqO_ok c2, of_decide_eq_true c3, of_decide_eq_true c4⟩
theorem ckFld_ok {i : Nat} (c : ckFld x f i K = true) : ∃ p, SlX.Slot1 K (ga K x) f p i := by
  obtain ⟨c1, c⟩ := ba c
  obtain ⟨c2, c⟩ := ba c
  obtain ⟨c3, c⟩ := ba c
  obtain ⟨c4, c⟩ := ba c
  obtain ⟨c5, c6⟩ := ba c
  exact ⟨_, eqO_ok c1, eqO_ok c2, of_decide_eq_true c3, of_decide_eq_true c4, of_decide_eq_true c5, of_decide_eq_true c6⟩
theorem recM {o : Option (List Value)} {a : Addr} (h : (match o with
    | some (.ref g :: _) => decide (g = a)
    | _ => false) = true) : ∃ rest, o = some (.ref a :: rest) := by
  split at h
  · rename_i g r
    rw [of_decide_eq_true h]
    exact ⟨r, rfl⟩
  · cases h
theorem ckPrp_ok (c : ckPrp x f K = true) : ∃ p, PySem.W.findIn K (.ref (ga K x)) f = some (some (.ref p)) ∧ PySem.W.specialIn K (.ref p) "__get__" = some (some (.builtin "property.__get__")) ∧ PySem.W.takesIn K (.ref p) = some true ∧ ∃ rest, PySem.W.recIn K p "property" = some (.ref (pgA K (ga K x) f) :: rest) := by
  obtain ⟨c1, c⟩ := ba c
  obtain ⟨c2, c⟩ := ba c
  obtain ⟨c3, c4⟩ := ba c
  exact ⟨_, eqO_ok c1, eqO_ok c2, of_decide_eq_true c3, recM c4⟩
theorem ckCm_ok (c : ckCm x f K = true) : ClX.CRead K (ga K x) (.type "type") ∧ ClX.CMet K (ga K x) (.type "type") f (ma K (ga K x) f) (cmA K (ga K x) f) := by
  obtain ⟨c1, c⟩ := ba c
  obtain ⟨c2, c⟩ := ba c
  obtain ⟨c3, c⟩ := ba c
  obtain ⟨c4, c5⟩ := ba c
  refine ⟨⟨c1, eqO_ok c2⟩, ?_, recM c4, c5⟩
  split at c3
  · rename_i b p c e
    obtain ⟨d1, d⟩ := ba c3
    obtain ⟨d2, d3⟩ := ba d
    rw [e, of_decide_eq_true d1, of_decide_eq_true d2, of_decide_eq_true d3]
  · cases c3
end

/-! ### the Hook -/
/-- the addresses looked at: those below n -/
def asZ (_ : Addr → Option Obj) (n : Nat) : List Addr := List.range n
/-- the code object of the def at a, its table -/
def codeA (K : PySem.W.Frag) (a : Addr) : Addr := match K.lookup a with
  | some ⟨_, _, .func fd, _⟩ => (match fd.code with
    | .ref c => c
    | _ => 0)
  | _ => 0
def tabA (K : PySem.W.Frag) (a : Addr) : Addr × Addr := (codeA K a, tabOf K (codeA K a))
abbrev AlZ : Type := Bool × List FnW
def tabsZ (g : Addr → Option Obj) (tf : List (PySem.W.Frag → Addr)) (K : PySem.W.Frag) : Bool := tf.all fun p => PySem.W.codeHdIn K (tabA K (p K)).1 (tabA K (p K)).2 && (match g (tabA K (p K)).2 with
  | some o => emptyTab o
  | none => false)
def obsZ (cs : List Ck) (fn : List Df) (K : PySem.W.Frag) : AlZ := ((cs.all fun c => c K) && fn.all fun d => d.ok K, fn.map fun d => fnA K (d.ad K))
def valZ (fn : List Df) : AlZ := (true, fn.map Df.val)
def obsZG (n : Nat) (cs : List Ck) (fn : List Df) (tf : List (PySem.W.Frag → Addr)) (g : Addr → Option Obj) : AlZ × Bool := (obsZ cs fn (frT g (asZ g n)), tabsZ g tf (frT g (asZ g n)))
structure SaysZ (cs : List Ck) (fn : List Df) (tf : List (PySem.W.Frag → Addr)) (h : Heap) (K : PySem.W.Frag) : Prop where
  all : obsZ cs fn K = valZ fn
  hd : ∀ p ∈ tf, PySem.W.codeHdIn K (tabA K (p K)).1 (tabA K (p K)).2 = true
  out : ∀ p ∈ tf, K.lookup (tabA K (p K)).2 = none
  empty : ∀ p ∈ tf, h.get? (tabA K (p K)).2 = some { cls := .none, data := .fields #[] }
theorem saysZ_of {n : Nat} {cs : List Ck} {fn : List Df} {tf : List (PySem.W.Frag → Addr)} {h : Heap} (e : obsZG n cs fn tf h.get? = (valZ fn, true)) : SaysZ cs fn tf h (frT h.get? (asZ h.get? n)) := by
  have e1 : obsZ cs fn (frT h.get? (asZ h.get? n)) = valZ fn := congrArg (fun z : AlZ × Bool => z.1) e
  have e2 : tabsZ h.get? tf (frT h.get? (asZ h.get? n)) = true := congrArg (fun z : AlZ × Bool => z.2) e
  have key : ∀ p ∈ tf, PySem.W.codeHdIn (frT h.get? (asZ h.get? n)) (tabA (frT h.get? (asZ h.get? n)) (p (frT h.get? (asZ h.get? n)))).1 (tabA (frT h.get? (asZ h.get? n)) (p (frT h.get? (asZ h.get? n)))).2 = true ∧
      ∃ o, h.get? (tabA (frT h.get? (asZ h.get? n)) (p (frT h.get? (asZ h.get? n)))).2 = some o ∧ emptyTab o = true := fun p hp => by
    obtain ⟨h3, h4⟩ := ba (List.all_eq_true.mp e2 p hp)
    refine ⟨h3, ?_⟩
    cases q : h.get? (tabA (frT h.get? (asZ h.get? n)) (p (frT h.get? (asZ h.get? n)))).2 with
    | none =>
      rw [q] at h4
      cases h4
    | some o =>
      rw [q] at h4
      exact ⟨o, rfl, h4⟩
  exact ⟨e1, fun p hp => (key p hp).1, fun p hp => by
    obtain ⟨_, o, q, z⟩ := key p hp
    exact frT_none q z, fun p hp => by
    obtain ⟨_, o, q, z⟩ := key p hp
    rw [q, emptyTab_eq z]⟩
def hookZ (n : Nat) (cs : List Ck) (fn : List Df) (tf : List (PySem.W.Frag → Addr)) : PySem.W.Hook where
  α := AlZ × Bool
  obs := fun s => obsZG n cs fn tf s.heap.get?
  val := fun _ => (valZ fn, true)
  says := fun _ h => ∃ K : PySem.W.Frag, K.In h ∧ SaysZ cs fn tf h K
  of := fun _ _ e => ⟨_, frT_in, saysZ_of e⟩
  keeps := fun _ _ _ ⟨K, hK, c⟩ k => ⟨K, PySem.W.Frag.In.keeps hK k, ⟨c.all, c.hd, c.out, fun p hp => k _ _ (c.empty p hp)⟩⟩
theorem obsZG_eq {n : Nat} {cs : List Ck} {fn : List Df} {tf : List (PySem.W.Frag → Addr)} {g : Addr → Option Obj} {s : Shared} (h : ∀ a, g a = s.heap.get? a) : obsZG n cs fn tf g = (hookZ n cs fn tf).obs s := by
  have e : g = s.heap.get? := funext h
  rw [e] <;> rfl

/-- the readings of defaults that fill up -/
def dflF (F : Fn) (ns : List D) : Fn := fun ds S => F (ds ++ ns) S
/-! ### what a law's ground knows -/
structure Hyp (cs : List Ck) (fn : List Df) (cl : List Str) (G : Glo) : Prop where
  all : obsZ cs fn G.K = valZ fn
  mgns : ∀ x r, PySem.W.nsIn G.K mainGlobals x = some r → G.mg x = r
  cls : ∀ (c : Nat) (x : Str), cl[c]? = some x → G.ad c = ga G.K x
section
variable {cs : List Ck} {fn : List Df} {cl : List Str} {G : Glo}
theorem Hyp.ck (h : Hyp cs fn cl G) (i : Nat) {c : Ck} (e : cs[i]? = some c) : c G.K = true := by
  have c1 := (ba (show ((cs.all fun c => c G.K) && fn.all fun d => d.ok G.K) = true from congrArg (fun z : AlZ => z.1) h.all)).1
  exact List.all_eq_true.mp c1 c (List.mem_of_getElem? e)
theorem Hyp.def_ (h : Hyp cs fn cl G) (i : Nat) {d : Df} (e0 : fn[i]? = some d) : ∃ fd, FunD G.K d.name d.qual d.params d.body d.scope d.dvs [] (d.ad G.K) fd := by
  have c2 := (ba (show ((cs.all fun c => c G.K) && fn.all fun d => d.ok G.K) = true from congrArg (fun z : AlZ => z.1) h.all)).2
  have e : fn.map (fun d => fnA G.K (d.ad G.K)) = fn.map Df.val := congrArg (fun z : AlZ => z.2) h.all
  have e2 : (fn.map fun d => fnA G.K (d.ad G.K))[i]? = (fn.map Df.val)[i]? := by rw [e]
  rw [List.getElem?_map, List.getElem?_map, e0] at e2
  exact Df.funD (Option.some.inj e2) (List.all_eq_true.mp c2 d (List.mem_of_getElem? e0))
theorem Hyp.glo (h : Hyp cs fn cl G) (i : Nat) {x : Str} (e : cs[i]? = some (ckFa (.glo x))) : G.mg x = some (.ref (ga G.K x)) := h.mgns x _ (eqO_ok (h.ck i e))
theorem Hyp.free (h : Hyp cs fn cl G) (i : Nat) {x : Str} (e : cs[i]? = some (ckFa (.free x))) : G.mg x = none := h.mgns x _ (eqO_ok (h.ck i e))
theorem Hyp.int (h : Hyp cs fn cl G) (i : Nat) {x : Str} {n : Int} (e : cs[i]? = some (ckFa (.int x n))) : ∃ t, G.mg x = some (.int n t) := by
  have c2 : (match PySem.W.nsIn G.K mainGlobals x with
    | some (some (.int j _)) => decide (j = n)
    | _ => false) = true := h.ck i e
  split at c2
  · rename_i j t q
    rw [of_decide_eq_true c2] at q
    exact ⟨t, h.mgns x _ q⟩
  · cases c2
section
variable {i j k n : Nat} {d : Df} {y : Str} {N ps : List Str} {b : DS}
theorem Hyp.fnA (h : Hyp cs fn cl G) (i : Nat) (hd : fn[i]? = some d) (Sc : FnScope N ps d.scope) (hn : ps.length = n)
    (hbi : ∀ (kV doc pm : Value) (an : Option Addr) (cdv ct : Value) (us : List Value), us.length = ps.length → bindArgs (PySem.W.fnOf d.name d.qual d.params d.body d.scope .none kV doc pm an cdv ct) ⟨us, []⟩ = pure (ps.zip us))
    (hb : PSsx ⟨G, k, N, d.scope, fun _ => true⟩ d.body b) (hv : d.dvs = [] := by rfl) : FnA G (k + 1) (d.ad G.K) n (mkFn N.length b) := by
  obtain ⟨fd, F⟩ := h.def_ i hd
  rw [hv] at F
  refine FnR.imp ((fn_ok F Sc hn hb).raw (F.bindsN hbi) .nil) fun vs H Q E z => ?_
  rw [List.append_nil]
  exact z
/-- a def with defaults, called with m values -/
theorem Hyp.fnAD (h : Hyp cs fn cl G) (i : Nat) {ns : List D} {m : Nat} (j : Nat) (hd : fn[i]? = some d) (Sc : FnScope N ps d.scope) (hn : ps.length = n) (hne : d.dvs ≠ []) (hm : m + (d.dvs.length - j) = ps.length)
    (hbi : ∀ (T : Addr) (kV doc pm : Value) (an : Option Addr) (cdv ct : Value) (us its : List Value), us.length = m → its.length = d.dvs.length →
      ∃ k, bindArgs (PySem.W.fnOf d.name d.qual d.params d.body d.scope (.ref T) kV doc pm an cdv ct) ⟨us, []⟩ = seqItems? (.ref T) >>= k ∧ k (some its.toArray) = pure (ps.zip (us ++ its.drop j)))
    (hns : ∀ (G : Glo) (φ : List Addr) (H : Hp), VRels G φ H ns (d.dvs.drop j))
    (hb : PSsx ⟨G, k, N, d.scope, fun _ => true⟩ d.body b) : FnA G (k + 1) (d.ad G.K) m (dflF (mkFn N.length b) ns) := by
  obtain ⟨fd, F⟩ := h.def_ i hd
  obtain ⟨ds, hv, hB⟩ := F.binds1 m j hne hm hbi
  refine FnR.imp ((fn_ok F Sc hn hb).raw hB hv) fun vs H Q E ⟨φ, S, ds, R, rs, hl, P⟩ => ?_
  refine ⟨φ, S, ds ++ ns, R, rs.append (hns G φ H), ?_, P⟩
  have e := (hns G φ H).length
  rw [List.length_append, e, List.length_drop, hl, ← hn]
  exact hm
theorem FnA.nil {k m : Nat} {a : Addr} {F : Fn} (h : FnA G k a m (dflF F [])) : FnA G k a m F := by
  have e : dflF F [] = F := by
    funext ds S
    show F (ds ++ []) S = F ds S
    rw [List.append_nil]
  rw [← e]
  exact h
/-- a def of the module -/
theorem Hyp.fnIs (h : Hyp cs fn cl G) (i j : Nat) (hd : fn[i]? = some d) (ha : d.ad G.K = ga G.K y) (hc : cs[j]? = some (ckFa (.glo y))) (Sc : FnScope N ps d.scope) (hn : ps.length = n)
    (hbi : ∀ (kV doc pm : Value) (an : Option Addr) (cdv ct : Value) (us : List Value), us.length = ps.length → bindArgs (PySem.W.fnOf d.name d.qual d.params d.body d.scope .none kV doc pm an cdv ct) ⟨us, []⟩ = pure (ps.zip us))
    (hb : PSsx ⟨G, k, N, d.scope, fun _ => true⟩ d.body b) (hv : d.dvs = [] := by rfl) : FnIs G (k + 1) y n (mkFn N.length b) := by
  obtain ⟨fd, F⟩ := h.def_ i hd
  rw [hv] at F
  exact fn_is F (by rw [ha]; exact h.glo j hc) Sc hn hbi hb
end
theorem Hyp.slt (h : Hyp cs fn cl G) (i : Nat) {x : Str} {c : Nat} (hc0 : cl[c]? = some x) (e : cs[i]? = some (ckSlt x)) : SlX.SCls G.K (G.ad c) := by
  rw [h.cls c x hc0]
  exact ckSlt_ok (h.ck i e)
theorem Hyp.mt (h : Hyp cs fn cl G) (i j : Nat) {x m : Str} {c k n : Nat} {F : Fn} (hc0 : cl[c]? = some x) (e : cs[i]? = some (ckSlt x)) (e2 : cs[j]? = some (ckFa (.meth x m))) (hF : FnA G k (ma G.K (ga G.K x) m) n F) : MtIs G k c m n F :=
  ⟨h.slt i hc0 e, _, by rw [h.cls c x hc0]; exact meth_ok (h.ck j e2), hF⟩
theorem Hyp.mkI (h : Hyp cs fn cl G) (i j : Nat) {x : Str} {c k n : Nat} {F : Fn} (hc0 : cl[c]? = some x) (e : cs[i]? = some (ckFa (.mkr x))) (e2 : cs[j]? = some (ckFa (.glo x))) (hF : FnA G k (ma G.K (ga G.K x) "__init__") n F) : MkIs G k c x n F :=
  ⟨_, by rw [h.cls c x hc0]; exact mkr_ok (h.ck i e), by rw [h.cls c x hc0]; exact h.glo j e2, hF⟩
theorem Hyp.prp (h : Hyp cs fn cl G) (i j : Nat) {x f : Str} {c k : Nat} {F : Fn} (hc0 : cl[c]? = some x) (e : cs[i]? = some (ckSlt x)) (e2 : cs[j]? = some (ckPrp x f)) (hF : FnA G k (pgA G.K (ga G.K x) f) 1 F) : PrIs G k c f F := by
  refine ⟨h.slt i hc0 e, ?_⟩
  rw [h.cls c x hc0]
  obtain ⟨p, h1, h2, h3, h4⟩ := ckPrp_ok (h.ck j e2)
  exact ⟨p, _, h1, h2, h3, h4, hF⟩
theorem Hyp.fld1 (h : Hyp cs fn cl G) (i j : Nat) {x f : Str} {c t : Nat} (hc0 : cl[c]? = some x) (e : cs[i]? = some (ckSlt x)) (e2 : cs[j]? = some (ckFld x f t)) : SlFld G f [(c, t)] := fun c' j' q => by
  have e3 : (match c' == c with
    | true => some t
    | false => none) = some j' := q
  cases hq : (c' == c) with
  | false => rw [hq] at e3; cases e3
  | true =>
    rw [hq] at e3
    cases e3
    rw [beq_iff_eq.mp hq, h.cls c x hc0]
    exact ⟨ckSlt_ok (h.ck i e), ckFld_ok (h.ck j e2)⟩
theorem SlFld.cons {f : Str} {tb tb' : List (Nat × Nat)} (a : SlFld G f tb) (b : SlFld G f tb') : SlFld G f (tb ++ tb') := fun c j q => by
  rw [List.lookup_append] at q
  cases h : tb.lookup c with
  | some r =>
    rw [h] at q
    cases q
    exact a c j h
  | none =>
    rw [h] at q
    exact b c j q
end

/-! ### the law's end -/
theorem walk_Z {l : PySem.W.OpenLaw} {n k : Nat} {q : Program} {loose : List Str} {XP : (Str → Option Value) → Heap → Prop} {YP : World → Heap → Prop} {d : DefRec} {CX : World → CXT} {x : Str}
    (hn : l.most = some n) (hn2 : n ≤ sizeLine) (hdf : d.params.defaults = []) (hr : Room k callerA)
    (F : ∀ (w : World) (mg : Str → Option Value) (fa : Addr) (h : Heap), YP w h → h.Ns mainGlobals mg → mg d.name = some (.ref fa) →
      ∃ (K : PySem.W.Frag) (fd : FuncData) (sp : Sp), K.In h ∧ (∀ (s : Shared) (u : Value), BindsTo s fd ⟨[u], []⟩ [(x, u)]) ∧
        (∀ (H : Hp) (a : Addr) (ns : List Int), ns.length ≤ n → (∀ z ∈ ns, Builtin.Int.intBits z ≤ 1048576) → Only H → SqL K H a (ns.map V.int) → sp [.ref a] H (fun v _ => v = .bl true) fun _ _ _ => False) ∧
        ∀ base : Heap, K.In base → base.Ns mainGlobals mg → FnOk l.prog w K mg base (CX w) k fa fd [x] sp)
    (hCX : ∀ (w : World) (H : Hp) (s : Shared) (e : Value) (s' : Shared), CX w [] H s (fun _ _ _ => False) e s' → False) :
    PySem.W.WalkO q loose XP YP l.row.toRowW d [] (fun f vs => PySem.call f vs) := by
  refine Att.attach_callB hn hdf fun w s₀ s₁ mg mb fa o pm cd doc a vs ns G Y ho hd hcd hmg hobj hints hlen hbits hg => ?_
  obtain ⟨K, fd, sp, KX, hb, hsp, hF⟩ := F w mg fa _ Y G.T.g hmg
  exact law_call KX G.T.g G.T.b G.T.builtins G.T.nolimit hg hobj hints (Nat.le_trans hlen hn2) hr hF hb (fun H hO hS => hsp H a ns hlen hbits hO hS) fun H e s' => hCX w H s₁ e s'
theorem cx_none {P : Program} {w : World} {H : Hp} {s : Shared} {e : Value} {s' : Shared} (z : L2.CX P w [] H s (fun _ _ _ => False) e s') : False := by
  obtain ⟨_, _, _, _, _, _, _, _, _, _, _, _, q⟩ := z
  exact q
/-- the script as it comes -/
theorem script_rel {G : Glo} {H : Hp} {a : Addr} {ns : List Int} (hT : G.T = []) (hO : Only H) (hS : SqL G.K H a (ns.map V.int)) : Rel G [] [] H ∧ VRel G [] H (.fls (ns.map D.int)) (.ref a) := by
  refine ⟨⟨rfl, List.nodup_nil, fun i b o e => by simp at e, by rw [hT]; intro p hp; cases hp⟩, ?_⟩
  simp only [VRel]
  refine ⟨a, ns.map V.int, rfl, ?_, ints_rel ns⟩
  rcases hS with h | h
  · rcases h with h | ⟨o, h⟩
    · rcases hO a with z | ⟨o, xs, z⟩
      · rw [h] at z; cases z
      · rw [h] at z; cases z
    · exact .inl ⟨o, h⟩
  · exact .inr h
/-- a law with no table: from the def's promise and what the denotation answers -/
theorem law_ends {G : Glo} {H : Hp} {a : Addr} {ns : List Int} {F : Fn} (hT : G.T = []) (hO : Only H) (hS : SqL G.K H a (ns.map V.int)) (plain : ∃ S, F [.fls (ns.map D.int)] [] = .ok (.bl true) S) : spD G 1 F [.ref a] H (fun v _ => v = .bl true) fun _ _ _ => False := by
  obtain ⟨R, r⟩ := script_rel hT hO hS
  obtain ⟨S, e⟩ := plain
  refine ⟨[], [], _, R, VRels.cons r VRels.nil, rfl, ?_⟩
  rw [e]
  intro φ' H' _ _ v rv
  simpa only [VRel] using rv
end Z

/-! Z13: rules in the form in which a program prints them. -/
namespace Z
open PySem PySem.Spec PyProof.Rows L2 He

def okV (C : Cp) (i : Nat) (x : Str) : Bool := decide (C.N[i]? = some x) && (visB C.sc x && (!(x == ("__debug__" : Str)) && !(x == ("__classdict__" : Str))))
def okT (C : Cp) (i : Nat) (x : Str) : Bool := decide (C.N[i]? = some x) && locB C x
def okG (C : Cp) (x : Str) : Bool := glB C x && !(x == ("__debug__" : Str))
def okB (C : Cp) (x : Str) (v : Value) : Bool := glB C x && (!(x == ("__debug__" : Str)) && (decide (x ≠ "__name__") && decide (bootBuiltins x = some v)))
theorem nb {b : Bool} (h : (!b) = true) : b = false := by cases b <;> first | rfl | cases h
section
variable {C : Cp} {x : Str} {pos p : Pos} {i k n : Nat}
theorem pex_v (i : Nat) (h : okV C i x = true) : PEx C (.Name x pos) (dVar i) := by
  obtain ⟨h1, h⟩ := ba h
  obtain ⟨h2, h⟩ := ba h
  obtain ⟨h3, h4⟩ := ba h
  exact pex_var i (of_decide_eq_true h1) h2 (nb h3) (nb h4)
theorem pgx_v (nd : C.N.Nodup) (i : Nat) (h : okT C i x = true) : PGx C (.Name x pos) [i] (gNm i) := by
  obtain ⟨h1, h2⟩ := ba h
  exact pgx_nm i nd (of_decide_eq_true h1) h2
theorem psx_augv (nd : C.N.Nodup) (i : Nat) {o : Operator} {op : Op2} {a : Expr} {da : DE} (h : okT C i x = true) (ho : OpRx C (inplaceOp o) op) (ha : PEx C a da) : PSx C (.AugAssign (.Name x p) o a pos) (sAug i op da) := by
  obtain ⟨h1, h2⟩ := ba h
  exact psx_aug i nd (of_decide_eq_true h1) h2 ho ha
/-- how many there are -/
def LenIs (r : DA) (n : Nat) : Prop := ∀ env S xs S', r env S = .ok xs S' → xs.length = n
theorem ln0 : LenIs dNil 0 := fun env S xs S' h => by
  cases h
  rfl
theorem ln1 {a : DE} {r : DA} {n : Nat} (h : LenIs r n) : LenIs (dCons a r) (n + 1) := fun env S xs S' e => by
  unfold dCons at e
  cases q : a env S with
  | bad => rw [q] at e; cases e
  | er y S1 => rw [q] at e; cases e
  | ok y S1 =>
    rw [q] at e
    simp only [Res.bind_ok] at e
    cases q2 : r env S1 with
    | bad => rw [q2] at e; cases e
    | er y S1 => rw [q2] at e; cases e
    | ok ys S2 =>
      rw [q2] at e
      simp only [Res.bind_ok] at e
      cases e
      rw [List.length_cons, h _ _ _ _ q2]
theorem pex_cl {F : Fn} {e : Expr} {es : List Expr} {dr : DA} (h : FnIs C.G k x n F) (hk : Nat.ble k C.k = true) (hg : okG C x = true) (ha : PAx C (e :: es) dr) (hn : LenIs dr n)
    (he : ∀ env, starEach (e :: es) env = (false, eval e env) :: starEach es env := by intro _; rfl) (hpl : ∀ env, (backTo pos (starEach es env)).any (·.1) = false := by intro _; rfl) : PEx C (.Call (.Name x p) (e :: es) [] pos) (dCall F dr) := by
  obtain ⟨h1, h2⟩ := ba hg
  exact pex_call h (Nat.le_of_ble_eq_true hk) h1 ha hn (nb h2) he hpl
theorem pex_cl0 {F : Fn} (h : FnIs C.G k x 0 F) (hk : Nat.ble k C.k = true) (hg : okG C x = true) : PEx C (.Call (.Name x p) [] [] pos) (dCall F dNil) := by
  obtain ⟨h1, h2⟩ := ba hg
  exact pex_call0 h (Nat.le_of_ble_eq_true hk) h1 (nb h2)
theorem pex_new {F : Fn} {c : Nat} {e : Expr} {es : List Expr} {dr : DA} (h : MkIs C.G k c x (n + 1) F) (hk : Nat.ble (k + 1) C.k = true) (hg : okG C x = true) (ha : PAx C (e :: es) dr) (hn : LenIs dr n)
    (he : ∀ env, starEach (e :: es) env = (false, eval e env) :: starEach es env := by intro _; rfl) (hpl : ∀ env, (backTo pos (starEach es env)).any (·.1) = false := by intro _; rfl) : PEx C (.Call (.Name x p) (e :: es) [] pos) (dMk c F dr) := by
  obtain ⟨h1, h2⟩ := ba hg
  exact pex_mk h (Nat.le_of_ble_eq_true hk) h1 ha hn (nb h2) he hpl
theorem pex_bf {id : String} {f : Bf} {e : Expr} {es : List Expr} {dr : DA} (hc : CallRx C (.builtin id) f) (hb : okB C x (.builtin id) = true) (hm : C.G.mg x = none) (ha : PAx C (e :: es) dr)
    (hs : ∀ env, starEach (e :: es) env = (false, eval e env) :: starEach es env := by intro _; rfl) (hp : ∀ env, (backTo pos (starEach es env)).any (·.1) = false := by intro _; rfl) : PEx C (.Call (.Name x p) (e :: es) [] pos) (dCallB f dr) := by
  obtain ⟨h1, h⟩ := ba hb
  obtain ⟨h2, h⟩ := ba h
  obtain ⟨h3, h4⟩ := ba h
  exact pex_callB hc h1 hm (of_decide_eq_true h4) ha (of_decide_eq_true h3) (nb h2) hs hp
theorem pex_bt {T : String} {f : Bf} {e : Expr} {es : List Expr} {dr : DA} (hc : CallRx C (.type T) f) (hb : okB C x (.type T) = true) (hm : C.G.mg x = none) (ha : PAx C (e :: es) dr)
    (hs : ∀ env, starEach (e :: es) env = (false, eval e env) :: starEach es env := by intro _; rfl) (hp : ∀ env, (backTo pos (starEach es env)).any (·.1) = false := by intro _; rfl) : PEx C (.Call (.Name x p) (e :: es) [] pos) (dCallB f dr) := by
  obtain ⟨h1, h⟩ := ba hb
  obtain ⟨h2, h⟩ := ba h
  obtain ⟨h3, h4⟩ := ba h
  exact pex_callTy hc h1 hm (of_decide_eq_true h4) ha (of_decide_eq_true h3) (nb h2) hs hp
theorem pex_tyn {n : String} (hb : okB C x (.type n) = true) (hm : C.G.mg x = none) : PEx C (.Name x pos) (dC (.ty n)) := by
  obtain ⟨h1, h⟩ := ba hb
  obtain ⟨h2, h⟩ := ba h
  obtain ⟨h3, h4⟩ := ba h
  exact pex_ty h1 hm (of_decide_eq_true h4) (of_decide_eq_true h3) (nb h2)
/-- a constant of the module: an int; a class -/
theorem pex_gi {i : Int} (hg : okG C x = true) (hm : ∃ t, C.G.mg x = some (.int i t)) : PEx C (.Name x pos) (dC (.int i)) := by
  obtain ⟨h1, h2⟩ := ba hg
  obtain ⟨t, e⟩ := hm
  exact pex_glob (v := .int i) h1 e ⟨t, rfl⟩ (fun _ _ => by simp only [VRel]) (nb h2)
theorem pex_gc {c : Nat} (hg : okG C x = true) (hm : C.G.mg x = some (.ref (C.G.ad c))) : PEx C (.Name x pos) (dC (.st c)) := by
  obtain ⟨h1, h2⟩ := ba hg
  exact pex_glob (v := .ref (C.G.ad c)) h1 hm rfl (fun _ _ => by simp only [VRel]) (nb h2)
end

/-! ### assignments whose form the scope decides -/
theorem psx_asgS {C : Cp} {t a : Expr} {da : DE} {g : DG} {vs : List Nat} {pos : Pos} (ha : PEx C a da) (hg : PGx C t vs g) (hs : ∀ env : Env, env.scope = C.sc → swapsWithSole [t] a pos.line env = pure false) (hw : ∀ env : Env, env.scope = C.sc → swappedStores [t] a env = pure none)
    (h1 : ∀ env, (assignEach [t] env).map (·.2) = [assign t env] := by intro _; rfl) : PSx C (.Assign [t] a pos) (sAsg da g) := fun X W h =>
  ps_imp (ps_asg (ha X W h) (hg X W h) (hs X.env h.sc) (hw X.env h.sc) (h1 X.env)) fun _ _ _ => rd_asg

/-! ### a classmethod of a class; a class called by a local name -/
def FnNo (G : Glo) (k : Nat) (g : Addr) (n : Nat) (F : Fn) : Prop := FnA G k g n F
structure CmIs (G : Glo) (k c : Nat) (m : Str) (n : Nat) (F : Fn) : Prop where
  ex : ∃ mc p g, ClX.CRead G.K (G.ad c) mc ∧ ClX.CMet G.K (G.ad c) mc m p g ∧ FnA G k g n F
def dCm (c : Nat) (F : Fn) (o : DE) (r : DA) : DE := fun env S => (o env S).bind fun x S1 => match x with
  | .st c' => if c' = c then (r env S1).bind fun xs S2 => (F (.st c :: xs) S2).cut else .bad
  | _ => .bad
theorem pex_cm {C : Cp} {k c n : Nat} {m : Str} {F : Fn} {o e : Expr} {es : List Expr} {dₒ : DE} {dr : DA} {pos apos : Pos} {pl : Env → Sem Bool} (h : CmIs C.G k c m (n + 1) F) (hk : Nat.ble k C.k = true) (ho : PEx C o dₒ) (ha : PAx C (e :: es) dr) (hn : LenIs dr n)
    (hst : ∀ env, starEach (e :: es) env = (false, eval e env) :: starEach es env := by intro _; rfl) (hpl : ∀ env, (backTo pos (starEach es env)).any (·.1) = false := by intro _; rfl)
    (ht : ∀ env, eval (.Call (.Attribute o m apos) (e :: es) [] pos) env = (do
      let ov ← eval o env
      standAt apos.atName
      let (f, first) ← holding [ov] (getMethod ov m (pl env))
      callWith pos f first (backTo pos (starEach (e :: es) env)) (backToKw pos (keywordEach [] env))) := by intro _; rfl) :
    PEx C (.Call (.Attribute o m apos) (e :: es) [] pos) (dCm c F dₒ dr) := fun X W hx => by
  obtain ⟨mc, p, g, hr, hm, hF⟩ := h.ex
  have F' : FnR X.prog X.w X.K X.mg X.base (L2.CX X.prog X.w) k g (spD C.G (n + 1) F) := by rw [hx.prog, hx.w, hx.K, hx.mg, hx.base]; exact hF
  refine pe_imp (ClX.pe_cmeth (pl := pl X.env) (E := fun _ _ _ => False) (C := C.G.ad c) (ho X W hx) (by rw [hx.K]; exact hr) (by rw [hx.K]; exact hm) F' (hx.room.mono (Nat.le_of_ble_eq_true hk)) (fun pins σ H s e s' I z => by
    obtain ⟨_, _, _, _, _, _, _, _, _, _, _, _, q⟩ := z
    exact q.elim) (ha X W hx) (hst X.env) (hpl X.env) (ht X.env)) fun σ H Q ⟨φ, S, env, R, E, P⟩ => ⟨φ, S, env, R, E, P.bind.imp fun φ1 H1 S1 x n1 R1 P1 v1 r1 => ?_⟩
  cases x with
  | st c' =>
    dsimp only at P1
    by_cases hc : c' = c
    · subst hc
      rw [if_pos rfl] at P1
      simp only [VRel] at r1
      refine ⟨r1, φ1, S1, env, R1, E.nxt n1, ?_⟩
      have P2 := P1.bind
      cases q : dr env S1 with
      | bad => rw [q] at P2; exact P2.elim
      | er y S2 => rw [q] at P2; exact P2
      | ok xs S2 =>
        rw [q] at P2
        exact fun φ2 H2 n2 R2 vs rs => ⟨φ2, S2, _, R2, VRels.cons (by simp only [VRel]) rs, by rw [List.length_cons, hn env S1 xs S2 q], (P2 φ2 H2 n2 R2).cut⟩
    · rw [if_neg hc] at P1
      exact P1.elim
  | _ => exact P1.elim
structure MkC (G : Glo) (k c : Nat) (n : Nat) (F : Fn) : Prop where
  ex : ∃ g, Mk G.K (G.ad c) g ∧ FnA G k g n F
theorem MkIs.c {G : Glo} {k c n : Nat} {x : Str} {F : Fn} (h : MkIs G k c x n F) : MkC G k c n F := let ⟨g, a, _, b⟩ := h.ex; ⟨g, a, b⟩
def dMkV (i c : Nat) (F : Fn) (r : DA) : DE := fun env S => match env[i]? with
  | some (some (.st c')) => if c' = c then dMk c F r env S else .bad
  | _ => .bad
theorem pex_mkv {C : Cp} {k c n : Nat} {x : Str} {F : Fn} {e : Expr} {es : List Expr} {dr : DA} {p pos : Pos} (i : Nat) (h : MkC C.G k c (n + 1) F) (hk : Nat.ble (k + 1) C.k = true) (hv : okV C i x = true) (ha : PAx C (e :: es) dr) (hn : LenIs dr n)
    (he : ∀ env, starEach (e :: es) env = (false, eval e env) :: starEach es env := by intro _; rfl) (hpl : ∀ env, (backTo pos (starEach es env)).any (·.1) = false := by intro _; rfl) : PEx C (.Call (.Name x p) (e :: es) [] pos) (dMkV i c F dr) := fun X W hx => by
  obtain ⟨g, M, hF⟩ := h.ex
  refine ⟨fun pins s σ H Q I ⟨φ, S, env, R, E, P⟩ => ?_⟩
  unfold dMkV at P
  split at P
  · rename_i c' hi
    split at P
    · rename_i hc
      subst hc
      obtain ⟨g1, g⟩ := ba hv
      obtain ⟨g2, g⟩ := ba g
      obtain ⟨g3, g4⟩ := ba g
      obtain ⟨v0, hv0, r0⟩ := E.2 i _ hi
      simp only [VRel] at r0
      subst r0
      refine wpAny_Call_Name_kw (thn ((pe_var (X := X) (pos := p) (i := i) (by rw [hx.N]; exact of_decide_eq_true g1) (by rw [hx.sc]; exact visB_ok g2) (nb g3) (nb g4)).run pins s σ H (fun v H1 => v = .ref (C.G.ad c') ∧ H1 = H) I ⟨_, hv0, rfl, rfl⟩) fun u s1 ⟨v, H1, I1, r1, ev, eH⟩ => ?_)
      subst ev eH
      obtain rfl : u = Value.ref (C.G.ad c') := r1
      refine PySem.W.callWith_K (h₀ := X.base) I1.ok.mod.kin (by rw [hx.K]; exact M.kp) (thn ((ha X W hx).run pos pins s1 σ H1 (fun vs H2 => ∀ x dx, H2 x = none → H2 dx = none → dx ≠ x → spD C.G (n + 1) F (V.ref x :: vs) (upd (upd H2 dx (.own x)) x (.ins (C.G.ad c') dx [])) (fun v H3 => v = .non ∧ Q (.ref x) H3) (WE W σ)) I1 ⟨φ, S, env, R, E, ?_⟩) fun us s2 ⟨vs, H2, I2, r, q⟩ => ⟨I2.kIn, ?_⟩) (he X.env) (hpl X.env)
      · have P0 := P.bind
        cases q : dr env S with
        | bad => rw [q] at P0; exact P0.elim
        | er y S1 => rw [q] at P0; exact P0
        | ok xs S1 =>
          rw [q] at P0
          exact fun φ1 H1 n1 R1 vs rs x dx h1 h2 ne => sp_mk R1 rs (hn env S xs S1 q) (P0 φ1 H1 n1 R1) x dx h1 h2 ne
      · exact run_mk hx (by rw [hx.K]; exact M) hF (hx.room.mono (Nat.le_of_ble_eq_true hk)) I2 r q
    · exact P.elim
  · exact P.elim
theorem He_cm {cs : List Ck} {fn : List Df} {cl : List Str} {G : Glo} (h : Hyp cs fn cl G) (i : Nat) {x m : Str} {c k n : Nat} {F : Fn} (hc0 : cl[c]? = some x) (e : cs[i]? = some (ckCm x m)) (hF : FnA G k (cmA G.K (ga G.K x) m) n F) : CmIs G k c m n F := by
  obtain ⟨h1, h2⟩ := ckCm_ok (h.ck i e)
  exact ⟨.type "type", ma G.K (ga G.K x) m, _, by rw [h.cls c x hc0]; exact h1, by rw [h.cls c x hc0]; exact h2, hF⟩
theorem gc_of {cs : List Ck} {fn : List Df} {cl : List Str} {G : Glo} (h : Hyp cs fn cl G) (i : Nat) {x : Str} {c : Nat} (hc0 : cl[c]? = some x) (e : cs[i]? = some (ckFa (.glo x))) : G.mg x = some (.ref (G.ad c)) := by
  rw [h.cls c x hc0]
  exact h.glo i e
/-- the j-th statement of a class -/
def inner (st : Stmt) (j : Nat) : Stmt := match st with
  | .ClassDef _ _ _ b _ _ _ _ _ _ _ => b.getD j (.Pass ⟨0, 0, 0, 0⟩)
  | _ => .Pass ⟨0, 0, 0, 0⟩
theorem swaps_cell {C : Cp} {t : Str} {p pos : Pos} {elt : Expr} {gens : List Comprehension} {scope : Scope} {line : Nat} (hk : C.sc.names.lookup t = some .cell) : ∀ env : Env, env.scope = C.sc → swapsWithSole [.Name t p] (.ListComp elt gens scope pos) line env = pure false := fun env he => by
  show (pure (env.blockKind == .function && env.kindOf t == some .local && p.line == pos.line && !(scope.names.any fun (n, k) => n == t && (k == .local || k == .cell))) : Sem Bool) = pure false
  have e : env.kindOf t = some .cell := by
    show env.scope.names.lookup t = some .cell
    rw [he]; exact hk
  rw [e]
  have e2 : ((some NameKind.cell : Option NameKind) == some NameKind.local) = false := by decide
  rw [e2, Bool.and_false, Bool.false_and, Bool.false_and]
end Z

/-! Z14: what a denotation answers: a calculus in plain Lean. -/
namespace Z
open PySem PySem.Spec

/-- a mark: what hangs on it is not rewritten by simp -/
inductive Tg {α : Type} (Q : α → Store → Prop) : Type where
  | mk
def WP {α : Type} (r : Res α) (Q : α → Store → Prop) (_t : Tg Q := .mk) : Prop := ∃ a S, r = .ok a S ∧ Q a S
section
variable {α β : Type}
@[simp] theorem WP_ok {a : α} {S : Store} {Q : α → Store → Prop} : WP (.ok a S) Q ↔ Q a S :=
  ⟨fun ⟨_, _, e, q⟩ => by cases e; exact q, fun q => ⟨_, _, rfl, q⟩⟩
@[simp] theorem WP_bad {Q : α → Store → Prop} : WP (.bad : Res α) Q ↔ False := ⟨fun ⟨_, _, e, _⟩ => (nomatch e), fun q => q.elim⟩
@[simp] theorem WP_bind {r : Res α} {f : α → Store → Res β} {Q : β → Store → Prop} : WP (r.bind f) Q ↔ WP r fun a S => WP (f a S) Q := by
  cases r with
  | ok a S => simp
  | er x S => exact ⟨fun ⟨_, _, e, _⟩ => (nomatch e), fun ⟨_, _, e, _⟩ => (nomatch e)⟩
  | bad => exact ⟨fun ⟨_, _, e, _⟩ => (nomatch e), fun ⟨_, _, e, _⟩ => (nomatch e)⟩
@[simp] theorem WP_cut {r : Res α} {Q : α → Store → Prop} : WP r.cut Q ↔ WP r Q := by
  cases r with
  | ok a S => exact Iff.rfl
  | er x S => exact ⟨fun ⟨_, _, e, _⟩ => (nomatch e), fun ⟨_, _, e, _⟩ => (nomatch e)⟩
  | bad => exact Iff.rfl
theorem WP_congr {r r' : Res α} {Q : α → Store → Prop} (h : r = r') : WP r Q = WP r' Q := by rw [h]
theorem WP_mono {r : Res α} {Q Q' : α → Store → Prop} (h : WP r Q) (k : ∀ a S, Q a S → Q' a S) : WP r Q' := let ⟨a, S, e, q⟩ := h; ⟨a, S, e, k a S q⟩
end
/-- all that stood stands -/
def Sub (S S' : Store) : Prop := ∀ (j : Nat) (o : O), S[j]? = some o → S'[j]? = some o
theorem Sub.refl (S : Store) : Sub S S := fun _ _ h => h
theorem Sub.trans {S S1 S2 : Store} (a : Sub S S1) (b : Sub S1 S2) : Sub S S2 := fun j o h => b j o (a j o h)
theorem Sub.push (S : Store) (o : O) : Sub S (S ++ [o]) := fun j u h => by
  rw [List.getElem?_append_left (List.getElem?_eq_some_iff.mp h).1]; exact h
@[simp] theorem push_at {S : Store} {o : O} : (S ++ [o])[S.length]? = some o := by simp
/-- all but i -/
def Kp (i : Nat) (S S' : Store) : Prop := ∀ (j : Nat) (o : O), j ≠ i → S[j]? = some o → S'[j]? = some o
theorem Sub.kp {i : Nat} {S S' : Store} (h : Sub S S') : Kp i S S' := fun j o _ e => h j o e
theorem Kp.refl (i : Nat) (S : Store) : Kp i S S := fun _ _ _ h => h
theorem Kp.trans {i : Nat} {S S1 S2 : Store} (a : Kp i S S1) (b : Kp i S1 S2) : Kp i S S2 := fun j o n h => b j o n (a j o n h)
theorem Kp.set {i : Nat} {S : Store} {o : O} : Kp i S (S.set i o) := fun j u n h => by rw [List.getElem?_set_ne (Ne.symm n)]; exact h
theorem set_at {S : Store} {i : Nat} {o u : O} (h : S[i]? = some o) : (S.set i u)[i]? = some u := List.getElem?_set_self (List.getElem?_eq_some_iff.mp h).1

/-! ### the constructs, one by one -/
section
variable {env : En} {S : Store} {i j k n : Nat} {a b c d : DE} {r : DA} {t u : DT} {s s' : DS} {g h : DG} {gs : DGs} {x y z : D} {xs : List D} {op op' : Op2} {F : Fn} {f : Bf} {it : DI} {J : Itd}
@[simp] theorem q_var : dVar i env S = match env[i]? with
  | some (some d) => .ok d S
  | _ => .bad := rfl
@[simp] theorem q_c : dC x env S = .ok x S := rfl
@[simp] theorem q_bin : dBin op a b env S = (a env S).bind fun x S1 => (b env S1).bind fun y S2 => ofO (op x y S2) := rfl
@[simp] theorem q_un {op : Op1} : dUn op a env S = (a env S).bind fun x S1 => ofO (op x S1) := rfl
@[simp] theorem q_ofO {α : Type} {v : α} : ofO (some (v, S)) = .ok v S := rfl
@[simp] theorem q_ofN {α : Type} : (ofO (none : Option (α × Store)) : Res α) = .bad := rfl
@[simp] theorem q_chain : dChain op op' a b c env S = (a env S).bind fun x S1 => (b env S1).bind fun y S2 => (ofO (op x y S2)).bind fun z S3 => match z with
    | .bl true => (c env S3).bind fun w S4 => ofO (op' y w S4)
    | .bl false => .ok (.bl false) S3
    | _ => .bad := rfl
@[simp] theorem q_tst : dTst a env S = (a env S).bind fun x S1 => ofB (truD x S1) S1 := rfl
@[simp] theorem q_tstB : dTstB a env S = (a env S).bind fun x S1 => match x with
    | .bl k => .ok k S1
    | _ => .bad := rfl
@[simp] theorem q_and2 : tAnd2 t u env S = (t env S).bind fun c S1 => if c = true then u env S1 else .ok false S1 := rfl
@[simp] theorem q_or2 : tOr2 t u env S = (t env S).bind fun c S1 => if c = true then .ok true S1 else u env S1 := rfl
@[simp] theorem q_not1 : tNot1 t env S = (t env S).bind fun c S1 => .ok (!c) S1 := rfl
@[simp] theorem q_andV : dAndV a b env S = (a env S).bind fun x S1 => (ofB (truD x S1) S1).bind fun k S1 => if k = true then b env S1 else .ok x S1 := rfl
@[simp] theorem q_orV : dOrV a b env S = (a env S).bind fun x S1 => (ofB (truD x S1) S1).bind fun k S1 => if k = true then .ok x S1 else b env S1 := rfl
@[simp] theorem q_notV : dNotV a env S = (a env S).bind fun x S1 => (ofB (truD x S1) S1).bind fun k S1 => .ok (.bl (!k)) S1 := rfl
@[simp] theorem q_if : dIf t a b env S = (t env S).bind fun k S1 => if k = true then a env S1 else b env S1 := rfl
@[simp] theorem q_nil : dNil env S = .ok [] S := rfl
@[simp] theorem q_cons : dCons a r env S = (a env S).bind fun x S1 => (r env S1).bind fun xs S2 => .ok (x :: xs) S2 := rfl
@[simp] theorem q_tup : dTup r env S = (r env S).bind fun xs S1 => if xs.length ≤ sl then .ok (.tup xs) S1 else .bad := rfl
@[simp] theorem q_lst : dLst r env S = (r env S).bind fun xs S1 => mkL xs S1 := rfl
@[simp] theorem q_next : sNext env S = .ok (.nx env) S := rfl
@[simp] theorem q_seq : sSeq s s' env S = (s env S).bind fun f S1 => match f with
  | .nx e => s' e S1
  | o => .ok o S1 := rfl
@[simp] theorem q_expr : sExpr a env S = (a env S).bind fun _ S1 => .ok (.nx env) S1 := rfl
@[simp] theorem q_ret : sRet a env S = (a env S).bind fun x S1 => .ok (.rt x) S1 := rfl
@[simp] theorem q_retN : sRetN env S = .ok (.rt .non) S := rfl
@[simp] theorem q_brk : sBrk env S = .ok (.bk env) S := rfl
@[simp] theorem q_cnt : sCnt env S = .ok (.ct env) S := rfl
@[simp] theorem q_sif : sIf t s s' env S = (t env S).bind fun k S1 => if k = true then s env S1 else s' env S1 := rfl
@[simp] theorem q_never : sNever env S = .bad := rfl
@[simp] theorem q_gnm : gNm i x env S = .ok (env.set i (some x)) S := rfl
@[simp] theorem q_gtup : gTup n gs x env S = match x with
  | .tup ds => if ds.length = n then gs ds env S else .bad
  | .ref i => (match S[i]? with
    | some (.lst ds) => if ds.length = n then gs ds env S else .bad
    | _ => .bad)
  | _ => .bad := by
  unfold gTup
  cases x <;> rfl
@[simp] theorem q_asg : sAsg a g env S = (a env S).bind fun x S1 => (g x env S1).bind fun e S2 => .ok (.nx e) S2 := rfl
@[simp] theorem q_call : dCall F r env S = (r env S).bind fun xs S1 => F xs S1 := rfl
@[simp] theorem q_callB : dCallB f r env S = (r env S).bind fun xs S1 => ofO (f xs S1) := rfl
@[simp] theorem q_seqi : iSeq a env S = (a env S).bind fun x S1 => match seqJ x S1 with
  | some J => .ok J S1
  | none => .bad := rfl
@[simp] theorem q_for : sFor it g s env S = (it env S).bind fun J S1 => forGo J g s FUEL 0 env S1 := rfl
@[simp] theorem q_while : sWhile t s env S = whileGo t s FUEL env S := rfl
end
/-! ### loops -/
theorem wp_forGo {J : Itd} {g : DG} {b : DS} {Q : Fl → Store → Prop} (n : Nat) (I : Nat → En → Store → Prop)
    (hs : ∀ k env S, k < n → I k env S → ∃ d, J k S = some (some d) ∧ WP (g d env S) fun e S1 => WP (b e S1) fun fl S2 => match fl with
      | .nx e' => I (k + 1) e' S2
      | .ct e' => I (k + 1) e' S2
      | .bk e' => Q (.nx e') S2
      | .rt d => Q (.rt d) S2)
    (hd : ∀ env S, I n env S → J n S = some none ∧ Q (.nx env) S) : ∀ (m k : Nat) (env : En) (S : Store), n < k + m → k ≤ n → I k env S → WP (forGo J g b m k env S) Q
  | 0, k, env, S, h1, h2, _ => by omega
  | m + 1, k, env, S, h1, h2, hI => by
    unfold forGo
    by_cases hk : k = n
    · subst hk
      obtain ⟨e, q⟩ := hd env S hI
      rw [e]
      exact WP_ok.mpr q
    · obtain ⟨d, e, w⟩ := hs k env S (by omega) hI
      rw [e]
      dsimp only
      rw [WP_bind]
      refine WP_mono w fun e1 S1 w1 => ?_
      rw [WP_bind]
      refine WP_mono w1 fun fl S2 w2 => ?_
      cases fl with
      | nx e' => exact wp_forGo n I hs hd m (k + 1) e' S2 (by omega) (by omega) w2
      | ct e' => exact wp_forGo n I hs hd m (k + 1) e' S2 (by omega) (by omega) w2
      | bk e' => exact WP_ok.mpr w2
      | rt d => exact WP_ok.mpr w2
theorem wp_for {J : Itd} {g : DG} {b : DS} {Q : Fl → Store → Prop} {env : En} {S : Store} (n : Nat) (I : Nat → En → Store → Prop) (hn : n ≤ 2 ^ 60) (h0 : I 0 env S)
    (hs : ∀ k env S, k < n → I k env S → ∃ d, J k S = some (some d) ∧ WP (g d env S) fun e S1 => WP (b e S1) fun fl S2 => match fl with
      | .nx e' => I (k + 1) e' S2
      | .ct e' => I (k + 1) e' S2
      | .bk e' => Q (.nx e') S2
      | .rt d => Q (.rt d) S2)
    (hd : ∀ env S, I n env S → J n S = some none ∧ Q (.nx env) S) : WP (forGo J g b FUEL 0 env S) Q :=
  wp_forGo n I hs hd FUEL 0 env S (by unfold FUEL; omega) (Nat.zero_le _) h0
theorem wp_lcGo {J : Itd} {g : DG} {t : DT} {b : DE} {env : En} {Q : List D → Store → Prop} (n : Nat) (I : Nat → List D → Store → Prop)
    (hs : ∀ k acc S, k < n → I k acc S → acc.length < sl ∧ ∃ d, J k S = some (some d) ∧ WP (g d env S) fun e S1 => WP (t e S1) fun c S2 => if c = true then WP (b e S2) fun y S3 => I (k + 1) (acc ++ [y]) S3 else I (k + 1) acc S2)
    (hd : ∀ acc S, I n acc S → J n S = some none ∧ Q acc S) : ∀ (m k : Nat) (acc : List D) (S : Store), n < k + m → k ≤ n → I k acc S → WP (lcGo J g t b env m k acc S) Q
  | 0, k, acc, S, h1, h2, _ => by omega
  | m + 1, k, acc, S, h1, h2, hI => by
    unfold lcGo
    by_cases hk : k = n
    · subst hk
      obtain ⟨e, q⟩ := hd acc S hI
      rw [e]
      exact WP_ok.mpr q
    · obtain ⟨hl, d, e, w⟩ := hs k acc S (by omega) hI
      rw [e]
      dsimp only
      rw [WP_bind, WP_cut]
      refine WP_mono w fun e1 S1 w1 => ?_
      rw [WP_bind, WP_cut]
      refine WP_mono w1 fun c S2 w2 => ?_
      by_cases hc : c = true
      · rw [if_pos hc] at w2 ⊢
        rw [WP_bind, WP_cut]
        refine WP_mono w2 fun y S3 w3 => ?_
        rw [if_pos hl]
        exact wp_lcGo n I hs hd m (k + 1) _ S3 (by omega) (by omega) w3
      · rw [if_neg hc] at w2 ⊢
        exact wp_lcGo n I hs hd m (k + 1) acc S2 (by omega) (by omega) w2
theorem wp_lc {it : DI} {g : DG} {t : DT} {b : DE} {own : List Nat} {env : En} {S : Store} {Q : D → Store → Prop} (h : WP (it env S) fun J S1 => ∃ (n : Nat) (I : Nat → List D → Store → Prop), n ≤ 2 ^ 60 ∧ I 0 [] S1 ∧
    (∀ k acc S, k < n → I k acc S → acc.length < sl ∧ ∃ d, J k S = some (some d) ∧ WP (g d (wipeE env own) S) fun e S1 => WP (t e S1) fun c S2 => if c = true then WP (b e S2) fun y S3 => I (k + 1) (acc ++ [y]) S3 else I (k + 1) acc S2) ∧
    ∀ acc S, I n acc S → J n S = some none ∧ Q (.ref S.length) (S ++ [.lst acc])) : WP (dLc it g t b own env S) Q := by
  unfold dLc
  rw [WP_bind]
  refine WP_mono h fun J S1 ⟨n, I, hn, h0, hs, hd⟩ => ?_
  rw [WP_bind]
  refine wp_lcGo (Q := fun acc S2 => WP (.ok (.ref S2.length) (S2 ++ [.lst acc])) Q) n I hs (fun acc S q => ⟨(hd acc S q).1, WP_ok.mpr (hd acc S q).2⟩) FUEL 0 [] S1 (by unfold FUEL; omega) (Nat.zero_le _) h0
/-- a comprehension that keeps one store's objects and maps each item -/
theorem wp_map {it : DI} {g : DG} {b : DE} {own : List Nat} {env : En} {S S0 : Store} {Q : D → Store → Prop} (ds : List D) (f : Nat → D) (hl : ds.length ≤ sl)
    (hi : WP (it env S) fun J S1 => Sub S S1 ∧ (∀ k S2, Sub S1 S2 → J k S2 = some ds[k]?))
    (hb : ∀ k d S1, ds[k]? = some d → Sub S S1 → WP (g d (wipeE env own) S1) fun e S2 => WP (b e S2) fun y S3 => y = f k ∧ Sub S1 S3)
    (hQ : ∀ S1, Sub S S1 → Q (.ref S1.length) (S1 ++ [.lst ((List.range ds.length).map f)])) : WP (dLc it g tYes1 b own env S) Q := by
  refine wp_lc (WP_mono hi fun J S1 ⟨s1, hJ⟩ => ⟨ds.length, fun k acc S2 => Sub S1 S2 ∧ acc = (List.range k).map f, by have : sl = 16777216 := rfl; omega, ⟨Sub.refl _, rfl⟩, fun k acc S2 hk ⟨s2, ha⟩ => ⟨?_, ?_⟩, fun acc S2 ⟨s2, ha⟩ => ⟨?_, ?_⟩⟩)
  · rw [ha, List.length_map, List.length_range]; omega
  · refine ⟨ds[k], by rw [hJ k S2 s2, List.getElem?_eq_getElem hk], WP_mono (hb k ds[k] S2 (List.getElem?_eq_getElem hk) (s1.trans s2)) fun e S3 w => ?_⟩
    refine WP_ok.mpr ?_
    rw [if_pos rfl]
    refine WP_mono w fun y S4 ⟨ey, s4⟩ => ⟨s2.trans s4, ?_⟩
    rw [ha, ey, List.range_succ, List.map_append]; rfl
  · rw [hJ _ S2 s2]; simp
  · rw [ha]; exact hQ S2 (s1.trans s2)
/-! ### the operators -/
section
variable {S : Store} {i j : Int} {r k : Nat} {ds : List D} {x y d : D} {env : En} {a b e : DE} {op : Op2} {bl bl' : Bool} {f : D → Store → Option (D × Store)} {f2 : D → D → Store → Option (D × Store)}
@[simp] theorem o_add : oAdd (.int i) (.int j) S = some (.int (i + j), S) := rfl
@[simp] theorem o_addI : oAddI (.int i) (.int j) S = some (.int (i + j), S) := rfl
@[simp] theorem o_sub : oSubI (.int i) (.int j) S = some (.int (i - j), S) := rfl
@[simp] theorem o_lt : oLtI (.int i) (.int j) S = some (.bl (decide (i < j)), S) := rfl
@[simp] theorem o_le : oLeI (.int i) (.int j) S = some (.bl (decide (i ≤ j)), S) := rfl
@[simp] theorem o_gt : oGtI (.int i) (.int j) S = some (.bl (decide (j < i)), S) := rfl
@[simp] theorem o_ge : oGeI (.int i) (.int j) S = some (.bl (decide (j ≤ i)), S) := rfl
@[simp] theorem o_neg : oNeg (.int i) S = some (.int (-i), S) := rfl
theorem o_mulI (h : mulOk i j = true) : oMulI (.int i) (.int j) S = some (.int (i * j), S) := if_pos h
theorem o_mul (h : mulOk i j = true) : oMulA (.int i) (.int j) S = some (.int (i * j), S) := by
  unfold oMulA orO
  rw [o_mulI h]
theorem o_mod (h : 0 < j) : oModI (.int i) (.int j) S = some (.int (i % j), S) := if_pos (decide_eq_true h)
theorem o_div (h : divOk i j = true) : oDivI (.int i) (.int j) S = some (.int (i / j), S) := if_pos h
theorem o_pow (h : powOk i j = true) : oPowI (.int i) (.int j) S = some (.int (i ^ j.toNat), S) := if_pos h
theorem o_eq {p q : PyData} (h1 : toPy S 60 x = some p) (h2 : toPy S 60 y = some q) : oEq x y S = (eqD S x y).map fun b => (.bl b, S) := rfl
@[simp] theorem o_ixR : oIx (.ref r) (.int i) S = (itemsD S (.ref r)).bind fun ds => (L2.atI ds i).map fun x => (x, S) := rfl
@[simp] theorem o_ixT : oIx (.tup ds) (.int i) S = (L2.atI ds i).map fun x => (x, S) := rfl
@[simp] theorem o_ixF : oIx (.fls ds) (.int i) S = (L2.atI ds i).map fun x => (x, S) := rfl
@[simp] theorem itemsT : itemsD S (.tup ds) = some ds := rfl
@[simp] theorem itemsF : itemsD S (.fls ds) = some ds := rfl
theorem itemsR (h : S[r]? = some (.lst ds)) : itemsD S (.ref r) = some ds := by simp only [itemsD, h]
theorem itemsLR (h : S[r]? = some (.lst ds)) : itemsL S (.ref r) = some ds := by simp only [itemsL, h]
theorem seqR (h : S[r]? = some (.lst ds)) : seqJ (.ref r) S = some (jL r) := by simp only [seqJ, h]
@[simp] theorem seqT : seqJ (.tup ds) S = some (jT ds) := rfl
@[simp] theorem seqF : seqJ (.fls ds) S = some (jT ds) := rfl
theorem ix_lit {n : Nat} (h : n < ds.length) : L2.atI ds (n : Int) = ds[n]? := by
  unfold L2.atI L2.ixN
  rw [if_pos (by omega), if_pos (by omega)]
  simp
@[simp] theorem q_b1 : b1 f [x] S = f x S := rfl
@[simp] theorem q_b2 : b2 f2 [x, y] S = f2 x y S := rfl
@[simp] theorem f_intI : fInt (.int i) S = some (.int i, S) := rfl
@[simp] theorem f_intB : fInt (.bl bl) S = some (.int (if bl = true then 1 else 0), S) := rfl
@[simp] theorem f_abs : fAbs (.int i) S = some (.int (if i < 0 then -i else i), S) := rfl
@[simp] theorem f_max : fMax2 (.int i) (.int j) S = some (.int (if j > i then j else i), S) := rfl
@[simp] theorem f_min : fMin2 (.int i) (.int j) S = some (.int (if j < i then j else i), S) := rfl
@[simp] theorem f_lenT : fLen (.tup ds) S = some (.int ds.length, S) := rfl
@[simp] theorem f_lenF : fLen (.fls ds) S = some (.int ds.length, S) := rfl
theorem f_lenR (h : S[r]? = some (.lst ds)) : fLen (.ref r) S = some (.int ds.length, S) := by simp only [fLen, h]
@[simp] theorem f_list : fList x S = (itemsD S x).map fun ds => (.ref S.length, S ++ [.lst ds]) := rfl
@[simp] theorem f_tuple : fTuple x S = (itemsD S x).map fun ds => (.tup ds, S) := rfl
@[simp] theorem q_gsb : gSb a b x env S = (a env S).bind fun o S1 => (b env S1).bind fun i S2 => ofS (setD o i x S2) env := rfl
theorem setR (h : S[r]? = some (.lst ds)) : setD (.ref r) (.int i) d S = (L2.ixN ds.length i).map fun j => S.set r (.lst (ds.set j d)) := by simp only [setD, h]
@[simp] theorem ofB_bl : ofB (truD (.bl bl) S) S = .ok bl S := rfl
@[simp] theorem q_sl {lo hi : DP} : dSl a lo hi env S = (a env S).bind fun x S1 => (lo env S1).bind fun l S2 => (hi env S2).bind fun h S3 => ofO (oSl x l h S3) := rfl
@[simp] theorem q_pno : pNo env S = .ok none S := rfl
@[simp] theorem q_pat : pAt a env S = (a env S).bind fun x S1 => match x with
  | .int i => .ok (some i) S1
  | _ => .bad := by
  unfold pAt
  cases a env S with
  | ok x S1 => cases x <;> rfl
  | er x S1 => rfl
  | bad => rfl
@[simp] theorem q_lrg {r : DA} : dLRg r env S = (r env S).bind fun xs S1 => match rgOf xs with
  | some (a, b) => if rgB a b = true then .ok (.ref S1.length) (S1 ++ [.lst (rgD a b)]) else .bad
  | none => .bad := rfl
@[simp] theorem q_meth {ck : D → Store → Bool} {m : Mf} {o : DE} {r : DA} : dMeth ck m o r env S = (o env S).bind fun x S1 => if ck x S1 = true then (r env S1).bind fun xs S2 => ofO (m x xs S2) else .bad := rfl
theorem isL_r (h : S[r]? = some (.lst ds)) : isL (.ref r) S = true := by simp only [isL, h]
theorem m_append (h : S[r]? = some (.lst ds)) (hl : ds.length < sl) : mAppend (.ref r) [x] S = some (.non, S.set r (.lst (ds ++ [x]))) := by
  simp only [mAppend, onL, h, if_pos hl]
@[simp] theorem q_fld {tb : List (Nat × Nat)} : dFld tb a env S = (a env S).bind fun x S1 => ofO ((getF tb x S1).map fun d => (d, S1)) := rfl
@[simp] theorem q_rng1 {r : DA} : iRng1 r env S = (r env S).bind fun xs S1 => match xs with
  | [.int j] => if -(2 ^ 62) ≤ j ∧ j < 2 ^ 62 then .ok (jR 0 j.toNat) S1 else .bad
  | _ => .bad := rfl
@[simp] theorem q_gcons {g : DG} {gs : DGs} : gCons g gs ds env S = match ds with
  | d :: r => (g d env S).bind fun e S1 => gs r e S1
  | [] => .bad := by
  unfold gCons
  cases ds <;> rfl
@[simp] theorem q_gnil : gNil ds env S = match ds with
  | [] => .ok env S
  | _ => .bad := by
  unfold gNil
  cases ds <;> rfl
end
theorem mulOk_of {i j : Int} {m n : Nat} (h1 : i.natAbs < 2 ^ m) (h2 : j.natAbs < 2 ^ n) (h : m + n < 1000000) : mulOk i j = true := by
  unfold mulOk
  have a1 : i.natAbs.log2 ≤ m := by
    by_cases z : i.natAbs = 0
    · rw [z]; simp
    · exact Nat.le_of_lt ((Nat.log2_lt z).mpr h1)
  have a2 : j.natAbs.log2 ≤ n := by
    by_cases z : j.natAbs = 0
    · rw [z]; simp
    · exact Nat.le_of_lt ((Nat.log2_lt z).mpr h2)
  exact decide_eq_true (by omega)
theorem divOk_of {i j : Int} (h0 : 0 < j) {n : Nat} (h : j.natAbs < 2 ^ n) (hn : n < 9000) : divOk i j = true := by
  unfold divOk
  have a2 : j.natAbs.log2 ≤ n := by
    by_cases z : j.natAbs = 0
    · rw [z]; simp
    · exact Nat.le_of_lt ((Nat.log2_lt z).mpr h)
  rw [decide_eq_true h0, decide_eq_true (show j.natAbs.log2 < 9000 by omega)]; rfl
end Z

/-! Z15: what plain laws share: the drawn lot, lists that grow, counted loops. -/
namespace Z
open PySem PySem.Spec
def Lot (S : Store) (i : Nat) (m : Nat) : Prop := ∃ a b c : Int, S[i]? = some (.lst [.int a, .int b, .int c]) ∧ 0 ≤ a ∧ 0 ≤ c ∧ c ≤ m
theorem ix0 {x : D} {l : List D} : L2.atI (x :: l) 0 = some x := by
  have := ix_lit (ds := x :: l) (n := 0) (by simp)
  simpa using this
theorem ix1 {x y : D} {l : List D} : L2.atI (x :: y :: l) 1 = some y := by
  have := ix_lit (ds := x :: y :: l) (n := 1) (by simp)
  simpa using this
theorem ix2 {x y z : D} {l : List D} : L2.atI (x :: y :: z :: l) 2 = some z := by
  have := ix_lit (ds := x :: y :: z :: l) (n := 2) (by simp)
  simpa using this
theorem iN {n i : Nat} (h : i < n) : L2.ixN n (i : Int) = some i := by
  unfold L2.ixN
  rw [if_pos (by omega), if_pos (by omega)]
  simp
theorem iN0 {n : Nat} : L2.ixN (n + 1) 0 = some 0 := iN (i := 0) (by omega)
theorem iN2 {n : Nat} : L2.ixN (n + 3) 2 = some 2 := iN (i := 2) (by omega)
theorem mkFn_wp {nl : Nat} {b : DS} {ds : List D} {S : Store} {Q : D → Store → Prop} : WP (mkFn nl b ds S) Q ↔ WP (b (ds.map some ++ List.replicate (nl - ds.length) none) S) fun f S1 => WP (match f with
  | .rt d => .ok d S1
  | .nx _ => .ok .non S1
  | _ => .bad) Q := by
  unfold mkFn
  exact WP_bind
theorem pow_lt_of {x : Int} {n : Nat} (h0 : 0 ≤ x) (h : x < 2 ^ n) : x.natAbs < 2 ^ n := by
  have : ((x.natAbs : Nat) : Int) < ((2 ^ n : Nat) : Int) := by
    rw [Int.natAbs_of_nonneg h0]
    push_cast
    exact h
  exact_mod_cast this
theorem Lot.mono {S : Store} {i m m' : Nat} (h : Lot S i m) (l : m ≤ m') : Lot S i m' := let ⟨a, b, c, e, h1, h2, h3⟩ := h; ⟨a, b, c, e, h1, h2, by omega⟩
theorem Lot.sub {S S' : Store} {i m : Nat} (h : Lot S i m) (s : Sub S S') : Lot S' i m := let ⟨a, b, c, e, h1⟩ := h; ⟨a, b, c, s _ _ e, h1⟩
theorem Lot.lt {S : Store} {i m : Nat} (h : Lot S i m) : i < S.length := let ⟨_, _, _, e, _⟩ := h; (List.getElem?_eq_some_iff.mp e).1
theorem Kp.at_ {i j : Nat} {S S' : Store} {o : O} (k : Kp i S S') (n : j ≠ i) (h : S[j]? = some o) : S'[j]? = some o := k j o n h
theorem seq_of {k : Nat} {n : Nat} (h : k < n) : PySem.seqIndex? (k : Int) n = some k := by
  have := seqIndex_of (k := (k : Int)) (n := n) (by omega) (by omega)
  simpa using this
theorem m_pop {S : Store} {r : Nat} {ds : List D} {k : Nat} (hS : S[r]? = some (.lst ds)) (h : k < ds.length) (hl : ds.length ≤ 2 ^ 60) : mPop (.ref r) [.int (k : Int)] S = some (ds[k], S.set r (.lst (ds.eraseIdx k))) := by
  simp only [mPop, onL, hS, seq_of h, Option.bind_some, List.getElem?_eq_getElem h, Option.map_some]
  rw [if_pos (by omega)]
theorem jR_at {n k : Nat} {S : Store} (h : k < n) : jR 0 n k S = some (some (.int (k : Int))) := by
  unfold jR
  rw [if_pos h]; simp
theorem jR_end {n : Nat} {S : Store} : jR 0 n n S = some none := by
  unfold jR
  rw [if_neg (by omega)]
theorem Kp.setN {i j : Nat} {S S0 : Store} {o : O} (k : Kp i S0 S) (h : S0.length ≤ j) : Kp i S0 (S.set j o) := fun a u n e => by
  rw [List.getElem?_set_ne (by have := (List.getElem?_eq_some_iff.mp e).1; omega)]
  exact k a u n e
theorem Kp.pushN {i : Nat} {S S0 : Store} {o : O} (k : Kp i S0 S) : Kp i S0 (S ++ [o]) := k.trans (Sub.push _ _).kp
theorem Lot.setN {S : Store} {i j m : Nat} {o : O} (h : Lot S i m) (n : j ≠ i) : Lot (S.set j o) i m := let ⟨a, b, c, e, h1⟩ := h; ⟨a, b, c, by rw [List.getElem?_set_ne n]; exact e, h1⟩
theorem set_ne {S : Store} {j r : Nat} {o u : O} (n : j ≠ r) (h : S[r]? = some u) : (S.set j o)[r]? = some u := by rw [List.getElem?_set_ne n]; exact h
theorem perm_erase {α : Type} : ∀ {l : List α} {j : Nat} (h : j < l.length), (l[j] :: l.eraseIdx j).Perm l
  | a :: l, 0, _ => by simp
  | a :: l, j + 1, h => by
    have h' : j < l.length := by simpa using h
    rw [List.getElem_cons_succ, List.eraseIdx_cons_succ]
    exact (List.Perm.swap _ _ _).trans ((perm_erase h').cons a)
/-! ### equality -/
theorem toPy_lay {S : Store} : ∀ {k : Nat} {d : D} {p : PyData}, toPy S k d = some p → p.canLay0 = true := by
  intro k
  induction k with
  | zero =>
    intro d p e
    cases d with
    | non => cases e; rfl
    | bl b => cases e; rfl
    | int i => cases e; rfl
    | str x =>
      simp only [toPy] at e
      split at e
      · cases e
        rename_i h
        simpa only [PyData.canLay0] using h
      · cases e
    | _ => simp only [toPy] at e; cases e
  | succ k ih =>
    have all : ∀ {ds : List D} {ps : List PyData}, seqO (ds.map (toPy S k)) = some ps → PyData.canLayAll0 ps = true := by
      intro ds
      induction ds with
      | nil => intro ps e; cases e; rfl
      | cons d ds ihd =>
        intro ps e
        obtain ⟨a, r, e1, e2, rfl⟩ := seqO_cons e
        rw [PyData.canLayAll0, ih e1, ihd e2]; rfl
    intro d p e
    cases d with
    | non => cases e; rfl
    | bl b => cases e; rfl
    | int i => cases e; rfl
    | str x =>
      simp only [toPy] at e
      split at e
      · cases e
        rename_i h
        simpa only [PyData.canLay0] using h
      · cases e
    | tup ds =>
      simp only [toPy, Option.map_eq_some_iff] at e
      obtain ⟨ps, e, rfl⟩ := e
      simpa only [PyData.canLay0] using all e
    | fls ds =>
      simp only [toPy, Option.map_eq_some_iff] at e
      obtain ⟨ps, e, rfl⟩ := e
      simpa only [PyData.canLay0] using all e
    | ref i =>
      simp only [toPy] at e
      split at e
      · simp only [Option.map_eq_some_iff] at e
        obtain ⟨ps, e, rfl⟩ := e
        simpa only [PyData.canLay0] using all e
      · cases e
    | _ => simp only [toPy] at e; cases e
theorem eqD_same {S : Store} {d e : D} {p : PyData} (h : toPy S 60 d = some p) (h' : toPy S 60 e = some p) : eqD S d e = some true := by
  unfold eqD
  rw [h, h']
  exact congrArg some (SeqAt.eqv_refl p (toPy_lay h))
theorem o_eqS {S : Store} {d e : D} {p : PyData} (h : toPy S 60 d = some p) (h' : toPy S 60 e = some p) : oEq d e S = some (.bl true, S) := by
  unfold oEq
  rw [eqD_same h h']; rfl
theorem o_neS {S : Store} {d e : D} {p : PyData} (h : toPy S 60 d = some p) (h' : toPy S 60 e = some p) : oNe d e S = some (.bl false, S) := by
  unfold oNe
  rw [eqD_same h h']; rfl
theorem eqD_int {S : Store} {i j : Int} : eqD S (.int i) (.int j) = some (decide (i = j)) := by
  unfold eqD
  simp only [toPy]
  by_cases h : i = j
  · subst h
    rw [decide_eq_true rfl]
    exact congrArg some (SeqAt.eqv_refl (.int i) rfl)
  · rw [decide_eq_false h]
    simp [PyData.eqv, h]
theorem o_eqI {S : Store} {i j : Int} : oEq (.int i) (.int j) S = some (.bl (decide (i = j)), S) := by
  unfold oEq
  rw [eqD_int]; rfl
theorem o_neI {S : Store} {i j : Int} : oNe (.int i) (.int j) S = some (.bl (!decide (i = j)), S) := by
  unfold oNe
  rw [eqD_int]; rfl
theorem py_ints {S : Store} {k : Nat} : ∀ l : List Int, seqO ((l.map D.int).map (toPy S k)) = some (l.map PyData.int)
  | [] => rfl
  | i :: l => by
    have e : toPy S k (.int i) = some (.int i) := by cases k <;> rfl
    simp only [List.map_cons, e, seqO, py_ints l, Option.map_some]
theorem py_tup {S : Store} {k : Nat} (l : List Int) : toPy S (k + 1) (.tup (l.map D.int)) = some (.tuple (l.map PyData.int)) := by
  simp only [toPy, py_ints, Option.map_some]
theorem py_lst {S : Store} {k r : Nat} {l : List Int} (h : S[r]? = some (.lst (l.map D.int))) : toPy S (k + 1) (.ref r) = some (.list (l.map PyData.int)) := by
  simp only [toPy, h, py_ints, Option.map_some]
theorem py_tups {S : Store} {k : Nat} : ∀ ls : List (List Int), seqO ((ls.map fun l => D.tup (l.map D.int)).map (toPy S (k + 1))) = some (ls.map fun l => PyData.tuple (l.map PyData.int))
  | [] => rfl
  | l :: ls => by
    rw [List.map_cons, List.map_cons, py_tup]
    simp only [seqO, py_tups ls, Option.map_some, List.map_cons]
theorem py_tup2 {S : Store} {k : Nat} (ls : List (List Int)) : toPy S (k + 2) (.tup (ls.map fun l => D.tup (l.map D.int))) = some (.tuple (ls.map fun l => PyData.tuple (l.map PyData.int))) := by
  rw [toPy, py_tups]; rfl
/-! ### two of a shuffled row -/
theorem rgD_n (n : Nat) : rgD 0 (n : Int) = (List.range n).map fun i => D.int ((i : Nat) : Int) := by
  unfold rgD
  simp
theorem two_of {n : Nat} {es : List D} (h : es.Perm (rgD 0 (n : Int))) (hn : 2 ≤ n) : ∃ (a b : Nat) (rest : List D), es = .int (a : Int) :: .int (b : Int) :: rest ∧ a < n ∧ b < n ∧ a ≠ b := by
  rw [rgD_n] at h
  have hl : es.length = n := by rw [h.length_eq]; simp
  have nd : es.Nodup := h.symm.nodup (by
    rw [List.Nodup, List.pairwise_map]
    refine List.Pairwise.imp ?_ (List.nodup_range (n := n))
    intro a b hab e
    injection e with e
    exact hab (by omega))
  match es, hl with
  | x :: y :: rest, _ =>
    have hx := h.mem_iff.mp (List.mem_cons_self (a := x) (l := y :: rest))
    have hy := h.mem_iff.mp (List.mem_cons_of_mem x (List.mem_cons_self (a := y) (l := rest)))
    obtain ⟨a, ha, rfl⟩ := List.mem_map.mp hx
    obtain ⟨b, hb, rfl⟩ := List.mem_map.mp hy
    refine ⟨a, b, rest, rfl, List.mem_range.mp ha, List.mem_range.mp hb, fun e => ?_⟩
    subst e
    exact (List.nodup_cons.mp nd).1 List.mem_cons_self
  | [_], hl => simp at hl; omega
  | [], hl => simp at hl; omega
theorem cut2 {α : Type} {x y : α} {l : List α} : cutD (x :: y :: l) none (some 2) = [x, y] := by
  unfold cutD
  have e1 : HT.sIx (x :: y :: l).length 0 none = 0 := rfl
  have e2 : HT.sIx (x :: y :: l).length (x :: y :: l).length (some 2) = 2 := by
    show (if (2 : Int) < 0 then ((2 : Int) + ((x :: y :: l).length : Int)).toNat else min (2 : Int).toNat (x :: y :: l).length) = 2
    rw [if_neg (by decide)]
    simp only [List.length_cons]
    have : (2 : Int).toNat = 2 := rfl
    omega
  rw [e1, e2]; rfl
theorem wipe_nil {env : En} : wipeE env [] = env := rfl
theorem wipe_cons {env : En} {v : Nat} {vs : List Nat} : wipeE env (v :: vs) = (wipeE env vs).set v none := rfl
theorem q_yes {env : En} {S : Store} : tYes1 env S = .ok true S := rfl
theorem q_rng2 {env : En} {S : Store} {r : DA} : iRng2 r env S = (r env S).bind fun xs S1 => match xs with
  | [.int i, .int j] => if -(2 ^ 62) ≤ i ∧ i < 2 ^ 62 ∧ -(2 ^ 62) ≤ j ∧ j < 2 ^ 62 then .ok (jR i (j - i).toNat) S1 else .bad
  | _ => .bad := rfl
theorem jL_at {S : Store} {r k : Nat} {ds : List D} (h : S[r]? = some (.lst ds)) : jL r k S = some ds[k]? := by simp only [jL, h]
theorem jR_atL {lo : Int} {n k : Nat} {S : Store} (h : k < n) : jR lo n k S = some (some (.int (lo + (k : Int)))) := by
  unfold jR
  rw [if_pos h]
theorem jR_endL {lo : Int} {n : Nat} {S : Store} : jR lo n n S = some none := by
  unfold jR
  rw [if_neg (by omega)]
end Z

/-! Z16: an instance's own `!=` by its `__eq__`. -/
namespace PySem.W
open PySem PySem.Spec PySem.Calls PyProof.Rows
section
variable {prog : Program} {w : World} {A A₀ : Around} {E : Value → Shared → Prop} {s : Shared} {K : Frag} {x C L f : Addr} {h₀ : Heap} {m : Str → Option Value} {ox : Obj} {od : Option Obj} {name : Str} {b tb : Value}
theorem zne_bound {M : Model} {id : String} {args : List Value} {Q : Option Value → Shared → Prop} (X : K.In s.heap) (I : InstAt s.heap x ox C od) (hs : findIn K (.ref C) name = some (some (.builtin id)))
    (hb : ∀ self, bindSpecial (.builtin id) self = pure (.builtin id, [self])) (h : wpAny M A (call (.builtin id) (.ref x :: args)) (fun v => Q (some v)) E s) : wpAny M A (callSpecialIfBound? (.ref x) name args) Q E s := by
  simp only [callSpecialIfBound?, bindSpecialIfBound?]
  refine wpAny_holding (wpAny_bind (wpAny_bind (wpAny_bind (I.type.here ((looks_findIn X hs).here ?_)))))
  simp only [hb]
  refine wpAny_bind (wpAny_askSetting (wpAny_ite ?_))
  have fin : wpAny M A (call (.builtin id) ([.ref x] ++ args) >>= fun v => pure (some v)) Q E s := wpAny_bind (wpAny_mono h (fun v s' h' => wpAny_pure h') fun _ _ h' => h')
  split
  · exact wpAny_bind (wpAny_pure (wpAny_pure fin))
  · exact wpAny_tryCatch (wpAny_bind (wpAny_pure (wpAny_pure fin)))
open Builtin in
theorem zne_obj {Q : Value → Shared → Prop} (hu : A.in1.units < cLine) (X : K.In s.heap) (I : InstAt s.heap x ox C od) (hm : mroIn K C (.type "object") = some true) (hr : findIn K (.ref C) "__eq__" = some (some (.ref f))) (hf : isFn K (.ref f) = true)
    (h : wpAny (model prog w) A.in1 (call (.ref f) [.ref x, b]) (fun v s' => ∃ t, v = .bool t ∧ Q (.bool (!t)) s') E s) : wpAny (model prog w) A (call (.builtin "object.__ne__") [.ref x, b]) Q E s := by
  refine wpAny_call (codeAny_call_builtin (by decide +kernel) F.cmpEntry_ne (check_slot (i := "object.__ne__") (owner := "object") (n := "__ne__") F.cmpKind_ne F.cmpSplit_ne (I.type.andThen (looks_mroIn X hm)) (F.cmpArgs_ne _ _) ?_))
  unfold Builtin.«object.__ne__»
  refine wpAny_bind (m := slotArgs "__ne__" 1 _) (wpAny_pure ?_)
  refine wpAny_bind (m := cRoomFor _ _) (wpAny_cRoomFor hu ?_)
  refine wpAny_bind (m := callSpecialIfBound? (.ref x) (Str.ofString "__eq__") _) (ifBound_K X I hr hf (wpAny_mono h (fun r s' hq => ?_) fun _ _ y => y))
  obtain ⟨t, rfl, hq⟩ := hq
  exact wpAny_bind (m := truthy (.bool t)) (wpAny_truthy_bool (wpAny_pure hq))
theorem zne_cmp {Q : Value → Shared → Prop} (hu : A.units < cLine) (hu1 : A.in1.units < cLine) (X : K.In s.heap) (I : InstAt s.heap x ox C od) (hb : Looks (model prog w) s.heap (typeOf b) tb) (hn : notFirst K C tb = true)
    (hne : findIn K (.ref C) "__ne__" = some (some (.builtin "object.__ne__"))) (hm : mroIn K C (.type "object") = some true) (hs : findIn K (.ref C) "__eq__" = some (some (.ref f))) (hf : isFn K (.ref f) = true)
    (h : wpAny (model prog w) A.in1 (call (.ref f) [.ref x, b]) (fun v s' => ∃ t, v = .bool t ∧ Q (.bool (!t)) s') E s) : wpAny (model prog w) A (richCompare .NotEq (.ref x) b) Q E s := by
  have one : wpAny (model prog w) A (tryCompare (.ref x) (cmpInfo .NotEq).2.1 b) (fun r s' => ∃ v, r = some v ∧ Q v s') E s := by
    unfold tryCompare
    refine wpAny_bind (zne_bound (id := "object.__ne__") X I hne (fun self => by first | rfl | kernel_rfl) (zne_obj hu1 X I hm hs hf (wpAny_mono h (fun v s' hv => ?_) fun _ _ e => e)))
    obtain ⟨t, rfl, hq⟩ := hv
    exact ⟨t, rfl, wpAny_pure ⟨_, rfl, hq⟩⟩
  unfold richCompare
  simp only [oneThing_ref]
  refine wpAny_holding (wpAny_bind (wpAny_cRoomFor hu ?_))
  refine wpAny_bind (I.type.here (wpAny_bind (hb.here ?_)))
  split
  · rename_i q
    have e : subIn K tb (.ref C) = some false := by
      rcases Bool.or_eq_true_iff.mp hn with e | e
      · rw [beq_iff_eq.mp e] at q; simp at q
      · exact beq_iff_eq.mp e
    refine wpAny_bind ((looks_subIn X e).here ?_)
    simp only [Bool.false_eq_true, if_false]
    refine wpAny_bind (wpAny_mono one (fun r s' z => ?_) fun _ _ e => e)
    obtain ⟨v, rfl, hq⟩ := z
    exact wpAny_pure hq
  · refine wpAny_bind (wpAny_pure ?_)
    simp only [Bool.false_eq_true, if_false]
    refine wpAny_bind (wpAny_mono one (fun r s' z => ?_) fun _ _ e => e)
    obtain ⟨v, rfl, hq⟩ := z
    exact wpAny_pure hq
end
end PySem.W

/-! Z17: a class's own ==, != and str; isinstance of a class with slots. -/
namespace Z
open PySem PySem.Spec PyProof.Rows L2 He

/-! ### == and != by the class's own def -/
structure EqIs (G : Glo) (k c : Nat) (F : Fn) : Prop where
  isi : SlX.SIsi G.K (G.ad c)
  ex : ∃ g, PySem.W.findIn G.K (.ref (G.ad c)) "__eq__" = some (some (.ref g)) ∧ PySem.W.isFn G.K (.ref g) = true ∧ FnA G k g 2 F
  ne : PySem.W.findIn G.K (.ref (G.ad c)) "__ne__" = some (some (.builtin "object.__ne__"))
  nf : ∀ t : Ty, PySem.W.notFirst G.K (G.ad c) (.type t.name) = true
def okEq (c : Nat) (d e : D) (S : Store) : Bool := isC c d S && (isC c e S || (tyD S e).isSome)
def oOwnF (c : Nat) (F : Fn) (f : Bool → Bool) : Op2 := fun d e S => if okEq c d e S = true then (match F [d, e] S with
    | .ok (.bl b) S' => some (.bl (f b), S')
    | _ => none) else none
abbrev oOwn (c : Nat) (F : Fn) : Op2 := oOwnF c F id
abbrev oOwnN (c : Nat) (F : Fn) : Op2 := oOwnF c F not
theorem cx_no {X : Cx} : Passes (L2.CX X.prog X.w) X (fun _ _ _ => False) := fun pins σ H s e s' I z => by
  obtain ⟨_, _, _, _, _, _, _, _, _, _, _, _, q⟩ := z
  exact q.elim
section
variable {C : Cp} {k c : Nat} {F : Fn}
theorem own_facts {G : Glo} {X : Cx} {φ : List Addr} {S : Store} {H : Hp} {pins : List (Addr × Obj)} {σ : St} {s : Shared} {d e : D} {x y : V} {v u : Value} (hK : X.K = G.K) (h : EqIs G k c F) (I : Inv X pins σ H s) (R : Rel G φ S H) (r1 : VRel G φ H d x) (r2 : VRel G φ H e y) (rx : RelV x v) (ry : RelV y u) (hok : okEq c d e S = true) :
    ∃ (a : Addr) (ox : Obj) (od : Obj) (tb : Value), x = .ref a ∧ v = .ref a ∧ PySem.W.InstAt s.heap a ox (G.ad c) (some od) ∧ PySem.W.Looks (model X.prog X.w) s.heap (typeOf u) tb ∧ PySem.W.notFirst X.K (G.ad c) tb = true := by
  obtain ⟨h1, h2⟩ := ba hok
  obtain ⟨i, vs, rfl, e1⟩ := isC_ok h1
  obtain ⟨ad, had, dx, ws, hs, hk', hr⟩ := R.get e1
  simp only [VRel] at r1
  obtain ⟨ad', rfl, had'⟩ := r1
  rw [had] at had'; cases had'
  cases (show v = Value.ref ad from rx)
  obtain ⟨sl, od, _, J, _⟩ := SlX.slt_inst I hs
  rcases Bool.or_eq_true_iff.mp h2 with h2 | h2
  · obtain ⟨j, us, rfl, e2⟩ := isC_ok h2
    obtain ⟨bd, hbd, dy, zs, ht, _, _⟩ := R.get e2
    simp only [VRel] at r2
    obtain ⟨bd', rfl, hbd'⟩ := r2
    rw [hbd] at hbd'; cases hbd'
    cases (show u = Value.ref bd from ry)
    obtain ⟨sl', od', _, J', _⟩ := SlX.slt_inst I ht
    exact ⟨ad, _, od, _, rfl, rfl, J, J'.type, by unfold PySem.W.notFirst; simp⟩
  · obtain ⟨t, ht⟩ := Option.isSome_iff_exists.mp h2
    obtain ⟨P, Zk, p, _⟩ := kit_of I ry (by rw [hK]; exact tyD_ok R r2 ht)
    exact ⟨ad, _, od, _, rfl, rfl, J, Zk.ty _ _ I.kIn p, by rw [hK]; exact h.nf t⟩
theorem opx_own (h : EqIs C.G k c F) (hk : Nat.ble k C.k = true) : OpRx C (compareOp .Eq) (oOwn c F) := fun X W hx pins s σ H x y v u Q I rx ry ⟨φ, S, d, e, R, r1, r2, P⟩ => by
  unfold oOwn oOwnF at P
  split at P
  · rename_i hok
    split at P
    · rename_i b S' eF
      obtain ⟨a, ox, od, tb, rfl, rfl, J, hb, hn⟩ := own_facts hx.K h I R r1 r2 rx ry hok
      obtain ⟨g, hs, hf, hF⟩ := h.ex
      obtain ⟨m, hFr⟩ := I.fr
      show wpAny _ _ (richCompare .Eq _ _) _ _ _
      refine PySem.W.cmp_K (op := .Eq) (hx.room.mono (Nat.le_of_ble_eq_true hk)).units0 hFr I.ok.mod.kin J hb hn (by rw [hx.K]; exact hs) (by rw [hx.K]; exact hf) ?_
      refine wpAny_mono (wpAny_call (run_fnA (us := [.ref a, u]) (vs := [.ref a, y]) (Q := Q) hx hF (hx.room.mono (Nat.le_of_ble_eq_true hk)) I (.cons rfl (.cons ry .nil)) ⟨φ, S, [d, e], R, VRels.cons r1 (VRels.cons r2 VRels.nil), rfl, by rw [eF]; exact P⟩)) (fun w s' z => ?_) fun _ _ x => x
      obtain ⟨z', H', I', rz, qz⟩ := z
      exact SlX.cmpback rz ⟨z', H', I', rz, qz⟩
    · exact P.elim
  · exact P.elim
theorem opx_ownN (h : EqIs C.G k c F) (hk : Nat.ble (k + 1) C.k = true) : OpRx C (compareOp .NotEq) (oOwnN c F) := fun X W hx pins s σ H x y v u Q I rx ry ⟨φ, S, d, e, R, r1, r2, P⟩ => by
  unfold oOwnN oOwnF at P
  split at P
  · rename_i hok
    split at P
    · rename_i b S' eF
      obtain ⟨a, ox, od, tb, rfl, rfl, J, hb, hn⟩ := own_facts hx.K h I R r1 r2 rx ry hok
      obtain ⟨g, hs, hf, hF⟩ := h.ex
      have hr : Room (k + 1) X.A := hx.room.mono (Nat.le_of_ble_eq_true hk)
      have F' : FnR X.prog X.w X.K X.mg X.base (L2.CX X.prog X.w) k g (spD C.G 2 F) := by rw [hx.prog, hx.w, hx.K, hx.mg, hx.base]; exact hF
      show wpAny _ _ (richCompare .NotEq _ _) _ _ _
      refine PySem.W.zne_cmp hr.units0 hr.in1.units0 I.kIn J hb hn (by rw [hx.K]; exact h.ne) (by rw [hx.K]; exact h.isi.cm) (by rw [hx.K]; exact hs) (by rw [hx.K]; exact hf) ?_
      refine wpAny_mono (wpAny_call (SlX.run_at (us := [.ref a, u]) (ws := [.ref a, y]) (Q := fun z H' => z = .bl b ∧ Q (.bl (!b)) H') (E := fun _ _ _ => False) F' hr.in1 I.env0.in1 cx_no I (.cons rfl (.cons ry .nil)) ⟨φ, S, [d, e], R, VRels.cons r1 (VRels.cons r2 VRels.nil), rfl, by
        rw [eF]
        intro φ' H' n' R' v' rv
        refine ⟨by simpa only [VRel] using rv, P φ' H' n' R' _ (by simp only [VRel])⟩⟩)) (fun w s' z => ?_) fun _ _ x => x
      obtain ⟨z', H', I', rz, rfl, qz⟩ := z
      cases (show w = Value.bool b from rz)
      exact ⟨b, rfl, .bl (!b), H', I', rfl, qz⟩
    · exact P.elim
  · exact P.elim
end

/-! ### isinstance -/
def slC (d : D) (S : Store) : Option Nat := match d with
  | .ref i => (match S[i]? with
    | some (.slt c _) => some c
    | _ => none)
  | _ => none
theorem slC_some {d : D} {S : Store} {c : Nat} (h : slC d S = some c) : ∃ i vs, d = .ref i ∧ S[i]? = some (.slt c vs) := by
  unfold slC at h
  split at h
  · rename_i i
    split at h
    · rename_i c' vs e
      cases h
      exact ⟨i, vs, rfl, e⟩
    · cases h
  · cases h
structure IsiIs (G : Glo) (c : Nat) (cs : List Nat) : Prop where
  ty : ∀ t : Ty, PySem.W.kitOne G.K (.type t.name) (.ref (G.ad c)) = some false
  own : ∀ c' ∈ cs, SlX.SCls G.K (G.ad c') ∧ SlX.SIsi G.K (G.ad c') ∧ PySem.W.kitOne G.K (.ref (G.ad c')) (.ref (G.ad c)) = some (c' == c)
def bIsiC (c : Nat) (cs : List Nat) : Bf := fun ds S => match ds with
  | [d, .st c1] => if c1 = c then (match slC d S with
    | some c' => if cs.contains c' = true then some (.bl (c' == c), S) else none
    | none => (tyD S d).map fun _ => (.bl false, S)) else none
  | _ => none
theorem cx_isiC {C : Cp} {c : Nat} {cs : List Nat} (h : IsiIs C.G c cs) : CallRx C (.builtin "isinstance") (bIsiC c cs) := fun X W hx pins s σ H vs us Q I rx ⟨φ, S, ds, R, r, P⟩ => by
  unfold bIsiC at P
  split at P
  · rename_i d c1
    obtain ⟨v, w, rfl, r1, r2⟩ := rels2 r
    split at P
    · rename_i hc
      subst hc
      simp only [VRel] at r2
      subst r2
      split at P
      · rename_i c' q
        split at P
        · rename_i hm
          obtain ⟨i, ws0, rfl, e1⟩ := slC_some q
          obtain ⟨ad, had, dx, ws, hs, _, _⟩ := R.get e1
          simp only [VRel] at r1
          obtain ⟨ad', rfl, had'⟩ := r1
          rw [had] at had'; cases had'
          obtain ⟨hc, hi, hk⟩ := h.own c' (by simpa using hm)
          refine SlX.call_isiSl (X := X) (.ref (C.G.ad c1)) pins s σ H _ us Q I rx ⟨ad, C.G.ad c', dx, ws, .ref (C.G.ad c1), (c' == c1), rfl, rfl, fun w hw => hw, hs, by rw [hx.K]; exact hc, by rw [hx.K]; exact hi, by rw [hx.K]; exact hk, P.now R (by simp only [VRel])⟩
        · exact P.elim
      · cases q2 : tyD S d with
        | none => rw [q2] at P; exact P.elim
        | some t =>
          rw [q2] at P
          refine call_isi pins s σ H _ us Q I rx ⟨v, .ref (C.G.ad c1), _, _, false, rfl, .own _, by rw [hx.K]; exact tyD_ok R r1 q2, by rw [hx.K]; exact h.ty t, P.now R (by simp only [VRel])⟩
    · exact P.elim
  · exact P.elim
/-- an instance is of no built-in type -/
structure IsiNo (G : Glo) (cs : List Nat) : Prop where
  own : ∀ c' ∈ cs, SlX.SCls G.K (G.ad c') ∧ SlX.SIsi G.K (G.ad c') ∧ ∀ t : Ty, t ≠ .non → PySem.W.kitOne G.K (.ref (G.ad c')) (.type t.name) = some false
def bIsiN (cs : List Nat) : Bf := fun ds S => match ds with
  | [d, .ty n] => (match slC d S with
    | some c' => if cs.contains c' = true ∧ ([Ty.bl, .int, .str, .tup, .lst, .dic].find? fun u => u.name = n).isSome = true then some (.bl false, S) else none
    | none => none)
  | _ => none
theorem cx_isiN {C : Cp} {cs : List Nat} (h : IsiNo C.G cs) : CallRx C (.builtin "isinstance") (bIsiN cs) := fun X W hx pins s σ H vs us Q I rx ⟨φ, S, ds, R, r, P⟩ => by
  unfold bIsiN at P
  split at P
  · rename_i d n
    obtain ⟨v, w, rfl, r1, r2⟩ := rels2 r
    simp only [VRel] at r2
    subst r2
    split at P
    · rename_i c' q
      split at P
      · rename_i hm
        obtain ⟨i, ws0, rfl, e1⟩ := slC_some q
        obtain ⟨ad, had, dx, ws, hs, _, _⟩ := R.get e1
        simp only [VRel] at r1
        obtain ⟨ad', rfl, had'⟩ := r1
        rw [had] at had'; cases had'
        obtain ⟨hc, hi, hk⟩ := h.own c' (by simpa using hm.1)
        obtain ⟨t, q2⟩ := Option.isSome_iff_exists.mp hm.2
        have hn : t.name = n := by simpa using List.find?_some q2
        have hne : t ≠ .non := by
          have := List.mem_of_find?_eq_some q2
          intro z; subst z; simp at this
        refine SlX.call_isiSl (X := X) (.type n) pins s σ H _ us Q I rx ⟨ad, C.G.ad c', dx, ws, .ty n, false, rfl, rfl, fun w hw => hw, hs, by rw [hx.K]; exact hc, by rw [hx.K]; exact hi, by rw [hx.K, ← hn]; exact hk t hne, P.now R (by simp only [VRel])⟩
      · exact P.elim
    · exact P.elim
  · exact P.elim

/-! ### str -/
structure StrIs (G : Glo) (k c : Nat) (F : Fn) : Prop where
  ex : ∃ g, PySem.W.findIn G.K (.ref (G.ad c)) "__str__" = some (some (.ref g)) ∧ PySem.W.isFn G.K (.ref g) = true ∧ FnA G k g 1 F
def bStrC (c : Nat) (F : Fn) : Bf := fun ds S => match ds with
  | [d] => if isC c d S = true then (match F [d] S with
    | .ok (.str x) S' => some (.str x, S')
    | _ => none) else none
  | _ => none
theorem cx_strC {C : Cp} {k c : Nat} {F : Fn} (h : StrIs C.G k c F) (hk : Nat.ble (k + 2) C.k = true) : CallRx C (.type "str") (bStrC c F) := fun X W hx pins s σ H vs us Q I rx ⟨φ, S, ds, R, r, P⟩ => by
  unfold bStrC at P
  split at P
  · rename_i d
    obtain ⟨v, rfl, r1⟩ := rels1 r
    split at P
    · rename_i hc
      split at P
      · rename_i x S' eF
        obtain ⟨u, rfl, ru⟩ := rx.one
        obtain ⟨i, ws0, rfl, e1⟩ := isC_ok hc
        obtain ⟨ad, had, dx, ws, hs, _, _⟩ := R.get e1
        have r1' := r1
        simp only [VRel] at r1
        obtain ⟨ad', rfl, had'⟩ := r1
        rw [had] at had'; cases had'
        cases (show u = Value.ref ad from ru)
        obtain ⟨sl, od, _, J, _⟩ := SlX.slt_inst I hs
        obtain ⟨g, h1, h2, hF⟩ := h.ex
        have hr : Room (k + 2) X.A := hx.room.mono (Nat.le_of_ble_eq_true hk)
        have hr2 : Room k X.A.in1.in1 := (show Room (k + 1) X.A.in1 from Room.in1 hr).in1
        have F' : FnR X.prog X.w X.K X.mg X.base (L2.CX X.prog X.w) k g (spD C.G 1 F) := by rw [hx.prog, hx.w, hx.K, hx.mg, hx.base]; exact hF
        refine PySem.W.kso_call hr2.units0 I.kIn J (by rw [hx.K]; exact h1) (by rw [hx.K]; exact h2) (wpAny_mono (wpAny_call (SlX.run_at (us := [.ref ad]) (ws := [.ref ad]) (Q := fun z H' => z = .str x ∧ Q (.str x) H') (E := fun _ _ _ => False) F' hr2 I.env0.in1.in1 cx_no I (.cons rfl .nil) ⟨φ, S, _, R, VRels.cons r1' VRels.nil, rfl, by
          rw [eF]
          intro φ' H' n' R' v' rv
          refine ⟨by simpa only [VRel] using rv, P φ' H' n' R' _ (by simp only [VRel])⟩⟩)) (fun w s' z => ?_) fun _ _ x => x)
        obtain ⟨z', H', I', rz, rfl, qz⟩ := z
        obtain ⟨t, rfl⟩ := (show ∃ t, w = Value.str x t from rz)
        exact ⟨.str x, H', I', ⟨t, rfl⟩, qz⟩
      · exact P.elim
    · exact P.elim
  · exact P.elim

/-! ### the checks -/
def tyAll : List Ty := [.non, .bl, .int, .str, .tup, .lst, .dic]
theorem tyAll_all (t : Ty) : t ∈ tyAll := by cases t <;> decide
def ckNe (x : Str) : Ck := fun K => eqO (PySem.W.findIn K (.ref (ga K x)) "__ne__") (some (some (.builtin "object.__ne__"))) && tyAll.all fun t => PySem.W.notFirst K (ga K x) (.type t.name)
def ckIT (x : Str) : Ck := fun K => tyAll.all fun t => decide (PySem.W.kitOne K (.type t.name) (.ref (ga K x)) = some false)
def ckIC (x y : Str) (b : Bool) : Ck := fun K => decide (PySem.W.kitOne K (.ref (ga K y)) (.ref (ga K x)) = some b)
def ckIN (x : Str) : Ck := fun K => tyAll.all fun t => decide (t = .non) || decide (PySem.W.kitOne K (.ref (ga K x)) (.type t.name) = some false)
section
variable {cs : List Ck} {fn : List Df} {cl : List Str} {G : Glo} {c k : Nat} {F : Fn} {x : Str}
theorem Hyp.eqIs (h : Hyp cs fn cl G) (i j l : Nat) (hc0 : cl[c]? = some x) (e : cs[i]? = some (ckIsi x)) (e2 : cs[j]? = some (ckFa (.meth x "__eq__"))) (e3 : cs[l]? = some (ckNe x)) (hF : FnA G k (ma G.K (ga G.K x) "__eq__") 2 F) : EqIs G k c F := by
  have hm := meth_ok (h.ck j e2)
  obtain ⟨h1, h2⟩ := ba (h.ck l e3)
  have hi := ckIsi_ok (h.ck i e)
  rw [← h.cls c x hc0] at hm h1 h2 hi
  exact ⟨hi, ⟨_, hm.at_, hm.fn, by rw [h.cls c x hc0]; exact hF⟩, eqO_ok h1, fun t => List.all_eq_true.mp h2 t (tyAll_all t)⟩
theorem Hyp.strIs (h : Hyp cs fn cl G) (j : Nat) (hc0 : cl[c]? = some x) (e2 : cs[j]? = some (ckFa (.meth x "__str__"))) (hF : FnA G k (ma G.K (ga G.K x) "__str__") 1 F) : StrIs G k c F := by
  have hm := meth_ok (h.ck j e2)
  rw [← h.cls c x hc0] at hm
  exact ⟨_, hm.at_, hm.fn, by rw [h.cls c x hc0]; exact hF⟩
theorem Hyp.isiOne (h : Hyp cs fn cl G) (i j l : Nat) {y : Str} {c' : Nat} {b : Bool} (hc0 : cl[c]? = some x) (hc1 : cl[c']? = some y) (e : cs[i]? = some (ckSlt y)) (e2 : cs[j]? = some (ckIsi y)) (e3 : cs[l]? = some (ckIC x y b)) (hb : (c' == c) = b) : SlX.SCls G.K (G.ad c') ∧ SlX.SIsi G.K (G.ad c') ∧ PySem.W.kitOne G.K (.ref (G.ad c')) (.ref (G.ad c)) = some (c' == c) := by
  rw [hb, h.cls c x hc0, h.cls c' y hc1]
  exact ⟨ckSlt_ok (h.ck i e), ckIsi_ok (h.ck j e2), of_decide_eq_true (h.ck l e3)⟩
theorem Hyp.isi1 (h : Hyp cs fn cl G) (i : Nat) (hc0 : cl[c]? = some x) (e : cs[i]? = some (ckIT x)) {c' : Nat} (h1 : SlX.SCls G.K (G.ad c') ∧ SlX.SIsi G.K (G.ad c') ∧ PySem.W.kitOne G.K (.ref (G.ad c')) (.ref (G.ad c)) = some (c' == c)) : IsiIs G c [c'] :=
  ⟨fun t => by rw [h.cls c x hc0]; exact of_decide_eq_true (List.all_eq_true.mp (h.ck i e) t (tyAll_all t)), fun d hd => by rw [List.mem_singleton.mp hd]; exact h1⟩
theorem IsiIs.add {cs' : List Nat} (h : IsiIs G c cs') {c' : Nat} (h1 : SlX.SCls G.K (G.ad c') ∧ SlX.SIsi G.K (G.ad c') ∧ PySem.W.kitOne G.K (.ref (G.ad c')) (.ref (G.ad c)) = some (c' == c)) : IsiIs G c (c' :: cs') :=
  ⟨h.ty, fun d hd => by
    rcases List.mem_cons.mp hd with hd | hd
    · rw [hd]; exact h1
    · exact h.own d hd⟩
theorem Hyp.isiNo1 (h : Hyp cs fn cl G) (i j l : Nat) (hc0 : cl[c]? = some x) (e : cs[i]? = some (ckSlt x)) (e2 : cs[j]? = some (ckIsi x)) (e3 : cs[l]? = some (ckIN x)) : IsiNo G [c] := ⟨fun d hd => by
  rw [List.mem_singleton.mp hd, h.cls c x hc0]
  refine ⟨ckSlt_ok (h.ck i e), ckIsi_ok (h.ck j e2), fun t ht => ?_⟩
  have := List.all_eq_true.mp (h.ck l e3) t (tyAll_all t)
  rcases Bool.or_eq_true_iff.mp this with q | q
  · exact absurd (of_decide_eq_true q) ht
  · exact of_decide_eq_true q⟩
theorem IsiNo.add {a b : List Nat} (h : IsiNo G a) (h' : IsiNo G b) : IsiNo G (a ++ b) := ⟨fun d hd => (List.mem_append.mp hd).elim (h.own d) (h'.own d)⟩
end
end Z

/-! Z18: a tuple times 1, times 0. -/
namespace L2
open PySem PySem.Spec PyProof.Rows
theorem tuple_mul1 (l : Addr) (items : Array Value) (n : Nat) (dd : Option Addr) (sl : Array (Option Value)) (x : Int) (u : Tok) (c0 : (decide (x < -(2 ^ 63)) || decide (x ≥ 2 ^ 63)) = false) (c1 : (items.isEmpty || x == 1) = true) :
    Meets (Builtin.«tuple.__mul__» ⟨[.ref l, .int x u], []⟩) (fun _ R s => s.heap.get? l = some { cls := .type "tuple", dict := dd, data := .seq items n, slots := sl } ∧
      ∀ tk, R (.ok (.ret (Value.ref l))) { s with toks := tk }) :=
  .of_wp fun prog w A R s h => by
    obtain ⟨hp, g, d, tk, os⟩ := s
    obtain ⟨hl, h⟩ := h
    have f1 := AutoSeq1.idx_int
    wp_walk using wpAny_loadPart' hl
    repeat (first
      | (refine wpAny_ite_false (decide_eq_false (by rw [c0]; exact Bool.false_ne_true)) ?_; wp_walk using wpAny_loadPart' hl)
      | (refine wpAny_ite_true (decide_eq_true c1) ?_; wp_walk using wpAny_loadPart' hl))
    all_goals first | exact ⟨_, rfl, h _⟩ | skip
theorem tuple_mul0 (l : Addr) (items : Array Value) (n : Nat) (dd : Option Addr) (sl : Array (Option Value)) (x : Int) (u : Tok) (c0 : (decide (x < -(2 ^ 63)) || decide (x ≥ 2 ^ 63)) = false) (c1 : (items.isEmpty || x == 1) = false) (c2 : (decide (x ≤ 0) || items.isEmpty) = true) :
    Meets (Builtin.«tuple.__mul__» ⟨[.ref l, .int x u], []⟩) (fun _ R s => s.heap.get? l = some { cls := .type "tuple", dict := dd, data := .seq items n, slots := sl } ∧
      R (.ok (.ret (Value.ref s.heap.objs.size))) { s with heap := s.heap.push { cls := Value.type "tuple", data := Data.seq #[] }, toks := s.toks }) :=
  .of_wp fun prog w A R s h => by
    obtain ⟨hp, g, d, tk, os⟩ := s
    obtain ⟨hl, h⟩ := h
    have f1 := AutoSeq1.idx_int
    wp_walk using wpAny_loadPart' hl
    repeat (first
      | (refine wpAny_ite_false (decide_eq_false (by rw [c0]; exact Bool.false_ne_true)) ?_; wp_walk using wpAny_loadPart' hl)
      | (refine wpAny_ite_false (decide_eq_false (by rw [c1]; exact Bool.false_ne_true)) ?_; wp_walk using wpAny_loadPart' hl)
      | (refine wpAny_ite_true (decide_eq_true c2) ?_; wp_walk using wpAny_loadPart' hl))
    all_goals first | exact ⟨_, rfl, h⟩ | skip
def rRepT1 (K : PySem.W.Frag) : R2 := fun x y H Q => ∃ l xs, x = .ref l ∧ y = .int 1 ∧ SqT K H l xs ∧ Q (.ref l) H
def rRepT0 (K : PySem.W.Frag) : R2 := fun x y H Q => ∃ l xs, x = .ref l ∧ y = .int 0 ∧ SqT K H l xs ∧ xs ≠ [] ∧ ∀ p, H p = none → Q (.ref p) (upd H p (.tup []))
section
variable {X : Cx}
theorem op_repT1 : OpR X (binaryOp .Mult) (rRepT1 X.K) := by
  intro pins s σ H x y v u Q I rx ry h
  obtain ⟨l, xs, rfl, rfl, hT, q⟩ := h
  cases rx
  obtain ⟨t, rfl⟩ := ry
  obtain ⟨its, r, ⟨⟨cls, dd, data, sl⟩, ho, hc, n, hd⟩, hs⟩ := I.tuple hT
  simp only at hc hd
  subst hc hd
  have c0 : (decide ((1 : Int) < -(2 ^ 63)) || decide ((1 : Int) ≥ 2 ^ 63)) = false := by decide
  have c1 : (its.toArray.isEmpty || (1 : Int) == 1) = true := by simp
  refine wpAny_binaryOp_repeat_ref (T := "tuple") (U := "int") (by decide) ⟨_, ho, rfl⟩ (fun s' => typeIs_int s' 1 t) noFill_tuple_mul F.fills_int_mul F.slot_int_rmul repeat_tuple F.slot_int_index.lookup
    (call_meets F.slot_int_rmul (typeIs_int s 1 t) F.entry_int_rmul (F.args_int_rmul_2 _ _) (int_rmul_tuple 1 t l its.toArray n dd sl)
      ⟨ho, rfl, ⟨_, ho, rfl⟩, call_meets F.slot_tuple_mul ⟨_, ho, rfl⟩ F.entry_tuple_mul (F.args_tuple_mul_2 _ _) (tuple_mul1 l its.toArray n dd sl 1 t c0 c1) ⟨ho, fun tk => ?_⟩⟩)
  exact ⟨.ref l, H, I.tok tk, rfl, q⟩
theorem op_repT0 : OpR X (binaryOp .Mult) (rRepT0 X.K) := by
  intro pins s σ H x y v u Q I rx ry h
  obtain ⟨l, xs, rfl, rfl, hT, hne, q⟩ := h
  cases rx
  obtain ⟨t, rfl⟩ := ry
  obtain ⟨its, r, ⟨⟨cls, dd, data, sl⟩, ho, hc, n, hd⟩, hs⟩ := I.tuple hT
  simp only at hc hd
  subst hc hd
  have hle : its.length = xs.length := r.length.symm
  have hi : its.toArray.isEmpty = false := by
    cases its with
    | nil => exact absurd (List.eq_nil_of_length_eq_zero hle.symm) hne
    | cons a b => rfl
  have c0 : (decide ((0 : Int) < -(2 ^ 63)) || decide ((0 : Int) ≥ 2 ^ 63)) = false := by decide
  have c1 : (its.toArray.isEmpty || (0 : Int) == 1) = false := by rw [hi]; decide
  have c2 : (decide ((0 : Int) ≤ 0) || its.toArray.isEmpty) = true := by simp
  refine wpAny_binaryOp_repeat_ref (T := "tuple") (U := "int") (by decide) ⟨_, ho, rfl⟩ (fun s' => typeIs_int s' 0 t) noFill_tuple_mul F.fills_int_mul F.slot_int_rmul repeat_tuple F.slot_int_index.lookup
    (call_meets F.slot_int_rmul (typeIs_int s 0 t) F.entry_int_rmul (F.args_int_rmul_2 _ _) (int_rmul_tuple 0 t l its.toArray n dd sl)
      ⟨ho, rfl, ⟨_, ho, rfl⟩, call_meets F.slot_tuple_mul ⟨_, ho, rfl⟩ F.entry_tuple_mul (F.args_tuple_mul_2 _ _) (tuple_mul0 l its.toArray n dd sl 0 t c0 c1 c2) ⟨ho, ?_⟩⟩)
  refine ⟨.ref s.heap.objs.size, _, I.laid (t' := s.toks) (o := .tup []) (fun b ob q => Heap.get?_push_of_some _ q) (Nat.le_refl _) ?_, rfl, q _ (I.hok.fresh (Nat.le_refl _))⟩
  exact ⟨Nat.zero_le _, _, .nil, IsTup.new _ _⟩
end
end L2
namespace Z
open PySem PySem.Spec PyProof.Rows L2
def oMulT1 : Op2 := fun d e S => match d, e with
  | .tup xs, .int k => if k = 1 then some (.tup xs, S) else none
  | _, _ => none
def oMulT0 : Op2 := fun d e S => match d, e with
  | .tup xs, .int k => if k = 0 ∧ xs ≠ [] then some (.tup [], S) else none
  | _, _ => none
theorem opx_mulT1 {C : Cp} : OpRx C (binaryOp .Mult) oMulT1 := OpRx.imp (fun X => rRepT1 X.K) (fun _ _ _ => op_repT1) fun X W hx φ S H d e x y Q R r1 r2 P => by
  unfold oMulT1 at P
  split at P
  · split at P
    · rename_i xs k hk
      have r1' := r1
      simp only [VRel] at r1 r2
      obtain ⟨a, vs, rfl, sq, rs⟩ := r1
      subst r2 hk
      exact ⟨a, vs, rfl, rfl, by rw [hx.K]; exact sq, P.now R r1'⟩
    · exact P.elim
  · exact P.elim
theorem opx_mulT0 {C : Cp} : OpRx C (binaryOp .Mult) oMulT0 := OpRx.imp (fun X => rRepT0 X.K) (fun _ _ _ => op_repT0) fun X W hx φ S H d e x y Q R r1 r2 P => by
  unfold oMulT0 at P
  split at P
  · split at P
    · rename_i xs k hk
      simp only [VRel] at r1 r2
      obtain ⟨a, vs, rfl, sq, rs⟩ := r1
      obtain ⟨hk, hne⟩ := hk
      subst r2 hk
      refine ⟨a, vs, rfl, rfl, by rw [hx.K]; exact sq, fun z => hne ?_, fun p hp => PstV.tup P R VRels.nil hp⟩
      subst z
      have := rs.length
      exact List.eq_nil_of_length_eq_zero this
    · exact P.elim
  · exact P.elim
def oMulB : Op2 := orO oMulA (orO oMulT1 oMulT0)
theorem opx_mulB {C : Cp} : OpRx C (binaryOp .Mult) oMulB := opx_mulA.or (opx_mulT1.or opx_mulT0)
end Z

/-! Z19: gcd of math, xs[::-1], range with a step of -1, a class's own len. -/
namespace HT
open PySem PySem.W PySem.Calls PySem.Spec PyProof.Rows
section
variable {prog : Program} {w : World} {A : Around} {E : Value → Shared → Prop} {s : Shared}
theorem adjust_rev (n : Nat) : Builtin.Slice.sliceAdjust none none (-1) (n : Int) = ((n : Int) - 1, -1) := by
  unfold Builtin.Slice.sliceAdjust
  simp
theorem places_rev (n : Nat) : Builtin.Slice.slicePlaces ((n : Int) - 1) (-1) (-1) = n := by
  unfold Builtin.Slice.slicePlaces
  have h1 : ¬ ((-1 : Int) > 0) := by omega
  simp only [h1, if_false]
  by_cases h : (n : Int) - 1 > -1
  · rw [if_pos h]
    have : ((n : Int) - 1 - -1 - 1) / (- -1) + 1 = n := by
      rw [Int.neg_neg, Int.ediv_one]; omega
    rw [this]; simp
  · rw [if_neg h]; omega
theorem sliceApplied_rev {sl : Addr} {vl vu vs : Value} {n : Nat} {Q : Int × Int × Nat → Shared → Prop} (hs : s.heap.IsSliceOf sl vl vu vs) (pl : IsPart vl none) (pu : IsPart vu none) (ps : IsPart vs (some (-1)))
    (h : Q ((n : Int) - 1, -1, n) s) : wpAny (model prog w) A (Builtin.Slice.sliceApplied (.ref sl) (pure (n : Int))) Q E s := by
  obtain ⟨os, hos, hcs, hds⟩ := id hs
  unfold Builtin.Slice.sliceApplied Builtin.Slice.sliceFields
  refine wpAny_bind (wpAny_bind (wpAny_field hos hds (x := vl) rfl (wpAny_bind (wpAny_field hos hds (x := vu) rfl (wpAny_bind (wpAny_field hos hds (x := vs) rfl (wpAny_pure ?_)))))))
  refine wpAny_bind (slicePart_ ps ?_)
  show wpAny _ _ (if ((-1 : Int) == 0) = true then _ else _) _ _ s
  rw [if_neg (by decide)]
  refine wpAny_bind (slicePart_ pl (wpAny_bind (slicePart_ pu (wpAny_bind (wpAny_pure ?_)))))
  show wpAny _ _ (match Builtin.Slice.sliceAdjust none none (-1) (n : Int) with | (lo, hi) => pure (lo, (-1 : Int), Builtin.Slice.slicePlaces lo hi (-1))) _ _ s
  rw [adjust_rev n]
  show wpAny _ _ (pure ((n : Int) - 1, (-1 : Int), Builtin.Slice.slicePlaces ((n : Int) - 1) (-1) (-1))) _ _ s
  rw [places_rev]
  exact wpAny_pure h
theorem fm_congr {α β : Type} {f g : α → Option β} : ∀ {l : List α}, (∀ m ∈ l, f m = g m) → l.filterMap f = l.filterMap g
  | [], _ => rfl
  | a :: l, h => by
    rw [List.filterMap_cons, List.filterMap_cons, h a List.mem_cons_self, fm_congr fun m hm => h m (List.mem_cons_of_mem _ hm)]
theorem pick_rev (xs : Array Value) : ((List.range xs.size).filterMap fun (m : Nat) => xs[(((xs.size : Int) - 1) + (m : Int) * (-1)).toNat]?).toArray = xs.toList.reverse.toArray := by
  congr 1
  have e : ∀ m ∈ List.range xs.size, xs[(((xs.size : Int) - 1) + (m : Int) * (-1)).toNat]? = xs.toList.reverse[m]? := fun m hm => by
    have hm' := List.mem_range.mp hm
    have e2 : (((xs.size : Int) - 1) + (m : Int) * (-1)).toNat = xs.size - 1 - m := by omega
    rw [e2, List.getElem?_reverse (by simpa using hm')]
    simp
  rw [fm_congr e]
  have gen : ∀ (l : List Value) (n : Nat), (List.range n).filterMap (fun m => l[m]?) = l.take n := fun l n => by
    induction n with
    | zero => rfl
    | succ n ih =>
      rw [List.range_succ, List.filterMap_append, ih, List.take_succ]
      congr 1
      try (cases l[n]? <;> rfl)
  have this : ∀ (l : List Value), (List.range l.length).filterMap (fun m => l[m]?) = l := fun l => by rw [gen, List.take_length]
  have h2 := this xs.toList.reverse
  rw [List.length_reverse, Array.length_toList] at h2
  exact h2
theorem getItem_tuple_rev {t sl : Addr} {items : Array Value} {vl vu vs : Value} {Q : Value → Shared → Prop} (ht : IsTup s.heap t items) (hs : s.heap.IsSliceOf sl vl vu vs) (pl : IsPart vl none) (pu : IsPart vu none) (ps : IsPart vs (some (-1)))
    (h : Q (.ref s.heap.objs.size) { s with heap := s.heap.push { cls := .type "tuple", data := .seq items.toList.reverse.toArray } })
    (hsz : items.size ≤ sizeLine) : wpAny (model prog w) A (getItem (.ref t) (.ref sl)) Q E s := by
  have htake : sizeOk (.seq items.toList.reverse.toArray) := by
    show items.toList.reverse.toArray.size ≤ sizeLine
    rw [List.size_toArray, List.length_reverse, Array.length_toList]
    exact hsz
  obtain ⟨os, hos, hcs, hds⟩ := id hs
  have hTs : s.TypeIs (.ref sl) "slice" := ⟨os, hos, hcs⟩
  unfold getItem
  try with_reducible refine wpAny_holding ?_
  first | refine wpAny_bind (wpAny_pure ?_) | skip
  refine wpAny_bind (wpAny_sequenceKey ht.typeIs (by decide) ?_)
  refine wpAny_bind (wpAny_callSpecial?_slot (name := Str.ofString "__getitem__") ht.typeIs PyProof.Rows.slot_tuple_getitem
    (wpAny_call_entry PyProof.Rows.slot_tuple_getitem ht.typeIs entry_tuple_getitem ?_ (args_tuple_getitem _ _)))
  show wpAny _ _ (Builtin.Tuple.tupleItemsOf (.ref t) >>= _) _ _ s
  refine wpAny_bind (tupleItemsOf_ ht ?_)
  refine wpAny_bind (wpAny_typeOf hTs ?_)
  rw [if_pos (by decide)]
  refine wpAny_bind (sliceApplied_rev hs pl pu ps ?_)
  have hno : ¬ ((((items.size : Nat) : Int) - 1 == 0 && (-1 : Int) == 1 && items.size == items.size) = true) := by
    intro q
    rw [Bool.and_eq_true, Bool.and_eq_true] at q
    exact absurd q.1.2 (by decide)
  show wpAny _ _ (if (((items.size : Nat) : Int) - 1 == 0 && (-1 : Int) == 1 && items.size == items.size) = true then _ else _) _ _ s
  rw [if_neg hno, pick_rev]
  first
    | exact wpAny_bind (m := Builtin.Tuple.tupleExact _) (wpAny_newObj_type (wpAny_pure ⟨_, rfl, wpAny_pure h⟩) htake)
    | exact wpAny_bind (m := Builtin.Tuple.tupleExact _) (wpAny_newObj_type (wpAny_bind (wpAny_pure (wpAny_pure ⟨_, rfl, wpAny_pure h⟩))) htake)
    | exact wpAny_bind (wpAny_bind (m := Builtin.Tuple.tupleExact _) (wpAny_newObj_type (wpAny_pure (wpAny_pure ⟨_, rfl, wpAny_pure h⟩)) htake))
    | exact wpAny_bind (wpAny_bind (m := Builtin.Tuple.tupleExact _) (wpAny_newObj_type (wpAny_pure ⟨_, rfl, wpAny_pure h⟩) htake))
end
end HT
namespace L2
open PySem PySem.Spec PyProof.Rows
def tRevT (K : PySem.W.Frag) (te : TE) : TE := fun σ H Q => te σ H fun x H1 => ∃ a xs, x = .ref a ∧ ((SqL K H1 a xs ∧ ∀ p, H1 p = none → Q (.ref p) (upd H1 p (.lst xs.reverse))) ∨ (SqT K H1 a xs ∧ ∀ p, H1 p = none → Q (.ref p) (upd H1 p (.tup xs.reverse))))
theorem pe_revT {X : Cx} {e : Expr} {te : TE} {k : Nat} {p1 p2 p3 pos : Pos} (he : PE X e te) : PE X (.Subscript e (.Slice none none (some (.UnaryOp .USub (.Constant (.int 1) k p1) p2)) p3) pos) (tRevT X.K te) := by
  refine ⟨fun pins s σ H Q I h => ?_⟩
  refine Subscript_ (thn (he.run pins s σ H _ I h) fun v s1 ⟨x, H1, I1, r1, q1⟩ => ?_)
  obtain ⟨a, xs, ex, hx⟩ := q1
  subst ex
  cases r1
  have hst : PO X (some (.UnaryOp .USub (.Constant (.int 1) k p1) p2)) (tPart (tUn (rU fun i => .int (-i)) (tC (.int 1)))) := po_some (pe_un un_neg pe_int)
  refine wpAny_Slice (thn (po_none.run pins s1 σ H1 (fun o H2 => o = none ∧ H2 = H1) I1 ⟨rfl, rfl⟩) fun vl s2 ⟨l, H2, I2, pl, el, e2⟩ => ?_)
  subst el e2
  refine thn (po_none.run pins s2 σ H2 (fun o H3 => o = none ∧ H3 = H2) I2 ⟨rfl, rfl⟩) fun vu s3 ⟨u, H3, I3, pu, eu, e3⟩ => ?_
  subst eu e3
  refine thn (hst.run pins s3 σ H3 (fun o H4 => o = some (-1) ∧ H4 = H3) I3 ⟨1, rfl, -1, rfl, rfl, rfl⟩) fun vs s4 ⟨o, H4, I4, ps, eo, e4⟩ => ?_
  subst eo e4
  have I5 : Inv X pins σ H4 { s4 with heap := s4.heap.push { cls := .type "slice", data := .fields #[vl, vu, vs] } } := I4.kept (t' := s4.toks) fun b ob q => Heap.get?_push_of_some _ q
  show wpAny (model X.prog X.w) X.A (subscriptTail e (.Slice none none (some (.UnaryOp .USub (.Constant (.int 1) k p1) p2)) p3) (.ref a) (.ref s4.heap.objs.size)) (EP X pins σ Q) X.xe { s4 with heap := s4.heap.push { cls := .type "slice", data := .fields #[vl, vu, vs] } }
  rcases hx with ⟨hx, q⟩ | ⟨hx, q⟩
  · obtain ⟨its, r, ht, hz⟩ := I5.list hx
    have hlen := r.length
    refine tail_any (ops := [.ref a, .ref s4.heap.objs.size]) ht.isList.typeIs (PySem.slot_list_getitem.lookup) ?_ (by with_unfolding_all rfl)
    refine wpAny_getItem_list_slice ht.isList (Heap.IsSliceOf.new _ vl vu vs) pl pu ps (by decide) ?_ (by rw [List.size_toArray]; omega)
    rw [PySem.W.krv_pick]
    refine ⟨.ref _, _, I5.laid (t' := s4.toks) (o := .lst xs.reverse) (fun b ob q => Heap.get?_push_of_some _ q) (Nat.le_refl _) ?_, rfl, q _ (I5.hok.fresh (Nat.le_refl _))⟩
    exact ⟨by rw [List.length_reverse]; exact hz, _, 0, r.reverse, Heap.get?_push_size _ rfl⟩
  · obtain ⟨its, r, ht, hz⟩ := I5.tuple hx
    have hlen := r.length
    refine tail_any (ops := [.ref a, .ref s4.heap.objs.size]) ht.typeIs (PyProof.Rows.slot_tuple_getitem.lookup) ?_ (by with_unfolding_all rfl)
    refine HT.getItem_tuple_rev ht (Heap.IsSliceOf.new _ vl vu vs) pl pu ps ?_ (by rw [List.size_toArray]; omega)
    refine ⟨.ref _, _, I5.laid (t' := s4.toks) (o := .tup xs.reverse) (fun b ob q => Heap.get?_push_of_some _ q) (Nat.le_refl _) ?_, rfl, q _ (I5.hok.fresh (Nat.le_refl _))⟩
    exact ⟨by rw [List.length_reverse]; exact hz, _, r.reverse, IsTup.new _ _⟩
theorem len_own {prog : Program} {w : World} {A : Around} {E : Value → Shared → Prop} {s : Shared} {K : PySem.W.Frag} {x C f : Addr} {ox : Obj} {odd : Option Obj} {Q : Value → Shared → Prop} (X : K.In s.heap) (I : PySem.W.InstAt s.heap x ox C odd) (hs : PySem.W.findIn K (.ref C) "__len__" = some (some (.ref f))) (hf : PySem.W.isFn K (.ref f) = true)
    (h : wpAny (model prog w) A.in1 (call (.ref f) [.ref x]) (fun r s₁ => ∃ (n : Nat) (u : Tok), r = Value.int n u ∧ n < 2 ^ 62 ∧ ∀ tk u, Q (.int n u) { s₁ with toks := tk }) E s) : wpAny (model prog w) A (call (.builtin "len") [.ref x]) Q E s := by
  refine Calls.call_function_entry kind_len plain_len entry_len (args_len1 _) ?_
  unfold Builtin.«len»
  refine wpAny_bind (m := oneArg "len" _) (wpAny_pure ?_)
  refine wpAny_bind (m := callSpecial? (.ref x) (Str.ofString "__len__")) (PySem.W.special_fn X I hs (beq_iff_eq.mp hf) (wpAny_mono h (fun r s' hr => ?_) fun _ _ y => y))
  obtain ⟨n, u, rfl, hn, hq⟩ := hr
  refine wpAny_bind (wpAny_holding (wpAny_pure ?_))
  refine wpAny_bind (wpAny_letGo ?_)
  show wpAny _ _ (if ((n : Nat) : Int) < 0 then _ else _) _ _ _
  rw [if_neg (by omega)]
  show wpAny _ _ (if ((n : Nat) : Int) ≥ 2 ^ 63 then _ else _) _ _ _
  rw [if_neg (by omega)]
  exact wpAny_bind (wpAny_mkInt (wpAny_pure ⟨_, rfl, hq _ _⟩))
end L2
namespace Z
open PySem PySem.Spec PyProof.Rows L2 He
/-! ### xs[::-1] -/
def revD (d : D) (S : Store) : Option (D × Store) := match d with
  | .tup ds => some (.tup ds.reverse, S)
  | .fls ds => some (.ref S.length, S ++ [.lst ds.reverse])
  | .ref i => (match S[i]? with
    | some (.lst ds) => some (.ref S.length, S ++ [.lst ds.reverse])
    | _ => none)
  | _ => none
def dRev (a : DE) : DE := fun env S => (a env S).bind fun x S1 => ofO (revD x S1)
theorem pex_rev {C : Cp} {a : Expr} {da : DE} {k : Nat} {p1 p2 p3 pos : Pos} (ha : PEx C a da) : PEx C (.Subscript a (.Slice none none (some (.UnaryOp .USub (.Constant (.int 1) k p1) p2)) p3) pos) (dRev da) := fun X W h => by
  refine pe_imp (pe_revT (ha X W h)) fun σ H Q ⟨φ, S, env, R, E, P⟩ => ⟨φ, S, env, R, E, P.bind.imp fun φ1 H1 S1 x n1 R1 P1 v1 r1 => ?_⟩
  have P2 := PstV.of P1
  cases x with
  | tup ds =>
    simp only [VRel] at r1
    obtain ⟨a, vs, rfl, sq, rs⟩ := r1
    exact ⟨a, vs, rfl, .inr ⟨by rw [h.K]; exact sq, fun p hp => PstV.tup P2 R1 rs.reverse hp⟩⟩
  | fls ds =>
    simp only [VRel] at r1
    obtain ⟨a, vs, rfl, sq, rs⟩ := r1
    exact ⟨a, vs, rfl, .inl ⟨by rw [h.K]; exact sq.sq, fun p hp => PstV.lst P2 R1 rs.reverse hp⟩⟩
  | ref i =>
    unfold revD at P2
    dsimp only at P2
    split at P2
    · rename_i ds e
      obtain ⟨a, vs, rfl, q, rs, ha⟩ := sq_lst R1 r1 e
      exact ⟨a, vs, rfl, .inl ⟨SqL.of q, fun p hp => PstV.lst P2 R1 rs.reverse hp⟩⟩
    · exact P2.elim
  | _ => exact P2.elim
/-! ### gcd -/
def ckBi (x : Str) (id : String) : Ck := fun K => match PySem.W.nsIn K mainGlobals x with
  | some (some (.builtin i)) => decide (i = id)
  | _ => false
theorem Hyp.bi {cs : List Ck} {fn : List Df} {cl : List Str} {G : Glo} (h : Hyp cs fn cl G) (i : Nat) {x : Str} {id : String} (e : cs[i]? = some (ckBi x id)) : G.mg x = some (.builtin id) := by
  have c2 : (match PySem.W.nsIn G.K mainGlobals x with
    | some (some (.builtin j)) => decide (j = id)
    | _ => false) = true := h.ck i e
  split at c2
  · rename_i j q
    rw [of_decide_eq_true c2] at q
    exact h.mgns x _ q
  · cases c2
def fGcd : D → D → Store → Option (D × Store) := fun d e S => match d, e with
  | .int i, .int j => some (.int ((Nat.gcd i.natAbs j.natAbs : Nat) : Int), S)
  | _, _ => none
theorem cx_gcd {C : Cp} : CallRx C (.builtin "math.gcd") (b2 fGcd) := CallRx.imp (fun _ => _) (fun _ _ _ => cr_gcd) fun X W hx φ S H ds vs Q R r P => by
  obtain ⟨d, e, v, w, rfl, r1, r2, P⟩ := b2_some P r
  unfold fGcd at P
  split at P
  · simp only [VRel] at r1 r2
    subst r1 r2
    exact ⟨_, _, rfl, P.now R (by simp only [VRel])⟩
  · exact P.elim
theorem pex_bm2 {C : Cp} {x : Str} {p pos : Pos} {id : String} {f : Bf} {e : Expr} {es : List Expr} {dr : DA} (hc : CallRx C (.builtin id) f) (hg : okG C x = true) (hm : C.G.mg x = some (.builtin id)) (ha : PAx C (e :: es) dr)
    (hs : ∀ env, starEach (e :: es) env = (false, eval e env) :: starEach es env := by intro _; rfl) (hp : ∀ env, (backTo pos (starEach es env)).any (·.1) = false := by intro _; rfl) : PEx C (.Call (.Name x p) (e :: es) [] pos) (dCallB f dr) := fun X W h => by
  obtain ⟨h1, h2⟩ := ba hg
  exact pe_imp (pe_callBfun (hc X W h) (glB_ok h1 h) (by rw [h.mg]; exact hm) (ha X W h) (nb h2) (hs X.env) (hp X.env)) fun _ _ _ => rd_callB
/-! ### a range that goes down -/
def jD (lo : Int) (n : Nat) : Itd := fun k _ => some (if k < n then some (.int (lo + (k : Int) * -1)) else none)
theorem it_rngD {G : Glo} {φ0 : List Addr} {H0 : Hp} {lo : Int} {n : Nat} : ItRel G φ0 H0 (jD lo n) (Itc lo (-1) n) := by
  refine ⟨fun k φ S H nx R e => ?_, fun k φ S H d nx R e => ?_⟩
  · have e' : (if k < n then some (D.int (lo + (k : Int) * -1)) else none) = none := Option.some.inj e
    show n ≤ k
    by_cases h : k < n
    · rw [if_pos h] at e'; cases e'
    · omega
  · have e' : (if k < n then some (D.int (lo + (k : Int) * -1)) else none) = some d := Option.some.inj e
    by_cases h : k < n
    · rw [if_pos h] at e'
      cases e'
      refine ⟨h, fun x H' y => ?_⟩
      obtain ⟨rfl, rfl⟩ := y
      exact ⟨Nxt.refl _ _, R, by simp only [VRel]⟩
    · rw [if_neg h] at e'; cases e'
def iRngD (r : DA) : DI := fun env S => (r env S).bind fun xs S1 => match xs with
  | [.int i, .int j, .int c] => if c = -1 ∧ -(2 ^ 62) ≤ i ∧ i < 2 ^ 62 ∧ -(2 ^ 62) ≤ j ∧ j < 2 ^ 62 then .ok (jD i (i - j).toNat) S1 else .bad
  | _ => .bad
theorem pix_rangeD {C : Cp} {tg a b c : Expr} {dr : DA} {p pos : Pos} (hg : glB C "range" = true) (hm : C.G.mg "range" = none) (ha : PAx C [a, b, c] dr) (hs : ∀ env, starEach [a, b, c] env = (false, eval a env) :: starEach [b, c] env := by intro _; rfl) (hpl : ∀ env, (backTo pos (starEach [b, c] env)).any (·.1) = false := by intro _; rfl) : PIx C tg (.Call (.Name "range" p) [a, b, c] [] pos) (iRngD dr) := fun X W h => by
  refine pi_imp (pi_range3 (glB_ok hg h) (by rw [h.mg]; exact hm) (ha X W h) (hs X.env) (hpl X.env)) fun σ H Rr ⟨φ, S, env, R, E, P⟩ => ?_
  refine ⟨φ, S, env, R, E, P.bind.imp fun φ1 H1 S1 xs n1 R1 P1 vs rs => ?_⟩
  split at P1
  · rename_i i j k
    simp only [VRels, VRel] at rs
    obtain ⟨u, us, rfl, rfl, u2, us2, rfl, rfl, u3, us3, rfl, rfl, rfl⟩ := rs
    split at P1
    · rename_i hb
      obtain ⟨rfl, h1, h2, h3, h4⟩ := hb
      exact ⟨i, j, -1, _, rfl, RgC.neg h1 h2 h3 h4, Pst.now P1 R1 _ it_rngD⟩
    · exact P1.elim
  · exact P1.elim
/-! ### len -/
structure LenOf (G : Glo) (k c : Nat) (F : Fn) : Prop where
  ex : ∃ g, PySem.W.findIn G.K (.ref (G.ad c)) "__len__" = some (some (.ref g)) ∧ PySem.W.isFn G.K (.ref g) = true ∧ FnA G k g 1 F
def bLenC (c : Nat) (F : Fn) : Bf := fun ds S => match ds with
  | [d] => if isC c d S = true then (match F [d] S with
    | .ok (.int i) S' => if 0 ≤ i ∧ i < 2 ^ 62 then some (.int i, S') else none
    | _ => none) else none
  | _ => none
theorem cx_lenC {C : Cp} {k c : Nat} {F : Fn} (h : LenOf C.G k c F) (hk : Nat.ble (k + 1) C.k = true) : CallRx C (.builtin "len") (bLenC c F) := fun X W hx pins s σ H vs us Q I rx ⟨φ, S, ds, R, r, P⟩ => by
  unfold bLenC at P
  split at P
  · rename_i d
    obtain ⟨v, rfl, r1⟩ := rels1 r
    split at P
    · rename_i hc
      split at P
      · rename_i n S' eF
        split at P
        · rename_i hn
          obtain ⟨u, rfl, ru⟩ := rx.one
          obtain ⟨i, ws0, rfl, e1⟩ := isC_ok hc
          obtain ⟨ad, had, dx, ws, hs, _, _⟩ := R.get e1
          have r1' := r1
          simp only [VRel] at r1
          obtain ⟨ad', rfl, had'⟩ := r1
          rw [had] at had'; cases had'
          cases (show u = Value.ref ad from ru)
          obtain ⟨sl, od, _, J, _⟩ := SlX.slt_inst I hs
          obtain ⟨g, h1, h2, hF⟩ := h.ex
          have hr : Room (k + 1) X.A := hx.room.mono (Nat.le_of_ble_eq_true hk)
          have F' : FnR X.prog X.w X.K X.mg X.base (L2.CX X.prog X.w) k g (spD C.G 1 F) := by rw [hx.prog, hx.w, hx.K, hx.mg, hx.base]; exact hF
          refine len_own I.kIn J (by rw [hx.K]; exact h1) (by rw [hx.K]; exact h2) (wpAny_mono (wpAny_call (SlX.run_at (us := [.ref ad]) (ws := [.ref ad]) (Q := fun z H' => z = .int n ∧ Q (.int n) H') (E := fun _ _ _ => False) F' hr.in1 I.env0.in1 cx_no I (.cons rfl .nil) ⟨φ, S, _, R, VRels.cons r1' VRels.nil, rfl, by
            rw [eF]
            intro φ' H' n' R' v' rv
            refine ⟨by simpa only [VRel] using rv, P φ' H' n' R' _ (by simp only [VRel])⟩⟩)) (fun w s' z => ?_) fun _ _ x => x)
          obtain ⟨z', H', I', rz, rfl, qz⟩ := z
          obtain ⟨t, rfl⟩ := (show ∃ t, w = Value.int n t from rz)
          obtain ⟨m, rfl⟩ := Int.eq_ofNat_of_zero_le hn.1
          exact ⟨m, t, rfl, by omega, fun tk u => ⟨.int (m : Int), H', I'.tok tk, ⟨u, rfl⟩, qz⟩⟩
        · exact P.elim
      · exact P.elim
    · exact P.elim
  · exact P.elim
theorem Hyp.lenOf {cs : List Ck} {fn : List Df} {cl : List Str} {G : Glo} {c k : Nat} {F : Fn} {x : Str} (h : Hyp cs fn cl G) (j : Nat) (hc0 : cl[c]? = some x) (e2 : cs[j]? = some (ckFa (.meth x "__len__"))) (hF : FnA G k (ma G.K (ga G.K x) "__len__") 1 F) : LenOf G k c F := by
  have hm := meth_ok (h.ck j e2)
  rw [← h.cls c x hc0] at hm
  exact ⟨_, hm.at_, hm.fn, by rw [h.cls c x hc0]; exact hF⟩
/-! ### str of a text -/
def fStrS : D → Store → Option (D × Store) := fun d S => match d with
  | .str x => some (.str x, S)
  | _ => none
theorem cx_strS {C : Cp} : CallRx C (.type "str") (b1 fStrS) := CallRx.imp (fun _ => _) (fun _ _ _ => SkE.call_str_str) fun X W hx φ S H ds vs Q R r P => by
  obtain ⟨d, v, rfl, rv, P⟩ := b1_some P r
  unfold fStrS at P
  split at P
  · simp only [VRel] at rv; subst rv
    exact ⟨_, rfl, P.now R (by simp only [VRel])⟩
  · exact P.elim
end Z

/-! Z20: lists of instances compared by `!=`; list.count; a module's constant tuple. -/
namespace ZL
open PySem PySem.SeqAt
open AutoSeq1 (wpAny_loadPart')
open MeetsSeq MeetsSeq2 MeetsSeq3 SeqRoads2
section
variable {prog : Program} {w : World} {A : Around} {R : Result → Shared → Prop}
/-- the loop of `!=`: all items are equal -/
theorem go (p q : Addr) (N : Nat) (J : Nat → Shared → Prop) (hJ : GQ.ListI prog w A (fun e s' => R (.error e) s') p q N J) (stop : ∀ s, J N s → R (.ok (.ret (.bool false))) s) :
    ∀ (r k : Nat), k + r = N → ∀ s, J k s → wpAny (model prog w) A.in1 (Builtin.«list.__eq__.loop» ⟨[.ref p, .ref q, rawInt k, rawInt 3], []⟩) (GQ.FinOf prog w A R) (fun e s' => R (.error e) s') s := by
  intro r
  induction r with
  | zero =>
    intro k hk s hs
    obtain ⟨xs, ys, m, m', gp, gq, lx, ly, _⟩ := hJ _ _ hs
    obtain rfl : k = N := by omega
    have out := stop s hs
    obtain ⟨hp, g, d, tk, os⟩ := s
    wp_walk using wpAny_loadPart' gp, wpAny_loadPart' gq
    rw [show xs[((k : Nat) : Int).toNat]? = none by simp; omega, show ys[((k : Nat) : Int).toNat]? = none by simp; omega]
    wp_walk using wpAny_loadPart' gp, wpAny_loadPart' gq
    show R (.ok (.ret (.bool (xs.size != ys.size)))) _
    rw [lx, ly]
    simpa using out
  | succ r ih =>
    intro k hk s hs
    obtain ⟨xs, ys, m, m', gp, gq, lx, ly, step⟩ := hJ _ _ hs
    have kx : k < xs.size := by omega
    have ky : k < ys.size := by omega
    have now := step kx ky
    obtain ⟨hp, g, d, tk, os⟩ := s
    wp_walk using wpAny_loadPart' gp, wpAny_loadPart' gq
    rw [show xs[((k : Nat) : Int).toNat]? = some xs[k] by simp [kx], show ys[((k : Nat) : Int).toNat]? = some ys[k] by simp [ky]]
    refine wpAny_bind (wpAny_mono now (fun t s2 z => ?_) fun _ _ x => x)
    obtain ⟨rfl, z⟩ := z
    have more := ih (k + 1) (by omega) s2 z
    obtain ⟨hp2, g2, d2, tk2, os2⟩ := s2
    wp_walk
    rw [show ((k : Int) + 1) = ((k + 1 : Nat) : Int) by omega]
    refine ⟨plainId_quiet plain_eq_loop _, codeAny_builtin entry_eq_loop ?_⟩
    rw [Around.under_plainId plain_eq_loop _]
    exact more
theorem ne (p q : Addr) (N : Nat) (J : Nat → Shared → Prop) (hJ : GQ.ListI prog w A (fun e s' => R (.error e) s') p q N J) (stop : ∀ s, J N s → R (.ok (.ret (.bool false))) s) {s : Shared} (hs : J 0 s) :
    wpAny (model prog w) A.in1 (Builtin.«list.__ne__» ⟨[.ref p, .ref q], []⟩) (GQ.FinOf prog w A R) (fun e s' => R (.error e) s') s := by
  obtain ⟨xs, ys, m, m', gp, gq, lx, ly, _⟩ := hJ _ _ hs
  have more := go (A := A) (R := R) p q N J hJ stop N 0 (by omega) s hs
  obtain ⟨hp, g, d, tk, os⟩ := s
  have sub := AutoSeq1.sub_list_list
  have same : ¬ (xs.size != ys.size) = true := by simp [lx, ly]
  wp_walk using wpAny_loadPart' gp, wpAny_loadPart' gq
  refine ⟨plainId_quiet plain_eq_loop _, codeAny_builtin entry_eq_loop ?_⟩
  rw [Around.under_plainId plain_eq_loop _]
  exact more
end
section
variable {prog : Program} {w : World} {A : Around} {E : Value → Shared → Prop} {s : Shared}
theorem rc_ne {p q : Addr} {N : Nat} {Q : Value → Shared → Prop} (hu : A.units < cLine) (J : Nat → Shared → Prop) (hJ : GQ.ListI prog w A E p q N J) (stop : ∀ s, J N s → Q (.bool false) s) (hs : J 0 s) :
    wpAny (model prog w) A (richCompare .NotEq (.ref p) (.ref q)) Q E s := by
  obtain ⟨xs, ys, m, m', gp, gq, _, _, _⟩ := hJ _ _ hs
  refine wpAny_richCompare_same_room (op := .NotEq) ⟨_, gp, rfl⟩ ⟨_, gq, rfl⟩ F.slot_list_ne (GQ.call_here F.slot_list_ne ⟨_, gp, rfl⟩ F.entry_list_ne (F.args_list_ne_2 _ _) ?_) hu
  exact ne (R := wants (fun v s' => v ≠ .notImplemented ∧ Q v s') E) p q N J hJ (fun s' z => ⟨(fun x => nomatch x), stop s' z⟩) hs
end
end ZL
namespace Z
open PySem PySem.Spec PyProof.Rows L2 He
/-! ### two lists of instances, all equal by the class's own def -/
def ownGo (c : Nat) (F : Fn) (i j N : Nat) : Nat → Store → Option Store
  | 0, S => match S[i]?, S[j]? with
    | some (.lst xs), some (.lst ys) => if xs.length = N ∧ ys.length = N then some S else none
    | _, _ => none
  | m + 1, S => match S[i]?, S[j]? with
    | some (.lst xs), some (.lst ys) => if xs.length = N ∧ ys.length = N then (match xs[N - (m + 1)]?, ys[N - (m + 1)]? with
      | some (.ref a), some (.ref b) => if a = b then ownGo c F i j N m S else if (isC c (.ref a) S && isC c (.ref b) S) = true then (match F [.ref a, .ref b] S with
        | .ok (.bl true) S' => ownGo c F i j N m S'
        | _ => none) else none
      | _, _ => none) else none
    | _, _ => none
def oOwnLN (c : Nat) (F : Fn) : Op2 := fun d e S => match d, e with
  | .ref i, .ref j => (match S[i]? with
    | some (.lst xs) => (ownGo c F i j xs.length xs.length S).map fun S' => (.bl false, S')
    | _ => none)
  | _, _ => none
theorem ownGo_at {c : Nat} {F : Fn} {i j N m : Nat} {S Sf : Store} (h : ownGo c F i j N m S = some Sf) : ∃ xs ys, S[i]? = some (.lst xs) ∧ S[j]? = some (.lst ys) ∧ xs.length = N ∧ ys.length = N := by
  cases m with
  | zero =>
    unfold ownGo at h
    split at h
    · rename_i xs ys e1 e2
      split at h
      · rename_i e
        exact ⟨xs, ys, e1, e2, e.1, e.2⟩
      · cases h
    · cases h
  | succ m =>
    unfold ownGo at h
    split at h
    · rename_i xs ys e1 e2
      split at h
      · rename_i e
        exact ⟨xs, ys, e1, e2, e.1, e.2⟩
      · cases h
    · cases h
theorem ownGo_step {c : Nat} {F : Fn} {i j N m : Nat} {S Sf : Store} {xs ys : List D} (h : ownGo c F i j N (m + 1) S = some Sf) (e1 : S[i]? = some (.lst xs)) (e2 : S[j]? = some (.lst ys)) :
    ∃ a b, xs[N - (m + 1)]? = some (.ref a) ∧ ys[N - (m + 1)]? = some (.ref b) ∧ ((a = b ∧ ownGo c F i j N m S = some Sf) ∨ (a ≠ b ∧ isC c (.ref a) S = true ∧ isC c (.ref b) S = true ∧ ∃ S', F [.ref a, .ref b] S = .ok (.bl true) S' ∧ ownGo c F i j N m S' = some Sf)) := by
  unfold ownGo at h
  rw [e1, e2] at h
  dsimp only at h
  split at h
  · split at h
    · rename_i a b h1 h2
      refine ⟨a, b, h1, h2, ?_⟩
      split at h
      · rename_i hab
        exact .inl ⟨hab, h⟩
      · rename_i hab
        split at h
        · rename_i hc
          obtain ⟨c1, c2⟩ := ba hc
          split at h
          · rename_i S' eF
            exact .inr ⟨hab, c1, c2, S', eF, h⟩
          · cases h
        · cases h
    · cases h
  · cases h
theorem opx_ownLN {C : Cp} {k c : Nat} {F : Fn} (h : EqIs C.G k c F) (hk : Nat.ble (k + 1) C.k = true) : OpRx C (compareOp .NotEq) (oOwnLN c F) := fun X W hx pins s σ H x y v u Q I rx ry ⟨φ, S, d, e, R, r1, r2, P⟩ => by
  unfold oOwnLN at P
  split at P
  · rename_i i j
    split at P
    · rename_i xs0 e0
      cases q : ownGo c F i j xs0.length xs0.length S with
      | none => rw [q] at P; exact P.elim
      | some Sf =>
        rw [q] at P
        have P' : ∀ φ' H', Nxt φ φ' H H' → Rel C.G φ' Sf H' → ∀ v, VRel C.G φ' H' (.bl false) v → Q v H' := P
        have hr : Room (k + 1) X.A := hx.room.mono (Nat.le_of_ble_eq_true hk)
        obtain ⟨g, hs, hf, hF⟩ := h.ex
        have F' : FnR X.prog X.w X.K X.mg X.base (L2.CX X.prog X.w) k g (spD C.G 2 F) := by rw [hx.prog, hx.w, hx.K, hx.mg, hx.base]; exact hF
        simp only [VRel] at r1 r2
        obtain ⟨a, rfl, ha⟩ := r1
        obtain ⟨b, rfl, hb⟩ := r2
        cases (show v = Value.ref a from rx)
        cases (show u = Value.ref b from ry)
        show wpAny _ _ (richCompare .NotEq _ _) _ _ _
        refine ZL.rc_ne (N := xs0.length) hr.units0 (fun t s' => ∃ φ1 H1 S1, Inv X pins σ H1 s' ∧ Rel C.G φ1 S1 H1 ∧ Nxt φ φ1 H H1 ∧ ∃ m, t + m = xs0.length ∧ ownGo c F i j xs0.length m S1 = some Sf) (fun t s' z => ?_) (fun s' z => ?_) ⟨φ, H, S, I, R, Nxt.refl φ H, xs0.length, by omega, q⟩
        · obtain ⟨φ1, H1, S1, I1, R1, n1, m, hm, hgo⟩ := z
          obtain ⟨xs, ys, e1, e2, l1, l2⟩ := ownGo_at hgo
          have hx1 := R1.at_ i a _ (n1.at_ ha) e1
          have hy1 := R1.at_ j b _ (n1.at_ hb) e2
          obtain ⟨vs, hH, rs⟩ := hx1
          obtain ⟨ws, hH2, rs2⟩ := hy1
          obtain ⟨_, its, n, rv, ho⟩ := I1.hok a _ hH
          obtain ⟨_, its2, n2, rv2, ho2⟩ := I1.hok b _ hH2
          have lx : its.length = xs0.length := by rw [← rv.length, ← rs.length, l1]
          have ly : its2.length = xs0.length := by rw [← rv2.length, ← rs2.length, l2]
          refine ⟨its.toArray, its2.toArray, n, n2, ho, ho2, by rw [List.size_toArray, lx], by rw [List.size_toArray, ly], fun k1 k2 => ?_⟩
          have k1' : t < its.length := by simpa using k1
          have k2' : t < its2.length := by simpa using k2
          obtain ⟨m', rfl⟩ : ∃ m', m = m' + 1 := ⟨m - 1, by omega⟩
          obtain ⟨p, r, hp, hr', way⟩ := ownGo_step hgo e1 e2
          have et : xs0.length - (m' + 1) = t := by omega
          rw [et] at hp hr'
          obtain ⟨v1, hv1, rel1⟩ := rs.get hp
          obtain ⟨v2, hv2, rel2⟩ := rs2.get hr'
          obtain ⟨u1, hu1, ru1⟩ := rv.get hv1
          obtain ⟨u2, hu2, ru2⟩ := rv2.get hv2
          have i1 : its.toArray[t] = u1 := by
            rw [List.getElem?_eq_getElem k1'] at hu1
            simpa using Option.some.inj hu1
          have i2 : its2.toArray[t] = u2 := by
            rw [List.getElem?_eq_getElem k2'] at hu2
            simpa using Option.some.inj hu2
          rw [i1, i2]
          simp only [VRel] at rel1 rel2
          obtain ⟨ap, rfl, hap⟩ := rel1
          obtain ⟨br, rfl, hbr⟩ := rel2
          cases (show u1 = Value.ref ap from ru1)
          cases (show u2 = Value.ref br from ru2)
          rcases way with ⟨hpr, more⟩ | ⟨hpr, c1, c2, S2, eF, more⟩
          · subst hpr
            rw [hap] at hbr
            cases hbr
            exact SeqAt.EqAt.same (A := X.A.in1) (s := s') (.ref ap) X.prog X.w X.xe _ ⟨rfl, φ1, H1, S1, I1, R1, n1, m', by omega, more⟩
          · have nab : ap ≠ br := fun z => hpr (by
              subst z
              have b1 := (List.getElem?_eq_some_iff.mp hap)
              have b2 := (List.getElem?_eq_some_iff.mp hbr)
              obtain ⟨w1, z1⟩ := b1
              obtain ⟨w2, z2⟩ := b2
              rcases Nat.lt_trichotomy p r with z | z | z
              · exact absurd (z1.trans z2.symm) (List.pairwise_iff_getElem.mp R1.nd p r w1 w2 z)
              · exact z
              · exact absurd (z2.trans z1.symm) (List.pairwise_iff_getElem.mp R1.nd r p w2 w1 z))
            obtain ⟨_, ox, od, tb, ea, ev, J, hbk, hn⟩ := own_facts (d := .ref p) (e := .ref r) (x := .ref ap) (y := .ref br) hx.K h I1 R1 (by simp only [VRel]; exact ⟨ap, rfl, hap⟩) (by simp only [VRel]; exact ⟨br, rfl, hbr⟩) rfl rfl (by unfold okEq; rw [c1, c2]; rfl)
            cases ea
            obtain ⟨mm, hFr⟩ := I1.fr
            refine GQ.eqBool_refG nab ?_
            refine PySem.W.cmp_K (op := .Eq) hr.in1.units0 hFr I1.ok.mod.kin J hbk hn (by rw [hx.K]; exact hs) (by rw [hx.K]; exact hf) ?_
            refine wpAny_mono (wpAny_call (SlX.run_at (us := [.ref ap, .ref br]) (ws := [.ref ap, .ref br]) (Q := fun z H' => z = .bl true ∧ ∃ φ', Nxt φ1 φ' H1 H' ∧ Rel C.G φ' S2 H') (E := fun _ _ _ => False) F' hr.in1 I1.env0.in1 cx_no I1 (.cons rfl (.cons rfl .nil)) ⟨φ1, S1, [.ref p, .ref r], R1, VRels.cons (by simp only [VRel]; exact ⟨ap, rfl, hap⟩) (VRels.cons (by simp only [VRel]; exact ⟨br, rfl, hbr⟩) VRels.nil), rfl, by
              rw [eF]
              intro φ' H' n' R' v' rv'
              exact ⟨by simpa only [VRel] using rv', φ', n', R'⟩⟩)) (fun w s2 z => ?_) fun _ _ x => x
            obtain ⟨z', H', I', rz, rfl, φ', n', R'⟩ := z
            cases (show w = Value.bool true from rz)
            refine SlX.cmpback (z := .bl true) rfl ?_
            exact ⟨true, rfl, rfl, φ', H', S2, I', R', n1.trans n', m', by omega, more⟩
        · obtain ⟨φ1, H1, S1, I1, R1, n1, m, hm, hgo⟩ := z
          obtain rfl : m = 0 := by omega
          obtain ⟨xs, ys, e1, e2, l1, l2⟩ := ownGo_at hgo
          have eS : S1 = Sf := by
            unfold ownGo at hgo
            rw [e1, e2] at hgo
            dsimp only at hgo
            rw [if_pos ⟨l1, l2⟩] at hgo
            exact Option.some.inj hgo
          subst eS
          exact ⟨.bl false, H1, I1, rfl, P' φ1 H1 n1 R1 _ (by simp only [VRel])⟩
    · exact P.elim
  · exact P.elim

/-! ### list.count of ints -/
def mCount : Mf := fun d xs S => match xs with
  | [.int k] => onL d S fun _ ds => (intsOf ds).map fun ns => (.int (ns.count k : Nat), S)
  | _ => none
theorem mtx_count {C : Cp} : MtRx C "list.count" mCount := fun X W hx pins s σ H x vs v us Q I r1 r2 ⟨φ, S, d, ds, R, q1, q2, P⟩ => by
  unfold mCount at P
  split at P
  · rename_i k
    obtain ⟨i, es, rfl, e, P⟩ := onL_some P
    obtain ⟨p, ws, rfl, q, rs, hp⟩ := sq_lst R q1 e
    obtain ⟨w, rfl, rw'⟩ := rels1 q2
    simp only [VRel] at rw'
    subst rw'
    cases ei : intsOf es with
    | none => rw [ei] at P; exact P.elim
    | some ns =>
      rw [ei] at P
      have e0 : ws = ns.map V.int := by
        rw [intsOf_eq ei] at rs
        exact rel_ints rs
      subst e0
      exact mt_lcount pins s σ H _ _ v us Q I r1 r2 ⟨p, ns, k, rfl, rfl, .inl (.inl q), P φ H (Nxt.refl φ H) R _ (by simp only [VRel])⟩
  · exact P.elim
/-! ### a constant tuple of ints -/
def ckTup (x : Str) (ns : List Int) : Ck := fun K => match PySem.W.nsIn K mainGlobals x with
  | some (some (.ref a)) => (match K.lookup a with
    | some ⟨.type "tuple", none, .seq its _, _⟩ => relAll (ns.map V.int) its.toList
    | _ => false)
  | _ => false
theorem ckTup_ok {K : PySem.W.Frag} {x : Str} {ns : List Int} (hl : ns.length ≤ 1000) (h : ckTup x ns K = true) : ∃ a, PySem.W.nsIn K mainGlobals x = some (some (.ref a)) ∧ ∀ H, SqT K H a (ns.map V.int) := by
  unfold ckTup at h
  split at h
  · rename_i a e
    split at h
    · rename_i its n sl el
      have r := relAll_ok h
      refine ⟨a, e, fun H => .inr ⟨_, its, n, el, rfl, rfl, ?_, r⟩⟩
      have := r.length
      rw [List.length_map] at this
      rw [← Array.length_toList, ← this, sizeLine_eq]
      omega
    · cases h
  · cases h
theorem Hyp.tup {cs : List Ck} {fn : List Df} {cl : List Str} {G : Glo} (h : Hyp cs fn cl G) (i : Nat) {x : Str} {ns : List Int} (e : cs[i]? = some (ckTup x ns)) (hl : ns.length ≤ 1000) : ∃ a, G.mg x = some (.ref a) ∧ ∀ H, SqT G.K H a (ns.map V.int) := by
  obtain ⟨a, e1, e2⟩ := ckTup_ok hl (h.ck i e)
  exact ⟨a, h.mgns x _ e1, e2⟩
theorem pex_gt {C : Cp} {x : Str} {ns : List Int} {pos : Pos} (hg : okG C x = true) (hm : ∃ a, C.G.mg x = some (.ref a) ∧ ∀ H, SqT C.G.K H a (ns.map V.int)) : PEx C (.Name x pos) (dC (.tup (ns.map D.int))) := by
  obtain ⟨h1, h2⟩ := ba hg
  obtain ⟨a, e, s⟩ := hm
  exact pex_glob (v := .ref a) h1 e rfl (fun φ H => by simp only [VRel]; exact ⟨a, ns.map V.int, rfl, s H, ints_rel ns⟩) (nb h2)
end Z

/-! Z30: what plain laws share, the second part. -/
namespace Z
open PySem PySem.Spec
theorem wp_whileGo {t : DT} {b : DS} {Q : Fl → Store → Prop} (I : Nat → En → Store → Prop) (hs : ∀ m env S, I m env S → WP (t env S) fun c S1 => if c = true then WP (b env S1) fun fl S2 => match fl with
      | .nx e' => ∃ m', m' < m ∧ I m' e' S2
      | .ct e' => ∃ m', m' < m ∧ I m' e' S2
      | .bk e' => Q (.nx e') S2
      | .rt d => Q (.rt d) S2
    else Q (.nx env) S1) : ∀ (f m : Nat) (env : En) (S : Store), m < f → I m env S → WP (whileGo t b f env S) Q
  | 0, m, env, S, h, _ => by omega
  | f + 1, m, env, S, h, hI => by
    unfold whileGo
    rw [WP_bind]
    refine WP_mono (hs m env S hI) fun c S1 w => ?_
    by_cases hc : c = true
    · rw [if_pos hc] at w ⊢
      rw [WP_bind]
      refine WP_mono w fun fl S2 w2 => ?_
      cases fl with
      | nx e' =>
        obtain ⟨m', hm, hI'⟩ := w2
        exact wp_whileGo I hs f m' e' S2 (by omega) hI'
      | ct e' =>
        obtain ⟨m', hm, hI'⟩ := w2
        exact wp_whileGo I hs f m' e' S2 (by omega) hI'
      | bk e' => exact WP_ok.mpr w2
      | rt d => exact WP_ok.mpr w2
    · rw [if_neg hc] at w ⊢
      exact WP_ok.mpr w
theorem wp_while {t : DT} {b : DS} {Q : Fl → Store → Prop} {env : En} {S : Store} (I : Nat → En → Store → Prop) (m : Nat) (hm : m ≤ 2 ^ 60) (h0 : I m env S) (hs : ∀ m env S, I m env S → WP (t env S) fun c S1 => if c = true then WP (b env S1) fun fl S2 => match fl with
      | .nx e' => ∃ m', m' < m ∧ I m' e' S2
      | .ct e' => ∃ m', m' < m ∧ I m' e' S2
      | .bk e' => Q (.nx e') S2
      | .rt d => Q (.rt d) S2
    else Q (.nx env) S1) : WP (whileGo t b FUEL env S) Q := wp_whileGo I hs FUEL m env S (by unfold FUEL; omega) h0
theorem sl_big {k : Nat} (h : k ≤ 1000) : k < sl := by
  have : sl = 16777216 := rfl
  omega
theorem wp_map2 {it : DI} {g : DG} {b : DE} {own : List Nat} {env : En} {S : Store} {Q : D → Store → Prop} (ds : List D) (f : Nat → D) (hl : ds.length ≤ sl)
    (hi : WP (it env S) fun J S1 => Sub S S1 ∧ (∀ k S2, k ≤ ds.length → Sub S1 S2 → J k S2 = some ds[k]?))
    (hb : ∀ k d S1, ds[k]? = some d → Sub S S1 → WP (g d (wipeE env own) S1) fun e S2 => WP (b e S2) fun y S3 => y = f k ∧ Sub S1 S3)
    (hQ : ∀ r S1, Sub S S1 → S1[r]? = some (.lst ((List.range ds.length).map f)) → Q (.ref r) S1) : WP (dLc it g tYes1 b own env S) Q := by
  refine wp_lc (WP_mono hi fun J S1 ⟨s1, hJ⟩ => ⟨ds.length, fun k acc S2 => Sub S1 S2 ∧ acc = (List.range k).map f, by have : sl = 16777216 := rfl; omega, ⟨Sub.refl _, rfl⟩, fun k acc S2 hk ⟨s2, ha⟩ => ⟨?_, ?_⟩, fun acc S2 ⟨s2, ha⟩ => ⟨?_, ?_⟩⟩)
  · rw [ha, List.length_map, List.length_range]; omega
  · refine ⟨ds[k], by rw [hJ k S2 (Nat.le_of_lt hk) s2, List.getElem?_eq_getElem hk], WP_mono (hb k ds[k] S2 (List.getElem?_eq_getElem hk) (s1.trans s2)) fun e S3 w => ?_⟩
    refine WP_ok.mpr ?_
    rw [if_pos rfl]
    refine WP_mono w fun y S4 ⟨ey, s4⟩ => ⟨s2.trans s4, ?_⟩
    rw [ha, ey, List.range_succ, List.map_append]; rfl
  · rw [hJ _ S2 (Nat.le_refl _) s2]; simp
  · rw [ha]; exact hQ _ _ ((s1.trans s2).trans (Sub.push _ _)) push_at
theorem sl1000 {n : Nat} (h : n ≤ 1000) : n ≤ sl := Nat.le_of_lt (sl_big h)
theorem wp_fm {α : Type} {it : DI} {g : DG} {t : DT} {b : DE} {own : List Nat} {env : En} {S : Store} {Q : D → Store → Prop} (l : List α) (e : α → D) (p : α → Bool) (f : α → D) (hl : l.length ≤ 1000)
    (hi : WP (it env S) fun J S1 => Sub S S1 ∧ (∀ k S2, k ≤ l.length → Sub S1 S2 → J k S2 = some (l.map e)[k]?))
    (hb : ∀ a S1, a ∈ l → Sub S S1 → WP (g (e a) (wipeE env own) S1) fun e' S2 => WP (t e' S2) fun c S3 => c = p a ∧ Sub S1 S3 ∧ (p a = true → WP (b e' S3) fun y S4 => y = f a ∧ Sub S3 S4))
    (hQ : ∀ r S1, Sub S S1 → S1[r]? = some (.lst ((l.filter p).map f)) → Q (.ref r) S1) : WP (dLc it g t b own env S) Q := by
  refine wp_lc (WP_mono hi fun J S1 ⟨s1, hJ⟩ => ⟨l.length, fun k acc S2 => Sub S1 S2 ∧ acc = ((l.take k).filter p).map f, by have : sl = 16777216 := rfl; omega, ⟨Sub.refl _, by simp⟩, fun k acc S2 hk ⟨s2, ha⟩ => ⟨?_, ?_⟩, fun acc S2 ⟨s2, ha⟩ => ⟨?_, ?_⟩⟩)
  · rw [ha, List.length_map]
    have := List.length_filter_le p (l.take k)
    have h2 : (l.take k).length ≤ l.length := by rw [List.length_take]; omega
    have : sl = 16777216 := rfl
    omega
  · refine ⟨e l[k], by rw [hJ k S2 (Nat.le_of_lt hk) s2, List.getElem?_map, List.getElem?_eq_getElem hk]; rfl, WP_mono (hb l[k] S2 (List.getElem_mem hk) (s1.trans s2)) fun e' S3 w => ?_⟩
    have et : l.take (k + 1) = l.take k ++ [l[k]] := by rw [List.take_succ, List.getElem?_eq_getElem hk]; rfl
    refine WP_mono w fun c S4 ⟨ec, s4, w2⟩ => ?_
    subst ec
    cases hp : p l[k] with
    | true =>
      rw [if_pos rfl]
      refine WP_mono (w2 hp) fun y S5 ⟨ey, s5⟩ => ⟨(s2.trans s4).trans s5, ?_⟩
      rw [ha, ey, et, List.filter_append, List.map_append]
      simp [hp]
    | false =>
      rw [if_neg (by decide)]
      exact ⟨s2.trans s4, by rw [ha, et, List.filter_append, List.map_append]; simp [hp]⟩
  · rw [hJ _ S2 (Nat.le_refl _) s2]; simp
  · rw [ha, List.take_length]; exact hQ _ _ ((s1.trans s2).trans (Sub.push _ _)) push_at
theorem filter_yes {α : Type} (l : List α) : l.filter (fun _ => true) = l := by simp
theorem jE_at {S : Store} {x : D} {ds : List D} {k : Nat} (h : itemsD S x = some ds) (hk : k ≤ ds.length) : jEnum x k S = some ((ds.zipIdx.map fun z => D.tup [.int (z.2 : Int), z.1])[k]?) := by
  unfold jEnum
  rw [h]
  dsimp only
  by_cases h2 : k < ds.length
  · rw [List.getElem?_eq_getElem h2]
    simp [List.getElem?_zipIdx, List.getElem?_eq_getElem h2]
  · have : k = ds.length := by omega
    subst this
    rw [List.getElem?_eq_none (Nat.le_refl _), List.getElem?_eq_none (by simp)]
    dsimp only
    rw [if_pos rfl]
theorem q_enum {r : DA} {env : En} {S : Store} : iEnum r env S = (r env S).bind fun xs S1 => match xs with
  | [x] => if (itemsD S1 x).isSome then .ok (jEnum x) S1 else .bad
  | _ => .bad := rfl
theorem enum1 {A : DE} {x : D} {env : En} {S : Store} (hA : A env S = .ok x S) (h : (itemsD S x).isSome = true) : iEnum (dCons A dNil) env S = .ok (jEnum x) S := by
  have e : dCons A dNil env S = .ok [x] S := by
    show (A env S).bind _ = _
    rw [hA]; rfl
  unfold iEnum
  rw [e]
  exact if_pos h
theorem zip_map {α : Type} (l : List α) (f : α → D) : (l.map f).zipIdx.map (fun z => D.tup [.int (z.2 : Int), z.1]) = l.zipIdx.map fun z => D.tup [.int (z.2 : Int), f z.1] := by
  refine List.ext_getElem? fun k => ?_
  simp only [List.getElem?_map, List.getElem?_zipIdx, Option.map_map]
  cases l[k]? <;> rfl
theorem o_eqP {S : Store} {d e : D} {p q : PyData} (h : toPy S 60 d = some p) (h' : toPy S 60 e = some q) : oEq d e S = some (.bl (PyData.eqv p q), S) := by
  unfold oEq eqD
  rw [h, h']; rfl
theorem o_neP {S : Store} {d e : D} {p q : PyData} (h : toPy S 60 d = some p) (h' : toPy S 60 e = some q) : oNe d e S = some (.bl (!PyData.eqv p q), S) := by
  unfold oNe eqD
  rw [h, h']; rfl
theorem eqv_self {p : PyData} (h : p.canLay0 = true) : PyData.eqv p p = true := SeqAt.eqv_refl p h
theorem isi_int {S : Store} {i : Int} : bIsi [.int i, .ty "int"] S = some (.bl true, S) := rfl
theorem isi_ib {S : Store} {i : Int} : bIsi [.int i, .ty "bool"] S = some (.bl false, S) := rfl
theorem isi_tt {S : Store} {ds : List D} : bIsi [.tup ds, .ty "tuple"] S = some (.bl true, S) := rfl
theorem q_mth {env : En} {S : Store} {c : Nat} {F : Fn} {o : DE} {r : DA} : dMth c F o r env S = (o env S).bind fun x S1 => if isC c x S1 = true then (r env S1).bind fun xs S2 => F (x :: xs) S2 else .bad := rfl
/-- an int below the bound -/
def Sm (i : Int) : Prop := -(10 ^ 60) < i ∧ i < 10 ^ 60
theorem all_true {S : Store} {r : Nat} {ds : List D} (h : S[r]? = some (.lst ds)) (hd : ∀ d ∈ ds, d = .bl true) : fAll (.ref r) S = some (.bl true, S) := by
  unfold fAll
  rw [itemsLR h]
  have e : ∀ l : List D, (∀ d ∈ l, d = .bl true) → blsOf l = some (l.map fun _ => true) := by
    intro l
    induction l with
    | nil => intro _; rfl
    | cons a l ih =>
      intro hl
      rw [hl a List.mem_cons_self]
      show (blsOf l).map (true :: ·) = _
      rw [ih fun d hd => hl d (List.mem_cons_of_mem _ hd)]; rfl
  rw [Option.bind_some, e ds hd]
  simp
/-- all items of a tuple judged true by a def that keeps the store -/
theorem q_sfld {tb : List (Nat × Nat)} {o a : DE} {env : En} {S : Store} : sFld tb o a env S = (a env S).bind fun x S1 => (o env S1).bind fun y S2 => match setF tb y x S2 with
  | some S3 => .ok (.nx env) S3
  | none => .bad := rfl
theorem setF1 {S : Store} {p c j : Nat} {x : D} {vs : List (Option D)} (h : S[p]? = some (.slt c vs)) : setF [(c, j)] (.ref p) x S = some (S.set p (.slt c (putD j x vs))) := by
  simp [setF, h]
theorem getF1 {S : Store} {p c j : Nat} {x : D} {vs : List (Option D)} (h : S[p]? = some (.slt c vs)) (hv : vs[j]? = some (some x)) : getF [(c, j)] (.ref p) S = some x := by
  simp [getF, h, hv]
theorem isC1 {S : Store} {p c : Nat} {vs : List (Option D)} (h : S[p]? = some (.slt c vs)) : isC c (.ref p) S = true := by
  simp [isC, h]
theorem q_mk {c : Nat} {F : Fn} {r : DA} {env : En} {S : Store} : dMk c F r env S = (r env S).bind fun xs S1 => (F (.ref S1.length :: xs) (S1 ++ [.slt c []])).bind fun v S2 => match v with
  | .non => .ok (.ref S1.length) S2
  | _ => .bad := rfl
theorem z1 : ((0 + 1 : Nat) ≤ sl) = True := eq_true (by decide)
theorem z2 : ((0 + 1 + 1 : Nat) ≤ sl) = True := eq_true (by decide)
theorem z2' : ((1 + 1 : Nat) ≤ sl) = True := eq_true (by decide)
theorem z3 : ((0 + 1 + 1 + 1 : Nat) ≤ sl) = True := eq_true (by decide)
theorem z3' : ((1 + 1 + 1 : Nat) ≤ sl) = True := eq_true (by decide)
theorem z4 : ((0 + 1 + 1 + 1 + 1 : Nat) ≤ sl) = True := eq_true (by decide)
theorem z4' : ((1 + 1 + 1 + 1 : Nat) ≤ sl) = True := eq_true (by decide)
theorem z5 : ((0 + 1 + 1 + 1 + 1 + 1 : Nat) ≤ sl) = True := eq_true (by decide)
theorem z5' : ((1 + 1 + 1 + 1 + 1 : Nat) ≤ sl) = True := eq_true (by decide)
theorem q_prp {c : Nat} {F : Fn} {o : DE} {env : En} {S : Store} : dPrp c F o env S = (o env S).bind fun x S1 => if isC c x S1 = true then (F [x] S1).cut else .bad := rfl
theorem q_mkv {i c : Nat} {F : Fn} {r : DA} {env : En} {S : Store} : dMkV i c F r env S = match env[i]? with
  | some (some (.st c')) => if c' = c then dMk c F r env S else .bad
  | _ => .bad := rfl
theorem q_cm {c : Nat} {F : Fn} {o : DE} {r : DA} {env : En} {S : Store} : dCm c F o r env S = (o env S).bind fun x S1 => match x with
  | .st c' => if c' = c then (r env S1).bind fun xs S2 => (F (.st c :: xs) S2).cut else .bad
  | _ => .bad := rfl
theorem dec_nat {a b : Nat} : decide ((a : Int) = (b : Int)) = decide (a = b) := by
  by_cases h : a = b
  · subst h; simp
  · rw [decide_eq_false h]
    exact decide_eq_false (by omega)
theorem range_of {α : Type} {l : List α} {f : Nat → D} {g : α → D} (h : ∀ k a, l[k]? = some a → f k = g a) : (List.range l.length).map f = l.map g := by
  refine List.ext_getElem? fun k => ?_
  by_cases hk : k < l.length
  · rw [List.getElem?_map, List.getElem?_range hk, List.getElem?_map, List.getElem?_eq_getElem hk]
    show some (f k) = some (g l[k])
    rw [h k l[k] (List.getElem?_eq_getElem hk)]
  · rw [List.getElem?_eq_none (by simp; omega), List.getElem?_eq_none (by simp; omega)]
theorem fmtS {y : Str} (h : y.length ≤ 1000) : fmtO (.str y) = some y := by
  exact if_pos (by have : sl = 16777216 := rfl; omega)
theorem q_fmt {a : DE} {env : En} {S : Store} : dFmt a env S = (a env S).bind fun x S1 => match fmtO x with
  | some y => .ok (.str y) S1
  | none => .bad := rfl
theorem q_js {ds : List DE} {env : En} {S : Store} : dJs ds env S = goJ ds Str.empty env S := rfl
theorem q_jn {acc : Str} {env : En} {S : Store} : goJ [] acc env S = .ok (.str acc) S := rfl
theorem q_jc {d : DE} {ds : List DE} {acc : Str} {env : En} {S : Store} : goJ (d :: ds) acc env S = (d env S).bind fun x S1 => match x with
    | .str y => if (acc ++ y).length ≤ sl then goJ ds (acc ++ y) env S1 else .bad
    | _ => .bad := rfl
theorem q_meS {f : Mf} {o a : DE} {env : En} {S : Store} : dMethS f o a env S = (o env S).bind fun x S1 => if isS x = true then (a env S1).bind fun y S2 => ofO (f x [y] S2) else .bad := rfl
theorem strs_map : ∀ l : List Str, strsOf (l.map D.str) = some l
  | [] => rfl
  | a :: l => by
    show (strsOf (l.map D.str)).map (a :: ·) = _
    rw [strs_map l]; rfl
theorem join_le {x : Str} {l : List Str} {B n : Nat} (hx : x.length ≤ 1) (hl : ∀ y ∈ l, y.length ≤ B) (hn : l.length ≤ n) : (l.map (·.length)).sum + l.length * x.length ≤ n * (B + 1) ∧ (Txt.join x l).length ≤ n * (B + 1) := by
  have e : (l.map (·.length)).sum ≤ l.length * B := by
    clear hn
    induction l with
    | nil => simp
    | cons a l ih =>
      rw [List.map_cons, List.sum_cons, List.length_cons, Nat.succ_mul]
      have := hl a List.mem_cons_self
      have := ih fun y hy => hl y (List.mem_cons_of_mem _ hy)
      omega
  have e1 : l.length * B ≤ n * B := Nat.mul_le_mul_right _ hn
  have e2 : l.length * x.length ≤ l.length * 1 := Nat.mul_le_mul_left _ hx
  refine ⟨by rw [Nat.mul_succ]; omega, ?_⟩
  show (Builtin.Str.glued x l).length ≤ _
  rw [StrLaws.glued_eq_join]
  cases l with
  | nil => exact Nat.zero_le _
  | cons a r =>
    rw [PyProof.Rows.len_join_cons, Nat.mul_succ]
    have e3 : r.length * x.length ≤ r.length * 1 := Nat.mul_le_mul_left _ hx
    rw [List.length_cons] at hn
    omega
theorem addS {x y : Str} (h : x.length + y.length ≤ 1000) : oAdd (.str x) (.str y) S = some (.str (x ++ y), S) := by
  show (if x.length + y.length ≤ sl then some (D.str (x ++ y), S) else none) = _
  rw [if_pos (by have : sl = 16777216 := rfl; omega)]
theorem ok_app {x y : Str} (h : PyData.strOk x = true) (h' : PyData.strOk y = true) : PyData.strOk (x ++ y) = true := by
  unfold PyData.strOk at *
  rw [Str.cps_append, Array.all_append, h, h']; rfl
theorem ok_join {x : Str} (hx : PyData.strOk x = true) : ∀ l : List Str, (∀ y ∈ l, PyData.strOk y = true) → PyData.strOk (Str.join x l) = true
  | [], _ => by show PyData.strOk Str.empty = true; decide +kernel
  | [a], h => h a List.mem_cons_self
  | a :: b :: r, h => by
    show PyData.strOk (a ++ x ++ Str.join x (b :: r)) = true
    exact ok_app (ok_app (h a List.mem_cons_self) hx) (ok_join hx (b :: r) fun y hy => h y (List.mem_cons_of_mem _ hy))
theorem ne_bl {a b : Bool} (h : a = b) : oNe (.bl a) (.bl b) S = some (.bl false, S) := by
  subst h
  exact o_neS (p := .bool a) rfl rfl
end Z

/-! Z31: rows of ints as polynomials: plain laws. -/
namespace Z
def cf (l : List Int) (n : Nat) : Int := l.getD n 0
theorem cf_nil (n : Nat) : cf [] n = 0 := rfl
theorem cf_zero (a : Int) (l : List Int) : cf (a :: l) 0 = a := rfl
theorem cf_succ (a : Int) (l : List Int) (n : Nat) : cf (a :: l) (n + 1) = cf l n := rfl
theorem cf_get {l : List Int} {n : Nat} (h : n < l.length) : cf l n = l[n] := by
  unfold cf
  rw [List.getD_eq_getElem?_getD, List.getElem?_eq_getElem h]; rfl
theorem cf_out {l : List Int} {n : Nat} (h : l.length ≤ n) : cf l n = 0 := by
  unfold cf
  rw [List.getD_eq_getElem?_getD, List.getElem?_eq_none h]; rfl
/-- zeros at the end left out -/
def tr : List Int → List Int
  | [] => []
  | a :: l => if a = 0 ∧ tr l = [] then [] else a :: tr l
theorem cf_tr : ∀ (l : List Int) (n : Nat), cf (tr l) n = cf l n
  | [], _ => rfl
  | a :: l, n => by
    unfold tr
    split
    · rename_i h
      cases n with
      | zero => rw [cf_nil, cf_zero, h.1]
      | succ n => rw [cf_nil, cf_succ, ← cf_tr l n, h.2, cf_nil]
    · cases n with
      | zero => rfl
      | succ n => rw [cf_succ, cf_succ, cf_tr l n]
theorem tr_nil : ∀ {l : List Int}, (∀ n, cf l n = 0) → tr l = []
  | [], _ => rfl
  | a :: l, h => by
    unfold tr
    rw [if_pos ⟨h 0, tr_nil fun n => h (n + 1)⟩]
theorem tr_ext : ∀ {l m : List Int}, (∀ n, cf l n = cf m n) → tr l = tr m
  | [], m, h => (tr_nil fun n => (h n).symm).symm
  | a :: l, [], h => tr_nil h
  | a :: l, b :: m, h => by
    have e : tr l = tr m := tr_ext fun n => h (n + 1)
    have e0 : a = b := h 0
    unfold tr
    rw [e, e0]
theorem tr_tr (l : List Int) : tr (tr l) = tr l := tr_ext (cf_tr l)
theorem tr_ext' {l m : List Int} (h : ∀ n, cf l n = cf m n) (hl : tr l = l) (hm : tr m = m) : l = m := by
  rw [← hl, ← hm]; exact tr_ext h
theorem tr_len (l : List Int) : (tr l).length ≤ l.length := by
  induction l with
  | nil => exact Nat.le_refl _
  | cons a l ih =>
    unfold tr
    split
    · exact Nat.zero_le _
    · simp; exact ih
theorem tr_mem {l : List Int} {x : Int} (h : x ∈ tr l) : x ∈ l := by
  induction l with
  | nil => exact h
  | cons a l ih =>
    unfold tr at h
    split at h
    · cases h
    · rcases List.mem_cons.mp h with z | z
      · rw [z]; exact List.mem_cons_self
      · exact List.mem_cons_of_mem _ (ih z)
theorem tr_fix : ∀ {l : List Int}, (l = [] ∨ cf l (l.length - 1) ≠ 0) → tr l = l
  | [], _ => rfl
  | [a], h => by
    have h : a ≠ 0 := h.resolve_left (by simp)
    unfold tr
    rw [if_neg fun z => h z.1]; rfl
  | a :: b :: l, h => by
    have h : cf (a :: b :: l) ((a :: b :: l).length - 1) ≠ 0 := h.resolve_left (by simp)
    have h2 : cf (b :: l) ((b :: l).length - 1) ≠ 0 := h
    have e : tr (b :: l) = b :: l := tr_fix (.inr h2)
    rw [tr, e, if_neg fun z => by cases z.2]
theorem tr_last : ∀ {l : List Int}, tr l = l → l ≠ [] → cf l (l.length - 1) ≠ 0
  | [], _, h => absurd rfl h
  | [a], h, _ => fun z => by
    have z : a = 0 := z
    unfold tr at h
    rw [if_pos ⟨z, rfl⟩] at h
    cases h
  | a :: b :: l, h, _ => by
    have e : tr (b :: l) = b :: l := by
      rw [tr] at h
      split at h
      · cases h
      · exact (List.cons.inj h).2
    have h2 := tr_last e (by simp)
    exact h2
theorem cf_take {l : List Int} {k n : Nat} : cf (l.take k) n = if n < k then cf l n else 0 := by
  unfold cf
  rw [List.getD_eq_getElem?_getD, List.getD_eq_getElem?_getD, List.getElem?_take]
  split <;> rfl
theorem tr_take {l : List Int} {k : Nat} (hk : k ≤ l.length) (hz : ∀ n, k ≤ n → cf l n = 0) (h : k = 0 ∨ cf l (k - 1) ≠ 0) : tr l = l.take k := by
  have e : tr l = tr (l.take k) := tr_ext fun n => by
    rw [cf_take]
    split
    · rfl
    · exact hz n (by omega)
  rw [e]
  refine tr_fix ?_
  rcases h with h | h
  · left; rw [h]; rfl
  · by_cases h0 : k = 0
    · left; rw [h0]; rfl
    · right
      rw [List.length_take, Nat.min_eq_left hk, cf_take, if_pos (by omega)]
      exact h
/-- the product of a row with coefficients -/
def cv : List Int → (Nat → Int) → Nat → Int
  | [], _, _ => 0
  | a :: p, g, 0 => a * g 0
  | a :: p, g, n + 1 => a * g (n + 1) + cv p g n
theorem cv_z (a : Int) (p : List Int) (g : Nat → Int) : cv (a :: p) g 0 = a * g 0 := rfl
theorem cv_s (a : Int) (p : List Int) (g : Nat → Int) (n : Nat) : cv (a :: p) g (n + 1) = a * g (n + 1) + cv p g n := rfl
theorem cv_out : ∀ {p : List Int} {g : Nat → Int} {L n : Nat}, (∀ n, L ≤ n → g n = 0) → p.length + L ≤ n + 1 → cv p g n = 0
  | [], _, _, _, _, _ => rfl
  | a :: p, g, L, 0, h, hn => by
    have : L = 0 := by simp at hn; omega
    rw [cv_z, h 0 (by omega), Int.mul_zero]
  | a :: p, g, L, n + 1, h, hn => by
    simp only [List.length_cons] at hn
    rw [cv_s, h (n + 1) (by omega), Int.mul_zero, cv_out (L := L) h (by omega)]; rfl
theorem cv_null : ∀ {p : List Int} (g : Nat → Int) (n : Nat), (∀ n, cf p n = 0) → cv p g n = 0
  | [], _, _, _ => rfl
  | a :: p, g, 0, h => by
    have : a = 0 := h 0
    rw [cv_z, this, Int.zero_mul]
  | a :: p, g, n + 1, h => by
    have : a = 0 := h 0
    rw [cv_s, this, Int.zero_mul, cv_null g n fun n => h (n + 1)]; rfl
theorem cv_ext : ∀ {p q : List Int} (g : Nat → Int) (n : Nat), (∀ n, cf p n = cf q n) → cv p g n = cv q g n
  | [], q, g, n, h => (cv_null g n fun n => (h n).symm).symm
  | a :: p, [], g, n, h => cv_null g n h
  | a :: p, b :: q, g, 0, h => by
    have : a = b := h 0
    rw [cv_z, cv_z, this]
  | a :: p, b :: q, g, n + 1, h => by
    have : a = b := h 0
    rw [cv_s, cv_s, this, cv_ext g n fun n => h (n + 1)]
theorem cv_fun : ∀ {p : List Int} {g h : Nat → Int} (n : Nat), (∀ n, g n = h n) → cv p g n = cv p h n
  | [], _, _, _, _ => rfl
  | a :: p, g, h, 0, e => by rw [cv_z, cv_z, e]
  | a :: p, g, h, n + 1, e => by rw [cv_s, cv_s, e, cv_fun n e]
/-- sums and multiples of rows -/
def adl : List Int → List Int → List Int
  | [], m => m
  | l, [] => l
  | a :: l, b :: m => (a + b) :: adl l m
theorem cf_adl : ∀ (l m : List Int) (n : Nat), cf (adl l m) n = cf l n + cf m n
  | [], m, n => by simp [adl, cf_nil]
  | a :: l, [], n => by simp [adl, cf_nil]
  | a :: l, b :: m, 0 => rfl
  | a :: l, b :: m, n + 1 => by
    rw [adl, cf_succ, cf_succ, cf_succ, cf_adl]
theorem cv_adl : ∀ (l m : List Int) (g : Nat → Int) (n : Nat), cv (adl l m) g n = cv l g n + cv m g n
  | [], m, g, n => by simp [adl, cv]
  | a :: l, [], g, n => by simp [adl, cv]
  | a :: l, b :: m, g, 0 => by rw [adl, cv_z, cv_z, cv_z, Int.add_mul]
  | a :: l, b :: m, g, n + 1 => by
    rw [adl, cv_s, cv_s, cv_s, Int.add_mul, cv_adl]; omega
theorem cf_smul (c : Int) : ∀ (l : List Int) (n : Nat), cf (l.map (c * ·)) n = c * cf l n
  | [], n => by simp [cf_nil]
  | a :: l, 0 => rfl
  | a :: l, n + 1 => by rw [List.map_cons, cf_succ, cf_succ, cf_smul c l n]
theorem cv_smul (c : Int) : ∀ (l : List Int) (g : Nat → Int) (n : Nat), cv (l.map (c * ·)) g n = c * cv l g n
  | [], g, n => by simp [cv]
  | a :: l, g, 0 => by rw [List.map_cons, cv_z, cv_z, Int.mul_assoc]
  | a :: l, g, n + 1 => by rw [List.map_cons, cv_s, cv_s, cv_smul c l g n, Int.mul_add, Int.mul_assoc]
def mll : List Int → List Int → List Int
  | [], _ => []
  | a :: p, q => adl (q.map (a * ·)) (0 :: mll p q)
theorem cf_mll : ∀ (p q : List Int) (n : Nat), cf (mll p q) n = cv p (cf q) n
  | [], q, n => rfl
  | a :: p, q, 0 => by rw [mll, cf_adl, cf_smul, cf_zero, Int.add_zero, cv_z]
  | a :: p, q, n + 1 => by rw [mll, cf_adl, cf_smul, cf_succ, cf_mll p q n, cv_s]
theorem cv_mll : ∀ (p q : List Int) (g : Nat → Int) (n : Nat), cv (mll p q) g n = cv p (cv q g) n
  | [], q, g, n => rfl
  | a :: p, q, g, 0 => by rw [mll, cv_adl, cv_smul, cv_z, cv_z, Int.zero_mul, Int.add_zero]
  | a :: p, q, g, n + 1 => by rw [mll, cv_adl, cv_smul, cv_s, cv_s, cv_mll p q g n, Int.zero_mul, Int.zero_add]
def PM (p q : List Int) : List Int := tr (mll p q)
theorem cf_PM (p q : List Int) (n : Nat) : cf (PM p q) n = cv p (cf q) n := by
  unfold PM; rw [cf_tr, cf_mll]
theorem tr_PM (p q : List Int) : tr (PM p q) = PM p q := tr_tr _
theorem PM_assoc (p q r : List Int) : PM (PM p q) r = PM p (PM q r) := tr_ext' (fun n => by
  rw [cf_PM, cf_PM, cv_ext (q := mll p q) (cf r) n fun n => by rw [cf_PM, cf_mll], cv_mll]
  exact cv_fun n fun n => (cf_PM q r n).symm) (tr_PM _ _) (tr_PM _ _)
theorem cv_one : ∀ (p : List Int) (n : Nat), cv p (cf [1]) n = cf p n
  | [], n => rfl
  | a :: p, 0 => by rw [cv_z]; show a * 1 = a; rw [Int.mul_one]
  | a :: p, n + 1 => by rw [cv_s, cv_one p n]; show a * 0 + _ = _; rw [Int.mul_zero, Int.zero_add]; rfl
theorem PM_one (p : List Int) : PM p [1] = tr p := by
  have : tr (PM p [1]) = tr p := tr_ext fun n => by rw [cf_PM, cv_one]
  rw [← this, tr_PM]
theorem one_PM (p : List Int) : PM [1] p = tr p := by
  have : tr (PM [1] p) = tr p := tr_ext fun n => by
    rw [cf_PM]
    cases n with
    | zero => rw [cv_z, Int.one_mul]
    | succ n => rw [cv_s, Int.one_mul]; show _ + 0 = _; rw [Int.add_zero]
  rw [← this, tr_PM]
def PW (p : List Int) : Nat → List Int
  | 0 => [1]
  | k + 1 => PM (PW p k) p
theorem tr_PW (p : List Int) (k : Nat) : tr (PW p k) = PW p k := by
  cases k with
  | zero => rfl
  | succ k => exact tr_PM _ _
theorem PW_add (p : List Int) (a b : Nat) : PM (PW p a) (PW p b) = PW p (a + b) := by
  induction b with
  | zero => show PM _ [1] = _; rw [PM_one, tr_PW]; rfl
  | succ b ih => show PM _ (PM _ p) = PM _ p; rw [← PM_assoc, ih]; rfl
theorem PW_one {p : List Int} (h : tr p = p) : PW p 1 = p := by
  show PM [1] p = p
  rw [one_PM, h]
/-- the sum so far -/
theorem cv_take : ∀ (l : List Int) (g : Nat → Int) (k n : Nat), cv (l.take (k + 1)) g n = cv (l.take k) g n + (if k ≤ n then cf l k * g (n - k) else 0)
  | [], g, k, n => by simp [cv, cf_nil]
  | a :: l, g, 0, 0 => by simp [cv, cf_zero]
  | a :: l, g, 0, n + 1 => by
    rw [show (a :: l).take (0 + 1) = [a] from by simp, show (a :: l).take 0 = [] from rfl, cv_s]
    simp [cv, cf_zero]
  | a :: l, g, k + 1, 0 => by
    rw [show (a :: l).take (k + 1 + 1) = a :: l.take (k + 1) from rfl, show (a :: l).take (k + 1) = a :: l.take k from rfl, cv_z, cv_z]
    simp
  | a :: l, g, k + 1, n + 1 => by
    rw [show (a :: l).take (k + 1 + 1) = a :: l.take (k + 1) from rfl, show (a :: l).take (k + 1) = a :: l.take k from rfl, cv_s, cv_s, cv_take l g k n, cf_succ]
    simp only [Nat.add_le_add_iff_right, Nat.add_sub_add_right]
    omega
theorem cf_range {N : Nat} {f : Nat → Int} {n : Nat} : cf ((List.range N).map f) n = if n < N then f n else 0 := by
  unfold cf
  rw [List.getD_eq_getElem?_getD]
  by_cases h : n < N
  · rw [if_pos h, List.getElem?_map, List.getElem?_range h]; rfl
  · rw [if_neg h, List.getElem?_eq_none (by simp; omega)]; rfl
theorem PM_range {p q : List Int} {N : Nat} (h : p.length + q.length ≤ N + 1) : tr ((List.range N).map (cv p (cf q))) = PM p q := by
  rw [← tr_PM]
  refine tr_ext fun n => ?_
  rw [cf_range, cf_PM]
  split
  · rfl
  · exact (cv_out (L := q.length) (fun n hn => cf_out hn) (by omega)).symm
theorem range_set {N m : Nat} {f : Nat → Int} {v : Int} : ((List.range N).map f).set m v = (List.range N).map fun n => if n = m then v else f n := by
  refine List.ext_getElem? fun k => ?_
  rw [List.getElem?_set]
  by_cases h : k < N
  · rw [List.getElem?_map, List.getElem?_map, List.getElem?_range h]
    by_cases e : m = k
    · subst e
      simp [h]
    · simp [e, Ne.symm e]
  · rw [List.getElem?_eq_none (by simp; omega), List.getElem?_eq_none (by simp; omega)]
    simp; omega
/-! bounds -/
def Bn (B : Nat) (l : List Int) : Prop := ∀ x ∈ l, x.natAbs ≤ B
theorem Bn.mono {B C : Nat} {l : List Int} (h : Bn B l) (hc : B ≤ C) : Bn C l := fun x hx => Nat.le_trans (h x hx) hc
theorem Bn.tr {B : Nat} {l : List Int} (h : Bn B l) : Bn B (tr l) := fun x hx => h x (tr_mem hx)
theorem Bn.cf {B : Nat} {l : List Int} (h : Bn B l) (n : Nat) : (cf l n).natAbs ≤ B := by
  by_cases hn : n < l.length
  · rw [cf_get hn]; exact h _ (List.getElem_mem hn)
  · rw [cf_out (by omega)]; exact Nat.zero_le _
theorem cv_bd {A B : Nat} : ∀ {p : List Int} {g : Nat → Int} (n : Nat), Bn A p → (∀ n, (g n).natAbs ≤ B) → (cv p g n).natAbs ≤ p.length * (A * B)
  | [], _, _, _, _ => Nat.zero_le _
  | a :: p, g, 0, h, hg => by
    rw [cv_z, Int.natAbs_mul, List.length_cons, Nat.succ_mul]
    have := Nat.mul_le_mul (h a List.mem_cons_self) (hg 0)
    omega
  | a :: p, g, n + 1, h, hg => by
    have h1 : (a * g (n + 1)).natAbs ≤ A * B := by
      rw [Int.natAbs_mul]; exact Nat.mul_le_mul (h a List.mem_cons_self) (hg _)
    have h2 := cv_bd (p := p) n (fun x hx => h x (List.mem_cons_of_mem _ hx)) hg
    rw [cv_s, List.length_cons, Nat.succ_mul]
    have := Int.natAbs_add_le (a * g (n + 1)) (cv p g n)
    omega
theorem cv_bd2 {A B : Nat} {p q : List Int} (n : Nat) (hp : Bn A p) (hq : Bn B q) : (cv p (cf q) n).natAbs ≤ p.length * (A * B) := cv_bd n hp hq.cf
theorem Bn.ofcf {B : Nat} {l : List Int} (h : ∀ n, (Z.cf l n).natAbs ≤ B) : Bn B l := fun x hx => by
  obtain ⟨n, hn, rfl⟩ := List.mem_iff_getElem.mp hx
  rw [← cf_get hn]; exact h n
theorem Bn.PM {A B : Nat} {p q : List Int} (hp : Bn A p) (hq : Bn B q) : Bn (p.length * (A * B)) (PM p q) := .ofcf fun n => by
  rw [cf_PM]; exact cv_bd2 n hp hq
theorem mll_len : ∀ (p q : List Int), (mll p q).length ≤ p.length + q.length
  | [], q => by simp [mll]
  | a :: p, q => by
    have e : ∀ l m : List Int, (adl l m).length ≤ max l.length m.length := by
      intro l
      induction l with
      | nil => intro m; simp [adl]
      | cons a l ih =>
        intro m
        cases m with
        | nil => simp [adl]
        | cons b m =>
          have := ih m
          simp only [adl, List.length_cons]
          omega
    have h1 := e (q.map (a * ·)) (0 :: mll p q)
    have h2 := mll_len p q
    rw [mll]
    simp only [List.length_map, List.length_cons] at *
    omega
theorem PM_len (p q : List Int) : (PM p q).length ≤ p.length + q.length := Nat.le_trans (tr_len _) (mll_len p q)
end Z

/-! Z32: tuples and lists of ints. -/
namespace Z
open PySem PySem.Spec
def iL (l : List Int) : List D := l.map D.int
theorem iL_len (l : List Int) : (iL l).length = l.length := by unfold iL; rw [List.length_map]
theorem iL_at {l : List Int} {k : Nat} (h : k < l.length) : (iL l)[k]? = some (.int l[k]) := by
  unfold iL; rw [List.getElem?_map, List.getElem?_eq_getElem h]; rfl
theorem iL_app (l m : List Int) : iL l ++ iL m = iL (l ++ m) := by unfold iL; rw [List.map_append]
theorem iL_rev (l : List Int) : (iL l).reverse = iL l.reverse := by unfold iL; rw [List.map_reverse]
theorem iL_take (l : List Int) (k : Nat) : (iL l).take k = iL (l.take k) := by unfold iL; rw [List.map_take]
theorem iL_rep (k : Nat) (i : Int) : (List.replicate k [D.int i]).flatten = iL (List.replicate k i) := by
  unfold iL
  induction k with
  | zero => rfl
  | succ k ih => rw [List.replicate_succ, List.flatten_cons, ih, List.replicate_succ]; rfl
theorem iL_set (l : List Int) (k : Nat) (i : Int) : (iL l).set k (.int i) = iL (l.set k i) := by unfold iL; rw [List.map_set]
/-- a tuple or a list of ints -/
def Sq (S : Store) (x : D) (l : List Int) : Prop := x = .tup (iL l) ∨ ∃ r, x = .ref r ∧ S[r]? = some (.lst (iL l))
section
variable {S S' : Store} {x : D} {l m : List Int} {k r : Nat}
theorem Sq.tup : Sq S (.tup (iL l)) l := .inl rfl
theorem Sq.lst (h : S[r]? = some (.lst (iL l))) : Sq S (.ref r) l := .inr ⟨r, rfl, h⟩
theorem Sq.sub (h : Sq S x l) (s : Sub S S') : Sq S' x l := h.elim .inl fun ⟨r, e, h⟩ => .inr ⟨r, e, s _ _ h⟩
theorem Sq.items (h : Sq S x l) : itemsD S x = some (iL l) := by
  rcases h with rfl | ⟨r, rfl, h⟩
  · rfl
  · exact itemsR h
theorem Sq.len (h : Sq S x l) : fLen x S = some (.int l.length, S) := by
  rcases h with rfl | ⟨r, rfl, h⟩
  · rw [f_lenT, iL_len]
  · rw [f_lenR h, iL_len]
theorem Sq.ixI {i : Int} (h : Sq S x l) : oIx x (.int i) S = (L2.atI (iL l) i).map fun y => (y, S) := by
  rcases h with rfl | ⟨r, rfl, h⟩
  · rfl
  · rw [o_ixR, itemsR h]; rfl
theorem Sq.ix (h : Sq S x l) (hk : k < l.length) : oIx x (.int (k : Int)) S = some (.int l[k], S) := by
  rw [h.ixI, ix_lit (by rw [iL_len]; exact hk), iL_at hk]; rfl
theorem Sq.seq (h : Sq S x l) : ∃ J, seqJ x S = some J ∧ ∀ k S', Sub S S' → J k S' = some (iL l)[k]? := by
  rcases h with rfl | ⟨r, rfl, h⟩
  · exact ⟨_, rfl, fun _ _ _ => rfl⟩
  · exact ⟨_, seqR h, fun k S' s => jL_at (s _ _ h)⟩
theorem Sq.list (h : Sq S x l) : fList x S = some (.ref S.length, S ++ [.lst (iL l)]) := by rw [f_list, h.items]; rfl
theorem Sq.tuple (h : Sq S x l) : fTuple x S = some (.tup (iL l), S) := by rw [f_tuple, h.items]; rfl
theorem Sq.rev (h : Sq S x l) : ∃ y S', revD x S = some (y, S') ∧ Sq S' y l.reverse ∧ Sub S S' := by
  rcases h with rfl | ⟨r, rfl, h⟩
  · exact ⟨_, _, rfl, .inl (by rw [iL_rev]), Sub.refl _⟩
  · refine ⟨.ref S.length, S ++ [.lst (iL l).reverse], by simp only [revD, h], .lst (by rw [push_at, iL_rev]), Sub.push _ _⟩
theorem cut0 {ds : List D} (hk : k ≤ ds.length) : cutD ds none (some (k : Int)) = ds.take k := by
  unfold cutD
  have e1 : HT.sIx ds.length 0 none = 0 := rfl
  have e2 : HT.sIx ds.length ds.length (some (k : Int)) = k := by
    show (if (k : Int) < 0 then ((k : Int) + (ds.length : Int)).toNat else min (k : Int).toNat ds.length) = k
    rw [if_neg (by omega)]
    simp; omega
  rw [e1, e2]; rfl
theorem Sq.cut (h : Sq S x l) (hk : k ≤ l.length) : ∃ y S', oSl x none (some (k : Int)) S = some (y, S') ∧ Sq S' y (l.take k) ∧ Sub S S' := by
  rcases h with rfl | ⟨r, rfl, h⟩
  · exact ⟨_, _, rfl, .inl (by rw [cut0 (by rw [iL_len]; exact hk), iL_take]), Sub.refl _⟩
  · refine ⟨.ref S.length, S ++ [.lst ((iL l).take k)], ?_, .lst (by rw [push_at, iL_take]), Sub.push _ _⟩
    show (itemsL S (.ref r)).map _ = _
    rw [itemsLR h, Option.map_some, cut0 (by rw [iL_len]; exact hk)]
theorem Sq.enum (h : Sq S x l) (hk : k ≤ l.length) : jEnum x k S = some ((l.zipIdx.map fun z => D.tup [.int (z.2 : Int), .int z.1])[k]?) := by
  rw [jE_at h.items (by rw [iL_len]; exact hk)]
  unfold iL
  rw [zip_map]
theorem py_Sq (h : Sq S x l) : toPy S 60 x = some (match x with
    | .tup _ => .tuple (l.map PyData.int)
    | _ => .list (l.map PyData.int)) := by
  rcases h with rfl | ⟨r, rfl, h⟩
  · exact py_tup l
  · exact py_lst h
theorem eqv_ints : ∀ {l m : List Int}, PyData.eqvAll (l.map PyData.int) (m.map PyData.int) = decide (l = m)
  | [], [] => rfl
  | [], b :: bs => by simp [PyData.eqvAll]
  | a :: as, [] => by simp [PyData.eqvAll]
  | a :: as, b :: bs => by
    simp only [List.map_cons, PyData.eqvAll, PyData.eqv, eqv_ints]
    by_cases h1 : a = b <;> by_cases h2 : as = bs <;> simp [h1, h2]
theorem eq_lst {r q : Nat} (h : S[r]? = some (.lst (iL l))) (h' : S[q]? = some (.lst (iL m))) : oEq (.ref r) (.ref q) S = some (.bl (decide (l = m)), S) := by
  rw [o_eqP (py_lst h) (py_lst h')]
  congr 3
  rw [← eqv_ints]
  simp [PyData.eqv]
theorem ne_lst {r q : Nat} (h : S[r]? = some (.lst (iL l))) (h' : S[q]? = some (.lst (iL m))) : oNe (.ref r) (.ref q) S = some (.bl (!decide (l = m)), S) := by
  rw [o_neP (py_lst h) (py_lst h')]
  congr 4
  rw [← eqv_ints]
  simp [PyData.eqv]
theorem eq_tup : oEq (.tup (iL l)) (.tup (iL m)) S = some (.bl (decide (l = m)), S) := by
  unfold iL
  rw [o_eqP (py_tup l) (py_tup m)]
  congr 3
  rw [← eqv_ints]
  simp [PyData.eqv]
theorem set_lst {i : Int} (h : S[r]? = some (.lst (iL l))) (hk : k < l.length) : setD (.ref r) (.int (k : Int)) (.int i) S = some (S.set r (.lst (iL (l.set k i)))) := by
  rw [setR h, iN (by rw [iL_len]; exact hk), Option.map_some, iL_set]
theorem mul_lst {i : Int} {n : Nat} (h : S[r]? = some (.lst [.int i])) (hn : n ≤ 1000) : oMulA (.ref r) (.int (n : Int)) S = some (.ref S.length, S ++ [.lst (iL (List.replicate n i))]) := by
  have e : oMulL (.ref r) (.int (n : Int)) S = some (.ref S.length, S ++ [.lst (iL (List.replicate n i))]) := by
    simp only [oMulL, h]
    rw [if_pos ⟨by omega, by omega, by simp; have : sl = 16777216 := rfl; omega⟩, Int.toNat_natCast, iL_rep]
  unfold oMulA orO
  rw [show oMulI (.ref r) (.int (n : Int)) S = none from rfl, e]
theorem add_lst {r q : Nat} (h : S[r]? = some (.lst (iL l))) (h' : S[q]? = some (.lst (iL m))) (hl : l.length + m.length ≤ 10000) : oAdd (.ref r) (.ref q) S = some (.ref S.length, S ++ [.lst (iL (l ++ m))]) := by
  have e : oAddL (.ref r) (.ref q) S = some (.ref S.length, S ++ [.lst (iL (l ++ m))]) := by
    simp only [oAddL, h, h', iL_len]
    rw [if_pos (by have : sl = 16777216 := rfl; omega), iL_app]
  unfold oAdd orO
  rw [show oAddI (.ref r) (.ref q) S = none from rfl, e]
end
theorem jRm' {S : Store} {n : Nat} {lo : Int} {k : Nat} (h : k ≤ n) : jR lo n k S = some ((List.range n).map fun (j : Nat) => D.int (lo + (j : Int)))[k]? := by
  by_cases hk : k < n
  · rw [jR_atL hk, List.getElem?_map, List.getElem?_range hk]; rfl
  · have : k = n := by omega
    subst this
    rw [jR_endL, List.getElem?_eq_none (by simp)]
theorem mulW {i j : Int} {a b : Nat} (h1 : i.natAbs < 2 ^ a) (h2 : j.natAbs < 2 ^ b) (h : a + b < 900000) : mulOk i j = true := mulOk_of h1 h2 (by omega)
theorem mulS {i j : Int} (h1 : i.natAbs ≤ 2 ^ 200) (h2 : j.natAbs ≤ 2 ^ 200) : mulOk i j = true := by
  have e : 2 ^ 200 < 2 ^ 201 := Nat.pow_lt_pow_right (by decide) (by decide)
  exact mulOk_of (m := 201) (n := 201) (by omega) (by omega) (by decide)
/-- a loop that keeps what stood and the slots told -/
theorem wp_forN {J : Itd} {g : DG} {b : DS} {Q : Fl → Store → Prop} {env : En} {S : Store} (n : Nat) (hn : n ≤ 1000000) (I : Nat → En → Store → Prop) (h0 : I 0 env S)
    (hs : ∀ k env S, k < n → I k env S → ∃ d, J k S = some (some d) ∧ WP (g d env S) fun e S1 => WP (b e S1) fun fl S2 => match fl with
      | .nx e' => I (k + 1) e' S2
      | .ct e' => I (k + 1) e' S2
      | .bk e' => Q (.nx e') S2
      | .rt d => Q (.rt d) S2)
    (hd : ∀ env S, I n env S → J n S = some none ∧ Q (.nx env) S) : WP (forGo J g b FUEL 0 env S) Q := wp_for n I (by omega) h0 hs hd
end Z

/-! Z33: comprehensions whose items stand in a relation; lists of lists of ints. -/
namespace Z
open PySem PySem.Spec
section
variable {α β : Type}
/-- item by item -/
def Rels (R : Store → D → α → Prop) (S : Store) (ds : List D) (l : List α) : Prop := ds.length = l.length ∧ ∀ (k : Nat) (d : D) (a : α), ds[k]? = some d → l[k]? = some a → R S d a
theorem Rels.nil {R : Store → D → α → Prop} {S : Store} : Rels R S [] [] := ⟨rfl, fun k d a h => by simp at h⟩
theorem Rels.imp {R R' : Store → D → α → Prop} {S S' : Store} {ds : List D} {l : List α} (h : Rels R S ds l) (m : ∀ d a, R S d a → R' S' d a) : Rels R' S' ds l := ⟨h.1, fun k d a h1 h2 => m d a (h.2 k d a h1 h2)⟩
theorem Rels.snoc {R : Store → D → α → Prop} {S : Store} {ds : List D} {l : List α} {d : D} {a : α} (h : Rels R S ds l) (r : R S d a) : Rels R S (ds ++ [d]) (l ++ [a]) := by
  refine ⟨by rw [List.length_append, List.length_append, h.1]; rfl, fun k d' a' h1 h2 => ?_⟩
  by_cases hk : k < ds.length
  · rw [List.getElem?_append_left hk] at h1
    rw [List.getElem?_append_left (h.1 ▸ hk)] at h2
    exact h.2 k d' a' h1 h2
  · have lt := (List.getElem?_eq_some_iff.mp h1).1
    rw [List.length_append, List.length_singleton] at lt
    have : k = ds.length := by omega
    subst this
    rw [List.getElem?_append_right (Nat.le_refl _), Nat.sub_self] at h1
    rw [h.1, List.getElem?_append_right (Nat.le_refl _), Nat.sub_self] at h2
    cases h1; cases h2
    exact r
theorem Rels.get {R : Store → D → α → Prop} {S : Store} {ds : List D} {l : List α} {k : Nat} (h : Rels R S ds l) (hk : k < l.length) : ∃ d, ds[k]? = some d ∧ R S d l[k] :=
  ⟨ds[k]'(h.1 ▸ hk), List.getElem?_eq_getElem _, h.2 k _ _ (List.getElem?_eq_getElem (h.1 ▸ hk)) (List.getElem?_eq_getElem hk)⟩
theorem Rels.erase {R : Store → D → α → Prop} {S : Store} {ds : List D} {l : List α} (k : Nat) (h : Rels R S ds l) : Rels R S (ds.eraseIdx k) (l.eraseIdx k) := by
  refine ⟨by rw [List.length_eraseIdx, List.length_eraseIdx, h.1], fun j d a h1 h2 => ?_⟩
  rw [List.getElem?_eraseIdx] at h1 h2
  split at h1
  · rename_i q
    rw [if_pos q] at h2
    exact h.2 _ _ _ h1 h2
  · rename_i q
    rw [if_neg q] at h2
    exact h.2 _ _ _ h1 h2
/-- a comprehension: what is kept, item by item -/
theorem wp_relX {it : DI} {g : DG} {t : DT} {b : DE} {own : List Nat} {env : En} {S : Store} {Q : D → Store → Prop} (R : Store → D → β → Prop) (hR : ∀ S1 S2 d a, R S1 d a → Sub S1 S2 → R S2 d a) (l : List α) (p : α → Bool) (f : α → β) (hl : l.length ≤ 1000000)
    (hi : WP (it env S) fun J S1 => Sub S S1 ∧ ∃ ds : List D, ds.length = l.length ∧ (∀ k S2, k ≤ l.length → Sub S1 S2 → J k S2 = some ds[k]?) ∧
      ∀ (k : Nat) (a : α) (d : D) (S2 : Store), l[k]? = some a → ds[k]? = some d → Sub S1 S2 → WP (g d (wipeE env own) S2) fun e' S3 => WP (t e' S3) fun c S4 => c = p a ∧ Sub S2 S4 ∧ (p a = true → WP (b e' S4) fun y S5 => R S5 y (f a) ∧ Sub S4 S5))
    (hQ : ∀ S1 ys, Sub S S1 → Rels R S1 ys ((l.filter p).map f) → Q (.ref S1.length) (S1 ++ [.lst ys])) : WP (dLc it g t b own env S) Q := by
  refine wp_lc (WP_mono hi fun J S1 ⟨s1, ds, hd, hJ, hb⟩ => ⟨l.length, fun k acc S2 => Sub S1 S2 ∧ Rels R S2 acc (((l.take k).filter p).map f), by omega, ⟨Sub.refl _, by simpa using Rels.nil⟩, fun k acc S2 hk ⟨s2, ha⟩ => ⟨?_, ?_⟩, fun acc S2 ⟨s2, ha⟩ => ⟨?_, ?_⟩⟩)
  · rw [ha.1, List.length_map]
    have := List.length_filter_le p (l.take k)
    have h2 : (l.take k).length ≤ l.length := by rw [List.length_take]; omega
    have : sl = 16777216 := rfl
    omega
  · have hk' : k < ds.length := by omega
    refine ⟨ds[k], by rw [hJ k S2 (Nat.le_of_lt hk) s2, List.getElem?_eq_getElem hk'], WP_mono (hb k l[k] ds[k] S2 (List.getElem?_eq_getElem hk) (List.getElem?_eq_getElem hk') s2) fun e' S3 w => ?_⟩
    have et : l.take (k + 1) = l.take k ++ [l[k]] := by rw [List.take_succ, List.getElem?_eq_getElem hk]; rfl
    refine WP_mono w fun c S4 ⟨ec, s4, w2⟩ => ?_
    subst ec
    cases hp : p l[k] with
    | true =>
      rw [if_pos rfl]
      refine WP_mono (w2 hp) fun y S5 ⟨ry, s5⟩ => ⟨(s2.trans s4).trans s5, ?_⟩
      have : ((l.take (k + 1)).filter p).map f = ((l.take k).filter p).map f ++ [f l[k]] := by
        rw [et, List.filter_append, List.map_append]; simp [hp]
      rw [this]
      exact (ha.imp fun d a h => hR _ _ d a h (s4.trans s5)).snoc ry
    | false =>
      rw [if_neg (by decide)]
      refine ⟨s2.trans s4, ?_⟩
      have : ((l.take (k + 1)).filter p).map f = ((l.take k).filter p).map f := by
        rw [et, List.filter_append, List.map_append]; simp [hp]
      rw [this]
      exact ha.imp fun d a h => hR _ _ d a h s4
  · rw [hJ _ S2 (Nat.le_refl _) s2, ← hd]; simp
  · rw [List.take_length] at ha
    exact hQ _ acc (s1.trans s2) ha
theorem wp_rel {it : DI} {g : DG} {t : DT} {b : DE} {own : List Nat} {env : En} {S : Store} {Q : D → Store → Prop} (R : Store → D → β → Prop) (hR : ∀ S1 S2 d a, R S1 d a → Sub S1 S2 → R S2 d a) (l : List α) (ds : List D) (p : α → Bool) (f : α → β) (hl : l.length ≤ 1000000) (hd : ds.length = l.length)
    (hi : WP (it env S) fun J S1 => Sub S S1 ∧ (∀ k S2, k ≤ l.length → Sub S1 S2 → J k S2 = some ds[k]?))
    (hb : ∀ (k : Nat) (a : α) (d : D) (S1 : Store), l[k]? = some a → ds[k]? = some d → Sub S S1 → WP (g d (wipeE env own) S1) fun e' S2 => WP (t e' S2) fun c S3 => c = p a ∧ Sub S1 S3 ∧ (p a = true → WP (b e' S3) fun y S4 => R S4 y (f a) ∧ Sub S3 S4))
    (hQ : ∀ S1 ys, Sub S S1 → Rels R S1 ys ((l.filter p).map f) → Q (.ref S1.length) (S1 ++ [.lst ys])) : WP (dLc it g t b own env S) Q :=
  wp_relX R hR l p f hl (WP_mono hi fun J S1 ⟨s1, hJ⟩ => ⟨s1, ds, hd, hJ, fun k a d S2 h1 h2 s => hb k a d S2 h1 h2 (s1.trans s)⟩) hQ
theorem rng_bd {n : Nat} (hl : n ≤ 10000) : -(2 ^ 62) ≤ (n : Int) ∧ (n : Int) < 2 ^ 62 := by omega
theorem rng1_items {env : En} {S : Store} {r : DA} {n : Nat} (hr : r env S = .ok [.int (n : Int)] S) (hl : n ≤ 10000) : iRng1 r env S = .ok (jR 0 n) S := by
  have e : ∀ i : Int, (-(2 ^ 62) ≤ i ∧ i < 2 ^ 62) → r env S = .ok [.int i] S → iRng1 r env S = .ok (jR 0 i.toNat) S := fun i hi hr => by
    rw [q_rng1, hr, Res.bind_ok]
    dsimp only
    rw [if_pos hi]
  have := e n (rng_bd hl) hr
  rwa [Int.toNat_natCast] at this
/-- counted -/
theorem wp_relN {g : DG} {t : DT} {b : DE} {own : List Nat} {env : En} {S : Store} {Q : D → Store → Prop} {r : DA} (R : Store → D → β → Prop) (hR : ∀ S1 S2 d a, R S1 d a → Sub S1 S2 → R S2 d a) (n : Nat) (hr : r env S = .ok [.int (n : Int)] S) (p : Nat → Bool) (f : Nat → β) (hl : n ≤ 10000)
    (hb : ∀ (k : Nat) (S1 : Store), k < n → Sub S S1 → WP (g (.int (k : Int)) (wipeE env own) S1) fun e' S2 => WP (t e' S2) fun c S3 => c = p k ∧ Sub S1 S3 ∧ (p k = true → WP (b e' S3) fun y S4 => R S4 y (f k) ∧ Sub S3 S4))
    (hQ : ∀ S1 ys, Sub S S1 → Rels R S1 ys (((List.range n).filter p).map f) → Q (.ref S1.length) (S1 ++ [.lst ys])) : WP (dLc (iRng1 r) g t b own env S) Q := by
  refine wp_rel R hR (List.range n) ((List.range n).map fun (i : Nat) => D.int (i : Int)) p f (by rw [List.length_range]; omega) (by rw [List.length_map]) ?_ (fun k a d S1 ha hd s1 => ?_) hQ
  · rw [rng1_items hr hl, WP_ok]
    refine ⟨Sub.refl _, fun k S2 hk _ => ?_⟩
    rw [List.length_range] at hk
    by_cases h : k < n
    · rw [jR_at h, List.getElem?_map, List.getElem?_range h]; rfl
    · have : k = n := by omega
      subst this
      rw [jR_end, List.getElem?_eq_none (by simp)]
  · have h : k < n := by have := (List.getElem?_eq_some_iff.mp ha).1; simpa using this
    rw [List.getElem?_range h] at ha
    rw [List.getElem?_map, List.getElem?_range h] at hd
    cases ha
    cases hd
    exact hb k S1 h s1
end
/-- a list of ints in the store -/
def IR (S : Store) (d : D) (l : List Int) : Prop := ∃ r, d = .ref r ∧ S[r]? = some (.lst (iL l))
theorem IR.mono {S1 S2 : Store} {d : D} {l : List Int} (h : IR S1 d l) (s : Sub S1 S2) : IR S2 d l := let ⟨r, e, h⟩ := h; ⟨r, e, s _ _ h⟩
/-- a list of lists of ints -/
def Rw (S : Store) (r : Nat) (rows : List (List Int)) : Prop := ∃ ds, S[r]? = some (.lst ds) ∧ Rels IR S ds rows
theorem Rw.mono {S1 S2 : Store} {r : Nat} {rows : List (List Int)} (h : Rw S1 r rows) (s : Sub S1 S2) : Rw S2 r rows := let ⟨ds, e, h⟩ := h; ⟨ds, s _ _ e, h.imp fun _ _ q => q.mono s⟩
theorem filter_tt {α : Type} (l : List α) : l.filter (fun _ => true) = l := by simp
/-- a counted iteration -/
theorem seq_items {S : Store} {x : D} {ds : List D} {r : Nat} (e : x = .ref r) (h : S[r]? = some (.lst ds)) : seqJ x S = some (jL r) ∧ ∀ k S2, Sub S S2 → jL r k S2 = some ds[k]? := ⟨by rw [e]; exact seqR h, fun k S2 s => jL_at (s _ _ h)⟩
end Z
namespace Z
open PySem PySem.Spec
/-- a tuple or a list with these items -/
def Its (S : Store) (x : D) (ds : List D) : Prop := x = .tup ds ∨ ∃ r, x = .ref r ∧ S[r]? = some (.lst ds)
section
variable {S S' : Store} {x : D} {ds : List D} {rows : List (List Int)}
theorem Its.sub (h : Its S x ds) (s : Sub S S') : Its S' x ds := h.elim .inl fun ⟨r, e, h⟩ => .inr ⟨r, e, s _ _ h⟩
theorem Its.items (h : Its S x ds) : itemsD S x = some ds := by
  rcases h with rfl | ⟨r, rfl, h⟩
  · rfl
  · exact itemsR h
theorem Its.len (h : Its S x ds) : fLen x S = some (.int ds.length, S) := by
  rcases h with rfl | ⟨r, rfl, h⟩
  · rw [f_lenT]
  · rw [f_lenR h]
theorem Its.ix {k : Nat} (h : Its S x ds) (hk : k < ds.length) : oIx x (.int (k : Int)) S = some (ds[k], S) := by
  have e : oIx x (.int (k : Int)) S = (L2.atI ds (k : Int)).map fun y => (y, S) := by
    rcases h with rfl | ⟨r, rfl, h⟩
    · rfl
    · rw [o_ixR, itemsR h]; rfl
  rw [e, ix_lit hk, List.getElem?_eq_getElem hk]; rfl
theorem Its.seq (h : Its S x ds) : ∃ J, seqJ x S = some J ∧ ∀ k S', Sub S S' → J k S' = some ds[k]? := by
  rcases h with rfl | ⟨r, rfl, h⟩
  · exact ⟨_, rfl, fun _ _ _ => rfl⟩
  · exact ⟨_, seqR h, fun k S' s => jL_at (s _ _ h)⟩
/-- rows of ints, be they tuples or lists -/
def Rg (S : Store) (x : D) (rows : List (List Int)) : Prop := ∃ ds, Its S x ds ∧ Rels Sq S ds rows
theorem Rg.sub (h : Rg S x rows) (s : Sub S S') : Rg S' x rows := let ⟨ds, a, b⟩ := h; ⟨ds, a.sub s, b.imp fun _ _ q => q.sub s⟩
theorem IR.sq {d : D} {l : List Int} (h : IR S d l) : Sq S d l := let ⟨r, e, h⟩ := h; .inr ⟨r, e, h⟩
theorem Rw.rg {r : Nat} (h : Rw S r rows) : Rg S (.ref r) rows := let ⟨ds, a, b⟩ := h; ⟨ds, .inr ⟨r, rfl, a⟩, b.imp fun _ _ q => q.sq⟩
end
/-- the same, but not at e -/
def IN (e : Nat) (S : Store) (d : D) (l : List Int) : Prop := ∃ r, d = .ref r ∧ r ≠ e ∧ S[r]? = some (.lst (iL l))
def RN (e : Nat) (S : Store) (r : Nat) (rows : List (List Int)) : Prop := ∃ ds, S[r]? = some (.lst ds) ∧ Rels (IN e) S ds rows
theorem IN.ir {e : Nat} {S : Store} {d : D} {l : List Int} (h : IN e S d l) : IR S d l := let ⟨r, e, _, h⟩ := h; ⟨r, e, h⟩
theorem RN.rw_ {e r : Nat} {S : Store} {rows : List (List Int)} (h : RN e S r rows) : Rw S r rows := let ⟨ds, a, b⟩ := h; ⟨ds, a, b.imp fun _ _ q => q.ir⟩
theorem IN.mono {e : Nat} {S1 S2 : Store} {d : D} {l : List Int} (h : IN e S1 d l) (s : Sub S1 S2) : IN e S2 d l := let ⟨r, a, b, h⟩ := h; ⟨r, a, b, s _ _ h⟩
theorem RN.mono {e r : Nat} {S1 S2 : Store} {rows : List (List Int)} (h : RN e S1 r rows) (s : Sub S1 S2) : RN e S2 r rows := let ⟨ds, a, b⟩ := h; ⟨ds, s _ _ a, b.imp fun _ _ q => q.mono s⟩
theorem IN.set {e : Nat} {S1 : Store} {d : D} {l : List Int} {o : O} (h : IN e S1 d l) : IN e (S1.set e o) d l := let ⟨r, a, b, h⟩ := h; ⟨r, a, b, set_ne b.symm h⟩
theorem RN.set {e r : Nat} {S1 : Store} {rows : List (List Int)} {o : O} (h : RN e S1 r rows) (n : r ≠ e) : RN e (S1.set e o) r rows := let ⟨ds, a, b⟩ := h; ⟨ds, set_ne n.symm a, b.imp fun _ _ q => q.set⟩
/-- a list that holds a reference is none of ints -/
theorem ir_ne {S : Store} {a r i : Nat} {ds : List D} {l : List Int} (ha : S[a]? = some (.lst (.ref i :: ds))) (hr : S[r]? = some (.lst (iL l))) : r ≠ a := fun z => by
  subst z
  rw [ha] at hr
  cases l with
  | nil => cases hr
  | cons x l => cases hr
theorem lt_of_at {S : Store} {r : Nat} {o : O} (h : S[r]? = some o) : r < S.length := (List.getElem?_eq_some_iff.mp h).1
end Z
namespace Z
open PySem PySem.Spec
theorem rels_int {S : Store} {ys : List D} {l : List Int} (h : Rels (fun _ d (i : Int) => d = .int i) S ys l) : ys = iL l := by
  refine List.ext_getElem? fun k => ?_
  unfold iL
  by_cases hk : k < l.length
  · obtain ⟨d, e, rfl⟩ := h.get hk
    rw [e, List.getElem?_map, List.getElem?_eq_getElem hk]; rfl
  · rw [List.getElem?_eq_none (by rw [h.1]; omega), List.getElem?_eq_none (by simp; omega)]
/-- a comprehension of ints; its list is new -/
theorem wp_ints {α : Type} {it : DI} {g : DG} {t : DT} {b : DE} {own : List Nat} {env : En} {S : Store} {Q : D → Store → Prop} (l : List α) (ds : List D) (p : α → Bool) (f : α → Int) (hl : l.length ≤ 1000000) (hd : ds.length = l.length)
    (hi : WP (it env S) fun J S1 => Sub S S1 ∧ (∀ k S2, k ≤ l.length → Sub S1 S2 → J k S2 = some ds[k]?))
    (hb : ∀ (k : Nat) (a : α) (d : D) (S1 : Store), l[k]? = some a → ds[k]? = some d → Sub S S1 → WP (g d (wipeE env own) S1) fun e' S2 => WP (t e' S2) fun c S3 => c = p a ∧ Sub S1 S3 ∧ (p a = true → WP (b e' S3) fun y S4 => y = .int (f a) ∧ Sub S3 S4))
    (hQ : ∀ S1, Sub S S1 → Q (.ref S1.length) (S1 ++ [.lst (iL ((l.filter p).map f))])) : WP (dLc it g t b own env S) Q :=
  wp_rel (fun _ d (i : Int) => d = .int i) (fun _ _ _ _ h _ => h) l ds p f hl hd hi hb fun S1 ys s1 h2 => by rw [rels_int h2]; exact hQ S1 s1
end Z

namespace Zk16
open PySem PySem.Spec PyProof.Rows L2 He Z
def top (i : Nat) : Stmt := PySem.Challenge.pw_arrowsizes_k16_whole_numbers_of_tables_o.main.body.getD i (.Pass ⟨0, 0, 0, 0⟩)
def cs : List Ck := [ckFa (.free "len"),
  ckFa (.free "min"),
  ckFa (.free "max"),
  ckFa (.free "range"),
  ckFa (.free "int"),
  ckFa (.free "abs"),
  ckFa (.glo "_law_lot"),
  ckFa (.glo "_law_pull"),
  ckFa (.glo "_law_one_of"),
  ckFa (.free "list"),
  ckFa (.glo "_law_all_rows"),
  ckFa (.free "enumerate"),
  ckFa (.glo "_law_inverse"),
  ckFa (.free "zip"),
  ckFa (.glo "_law_cleared"),
  ckFa (.glo "_law_reduced"),
  ckFa (.glo "_law_rank"),
  ckFa (.free "isinstance"),
  ckFa (.free "bool"),
  ckFa (.glo "is_whole"),
  ckFa (.int "MOST_DIGITS" (1000000000000000000000000000000000000000000000000000000000000)),
  ckFa (.glo "is_integer"),
  ckFa (.glo "require_integer"),
  ckFa (.glo "value_of"),
  ckSlt "Poly",
  ckFld "Poly" "own_coefficients" 0,
  ckFa (.meth "Poly" "at"),
  ckFa (.glo "require_to"),
  ckFa (.int "MOST_COUNTED" (12)),
  ckFa (.glo "is_within"),
  ckFa (.glo "require_within"),
  ckFa (.int "MOST_CHOSEN" (12)),
  ckSlt "Kept",
  ckIsi "Kept",
  ckIC "Kept" "Kept" true,
  ckIsi "Poly",
  ckIC "Kept" "Poly" false,
  ckIT "Kept",
  ckFa (.glo "Kept"),
  ckFld "Kept" "own_numbers" 0,
  ckFa (.free "tuple"),
  ckFa (.int "MOST_DEGREE" (100)),
  ckFa (.free "all"),
  ckFa (.glo "trimmed"),
  ckFa (.glo "numbers_told"),
  ckBi "gcd" "math.gcd",
  ckFa (.glo "content_of"),
  ckFld "Poly" "own_content" 1,
  ckFa (.mkr "Poly"),
  ckFa (.glo "Poly"),
  ckFa (.mkr "Kept"),
  ckFa (.glo "poly_of"),
  ckFa (.glo "divided"),
  ckFa (.glo "product_of"),
  ckFa (.glo "gauss_numbers"),
  ckFa (.glo "gauss"),
  ckIC "Poly" "Kept" false,
  ckIC "Poly" "Poly" true,
  ckIT "Poly",
  ckFa (.glo "poly_told"),
  ckFa (.meth "Poly" "times"),
  ckFa (.glo "sum_of"),
  ckFa (.meth "Poly" "minus"),
  ckFa (.glo "tables_of_rank"),
  ckFa (.glo "_law_small_right"),
  ckFa (.free "sum"),
  ckFa (.glo "_law_power"),
  ckFa (.meth "Poly" "__eq__"),
  ckNe "Poly",
  ckPrp "Poly" "coefficients",
  ckFa (.glo "_law_tt_prime"),
  ckTup "PRIMES" [(2), (3), (5), (7)],
  ckFa (.glo "require_prime"),
  ckFa (.int "MAX_SIDE" (36)),
  ckFa (.glo "power_in"),
  ckFa (.glo "turn_number_in"),
  ckFa (.glo "turn_number"),
  ckFa (.glo "_law_sums_right"),
  ckFa (.glo "law")]
def fn : List Df := [⟨fun K => ga K "_law_lot", "_law_lot", "_law_lot", defArgs (top 44), defBody (top 44), defScope (top 44), []⟩,
  ⟨fun K => ga K "_law_pull", "_law_pull", "_law_pull", defArgs (top 45), defBody (top 45), defScope (top 45), []⟩,
  ⟨fun K => ga K "_law_one_of", "_law_one_of", "_law_one_of", defArgs (top 46), defBody (top 46), defScope (top 46), []⟩,
  ⟨fun K => ga K "_law_all_rows", "_law_all_rows", "_law_all_rows", defArgs (top 53), defBody (top 53), defScope (top 53), []⟩,
  ⟨fun K => ga K "_law_inverse", "_law_inverse", "_law_inverse", defArgs (top 50), defBody (top 50), defScope (top 50), []⟩,
  ⟨fun K => ga K "_law_cleared", "_law_cleared", "_law_cleared", defArgs (top 49), defBody (top 49), defScope (top 49), []⟩,
  ⟨fun K => ga K "_law_reduced", "_law_reduced", "_law_reduced", defArgs (top 48), defBody (top 48), defScope (top 48), []⟩,
  ⟨fun K => ga K "_law_rank", "_law_rank", "_law_rank", defArgs (top 51), defBody (top 51), defScope (top 51), []⟩,
  ⟨fun K => ga K "is_whole", "is_whole", "is_whole", defArgs (top 9), defBody (top 9), defScope (top 9), []⟩,
  ⟨fun K => ga K "is_integer", "is_integer", "is_integer", defArgs (top 10), defBody (top 10), defScope (top 10), []⟩,
  ⟨fun K => ga K "require_integer", "require_integer", "require_integer", defArgs (top 26), defBody (top 26), defScope (top 26), []⟩,
  ⟨fun K => ga K "value_of", "value_of", "value_of", defArgs (top 15), defBody (top 15), defScope (top 15), []⟩,
  ⟨fun K => ma K (ga K "Poly") "at", "at", "Poly.at", defArgs (inner (top 29) 10), defBody (inner (top 29) 10), defScope (inner (top 29) 10), []⟩,
  ⟨fun K => ga K "require_to", "require_to", "require_to", defArgs (top 38), defBody (top 38), defScope (top 38), []⟩,
  ⟨fun K => ga K "is_within", "is_within", "is_within", defArgs (top 24), defBody (top 24), defScope (top 24), []⟩,
  ⟨fun K => ga K "require_within", "require_within", "require_within", defArgs (top 25), defBody (top 25), defScope (top 25), []⟩,
  ⟨fun K => ga K "trimmed", "trimmed", "trimmed", defArgs (top 12), defBody (top 12), defScope (top 12), []⟩,
  ⟨fun K => ga K "numbers_told", "numbers_told", "numbers_told", defArgs (top 28), defBody (top 28), defScope (top 28), []⟩,
  ⟨fun K => ga K "content_of", "content_of", "content_of", defArgs (top 16), defBody (top 16), defScope (top 16), []⟩,
  ⟨fun K => ma K (ga K "Poly") "__init__", "__init__", "Poly.__init__", defArgs (inner (top 29) 1), defBody (inner (top 29) 1), defScope (inner (top 29) 1), []⟩,
  ⟨fun K => ma K (ga K "Kept") "__init__", "__init__", "Kept.__init__", defArgs (inner (top 27) 1), defBody (inner (top 27) 1), defScope (inner (top 27) 1), []⟩,
  ⟨fun K => ga K "poly_of", "poly_of", "poly_of", defArgs (top 30), defBody (top 30), defScope (top 30), []⟩,
  ⟨fun K => ga K "divided", "divided", "divided", defArgs (top 17), defBody (top 17), defScope (top 17), []⟩,
  ⟨fun K => ga K "product_of", "product_of", "product_of", defArgs (top 14), defBody (top 14), defScope (top 14), []⟩,
  ⟨fun K => ga K "gauss_numbers", "gauss_numbers", "gauss_numbers", defArgs (top 18), defBody (top 18), defScope (top 18), []⟩,
  ⟨fun K => ga K "gauss", "gauss", "gauss", defArgs (top 32), defBody (top 32), defScope (top 32), []⟩,
  ⟨fun K => ga K "poly_told", "poly_told", "poly_told", defArgs (top 31), defBody (top 31), defScope (top 31), []⟩,
  ⟨fun K => ma K (ga K "Poly") "times", "times", "Poly.times", defArgs (inner (top 29) 7), defBody (inner (top 29) 7), defScope (inner (top 29) 7), []⟩,
  ⟨fun K => ga K "sum_of", "sum_of", "sum_of", defArgs (top 13), defBody (top 13), defScope (top 13), []⟩,
  ⟨fun K => ma K (ga K "Poly") "minus", "minus", "Poly.minus", defArgs (inner (top 29) 6), defBody (inner (top 29) 6), defScope (inner (top 29) 6), []⟩,
  ⟨fun K => ga K "tables_of_rank", "tables_of_rank", "tables_of_rank", defArgs (top 42), defBody (top 42), defScope (top 42), []⟩,
  ⟨fun K => ga K "_law_small_right", "_law_small_right", "_law_small_right", defArgs (top 54), defBody (top 54), defScope (top 54), []⟩,
  ⟨fun K => ga K "_law_power", "_law_power", "_law_power", defArgs (top 47), defBody (top 47), defScope (top 47), []⟩,
  ⟨fun K => ma K (ga K "Poly") "__eq__", "__eq__", "Poly.__eq__", defArgs (inner (top 29) 12), defBody (inner (top 29) 12), defScope (inner (top 29) 12), []⟩,
  ⟨fun K => pgA K (ga K "Poly") "coefficients", "coefficients", "Poly.coefficients", defArgs (inner (top 29) 2), defBody (inner (top 29) 2), defScope (inner (top 29) 2), []⟩,
  ⟨fun K => ga K "_law_tt_prime", "_law_tt_prime", "_law_tt_prime", defArgs (top 52), defBody (top 52), defScope (top 52), []⟩,
  ⟨fun K => ga K "require_prime", "require_prime", "require_prime", defArgs (top 37), defBody (top 37), defScope (top 37), []⟩,
  ⟨fun K => ga K "power_in", "power_in", "power_in", defArgs (top 39), defBody (top 39), defScope (top 39), []⟩,
  ⟨fun K => ga K "turn_number_in", "turn_number_in", "turn_number_in", defArgs (top 41), defBody (top 41), defScope (top 41), []⟩,
  ⟨fun K => ga K "turn_number", "turn_number", "turn_number", defArgs (top 40), defBody (top 40), defScope (top 40), []⟩,
  ⟨fun K => ga K "_law_sums_right", "_law_sums_right", "_law_sums_right", defArgs (top 55), defBody (top 55), defScope (top 55), []⟩,
  ⟨fun K => ga K "law", "law", "law", defArgs (top 56), defBody (top 56), defScope (top 56), []⟩]
def cl : List Str := ["Kept", "Poly"]
abbrev Hy (G : Glo) : Prop := Hyp cs fn cl G
/-! _law_lot -/
def n__law_lot : List Str := ["_law_script", "_law_spot", "_law_cell", "_law_left"]
theorem d__law_lot : n__law_lot.Nodup := by decide +kernel
def b__law_lot : DS := (sSeq (sAsg (dIf (dTstB (dBin oLtI (dVar 1) (dCallB (b1 fLen) (dCons (dVar 0) dNil)))) (dCallB (b1 fInt) (dCons (dBin oIx (dVar 0) (dVar 1)) dNil)) (dBin oAdd (dBin oMulA (dC (.int 61)) (dVar 1)) (dC (.int 37)))) (gNm 2)) (sSeq (sAsg (dBin oModI (dCallB (b2 fMax2) (dCons (dC (.int 0)) (dCons (dBin oSubI (dCallB (b1 fAbs) (dCons (dVar 2) dNil)) (dBin oPowI (dC (.int 10)) (dC (.int 17)))) dNil))) (dBin oMulA (dBin oPowI (dC (.int 10)) (dC (.int 58))) (dBin oPowI (dC (.int 10)) (dC (.int 59))))) (gNm 3)) (sRet (dLst (dCons (dVar 3) (dCons (dBin oAdd (dBin oAdd (dBin oAdd (dBin oMulA (dBin oModI (dCallB (b1 fAbs) (dCons (dVar 2) dNil)) (dC (.int 1152921504606846697))) (dC (.int 53))) (dBin oMulA (dC (.int 991)) (dVar 1))) (dBin oMulA (dC (.int 43)) (dCallB (b1 fInt) (dCons (dBin oLtI (dVar 2) (dC (.int 0))) dNil)))) (dC (.int 9))) (dCons (dC (.int 0)) dNil)))))))
def f__law_lot : Fn := mkFn n__law_lot.length b__law_lot
theorem c__law_lot : FnScope n__law_lot ["_law_script", "_law_spot"] (defScope (top 44)) := ⟨by kernel_rfl, by kernel_rfl, by kernel_rfl, d__law_lot, by kernel_rfl, by decide +kernel, by decide +kernel⟩
theorem s__law_lot {G : Glo} (h : Hy G) : PSsx ⟨G, 0, n__law_lot, defScope (top 44), fun _ => true⟩ (defBody (top 44)) b__law_lot := (pssx_cons (psx_asg (pex_if (ptx_cmp opx_ltI (pex_v 1 (by kernel_rfl)) (pex_bf cx_len (by kernel_rfl) (h.free 0 rfl) (pax_cons (pex_v 0 (by kernel_rfl)) pax_nil)) rfl) (pex_bt cx_int (by kernel_rfl) (h.free 4 rfl) (pax_cons (pex_ix (pex_v 0 (by kernel_rfl)) (pex_v 1 (by kernel_rfl))) pax_nil)) (pex_op opx_add (pex_op opx_mulA pex_int (pex_v 1 (by kernel_rfl))) pex_int)) (pgx_v d__law_lot 2 (by kernel_rfl))) (pssx_cons (psx_asg (pex_op opx_modI (pex_bf cx_max2 (by kernel_rfl) (h.free 2 rfl) (pax_cons pex_int (pax_cons (pex_op opx_subI (pex_bf cx_abs (by kernel_rfl) (h.free 5 rfl) (pax_cons (pex_v 2 (by kernel_rfl)) pax_nil)) (pex_op opx_powI pex_int pex_int)) pax_nil))) (pex_op opx_mulA (pex_op opx_powI pex_int pex_int) (pex_op opx_powI pex_int pex_int))) (pgx_v d__law_lot 3 (by kernel_rfl))) (pssx_one (psx_ret (pex_lst (pax_cons (pex_v 3 (by kernel_rfl)) (pax_cons (pex_op opx_add (pex_op opx_add (pex_op opx_add (pex_op opx_mulA (pex_op opx_modI (pex_bf cx_abs (by kernel_rfl) (h.free 5 rfl) (pax_cons (pex_v 2 (by kernel_rfl)) pax_nil)) pex_int) pex_int) (pex_op opx_mulA pex_int (pex_v 1 (by kernel_rfl)))) (pex_op opx_mulA pex_int (pex_bt cx_int (by kernel_rfl) (h.free 4 rfl) (pax_cons (pex_cmp opx_ltI (pex_v 2 (by kernel_rfl)) pex_int rfl) pax_nil)))) pex_int) (pax_cons pex_int pax_nil))))))))
theorem i__law_lot {G : Glo} (h : Hy G) : FnIs G 1 "_law_lot" 2 f__law_lot := h.fnIs 0 6 rfl rfl rfl c__law_lot rfl (fun _ _ _ _ _ _ us hl => match us, hl with | [_, _], _ => by kernel_rfl) (s__law_lot h)
/-! _law_pull -/
def n__law_pull : List Str := ["_law_lot_here", "_law_total", "_law_found", "_law_one", "_law_two"]
theorem d__law_pull : n__law_pull.Nodup := by decide +kernel
def b__law_pull : DS := (sSeq (sIf (dTstB (dBin oGtI (dBin oIx (dVar 0) (dC (.int 0))) (dC (.int 0)))) (sSeq (sAsg (dBin oModI (dCallB (b1 fInt) (dCons (dBin oIx (dVar 0) (dC (.int 0))) dNil)) (dVar 1)) (gNm 2)) (sSeq (sAsg (dBin oDivI (dBin oIx (dVar 0) (dC (.int 0))) (dVar 1)) (gSb (dVar 0) (dC (.int 0)))) (sRet (dVar 2)))) sNext) (sSeq (sAsg (dBin oAdd (dBin oIx (dVar 0) (dC (.int 2))) (dC (.int 1))) (gSb (dVar 0) (dC (.int 2)))) (sSeq (sAsg (dBin oModI (dCallB (b1 fInt) (dCons (dBin oAdd (dBin oIx (dVar 0) (dC (.int 1))) (dBin oMulA (dC (.int 99990001)) (dBin oIx (dVar 0) (dC (.int 2))))) dNil)) (dC (.int 2305843009213693409))) (gNm 3)) (sSeq (sAsg (dBin oAdd (dBin oMulA (dBin oModI (dCallB (b1 fInt) (dCons (dBin oAdd (dBin oMulA (dVar 3) (dVar 3)) (dBin oMulA (dC (.int 89)) (dBin oIx (dVar 0) (dC (.int 2))))) dNil)) (dC (.int 2305843009213693381))) (dC (.int 8675309))) (dVar 3)) (gNm 4)) (sRet (dBin oModI (dCallB (b1 fInt) (dCons (dBin oDivI (dVar 4) (dC (.int 65537))) dNil)) (dVar 1)))))))
def f__law_pull : Fn := mkFn n__law_pull.length b__law_pull
theorem c__law_pull : FnScope n__law_pull ["_law_lot_here", "_law_total"] (defScope (top 45)) := ⟨by kernel_rfl, by kernel_rfl, by kernel_rfl, d__law_pull, by kernel_rfl, by decide +kernel, by decide +kernel⟩
theorem s__law_pull {G : Glo} (h : Hy G) : PSsx ⟨G, 0, n__law_pull, defScope (top 45), fun _ => true⟩ (defBody (top 45)) b__law_pull := (pssx_cons (psx_if (ptx_cmp opx_gtI (pex_ix (pex_v 0 (by kernel_rfl)) pex_int) pex_int rfl) (pssx_cons (psx_asg (pex_op opx_modI (pex_bt cx_int (by kernel_rfl) (h.free 4 rfl) (pax_cons (pex_ix (pex_v 0 (by kernel_rfl)) pex_int) pax_nil)) (pex_v 1 (by kernel_rfl))) (pgx_v d__law_pull 2 (by kernel_rfl))) (pssx_cons (psx_asg (pex_op opx_divI (pex_ix (pex_v 0 (by kernel_rfl)) pex_int) (pex_v 1 (by kernel_rfl))) (pgx_sb (pex_v 0 (by kernel_rfl)) pex_int)) (pssx_one (psx_ret (pex_v 2 (by kernel_rfl)))))) pssx_nil) (pssx_cons (psx_asg (pex_op opx_add (pex_ix (pex_v 0 (by kernel_rfl)) pex_int) pex_int) (pgx_sb (pex_v 0 (by kernel_rfl)) pex_int)) (pssx_cons (psx_asg (pex_op opx_modI (pex_bt cx_int (by kernel_rfl) (h.free 4 rfl) (pax_cons (pex_op opx_add (pex_ix (pex_v 0 (by kernel_rfl)) pex_int) (pex_op opx_mulA pex_int (pex_ix (pex_v 0 (by kernel_rfl)) pex_int))) pax_nil)) pex_int) (pgx_v d__law_pull 3 (by kernel_rfl))) (pssx_cons (psx_asg (pex_op opx_add (pex_op opx_mulA (pex_op opx_modI (pex_bt cx_int (by kernel_rfl) (h.free 4 rfl) (pax_cons (pex_op opx_add (pex_op opx_mulA (pex_v 3 (by kernel_rfl)) (pex_v 3 (by kernel_rfl))) (pex_op opx_mulA pex_int (pex_ix (pex_v 0 (by kernel_rfl)) pex_int))) pax_nil)) pex_int) pex_int) (pex_v 3 (by kernel_rfl))) (pgx_v d__law_pull 4 (by kernel_rfl))) (pssx_one (psx_ret (pex_op opx_modI (pex_bt cx_int (by kernel_rfl) (h.free 4 rfl) (pax_cons (pex_op opx_divI (pex_v 4 (by kernel_rfl)) pex_int) pax_nil)) (pex_v 1 (by kernel_rfl)))))))))
theorem i__law_pull {G : Glo} (h : Hy G) : FnIs G 1 "_law_pull" 2 f__law_pull := h.fnIs 1 7 rfl rfl rfl c__law_pull rfl (fun _ _ _ _ _ _ us hl => match us, hl with | [_, _], _ => by kernel_rfl) (s__law_pull h)
/-! _law_one_of -/
def n__law_one_of : List Str := ["_law_lot_here", "_law_items"]
theorem d__law_one_of : n__law_one_of.Nodup := by decide +kernel
def b__law_one_of : DS := (sRet (dBin oIx (dVar 1) (dCall f__law_pull (dCons (dVar 0) (dCons (dCallB (b1 fLen) (dCons (dVar 1) dNil)) dNil)))))
def f__law_one_of : Fn := mkFn n__law_one_of.length b__law_one_of
theorem c__law_one_of : FnScope n__law_one_of ["_law_lot_here", "_law_items"] (defScope (top 46)) := ⟨by kernel_rfl, by kernel_rfl, by kernel_rfl, d__law_one_of, by kernel_rfl, by decide +kernel, by decide +kernel⟩
theorem s__law_one_of {G : Glo} (h : Hy G) : PSsx ⟨G, 1, n__law_one_of, defScope (top 46), fun _ => true⟩ (defBody (top 46)) b__law_one_of := (pssx_one (psx_ret (pex_ix (pex_v 1 (by kernel_rfl)) (pex_cl (i__law_pull h) (by kernel_rfl) (by kernel_rfl) (pax_cons (pex_v 0 (by kernel_rfl)) (pax_cons (pex_bf cx_len (by kernel_rfl) (h.free 0 rfl) (pax_cons (pex_v 1 (by kernel_rfl)) pax_nil)) pax_nil)) (ln1 (ln1 ln0))))))
theorem i__law_one_of {G : Glo} (h : Hy G) : FnIs G 2 "_law_one_of" 2 f__law_one_of := h.fnIs 2 8 rfl rfl rfl c__law_one_of rfl (fun _ _ _ _ _ _ us hl => match us, hl with | [_, _], _ => by kernel_rfl) (s__law_one_of h)
/-! _law_all_rows -/
def n__law_all_rows : List Str := ["_law_prime", "_law_height", "_law_width", "_law_found", "_law_turn", "_law_longer", "_law_entries", "_law_entry", "_law_at"]
theorem d__law_all_rows : n__law_all_rows.Nodup := by decide +kernel
def b__law_all_rows : DS := (sSeq (sAsg (dLst (dCons (dLst dNil) dNil)) (gNm 3)) (sSeq (sFor (iRng1 (dCons (dBin oMulA (dVar 1) (dVar 2)) dNil)) (gNm 4) (sSeq (sAsg (dLst dNil) (gNm 5)) (sSeq (sFor (iSeq (dVar 3)) (gNm 6) (sExpr (dMeth isL mExtend (dVar 5) (dCons (dLc (iRng1 (dCons (dVar 0) dNil)) (gNm 7) tYes1 (dBin oAdd (dVar 6) (dLst (dCons (dVar 7) dNil))) ([("_law_entry", 7)].map (·.2))) dNil)))) (sAsg (dCallB (b1 fList) (dCons (dVar 5) dNil)) (gNm 3))))) (sRet (dLc (iSeq (dVar 3)) (gNm 6) tYes1 (dLc (iRng1 (dCons (dVar 1) dNil)) (gNm 8) tYes1 (dSl (dVar 6) (pAt (dBin oMulA (dVar 8) (dVar 2))) (pAt (dBin oAdd (dBin oMulA (dVar 8) (dVar 2)) (dVar 2)))) ([("_law_at", 8)].map (·.2))) ([("_law_entries", 6)].map (·.2))))))
def f__law_all_rows : Fn := mkFn n__law_all_rows.length b__law_all_rows
theorem c__law_all_rows : FnScope n__law_all_rows ["_law_prime", "_law_height", "_law_width"] (defScope (top 53)) := ⟨by kernel_rfl, by kernel_rfl, by kernel_rfl, d__law_all_rows, by kernel_rfl, by decide +kernel, by decide +kernel⟩
theorem s__law_all_rows {G : Glo} (h : Hy G) : PSsx ⟨G, 0, n__law_all_rows, defScope (top 53), fun _ => true⟩ (defBody (top 53)) b__law_all_rows := (pssx_cons (psx_asg (pex_lst (pax_cons (pex_lst pax_nil) pax_nil)) (pgx_v d__law_all_rows 3 (by kernel_rfl))) (pssx_cons (psx_for (pix_range1 (by kernel_rfl) (h.free 3 rfl) (pax_cons (pex_op opx_mulA (pex_v 1 (by kernel_rfl)) (pex_v 2 (by kernel_rfl))) pax_nil)) (pgx_v d__law_all_rows 4 (by kernel_rfl)) (pssx_cons (psx_asg (pex_lst pax_nil) (pgx_v d__law_all_rows 5 (by kernel_rfl))) (pssx_cons (psx_for (pix_seq (pex_v 3 (by kernel_rfl))) (pgx_v d__law_all_rows 6 (by kernel_rfl)) (pssx_one (psx_expr (pex_bm PySem.F.plainAttrs_list PySem.F.slot_list_extend PySem.F.type_list_extend mtx_extend hckL (pex_v 5 (by kernel_rfl)) (pax_cons (pex_lc d__law_all_rows (pix_range1 (by kernel_rfl) (h.free 3 rfl) (pax_cons (pex_v 0 (by kernel_rfl)) pax_nil)) (own := [("_law_entry", 7)]) (by kernel_rfl) (pgx_v d__law_all_rows 7 (by kernel_rfl)) ptsx_nil (pex_op opx_add (pex_v 6 (by kernel_rfl)) (pex_lst (pax_cons (pex_v 7 (by kernel_rfl)) pax_nil))) (by decide)) pax_nil))))) (pssx_one (psx_asg (pex_bt cx_list (by kernel_rfl) (h.free 9 rfl) (pax_cons (pex_v 5 (by kernel_rfl)) pax_nil)) (pgx_v d__law_all_rows 3 (by kernel_rfl))))))) (pssx_one (psx_ret (pex_lc d__law_all_rows (pix_seq (pex_v 3 (by kernel_rfl))) (own := [("_law_entries", 6)]) (by kernel_rfl) (pgx_v d__law_all_rows 6 (by kernel_rfl)) ptsx_nil (pex_lc d__law_all_rows (pix_range1 (by kernel_rfl) (h.free 3 rfl) (pax_cons (pex_v 1 (by kernel_rfl)) pax_nil)) (own := [("_law_at", 8)]) (by kernel_rfl) (pgx_v d__law_all_rows 8 (by kernel_rfl)) ptsx_nil (pex_sl (pex_v 6 (by kernel_rfl)) (pox_at (pex_op opx_mulA (pex_v 8 (by kernel_rfl)) (pex_v 2 (by kernel_rfl)))) (pox_at (pex_op opx_add (pex_op opx_mulA (pex_v 8 (by kernel_rfl)) (pex_v 2 (by kernel_rfl))) (pex_v 2 (by kernel_rfl))))) (by decide)) (by decide))))))
theorem i__law_all_rows {G : Glo} (h : Hy G) : FnIs G 1 "_law_all_rows" 3 f__law_all_rows := h.fnIs 3 10 rfl rfl rfl c__law_all_rows rfl (fun _ _ _ _ _ _ us hl => match us, hl with | [_, _, _], _ => by kernel_rfl) (s__law_all_rows h)
/-! _law_inverse -/
def n__law_inverse : List Str := ["_law_prime", "_law_number", "_law_one"]
theorem d__law_inverse : n__law_inverse.Nodup := by decide +kernel
def b__law_inverse : DS := (sRet (dBin oIx (dLc (iRng2 (dCons (dC (.int 1)) (dCons (dVar 0) dNil))) (gNm 2) (dTstB (dBin oEq (dBin oModI (dCallB (b1 fInt) (dCons (dBin oMulA (dVar 2) (dVar 1)) dNil)) (dVar 0)) (dC (.int 1)))) (dVar 2) ([("_law_one", 2)].map (·.2))) (dC (.int 0))))
def f__law_inverse : Fn := mkFn n__law_inverse.length b__law_inverse
theorem c__law_inverse : FnScope n__law_inverse ["_law_prime", "_law_number"] (defScope (top 50)) := ⟨by kernel_rfl, by kernel_rfl, by kernel_rfl, d__law_inverse, by kernel_rfl, by decide +kernel, by decide +kernel⟩
theorem s__law_inverse {G : Glo} (h : Hy G) : PSsx ⟨G, 0, n__law_inverse, defScope (top 50), fun _ => true⟩ (defBody (top 50)) b__law_inverse := (pssx_one (psx_ret (pex_ix (pex_lc d__law_inverse (pix_range2 (by kernel_rfl) (h.free 3 rfl) (pax_cons pex_int (pax_cons (pex_v 0 (by kernel_rfl)) pax_nil))) (own := [("_law_one", 2)]) (by kernel_rfl) (pgx_v d__law_inverse 2 (by kernel_rfl)) (ptsx_one (ptx_cmp opx_eq (pex_op opx_modI (pex_bt cx_int (by kernel_rfl) (h.free 4 rfl) (pax_cons (pex_op opx_mulA (pex_v 2 (by kernel_rfl)) (pex_v 1 (by kernel_rfl))) pax_nil)) (pex_v 0 (by kernel_rfl))) pex_int rfl)) (pex_v 2 (by kernel_rfl)) (by decide)) pex_int)))
theorem i__law_inverse {G : Glo} (h : Hy G) : FnIs G 1 "_law_inverse" 2 f__law_inverse := h.fnIs 4 12 rfl rfl rfl c__law_inverse rfl (fun _ _ _ _ _ _ us hl => match us, hl with | [_, _], _ => by kernel_rfl) (s__law_inverse h)
/-! _law_cleared -/
def n__law_cleared : List Str := ["_law_prime", "_law_row", "_law_line", "_law_column", "_law_factor", "_law_entry", "_law_other"]
theorem d__law_cleared : n__law_cleared.Nodup := by decide +kernel
def b__law_cleared : DS := (sSeq (sAsg (dBin oIx (dVar 1) (dVar 3)) (gNm 4)) (sRet (dLc (iZip (dCons (dVar 1) (dCons (dVar 2) dNil))) (gTup 2 (gCons (gNm 5) (gCons (gNm 6) gNil))) tYes1 (dBin oModI (dCallB (b1 fInt) (dCons (dBin oSubI (dVar 5) (dBin oMulA (dVar 4) (dVar 6))) dNil)) (dVar 0)) ([("_law_entry", 5), ("_law_other", 6)].map (·.2)))))
def f__law_cleared : Fn := mkFn n__law_cleared.length b__law_cleared
theorem c__law_cleared : FnScope n__law_cleared ["_law_prime", "_law_row", "_law_line", "_law_column"] (defScope (top 49)) := ⟨by kernel_rfl, by kernel_rfl, by kernel_rfl, d__law_cleared, by kernel_rfl, by decide +kernel, by decide +kernel⟩
theorem s__law_cleared {G : Glo} (h : Hy G) : PSsx ⟨G, 0, n__law_cleared, defScope (top 49), fun _ => true⟩ (defBody (top 49)) b__law_cleared := (pssx_cons (psx_asg (pex_ix (pex_v 1 (by kernel_rfl)) (pex_v 3 (by kernel_rfl))) (pgx_v d__law_cleared 4 (by kernel_rfl))) (pssx_one (psx_ret (pex_lc d__law_cleared (pix_zip (by kernel_rfl) (h.free 13 rfl) (pax_cons (pex_v 1 (by kernel_rfl)) (pax_cons (pex_v 2 (by kernel_rfl)) pax_nil))) (own := [("_law_entry", 5), ("_law_other", 6)]) (by kernel_rfl) (pgx_tup (pgsx_cons (pgx_v d__law_cleared 5 (by kernel_rfl)) (pgsx_cons (pgx_v d__law_cleared 6 (by kernel_rfl)) pgsx_nil))) ptsx_nil (pex_op opx_modI (pex_bt cx_int (by kernel_rfl) (h.free 4 rfl) (pax_cons (pex_op opx_subI (pex_v 5 (by kernel_rfl)) (pex_op opx_mulA (pex_v 4 (by kernel_rfl)) (pex_v 6 (by kernel_rfl)))) pax_nil)) (pex_v 0 (by kernel_rfl))) (by decide)))))
theorem i__law_cleared {G : Glo} (h : Hy G) : FnIs G 1 "_law_cleared" 4 f__law_cleared := h.fnIs 5 14 rfl rfl rfl c__law_cleared rfl (fun _ _ _ _ _ _ us hl => match us, hl with | [_, _, _, _], _ => by kernel_rfl) (s__law_cleared h)
/-! _law_reduced -/
def n__law_reduced : List Str := ["_law_prime", "_law_rows", "_law_left", "_law_found", "_law_leads", "_law_column", "_law_spots", "_law_head", "_law_back", "_law_line", "_law_row", "_law_spot", "_law_entry"]
theorem d__law_reduced : n__law_reduced.Nodup := by decide +kernel
def b__law_reduced : DS := (sSeq (sAsg (dTup (dCons (dLc (iSeq (dVar 1)) (gNm 10) tYes1 (dCallB (b1 fList) (dCons (dVar 10) dNil)) ([("_law_row", 10)].map (·.2))) (dCons (dLst dNil) (dCons (dLst dNil) dNil)))) (gTup 3 (gCons (gNm 2) (gCons (gNm 3) (gCons (gNm 4) gNil))))) (sSeq (sFor (iRng1 (dCons (dIf (dTstB (dBin oNe (dVar 2) (dLst dNil))) (dCallB (b1 fLen) (dCons (dBin oIx (dVar 2) (dC (.int 0))) dNil)) (dC (.int 0))) dNil)) (gNm 5) (sSeq (sAsg (dLc (iEnum (dCons (dVar 2) dNil)) (gTup 2 (gCons (gNm 11) (gCons (gNm 10) gNil))) (dTstB (dBin oNe (dBin oModI (dBin oIx (dVar 10) (dVar 5)) (dVar 0)) (dC (.int 0)))) (dVar 11) ([("_law_spot", 11), ("_law_row", 10)].map (·.2))) (gNm 6)) (sIf (dTstB (dBin oNe (dVar 6) (dLst dNil))) (sSeq (sAsg (dMeth isL mPop (dVar 2) (dCons (dBin oIx (dVar 6) (dC (.int 0))) dNil)) (gNm 7)) (sSeq (sAsg (dCall f__law_inverse (dCons (dVar 0) (dCons (dBin oIx (dVar 7) (dVar 5)) dNil))) (gNm 8)) (sSeq (sAsg (dLc (iSeq (dVar 7)) (gNm 12) tYes1 (dBin oModI (dCallB (b1 fInt) (dCons (dBin oMulA (dVar 12) (dVar 8)) dNil)) (dVar 0)) ([("_law_entry", 12)].map (·.2))) (gNm 9)) (sSeq (sAsg (dLc (iSeq (dVar 2)) (gNm 10) tYes1 (dCall f__law_cleared (dCons (dVar 0) (dCons (dVar 10) (dCons (dVar 9) (dCons (dVar 5) dNil))))) ([("_law_row", 10)].map (·.2))) (gNm 2)) (sSeq (sAsg (dBin oAdd (dLc (iSeq (dVar 3)) (gNm 10) tYes1 (dCall f__law_cleared (dCons (dVar 0) (dCons (dVar 10) (dCons (dVar 9) (dCons (dVar 5) dNil))))) ([("_law_row", 10)].map (·.2))) (dLst (dCons (dVar 9) dNil))) (gNm 3)) (sExpr (dMeth isL mAppend (dVar 4) (dCons (dVar 5) dNil)))))))) sNext))) (sRet (dTup (dCons (dVar 3) (dCons (dVar 4) dNil))))))
def f__law_reduced : Fn := mkFn n__law_reduced.length b__law_reduced
theorem c__law_reduced : FnScope n__law_reduced ["_law_prime", "_law_rows"] (defScope (top 48)) := ⟨by kernel_rfl, by kernel_rfl, by kernel_rfl, d__law_reduced, by kernel_rfl, by decide +kernel, by decide +kernel⟩
theorem s__law_reduced {G : Glo} (h : Hy G) : PSsx ⟨G, 1, n__law_reduced, defScope (top 48), fun _ => true⟩ (defBody (top 48)) b__law_reduced := (pssx_cons (psx_par3 (i := 2) (j := 3) (l := 4) d__law_reduced (by kernel_rfl) (by kernel_rfl) (by kernel_rfl) (by decide) (by decide) (by decide) (by kernel_rfl) (by kernel_rfl) (by kernel_rfl) (pax_cons (pex_lc d__law_reduced (pix_seq (pex_v 1 (by kernel_rfl))) (own := [("_law_row", 10)]) (by kernel_rfl) (pgx_v d__law_reduced 10 (by kernel_rfl)) ptsx_nil (pex_bt cx_list (by kernel_rfl) (h.free 9 rfl) (pax_cons (pex_v 10 (by kernel_rfl)) pax_nil)) (by decide)) (pax_cons (pex_lst pax_nil) (pax_cons (pex_lst pax_nil) pax_nil))) (fun env he => by cases env; dsimp only at he; subst he; kernel_rfl)) (pssx_cons (psx_for (pix_range1 (by kernel_rfl) (h.free 3 rfl) (pax_cons (pex_if (ptx_cmp opx_ne (pex_v 2 (by kernel_rfl)) (pex_lst pax_nil) rfl) (pex_bf cx_len (by kernel_rfl) (h.free 0 rfl) (pax_cons (pex_ix (pex_v 2 (by kernel_rfl)) pex_int) pax_nil)) pex_int) pax_nil)) (pgx_v d__law_reduced 5 (by kernel_rfl)) (pssx_cons (psx_setLc 6 d__law_reduced (by kernel_rfl) (by kernel_rfl) (pix_enum (by kernel_rfl) (h.free 11 rfl) (pax_cons (pex_v 2 (by kernel_rfl)) pax_nil)) (own := [("_law_spot", 11), ("_law_row", 10)]) (by kernel_rfl) (pgx_tup (pgsx_cons (pgx_v d__law_reduced 11 (by kernel_rfl)) (pgsx_cons (pgx_v d__law_reduced 10 (by kernel_rfl)) pgsx_nil))) (ptsx_one (ptx_cmp opx_ne (pex_op opx_modI (pex_ix (pex_v 10 (by kernel_rfl)) (pex_v 5 (by kernel_rfl))) (pex_v 0 (by kernel_rfl))) pex_int rfl)) (pex_v 11 (by kernel_rfl)) (by decide) (by kernel_rfl) (by kernel_rfl) (by kernel_rfl)) (pssx_one (psx_if (ptx_cmp opx_ne (pex_v 6 (by kernel_rfl)) (pex_lst pax_nil) rfl) (pssx_cons (psx_asg (pex_bm PySem.F.plainAttrs_list PySem.F.slot_list_pop PySem.F.type_list_pop mtx_pop hckL (pex_v 2 (by kernel_rfl)) (pax_cons (pex_ix (pex_v 6 (by kernel_rfl)) pex_int) pax_nil)) (pgx_v d__law_reduced 7 (by kernel_rfl))) (pssx_cons (psx_asg (pex_cl (i__law_inverse h) (by kernel_rfl) (by kernel_rfl) (pax_cons (pex_v 0 (by kernel_rfl)) (pax_cons (pex_ix (pex_v 7 (by kernel_rfl)) (pex_v 5 (by kernel_rfl))) pax_nil)) (ln1 (ln1 ln0))) (pgx_v d__law_reduced 8 (by kernel_rfl))) (pssx_cons (psx_asgS (pex_lc d__law_reduced (pix_seq (pex_v 7 (by kernel_rfl))) (own := [("_law_entry", 12)]) (by kernel_rfl) (pgx_v d__law_reduced 12 (by kernel_rfl)) ptsx_nil (pex_op opx_modI (pex_bt cx_int (by kernel_rfl) (h.free 4 rfl) (pax_cons (pex_op opx_mulA (pex_v 12 (by kernel_rfl)) (pex_v 8 (by kernel_rfl))) pax_nil)) (pex_v 0 (by kernel_rfl))) (by decide)) (pgx_v d__law_reduced 9 (by kernel_rfl)) (swaps_cell (by kernel_rfl)) (fun _ _ => rfl)) (pssx_cons (psx_setLc 2 d__law_reduced (by kernel_rfl) (by kernel_rfl) (pix_seq (pex_v 2 (by kernel_rfl))) (own := [("_law_row", 10)]) (by kernel_rfl) (pgx_v d__law_reduced 10 (by kernel_rfl)) ptsx_nil (pex_cl (i__law_cleared h) (by kernel_rfl) (by kernel_rfl) (pax_cons (pex_v 0 (by kernel_rfl)) (pax_cons (pex_v 10 (by kernel_rfl)) (pax_cons (pex_v 9 (by kernel_rfl)) (pax_cons (pex_v 5 (by kernel_rfl)) pax_nil)))) (ln1 (ln1 (ln1 (ln1 ln0))))) (by decide) (by kernel_rfl) (by kernel_rfl) (by kernel_rfl)) (pssx_cons (psx_asg (pex_op opx_add (pex_lc d__law_reduced (pix_seq (pex_v 3 (by kernel_rfl))) (own := [("_law_row", 10)]) (by kernel_rfl) (pgx_v d__law_reduced 10 (by kernel_rfl)) ptsx_nil (pex_cl (i__law_cleared h) (by kernel_rfl) (by kernel_rfl) (pax_cons (pex_v 0 (by kernel_rfl)) (pax_cons (pex_v 10 (by kernel_rfl)) (pax_cons (pex_v 9 (by kernel_rfl)) (pax_cons (pex_v 5 (by kernel_rfl)) pax_nil)))) (ln1 (ln1 (ln1 (ln1 ln0))))) (by decide)) (pex_lst (pax_cons (pex_v 9 (by kernel_rfl)) pax_nil))) (pgx_v d__law_reduced 3 (by kernel_rfl))) (pssx_one (psx_expr (pex_bm PySem.F.plainAttrs_list PySem.F.slot_list_append PySem.F.type_list_append mtx_append hckL (pex_v 4 (by kernel_rfl)) (pax_cons (pex_v 5 (by kernel_rfl)) pax_nil))))))))) pssx_nil)))) (pssx_one (psx_ret (pex_tup (pax_cons (pex_v 3 (by kernel_rfl)) (pax_cons (pex_v 4 (by kernel_rfl)) pax_nil)))))))
theorem i__law_reduced {G : Glo} (h : Hy G) : FnIs G 2 "_law_reduced" 2 f__law_reduced := h.fnIs 6 15 rfl rfl rfl c__law_reduced rfl (fun _ _ _ _ _ _ us hl => match us, hl with | [_, _], _ => by kernel_rfl) (s__law_reduced h)
/-! _law_rank -/
def n__law_rank : List Str := ["_law_prime", "_law_rows"]
theorem d__law_rank : n__law_rank.Nodup := by decide +kernel
def b__law_rank : DS := (sRet (dCallB (b1 fLen) (dCons (dBin oIx (dCall f__law_reduced (dCons (dVar 0) (dCons (dVar 1) dNil))) (dC (.int 1))) dNil)))
def f__law_rank : Fn := mkFn n__law_rank.length b__law_rank
theorem c__law_rank : FnScope n__law_rank ["_law_prime", "_law_rows"] (defScope (top 51)) := ⟨by kernel_rfl, by kernel_rfl, by kernel_rfl, d__law_rank, by kernel_rfl, by decide +kernel, by decide +kernel⟩
theorem s__law_rank {G : Glo} (h : Hy G) : PSsx ⟨G, 2, n__law_rank, defScope (top 51), fun _ => true⟩ (defBody (top 51)) b__law_rank := (pssx_one (psx_ret (pex_bf cx_len (by kernel_rfl) (h.free 0 rfl) (pax_cons (pex_ix (pex_cl (i__law_reduced h) (by kernel_rfl) (by kernel_rfl) (pax_cons (pex_v 0 (by kernel_rfl)) (pax_cons (pex_v 1 (by kernel_rfl)) pax_nil)) (ln1 (ln1 ln0))) pex_int) pax_nil))))
theorem i__law_rank {G : Glo} (h : Hy G) : FnIs G 3 "_law_rank" 2 f__law_rank := h.fnIs 7 16 rfl rfl rfl c__law_rank rfl (fun _ _ _ _ _ _ us hl => match us, hl with | [_, _], _ => by kernel_rfl) (s__law_rank h)
/-! is_whole -/
def n_is_whole : List Str := ["value"]
theorem d_is_whole : n_is_whole.Nodup := by decide +kernel
def b_is_whole : DS := (sRet (dAndV (dCallB bIsi (dCons (dVar 0) (dCons (dC (.ty "int")) dNil))) (dNotV (dCallB bIsi (dCons (dVar 0) (dCons (dC (.ty "bool")) dNil))))))
def f_is_whole : Fn := mkFn n_is_whole.length b_is_whole
theorem c_is_whole : FnScope n_is_whole ["value"] (defScope (top 9)) := ⟨by kernel_rfl, by kernel_rfl, by kernel_rfl, d_is_whole, by kernel_rfl, by decide +kernel, by decide +kernel⟩
theorem s_is_whole {G : Glo} (h : Hy G) : PSsx ⟨G, 0, n_is_whole, defScope (top 9), fun _ => true⟩ (defBody (top 9)) b_is_whole := (pssx_one (psx_ret (pex_and (pex_bf cx_isi (by kernel_rfl) (h.free 17 rfl) (pax_cons (pex_v 0 (by kernel_rfl)) (pax_cons (pex_tyn (by kernel_rfl) (h.free 4 rfl)) pax_nil))) (pex_one (pex_not (pex_bf cx_isi (by kernel_rfl) (h.free 17 rfl) (pax_cons (pex_v 0 (by kernel_rfl)) (pax_cons (pex_tyn (by kernel_rfl) (h.free 18 rfl)) pax_nil))))))))
theorem i_is_whole {G : Glo} (h : Hy G) : FnIs G 1 "is_whole" 1 f_is_whole := h.fnIs 8 19 rfl rfl rfl c_is_whole rfl (fun _ _ _ _ _ _ us hl => match us, hl with | [_], _ => by kernel_rfl) (s_is_whole h)
/-! is_integer -/
def n_is_integer : List Str := ["value"]
theorem d_is_integer : n_is_integer.Nodup := by decide +kernel
def b_is_integer : DS := (sRet (dAndV (dCall f_is_whole (dCons (dVar 0) dNil)) (dChain oLtI oLtI (dUn oNeg (dC (.int (1000000000000000000000000000000000000000000000000000000000000)))) (dVar 0) (dC (.int (1000000000000000000000000000000000000000000000000000000000000))))))
def f_is_integer : Fn := mkFn n_is_integer.length b_is_integer
theorem c_is_integer : FnScope n_is_integer ["value"] (defScope (top 10)) := ⟨by kernel_rfl, by kernel_rfl, by kernel_rfl, d_is_integer, by kernel_rfl, by decide +kernel, by decide +kernel⟩
theorem s_is_integer {G : Glo} (h : Hy G) : PSsx ⟨G, 1, n_is_integer, defScope (top 10), fun _ => true⟩ (defBody (top 10)) b_is_integer := (pssx_one (psx_ret (pex_and (pex_cl (i_is_whole h) (by kernel_rfl) (by kernel_rfl) (pax_cons (pex_v 0 (by kernel_rfl)) pax_nil) (ln1 ln0)) (pex_one (pex_chain opx_ltI opx_ltI (pex_un unx_neg (pex_gi (by kernel_rfl) (h.int 20 rfl))) (pex_v 0 (by kernel_rfl)) (pex_gi (by kernel_rfl) (h.int 20 rfl)) rfl)))))
theorem i_is_integer {G : Glo} (h : Hy G) : FnIs G 2 "is_integer" 1 f_is_integer := h.fnIs 9 21 rfl rfl rfl c_is_integer rfl (fun _ _ _ _ _ _ us hl => match us, hl with | [_], _ => by kernel_rfl) (s_is_integer h)
/-! require_integer -/
def n_require_integer : List Str := ["value"]
theorem d_require_integer : n_require_integer.Nodup := by decide +kernel
def b_require_integer : DS := (sIf (tNot1 (dTst (dCall f_is_integer (dCons (dVar 0) dNil)))) sNever sNext)
def f_require_integer : Fn := mkFn n_require_integer.length b_require_integer
theorem c_require_integer : FnScope n_require_integer ["value"] (defScope (top 26)) := ⟨by kernel_rfl, by kernel_rfl, by kernel_rfl, d_require_integer, by kernel_rfl, by decide +kernel, by decide +kernel⟩
theorem s_require_integer {G : Glo} (h : Hy G) : PSsx ⟨G, 2, n_require_integer, defScope (top 26), fun _ => true⟩ (defBody (top 26)) b_require_integer := (pssx_one (psx_if (ptx_not (ptx_truth (pex_cl (i_is_integer h) (by kernel_rfl) (by kernel_rfl) (pax_cons (pex_v 0 (by kernel_rfl)) pax_nil) (ln1 ln0)))) (pssx_one psx_never) pssx_nil))
theorem i_require_integer {G : Glo} (h : Hy G) : FnIs G 3 "require_integer" 1 f_require_integer := h.fnIs 10 22 rfl rfl rfl c_require_integer rfl (fun _ _ _ _ _ _ us hl => match us, hl with | [_], _ => by kernel_rfl) (s_require_integer h)
/-! value_of -/
def n_value_of : List Str := ["one", "number", "found", "entry"]
theorem d_value_of : n_value_of.Nodup := by decide +kernel
def b_value_of : DS := (sSeq (sAsg (dC (.int 0)) (gNm 2)) (sSeq (sFor (iSeq (dRev (dVar 0))) (gNm 3) (sAsg (dBin oAdd (dBin oMulA (dVar 2) (dVar 1)) (dVar 3)) (gNm 2))) (sRet (dVar 2))))
def f_value_of : Fn := mkFn n_value_of.length b_value_of
theorem c_value_of : FnScope n_value_of ["one", "number"] (defScope (top 15)) := ⟨by kernel_rfl, by kernel_rfl, by kernel_rfl, d_value_of, by kernel_rfl, by decide +kernel, by decide +kernel⟩
theorem s_value_of {G : Glo} (h : Hy G) : PSsx ⟨G, 0, n_value_of, defScope (top 15), fun _ => true⟩ (defBody (top 15)) b_value_of := (pssx_cons (psx_asg pex_int (pgx_v d_value_of 2 (by kernel_rfl))) (pssx_cons (psx_for (pix_seq (pex_rev (pex_v 0 (by kernel_rfl)))) (pgx_v d_value_of 3 (by kernel_rfl)) (pssx_one (psx_asg (pex_op opx_add (pex_op opx_mulA (pex_v 2 (by kernel_rfl)) (pex_v 1 (by kernel_rfl))) (pex_v 3 (by kernel_rfl))) (pgx_v d_value_of 2 (by kernel_rfl))))) (pssx_one (psx_ret (pex_v 2 (by kernel_rfl))))))
theorem i_value_of {G : Glo} (h : Hy G) : FnIs G 1 "value_of" 2 f_value_of := h.fnIs 11 23 rfl rfl rfl c_value_of rfl (fun _ _ _ _ _ _ us hl => match us, hl with | [_, _], _ => by kernel_rfl) (s_value_of h)
/-! Poly.at -/
def n_Poly_at : List Str := ["self", "number"]
theorem d_Poly_at : n_Poly_at.Nodup := by decide +kernel
def b_Poly_at : DS := (sSeq (sExpr (dCall f_require_integer (dCons (dVar 1) dNil))) (sRet (dCall f_value_of (dCons (dFld [(1, 0)] (dVar 0)) (dCons (dVar 1) dNil)))))
def f_Poly_at : Fn := mkFn n_Poly_at.length b_Poly_at
theorem c_Poly_at : FnScope n_Poly_at ["self", "number"] (defScope (inner (top 29) 10)) := ⟨by kernel_rfl, by kernel_rfl, by kernel_rfl, d_Poly_at, by kernel_rfl, by decide +kernel, by decide +kernel⟩
theorem s_Poly_at {G : Glo} (h : Hy G) : PSsx ⟨G, 3, n_Poly_at, defScope (inner (top 29) 10), fun _ => true⟩ (defBody (inner (top 29) 10)) b_Poly_at := (pssx_cons (psx_expr (pex_cl (i_require_integer h) (by kernel_rfl) (by kernel_rfl) (pax_cons (pex_v 1 (by kernel_rfl)) pax_nil) (ln1 ln0))) (pssx_one (psx_ret (pex_cl (i_value_of h) (by kernel_rfl) (by kernel_rfl) (pax_cons (pex_fld (h.fld1 24 25 (c := 1) rfl rfl rfl) (pex_v 0 (by kernel_rfl))) (pax_cons (pex_v 1 (by kernel_rfl)) pax_nil)) (ln1 (ln1 ln0))))))
theorem a_Poly_at {G : Glo} (h : Hy G) : FnA G 4 (ma G.K (ga G.K "Poly") "at") 2 f_Poly_at := h.fnA 12 rfl c_Poly_at rfl (fun _ _ _ _ _ _ us hl => match us, hl with | [_, _], _ => by kernel_rfl) (s_Poly_at h)
theorem i_Poly_at {G : Glo} (h : Hy G) : MtIs G 4 1 "at" 2 f_Poly_at := h.mt 24 26 rfl rfl rfl (a_Poly_at h)
/-! require_to -/
def n_require_to : List Str := ["value", "most"]
theorem d_require_to : n_require_to.Nodup := by decide +kernel
def b_require_to : DS := (sIf (tOr2 (tNot1 (dTst (dCall f_is_integer (dCons (dVar 0) dNil)))) (tNot1 (dTstB (dChain oLeI oLeI (dC (.int 0)) (dVar 0) (dVar 1))))) sNever sNext)
def f_require_to : Fn := mkFn n_require_to.length b_require_to
theorem c_require_to : FnScope n_require_to ["value", "most"] (defScope (top 38)) := ⟨by kernel_rfl, by kernel_rfl, by kernel_rfl, d_require_to, by kernel_rfl, by decide +kernel, by decide +kernel⟩
theorem s_require_to {G : Glo} (h : Hy G) : PSsx ⟨G, 2, n_require_to, defScope (top 38), fun _ => true⟩ (defBody (top 38)) b_require_to := (pssx_one (psx_if (PWx.pt (pwx_or (ptx_not (ptx_truth (pex_cl (i_is_integer h) (by kernel_rfl) (by kernel_rfl) (pax_cons (pex_v 0 (by kernel_rfl)) pax_nil) (ln1 ln0)))) (pwx_or1 (ptx_not (ptx_chain opx_leI opx_leI pex_int (pex_v 0 (by kernel_rfl)) (pex_v 1 (by kernel_rfl)) rfl))))) (pssx_one psx_never) pssx_nil))
theorem i_require_to {G : Glo} (h : Hy G) : FnIs G 3 "require_to" 2 f_require_to := h.fnIs 13 27 rfl rfl rfl c_require_to rfl (fun _ _ _ _ _ _ us hl => match us, hl with | [_, _], _ => by kernel_rfl) (s_require_to h)
/-! is_within -/
def n_is_within : List Str := ["value", "least", "most"]
theorem d_is_within : n_is_within.Nodup := by decide +kernel
def b_is_within : DS := (sRet (dAndV (dCall f_is_integer (dCons (dVar 0) dNil)) (dChain oLeI oLeI (dVar 1) (dVar 0) (dVar 2))))
def f_is_within : Fn := mkFn n_is_within.length b_is_within
theorem c_is_within : FnScope n_is_within ["value", "least", "most"] (defScope (top 24)) := ⟨by kernel_rfl, by kernel_rfl, by kernel_rfl, d_is_within, by kernel_rfl, by decide +kernel, by decide +kernel⟩
theorem s_is_within {G : Glo} (h : Hy G) : PSsx ⟨G, 2, n_is_within, defScope (top 24), fun _ => true⟩ (defBody (top 24)) b_is_within := (pssx_one (psx_ret (pex_and (pex_cl (i_is_integer h) (by kernel_rfl) (by kernel_rfl) (pax_cons (pex_v 0 (by kernel_rfl)) pax_nil) (ln1 ln0)) (pex_one (pex_chain opx_leI opx_leI (pex_v 1 (by kernel_rfl)) (pex_v 0 (by kernel_rfl)) (pex_v 2 (by kernel_rfl)) rfl)))))
theorem i_is_within {G : Glo} (h : Hy G) : FnIs G 3 "is_within" 3 f_is_within := h.fnIs 14 29 rfl rfl rfl c_is_within rfl (fun _ _ _ _ _ _ us hl => match us, hl with | [_, _, _], _ => by kernel_rfl) (s_is_within h)
/-! require_within -/
def n_require_within : List Str := ["value", "least", "most"]
theorem d_require_within : n_require_within.Nodup := by decide +kernel
def b_require_within : DS := (sIf (tNot1 (dTst (dCall f_is_within (dCons (dVar 0) (dCons (dVar 1) (dCons (dVar 2) dNil)))))) sNever sNext)
def f_require_within : Fn := mkFn n_require_within.length b_require_within
theorem c_require_within : FnScope n_require_within ["value", "least", "most"] (defScope (top 25)) := ⟨by kernel_rfl, by kernel_rfl, by kernel_rfl, d_require_within, by kernel_rfl, by decide +kernel, by decide +kernel⟩
theorem s_require_within {G : Glo} (h : Hy G) : PSsx ⟨G, 3, n_require_within, defScope (top 25), fun _ => true⟩ (defBody (top 25)) b_require_within := (pssx_one (psx_if (ptx_not (ptx_truth (pex_cl (i_is_within h) (by kernel_rfl) (by kernel_rfl) (pax_cons (pex_v 0 (by kernel_rfl)) (pax_cons (pex_v 1 (by kernel_rfl)) (pax_cons (pex_v 2 (by kernel_rfl)) pax_nil))) (ln1 (ln1 (ln1 ln0)))))) (pssx_one psx_never) pssx_nil))
theorem i_require_within {G : Glo} (h : Hy G) : FnIs G 4 "require_within" 3 f_require_within := h.fnIs 15 30 rfl rfl rfl c_require_within rfl (fun _ _ _ _ _ _ us hl => match us, hl with | [_, _, _], _ => by kernel_rfl) (s_require_within h)
/-! trimmed -/
def n_trimmed : List Str := ["numbers", "size"]
theorem d_trimmed : n_trimmed.Nodup := by decide +kernel
def b_trimmed : DS := (sSeq (sAsg (dCallB (b1 fLen) (dCons (dVar 0) dNil)) (gNm 1)) (sSeq (sWhile (tAnd2 (dTstB (dBin oGtI (dVar 1) (dC (.int 0)))) (dTstB (dBin oEq (dBin oIx (dVar 0) (dBin oSubI (dVar 1) (dC (.int 1)))) (dC (.int 0))))) (sAug 1 oSubI (dC (.int 1)))) (sRet (dCallB (b1 fList) (dCons (dSl (dVar 0) pNo (pAt (dVar 1))) dNil)))))
def f_trimmed : Fn := mkFn n_trimmed.length b_trimmed
theorem c_trimmed : FnScope n_trimmed ["numbers"] (defScope (top 12)) := ⟨by kernel_rfl, by kernel_rfl, by kernel_rfl, d_trimmed, by kernel_rfl, by decide +kernel, by decide +kernel⟩
theorem s_trimmed {G : Glo} (h : Hy G) : PSsx ⟨G, 0, n_trimmed, defScope (top 12), fun _ => true⟩ (defBody (top 12)) b_trimmed := (pssx_cons (psx_asg (pex_bf cx_len (by kernel_rfl) (h.free 0 rfl) (pax_cons (pex_v 0 (by kernel_rfl)) pax_nil)) (pgx_v d_trimmed 1 (by kernel_rfl))) (pssx_cons (psx_while (PWx.pt (pwx_and (ptx_cmp opx_gtI (pex_v 1 (by kernel_rfl)) pex_int rfl) (pwx_and1 (ptx_cmp opx_eq (pex_ix (pex_v 0 (by kernel_rfl)) (pex_op opx_subI (pex_v 1 (by kernel_rfl)) pex_int)) pex_int rfl)))) (pssx_one (psx_augv d_trimmed 1 (by kernel_rfl) ipx_sub pex_int))) (pssx_one (psx_ret (pex_bt cx_list (by kernel_rfl) (h.free 9 rfl) (pax_cons (pex_sl (pex_v 0 (by kernel_rfl)) pox_no (pox_at (pex_v 1 (by kernel_rfl)))) pax_nil))))))
theorem i_trimmed {G : Glo} (h : Hy G) : FnIs G 1 "trimmed" 1 f_trimmed := h.fnIs 16 43 rfl rfl rfl c_trimmed rfl (fun _ _ _ _ _ _ us hl => match us, hl with | [_], _ => by kernel_rfl) (s_trimmed h)
/-! numbers_told -/
def n_numbers_told : List Str := ["value", "entry"]
theorem d_numbers_told : n_numbers_told.Nodup := by decide +kernel
def b_numbers_told : DS := (sSeq (sIf (dTst (dCallB (bIsiC 0 [0, 1]) (dCons (dVar 0) (dCons (dC (.st 0)) dNil)))) (sRet (dFld [(0, 0)] (dVar 0))) sNext) (sSeq (sIf (tOr2 (tNot1 (dTst (dCallB bIsi (dCons (dVar 0) (dCons (dC (.ty "tuple")) dNil))))) (tOr2 (dTstB (dBin oGtI (dCallB (b1 fLen) (dCons (dVar 0) dNil)) (dBin oAdd (dC (.int (100))) (dC (.int 1))))) (tNot1 (dTst (dCallB (b1 fAll) (dCons (dLc (iSeq (dVar 0)) (gNm 1) tYes1 (dCall f_is_integer (dCons (dVar 1) dNil)) ([("entry", 1)].map (·.2))) dNil)))))) sNever sNext) (sRet (dCall f_trimmed (dCons (dVar 0) dNil)))))
def f_numbers_told : Fn := mkFn n_numbers_told.length b_numbers_told
theorem c_numbers_told : FnScope n_numbers_told ["value"] (defScope (top 28)) := ⟨by kernel_rfl, by kernel_rfl, by kernel_rfl, d_numbers_told, by kernel_rfl, by decide +kernel, by decide +kernel⟩
theorem s_numbers_told {G : Glo} (h : Hy G) : PSsx ⟨G, 2, n_numbers_told, defScope (top 28), fun _ => true⟩ (defBody (top 28)) b_numbers_told := (pssx_cons (psx_if (ptx_truth (pex_bf (cx_isiC (IsiIs.add (h.isi1 37 rfl rfl (h.isiOne 24 35 36 (c := 0) (c' := 1) rfl rfl rfl rfl rfl rfl)) (h.isiOne 32 33 34 (c := 0) (c' := 0) rfl rfl rfl rfl rfl rfl))) (by kernel_rfl) (h.free 17 rfl) (pax_cons (pex_v 0 (by kernel_rfl)) (pax_cons (pex_gc (by kernel_rfl) (gc_of h 38 (c := 0) rfl rfl)) pax_nil)))) (pssx_one (psx_ret (pex_fld (h.fld1 32 39 (c := 0) rfl rfl rfl) (pex_v 0 (by kernel_rfl))))) pssx_nil) (pssx_cons (psx_if (PWx.pt (pwx_or (ptx_not (ptx_truth (pex_bf cx_isi (by kernel_rfl) (h.free 17 rfl) (pax_cons (pex_v 0 (by kernel_rfl)) (pax_cons (pex_tyn (by kernel_rfl) (h.free 40 rfl)) pax_nil))))) (pwx_or (ptx_cmp opx_gtI (pex_bf cx_len (by kernel_rfl) (h.free 0 rfl) (pax_cons (pex_v 0 (by kernel_rfl)) pax_nil)) (pex_op opx_add (pex_gi (by kernel_rfl) (h.int 41 rfl)) pex_int) rfl) (pwx_or1 (ptx_not (ptx_truth (pex_bf cx_all (by kernel_rfl) (h.free 42 rfl) (pax_cons (pex_lc d_numbers_told (pix_seq (pex_v 0 (by kernel_rfl))) (own := [("entry", 1)]) (by kernel_rfl) (pgx_v d_numbers_told 1 (by kernel_rfl)) ptsx_nil (pex_cl (i_is_integer h) (by kernel_rfl) (by kernel_rfl) (pax_cons (pex_v 1 (by kernel_rfl)) pax_nil) (ln1 ln0)) (by decide)) pax_nil)))))))) (pssx_one psx_never) pssx_nil) (pssx_one (psx_ret (pex_cl (i_trimmed h) (by kernel_rfl) (by kernel_rfl) (pax_cons (pex_v 0 (by kernel_rfl)) pax_nil) (ln1 ln0))))))
theorem i_numbers_told {G : Glo} (h : Hy G) : FnIs G 3 "numbers_told" 1 f_numbers_told := h.fnIs 17 44 rfl rfl rfl c_numbers_told rfl (fun _ _ _ _ _ _ us hl => match us, hl with | [_], _ => by kernel_rfl) (s_numbers_told h)
/-! content_of -/
def n_content_of : List Str := ["one", "found", "entry"]
theorem d_content_of : n_content_of.Nodup := by decide +kernel
def b_content_of : DS := (sSeq (sAsg (dC (.int 0)) (gNm 1)) (sSeq (sFor (iSeq (dVar 0)) (gNm 2) (sAsg (dCallB (b2 fGcd) (dCons (dVar 1) (dCons (dVar 2) dNil))) (gNm 1))) (sRet (dVar 1))))
def f_content_of : Fn := mkFn n_content_of.length b_content_of
theorem c_content_of : FnScope n_content_of ["one"] (defScope (top 16)) := ⟨by kernel_rfl, by kernel_rfl, by kernel_rfl, d_content_of, by kernel_rfl, by decide +kernel, by decide +kernel⟩
theorem s_content_of {G : Glo} (h : Hy G) : PSsx ⟨G, 0, n_content_of, defScope (top 16), fun _ => true⟩ (defBody (top 16)) b_content_of := (pssx_cons (psx_asg pex_int (pgx_v d_content_of 1 (by kernel_rfl))) (pssx_cons (psx_for (pix_seq (pex_v 0 (by kernel_rfl))) (pgx_v d_content_of 2 (by kernel_rfl)) (pssx_one (psx_asg (pex_bm2 cx_gcd (by kernel_rfl) (h.bi 45 rfl) (pax_cons (pex_v 1 (by kernel_rfl)) (pax_cons (pex_v 2 (by kernel_rfl)) pax_nil))) (pgx_v d_content_of 1 (by kernel_rfl))))) (pssx_one (psx_ret (pex_v 1 (by kernel_rfl))))))
theorem i_content_of {G : Glo} (h : Hy G) : FnIs G 1 "content_of" 1 f_content_of := h.fnIs 18 46 rfl rfl rfl c_content_of rfl (fun _ _ _ _ _ _ us hl => match us, hl with | [_], _ => by kernel_rfl) (s_content_of h)
/-! Poly.__init__ -/
def n_Poly___init__ : List Str := ["self", "coefficients"]
theorem d_Poly___init__ : n_Poly___init__.Nodup := by decide +kernel
def b_Poly___init__ : DS := (sSeq (sFld [(1, 0)] (dVar 0) (dCallB (b1 fTuple) (dCons (dCall f_numbers_told (dCons (dVar 1) dNil)) dNil))) (sFld [(1, 1)] (dVar 0) (dCall f_content_of (dCons (dFld [(1, 0)] (dVar 0)) dNil))))
def f_Poly___init__ : Fn := mkFn n_Poly___init__.length b_Poly___init__
theorem c_Poly___init__ : FnScope n_Poly___init__ ["self", "coefficients"] (defScope (inner (top 29) 1)) := ⟨by kernel_rfl, by kernel_rfl, by kernel_rfl, d_Poly___init__, by kernel_rfl, by decide +kernel, by decide +kernel⟩
theorem s_Poly___init__ {G : Glo} (h : Hy G) : PSsx ⟨G, 3, n_Poly___init__, defScope (inner (top 29) 1), fun _ => true⟩ (defBody (inner (top 29) 1)) b_Poly___init__ := (pssx_cons (psx_fld (h.fld1 24 25 (c := 1) rfl rfl rfl) (pex_v 0 (by kernel_rfl)) (pex_bt cx_tuple (by kernel_rfl) (h.free 40 rfl) (pax_cons (pex_cl (i_numbers_told h) (by kernel_rfl) (by kernel_rfl) (pax_cons (pex_v 1 (by kernel_rfl)) pax_nil) (ln1 ln0)) pax_nil))) (pssx_one (psx_fld (h.fld1 24 47 (c := 1) rfl rfl rfl) (pex_v 0 (by kernel_rfl)) (pex_cl (i_content_of h) (by kernel_rfl) (by kernel_rfl) (pax_cons (pex_fld (h.fld1 24 25 (c := 1) rfl rfl rfl) (pex_v 0 (by kernel_rfl))) pax_nil) (ln1 ln0)))))
theorem a_Poly___init__ {G : Glo} (h : Hy G) : FnA G 4 (ma G.K (ga G.K "Poly") "__init__") 2 f_Poly___init__ := h.fnA 19 rfl c_Poly___init__ rfl (fun _ _ _ _ _ _ us hl => match us, hl with | [_, _], _ => by kernel_rfl) (s_Poly___init__ h)
theorem i_Poly___init__ {G : Glo} (h : Hy G) : MkIs G 4 1 "Poly" 2 f_Poly___init__ := h.mkI 48 49 rfl rfl rfl (a_Poly___init__ h)
/-! Kept.__init__ -/
def n_Kept___init__ : List Str := ["self", "numbers"]
theorem d_Kept___init__ : n_Kept___init__.Nodup := by decide +kernel
def b_Kept___init__ : DS := (sFld [(0, 0)] (dVar 0) (dVar 1))
def f_Kept___init__ : Fn := mkFn n_Kept___init__.length b_Kept___init__
theorem c_Kept___init__ : FnScope n_Kept___init__ ["self", "numbers"] (defScope (inner (top 27) 1)) := ⟨by kernel_rfl, by kernel_rfl, by kernel_rfl, d_Kept___init__, by kernel_rfl, by decide +kernel, by decide +kernel⟩
theorem s_Kept___init__ {G : Glo} (h : Hy G) : PSsx ⟨G, 0, n_Kept___init__, defScope (inner (top 27) 1), fun _ => true⟩ (defBody (inner (top 27) 1)) b_Kept___init__ := (pssx_one (psx_fld (h.fld1 32 39 (c := 0) rfl rfl rfl) (pex_v 0 (by kernel_rfl)) (pex_v 1 (by kernel_rfl))))
theorem a_Kept___init__ {G : Glo} (h : Hy G) : FnA G 1 (ma G.K (ga G.K "Kept") "__init__") 2 f_Kept___init__ := h.fnA 20 rfl c_Kept___init__ rfl (fun _ _ _ _ _ _ us hl => match us, hl with | [_, _], _ => by kernel_rfl) (s_Kept___init__ h)
theorem i_Kept___init__ {G : Glo} (h : Hy G) : MkIs G 1 0 "Kept" 2 f_Kept___init__ := h.mkI 50 38 rfl rfl rfl (a_Kept___init__ h)
/-! poly_of -/
def n_poly_of : List Str := ["numbers"]
theorem d_poly_of : n_poly_of.Nodup := by decide +kernel
def b_poly_of : DS := (sRet (dMk 1 f_Poly___init__ (dCons (dMk 0 f_Kept___init__ (dCons (dVar 0) dNil)) dNil)))
def f_poly_of : Fn := mkFn n_poly_of.length b_poly_of
theorem c_poly_of : FnScope n_poly_of ["numbers"] (defScope (top 30)) := ⟨by kernel_rfl, by kernel_rfl, by kernel_rfl, d_poly_of, by kernel_rfl, by decide +kernel, by decide +kernel⟩
theorem s_poly_of {G : Glo} (h : Hy G) : PSsx ⟨G, 5, n_poly_of, defScope (top 30), fun _ => true⟩ (defBody (top 30)) b_poly_of := (pssx_one (psx_ret (pex_new (i_Poly___init__ h) (by kernel_rfl) (by kernel_rfl) (pax_cons (pex_new (i_Kept___init__ h) (by kernel_rfl) (by kernel_rfl) (pax_cons (pex_v 0 (by kernel_rfl)) pax_nil) (ln1 ln0)) pax_nil) (ln1 ln0))))
theorem i_poly_of {G : Glo} (h : Hy G) : FnIs G 6 "poly_of" 1 f_poly_of := h.fnIs 21 51 rfl rfl rfl c_poly_of rfl (fun _ _ _ _ _ _ us hl => match us, hl with | [_], _ => by kernel_rfl) (s_poly_of h)
/-! divided -/
def n_divided : List Str := ["one", "other", "left", "found", "ahead", "factor", "place", "entry"]
theorem d_divided : n_divided.Nodup := by decide +kernel
def b_divided : DS := (sSeq (sAsg (dTup (dCons (dCallB (b1 fList) (dCons (dVar 0) dNil)) (dCons (dBin oMulA (dLst (dCons (dC (.int 0)) dNil)) (dCallB (b2 fMax2) (dCons (dC (.int 0)) (dCons (dBin oAdd (dBin oSubI (dCallB (b1 fLen) (dCons (dVar 0) dNil)) (dCallB (b1 fLen) (dCons (dVar 1) dNil))) (dC (.int 1))) dNil)))) dNil))) (gTup 2 (gCons (gNm 2) (gCons (gNm 3) gNil)))) (sSeq (sFor (iRngD (dCons (dBin oSubI (dCallB (b1 fLen) (dCons (dVar 0) dNil)) (dCallB (b1 fLen) (dCons (dVar 1) dNil))) (dCons (dUn oNeg (dC (.int 1))) (dCons (dUn oNeg (dC (.int 1))) dNil)))) (gNm 4) (sSeq (sAsg (dBin oDivI (dBin oIx (dVar 2) (dBin oSubI (dBin oAdd (dVar 4) (dCallB (b1 fLen) (dCons (dVar 1) dNil))) (dC (.int 1)))) (dBin oIx (dVar 1) (dUn oNeg (dC (.int 1))))) (gNm 5)) (sSeq (sAsg (dVar 5) (gSb (dVar 3) (dVar 4))) (sIf (dTstB (dBin oNe (dVar 5) (dC (.int 0)))) (sFor (iEnum (dCons (dVar 1) dNil)) (gTup 2 (gCons (gNm 6) (gCons (gNm 7) gNil))) (sAugS (dVar 2) (dBin oAdd (dVar 4) (dVar 6)) oSubI (dBin oMulA (dVar 5) (dVar 7)))) sNext)))) (sRet (dCall f_trimmed (dCons (dVar 3) dNil)))))
def f_divided : Fn := mkFn n_divided.length b_divided
theorem c_divided : FnScope n_divided ["one", "other"] (defScope (top 17)) := ⟨by kernel_rfl, by kernel_rfl, by kernel_rfl, d_divided, by kernel_rfl, by decide +kernel, by decide +kernel⟩
theorem s_divided {G : Glo} (h : Hy G) : PSsx ⟨G, 1, n_divided, defScope (top 17), fun _ => true⟩ (defBody (top 17)) b_divided := (pssx_cons (psx_par (i := 2) (j := 3) d_divided (by kernel_rfl) (by kernel_rfl) (by decide) (by kernel_rfl) (by kernel_rfl) (pax_cons (pex_bt cx_list (by kernel_rfl) (h.free 9 rfl) (pax_cons (pex_v 0 (by kernel_rfl)) pax_nil)) (pax_cons (pex_op opx_mulA (pex_lst (pax_cons pex_int pax_nil)) (pex_bf cx_max2 (by kernel_rfl) (h.free 2 rfl) (pax_cons pex_int (pax_cons (pex_op opx_add (pex_op opx_subI (pex_bf cx_len (by kernel_rfl) (h.free 0 rfl) (pax_cons (pex_v 0 (by kernel_rfl)) pax_nil)) (pex_bf cx_len (by kernel_rfl) (h.free 0 rfl) (pax_cons (pex_v 1 (by kernel_rfl)) pax_nil))) pex_int) pax_nil)))) pax_nil)) (fun env he => by cases env; dsimp only at he; subst he; kernel_rfl)) (pssx_cons (psx_for (pix_rangeD (by kernel_rfl) (h.free 3 rfl) (pax_cons (pex_op opx_subI (pex_bf cx_len (by kernel_rfl) (h.free 0 rfl) (pax_cons (pex_v 0 (by kernel_rfl)) pax_nil)) (pex_bf cx_len (by kernel_rfl) (h.free 0 rfl) (pax_cons (pex_v 1 (by kernel_rfl)) pax_nil))) (pax_cons (pex_un unx_neg pex_int) (pax_cons (pex_un unx_neg pex_int) pax_nil)))) (pgx_v d_divided 4 (by kernel_rfl)) (pssx_cons (psx_asg (pex_op opx_divI (pex_ix (pex_v 2 (by kernel_rfl)) (pex_op opx_subI (pex_op opx_add (pex_v 4 (by kernel_rfl)) (pex_bf cx_len (by kernel_rfl) (h.free 0 rfl) (pax_cons (pex_v 1 (by kernel_rfl)) pax_nil))) pex_int)) (pex_ix (pex_v 1 (by kernel_rfl)) (pex_un unx_neg pex_int))) (pgx_v d_divided 5 (by kernel_rfl))) (pssx_cons (psx_asg (pex_v 5 (by kernel_rfl)) (pgx_sb (pex_v 3 (by kernel_rfl)) (pex_v 4 (by kernel_rfl)))) (pssx_one (psx_if (ptx_cmp opx_ne (pex_v 5 (by kernel_rfl)) pex_int rfl) (pssx_one (psx_for (pix_enum (by kernel_rfl) (h.free 11 rfl) (pax_cons (pex_v 1 (by kernel_rfl)) pax_nil)) (pgx_tup (pgsx_cons (pgx_v d_divided 6 (by kernel_rfl)) (pgsx_cons (pgx_v d_divided 7 (by kernel_rfl)) pgsx_nil))) (pssx_one (psx_augS (pex_v 2 (by kernel_rfl)) (pex_op opx_add (pex_v 4 (by kernel_rfl)) (pex_v 6 (by kernel_rfl))) ipx_sub (pex_op opx_mulA (pex_v 5 (by kernel_rfl)) (pex_v 7 (by kernel_rfl))))))) pssx_nil))))) (pssx_one (psx_ret (pex_cl (i_trimmed h) (by kernel_rfl) (by kernel_rfl) (pax_cons (pex_v 3 (by kernel_rfl)) pax_nil) (ln1 ln0))))))
theorem i_divided {G : Glo} (h : Hy G) : FnIs G 2 "divided" 2 f_divided := h.fnIs 22 52 rfl rfl rfl c_divided rfl (fun _ _ _ _ _ _ us hl => match us, hl with | [_, _], _ => by kernel_rfl) (s_divided h)
/-! product_of -/
def n_product_of : List Str := ["one", "other", "found", "place", "number", "step", "entry"]
theorem d_product_of : n_product_of.Nodup := by decide +kernel
def b_product_of : DS := (sSeq (sAsg (dBin oMulA (dLst (dCons (dC (.int 0)) dNil)) (dCallB (b2 fMax2) (dCons (dC (.int 0)) (dCons (dBin oSubI (dBin oAdd (dCallB (b1 fLen) (dCons (dVar 0) dNil)) (dCallB (b1 fLen) (dCons (dVar 1) dNil))) (dC (.int 1))) dNil)))) (gNm 2)) (sSeq (sFor (iEnum (dCons (dVar 0) dNil)) (gTup 2 (gCons (gNm 3) (gCons (gNm 4) gNil))) (sIf (dTstB (dBin oNe (dVar 4) (dC (.int 0)))) (sFor (iEnum (dCons (dVar 1) dNil)) (gTup 2 (gCons (gNm 5) (gCons (gNm 6) gNil))) (sAugS (dVar 2) (dBin oAdd (dVar 3) (dVar 5)) oAddI (dBin oMulA (dVar 4) (dVar 6)))) sNext)) (sRet (dCall f_trimmed (dCons (dVar 2) dNil)))))
def f_product_of : Fn := mkFn n_product_of.length b_product_of
theorem c_product_of : FnScope n_product_of ["one", "other"] (defScope (top 14)) := ⟨by kernel_rfl, by kernel_rfl, by kernel_rfl, d_product_of, by kernel_rfl, by decide +kernel, by decide +kernel⟩
theorem s_product_of {G : Glo} (h : Hy G) : PSsx ⟨G, 1, n_product_of, defScope (top 14), fun _ => true⟩ (defBody (top 14)) b_product_of := (pssx_cons (psx_asg (pex_op opx_mulA (pex_lst (pax_cons pex_int pax_nil)) (pex_bf cx_max2 (by kernel_rfl) (h.free 2 rfl) (pax_cons pex_int (pax_cons (pex_op opx_subI (pex_op opx_add (pex_bf cx_len (by kernel_rfl) (h.free 0 rfl) (pax_cons (pex_v 0 (by kernel_rfl)) pax_nil)) (pex_bf cx_len (by kernel_rfl) (h.free 0 rfl) (pax_cons (pex_v 1 (by kernel_rfl)) pax_nil))) pex_int) pax_nil)))) (pgx_v d_product_of 2 (by kernel_rfl))) (pssx_cons (psx_for (pix_enum (by kernel_rfl) (h.free 11 rfl) (pax_cons (pex_v 0 (by kernel_rfl)) pax_nil)) (pgx_tup (pgsx_cons (pgx_v d_product_of 3 (by kernel_rfl)) (pgsx_cons (pgx_v d_product_of 4 (by kernel_rfl)) pgsx_nil))) (pssx_one (psx_if (ptx_cmp opx_ne (pex_v 4 (by kernel_rfl)) pex_int rfl) (pssx_one (psx_for (pix_enum (by kernel_rfl) (h.free 11 rfl) (pax_cons (pex_v 1 (by kernel_rfl)) pax_nil)) (pgx_tup (pgsx_cons (pgx_v d_product_of 5 (by kernel_rfl)) (pgsx_cons (pgx_v d_product_of 6 (by kernel_rfl)) pgsx_nil))) (pssx_one (psx_augS (pex_v 2 (by kernel_rfl)) (pex_op opx_add (pex_v 3 (by kernel_rfl)) (pex_v 5 (by kernel_rfl))) ipx_add (pex_op opx_mulA (pex_v 4 (by kernel_rfl)) (pex_v 6 (by kernel_rfl))))))) pssx_nil))) (pssx_one (psx_ret (pex_cl (i_trimmed h) (by kernel_rfl) (by kernel_rfl) (pax_cons (pex_v 2 (by kernel_rfl)) pax_nil) (ln1 ln0))))))
theorem i_product_of {G : Glo} (h : Hy G) : FnIs G 2 "product_of" 2 f_product_of := h.fnIs 23 53 rfl rfl rfl c_product_of rfl (fun _ _ _ _ _ _ us hl => match us, hl with | [_, _], _ => by kernel_rfl) (s_product_of h)
/-! gauss_numbers -/
def n_gauss_numbers : List Str := ["top", "low", "found", "step", "above", "under"]
theorem d_gauss_numbers : n_gauss_numbers.Nodup := by decide +kernel
def b_gauss_numbers : DS := (sSeq (sAsg (dLst (dCons (dC (.int 1)) dNil)) (gNm 2)) (sSeq (sFor (iRng1 (dCons (dVar 1) dNil)) (gNm 3) (sSeq (sAsg (dTup (dCons (dLst (dCons (dUn oNeg (dC (.int 1))) (dStar (dBin oMulA (dLst (dCons (dC (.int 0)) dNil)) (dBin oSubI (dBin oSubI (dVar 0) (dVar 3)) (dC (.int 1)))) (dCons (dC (.int 1)) dNil)))) (dCons (dLst (dCons (dUn oNeg (dC (.int 1))) (dStar (dBin oMulA (dLst (dCons (dC (.int 0)) dNil)) (dVar 3)) (dCons (dC (.int 1)) dNil)))) dNil))) (gTup 2 (gCons (gNm 4) (gCons (gNm 5) gNil)))) (sAsg (dCall f_divided (dCons (dCall f_product_of (dCons (dVar 2) (dCons (dVar 4) dNil))) (dCons (dVar 5) dNil))) (gNm 2)))) (sRet (dVar 2))))
def f_gauss_numbers : Fn := mkFn n_gauss_numbers.length b_gauss_numbers
theorem c_gauss_numbers : FnScope n_gauss_numbers ["top", "low"] (defScope (top 18)) := ⟨by kernel_rfl, by kernel_rfl, by kernel_rfl, d_gauss_numbers, by kernel_rfl, by decide +kernel, by decide +kernel⟩
theorem s_gauss_numbers {G : Glo} (h : Hy G) : PSsx ⟨G, 2, n_gauss_numbers, defScope (top 18), fun _ => true⟩ (defBody (top 18)) b_gauss_numbers := (pssx_cons (psx_asg (pex_lst (pax_cons pex_int pax_nil)) (pgx_v d_gauss_numbers 2 (by kernel_rfl))) (pssx_cons (psx_for (pix_range1 (by kernel_rfl) (h.free 3 rfl) (pax_cons (pex_v 1 (by kernel_rfl)) pax_nil)) (pgx_v d_gauss_numbers 3 (by kernel_rfl)) (pssx_cons (psx_par (i := 4) (j := 5) d_gauss_numbers (by kernel_rfl) (by kernel_rfl) (by decide) (by kernel_rfl) (by kernel_rfl) (pax_cons (pex_lst (pax_cons (pex_un unx_neg pex_int) (pax_star (pex_op opx_mulA (pex_lst (pax_cons pex_int pax_nil)) (pex_op opx_subI (pex_op opx_subI (pex_v 0 (by kernel_rfl)) (pex_v 3 (by kernel_rfl))) pex_int)) (pax_cons pex_int pax_nil)))) (pax_cons (pex_lst (pax_cons (pex_un unx_neg pex_int) (pax_star (pex_op opx_mulA (pex_lst (pax_cons pex_int pax_nil)) (pex_v 3 (by kernel_rfl))) (pax_cons pex_int pax_nil)))) pax_nil)) (fun env he => by cases env; dsimp only at he; subst he; kernel_rfl)) (pssx_one (psx_asg (pex_cl (i_divided h) (by kernel_rfl) (by kernel_rfl) (pax_cons (pex_cl (i_product_of h) (by kernel_rfl) (by kernel_rfl) (pax_cons (pex_v 2 (by kernel_rfl)) (pax_cons (pex_v 4 (by kernel_rfl)) pax_nil)) (ln1 (ln1 ln0))) (pax_cons (pex_v 5 (by kernel_rfl)) pax_nil)) (ln1 (ln1 ln0))) (pgx_v d_gauss_numbers 2 (by kernel_rfl)))))) (pssx_one (psx_ret (pex_v 2 (by kernel_rfl))))))
theorem i_gauss_numbers {G : Glo} (h : Hy G) : FnIs G 3 "gauss_numbers" 2 f_gauss_numbers := h.fnIs 24 54 rfl rfl rfl c_gauss_numbers rfl (fun _ _ _ _ _ _ us hl => match us, hl with | [_, _], _ => by kernel_rfl) (s_gauss_numbers h)
/-! gauss -/
def n_gauss : List Str := ["top", "low"]
theorem d_gauss : n_gauss.Nodup := by decide +kernel
def b_gauss : DS := (sSeq (sExpr (dCall f_require_within (dCons (dVar 0) (dCons (dC (.int 0)) (dCons (dC (.int (12))) dNil))))) (sSeq (sExpr (dCall f_require_within (dCons (dVar 1) (dCons (dC (.int 0)) (dCons (dC (.int (12))) dNil))))) (sRet (dCall f_poly_of (dCons (dIf (dTstB (dBin oLeI (dVar 1) (dVar 0))) (dCall f_gauss_numbers (dCons (dVar 0) (dCons (dVar 1) dNil))) (dLst dNil)) dNil)))))
def f_gauss : Fn := mkFn n_gauss.length b_gauss
theorem c_gauss : FnScope n_gauss ["top", "low"] (defScope (top 32)) := ⟨by kernel_rfl, by kernel_rfl, by kernel_rfl, d_gauss, by kernel_rfl, by decide +kernel, by decide +kernel⟩
theorem s_gauss {G : Glo} (h : Hy G) : PSsx ⟨G, 6, n_gauss, defScope (top 32), fun _ => true⟩ (defBody (top 32)) b_gauss := (pssx_cons (psx_expr (pex_cl (i_require_within h) (by kernel_rfl) (by kernel_rfl) (pax_cons (pex_v 0 (by kernel_rfl)) (pax_cons pex_int (pax_cons (pex_gi (by kernel_rfl) (h.int 31 rfl)) pax_nil))) (ln1 (ln1 (ln1 ln0))))) (pssx_cons (psx_expr (pex_cl (i_require_within h) (by kernel_rfl) (by kernel_rfl) (pax_cons (pex_v 1 (by kernel_rfl)) (pax_cons pex_int (pax_cons (pex_gi (by kernel_rfl) (h.int 31 rfl)) pax_nil))) (ln1 (ln1 (ln1 ln0))))) (pssx_one (psx_ret (pex_cl (i_poly_of h) (by kernel_rfl) (by kernel_rfl) (pax_cons (pex_if (ptx_cmp opx_leI (pex_v 1 (by kernel_rfl)) (pex_v 0 (by kernel_rfl)) rfl) (pex_cl (i_gauss_numbers h) (by kernel_rfl) (by kernel_rfl) (pax_cons (pex_v 0 (by kernel_rfl)) (pax_cons (pex_v 1 (by kernel_rfl)) pax_nil)) (ln1 (ln1 ln0))) (pex_lst pax_nil)) pax_nil) (ln1 ln0))))))
theorem i_gauss {G : Glo} (h : Hy G) : FnIs G 7 "gauss" 2 f_gauss := h.fnIs 25 55 rfl rfl rfl c_gauss rfl (fun _ _ _ _ _ _ us hl => match us, hl with | [_, _], _ => by kernel_rfl) (s_gauss h)
/-! poly_told -/
def n_poly_told : List Str := ["value"]
theorem d_poly_told : n_poly_told.Nodup := by decide +kernel
def b_poly_told : DS := (sSeq (sIf (dTst (dCallB (bIsiC 1 [0, 1]) (dCons (dVar 0) (dCons (dC (.st 1)) dNil)))) (sRet (dCallB (b1 fList) (dCons (dFld [(1, 0)] (dVar 0)) dNil))) sNext) (sSeq (sIf (tNot1 (dTst (dCall f_is_integer (dCons (dVar 0) dNil)))) sNever sNext) (sRet (dCall f_trimmed (dCons (dLst (dCons (dVar 0) dNil)) dNil)))))
def f_poly_told : Fn := mkFn n_poly_told.length b_poly_told
theorem c_poly_told : FnScope n_poly_told ["value"] (defScope (top 31)) := ⟨by kernel_rfl, by kernel_rfl, by kernel_rfl, d_poly_told, by kernel_rfl, by decide +kernel, by decide +kernel⟩
theorem s_poly_told {G : Glo} (h : Hy G) : PSsx ⟨G, 2, n_poly_told, defScope (top 31), fun _ => true⟩ (defBody (top 31)) b_poly_told := (pssx_cons (psx_if (ptx_truth (pex_bf (cx_isiC (IsiIs.add (h.isi1 58 rfl rfl (h.isiOne 24 35 57 (c := 1) (c' := 1) rfl rfl rfl rfl rfl rfl)) (h.isiOne 32 33 56 (c := 1) (c' := 0) rfl rfl rfl rfl rfl rfl))) (by kernel_rfl) (h.free 17 rfl) (pax_cons (pex_v 0 (by kernel_rfl)) (pax_cons (pex_gc (by kernel_rfl) (gc_of h 49 (c := 1) rfl rfl)) pax_nil)))) (pssx_one (psx_ret (pex_bt cx_list (by kernel_rfl) (h.free 9 rfl) (pax_cons (pex_fld (h.fld1 24 25 (c := 1) rfl rfl rfl) (pex_v 0 (by kernel_rfl))) pax_nil)))) pssx_nil) (pssx_cons (psx_if (ptx_not (ptx_truth (pex_cl (i_is_integer h) (by kernel_rfl) (by kernel_rfl) (pax_cons (pex_v 0 (by kernel_rfl)) pax_nil) (ln1 ln0)))) (pssx_one psx_never) pssx_nil) (pssx_one (psx_ret (pex_cl (i_trimmed h) (by kernel_rfl) (by kernel_rfl) (pax_cons (pex_lst (pax_cons (pex_v 0 (by kernel_rfl)) pax_nil)) pax_nil) (ln1 ln0))))))
theorem i_poly_told {G : Glo} (h : Hy G) : FnIs G 3 "poly_told" 1 f_poly_told := h.fnIs 26 59 rfl rfl rfl c_poly_told rfl (fun _ _ _ _ _ _ us hl => match us, hl with | [_], _ => by kernel_rfl) (s_poly_told h)
/-! Poly.times -/
def n_Poly_times : List Str := ["self", "other"]
theorem d_Poly_times : n_Poly_times.Nodup := by decide +kernel
def b_Poly_times : DS := (sRet (dCall f_poly_of (dCons (dCall f_product_of (dCons (dFld [(1, 0)] (dVar 0)) (dCons (dCall f_poly_told (dCons (dVar 1) dNil)) dNil))) dNil)))
def f_Poly_times : Fn := mkFn n_Poly_times.length b_Poly_times
theorem c_Poly_times : FnScope n_Poly_times ["self", "other"] (defScope (inner (top 29) 7)) := ⟨by kernel_rfl, by kernel_rfl, by kernel_rfl, d_Poly_times, by kernel_rfl, by decide +kernel, by decide +kernel⟩
theorem s_Poly_times {G : Glo} (h : Hy G) : PSsx ⟨G, 6, n_Poly_times, defScope (inner (top 29) 7), fun _ => true⟩ (defBody (inner (top 29) 7)) b_Poly_times := (pssx_one (psx_ret (pex_cl (i_poly_of h) (by kernel_rfl) (by kernel_rfl) (pax_cons (pex_cl (i_product_of h) (by kernel_rfl) (by kernel_rfl) (pax_cons (pex_fld (h.fld1 24 25 (c := 1) rfl rfl rfl) (pex_v 0 (by kernel_rfl))) (pax_cons (pex_cl (i_poly_told h) (by kernel_rfl) (by kernel_rfl) (pax_cons (pex_v 1 (by kernel_rfl)) pax_nil) (ln1 ln0)) pax_nil)) (ln1 (ln1 ln0))) pax_nil) (ln1 ln0))))
theorem a_Poly_times {G : Glo} (h : Hy G) : FnA G 7 (ma G.K (ga G.K "Poly") "times") 2 f_Poly_times := h.fnA 27 rfl c_Poly_times rfl (fun _ _ _ _ _ _ us hl => match us, hl with | [_, _], _ => by kernel_rfl) (s_Poly_times h)
theorem i_Poly_times {G : Glo} (h : Hy G) : MtIs G 7 1 "times" 2 f_Poly_times := h.mt 24 60 rfl rfl rfl (a_Poly_times h)
/-! sum_of -/
def n_sum_of : List Str := ["one", "other", "factor", "size", "first", "last", "here", "there"]
theorem d_sum_of : n_sum_of.Nodup := by decide +kernel
def b_sum_of : DS := (sSeq (sAsg (dCallB (b2 fMax2) (dCons (dCallB (b1 fLen) (dCons (dVar 0) dNil)) (dCons (dCallB (b1 fLen) (dCons (dVar 1) dNil)) dNil))) (gNm 3)) (sSeq (sAsg (dTup (dCons (dLst (dStar (dVar 0) (dStar (dBin oMulA (dLst (dCons (dC (.int 0)) dNil)) (dBin oSubI (dVar 3) (dCallB (b1 fLen) (dCons (dVar 0) dNil)))) dNil))) (dCons (dLst (dStar (dVar 1) (dStar (dBin oMulA (dLst (dCons (dC (.int 0)) dNil)) (dBin oSubI (dVar 3) (dCallB (b1 fLen) (dCons (dVar 1) dNil)))) dNil))) dNil))) (gTup 2 (gCons (gNm 4) (gCons (gNm 5) gNil)))) (sRet (dCall f_trimmed (dCons (dLc (iZip (dCons (dVar 4) (dCons (dVar 5) dNil))) (gTup 2 (gCons (gNm 6) (gCons (gNm 7) gNil))) tYes1 (dBin oAdd (dVar 6) (dBin oMulA (dVar 2) (dVar 7))) ([("here", 6), ("there", 7)].map (·.2))) dNil)))))
def f_sum_of : Fn := mkFn n_sum_of.length b_sum_of
theorem c_sum_of : FnScope n_sum_of ["one", "other", "factor"] (defScope (top 13)) := ⟨by kernel_rfl, by kernel_rfl, by kernel_rfl, d_sum_of, by kernel_rfl, by decide +kernel, by decide +kernel⟩
theorem s_sum_of {G : Glo} (h : Hy G) : PSsx ⟨G, 1, n_sum_of, defScope (top 13), fun _ => true⟩ (defBody (top 13)) b_sum_of := (pssx_cons (psx_asg (pex_bf cx_max2 (by kernel_rfl) (h.free 2 rfl) (pax_cons (pex_bf cx_len (by kernel_rfl) (h.free 0 rfl) (pax_cons (pex_v 0 (by kernel_rfl)) pax_nil)) (pax_cons (pex_bf cx_len (by kernel_rfl) (h.free 0 rfl) (pax_cons (pex_v 1 (by kernel_rfl)) pax_nil)) pax_nil))) (pgx_v d_sum_of 3 (by kernel_rfl))) (pssx_cons (psx_par (i := 4) (j := 5) d_sum_of (by kernel_rfl) (by kernel_rfl) (by decide) (by kernel_rfl) (by kernel_rfl) (pax_cons (pex_lst (pax_star (pex_v 0 (by kernel_rfl)) (pax_star (pex_op opx_mulA (pex_lst (pax_cons pex_int pax_nil)) (pex_op opx_subI (pex_v 3 (by kernel_rfl)) (pex_bf cx_len (by kernel_rfl) (h.free 0 rfl) (pax_cons (pex_v 0 (by kernel_rfl)) pax_nil)))) pax_nil))) (pax_cons (pex_lst (pax_star (pex_v 1 (by kernel_rfl)) (pax_star (pex_op opx_mulA (pex_lst (pax_cons pex_int pax_nil)) (pex_op opx_subI (pex_v 3 (by kernel_rfl)) (pex_bf cx_len (by kernel_rfl) (h.free 0 rfl) (pax_cons (pex_v 1 (by kernel_rfl)) pax_nil)))) pax_nil))) pax_nil)) (fun env he => by cases env; dsimp only at he; subst he; kernel_rfl)) (pssx_one (psx_ret (pex_cl (i_trimmed h) (by kernel_rfl) (by kernel_rfl) (pax_cons (pex_lc d_sum_of (pix_zip (by kernel_rfl) (h.free 13 rfl) (pax_cons (pex_v 4 (by kernel_rfl)) (pax_cons (pex_v 5 (by kernel_rfl)) pax_nil))) (own := [("here", 6), ("there", 7)]) (by kernel_rfl) (pgx_tup (pgsx_cons (pgx_v d_sum_of 6 (by kernel_rfl)) (pgsx_cons (pgx_v d_sum_of 7 (by kernel_rfl)) pgsx_nil))) ptsx_nil (pex_op opx_add (pex_v 6 (by kernel_rfl)) (pex_op opx_mulA (pex_v 2 (by kernel_rfl)) (pex_v 7 (by kernel_rfl)))) (by decide)) pax_nil) (ln1 ln0))))))
theorem i_sum_of {G : Glo} (h : Hy G) : FnIs G 2 "sum_of" 3 f_sum_of := h.fnIs 28 61 rfl rfl rfl c_sum_of rfl (fun _ _ _ _ _ _ us hl => match us, hl with | [_, _, _], _ => by kernel_rfl) (s_sum_of h)
/-! Poly.minus -/
def n_Poly_minus : List Str := ["self", "other"]
theorem d_Poly_minus : n_Poly_minus.Nodup := by decide +kernel
def b_Poly_minus : DS := (sRet (dCall f_poly_of (dCons (dCall f_sum_of (dCons (dFld [(1, 0)] (dVar 0)) (dCons (dCall f_poly_told (dCons (dVar 1) dNil)) (dCons (dUn oNeg (dC (.int 1))) dNil)))) dNil)))
def f_Poly_minus : Fn := mkFn n_Poly_minus.length b_Poly_minus
theorem c_Poly_minus : FnScope n_Poly_minus ["self", "other"] (defScope (inner (top 29) 6)) := ⟨by kernel_rfl, by kernel_rfl, by kernel_rfl, d_Poly_minus, by kernel_rfl, by decide +kernel, by decide +kernel⟩
theorem s_Poly_minus {G : Glo} (h : Hy G) : PSsx ⟨G, 6, n_Poly_minus, defScope (inner (top 29) 6), fun _ => true⟩ (defBody (inner (top 29) 6)) b_Poly_minus := (pssx_one (psx_ret (pex_cl (i_poly_of h) (by kernel_rfl) (by kernel_rfl) (pax_cons (pex_cl (i_sum_of h) (by kernel_rfl) (by kernel_rfl) (pax_cons (pex_fld (h.fld1 24 25 (c := 1) rfl rfl rfl) (pex_v 0 (by kernel_rfl))) (pax_cons (pex_cl (i_poly_told h) (by kernel_rfl) (by kernel_rfl) (pax_cons (pex_v 1 (by kernel_rfl)) pax_nil) (ln1 ln0)) (pax_cons (pex_un unx_neg pex_int) pax_nil))) (ln1 (ln1 (ln1 ln0)))) pax_nil) (ln1 ln0))))
theorem a_Poly_minus {G : Glo} (h : Hy G) : FnA G 7 (ma G.K (ga G.K "Poly") "minus") 2 f_Poly_minus := h.fnA 29 rfl c_Poly_minus rfl (fun _ _ _ _ _ _ us hl => match us, hl with | [_, _], _ => by kernel_rfl) (s_Poly_minus h)
theorem i_Poly_minus {G : Glo} (h : Hy G) : MtIs G 7 1 "minus" 2 f_Poly_minus := h.mt 24 62 rfl rfl rfl (a_Poly_minus h)
/-! tables_of_rank -/
def n_tables_of_rank : List Str := ["height", "width", "rank", "side", "found", "at"]
theorem d_tables_of_rank : n_tables_of_rank.Nodup := by decide +kernel
def b_tables_of_rank : DS := (sSeq (sFor (iSeq (dTup (dCons (dVar 0) (dCons (dVar 1) (dCons (dVar 2) dNil))))) (gNm 3) (sExpr (dCall f_require_to (dCons (dVar 3) (dCons (dC (.int (12))) dNil))))) (sSeq (sAsg (dCall f_gauss (dCons (dVar 0) (dCons (dVar 2) dNil))) (gNm 4)) (sSeq (sFor (iRng1 (dCons (dVar 2) dNil)) (gNm 5) (sAsg (dMth 1 f_Poly_times (dVar 4) (dCons (dMth 1 f_Poly_minus (dMk 1 f_Poly___init__ (dCons (dBin oAdd (dBin oMulB (dTup (dCons (dC (.int 0)) dNil)) (dVar 1)) (dTup (dCons (dC (.int 1)) dNil))) dNil)) (dCons (dMk 1 f_Poly___init__ (dCons (dBin oAdd (dBin oMulB (dTup (dCons (dC (.int 0)) dNil)) (dVar 5)) (dTup (dCons (dC (.int 1)) dNil))) dNil)) dNil)) dNil)) (gNm 4))) (sRet (dVar 4)))))
def f_tables_of_rank : Fn := mkFn n_tables_of_rank.length b_tables_of_rank
theorem c_tables_of_rank : FnScope n_tables_of_rank ["height", "width", "rank"] (defScope (top 42)) := ⟨by kernel_rfl, by kernel_rfl, by kernel_rfl, d_tables_of_rank, by kernel_rfl, by decide +kernel, by decide +kernel⟩
theorem s_tables_of_rank {G : Glo} (h : Hy G) : PSsx ⟨G, 7, n_tables_of_rank, defScope (top 42), fun _ => true⟩ (defBody (top 42)) b_tables_of_rank := (pssx_cons (psx_for (pix_seq (pex_tup (pax_cons (pex_v 0 (by kernel_rfl)) (pax_cons (pex_v 1 (by kernel_rfl)) (pax_cons (pex_v 2 (by kernel_rfl)) pax_nil))))) (pgx_v d_tables_of_rank 3 (by kernel_rfl)) (pssx_one (psx_expr (pex_cl (i_require_to h) (by kernel_rfl) (by kernel_rfl) (pax_cons (pex_v 3 (by kernel_rfl)) (pax_cons (pex_gi (by kernel_rfl) (h.int 28 rfl)) pax_nil)) (ln1 (ln1 ln0)))))) (pssx_cons (psx_asg (pex_cl (i_gauss h) (by kernel_rfl) (by kernel_rfl) (pax_cons (pex_v 0 (by kernel_rfl)) (pax_cons (pex_v 2 (by kernel_rfl)) pax_nil)) (ln1 (ln1 ln0))) (pgx_v d_tables_of_rank 4 (by kernel_rfl))) (pssx_cons (psx_for (pix_range1 (by kernel_rfl) (h.free 3 rfl) (pax_cons (pex_v 2 (by kernel_rfl)) pax_nil)) (pgx_v d_tables_of_rank 5 (by kernel_rfl)) (pssx_one (psx_asg (pex_mth (i_Poly_times h) (Nat.le_of_ble_eq_true (by kernel_rfl)) (pex_v 4 (by kernel_rfl)) (pax_cons (pex_mth (i_Poly_minus h) (Nat.le_of_ble_eq_true (by kernel_rfl)) (pex_new (i_Poly___init__ h) (by kernel_rfl) (by kernel_rfl) (pax_cons (pex_op opx_add (pex_op opx_mulB (pex_tup (pax_cons pex_int pax_nil)) (pex_v 1 (by kernel_rfl))) (pex_tup (pax_cons pex_int pax_nil))) pax_nil) (ln1 ln0)) (pax_cons (pex_new (i_Poly___init__ h) (by kernel_rfl) (by kernel_rfl) (pax_cons (pex_op opx_add (pex_op opx_mulB (pex_tup (pax_cons pex_int pax_nil)) (pex_v 5 (by kernel_rfl))) (pex_tup (pax_cons pex_int pax_nil))) pax_nil) (ln1 ln0)) pax_nil) (ln1 ln0)) pax_nil) (ln1 ln0)) (pgx_v d_tables_of_rank 4 (by kernel_rfl))))) (pssx_one (psx_ret (pex_v 4 (by kernel_rfl)))))))
theorem i_tables_of_rank {G : Glo} (h : Hy G) : FnIs G 8 "tables_of_rank" 3 f_tables_of_rank := h.fnIs 30 63 rfl rfl rfl c_tables_of_rank rfl (fun _ _ _ _ _ _ us hl => match us, hl with | [_, _, _], _ => by kernel_rfl) (s_tables_of_rank h)
/-! _law_small_right -/
def n__law_small_right : List Str := ["_law_lot_here", "_law_prime", "_law_height", "_law_width", "_law_ranks", "_law_rank_here", "_law_rows"]
theorem d__law_small_right : n__law_small_right.Nodup := by decide +kernel
def b__law_small_right : DS := (sSeq (sAsg (dCall f__law_one_of (dCons (dVar 0) (dCons (dLst (dCons (dTup (dCons (dC (.int 2)) (dCons (dC (.int 2)) (dCons (dC (.int 2)) dNil)))) (dCons (dTup (dCons (dC (.int 2)) (dCons (dC (.int 3)) (dCons (dC (.int 2)) dNil)))) (dCons (dTup (dCons (dC (.int 2)) (dCons (dC (.int 2)) (dCons (dC (.int 4)) dNil)))) (dCons (dTup (dCons (dC (.int 2)) (dCons (dC (.int 3)) (dCons (dC (.int 3)) dNil)))) (dCons (dTup (dCons (dC (.int 3)) (dCons (dC (.int 2)) (dCons (dC (.int 2)) dNil)))) (dCons (dTup (dCons (dC (.int 3)) (dCons (dC (.int 1)) (dCons (dC (.int 4)) dNil)))) (dCons (dTup (dCons (dC (.int 3)) (dCons (dC (.int 2)) (dCons (dC (.int 3)) dNil)))) (dCons (dTup (dCons (dC (.int 5)) (dCons (dC (.int 2)) (dCons (dC (.int 2)) dNil)))) (dCons (dTup (dCons (dC (.int 7)) (dCons (dC (.int 1)) (dCons (dC (.int 3)) dNil)))) (dCons (dTup (dCons (dC (.int 2)) (dCons (dC (.int 0)) (dCons (dC (.int 3)) dNil)))) (dCons (dTup (dCons (dC (.int 5)) (dCons (dC (.int 2)) (dCons (dC (.int 0)) dNil)))) dNil)))))))))))) dNil))) (gTup 3 (gCons (gNm 1) (gCons (gNm 2) (gCons (gNm 3) gNil))))) (sSeq (sAsg (dLc (iSeq (dCall f__law_all_rows (dCons (dVar 1) (dCons (dVar 2) (dCons (dVar 3) dNil))))) (gNm 6) tYes1 (dCall f__law_rank (dCons (dVar 1) (dCons (dVar 6) dNil))) ([("_law_rows", 6)].map (·.2))) (gNm 4)) (sSeq (sFor (iRng1 (dCons (dC (.int 5)) dNil)) (gNm 5) (sIf (dTstB (dBin oNe (dMth 1 f_Poly_at (dCall f_tables_of_rank (dCons (dVar 2) (dCons (dVar 3) (dCons (dVar 5) dNil)))) (dCons (dVar 1) dNil)) (dMeth isL mCount (dVar 4) (dCons (dVar 5) dNil)))) (sRet (dC (.bl false))) sNext)) (sRet (dC (.bl true))))))
def f__law_small_right : Fn := mkFn n__law_small_right.length b__law_small_right
theorem c__law_small_right : FnScope n__law_small_right ["_law_lot_here"] (defScope (top 54)) := ⟨by kernel_rfl, by kernel_rfl, by kernel_rfl, d__law_small_right, by kernel_rfl, by decide +kernel, by decide +kernel⟩
theorem s__law_small_right {G : Glo} (h : Hy G) : PSsx ⟨G, 8, n__law_small_right, defScope (top 54), fun _ => true⟩ (defBody (top 54)) b__law_small_right := (pssx_cons (psx_asg (pex_cl (i__law_one_of h) (by kernel_rfl) (by kernel_rfl) (pax_cons (pex_v 0 (by kernel_rfl)) (pax_cons (pex_lst (pax_cons (pex_tup (pax_cons pex_int (pax_cons pex_int (pax_cons pex_int pax_nil)))) (pax_cons (pex_tup (pax_cons pex_int (pax_cons pex_int (pax_cons pex_int pax_nil)))) (pax_cons (pex_tup (pax_cons pex_int (pax_cons pex_int (pax_cons pex_int pax_nil)))) (pax_cons (pex_tup (pax_cons pex_int (pax_cons pex_int (pax_cons pex_int pax_nil)))) (pax_cons (pex_tup (pax_cons pex_int (pax_cons pex_int (pax_cons pex_int pax_nil)))) (pax_cons (pex_tup (pax_cons pex_int (pax_cons pex_int (pax_cons pex_int pax_nil)))) (pax_cons (pex_tup (pax_cons pex_int (pax_cons pex_int (pax_cons pex_int pax_nil)))) (pax_cons (pex_tup (pax_cons pex_int (pax_cons pex_int (pax_cons pex_int pax_nil)))) (pax_cons (pex_tup (pax_cons pex_int (pax_cons pex_int (pax_cons pex_int pax_nil)))) (pax_cons (pex_tup (pax_cons pex_int (pax_cons pex_int (pax_cons pex_int pax_nil)))) (pax_cons (pex_tup (pax_cons pex_int (pax_cons pex_int (pax_cons pex_int pax_nil)))) pax_nil)))))))))))) pax_nil)) (ln1 (ln1 ln0))) (pgx_tup (pgsx_cons (pgx_v d__law_small_right 1 (by kernel_rfl)) (pgsx_cons (pgx_v d__law_small_right 2 (by kernel_rfl)) (pgsx_cons (pgx_v d__law_small_right 3 (by kernel_rfl)) pgsx_nil))))) (pssx_cons (psx_setLc 4 d__law_small_right (by kernel_rfl) (by kernel_rfl) (pix_seq (pex_cl (i__law_all_rows h) (by kernel_rfl) (by kernel_rfl) (pax_cons (pex_v 1 (by kernel_rfl)) (pax_cons (pex_v 2 (by kernel_rfl)) (pax_cons (pex_v 3 (by kernel_rfl)) pax_nil))) (ln1 (ln1 (ln1 ln0))))) (own := [("_law_rows", 6)]) (by kernel_rfl) (pgx_v d__law_small_right 6 (by kernel_rfl)) ptsx_nil (pex_cl (i__law_rank h) (by kernel_rfl) (by kernel_rfl) (pax_cons (pex_v 1 (by kernel_rfl)) (pax_cons (pex_v 6 (by kernel_rfl)) pax_nil)) (ln1 (ln1 ln0))) (by decide) (by kernel_rfl) (by kernel_rfl) (by kernel_rfl)) (pssx_cons (psx_for (pix_range1 (by kernel_rfl) (h.free 3 rfl) (pax_cons pex_int pax_nil)) (pgx_v d__law_small_right 5 (by kernel_rfl)) (pssx_one (psx_if (ptx_cmp opx_ne (pex_mth (i_Poly_at h) (Nat.le_of_ble_eq_true (by kernel_rfl)) (pex_cl (i_tables_of_rank h) (by kernel_rfl) (by kernel_rfl) (pax_cons (pex_v 2 (by kernel_rfl)) (pax_cons (pex_v 3 (by kernel_rfl)) (pax_cons (pex_v 5 (by kernel_rfl)) pax_nil))) (ln1 (ln1 (ln1 ln0)))) (pax_cons (pex_v 1 (by kernel_rfl)) pax_nil) (ln1 ln0)) (pex_bm PySem.F.plainAttrs_list PySem.F.slot_list_count PySem.F.type_list_count mtx_count hckL (pex_v 4 (by kernel_rfl)) (pax_cons (pex_v 5 (by kernel_rfl)) pax_nil)) rfl) (pssx_one (psx_ret pex_bl)) pssx_nil))) (pssx_one (psx_ret pex_bl)))))
theorem i__law_small_right {G : Glo} (h : Hy G) : FnIs G 9 "_law_small_right" 1 f__law_small_right := h.fnIs 31 64 rfl rfl rfl c__law_small_right rfl (fun _ _ _ _ _ _ us hl => match us, hl with | [_], _ => by kernel_rfl) (s__law_small_right h)
/-! _law_power -/
def n__law_power : List Str := ["_law_number", "_law_exponent", "_law_found", "_law_turn"]
theorem d__law_power : n__law_power.Nodup := by decide +kernel
def b__law_power : DS := (sSeq (sAsg (dC (.int 1)) (gNm 2)) (sSeq (sFor (iRng1 (dCons (dVar 1) dNil)) (gNm 3) (sAsg (dBin oMulA (dVar 2) (dVar 0)) (gNm 2))) (sRet (dVar 2))))
def f__law_power : Fn := mkFn n__law_power.length b__law_power
theorem c__law_power : FnScope n__law_power ["_law_number", "_law_exponent"] (defScope (top 47)) := ⟨by kernel_rfl, by kernel_rfl, by kernel_rfl, d__law_power, by kernel_rfl, by decide +kernel, by decide +kernel⟩
theorem s__law_power {G : Glo} (h : Hy G) : PSsx ⟨G, 0, n__law_power, defScope (top 47), fun _ => true⟩ (defBody (top 47)) b__law_power := (pssx_cons (psx_asg pex_int (pgx_v d__law_power 2 (by kernel_rfl))) (pssx_cons (psx_for (pix_range1 (by kernel_rfl) (h.free 3 rfl) (pax_cons (pex_v 1 (by kernel_rfl)) pax_nil)) (pgx_v d__law_power 3 (by kernel_rfl)) (pssx_one (psx_asg (pex_op opx_mulA (pex_v 2 (by kernel_rfl)) (pex_v 0 (by kernel_rfl))) (pgx_v d__law_power 2 (by kernel_rfl))))) (pssx_one (psx_ret (pex_v 2 (by kernel_rfl))))))
theorem i__law_power {G : Glo} (h : Hy G) : FnIs G 1 "_law_power" 2 f__law_power := h.fnIs 32 66 rfl rfl rfl c__law_power rfl (fun _ _ _ _ _ _ us hl => match us, hl with | [_, _], _ => by kernel_rfl) (s__law_power h)
/-! Poly.__eq__ -/
def n_Poly___eq__ : List Str := ["self", "other"]
theorem d_Poly___eq__ : n_Poly___eq__.Nodup := by decide +kernel
def b_Poly___eq__ : DS := (sRet (dAndV (dCallB (bIsiC 1 [0, 1]) (dCons (dVar 1) (dCons (dC (.st 1)) dNil))) (dBin oEq (dFld [(1, 0)] (dVar 0)) (dFld [(1, 0)] (dVar 1)))))
def f_Poly___eq__ : Fn := mkFn n_Poly___eq__.length b_Poly___eq__
theorem c_Poly___eq__ : FnScope n_Poly___eq__ ["self", "other"] (defScope (inner (top 29) 12)) := ⟨by kernel_rfl, by kernel_rfl, by kernel_rfl, d_Poly___eq__, by kernel_rfl, by decide +kernel, by decide +kernel⟩
theorem s_Poly___eq__ {G : Glo} (h : Hy G) : PSsx ⟨G, 0, n_Poly___eq__, defScope (inner (top 29) 12), fun _ => true⟩ (defBody (inner (top 29) 12)) b_Poly___eq__ := (pssx_one (psx_ret (pex_and (pex_bf (cx_isiC (IsiIs.add (h.isi1 58 rfl rfl (h.isiOne 24 35 57 (c := 1) (c' := 1) rfl rfl rfl rfl rfl rfl)) (h.isiOne 32 33 56 (c := 1) (c' := 0) rfl rfl rfl rfl rfl rfl))) (by kernel_rfl) (h.free 17 rfl) (pax_cons (pex_v 1 (by kernel_rfl)) (pax_cons (pex_gc (by kernel_rfl) (gc_of h 49 (c := 1) rfl rfl)) pax_nil))) (pex_one (pex_cmp opx_eq (pex_fld (h.fld1 24 25 (c := 1) rfl rfl rfl) (pex_v 0 (by kernel_rfl))) (pex_fld (h.fld1 24 25 (c := 1) rfl rfl rfl) (pex_v 1 (by kernel_rfl))) rfl)))))
theorem a_Poly___eq__ {G : Glo} (h : Hy G) : FnA G 1 (ma G.K (ga G.K "Poly") "__eq__") 2 f_Poly___eq__ := h.fnA 33 rfl c_Poly___eq__ rfl (fun _ _ _ _ _ _ us hl => match us, hl with | [_, _], _ => by kernel_rfl) (s_Poly___eq__ h)
theorem q_Poly___eq__ {G : Glo} (h : Hy G) : EqIs G 1 1 f_Poly___eq__ := h.eqIs 35 67 68 rfl rfl rfl rfl (a_Poly___eq__ h)
/-! Poly.coefficients -/
def n_Poly_coefficients : List Str := ["self"]
theorem d_Poly_coefficients : n_Poly_coefficients.Nodup := by decide +kernel
def b_Poly_coefficients : DS := (sRet (dFld [(1, 0)] (dVar 0)))
def f_Poly_coefficients : Fn := mkFn n_Poly_coefficients.length b_Poly_coefficients
theorem c_Poly_coefficients : FnScope n_Poly_coefficients ["self"] (defScope (inner (top 29) 2)) := ⟨by kernel_rfl, by kernel_rfl, by kernel_rfl, d_Poly_coefficients, by kernel_rfl, by decide +kernel, by decide +kernel⟩
theorem s_Poly_coefficients {G : Glo} (h : Hy G) : PSsx ⟨G, 0, n_Poly_coefficients, defScope (inner (top 29) 2), fun _ => true⟩ (defBody (inner (top 29) 2)) b_Poly_coefficients := (pssx_one (psx_ret (pex_fld (h.fld1 24 25 (c := 1) rfl rfl rfl) (pex_v 0 (by kernel_rfl)))))
theorem a_Poly_coefficients {G : Glo} (h : Hy G) : FnA G 1 (pgA G.K (ga G.K "Poly") "coefficients") 1 f_Poly_coefficients := h.fnA 34 rfl c_Poly_coefficients rfl (fun _ _ _ _ _ _ us hl => match us, hl with | [_], _ => by kernel_rfl) (s_Poly_coefficients h)
theorem i_Poly_coefficients {G : Glo} (h : Hy G) : PrIs G 1 1 "coefficients" f_Poly_coefficients := h.prp 24 69 rfl rfl rfl (a_Poly_coefficients h)
/-! _law_tt_prime -/
def n__law_tt_prime : List Str := ["_law_lot_here"]
theorem d__law_tt_prime : n__law_tt_prime.Nodup := by decide +kernel
def b__law_tt_prime : DS := (sRet (dCall f__law_one_of (dCons (dVar 0) (dCons (dLst (dCons (dC (.int 2)) (dCons (dC (.int 2)) (dCons (dC (.int 3)) (dCons (dC (.int 3)) (dCons (dC (.int 5)) (dCons (dC (.int 7)) dNil))))))) dNil))))
def f__law_tt_prime : Fn := mkFn n__law_tt_prime.length b__law_tt_prime
theorem c__law_tt_prime : FnScope n__law_tt_prime ["_law_lot_here"] (defScope (top 52)) := ⟨by kernel_rfl, by kernel_rfl, by kernel_rfl, d__law_tt_prime, by kernel_rfl, by decide +kernel, by decide +kernel⟩
theorem s__law_tt_prime {G : Glo} (h : Hy G) : PSsx ⟨G, 2, n__law_tt_prime, defScope (top 52), fun _ => true⟩ (defBody (top 52)) b__law_tt_prime := (pssx_one (psx_ret (pex_cl (i__law_one_of h) (by kernel_rfl) (by kernel_rfl) (pax_cons (pex_v 0 (by kernel_rfl)) (pax_cons (pex_lst (pax_cons pex_int (pax_cons pex_int (pax_cons pex_int (pax_cons pex_int (pax_cons pex_int (pax_cons pex_int pax_nil))))))) pax_nil)) (ln1 (ln1 ln0)))))
theorem i__law_tt_prime {G : Glo} (h : Hy G) : FnIs G 3 "_law_tt_prime" 1 f__law_tt_prime := h.fnIs 35 70 rfl rfl rfl c__law_tt_prime rfl (fun _ _ _ _ _ _ us hl => match us, hl with | [_], _ => by kernel_rfl) (s__law_tt_prime h)
/-! require_prime -/
def n_require_prime : List Str := ["value"]
theorem d_require_prime : n_require_prime.Nodup := by decide +kernel
def b_require_prime : DS := (sIf (tOr2 (tNot1 (dTst (dCall f_is_integer (dCons (dVar 0) dNil)))) (dTstB (dBin oNotIn (dVar 0) (dC (.tup (([(2), (3), (5), (7)] : List Int).map D.int)))))) sNever sNext)
def f_require_prime : Fn := mkFn n_require_prime.length b_require_prime
theorem c_require_prime : FnScope n_require_prime ["value"] (defScope (top 37)) := ⟨by kernel_rfl, by kernel_rfl, by kernel_rfl, d_require_prime, by kernel_rfl, by decide +kernel, by decide +kernel⟩
theorem s_require_prime {G : Glo} (h : Hy G) : PSsx ⟨G, 2, n_require_prime, defScope (top 37), fun _ => true⟩ (defBody (top 37)) b_require_prime := (pssx_one (psx_if (PWx.pt (pwx_or (ptx_not (ptx_truth (pex_cl (i_is_integer h) (by kernel_rfl) (by kernel_rfl) (pax_cons (pex_v 0 (by kernel_rfl)) pax_nil) (ln1 ln0)))) (pwx_or1 (ptx_cmp opx_notIn (pex_v 0 (by kernel_rfl)) (pex_gt (by kernel_rfl) (h.tup 71 rfl (by decide))) rfl)))) (pssx_one psx_never) pssx_nil))
theorem i_require_prime {G : Glo} (h : Hy G) : FnIs G 3 "require_prime" 1 f_require_prime := h.fnIs 36 72 rfl rfl rfl c_require_prime rfl (fun _ _ _ _ _ _ us hl => match us, hl with | [_], _ => by kernel_rfl) (s_require_prime h)
/-! power_in -/
def n_power_in : List Str := ["prime", "many", "found", "turn"]
theorem d_power_in : n_power_in.Nodup := by decide +kernel
def b_power_in : DS := (sSeq (sAsg (dC (.int 1)) (gNm 2)) (sSeq (sFor (iRng1 (dCons (dVar 1) dNil)) (gNm 3) (sAug 2 oIMul (dVar 0))) (sRet (dVar 2))))
def f_power_in : Fn := mkFn n_power_in.length b_power_in
theorem c_power_in : FnScope n_power_in ["prime", "many"] (defScope (top 39)) := ⟨by kernel_rfl, by kernel_rfl, by kernel_rfl, d_power_in, by kernel_rfl, by decide +kernel, by decide +kernel⟩
theorem s_power_in {G : Glo} (h : Hy G) : PSsx ⟨G, 0, n_power_in, defScope (top 39), fun _ => true⟩ (defBody (top 39)) b_power_in := (pssx_cons (psx_asg pex_int (pgx_v d_power_in 2 (by kernel_rfl))) (pssx_cons (psx_for (pix_range1 (by kernel_rfl) (h.free 3 rfl) (pax_cons (pex_v 1 (by kernel_rfl)) pax_nil)) (pgx_v d_power_in 3 (by kernel_rfl)) (pssx_one (psx_augv d_power_in 2 (by kernel_rfl) ipx_mul (pex_v 0 (by kernel_rfl))))) (pssx_one (psx_ret (pex_v 2 (by kernel_rfl))))))
theorem i_power_in {G : Glo} (h : Hy G) : FnIs G 1 "power_in" 2 f_power_in := h.fnIs 37 74 rfl rfl rfl c_power_in rfl (fun _ _ _ _ _ _ us hl => match us, hl with | [_, _], _ => by kernel_rfl) (s_power_in h)
/-! turn_number_in -/
def n_turn_number_in : List Str := ["prime", "size", "found", "whole", "at"]
theorem d_turn_number_in : n_turn_number_in.Nodup := by decide +kernel
def b_turn_number_in : DS := (sSeq (sAsg (dTup (dCons (dC (.int 1)) (dCons (dCall f_power_in (dCons (dVar 0) (dCons (dVar 1) dNil))) dNil))) (gTup 2 (gCons (gNm 2) (gCons (gNm 3) gNil)))) (sSeq (sFor (iRng1 (dCons (dVar 1) dNil)) (gNm 4) (sAug 2 oIMul (dBin oSubI (dVar 3) (dCall f_power_in (dCons (dVar 0) (dCons (dVar 4) dNil)))))) (sRet (dVar 2))))
def f_turn_number_in : Fn := mkFn n_turn_number_in.length b_turn_number_in
theorem c_turn_number_in : FnScope n_turn_number_in ["prime", "size"] (defScope (top 41)) := ⟨by kernel_rfl, by kernel_rfl, by kernel_rfl, d_turn_number_in, by kernel_rfl, by decide +kernel, by decide +kernel⟩
theorem s_turn_number_in {G : Glo} (h : Hy G) : PSsx ⟨G, 1, n_turn_number_in, defScope (top 41), fun _ => true⟩ (defBody (top 41)) b_turn_number_in := (pssx_cons (psx_par (i := 2) (j := 3) d_turn_number_in (by kernel_rfl) (by kernel_rfl) (by decide) (by kernel_rfl) (by kernel_rfl) (pax_cons pex_int (pax_cons (pex_cl (i_power_in h) (by kernel_rfl) (by kernel_rfl) (pax_cons (pex_v 0 (by kernel_rfl)) (pax_cons (pex_v 1 (by kernel_rfl)) pax_nil)) (ln1 (ln1 ln0))) pax_nil)) (fun env he => by cases env; dsimp only at he; subst he; kernel_rfl)) (pssx_cons (psx_for (pix_range1 (by kernel_rfl) (h.free 3 rfl) (pax_cons (pex_v 1 (by kernel_rfl)) pax_nil)) (pgx_v d_turn_number_in 4 (by kernel_rfl)) (pssx_one (psx_augv d_turn_number_in 2 (by kernel_rfl) ipx_mul (pex_op opx_subI (pex_v 3 (by kernel_rfl)) (pex_cl (i_power_in h) (by kernel_rfl) (by kernel_rfl) (pax_cons (pex_v 0 (by kernel_rfl)) (pax_cons (pex_v 4 (by kernel_rfl)) pax_nil)) (ln1 (ln1 ln0))))))) (pssx_one (psx_ret (pex_v 2 (by kernel_rfl))))))
theorem i_turn_number_in {G : Glo} (h : Hy G) : FnIs G 2 "turn_number_in" 2 f_turn_number_in := h.fnIs 38 75 rfl rfl rfl c_turn_number_in rfl (fun _ _ _ _ _ _ us hl => match us, hl with | [_, _], _ => by kernel_rfl) (s_turn_number_in h)
/-! turn_number -/
def n_turn_number : List Str := ["prime", "size"]
theorem d_turn_number : n_turn_number.Nodup := by decide +kernel
def b_turn_number : DS := (sSeq (sExpr (dCall f_require_prime (dCons (dVar 0) dNil))) (sSeq (sExpr (dCall f_require_to (dCons (dVar 1) (dCons (dC (.int (36))) dNil)))) (sRet (dCall f_turn_number_in (dCons (dVar 0) (dCons (dVar 1) dNil))))))
def f_turn_number : Fn := mkFn n_turn_number.length b_turn_number
theorem c_turn_number : FnScope n_turn_number ["prime", "size"] (defScope (top 40)) := ⟨by kernel_rfl, by kernel_rfl, by kernel_rfl, d_turn_number, by kernel_rfl, by decide +kernel, by decide +kernel⟩
theorem s_turn_number {G : Glo} (h : Hy G) : PSsx ⟨G, 3, n_turn_number, defScope (top 40), fun _ => true⟩ (defBody (top 40)) b_turn_number := (pssx_cons (psx_expr (pex_cl (i_require_prime h) (by kernel_rfl) (by kernel_rfl) (pax_cons (pex_v 0 (by kernel_rfl)) pax_nil) (ln1 ln0))) (pssx_cons (psx_expr (pex_cl (i_require_to h) (by kernel_rfl) (by kernel_rfl) (pax_cons (pex_v 1 (by kernel_rfl)) (pax_cons (pex_gi (by kernel_rfl) (h.int 73 rfl)) pax_nil)) (ln1 (ln1 ln0)))) (pssx_one (psx_ret (pex_cl (i_turn_number_in h) (by kernel_rfl) (by kernel_rfl) (pax_cons (pex_v 0 (by kernel_rfl)) (pax_cons (pex_v 1 (by kernel_rfl)) pax_nil)) (ln1 (ln1 ln0)))))))
theorem i_turn_number {G : Glo} (h : Hy G) : FnIs G 4 "turn_number" 2 f_turn_number := h.fnIs 39 76 rfl rfl rfl c_turn_number rfl (fun _ _ _ _ _ _ us hl => match us, hl with | [_, _], _ => by kernel_rfl) (s_turn_number h)
/-! _law_sums_right -/
def n__law_sums_right : List Str := ["_law_lot_here", "_law_height", "_law_width", "_law_polys", "_law_number", "_law_size", "_law_prime", "_law_rank_here", "_law_poly"]
theorem d__law_sums_right : n__law_sums_right.Nodup := by decide +kernel
def b__law_sums_right : DS := (sSeq (sAsg (dTup (dCons (dCall f__law_pull (dCons (dVar 0) (dCons (dC (.int 13)) dNil))) (dCons (dCall f__law_pull (dCons (dVar 0) (dCons (dC (.int 13)) dNil))) dNil))) (gTup 2 (gCons (gNm 1) (gCons (gNm 2) gNil)))) (sSeq (sAsg (dLc (iRng1 (dCons (dC (.int 13)) dNil)) (gNm 7) tYes1 (dCall f_tables_of_rank (dCons (dVar 1) (dCons (dVar 2) (dCons (dVar 7) dNil)))) ([("_law_rank_here", 7)].map (·.2))) (gNm 3)) (sSeq (sFor (iSeq (dTup (dCons (dC (.int 0)) (dCons (dC (.int 1)) (dCons (dC (.int 2)) (dCons (dC (.int 3)) (dCons (dC (.int 4)) (dCons (dC (.int 10)) (dCons (dUn oNeg (dC (.int 1))) dNil))))))))) (gNm 4) (sIf (dTstB (dBin oNe (dCallB (b1 fSum) (dCons (dLc (iSeq (dVar 3)) (gNm 8) tYes1 (dMth 1 f_Poly_at (dVar 8) (dCons (dVar 4) dNil)) ([("_law_poly", 8)].map (·.2))) dNil)) (dCall f__law_power (dCons (dVar 4) (dCons (dBin oMulA (dVar 1) (dVar 2)) dNil))))) (sRet (dC (.bl false))) sNext)) (sSeq (sIf (dTstB (dBin (oOwnLN 1 f_Poly___eq__) (dVar 3) (dLc (iRng1 (dCons (dC (.int 13)) dNil)) (gNm 7) tYes1 (dCall f_tables_of_rank (dCons (dVar 2) (dCons (dVar 1) (dCons (dVar 7) dNil)))) ([("_law_rank_here", 7)].map (·.2))))) (sRet (dC (.bl false))) sNext) (sSeq (sIf (dTstB (dBin oNe (dLc (iEnum (dCons (dVar 3) dNil)) (gTup 2 (gCons (gNm 7) (gCons (gNm 8) gNil))) (dTstB (dBin oNe (dBin oEq (dPrp 1 f_Poly_coefficients (dVar 8)) (dTup dNil)) (dBin oGtI (dVar 7) (dCallB (b2 fMin2) (dCons (dVar 1) (dCons (dVar 2) dNil)))))) (dVar 8) ([("_law_rank_here", 7), ("_law_poly", 8)].map (·.2))) (dLst dNil))) (sRet (dC (.bl false))) sNext) (sSeq (sAsg (dTup (dCons (dCall f__law_pull (dCons (dVar 0) (dCons (dC (.int 13)) dNil))) (dCons (dCall f__law_tt_prime (dCons (dVar 0) dNil)) dNil))) (gTup 2 (gCons (gNm 5) (gCons (gNm 6) gNil)))) (sRet (dBin oEq (dMth 1 f_Poly_at (dCall f_tables_of_rank (dCons (dVar 5) (dCons (dVar 5) (dCons (dVar 5) dNil)))) (dCons (dVar 6) dNil)) (dCall f_turn_number (dCons (dVar 6) (dCons (dVar 5) dNil)))))))))))
def f__law_sums_right : Fn := mkFn n__law_sums_right.length b__law_sums_right
theorem c__law_sums_right : FnScope n__law_sums_right ["_law_lot_here"] (defScope (top 55)) := ⟨by kernel_rfl, by kernel_rfl, by kernel_rfl, d__law_sums_right, by kernel_rfl, by decide +kernel, by decide +kernel⟩
theorem s__law_sums_right {G : Glo} (h : Hy G) : PSsx ⟨G, 8, n__law_sums_right, defScope (top 55), fun _ => true⟩ (defBody (top 55)) b__law_sums_right := (pssx_cons (psx_asgS (pex_tup (pax_cons (pex_cl (i__law_pull h) (by kernel_rfl) (by kernel_rfl) (pax_cons (pex_v 0 (by kernel_rfl)) (pax_cons pex_int pax_nil)) (ln1 (ln1 ln0))) (pax_cons (pex_cl (i__law_pull h) (by kernel_rfl) (by kernel_rfl) (pax_cons (pex_v 0 (by kernel_rfl)) (pax_cons pex_int pax_nil)) (ln1 (ln1 ln0))) pax_nil))) (pgx_tup (pgsx_cons (pgx_v d__law_sums_right 1 (by kernel_rfl)) (pgsx_cons (pgx_v d__law_sums_right 2 (by kernel_rfl)) pgsx_nil))) (fun _ _ => rfl) (fun env he => by cases env; dsimp only at he; subst he; kernel_rfl)) (pssx_cons (psx_setLc 3 d__law_sums_right (by kernel_rfl) (by kernel_rfl) (pix_range1 (by kernel_rfl) (h.free 3 rfl) (pax_cons pex_int pax_nil)) (own := [("_law_rank_here", 7)]) (by kernel_rfl) (pgx_v d__law_sums_right 7 (by kernel_rfl)) ptsx_nil (pex_cl (i_tables_of_rank h) (by kernel_rfl) (by kernel_rfl) (pax_cons (pex_v 1 (by kernel_rfl)) (pax_cons (pex_v 2 (by kernel_rfl)) (pax_cons (pex_v 7 (by kernel_rfl)) pax_nil))) (ln1 (ln1 (ln1 ln0)))) (by decide) (by kernel_rfl) (by kernel_rfl) (by kernel_rfl)) (pssx_cons (psx_for (pix_seq (pex_tup (pax_cons pex_int (pax_cons pex_int (pax_cons pex_int (pax_cons pex_int (pax_cons pex_int (pax_cons pex_int (pax_cons (pex_un unx_neg pex_int) pax_nil))))))))) (pgx_v d__law_sums_right 4 (by kernel_rfl)) (pssx_one (psx_if (ptx_cmp opx_ne (pex_bf cx_sum (by kernel_rfl) (h.free 65 rfl) (pax_cons (pex_lc d__law_sums_right (pix_seq (pex_v 3 (by kernel_rfl))) (own := [("_law_poly", 8)]) (by kernel_rfl) (pgx_v d__law_sums_right 8 (by kernel_rfl)) ptsx_nil (pex_mth (i_Poly_at h) (Nat.le_of_ble_eq_true (by kernel_rfl)) (pex_v 8 (by kernel_rfl)) (pax_cons (pex_v 4 (by kernel_rfl)) pax_nil) (ln1 ln0)) (by decide)) pax_nil)) (pex_cl (i__law_power h) (by kernel_rfl) (by kernel_rfl) (pax_cons (pex_v 4 (by kernel_rfl)) (pax_cons (pex_op opx_mulA (pex_v 1 (by kernel_rfl)) (pex_v 2 (by kernel_rfl))) pax_nil)) (ln1 (ln1 ln0))) rfl) (pssx_one (psx_ret pex_bl)) pssx_nil))) (pssx_cons (psx_if (ptx_cmp (opx_ownLN (q_Poly___eq__ h) (by kernel_rfl)) (pex_v 3 (by kernel_rfl)) (pex_lc d__law_sums_right (pix_range1 (by kernel_rfl) (h.free 3 rfl) (pax_cons pex_int pax_nil)) (own := [("_law_rank_here", 7)]) (by kernel_rfl) (pgx_v d__law_sums_right 7 (by kernel_rfl)) ptsx_nil (pex_cl (i_tables_of_rank h) (by kernel_rfl) (by kernel_rfl) (pax_cons (pex_v 2 (by kernel_rfl)) (pax_cons (pex_v 1 (by kernel_rfl)) (pax_cons (pex_v 7 (by kernel_rfl)) pax_nil))) (ln1 (ln1 (ln1 ln0)))) (by decide)) rfl) (pssx_one (psx_ret pex_bl)) pssx_nil) (pssx_cons (psx_if (ptx_cmp opx_ne (pex_lc d__law_sums_right (pix_enum (by kernel_rfl) (h.free 11 rfl) (pax_cons (pex_v 3 (by kernel_rfl)) pax_nil)) (own := [("_law_rank_here", 7), ("_law_poly", 8)]) (by kernel_rfl) (pgx_tup (pgsx_cons (pgx_v d__law_sums_right 7 (by kernel_rfl)) (pgsx_cons (pgx_v d__law_sums_right 8 (by kernel_rfl)) pgsx_nil))) (ptsx_one (ptx_cmp opx_ne (pex_cmp opx_eq (pex_prp (i_Poly_coefficients h) (Nat.le_of_ble_eq_true (by kernel_rfl)) (pex_v 8 (by kernel_rfl))) (pex_tup pax_nil) rfl) (pex_cmp opx_gtI (pex_v 7 (by kernel_rfl)) (pex_bf cx_min2 (by kernel_rfl) (h.free 1 rfl) (pax_cons (pex_v 1 (by kernel_rfl)) (pax_cons (pex_v 2 (by kernel_rfl)) pax_nil))) rfl) rfl)) (pex_v 8 (by kernel_rfl)) (by decide)) (pex_lst pax_nil) rfl) (pssx_one (psx_ret pex_bl)) pssx_nil) (pssx_cons (psx_par (i := 5) (j := 6) d__law_sums_right (by kernel_rfl) (by kernel_rfl) (by decide) (by kernel_rfl) (by kernel_rfl) (pax_cons (pex_cl (i__law_pull h) (by kernel_rfl) (by kernel_rfl) (pax_cons (pex_v 0 (by kernel_rfl)) (pax_cons pex_int pax_nil)) (ln1 (ln1 ln0))) (pax_cons (pex_cl (i__law_tt_prime h) (by kernel_rfl) (by kernel_rfl) (pax_cons (pex_v 0 (by kernel_rfl)) pax_nil) (ln1 ln0)) pax_nil)) (fun env he => by cases env; dsimp only at he; subst he; kernel_rfl)) (pssx_one (psx_ret (pex_cmp opx_eq (pex_mth (i_Poly_at h) (Nat.le_of_ble_eq_true (by kernel_rfl)) (pex_cl (i_tables_of_rank h) (by kernel_rfl) (by kernel_rfl) (pax_cons (pex_v 5 (by kernel_rfl)) (pax_cons (pex_v 5 (by kernel_rfl)) (pax_cons (pex_v 5 (by kernel_rfl)) pax_nil))) (ln1 (ln1 (ln1 ln0)))) (pax_cons (pex_v 6 (by kernel_rfl)) pax_nil) (ln1 ln0)) (pex_cl (i_turn_number h) (by kernel_rfl) (by kernel_rfl) (pax_cons (pex_v 6 (by kernel_rfl)) (pax_cons (pex_v 5 (by kernel_rfl)) pax_nil)) (ln1 (ln1 ln0))) rfl)))))))))
theorem i__law_sums_right {G : Glo} (h : Hy G) : FnIs G 9 "_law_sums_right" 1 f__law_sums_right := h.fnIs 40 77 rfl rfl rfl c__law_sums_right rfl (fun _ _ _ _ _ _ us hl => match us, hl with | [_], _ => by kernel_rfl) (s__law_sums_right h)
/-! law -/
def n_law : List Str := ["_law_script", "_law_spot", "_law_lot_here"]
theorem d_law : n_law.Nodup := by decide +kernel
def b_law : DS := (sSeq (sFor (iRng1 (dCons (dCallB (b2 fMax2) (dCons (dC (.int 1)) (dCons (dCallB (b2 fMin2) (dCons (dC (.int 3)) (dCons (dCallB (b1 fLen) (dCons (dVar 0) dNil)) dNil))) dNil))) dNil)) (gNm 1) (sSeq (sAsg (dCall f__law_lot (dCons (dVar 0) (dCons (dVar 1) dNil))) (gNm 2)) (sIf (tOr2 (tNot1 (dTst (dCall f__law_small_right (dCons (dVar 2) dNil)))) (tNot1 (dTst (dCall f__law_sums_right (dCons (dVar 2) dNil))))) (sRet (dC (.bl false))) sNext))) (sRet (dBin oEq (dLst (dCons (dBin (oOwn 1 f_Poly___eq__) (dCall f_tables_of_rank (dCons (dC (.int 2)) (dCons (dC (.int 2)) (dCons (dC (.int 1)) dNil)))) (dMk 1 f_Poly___init__ (dCons (dTup (dCons (dUn oNeg (dC (.int 1))) (dCons (dUn oNeg (dC (.int 1))) (dCons (dC (.int 1)) (dCons (dC (.int 1)) dNil))))) dNil))) (dCons (dBin (oOwn 1 f_Poly___eq__) (dCall f_tables_of_rank (dCons (dC (.int 0)) (dCons (dC (.int 5)) (dCons (dC (.int 0)) dNil)))) (dMk 1 f_Poly___init__ (dCons (dTup (dCons (dC (.int 1)) dNil)) dNil))) (dCons (dBin (oOwn 1 f_Poly___eq__) (dCall f_tables_of_rank (dCons (dC (.int 2)) (dCons (dC (.int 3)) (dCons (dC (.int 3)) dNil)))) (dMk 1 f_Poly___init__ (dCons (dTup dNil) dNil))) dNil)))) (dLst (dCons (dC (.bl true)) (dCons (dC (.bl true)) (dCons (dC (.bl true)) dNil)))))))
def f_law : Fn := mkFn n_law.length b_law
theorem c_law : FnScope n_law ["_law_script"] (defScope (top 56)) := ⟨by kernel_rfl, by kernel_rfl, by kernel_rfl, d_law, by kernel_rfl, by decide +kernel, by decide +kernel⟩
theorem s_law {G : Glo} (h : Hy G) : PSsx ⟨G, 9, n_law, defScope (top 56), fun _ => true⟩ (defBody (top 56)) b_law := (pssx_cons (psx_for (pix_range1 (by kernel_rfl) (h.free 3 rfl) (pax_cons (pex_bf cx_max2 (by kernel_rfl) (h.free 2 rfl) (pax_cons pex_int (pax_cons (pex_bf cx_min2 (by kernel_rfl) (h.free 1 rfl) (pax_cons pex_int (pax_cons (pex_bf cx_len (by kernel_rfl) (h.free 0 rfl) (pax_cons (pex_v 0 (by kernel_rfl)) pax_nil)) pax_nil))) pax_nil))) pax_nil)) (pgx_v d_law 1 (by kernel_rfl)) (pssx_cons (psx_asg (pex_cl (i__law_lot h) (by kernel_rfl) (by kernel_rfl) (pax_cons (pex_v 0 (by kernel_rfl)) (pax_cons (pex_v 1 (by kernel_rfl)) pax_nil)) (ln1 (ln1 ln0))) (pgx_v d_law 2 (by kernel_rfl))) (pssx_one (psx_if (PWx.pt (pwx_or (ptx_not (ptx_truth (pex_cl (i__law_small_right h) (by kernel_rfl) (by kernel_rfl) (pax_cons (pex_v 2 (by kernel_rfl)) pax_nil) (ln1 ln0)))) (pwx_or1 (ptx_not (ptx_truth (pex_cl (i__law_sums_right h) (by kernel_rfl) (by kernel_rfl) (pax_cons (pex_v 2 (by kernel_rfl)) pax_nil) (ln1 ln0))))))) (pssx_one (psx_ret pex_bl)) pssx_nil)))) (pssx_one (psx_ret (pex_cmp opx_eq (pex_lst (pax_cons (pex_cmp (opx_own (q_Poly___eq__ h) (by kernel_rfl)) (pex_cl (i_tables_of_rank h) (by kernel_rfl) (by kernel_rfl) (pax_cons pex_int (pax_cons pex_int (pax_cons pex_int pax_nil))) (ln1 (ln1 (ln1 ln0)))) (pex_new (i_Poly___init__ h) (by kernel_rfl) (by kernel_rfl) (pax_cons (pex_tup (pax_cons (pex_un unx_neg pex_int) (pax_cons (pex_un unx_neg pex_int) (pax_cons pex_int (pax_cons pex_int pax_nil))))) pax_nil) (ln1 ln0)) rfl) (pax_cons (pex_cmp (opx_own (q_Poly___eq__ h) (by kernel_rfl)) (pex_cl (i_tables_of_rank h) (by kernel_rfl) (by kernel_rfl) (pax_cons pex_int (pax_cons pex_int (pax_cons pex_int pax_nil))) (ln1 (ln1 (ln1 ln0)))) (pex_new (i_Poly___init__ h) (by kernel_rfl) (by kernel_rfl) (pax_cons (pex_tup (pax_cons pex_int pax_nil)) pax_nil) (ln1 ln0)) rfl) (pax_cons (pex_cmp (opx_own (q_Poly___eq__ h) (by kernel_rfl)) (pex_cl (i_tables_of_rank h) (by kernel_rfl) (by kernel_rfl) (pax_cons pex_int (pax_cons pex_int (pax_cons pex_int pax_nil))) (ln1 (ln1 (ln1 ln0)))) (pex_new (i_Poly___init__ h) (by kernel_rfl) (by kernel_rfl) (pax_cons (pex_tup pax_nil) pax_nil) (ln1 ln0)) rfl) pax_nil)))) (pex_lst (pax_cons pex_bl (pax_cons pex_bl (pax_cons pex_bl pax_nil)))) rfl))))
theorem i_law {G : Glo} (h : Hy G) : FnIs G 10 "law" 1 f_law := h.fnIs 41 78 rfl rfl rfl c_law rfl (fun _ _ _ _ _ _ us hl => match us, hl with | [_], _ => by kernel_rfl) (s_law h)
def names0 : List PySem.Str := ["ArrowError", "InvalidCount", "InvalidPoly", "InvalidPrime", "Kept", "MAX_SIDE", "MOST_CHOSEN", "MOST_COUNTED", "MOST_DEGREE", "MOST_DIGITS", "PRIMES", "Poly", "_law_all_rows", "_law_cleared", "_law_inverse", "_law_lot", "_law_one_of", "_law_power", "_law_pull", "_law_rank", "_law_reduced", "_law_small_right", "_law_sums_right", "_law_tt_prime", "_wall", "content_of", "divided", "gauss", "gauss_numbers", "gcd"]
def names1 : List PySem.Str := ["is_integer", "is_whole", "is_within", "numbers_told", "poly_of", "poly_told", "power_in", "product_of", "require_integer", "require_prime", "require_to", "require_within", "sum_of", "tables_of_rank", "term_text", "text_of", "trimmed", "turn_number", "turn_number_in", "value_of"]
def names : List PySem.Str := names0 ++ names1
abbrev R : PySem.W.OpenRow := PySem.W.OpenLaw.row PySem.Challenge.rw_arrowsizes_k16_whole_numbers_of_tables_o
abbrev hk : PySem.W.Hook := hookZ 900 cs fn []
def ob (s : PySem.W.SharedT) : hk.α := obsZG 900 cs fn [] (HandSHeadRun.getT s)
theorem ob_eq (s : PySem.W.SharedT) : ob s = hk.obs s.abs := obsZG_eq (HandSHeadRun.getT_eq s)
def GL (P : Program) (w : World) (K : PySem.W.Frag) (mg : Str → Option Value) (base : Heap) : Glo := ⟨P, w, K, mg, base, fun c => match cl[c]? with
  | some x => ga K x
  | none => 0, []⟩
theorem hyp {P : Program} {w : World} {K : PySem.W.Frag} {mg : Str → Option Value} {h base : Heap} (KX : K.In h) (N : h.Ns mainGlobals mg) (c : SaysZ cs fn [] h K) : Hy (GL P w K mg base) where
  all := c.all
  mgns := fun x r e => by
    cases r with
    | none => exact PySem.W.mg_none_of KX N e
    | some v => exact PySem.W.mg_of KX N e
  cls := fun c x e => by
    show (match cl[c]? with
      | some x => ga K x
      | none => 0) = ga K x
    rw [e]
theorem facts {P : Program} {w : World} {K : PySem.W.Frag} {h : Heap} {mg : Str → Option Value} {fa : Addr} (plain : ∀ ns : List Int, ns.length ≤ 63 → ∃ S, f_law [.fls (ns.map D.int)] [] = .ok (.bl true) S) (KX : K.In h) (N : h.Ns mainGlobals mg) (hmg : mg ("law" : Str) = some (.ref fa)) (c : SaysZ cs fn [] h K) :
    ∃ (K : PySem.W.Frag) (fd : FuncData) (sp : Sp), K.In h ∧ (∀ (s : Shared) (u : Value), BindsTo s fd ⟨[u], []⟩ [("_law_script", u)]) ∧
        (∀ (H : Hp) (a : Addr) (ns : List Int), ns.length ≤ 63 → (∀ z ∈ ns, Builtin.Int.intBits z ≤ 1048576) → Only H → SqL K H a (ns.map V.int) → sp [.ref a] H (fun v _ => v = .bl true) fun _ _ _ => False) ∧
        ∀ base : Heap, K.In base → base.Ns mainGlobals mg → FnOk P w K mg base (L2.CX P w) 10 fa fd ["_law_script"] sp := by
  obtain ⟨fd, F⟩ := (hyp (P := P) (w := w) (base := h) KX N c).def_ 41 rfl
  have e := hmg.symm.trans ((hyp (P := P) (w := w) (base := h) KX N c).glo 78 rfl)
  cases e
  refine ⟨K, fd, fun vs H Q E => ∀ base, spD (GL P w K mg base) 1 f_law vs H Q E, KX, fun s u => FunD.bindsA (ps := ["_law_script"]) F (fun _ _ _ _ _ _ us hl => match us, hl with | [_], _ => by kernel_rfl) s [u] rfl, fun H a ns hl hb hO hS base => law_ends rfl hO hS (plain ns hl), fun base hKb hN => ?_⟩
  exact FnOk.imp (fn_ok (G := GL P w K mg base) F c_law rfl (s_law (hyp KX N c))) fun vs H Q E z => z base
end Zk16

namespace Zk16
open PySem PySem.Spec Z
theorem w_pull {S : Store} {i m : Nat} {n : Int} {Q : D → Store → Prop} (hL : Lot S i m) (hn : 0 < n) (hn2 : n < 2 ^ 200) (hm : m ≤ 2 ^ 40) (hQ : ∀ (k : Int) S', 0 ≤ k → k < n → Lot S' i (m + 1) → Kp i S S' → S.length = S'.length → Q (.int k) S') :
    WP (f__law_pull [.ref i, .int n] S) Q := by
  obtain ⟨a, b, c, hS, ha, hc, hcm⟩ := hL
  have hdn : divOk a n = true := divOk_of hn (pow_lt_of (by omega) hn2) (by decide)
  have hL1 : Lot (S.set i (.lst [.int (a / n), .int b, .int c])) i (m + 1) := ⟨_, _, _, set_at hS, Int.ediv_nonneg ha (by omega), hc, by omega⟩
  have hL2 : Lot (S.set i (.lst [.int a, .int b, .int (c + 1)])) i (m + 1) := ⟨_, _, _, set_at hS, ha, by omega, by omega⟩
  unfold f__law_pull
  rw [mkFn_wp]
  unfold b__law_pull n__law_pull
  have hc1 : (c + 1).natAbs < 2 ^ 41 := pow_lt_of (by omega) (by omega)
  have h1 : mulOk 99990001 (c + 1) = true := mulOk_of (m := 30) (n := 41) (by decide) hc1 (by decide)
  have h2 : mulOk 89 (c + 1) = true := mulOk_of (m := 30) (n := 41) (by decide) hc1 (by decide)
  have e1 : ∀ x : Int, 0 ≤ x % 2305843009213693409 ∧ x % 2305843009213693409 < 2 ^ 62 := fun x => ⟨Int.emod_nonneg _ (by decide), Int.lt_trans (Int.emod_lt_of_pos _ (by decide)) (by decide)⟩
  have e2 : ∀ x : Int, 0 ≤ x % 2305843009213693381 ∧ x % 2305843009213693381 < 2 ^ 62 := fun x => ⟨Int.emod_nonneg _ (by decide), Int.lt_trans (Int.emod_lt_of_pos _ (by decide)) (by decide)⟩
  have h3 : ∀ x : Int, mulOk (x % 2305843009213693409) (x % 2305843009213693409) = true := fun x => mulOk_of (m := 62) (n := 62) (pow_lt_of (e1 x).1 (e1 x).2) (pow_lt_of (e1 x).1 (e1 x).2) (by decide)
  have h4 : ∀ x : Int, mulOk (x % 2305843009213693381) 8675309 = true := fun x => mulOk_of (m := 62) (n := 62) (pow_lt_of (e2 x).1 (e2 x).2) (by decide) (by decide)
  have h5 : ∀ x : Int, divOk x 65537 = true := fun x => divOk_of (n := 30) (by decide) (by decide) (by decide)
  simp only [List.map_cons, List.map_nil, List.length_cons, List.length_nil, List.cons_append, List.nil_append, List.replicate, q_seq, q_sif, WP_bind, q_tstB, q_bin, q_var, q_c, List.getElem?_cons_zero, List.getElem?_cons_succ, WP_ok, o_ixR, itemsR hS, Option.bind_some, ix0, Option.map_some, q_ofO, o_gt]
  by_cases h0 : 0 < a
  · simp only [h0, decide_true, WP_ok, if_true, WP_bind, q_seq, q_asg, q_bin, q_callB, q_cons, q_var, q_c, List.getElem?_cons_zero, List.getElem?_cons_succ, o_ixR, itemsR hS, Option.bind_some, ix0, Option.map_some, q_ofO, q_nil, q_b1, f_intI, o_mod hn, q_gnm, List.set_cons_succ, List.set_cons_zero, o_div hdn, q_gsb, setR hS, List.length_cons, List.length_nil, iN0, ofS_some, q_ret]
    exact hQ _ _ (Int.emod_nonneg _ (by omega)) (Int.emod_lt_of_pos _ hn) hL1 Kp.set (by simp)
  · simp only [h0, decide_false, WP_ok, if_false, Bool.false_eq_true, q_next, WP_bind, q_seq, q_asg, q_bin, q_callB, q_cons, q_var, q_c, List.getElem?_cons_zero, List.getElem?_cons_succ, o_ixR, itemsR hS, Option.bind_some, ix1, ix2, Option.map_some, q_ofO, q_nil, q_b1, f_intI, q_gnm, List.set_cons_succ, List.set_cons_zero, q_gsb, setR hS, List.length_cons, List.length_nil, iN2, ofS_some, q_ret, o_add, itemsR (set_at (u := .lst [.int a, .int b, .int (c + 1)]) hS), o_mul h1, o_mul h2, o_mod (show (0 : Int) < 2305843009213693409 by decide), o_mod (show (0 : Int) < 2305843009213693381 by decide), o_mul (h3 _), o_mul (h4 _), o_div (h5 _), o_mod hn]
    exact hQ _ _ (Int.emod_nonneg _ (by omega)) (Int.emod_lt_of_pos _ hn) hL2 Kp.set (by simp)

theorem w_one_of {S : Store} {i m r : Nat} {ds : List D} {Q : D → Store → Prop} (hL : Lot S i m) (hS : S[r]? = some (.lst ds)) (hne : 0 < ds.length) (hl : ds.length ≤ 2 ^ 60) (hr : r ≠ i) (hm : m ≤ 2 ^ 40)
    (hQ : ∀ (k : Nat) (x : D) S', ds[k]? = some x → Lot S' i (m + 1) → Kp i S S' → S.length = S'.length → Q x S') : WP (f__law_one_of [.ref i, .ref r] S) Q := by
  unfold f__law_one_of
  rw [mkFn_wp]
  unfold b__law_one_of n__law_one_of
  simp only [List.map_cons, List.map_nil, List.length_cons, List.length_nil, List.cons_append, List.nil_append, List.replicate, List.getElem?_cons_zero, List.getElem?_cons_succ, List.set_cons_succ, List.set_cons_zero, WP_bind, WP_ok, WP_cut, q_var, q_c, q_bin, q_un, q_ofO, q_chain, q_tst, q_tstB, q_and2, q_or2, q_not1, q_andV, q_orV, q_notV, q_if, q_nil, q_cons, q_tup, q_lst, q_next, q_seq, q_expr, q_ret, q_retN, q_brk, q_cnt, q_sif, q_gnm, q_gtup, q_gcons, q_gnil, q_asg, q_call, q_callB, q_seqi, q_for, q_while, o_add, o_addI, o_sub, o_lt, o_le, o_gt, o_ge, o_neg, o_ixR, o_ixT, o_ixF, itemsT, itemsF, seqT, seqF, q_b1, q_b2, f_intI, f_intB, f_abs, f_max, f_min, f_lenT, f_lenF, f_list, f_tuple, q_gsb, ofB_bl, q_sl, q_pno, q_pat, q_lrg, q_meth, q_fld, q_rng1, Option.bind_some, Option.map_some, ofS_some, if_true, if_false, Bool.false_eq_true, decide_true, decide_false, ix0, ix1, ix2, wipe_nil, wipe_cons, q_yes, q_rng2, f_lenR hS]
  refine w_pull hL (by omega) (by omega) hm fun k S' h0 h1 hL' kp hlen => ?_
  have hS' := kp.at_ hr hS
  obtain ⟨j, rfl⟩ := Int.eq_ofNat_of_zero_le h0
  have hj : j < ds.length := by omega
  simp only [List.map_cons, List.map_nil, List.length_cons, List.length_nil, List.cons_append, List.nil_append, List.replicate, List.getElem?_cons_zero, List.getElem?_cons_succ, List.set_cons_succ, List.set_cons_zero, WP_bind, WP_ok, WP_cut, q_var, q_c, q_bin, q_un, q_ofO, q_chain, q_tst, q_tstB, q_and2, q_or2, q_not1, q_andV, q_orV, q_notV, q_if, q_nil, q_cons, q_tup, q_lst, q_next, q_seq, q_expr, q_ret, q_retN, q_brk, q_cnt, q_sif, q_gnm, q_gtup, q_gcons, q_gnil, q_asg, q_call, q_callB, q_seqi, q_for, q_while, o_add, o_addI, o_sub, o_lt, o_le, o_gt, o_ge, o_neg, o_ixR, o_ixT, o_ixF, itemsT, itemsF, seqT, seqF, q_b1, q_b2, f_intI, f_intB, f_abs, f_max, f_min, f_lenT, f_lenF, f_list, f_tuple, q_gsb, ofB_bl, q_sl, q_pno, q_pat, q_lrg, q_meth, q_fld, q_rng1, Option.bind_some, Option.map_some, ofS_some, if_true, if_false, Bool.false_eq_true, decide_true, decide_false, ix0, ix1, ix2, wipe_nil, wipe_cons, q_yes, q_rng2, itemsR hS', ix_lit hj, List.getElem?_eq_getElem hj]
  exact hQ j _ S' (List.getElem?_eq_getElem hj) hL' kp hlen
/-- items: a list or a tuple -/
theorem w_whole {S : Store} {i : Int} {Q : D → Store → Prop} (hQ : Q (.bl true) S) : WP (f_is_whole [.int i] S) Q := by
  unfold f_is_whole
  rw [mkFn_wp]
  unfold b_is_whole n_is_whole
  simp only [List.map_cons, List.map_nil, List.length_cons, List.length_nil, List.cons_append, List.nil_append, List.replicate, List.getElem?_cons_zero, List.getElem?_cons_succ, List.set_cons_succ, List.set_cons_zero, WP_bind, WP_ok, WP_cut, q_var, q_c, q_bin, q_un, q_ofO, q_chain, q_tst, q_tstB, q_and2, q_or2, q_not1, q_andV, q_orV, q_notV, q_if, q_nil, q_cons, q_tup, q_lst, q_next, q_seq, q_expr, q_ret, q_retN, q_brk, q_cnt, q_sif, q_gnm, q_gtup, q_gcons, q_gnil, q_asg, q_call, q_callB, q_seqi, q_for, q_while, o_add, o_addI, o_sub, o_lt, o_le, o_gt, o_ge, o_neg, o_ixR, o_ixT, o_ixF, itemsT, itemsF, seqT, seqF, q_b1, q_b2, f_intI, f_intB, f_abs, f_max, f_min, f_lenT, f_lenF, f_list, f_tuple, q_gsb, ofB_bl, q_sl, q_pno, q_pat, q_lrg, q_meth, q_fld, q_rng1, Option.bind_some, Option.map_some, ofS_some, if_true, if_false, Bool.false_eq_true, decide_true, decide_false, ix0, ix1, ix2, wipe_nil, wipe_cons, q_yes, q_rng2, isi_int, isi_ib, Bool.not_false]
  exact hQ
theorem w_integer {S : Store} {i : Int} {Q : D → Store → Prop} (hi : Sm i) (hQ : Q (.bl true) S) : WP (f_is_integer [.int i] S) Q := by
  unfold f_is_integer
  rw [mkFn_wp]
  unfold b_is_integer n_is_integer
  simp only [List.map_cons, List.map_nil, List.length_cons, List.length_nil, List.cons_append, List.nil_append, List.replicate, List.getElem?_cons_zero, List.getElem?_cons_succ, List.set_cons_succ, List.set_cons_zero, WP_bind, WP_ok, WP_cut, q_var, q_c, q_bin, q_un, q_ofO, q_chain, q_tst, q_tstB, q_and2, q_or2, q_not1, q_andV, q_orV, q_notV, q_if, q_nil, q_cons, q_tup, q_lst, q_next, q_seq, q_expr, q_ret, q_retN, q_brk, q_cnt, q_sif, q_gnm, q_gtup, q_gcons, q_gnil, q_asg, q_call, q_callB, q_seqi, q_for, q_while, o_add, o_addI, o_sub, o_lt, o_le, o_gt, o_ge, o_neg, o_ixR, o_ixT, o_ixF, itemsT, itemsF, seqT, seqF, q_b1, q_b2, f_intI, f_intB, f_abs, f_max, f_min, f_lenT, f_lenF, f_list, f_tuple, q_gsb, ofB_bl, q_sl, q_pno, q_pat, q_lrg, q_meth, q_fld, q_rng1, Option.bind_some, Option.map_some, ofS_some, if_true, if_false, Bool.false_eq_true, decide_true, decide_false, ix0, ix1, ix2, wipe_nil, wipe_cons, q_yes, q_rng2]
  refine w_whole ?_
  have h1 : -1000000000000000000000000000000000000000000000000000000000000 < i := hi.1
  have h2 : i < 1000000000000000000000000000000000000000000000000000000000000 := hi.2
  simp only [List.map_cons, List.map_nil, List.length_cons, List.length_nil, List.cons_append, List.nil_append, List.replicate, List.getElem?_cons_zero, List.getElem?_cons_succ, List.set_cons_succ, List.set_cons_zero, WP_bind, WP_ok, WP_cut, q_var, q_c, q_bin, q_un, q_ofO, q_chain, q_tst, q_tstB, q_and2, q_or2, q_not1, q_andV, q_orV, q_notV, q_if, q_nil, q_cons, q_tup, q_lst, q_next, q_seq, q_expr, q_ret, q_retN, q_brk, q_cnt, q_sif, q_gnm, q_gtup, q_gcons, q_gnil, q_asg, q_call, q_callB, q_seqi, q_for, q_while, o_add, o_addI, o_sub, o_lt, o_le, o_gt, o_ge, o_neg, o_ixR, o_ixT, o_ixF, itemsT, itemsF, seqT, seqF, q_b1, q_b2, f_intI, f_intB, f_abs, f_max, f_min, f_lenT, f_lenF, f_list, f_tuple, q_gsb, ofB_bl, q_sl, q_pno, q_pat, q_lrg, q_meth, q_fld, q_rng1, Option.bind_some, Option.map_some, ofS_some, if_true, if_false, Bool.false_eq_true, decide_true, decide_false, ix0, ix1, ix2, wipe_nil, wipe_cons, q_yes, q_rng2, h1, h2]
  exact hQ
theorem w_within {S : Store} {i a b : Int} {Q : D → Store → Prop} (hi : Sm i) (h1 : a ≤ i) (h2 : i ≤ b) (hQ : Q (.bl true) S) : WP (f_is_within [.int i, .int a, .int b] S) Q := by
  unfold f_is_within
  rw [mkFn_wp]
  unfold b_is_within n_is_within
  simp only [List.map_cons, List.map_nil, List.length_cons, List.length_nil, List.cons_append, List.nil_append, List.replicate, List.getElem?_cons_zero, List.getElem?_cons_succ, List.set_cons_succ, List.set_cons_zero, WP_bind, WP_ok, WP_cut, q_var, q_c, q_bin, q_un, q_ofO, q_chain, q_tst, q_tstB, q_and2, q_or2, q_not1, q_andV, q_orV, q_notV, q_if, q_nil, q_cons, q_tup, q_lst, q_next, q_seq, q_expr, q_ret, q_retN, q_brk, q_cnt, q_sif, q_gnm, q_gtup, q_gcons, q_gnil, q_asg, q_call, q_callB, q_seqi, q_for, q_while, o_add, o_addI, o_sub, o_lt, o_le, o_gt, o_ge, o_neg, o_ixR, o_ixT, o_ixF, itemsT, itemsF, seqT, seqF, q_b1, q_b2, f_intI, f_intB, f_abs, f_max, f_min, f_lenT, f_lenF, f_list, f_tuple, q_gsb, ofB_bl, q_sl, q_pno, q_pat, q_lrg, q_meth, q_fld, q_rng1, Option.bind_some, Option.map_some, ofS_some, if_true, if_false, Bool.false_eq_true, decide_true, decide_false, ix0, ix1, ix2, wipe_nil, wipe_cons, q_yes, q_rng2]
  refine w_integer hi ?_
  simp only [List.map_cons, List.map_nil, List.length_cons, List.length_nil, List.cons_append, List.nil_append, List.replicate, List.getElem?_cons_zero, List.getElem?_cons_succ, List.set_cons_succ, List.set_cons_zero, WP_bind, WP_ok, WP_cut, q_var, q_c, q_bin, q_un, q_ofO, q_chain, q_tst, q_tstB, q_and2, q_or2, q_not1, q_andV, q_orV, q_notV, q_if, q_nil, q_cons, q_tup, q_lst, q_next, q_seq, q_expr, q_ret, q_retN, q_brk, q_cnt, q_sif, q_gnm, q_gtup, q_gcons, q_gnil, q_asg, q_call, q_callB, q_seqi, q_for, q_while, o_add, o_addI, o_sub, o_lt, o_le, o_gt, o_ge, o_neg, o_ixR, o_ixT, o_ixF, itemsT, itemsF, seqT, seqF, q_b1, q_b2, f_intI, f_intB, f_abs, f_max, f_min, f_lenT, f_lenF, f_list, f_tuple, q_gsb, ofB_bl, q_sl, q_pno, q_pat, q_lrg, q_meth, q_fld, q_rng1, Option.bind_some, Option.map_some, ofS_some, if_true, if_false, Bool.false_eq_true, decide_true, decide_false, ix0, ix1, ix2, wipe_nil, wipe_cons, q_yes, q_rng2, h1, h2]
  exact hQ
theorem w_reqw {S : Store} {i a b : Int} {Q : D → Store → Prop} (hi : Sm i) (h1 : a ≤ i) (h2 : i ≤ b) (hQ : Q .non S) : WP (f_require_within [.int i, .int a, .int b] S) Q := by
  unfold f_require_within
  rw [mkFn_wp]
  unfold b_require_within n_require_within
  simp only [List.map_cons, List.map_nil, List.length_cons, List.length_nil, List.cons_append, List.nil_append, List.replicate, List.getElem?_cons_zero, List.getElem?_cons_succ, List.set_cons_succ, List.set_cons_zero, WP_bind, WP_ok, WP_cut, q_var, q_c, q_bin, q_un, q_ofO, q_chain, q_tst, q_tstB, q_and2, q_or2, q_not1, q_andV, q_orV, q_notV, q_if, q_nil, q_cons, q_tup, q_lst, q_next, q_seq, q_expr, q_ret, q_retN, q_brk, q_cnt, q_sif, q_gnm, q_gtup, q_gcons, q_gnil, q_asg, q_call, q_callB, q_seqi, q_for, q_while, o_add, o_addI, o_sub, o_lt, o_le, o_gt, o_ge, o_neg, o_ixR, o_ixT, o_ixF, itemsT, itemsF, seqT, seqF, q_b1, q_b2, f_intI, f_intB, f_abs, f_max, f_min, f_lenT, f_lenF, f_list, f_tuple, q_gsb, ofB_bl, q_sl, q_pno, q_pat, q_lrg, q_meth, q_fld, q_rng1, Option.bind_some, Option.map_some, ofS_some, if_true, if_false, Bool.false_eq_true, decide_true, decide_false, ix0, ix1, ix2, wipe_nil, wipe_cons, q_yes, q_rng2]
  refine w_within hi h1 h2 ?_
  simp only [List.map_cons, List.map_nil, List.length_cons, List.length_nil, List.cons_append, List.nil_append, List.replicate, List.getElem?_cons_zero, List.getElem?_cons_succ, List.set_cons_succ, List.set_cons_zero, WP_bind, WP_ok, WP_cut, q_var, q_c, q_bin, q_un, q_ofO, q_chain, q_tst, q_tstB, q_and2, q_or2, q_not1, q_andV, q_orV, q_notV, q_if, q_nil, q_cons, q_tup, q_lst, q_next, q_seq, q_expr, q_ret, q_retN, q_brk, q_cnt, q_sif, q_gnm, q_gtup, q_gcons, q_gnil, q_asg, q_call, q_callB, q_seqi, q_for, q_while, o_add, o_addI, o_sub, o_lt, o_le, o_gt, o_ge, o_neg, o_ixR, o_ixT, o_ixF, itemsT, itemsF, seqT, seqF, q_b1, q_b2, f_intI, f_intB, f_abs, f_max, f_min, f_lenT, f_lenF, f_list, f_tuple, q_gsb, ofB_bl, q_sl, q_pno, q_pat, q_lrg, q_meth, q_fld, q_rng1, Option.bind_some, Option.map_some, ofS_some, if_true, if_false, Bool.false_eq_true, decide_true, decide_false, ix0, ix1, ix2, wipe_nil, wipe_cons, q_yes, q_rng2, Bool.not_true]
  exact hQ
theorem w_lot' {S : Store} {ns : List Int} {k : Nat} {Q : D → Store → Prop} (hk : k < 4) (hQ : ∀ r S', Lot S' r 0 → (Sub S S' ∧ S.length ≤ r) → Q (.ref r) S') : WP (f__law_lot [.fls (ns.map D.int), .int (k : Int)] S) Q := by
  unfold f__law_lot
  rw [mkFn_wp]
  unfold b__law_lot n__law_lot
  have p17 : ∀ S : Store, oPowI (.int 10) (.int 17) S = some (.int (10 ^ 17), S) := fun S => o_pow (by decide +kernel)
  have p58 : ∀ S : Store, oPowI (.int 10) (.int 58) S = some (.int (10 ^ 58), S) := fun S => o_pow (by decide +kernel)
  have p59 : ∀ S : Store, oPowI (.int 10) (.int 59) S = some (.int (10 ^ 59), S) := fun S => o_pow (by decide +kernel)
  have mp : ∀ S : Store, oMulA (.int (10 ^ 58)) (.int (10 ^ 59)) S = some (.int (10 ^ 58 * 10 ^ 59), S) := fun S => o_mul (by decide +kernel)
  have rest : ∀ (c : Int), WP ((sSeq (sAsg (dBin oModI (dCallB (b2 fMax2) (dCons (dC (.int 0)) (dCons (dBin oSubI (dCallB (b1 fAbs) (dCons (dVar 2) dNil)) (dBin oPowI (dC (.int 10)) (dC (.int 17)))) dNil))) (dBin oMulA (dBin oPowI (dC (.int 10)) (dC (.int 58))) (dBin oPowI (dC (.int 10)) (dC (.int 59))))) (gNm 3)) (sRet (dLst (dCons (dVar 3) (dCons (dBin oAdd (dBin oAdd (dBin oAdd (dBin oMulA (dBin oModI (dCallB (b1 fAbs) (dCons (dVar 2) dNil)) (dC (.int 1152921504606846697))) (dC (.int 53))) (dBin oMulA (dC (.int 991)) (dVar 1))) (dBin oMulA (dC (.int 43)) (dCallB (b1 fInt) (dCons (dBin oLtI (dVar 2) (dC (.int 0))) dNil)))) (dC (.int 9))) (dCons (dC (.int 0)) dNil))))))
      [some (.fls (ns.map D.int)), some (.int (k : Int)), some (.int c), none] S) fun f S1 => WP (match f with
      | .rt d => .ok d S1
      | .nx _ => .ok .non S1
      | _ => .bad) Q := fun c => by
    have m1 : ∀ S : Store, oModI (.int (if c < 0 then -c else c)) (.int 1152921504606846697) S = some (.int ((if c < 0 then -c else c) % 1152921504606846697), S) := fun S => o_mod (by decide)
    have m2 : mulOk ((if c < 0 then -c else c) % 1152921504606846697) 53 = true := mulOk_of (m := 61) (n := 6) (by
      have h1 := Int.emod_nonneg (if c < 0 then -c else c) (show (1152921504606846697 : Int) ≠ 0 by decide)
      have h2 := Int.emod_lt_of_pos (if c < 0 then -c else c) (show (0 : Int) < 1152921504606846697 by decide)
      omega) (by decide) (by decide)
    have m3 : mulOk 991 (k : Int) = true := mulOk_of (m := 10) (n := 3) (by decide) (by omega) (by decide)
    have m4 : mulOk 43 (if decide (c < 0) = true then 1 else 0) = true := mulOk_of (m := 10) (n := 3) (by decide) (by split <;> decide) (by decide)
    have m5 : ∀ (S : Store) (v : Int), oModI (.int v) (.int (10 ^ 58 * 10 ^ 59)) S = some (.int (v % (10 ^ 58 * 10 ^ 59)), S) := fun S v => o_mod (by decide)
    simp only [List.map_cons, List.map_nil, List.length_cons, List.length_nil, List.cons_append, List.nil_append, List.replicate, List.getElem?_cons_zero, List.getElem?_cons_succ, List.set_cons_succ, List.set_cons_zero, WP_bind, WP_ok, WP_cut, q_var, q_c, q_bin, q_un, q_ofO, q_chain, q_tst, q_tstB, q_and2, q_or2, q_not1, q_andV, q_orV, q_notV, q_if, q_nil, q_cons, q_tup, q_lst, q_next, q_seq, q_expr, q_ret, q_retN, q_brk, q_cnt, q_sif, q_gnm, q_gtup, q_gcons, q_gnil, q_asg, q_call, q_callB, q_seqi, q_for, q_while, o_add, o_addI, o_sub, o_lt, o_le, o_gt, o_ge, o_neg, o_ixR, o_ixT, o_ixF, itemsT, itemsF, seqT, seqF, q_b1, q_b2, f_intI, f_intB, f_abs, f_max, f_min, f_lenT, f_lenF, f_list, f_tuple, q_gsb, ofB_bl, q_sl, q_pno, q_pat, q_lrg, q_meth, q_fld, q_rng1, Option.bind_some, Option.map_some, ofS_some, if_true, if_false, Bool.false_eq_true, decide_true, decide_false, ix0, ix1, ix2, wipe_nil, wipe_cons, q_yes, q_rng2, p17, p58, p59, mp, m5, m1, o_mul m2, o_mul m3, o_mul m4, mkL, z3, z3']
    refine hQ _ _ ⟨_, _, _, push_at, Int.emod_nonneg _ (by decide), Int.le_refl _, by decide⟩ ⟨Sub.push _ _, Nat.le_refl _⟩
  have m0 : mulOk 61 (k : Int) = true := mulOk_of (m := 10) (n := 3) (by decide) (by omega) (by decide)
  rw [q_seq, WP_bind]
  by_cases hl : (k : Int) < ((ns.map D.int).length : Int)
  · have hk2 : k < ns.length := by rw [List.length_map] at hl; omega
    have ix : L2.atI (ns.map D.int) (k : Int) = some (.int ns[k]) := by
      rw [ix_lit (by rw [List.length_map]; exact hk2), List.getElem?_map, List.getElem?_eq_getElem hk2]; rfl
    have dl' : decide ((k : Int) < ((ns.map D.int).length : Int)) = true := decide_eq_true hl
    rw [q_asg, q_if]
    simp only [q_tstB, q_bin, q_var, q_c, q_callB, q_cons, q_nil, q_b1, f_lenF, q_ofO, o_lt, dl', WP_bind, WP_ok, List.map_cons, List.map_nil, List.cons_append, List.nil_append, List.getElem?_cons_zero, List.getElem?_cons_succ, if_true, o_ixF, ix, Option.map_some, f_intI, q_gnm, List.length_cons, List.length_nil, List.replicate, List.set_cons_succ, List.set_cons_zero]
    exact rest _
  · have dl' : decide ((k : Int) < ((ns.map D.int).length : Int)) = false := decide_eq_false hl
    rw [q_asg, q_if]
    simp only [q_tstB, q_bin, q_var, q_c, q_callB, q_cons, q_nil, q_b1, f_lenF, q_ofO, o_lt, dl', WP_bind, WP_ok, List.map_cons, List.map_nil, List.cons_append, List.nil_append, List.getElem?_cons_zero, List.getElem?_cons_succ, Bool.false_eq_true, if_false, o_mul m0, o_add, f_intI, q_gnm, List.length_cons, List.length_nil, List.replicate, List.set_cons_succ, List.set_cons_zero]
    exact rest _
end Zk16

namespace Z
open PySem PySem.Spec
theorem sub_set {S S' : Store} {r : Nat} {o : O} (s : Sub S S') (h : S.length ≤ r) : Sub S (S'.set r o) := fun j u e => by
  rw [List.getElem?_set_ne (by have := (List.getElem?_eq_some_iff.mp e).1; omega)]
  exact s _ _ e
theorem sub_len {S S' : Store} (s : Sub S S') : S.length ≤ S'.length := by
  by_cases h0 : S.length = 0
  · omega
  · have hl : S.length - 1 < S.length := by omega
    have := (List.getElem?_eq_some_iff.mp (s _ _ (List.getElem?_eq_getElem hl))).1
    omega
theorem q_aug {i : Nat} {op : Op2} {a : DE} {env : En} {S : Store} : sAug i op a env S = match env[i]? with
  | some (some d) => (a env S).bind fun x S1 => (ofO (op d x S1)).bind fun y S2 => .ok (.nx (env.set i (some y))) S2
  | _ => .bad := rfl
theorem atI_last {l : List Int} (h : l ≠ []) : L2.atI (iL l) (-1) = some (.int (cf l (l.length - 1))) := by
  have hl : 0 < l.length := List.length_pos_iff.mpr h
  have e := iL_at (l := l) (k := l.length - 1) (by omega)
  unfold L2.atI L2.ixN
  rw [if_neg (by decide), iL_len, if_pos (by omega), cf_get (by omega)]
  have : (-1 + (l.length : Int)).toNat = l.length - 1 := by omega
  simp only [Option.bind_some, this, e]
theorem take_last {l : List Int} {k : Nat} (h : k + 1 ≤ l.length) : (iL (l.take (k + 1))).dropLast = iL (l.take k) := by
  rw [List.dropLast_eq_take, iL_take, iL_len, List.length_take, List.take_take]
  congr 2
  omega
theorem sub1 {k : Nat} : ((k + 1 : Nat) : Int) - 1 = (k : Int) := by omega
theorem lenI {l : List Int} : ((iL l).length : Int) = (l.length : Int) := by rw [iL_len]
end Z
namespace Zk16
open PySem PySem.Spec Z
section
variable {S : Store} {x y : D} {l m : List Int} {Q : D → Store → Prop}
theorem w_trimmed (hx : Sq S x l) (hl : l.length ≤ 1000) (hQ : ∀ r S', Sub S S' → S'[r]? = some (.lst (iL (tr l))) → Q (.ref r) S') : WP (f_trimmed [x] S) Q := by
  unfold f_trimmed
  rw [mkFn_wp]
  unfold b_trimmed n_trimmed
  simp only [List.map_cons, List.map_nil, List.length_cons, List.length_nil, List.cons_append, List.nil_append, List.replicate, List.getElem?_cons_zero, List.getElem?_cons_succ, List.set_cons_succ, List.set_cons_zero, WP_bind, WP_ok, WP_cut, q_var, q_c, q_bin, q_un, q_ofO, q_chain, q_tst, q_tstB, q_and2, q_or2, q_not1, q_andV, q_orV, q_notV, q_if, q_nil, q_cons, q_tup, q_lst, q_next, q_seq, q_expr, q_ret, q_retN, q_brk, q_cnt, q_sif, q_gnm, q_gtup, q_gcons, q_gnil, q_asg, q_call, q_callB, q_seqi, q_for, q_while, o_add, o_addI, o_sub, o_lt, o_le, o_gt, o_ge, o_neg, o_ixR, o_ixT, o_ixF, itemsT, itemsF, seqT, seqF, q_b1, q_b2, f_intI, f_intB, f_abs, f_max, f_min, f_lenT, f_lenF, f_list, f_tuple, q_gsb, ofB_bl, q_sl, q_pno, q_pat, q_lrg, q_meth, q_fld, q_rng1, Option.bind_some, Option.map_some, ofS_some, if_true, if_false, Bool.false_eq_true, decide_true, decide_false, ix0, ix1, ix2, wipe_nil, wipe_cons, q_yes, q_rng2, hx.len]
  refine wp_while (fun k env S' => env = [some x, some (.int (k : Int))] ∧ S' = S ∧ k ≤ l.length ∧ ∀ n, k ≤ n → cf l n = 0) l.length (by omega)
    ⟨rfl, rfl, Nat.le_refl _, fun n hn => cf_out hn⟩ fun k env S1 ⟨he, hS, hk, hz⟩ => ?_
  subst he hS
  obtain ⟨y, S2, e, hy, s2⟩ := hx.cut hk
  have fin : (k = 0 ∨ cf l (k - 1) ≠ 0) → Q (.ref S2.length) (S2 ++ [.lst (iL (l.take k))]) := fun h0 => hQ _ _ (s2.trans (Sub.push _ _)) (by rw [push_at, tr_take hk hz h0])
  by_cases h0 : k = 0
  · have d0 : decide ((0 : Int) < (k : Int)) = false := decide_eq_false (by omega)
    simp only [List.map_cons, List.map_nil, List.length_cons, List.length_nil, List.cons_append, List.nil_append, List.replicate, List.getElem?_cons_zero, List.getElem?_cons_succ, List.set_cons_succ, List.set_cons_zero, WP_bind, WP_ok, WP_cut, q_var, q_c, q_bin, q_un, q_ofO, q_chain, q_tst, q_tstB, q_and2, q_or2, q_not1, q_andV, q_orV, q_notV, q_if, q_nil, q_cons, q_tup, q_lst, q_next, q_seq, q_expr, q_ret, q_retN, q_brk, q_cnt, q_sif, q_gnm, q_gtup, q_gcons, q_gnil, q_asg, q_call, q_callB, q_seqi, q_for, q_while, o_add, o_addI, o_sub, o_lt, o_le, o_gt, o_ge, o_neg, o_ixR, o_ixT, o_ixF, itemsT, itemsF, seqT, seqF, q_b1, q_b2, f_intI, f_intB, f_abs, f_max, f_min, f_lenT, f_lenF, f_list, f_tuple, q_gsb, ofB_bl, q_sl, q_pno, q_pat, q_lrg, q_meth, q_fld, q_rng1, Option.bind_some, Option.map_some, ofS_some, if_true, if_false, Bool.false_eq_true, decide_true, decide_false, ix0, ix1, ix2, wipe_nil, wipe_cons, q_yes, q_rng2, d0, e, hy.items]
    exact fin (.inl h0)
  · obtain ⟨j, rfl⟩ : ∃ j, k = j + 1 := ⟨k - 1, by omega⟩
    have d0 : decide ((0 : Int) < ((j + 1 : Nat) : Int)) = true := decide_eq_true (by omega)
    have hj : j < l.length := by omega
    simp only [List.map_cons, List.map_nil, List.length_cons, List.length_nil, List.cons_append, List.nil_append, List.replicate, List.getElem?_cons_zero, List.getElem?_cons_succ, List.set_cons_succ, List.set_cons_zero, WP_bind, WP_ok, WP_cut, q_var, q_c, q_bin, q_un, q_ofO, q_chain, q_tst, q_tstB, q_and2, q_or2, q_not1, q_andV, q_orV, q_notV, q_if, q_nil, q_cons, q_tup, q_lst, q_next, q_seq, q_expr, q_ret, q_retN, q_brk, q_cnt, q_sif, q_gnm, q_gtup, q_gcons, q_gnil, q_asg, q_call, q_callB, q_seqi, q_for, q_while, o_add, o_addI, o_sub, o_lt, o_le, o_gt, o_ge, o_neg, o_ixR, o_ixT, o_ixF, itemsT, itemsF, seqT, seqF, q_b1, q_b2, f_intI, f_intB, f_abs, f_max, f_min, f_lenT, f_lenF, f_list, f_tuple, q_gsb, ofB_bl, q_sl, q_pno, q_pat, q_lrg, q_meth, q_fld, q_rng1, Option.bind_some, Option.map_some, ofS_some, if_true, if_false, Bool.false_eq_true, decide_true, decide_false, ix0, ix1, ix2, wipe_nil, wipe_cons, q_yes, q_rng2, d0, sub1, hx.ix hj, o_eqI]
    by_cases h1 : l[j] = 0
    · simp only [h1, decide_true, List.map_cons, List.map_nil, List.length_cons, List.length_nil, List.cons_append, List.nil_append, List.replicate, List.getElem?_cons_zero, List.getElem?_cons_succ, List.set_cons_succ, List.set_cons_zero, WP_bind, WP_ok, WP_cut, q_var, q_c, q_bin, q_un, q_ofO, q_chain, q_tst, q_tstB, q_and2, q_or2, q_not1, q_andV, q_orV, q_notV, q_if, q_nil, q_cons, q_tup, q_lst, q_next, q_seq, q_expr, q_ret, q_retN, q_brk, q_cnt, q_sif, q_gnm, q_gtup, q_gcons, q_gnil, q_asg, q_call, q_callB, q_seqi, q_for, q_while, o_add, o_addI, o_sub, o_lt, o_le, o_gt, o_ge, o_neg, o_ixR, o_ixT, o_ixF, itemsT, itemsF, seqT, seqF, q_b1, q_b2, f_intI, f_intB, f_abs, f_max, f_min, f_lenT, f_lenF, f_list, f_tuple, q_gsb, ofB_bl, q_sl, q_pno, q_pat, q_lrg, q_meth, q_fld, q_rng1, Option.bind_some, Option.map_some, ofS_some, if_true, if_false, Bool.false_eq_true, decide_true, decide_false, ix0, ix1, ix2, wipe_nil, wipe_cons, q_yes, q_rng2, q_aug, sub1]
      refine ⟨j, by omega, (by first | exact rfl | trivial), (by first | exact rfl | trivial), by omega, fun n hn => ?_⟩
      by_cases e : n = j
      · subst e; rw [cf_get hj]; exact h1
      · exact hz n (by omega)
    · simp only [h1, decide_false, List.map_cons, List.map_nil, List.length_cons, List.length_nil, List.cons_append, List.nil_append, List.replicate, List.getElem?_cons_zero, List.getElem?_cons_succ, List.set_cons_succ, List.set_cons_zero, WP_bind, WP_ok, WP_cut, q_var, q_c, q_bin, q_un, q_ofO, q_chain, q_tst, q_tstB, q_and2, q_or2, q_not1, q_andV, q_orV, q_notV, q_if, q_nil, q_cons, q_tup, q_lst, q_next, q_seq, q_expr, q_ret, q_retN, q_brk, q_cnt, q_sif, q_gnm, q_gtup, q_gcons, q_gnil, q_asg, q_call, q_callB, q_seqi, q_for, q_while, o_add, o_addI, o_sub, o_lt, o_le, o_gt, o_ge, o_neg, o_ixR, o_ixT, o_ixF, itemsT, itemsF, seqT, seqF, q_b1, q_b2, f_intI, f_intB, f_abs, f_max, f_min, f_lenT, f_lenF, f_list, f_tuple, q_gsb, ofB_bl, q_sl, q_pno, q_pat, q_lrg, q_meth, q_fld, q_rng1, Option.bind_some, Option.map_some, ofS_some, if_true, if_false, Bool.false_eq_true, decide_true, decide_false, ix0, ix1, ix2, wipe_nil, wipe_cons, q_yes, q_rng2, e, hy.items]
      exact fin (.inr (by rw [show j + 1 - 1 = j by omega, cf_get hj]; exact h1))
end
end Zk16

namespace Z
open PySem PySem.Spec
theorem zip_at {l : List Int} {k : Nat} (h : k < l.length) : (l.zipIdx.map fun z => D.tup [.int (z.2 : Int), .int z.1])[k]? = some (.tup [.int (k : Int), .int l[k]]) := by
  simp [List.getElem?_zipIdx, List.getElem?_eq_getElem h]
theorem zip_end {l : List Int} : (l.zipIdx.map fun z => D.tup [.int (z.2 : Int), .int z.1])[l.length]? = none := by simp
theorem natAdd (k j : Nat) : (k : Int) + (j : Int) = ((k + j : Nat) : Int) := by omega
theorem natMul (k j : Nat) : (k : Int) * (j : Int) = ((k * j : Nat) : Int) := by simp
def prL (N : Nat) (p q : List Int) (k : Nat) : List Int := (List.range N).map (cv (p.take k) (cf q))
def prA (N : Nat) (p q : List Int) (k j : Nat) : List Int := (List.range N).map fun n => cv (p.take k) (cf q) n + (if k ≤ n ∧ n < k + j then cf p k * cf q (n - k) else 0)
section
variable {N k j : Nat} {p q : List Int}
theorem prL_len : (prL N p q k).length = N := by unfold prL; simp
theorem prA_len : (prA N p q k j).length = N := by unfold prA; simp
theorem prL_zero : List.replicate N 0 = prL N p q 0 := by
  unfold prL
  refine List.ext_getElem? fun n => ?_
  by_cases h : n < N
  · rw [List.getElem?_map, List.getElem?_range h, List.getElem?_replicate, if_pos h]; rfl
  · rw [List.getElem?_eq_none (by simp; omega), List.getElem?_eq_none (by simp; omega)]
theorem prL_end : prL N p q p.length = (List.range N).map (cv p (cf q)) := by unfold prL; rw [List.take_length]
theorem prA_zero : prL N p q k = prA N p q k 0 := by
  unfold prL prA
  refine List.map_congr_left fun n _ => ?_
  rw [if_neg (by omega), Int.add_zero]
theorem prA_end : prA N p q k q.length = prL N p q (k + 1) := by
  unfold prL prA
  refine List.map_congr_left fun n _ => ?_
  rw [cv_take]
  congr 1
  by_cases h : k ≤ n
  · by_cases h2 : n < k + q.length
    · rw [if_pos ⟨h, h2⟩, if_pos h]
    · rw [if_neg (by omega), if_pos h, cf_out (l := q) (by omega), Int.mul_zero]
  · rw [if_neg (by omega), if_neg h]
theorem prL_skip (h : cf p k = 0) : prL N p q (k + 1) = prL N p q k := by
  unfold prL
  refine List.map_congr_left fun n _ => ?_
  rw [cv_take, h, Int.zero_mul]
  simp
theorem prA_at (h : k + j < N) (hk : k < p.length) : (prA N p q k j)[k + j]'(by rw [prA_len]; exact h) = cv (p.take k) (cf q) (k + j) := by
  unfold prA
  rw [List.getElem_map, List.getElem_range, if_neg (by omega), Int.add_zero]
theorem prA_set (h : k + j < N) : (prA N p q k j).set (k + j) (cv (p.take k) (cf q) (k + j) + cf p k * cf q j) = prA N p q k (j + 1) := by
  unfold prA
  rw [range_set]
  refine List.map_congr_left fun n _ => ?_
  by_cases e : n = k + j
  · subst e
    rw [if_pos rfl, if_pos (by omega), show k + j - k = j by omega]
  · rw [if_neg e]
    by_cases h2 : k ≤ n ∧ n < k + j
    · rw [if_pos h2, if_pos (by omega)]
    · rw [if_neg h2, if_neg (by omega)]
end
theorem getLR {S : Store} {r : Nat} {ds : List D} {i : Int} (h : S[r]? = some (.lst ds)) : getL (.ref r) (.int i) S = L2.atI ds i := by
  simp only [getL, h]
theorem q_augS {o i a : DE} {op : Op2} {env : En} {S : Store} : sAugS o i op a env S = (o env S).bind fun x S1 => (i env S1).bind fun y S2 => match getL x y S2 with
  | some old => (a env S2).bind fun w S3 => (ofO (op old w S3)).bind fun new S4 => match setD x y new S4 with
    | some S5 => .ok (.nx env) S5
    | none => .bad
  | none => .bad := rfl
end Z
namespace Zk16
open PySem PySem.Spec Z
section
variable {S : Store} {x y : D} {p q : List Int} {Q : D → Store → Prop} {A B : Nat}
theorem w_product (hx : Sq S x p) (hy : Sq S y q) (lp : p.length ≤ 200) (lq : q.length ≤ 200) (bp : Bn (2 ^ A) p) (bq : Bn (2 ^ B) q) (hA : A + B ≤ 10000) (hQ : ∀ r S', Sub S S' → S'[r]? = some (.lst (iL (PM p q))) → Q (.ref r) S') : WP (f_product_of [x, y] S) Q := by
  unfold f_product_of
  rw [mkFn_wp]
  unfold b_product_of n_product_of
  have sp : Sub S (S ++ [O.lst [D.int 0]]) := Sub.push _ _
  simp only [List.map_cons, List.map_nil, List.length_cons, List.length_nil, List.cons_append, List.nil_append, List.replicate, List.getElem?_cons_zero, List.getElem?_cons_succ, List.set_cons_succ, List.set_cons_zero, WP_bind, WP_ok, WP_cut, q_var, q_c, q_bin, q_un, q_ofO, q_chain, q_tst, q_tstB, q_and2, q_or2, q_not1, q_andV, q_orV, q_notV, q_if, q_nil, q_cons, q_tup, q_lst, q_next, q_seq, q_expr, q_ret, q_retN, q_brk, q_cnt, q_sif, q_gnm, q_gtup, q_gcons, q_gnil, q_asg, q_call, q_callB, q_seqi, q_for, q_while, o_add, o_addI, o_sub, o_lt, o_le, o_gt, o_ge, o_neg, o_ixR, o_ixT, o_ixF, itemsT, itemsF, seqT, seqF, q_b1, q_b2, f_intI, f_intB, f_abs, f_max, f_min, f_lenT, f_lenF, f_list, f_tuple, q_gsb, ofB_bl, q_sl, q_pno, q_pat, q_lrg, q_meth, q_fld, q_rng1, Option.bind_some, Option.map_some, ofS_some, if_true, if_false, Bool.false_eq_true, decide_true, decide_false, ix0, ix1, ix2, wipe_nil, wipe_cons, q_yes, q_rng2, mkL, z1, hx.len, (hx.sub sp).len, (hy.sub sp).len]
  have en : ∃ N : Nat, (if (p.length : Int) + (q.length : Int) - 1 > 0 then (p.length : Int) + (q.length : Int) - 1 else 0) = (N : Int) ∧ N ≤ 1000 ∧ p.length + q.length ≤ N + 1 := by
    refine ⟨p.length + q.length - 1, ?_, by omega, by omega⟩
    split <;> omega
  obtain ⟨N, en, hN, hN2⟩ := en
  rw [en, mul_lst push_at hN]
  simp only [List.map_cons, List.map_nil, List.length_cons, List.length_nil, List.cons_append, List.nil_append, List.replicate, List.getElem?_cons_zero, List.getElem?_cons_succ, List.set_cons_succ, List.set_cons_zero, WP_bind, WP_ok, WP_cut, q_var, q_c, q_bin, q_un, q_ofO, q_chain, q_tst, q_tstB, q_and2, q_or2, q_not1, q_andV, q_orV, q_notV, q_if, q_nil, q_cons, q_tup, q_lst, q_next, q_seq, q_expr, q_ret, q_retN, q_brk, q_cnt, q_sif, q_gnm, q_gtup, q_gcons, q_gnil, q_asg, q_call, q_callB, q_seqi, q_for, q_while, o_add, o_addI, o_sub, o_lt, o_le, o_gt, o_ge, o_neg, o_ixR, o_ixT, o_ixF, itemsT, itemsF, seqT, seqF, q_b1, q_b2, f_intI, f_intB, f_abs, f_max, f_min, f_lenT, f_lenF, f_list, f_tuple, q_gsb, ofB_bl, q_sl, q_pno, q_pat, q_lrg, q_meth, q_fld, q_rng1, Option.bind_some, Option.map_some, ofS_some, if_true, if_false, Bool.false_eq_true, decide_true, decide_false, ix0, ix1, ix2, wipe_nil, wipe_cons, q_yes, q_rng2]
  have hr : S.length ≤ (S ++ [O.lst [D.int 0]]).length := by simp
  generalize hrr : (S ++ [O.lst [D.int 0]]).length = r at *
  have h0 : (S ++ [O.lst [D.int 0]] ++ [O.lst (iL (List.replicate N 0))])[r]? = some (.lst (iL (prL N p q 0))) := by rw [← hrr, push_at, prL_zero]
  have s0 : Sub S (S ++ [O.lst [D.int 0]] ++ [O.lst (iL (List.replicate N 0))]) := sp.trans (Sub.push _ _)
  rw [enum1 (A := dVar 0) (x := x) rfl (by rw [(hx.sub s0).items]; rfl)]
  simp only [List.map_cons, List.map_nil, List.length_cons, List.length_nil, List.cons_append, List.nil_append, List.replicate, List.getElem?_cons_zero, List.getElem?_cons_succ, List.set_cons_succ, List.set_cons_zero, WP_bind, WP_ok, WP_cut, q_var, q_c, q_bin, q_un, q_ofO, q_chain, q_tst, q_tstB, q_and2, q_or2, q_not1, q_andV, q_orV, q_notV, q_if, q_nil, q_cons, q_tup, q_lst, q_next, q_seq, q_expr, q_ret, q_retN, q_brk, q_cnt, q_sif, q_gnm, q_gtup, q_gcons, q_gnil, q_asg, q_call, q_callB, q_seqi, q_for, q_while, o_add, o_addI, o_sub, o_lt, o_le, o_gt, o_ge, o_neg, o_ixR, o_ixT, o_ixF, itemsT, itemsF, seqT, seqF, q_b1, q_b2, f_intI, f_intB, f_abs, f_max, f_min, f_lenT, f_lenF, f_list, f_tuple, q_gsb, ofB_bl, q_sl, q_pno, q_pat, q_lrg, q_meth, q_fld, q_rng1, Option.bind_some, Option.map_some, ofS_some, if_true, if_false, Bool.false_eq_true, decide_true, decide_false, ix0, ix1, ix2, wipe_nil, wipe_cons, q_yes, q_rng2]
  refine wp_for p.length (fun k env S' => ∃ a3 a4 a5 a6, env = [some x, some y, some (.ref r), a3, a4, a5, a6] ∧ Sub S S' ∧ S'[r]? = some (.lst (iL (prL N p q k)))) (by omega)
    ⟨none, none, none, none, rfl, s0, h0⟩ (fun k env S1 hk ⟨a3, a4, a5, a6, he, s1, h1⟩ => ?_) fun env S1 ⟨a3, a4, a5, a6, he, s1, h1⟩ => ?_
  · refine ⟨.tup [.int (k : Int), .int p[k]], by rw [(hx.sub s1).enum (Nat.le_of_lt hk), zip_at hk], ?_⟩
    rw [he]
    simp only [List.map_cons, List.map_nil, List.length_cons, List.length_nil, List.cons_append, List.nil_append, List.replicate, List.getElem?_cons_zero, List.getElem?_cons_succ, List.set_cons_succ, List.set_cons_zero, WP_bind, WP_ok, WP_cut, q_var, q_c, q_bin, q_un, q_ofO, q_chain, q_tst, q_tstB, q_and2, q_or2, q_not1, q_andV, q_orV, q_notV, q_if, q_nil, q_cons, q_tup, q_lst, q_next, q_seq, q_expr, q_ret, q_retN, q_brk, q_cnt, q_sif, q_gnm, q_gtup, q_gcons, q_gnil, q_asg, q_call, q_callB, q_seqi, q_for, q_while, o_add, o_addI, o_sub, o_lt, o_le, o_gt, o_ge, o_neg, o_ixR, o_ixT, o_ixF, itemsT, itemsF, seqT, seqF, q_b1, q_b2, f_intI, f_intB, f_abs, f_max, f_min, f_lenT, f_lenF, f_list, f_tuple, q_gsb, ofB_bl, q_sl, q_pno, q_pat, q_lrg, q_meth, q_fld, q_rng1, Option.bind_some, Option.map_some, ofS_some, if_true, if_false, Bool.false_eq_true, decide_true, decide_false, ix0, ix1, ix2, wipe_nil, wipe_cons, q_yes, q_rng2, o_neI]
    by_cases hz : p[k] = 0
    · simp only [hz, decide_true, Bool.not_true, List.map_cons, List.map_nil, List.length_cons, List.length_nil, List.cons_append, List.nil_append, List.replicate, List.getElem?_cons_zero, List.getElem?_cons_succ, List.set_cons_succ, List.set_cons_zero, WP_bind, WP_ok, WP_cut, q_var, q_c, q_bin, q_un, q_ofO, q_chain, q_tst, q_tstB, q_and2, q_or2, q_not1, q_andV, q_orV, q_notV, q_if, q_nil, q_cons, q_tup, q_lst, q_next, q_seq, q_expr, q_ret, q_retN, q_brk, q_cnt, q_sif, q_gnm, q_gtup, q_gcons, q_gnil, q_asg, q_call, q_callB, q_seqi, q_for, q_while, o_add, o_addI, o_sub, o_lt, o_le, o_gt, o_ge, o_neg, o_ixR, o_ixT, o_ixF, itemsT, itemsF, seqT, seqF, q_b1, q_b2, f_intI, f_intB, f_abs, f_max, f_min, f_lenT, f_lenF, f_list, f_tuple, q_gsb, ofB_bl, q_sl, q_pno, q_pat, q_lrg, q_meth, q_fld, q_rng1, Option.bind_some, Option.map_some, ofS_some, if_true, if_false, Bool.false_eq_true, decide_true, decide_false, ix0, ix1, ix2, wipe_nil, wipe_cons, q_yes, q_rng2]
      exact ⟨_, _, _, _, rfl, s1, by rw [h1, prL_skip (by rw [cf_get hk]; exact hz)]⟩
    · simp only [hz, decide_false, Bool.not_false, List.map_cons, List.map_nil, List.length_cons, List.length_nil, List.cons_append, List.nil_append, List.replicate, List.getElem?_cons_zero, List.getElem?_cons_succ, List.set_cons_succ, List.set_cons_zero, WP_bind, WP_ok, WP_cut, q_var, q_c, q_bin, q_un, q_ofO, q_chain, q_tst, q_tstB, q_and2, q_or2, q_not1, q_andV, q_orV, q_notV, q_if, q_nil, q_cons, q_tup, q_lst, q_next, q_seq, q_expr, q_ret, q_retN, q_brk, q_cnt, q_sif, q_gnm, q_gtup, q_gcons, q_gnil, q_asg, q_call, q_callB, q_seqi, q_for, q_while, o_add, o_addI, o_sub, o_lt, o_le, o_gt, o_ge, o_neg, o_ixR, o_ixT, o_ixF, itemsT, itemsF, seqT, seqF, q_b1, q_b2, f_intI, f_intB, f_abs, f_max, f_min, f_lenT, f_lenF, f_list, f_tuple, q_gsb, ofB_bl, q_sl, q_pno, q_pat, q_lrg, q_meth, q_fld, q_rng1, Option.bind_some, Option.map_some, ofS_some, if_true, if_false, Bool.false_eq_true, decide_true, decide_false, ix0, ix1, ix2, wipe_nil, wipe_cons, q_yes, q_rng2]
      rw [enum1 (A := dVar 1) (x := y) rfl (by rw [(hy.sub s1).items]; rfl)]
      simp only [List.map_cons, List.map_nil, List.length_cons, List.length_nil, List.cons_append, List.nil_append, List.replicate, List.getElem?_cons_zero, List.getElem?_cons_succ, List.set_cons_succ, List.set_cons_zero, WP_bind, WP_ok, WP_cut, q_var, q_c, q_bin, q_un, q_ofO, q_chain, q_tst, q_tstB, q_and2, q_or2, q_not1, q_andV, q_orV, q_notV, q_if, q_nil, q_cons, q_tup, q_lst, q_next, q_seq, q_expr, q_ret, q_retN, q_brk, q_cnt, q_sif, q_gnm, q_gtup, q_gcons, q_gnil, q_asg, q_call, q_callB, q_seqi, q_for, q_while, o_add, o_addI, o_sub, o_lt, o_le, o_gt, o_ge, o_neg, o_ixR, o_ixT, o_ixF, itemsT, itemsF, seqT, seqF, q_b1, q_b2, f_intI, f_intB, f_abs, f_max, f_min, f_lenT, f_lenF, f_list, f_tuple, q_gsb, ofB_bl, q_sl, q_pno, q_pat, q_lrg, q_meth, q_fld, q_rng1, Option.bind_some, Option.map_some, ofS_some, if_true, if_false, Bool.false_eq_true, decide_true, decide_false, ix0, ix1, ix2, wipe_nil, wipe_cons, q_yes, q_rng2]
      refine wp_for q.length (fun j env S' => ∃ a5 a6, env = [some x, some y, some (.ref r), some (.int (k : Int)), some (.int p[k]), a5, a6] ∧ Sub S S' ∧ S'[r]? = some (.lst (iL (prA N p q k j)))) (by omega)
        ⟨a5, a6, rfl, s1, by rw [h1, prA_zero]⟩ (fun j env S2 hj ⟨b5, b6, he2, s2, h2⟩ => ?_) fun env S2 ⟨b5, b6, he2, s2, h2⟩ => ?_
      · refine ⟨.tup [.int (j : Int), .int q[j]], by rw [(hy.sub s2).enum (Nat.le_of_lt hj), zip_at hj], ?_⟩
        rw [he2]
        have hkj : k + j < N := by omega
        have hg : getL (.ref r) (.int ((k + j : Nat) : Int)) S2 = some (.int (cv (p.take k) (cf q) (k + j))) := by
          rw [getLR h2, ix_lit (by rw [iL_len, prA_len]; exact hkj), iL_at (by rw [prA_len]; exact hkj), prA_at hkj hk]
        have hm : mulOk p[k] q[j] = true := mulW (a := A + 1) (b := B + 1) (by have := bp _ (List.getElem_mem hk); have : 2 ^ A < 2 ^ (A + 1) := Nat.pow_lt_pow_right (by decide) (by omega); omega) (by have := bq _ (List.getElem_mem hj); have : 2 ^ B < 2 ^ (B + 1) := Nat.pow_lt_pow_right (by decide) (by omega); omega) (by omega)
        have hs := set_lst (i := cv (p.take k) (cf q) (k + j) + p[k] * q[j]) h2 (k := k + j) (by rw [prA_len]; exact hkj)
        simp only [List.map_cons, List.map_nil, List.length_cons, List.length_nil, List.cons_append, List.nil_append, List.replicate, List.getElem?_cons_zero, List.getElem?_cons_succ, List.set_cons_succ, List.set_cons_zero, WP_bind, WP_ok, WP_cut, q_var, q_c, q_bin, q_un, q_ofO, q_chain, q_tst, q_tstB, q_and2, q_or2, q_not1, q_andV, q_orV, q_notV, q_if, q_nil, q_cons, q_tup, q_lst, q_next, q_seq, q_expr, q_ret, q_retN, q_brk, q_cnt, q_sif, q_gnm, q_gtup, q_gcons, q_gnil, q_asg, q_call, q_callB, q_seqi, q_for, q_while, o_add, o_addI, o_sub, o_lt, o_le, o_gt, o_ge, o_neg, o_ixR, o_ixT, o_ixF, itemsT, itemsF, seqT, seqF, q_b1, q_b2, f_intI, f_intB, f_abs, f_max, f_min, f_lenT, f_lenF, f_list, f_tuple, q_gsb, ofB_bl, q_sl, q_pno, q_pat, q_lrg, q_meth, q_fld, q_rng1, Option.bind_some, Option.map_some, ofS_some, if_true, if_false, Bool.false_eq_true, decide_true, decide_false, ix0, ix1, ix2, wipe_nil, wipe_cons, q_yes, q_rng2, q_augS, natAdd, hg, o_mul hm, hs]
        refine ⟨_, _, rfl, sub_set s2 hr, ?_⟩
        rw [set_at h2, ← cf_get hk, ← cf_get hj, prA_set hkj]
      · refine ⟨by rw [(hy.sub s2).enum (Nat.le_refl _), zip_end], ?_⟩
        rw [he2]
        exact ⟨_, _, _, _, rfl, s2, by rw [h2, prA_end]⟩
  · refine ⟨by rw [(hx.sub s1).enum (Nat.le_refl _), zip_end], ?_⟩
    rw [he]
    simp only [List.map_cons, List.map_nil, List.length_cons, List.length_nil, List.cons_append, List.nil_append, List.replicate, List.getElem?_cons_zero, List.getElem?_cons_succ, List.set_cons_succ, List.set_cons_zero, WP_bind, WP_ok, WP_cut, q_var, q_c, q_bin, q_un, q_ofO, q_chain, q_tst, q_tstB, q_and2, q_or2, q_not1, q_andV, q_orV, q_notV, q_if, q_nil, q_cons, q_tup, q_lst, q_next, q_seq, q_expr, q_ret, q_retN, q_brk, q_cnt, q_sif, q_gnm, q_gtup, q_gcons, q_gnil, q_asg, q_call, q_callB, q_seqi, q_for, q_while, o_add, o_addI, o_sub, o_lt, o_le, o_gt, o_ge, o_neg, o_ixR, o_ixT, o_ixF, itemsT, itemsF, seqT, seqF, q_b1, q_b2, f_intI, f_intB, f_abs, f_max, f_min, f_lenT, f_lenF, f_list, f_tuple, q_gsb, ofB_bl, q_sl, q_pno, q_pat, q_lrg, q_meth, q_fld, q_rng1, Option.bind_some, Option.map_some, ofS_some, if_true, if_false, Bool.false_eq_true, decide_true, decide_false, ix0, ix1, ix2, wipe_nil, wipe_cons, q_yes, q_rng2]
    refine w_trimmed (.lst h1) (by rw [prL_len]; exact hN) fun r2 S2 s2 h2 => ?_
    simp only [List.map_cons, List.map_nil, List.length_cons, List.length_nil, List.cons_append, List.nil_append, List.replicate, List.getElem?_cons_zero, List.getElem?_cons_succ, List.set_cons_succ, List.set_cons_zero, WP_bind, WP_ok, WP_cut, q_var, q_c, q_bin, q_un, q_ofO, q_chain, q_tst, q_tstB, q_and2, q_or2, q_not1, q_andV, q_orV, q_notV, q_if, q_nil, q_cons, q_tup, q_lst, q_next, q_seq, q_expr, q_ret, q_retN, q_brk, q_cnt, q_sif, q_gnm, q_gtup, q_gcons, q_gnil, q_asg, q_call, q_callB, q_seqi, q_for, q_while, o_add, o_addI, o_sub, o_lt, o_le, o_gt, o_ge, o_neg, o_ixR, o_ixT, o_ixF, itemsT, itemsF, seqT, seqF, q_b1, q_b2, f_intI, f_intB, f_abs, f_max, f_min, f_lenT, f_lenF, f_list, f_tuple, q_gsb, ofB_bl, q_sl, q_pno, q_pat, q_lrg, q_meth, q_fld, q_rng1, Option.bind_some, Option.map_some, ofS_some, if_true, if_false, Bool.false_eq_true, decide_true, decide_false, ix0, ix1, ix2, wipe_nil, wipe_cons, q_yes, q_rng2]
    refine hQ _ _ (s1.trans s2) ?_
    rw [h2, prL_end, PM_range hN2]
end
end Zk16

set_option exponentiation.threshold 3000
namespace Z
open PySem PySem.Spec
theorem q_star {a : DE} {r : DA} {env : En} {S : Store} : dStar a r env S = (a env S).bind fun x S1 => match itemsD S1 x with
  | some xs => (r env S1).bind fun ys S2 => .ok (xs ++ ys) S2
  | none => .bad := rfl
theorem q_zip {r : DA} {env : En} {S : Store} : iZip r env S = (r env S).bind fun xs S1 => match xs with
  | [x, y] => if (itemsD S1 x).isSome ∧ (itemsD S1 y).isSome then .ok (jZip x y) S1 else .bad
  | _ => .bad := rfl
def pr2 (z : Int × Int) : D := .tup [.int z.1, .int z.2]
theorem jZ_at {S : Store} {x y : D} {p q : List Int} {k : Nat} (hx : itemsD S x = some (iL p)) (hy : itemsD S y = some (iL q)) (h : p.length = q.length) (hk : k ≤ p.length) : jZip x y k S = some (((List.zip p q).map pr2)[k]?) := by
  unfold jZip
  rw [hx, hy]
  dsimp only
  by_cases h2 : k < p.length
  · rw [iL_at h2, iL_at (l := q) (by omega)]
    dsimp only
    rw [List.getElem?_map, List.getElem?_eq_getElem (by rw [List.length_zip]; omega)]
    simp [pr2]
  · have : k = p.length := by omega
    subst this
    have e1 : (iL p)[p.length]? = none := List.getElem?_eq_none (by rw [iL_len]; exact Nat.le_refl _)
    have e2 : (iL q)[p.length]? = none := List.getElem?_eq_none (by rw [iL_len]; omega)
    rw [e1, e2]
    dsimp only
    rw [if_pos (by rw [iL_len, iL_len]; omega), List.getElem?_eq_none (by rw [List.length_map, List.length_zip]; omega)]
def pd (p : List Int) (N : Nat) : List Int := p ++ List.replicate (N - p.length) 0
theorem pd_len {p : List Int} {N : Nat} (h : p.length ≤ N) : (pd p N).length = N := by unfold pd; simp; omega
def SMl (f : Int) (p q : List Int) (N : Nat) : List Int := (List.zip (pd p N) (pd q N)).map fun z => z.1 + f * z.2
def SM (f : Int) (p q : List Int) : List Int := tr (SMl f p q (max p.length q.length))
theorem SMl_len {f : Int} {p q : List Int} {N : Nat} (h : p.length ≤ N) (h' : q.length ≤ N) : (SMl f p q N).length = N := by
  unfold SMl; rw [List.length_map, List.length_zip, pd_len h, pd_len h']; omega
theorem Bn.pd {B N : Nat} {p : List Int} (h : Bn B p) : Bn B (pd p N) := fun x hx => by
  rcases List.mem_append.mp hx with z | z
  · exact h x z
  · rw [(List.mem_replicate.mp z).2]; exact Nat.zero_le _
theorem Bn.SM {A B : Nat} {f : Int} {p q : List Int} (h : Bn A p) (h' : Bn B q) (hf : f.natAbs ≤ 1) : Bn (A + B) (SM f p q) := Bn.tr fun x hx => by
  obtain ⟨z, hz, rfl⟩ := List.mem_map.mp hx
  have h1 := h.pd z.1 (List.of_mem_zip hz).1
  have h2 := h'.pd z.2 (List.of_mem_zip hz).2
  have h3 := Int.natAbs_add_le z.1 (f * z.2)
  rw [Int.natAbs_mul] at h3
  have h4 : f.natAbs * z.2.natAbs ≤ 1 * z.2.natAbs := Nat.mul_le_mul_right _ hf
  omega
theorem SM_len {f : Int} {p q : List Int} : (SM f p q).length ≤ max p.length q.length := by
  have := tr_len (SMl f p q (max p.length q.length))
  rw [SMl_len (by omega) (by omega)] at this
  exact this
theorem maxN {a b : Nat} : (if (b : Int) > (a : Int) then (b : Int) else (a : Int)) = ((max a b : Nat) : Int) := by
  split <;> omega
theorem subN {a b : Nat} (h : b ≤ a) : (a : Int) - (b : Int) = ((a - b : Nat) : Int) := by omega
/-! spread -/
def spL (N m : Nat) (l : List Int) (k : Nat) : List Int := (List.range N).map fun n => if n % m = 0 ∧ n / m < k then cf l (n / m) else 0
theorem spL_len {N m k : Nat} {l : List Int} : (spL N m l k).length = N := by unfold spL; simp
theorem spL_zero {N m : Nat} {l : List Int} : List.replicate N 0 = spL N m l 0 := by
  unfold spL
  refine List.ext_getElem? fun n => ?_
  by_cases h : n < N
  · rw [List.getElem?_map, List.getElem?_range h, List.getElem?_replicate, if_pos h, Option.map_some, if_neg fun z => absurd z.2 (Nat.not_lt_zero _)]
  · rw [List.getElem?_eq_none (by simp; omega), List.getElem?_eq_none (by simp; omega)]
theorem spL_set {N m k : Nat} {l : List Int} (hm : 0 < m) : (spL N m l k).set (k * m) (cf l k) = spL N m l (k + 1) := by
  unfold spL
  rw [range_set]
  refine List.map_congr_left fun n _ => ?_
  by_cases e : n = k * m
  · subst e
    rw [if_pos rfl, if_pos ⟨Nat.mul_mod_left _ _, by rw [Nat.mul_div_cancel _ hm]; omega⟩, Nat.mul_div_cancel _ hm]
  · rw [if_neg e]
    by_cases h : n % m = 0 ∧ n / m < k
    · rw [if_pos h, if_pos ⟨h.1, by omega⟩]
    · rw [if_neg h, if_neg]
      rintro ⟨h1, h2⟩
      have h3 : n / m = k := by
        by_cases h4 : n / m < k
        · exact absurd ⟨h1, h4⟩ h
        · omega
      have h5 := Nat.div_add_mod n m
      rw [h1, h3, Nat.add_zero, Nat.mul_comm] at h5
      exact e h5.symm
/-- the row spread out -/
def SP (l : List Int) (m : Nat) : List Int := spL (if l.length = 0 then 0 else (l.length - 1) * m + 1) m l l.length
theorem sp_in {l : List Int} {m n N : Nat} (hm : 0 < m) (h0 : l.length ≠ 0) (hN : (l.length - 1) * m + 1 ≤ N) : (if n < N then (if n % m = 0 ∧ n / m < l.length then cf l (n / m) else 0) else 0) = if n % m = 0 then cf l (n / m) else 0 := by
  by_cases h : n % m = 0
  · rw [if_pos h]
    by_cases h2 : n / m < l.length
    · have h5 := Nat.div_add_mod n m
      rw [h, Nat.add_zero] at h5
      have h6 : m * (n / m) ≤ m * (l.length - 1) := Nat.mul_le_mul_left _ (by omega)
      rw [Nat.mul_comm m (l.length - 1)] at h6
      rw [if_pos (by omega), if_pos ⟨h, h2⟩]
    · have h3 : cf l (n / m) = 0 := cf_out (Nat.le_of_not_lt h2)
      rw [h3]
      split
      · split <;> rfl
      · rfl
  · rw [if_neg h]
    have h3 : ¬ (n % m = 0 ∧ n / m < l.length) := fun z => h z.1
    split <;> first | rfl | rw [if_neg h3]
theorem cf_SP {l : List Int} {m n : Nat} (hm : 0 < m) : cf (SP l m) n = if n % m = 0 then cf l (n / m) else 0 := by
  by_cases h0 : l.length = 0
  · have e := List.eq_nil_of_length_eq_zero h0
    subst e
    show cf [] n = _
    rw [cf_nil, cf_nil]; split <;> rfl
  · unfold SP spL
    rw [if_neg h0, cf_range]
    exact sp_in hm h0 (Nat.le_refl _)
theorem cf_spL {N m n : Nat} {l : List Int} (hm : 0 < m) (hN : m * l.length ≤ N) : cf (spL N m l l.length) n = if n % m = 0 then cf l (n / m) else 0 := by
  by_cases h0 : l.length = 0
  · have e := List.eq_nil_of_length_eq_zero h0
    subst e
    unfold spL
    rw [cf_range]
    simp [cf_nil]
  · unfold spL
    rw [cf_range]
    refine sp_in hm h0 ?_
    obtain ⟨j, hj⟩ : ∃ j, l.length = j + 1 := ⟨l.length - 1, by omega⟩
    rw [hj, Nat.mul_succ, Nat.mul_comm] at hN
    rw [hj, Nat.add_sub_cancel]
    omega
theorem SP_tr {l : List Int} {m : Nat} (hm : 0 < m) (h : tr l = l) : tr (SP l m) = SP l m := by
  by_cases h0 : l.length = 0
  · have e : SP l m = [] := by unfold SP; rw [if_pos h0]; rfl
    rw [e]; rfl
  · refine tr_fix (.inr ?_)
    have e : (SP l m).length = (l.length - 1) * m + 1 := by unfold SP; rw [spL_len, if_neg h0]
    rw [e, cf_SP hm, show (l.length - 1) * m + 1 - 1 = (l.length - 1) * m by omega, if_pos (Nat.mul_mod_left _ _), Nat.mul_div_cancel _ hm]
    exact tr_last h fun z => h0 (by rw [z]; rfl)
theorem SP_same {l : List Int} {m : Nat} (hm : 0 < m) (h : tr l = l) : tr (spL (m * l.length) m l l.length) = SP l m := by
  rw [← SP_tr hm h]
  exact tr_ext fun n => by rw [cf_spL hm (Nat.le_refl _), cf_SP hm]
theorem Bn.SP {B m : Nat} {l : List Int} (h : Bn B l) (hm : 0 < m) : Bn B (SP l m) := .ofcf fun n => by
  rw [cf_SP hm]
  split
  · exact h.cf _
  · exact Nat.zero_le _
/-! values, contents -/
def hv (x : Int) (l : List Int) : Int := l.foldl (fun f e => f * x + e) 0
def gI (g e : Int) : Int := ((Nat.gcd g.natAbs e.natAbs : Nat) : Int)
def GC (l : List Int) : Int := l.foldl gI 0
theorem foldl_take {α β : Type} {f : β → α → β} {b : β} {l : List α} {k : Nat} (h : k < l.length) : (l.take (k + 1)).foldl f b = f ((l.take k).foldl f b) l[k] := by
  rw [List.take_succ, List.getElem?_eq_getElem h, List.foldl_append]; rfl
theorem absN {i : Int} : (if i < 0 then -i else i) = ((i.natAbs : Nat) : Int) := by split <;> omega
theorem hv_bd {x : Int} {l : List Int} (hx : x.natAbs ≤ 2 ^ 70) (hl : Bn (2 ^ 400) l) (k : Nat) : ((l.take k).foldl (fun f e => f * x + e) 0).natAbs ≤ 2 ^ (400 + 71 * k) := by
  induction k with
  | zero => simp
  | succ k ih =>
    by_cases h : k < l.length
    · rw [foldl_take h]
      have h1 := Int.natAbs_add_le ((l.take k).foldl (fun f e => f * x + e) 0 * x) l[k]
      rw [Int.natAbs_mul] at h1
      have h2 := Nat.mul_le_mul ih hx
      rw [← Nat.pow_add] at h2
      have h3 := hl _ (List.getElem_mem h)
      have h4 : 2 ^ 400 ≤ 2 ^ (400 + 71 * k + 70) := Nat.pow_le_pow_right (by decide) (by omega)
      have h5 : 2 ^ (400 + 71 * (k + 1)) = 2 * 2 ^ (400 + 71 * k + 70) := by rw [show 400 + 71 * (k + 1) = (400 + 71 * k + 70) + 1 by omega, Nat.pow_succ, Nat.mul_comm]
      omega
    · have e : l.take (k + 1) = l.take k := by rw [List.take_of_length_le (by omega), List.take_of_length_le (by omega)]
      rw [e]
      exact Nat.le_trans ih (Nat.pow_le_pow_right (by decide) (by omega))
end Z
namespace Zk16
open PySem PySem.Spec Z
section
variable {S : Store} {x y : D} {p q l : List Int} {Q : D → Store → Prop} {A B : Nat} {f : Int}
theorem w_sumc {env : En} {c : DE} {i j r1 r2 : Nat} {N : Nat} (h1 : S[r1]? = some (.lst (iL p))) (h2 : S[r2]? = some (.lst (iL q))) (hp : p.length = N) (hq : q.length = N) (hN : N ≤ 1000)
    (hA : ∀ r : DA, r env S = .ok [.ref r1, .ref r2] S → True) (hc : ∀ (a b : Int) S', b ∈ q → c ((((env.set j none).set i none).set i (some (.int a))).set j (some (.int b))) S' = .ok (.int (a + f * b)) S')
    (e4 : env[4]? = some (some (.ref r1))) (e5 : env[5]? = some (some (.ref r2)))
    (hQ : ∀ r S', Sub S S' → S'[r]? = some (.lst (iL ((List.zip p q).map fun z => z.1 + f * z.2))) → Q (.ref r) S') : WP (dLc (iZip (dCons (dVar 4) (dCons (dVar 5) dNil))) (gTup 2 (gCons (gNm i) (gCons (gNm j) gNil))) tYes1 c [i, j] env S) Q := by
  refine wp_fm (List.zip p q) pr2 (fun _ => true) (fun z => .int (z.1 + f * z.2)) (by rw [List.length_zip]; omega) ?_ (fun a S1 hm s1 => ?_) fun r S1 s1 h3 => ?_
  · simp only [q_zip, List.map_cons, List.map_nil, List.length_cons, List.length_nil, List.cons_append, List.nil_append, List.replicate, List.getElem?_cons_zero, List.getElem?_cons_succ, List.set_cons_succ, List.set_cons_zero, WP_bind, WP_ok, WP_cut, q_var, q_c, q_bin, q_un, q_ofO, q_chain, q_tst, q_tstB, q_and2, q_or2, q_not1, q_andV, q_orV, q_notV, q_if, q_nil, q_cons, q_tup, q_lst, q_next, q_seq, q_expr, q_ret, q_retN, q_brk, q_cnt, q_sif, q_gnm, q_gtup, q_gcons, q_gnil, q_asg, q_call, q_callB, q_seqi, q_for, q_while, o_add, o_addI, o_sub, o_lt, o_le, o_gt, o_ge, o_neg, o_ixR, o_ixT, o_ixF, itemsT, itemsF, seqT, seqF, q_b1, q_b2, f_intI, f_intB, f_abs, f_max, f_min, f_lenT, f_lenF, f_list, f_tuple, q_gsb, ofB_bl, q_sl, q_pno, q_pat, q_lrg, q_meth, q_fld, q_rng1, Option.bind_some, Option.map_some, ofS_some, if_true, if_false, Bool.false_eq_true, decide_true, decide_false, ix0, ix1, ix2, wipe_nil, wipe_cons, q_yes, q_rng2, e4, e5]
    rw [if_pos ⟨by rw [itemsR h1]; rfl, by rw [itemsR h2]; rfl⟩]
    simp only [List.map_cons, List.map_nil, List.length_cons, List.length_nil, List.cons_append, List.nil_append, List.replicate, List.getElem?_cons_zero, List.getElem?_cons_succ, List.set_cons_succ, List.set_cons_zero, WP_bind, WP_ok, WP_cut, q_var, q_c, q_bin, q_un, q_ofO, q_chain, q_tst, q_tstB, q_and2, q_or2, q_not1, q_andV, q_orV, q_notV, q_if, q_nil, q_cons, q_tup, q_lst, q_next, q_seq, q_expr, q_ret, q_retN, q_brk, q_cnt, q_sif, q_gnm, q_gtup, q_gcons, q_gnil, q_asg, q_call, q_callB, q_seqi, q_for, q_while, o_add, o_addI, o_sub, o_lt, o_le, o_gt, o_ge, o_neg, o_ixR, o_ixT, o_ixF, itemsT, itemsF, seqT, seqF, q_b1, q_b2, f_intI, f_intB, f_abs, f_max, f_min, f_lenT, f_lenF, f_list, f_tuple, q_gsb, ofB_bl, q_sl, q_pno, q_pat, q_lrg, q_meth, q_fld, q_rng1, Option.bind_some, Option.map_some, ofS_some, if_true, if_false, Bool.false_eq_true, decide_true, decide_false, ix0, ix1, ix2, wipe_nil, wipe_cons, q_yes, q_rng2]
    refine ⟨Sub.refl _, fun k S2 hk s2 => ?_⟩
    rw [List.length_zip] at hk
    exact jZ_at (itemsR (s2 _ _ h1)) (itemsR (s2 _ _ h2)) (by omega) (by omega)
  · simp only [pr2, List.map_cons, List.map_nil, List.length_cons, List.length_nil, List.cons_append, List.nil_append, List.replicate, List.getElem?_cons_zero, List.getElem?_cons_succ, List.set_cons_succ, List.set_cons_zero, WP_bind, WP_ok, WP_cut, q_var, q_c, q_bin, q_un, q_ofO, q_chain, q_tst, q_tstB, q_and2, q_or2, q_not1, q_andV, q_orV, q_notV, q_if, q_nil, q_cons, q_tup, q_lst, q_next, q_seq, q_expr, q_ret, q_retN, q_brk, q_cnt, q_sif, q_gnm, q_gtup, q_gcons, q_gnil, q_asg, q_call, q_callB, q_seqi, q_for, q_while, o_add, o_addI, o_sub, o_lt, o_le, o_gt, o_ge, o_neg, o_ixR, o_ixT, o_ixF, itemsT, itemsF, seqT, seqF, q_b1, q_b2, f_intI, f_intB, f_abs, f_max, f_min, f_lenT, f_lenF, f_list, f_tuple, q_gsb, ofB_bl, q_sl, q_pno, q_pat, q_lrg, q_meth, q_fld, q_rng1, Option.bind_some, Option.map_some, ofS_some, if_true, if_false, Bool.false_eq_true, decide_true, decide_false, ix0, ix1, ix2, wipe_nil, wipe_cons, q_yes, q_rng2, hc _ _ _ (List.of_mem_zip hm).2]
    exact ⟨trivial, Sub.refl _, fun _ => ⟨trivial, Sub.refl _⟩⟩
  · refine hQ r S1 s1 ?_
    rw [h3, filter_yes]
    unfold iL
    rw [List.map_map]; rfl
theorem w_sum (hx : Sq S x p) (hy : Sq S y q) (lp : p.length ≤ 200) (lq : q.length ≤ 200) (bq : Bn (2 ^ B) q) (hB : B ≤ 10000) (hf : f.natAbs ≤ 1) (hQ : ∀ r S', Sub S S' → S'[r]? = some (.lst (iL (SM f p q))) → Q (.ref r) S') : WP (f_sum_of [x, y, .int f] S) Q := by
  unfold f_sum_of
  rw [mkFn_wp]
  unfold b_sum_of n_sum_of
  obtain ⟨N, eN⟩ : ∃ N, max p.length q.length = N := ⟨_, rfl⟩
  have s1 : Sub S (S ++ [O.lst [D.int 0]]) := Sub.push _ _
  simp only [List.map_cons, List.map_nil, List.length_cons, List.length_nil, List.cons_append, List.nil_append, List.replicate, List.getElem?_cons_zero, List.getElem?_cons_succ, List.set_cons_succ, List.set_cons_zero, WP_bind, WP_ok, WP_cut, q_var, q_c, q_bin, q_un, q_ofO, q_chain, q_tst, q_tstB, q_and2, q_or2, q_not1, q_andV, q_orV, q_notV, q_if, q_nil, q_cons, q_tup, q_lst, q_next, q_seq, q_expr, q_ret, q_retN, q_brk, q_cnt, q_sif, q_gnm, q_gtup, q_gcons, q_gnil, q_asg, q_call, q_callB, q_seqi, q_for, q_while, o_add, o_addI, o_sub, o_lt, o_le, o_gt, o_ge, o_neg, o_ixR, o_ixT, o_ixF, itemsT, itemsF, seqT, seqF, q_b1, q_b2, f_intI, f_intB, f_abs, f_max, f_min, f_lenT, f_lenF, f_list, f_tuple, q_gsb, ofB_bl, q_sl, q_pno, q_pat, q_lrg, q_meth, q_fld, q_rng1, Option.bind_some, Option.map_some, ofS_some, if_true, if_false, Bool.false_eq_true, decide_true, decide_false, ix0, ix1, ix2, wipe_nil, wipe_cons, q_yes, q_rng2, q_star, hx.len, hy.len, hx.items, maxN, mkL, z1, (hx.sub s1).len, eN, subN (show p.length ≤ N by omega)]
  rw [mul_lst push_at (by omega)]
  have s2 : Sub S (S ++ [O.lst [D.int 0]] ++ [O.lst (iL (List.replicate (N - p.length) 0))]) := s1.trans (Sub.push _ _)
  have lpd : (iL p ++ (iL (List.replicate (N - p.length) 0) ++ [])).length ≤ sl := by
    rw [List.append_nil, iL_app, iL_len]
    exact sl1000 (by simp; omega)
  simp only [List.map_cons, List.map_nil, List.length_cons, List.length_nil, List.cons_append, List.nil_append, List.replicate, List.getElem?_cons_zero, List.getElem?_cons_succ, List.set_cons_succ, List.set_cons_zero, WP_bind, WP_ok, WP_cut, q_var, q_c, q_bin, q_un, q_ofO, q_chain, q_tst, q_tstB, q_and2, q_or2, q_not1, q_andV, q_orV, q_notV, q_if, q_nil, q_cons, q_tup, q_lst, q_next, q_seq, q_expr, q_ret, q_retN, q_brk, q_cnt, q_sif, q_gnm, q_gtup, q_gcons, q_gnil, q_asg, q_call, q_callB, q_seqi, q_for, q_while, o_add, o_addI, o_sub, o_lt, o_le, o_gt, o_ge, o_neg, o_ixR, o_ixT, o_ixF, itemsT, itemsF, seqT, seqF, q_b1, q_b2, f_intI, f_intB, f_abs, f_max, f_min, f_lenT, f_lenF, f_list, f_tuple, q_gsb, ofB_bl, q_sl, q_pno, q_pat, q_lrg, q_meth, q_fld, q_rng1, Option.bind_some, Option.map_some, ofS_some, if_true, if_false, Bool.false_eq_true, decide_true, decide_false, ix0, ix1, ix2, wipe_nil, wipe_cons, q_yes, q_rng2, itemsR push_at, lpd, (hy.sub s2).items]
  have ep : iL p ++ (iL (List.replicate (N - p.length) 0) ++ []) = iL (pd p N) := by rw [List.append_nil, iL_app]; rfl
  rw [ep]
  obtain ⟨S2, hS2⟩ : ∃ S2, S ++ [O.lst [D.int 0]] ++ [O.lst (iL (List.replicate (N - p.length) 0))] = S2 := ⟨_, rfl⟩
  rw [hS2] at s2 ⊢
  have s3 : Sub S2 (S2 ++ [O.lst (iL (pd p N))]) := Sub.push _ _
  have g3 : (S2 ++ [O.lst (iL (pd p N))])[S2.length]? = some (.lst (iL (pd p N))) := push_at
  obtain ⟨S3, hS3⟩ : ∃ S3, S2 ++ [O.lst (iL (pd p N))] = S3 := ⟨_, rfl⟩
  rw [hS3] at s3 g3 ⊢
  have y3 := (hy.sub s2).sub s3
  have s4 : Sub S3 (S3 ++ [O.lst [D.int 0]]) := Sub.push _ _
  simp only [List.map_cons, List.map_nil, List.length_cons, List.length_nil, List.cons_append, List.nil_append, List.replicate, List.getElem?_cons_zero, List.getElem?_cons_succ, List.set_cons_succ, List.set_cons_zero, WP_bind, WP_ok, WP_cut, q_var, q_c, q_bin, q_un, q_ofO, q_chain, q_tst, q_tstB, q_and2, q_or2, q_not1, q_andV, q_orV, q_notV, q_if, q_nil, q_cons, q_tup, q_lst, q_next, q_seq, q_expr, q_ret, q_retN, q_brk, q_cnt, q_sif, q_gnm, q_gtup, q_gcons, q_gnil, q_asg, q_call, q_callB, q_seqi, q_for, q_while, o_add, o_addI, o_sub, o_lt, o_le, o_gt, o_ge, o_neg, o_ixR, o_ixT, o_ixF, itemsT, itemsF, seqT, seqF, q_b1, q_b2, f_intI, f_intB, f_abs, f_max, f_min, f_lenT, f_lenF, f_list, f_tuple, q_gsb, ofB_bl, q_sl, q_pno, q_pat, q_lrg, q_meth, q_fld, q_rng1, Option.bind_some, Option.map_some, ofS_some, if_true, if_false, Bool.false_eq_true, decide_true, decide_false, ix0, ix1, ix2, wipe_nil, wipe_cons, q_yes, q_rng2, z1, y3.items, (y3.sub s4).len, subN (show q.length ≤ N by omega)]
  rw [mul_lst push_at (by omega)]
  have lqd : (iL q ++ (iL (List.replicate (N - q.length) 0) ++ [])).length ≤ sl := by
    rw [List.append_nil, iL_app, iL_len]
    exact sl1000 (by simp; omega)
  simp only [List.map_cons, List.map_nil, List.length_cons, List.length_nil, List.cons_append, List.nil_append, List.replicate, List.getElem?_cons_zero, List.getElem?_cons_succ, List.set_cons_succ, List.set_cons_zero, WP_bind, WP_ok, WP_cut, q_var, q_c, q_bin, q_un, q_ofO, q_chain, q_tst, q_tstB, q_and2, q_or2, q_not1, q_andV, q_orV, q_notV, q_if, q_nil, q_cons, q_tup, q_lst, q_next, q_seq, q_expr, q_ret, q_retN, q_brk, q_cnt, q_sif, q_gnm, q_gtup, q_gcons, q_gnil, q_asg, q_call, q_callB, q_seqi, q_for, q_while, o_add, o_addI, o_sub, o_lt, o_le, o_gt, o_ge, o_neg, o_ixR, o_ixT, o_ixF, itemsT, itemsF, seqT, seqF, q_b1, q_b2, f_intI, f_intB, f_abs, f_max, f_min, f_lenT, f_lenF, f_list, f_tuple, q_gsb, ofB_bl, q_sl, q_pno, q_pat, q_lrg, q_meth, q_fld, q_rng1, Option.bind_some, Option.map_some, ofS_some, if_true, if_false, Bool.false_eq_true, decide_true, decide_false, ix0, ix1, ix2, wipe_nil, wipe_cons, q_yes, q_rng2, itemsR push_at, lqd, z2, z2']
  have eq : iL q ++ (iL (List.replicate (N - q.length) 0) ++ []) = iL (pd q N) := by rw [List.append_nil, iL_app]; rfl
  rw [eq]
  have s5 : Sub S3 (S3 ++ [O.lst [D.int 0]] ++ [O.lst (iL (List.replicate (N - q.length) 0))] ++ [O.lst (iL (pd q N))]) := (s4.trans (Sub.push _ _)).trans (Sub.push _ _)
  refine w_sumc (f := f) (p := pd p N) (q := pd q N) (N := N) (s5 _ _ g3) push_at (pd_len (by omega)) (pd_len (by omega)) (by omega) (fun _ _ => trivial) (fun a b S' hb => ?_) rfl rfl fun r S6 s6 h6 => ?_
  · have hm : mulOk f b = true := mulW (a := 1) (b := B + 1) (by omega) (by have := bq.pd b hb; have : 2 ^ B < 2 ^ (B + 1) := Nat.pow_lt_pow_right (by decide) (by omega); omega) (by omega)
    simp only [List.map_cons, List.map_nil, List.length_cons, List.length_nil, List.cons_append, List.nil_append, List.replicate, List.getElem?_cons_zero, List.getElem?_cons_succ, List.set_cons_succ, List.set_cons_zero, WP_bind, WP_ok, WP_cut, q_var, q_c, q_bin, q_un, q_ofO, q_chain, q_tst, q_tstB, q_and2, q_or2, q_not1, q_andV, q_orV, q_notV, q_if, q_nil, q_cons, q_tup, q_lst, q_next, q_seq, q_expr, q_ret, q_retN, q_brk, q_cnt, q_sif, q_gnm, q_gtup, q_gcons, q_gnil, q_asg, q_call, q_callB, q_seqi, q_for, q_while, o_add, o_addI, o_sub, o_lt, o_le, o_gt, o_ge, o_neg, o_ixR, o_ixT, o_ixF, itemsT, itemsF, seqT, seqF, q_b1, q_b2, f_intI, f_intB, f_abs, f_max, f_min, f_lenT, f_lenF, f_list, f_tuple, q_gsb, ofB_bl, q_sl, q_pno, q_pat, q_lrg, q_meth, q_fld, q_rng1, Option.bind_some, Option.map_some, ofS_some, if_true, if_false, Bool.false_eq_true, decide_true, decide_false, ix0, ix1, ix2, wipe_nil, wipe_cons, q_yes, q_rng2, o_mul hm, Res.bind_ok, ofO_some]
  · try simp only [List.map_cons, List.map_nil, List.length_cons, List.length_nil, List.cons_append, List.nil_append, List.replicate, List.getElem?_cons_zero, List.getElem?_cons_succ, List.set_cons_succ, List.set_cons_zero, WP_bind, WP_ok, WP_cut, q_var, q_c, q_bin, q_un, q_ofO, q_chain, q_tst, q_tstB, q_and2, q_or2, q_not1, q_andV, q_orV, q_notV, q_if, q_nil, q_cons, q_tup, q_lst, q_next, q_seq, q_expr, q_ret, q_retN, q_brk, q_cnt, q_sif, q_gnm, q_gtup, q_gcons, q_gnil, q_asg, q_call, q_callB, q_seqi, q_for, q_while, o_add, o_addI, o_sub, o_lt, o_le, o_gt, o_ge, o_neg, o_ixR, o_ixT, o_ixF, itemsT, itemsF, seqT, seqF, q_b1, q_b2, f_intI, f_intB, f_abs, f_max, f_min, f_lenT, f_lenF, f_list, f_tuple, q_gsb, ofB_bl, q_sl, q_pno, q_pat, q_lrg, q_meth, q_fld, q_rng1, Option.bind_some, Option.map_some, ofS_some, if_true, if_false, Bool.false_eq_true, decide_true, decide_false, ix0, ix1, ix2, wipe_nil, wipe_cons, q_yes, q_rng2]
    refine w_trimmed (l := SMl f p q N) (.lst h6) (by rw [SMl_len (by omega) (by omega)]; omega) fun r7 S7 s7 h7 => ?_
    simp only [List.map_cons, List.map_nil, List.length_cons, List.length_nil, List.cons_append, List.nil_append, List.replicate, List.getElem?_cons_zero, List.getElem?_cons_succ, List.set_cons_succ, List.set_cons_zero, WP_bind, WP_ok, WP_cut, q_var, q_c, q_bin, q_un, q_ofO, q_chain, q_tst, q_tstB, q_and2, q_or2, q_not1, q_andV, q_orV, q_notV, q_if, q_nil, q_cons, q_tup, q_lst, q_next, q_seq, q_expr, q_ret, q_retN, q_brk, q_cnt, q_sif, q_gnm, q_gtup, q_gcons, q_gnil, q_asg, q_call, q_callB, q_seqi, q_for, q_while, o_add, o_addI, o_sub, o_lt, o_le, o_gt, o_ge, o_neg, o_ixR, o_ixT, o_ixF, itemsT, itemsF, seqT, seqF, q_b1, q_b2, f_intI, f_intB, f_abs, f_max, f_min, f_lenT, f_lenF, f_list, f_tuple, q_gsb, ofB_bl, q_sl, q_pno, q_pat, q_lrg, q_meth, q_fld, q_rng1, Option.bind_some, Option.map_some, ofS_some, if_true, if_false, Bool.false_eq_true, decide_true, decide_false, ix0, ix1, ix2, wipe_nil, wipe_cons, q_yes, q_rng2]
    refine hQ _ _ (((s2.trans s3).trans s5).trans (s6.trans s7)) ?_
    rw [h7]
    unfold SM
    rw [eN]
end
end Zk16

set_option exponentiation.threshold 3000
namespace Z
open PySem PySem.Spec
theorem q_rev {a : DE} {env : En} {S : Store} : dRev a env S = (a env S).bind fun x S1 => ofO (revD x S1) := rfl
theorem ltp {a A : Nat} (h : a ≤ 2 ^ A) : a < 2 ^ (A + 1) := by
  have : 2 ^ A < 2 ^ (A + 1) := Nat.pow_lt_pow_right (by decide) (by omega)
  omega
/-- how many turns Euclid's rule takes at most -/
def mu (c k : Nat) : Nat := (if k = 0 then 0 else (c * k).log2 + 1) + (if c < k then 1 else 0)
theorem mu_step {c k : Nat} (hk : 0 < k) : mu k (c % k) < mu c k := by
  unfold mu
  by_cases h : c < k
  · rw [Nat.mod_eq_of_lt h, if_neg (show ¬ k = 0 by omega), if_pos h, if_neg (show ¬ k < c by omega)]
    split
    · omega
    · rw [Nat.mul_comm]; omega
  · have hr := Nat.mod_lt c hk
    rw [if_neg (show ¬ k = 0 by omega), if_neg h, if_neg (show ¬ k < c % k by omega)]
    split
    · omega
    · rename_i h0
      have h1 : 2 * (k * (c % k)) ≤ c * k := by
        have h2 : c % k + k ≤ c := by
          have h3 := Nat.div_add_mod c k
          have h4 : 1 ≤ c / k := (Nat.one_le_div_iff hk).mpr (by omega)
          have h5 : k * 1 ≤ k * (c / k) := Nat.mul_le_mul_left _ h4
          omega
        have h3 : k * (2 * (c % k)) ≤ k * c := Nat.mul_le_mul_left _ (by omega)
        rw [Nat.mul_comm c k, ← Nat.mul_assoc, Nat.mul_comm 2 k, Nat.mul_assoc]
        exact h3
      have h6 : 0 < k * (c % k) := Nat.mul_pos hk (by omega)
      have h7 : (k * (c % k)).log2 + 1 ≤ (c * k).log2 := by
        rw [Nat.le_log2 (by omega), Nat.pow_succ, Nat.mul_comm]
        have := Nat.log2_self_le (n := k * (c % k)) (by omega)
        omega
      omega
theorem mu_bd {c k A : Nat} (hc : c < 2 ^ A) (hk : k < 2 ^ A) : mu c k ≤ 2 * A + 2 := by
  unfold mu
  have h1 : (c * k).log2 ≤ 2 * A := by
    by_cases z : c * k = 0
    · rw [z]; simp
    · refine Nat.le_of_lt ((Nat.log2_lt z).mpr ?_)
      rw [Nat.two_mul, Nat.pow_add]
      exact Nat.mul_lt_mul'' hc hk
  split <;> split <;> omega
theorem gI_bd {g e : Int} {B : Nat} (hg : g.natAbs ≤ B) (he : e.natAbs ≤ B) : (gI g e).natAbs ≤ B := by
  unfold gI
  rw [Int.natAbs_natCast]
  by_cases h : e.natAbs = 0
  · rw [h, Nat.gcd_zero_right]; exact hg
  · exact Nat.le_trans (Nat.gcd_le_right _ (by omega)) he
theorem gc_bd {B : Nat} {l : List Int} (h : Bn B l) (k : Nat) : ((l.take k).foldl gI 0).natAbs ≤ B := by
  induction k with
  | zero => simp
  | succ k ih =>
    by_cases hk : k < l.length
    · rw [foldl_take hk]
      exact gI_bd ih (h _ (List.getElem_mem hk))
    · have e : l.take (k + 1) = l.take k := by rw [List.take_of_length_le (by omega), List.take_of_length_le (by omega)]
      rw [e]; exact ih
theorem modN {a b : Nat} : ((a : Int) % (b : Int)) = ((a % b : Nat) : Int) := by simp
end Z
namespace Zk16
open PySem PySem.Spec Z
section
variable {S : Store} {x y : D} {p q l : List Int} {Q : D → Store → Prop} {A B m : Nat} {f : Int}
/-- a fold over ints -/
theorem w_hv {i : Int} (hx : Sq S x l) (ll : l.length ≤ 300) (hi : i.natAbs ≤ 2 ^ 70) (bl : Bn (2 ^ 400) l) (hQ : ∀ S', Sub S S' → Q (.int (hv i l.reverse)) S') : WP (f_value_of [x, .int i] S) Q := by
  unfold f_value_of
  rw [mkFn_wp]
  unfold b_value_of n_value_of
  obtain ⟨y, S1, e1, hy, s1⟩ := hx.rev
  obtain ⟨J, eJ, hJ⟩ := hy.seq
  have br : Bn (2 ^ 400) l.reverse := fun a ha => bl a (List.mem_reverse.mp ha)
  simp only [List.map_cons, List.map_nil, List.length_cons, List.length_nil, List.cons_append, List.nil_append, List.replicate, List.getElem?_cons_zero, List.getElem?_cons_succ, List.set_cons_succ, List.set_cons_zero, WP_bind, WP_ok, WP_cut, q_var, q_c, q_bin, q_un, q_ofO, q_chain, q_tst, q_tstB, q_and2, q_or2, q_not1, q_andV, q_orV, q_notV, q_if, q_nil, q_cons, q_tup, q_lst, q_next, q_seq, q_expr, q_ret, q_retN, q_brk, q_cnt, q_sif, q_gnm, q_gtup, q_gcons, q_gnil, q_asg, q_call, q_callB, q_seqi, q_for, q_while, o_add, o_addI, o_sub, o_lt, o_le, o_gt, o_ge, o_neg, o_ixR, o_ixT, o_ixF, itemsT, itemsF, seqT, seqF, q_b1, q_b2, f_intI, f_intB, f_abs, f_max, f_min, f_lenT, f_lenF, f_list, f_tuple, q_gsb, ofB_bl, q_sl, q_pno, q_pat, q_lrg, q_meth, q_fld, q_rng1, Option.bind_some, Option.map_some, ofS_some, if_true, if_false, Bool.false_eq_true, decide_true, decide_false, ix0, ix1, ix2, wipe_nil, wipe_cons, q_yes, q_rng2, q_rev, e1, eJ]
  refine wp_for l.reverse.length (fun k env S' => ∃ a3, env = [some x, some (.int i), some (.int ((l.reverse.take k).foldl (fun f e => f * i + e) 0)), a3] ∧ Sub S1 S') (by rw [List.length_reverse]; omega)
    ⟨none, rfl, Sub.refl _⟩ (fun k env S2 hk ⟨a3, he, s2⟩ => ?_) fun env S2 ⟨a3, he, s2⟩ => ?_
  · refine ⟨.int l.reverse[k], by rw [hJ _ _ s2, iL_at hk], ?_⟩
    rw [he]
    have hb := hv_bd hi br k
    have hk2 : k ≤ 300 := by rw [List.length_reverse] at hk; omega
    have mo : mulOk ((l.reverse.take k).foldl (fun f e => f * i + e) 0) i = true := mulW (ltp hb) (ltp hi) (by omega)
    simp only [List.map_cons, List.map_nil, List.length_cons, List.length_nil, List.cons_append, List.nil_append, List.replicate, List.getElem?_cons_zero, List.getElem?_cons_succ, List.set_cons_succ, List.set_cons_zero, WP_bind, WP_ok, WP_cut, q_var, q_c, q_bin, q_un, q_ofO, q_chain, q_tst, q_tstB, q_and2, q_or2, q_not1, q_andV, q_orV, q_notV, q_if, q_nil, q_cons, q_tup, q_lst, q_next, q_seq, q_expr, q_ret, q_retN, q_brk, q_cnt, q_sif, q_gnm, q_gtup, q_gcons, q_gnil, q_asg, q_call, q_callB, q_seqi, q_for, q_while, o_add, o_addI, o_sub, o_lt, o_le, o_gt, o_ge, o_neg, o_ixR, o_ixT, o_ixF, itemsT, itemsF, seqT, seqF, q_b1, q_b2, f_intI, f_intB, f_abs, f_max, f_min, f_lenT, f_lenF, f_list, f_tuple, q_gsb, ofB_bl, q_sl, q_pno, q_pat, q_lrg, q_meth, q_fld, q_rng1, Option.bind_some, Option.map_some, ofS_some, if_true, if_false, Bool.false_eq_true, decide_true, decide_false, ix0, ix1, ix2, wipe_nil, wipe_cons, q_yes, q_rng2, o_mul mo]
    exact ⟨_, by rw [foldl_take hk], s2⟩
  · refine ⟨by rw [hJ _ _ s2, List.getElem?_eq_none (by rw [iL_len]; exact Nat.le_refl _)], ?_⟩
    rw [he, List.take_length]
    simp only [List.map_cons, List.map_nil, List.length_cons, List.length_nil, List.cons_append, List.nil_append, List.replicate, List.getElem?_cons_zero, List.getElem?_cons_succ, List.set_cons_succ, List.set_cons_zero, WP_bind, WP_ok, WP_cut, q_var, q_c, q_bin, q_un, q_ofO, q_chain, q_tst, q_tstB, q_and2, q_or2, q_not1, q_andV, q_orV, q_notV, q_if, q_nil, q_cons, q_tup, q_lst, q_next, q_seq, q_expr, q_ret, q_retN, q_brk, q_cnt, q_sif, q_gnm, q_gtup, q_gcons, q_gnil, q_asg, q_call, q_callB, q_seqi, q_for, q_while, o_add, o_addI, o_sub, o_lt, o_le, o_gt, o_ge, o_neg, o_ixR, o_ixT, o_ixF, itemsT, itemsF, seqT, seqF, q_b1, q_b2, f_intI, f_intB, f_abs, f_max, f_min, f_lenT, f_lenF, f_list, f_tuple, q_gsb, ofB_bl, q_sl, q_pno, q_pat, q_lrg, q_meth, q_fld, q_rng1, Option.bind_some, Option.map_some, ofS_some, if_true, if_false, Bool.false_eq_true, decide_true, decide_false, ix0, ix1, ix2, wipe_nil, wipe_cons, q_yes, q_rng2]
    exact hQ _ (s1.trans s2)
theorem w_content (hx : Sq S x l) (ll : l.length ≤ 1000) (hQ : ∀ S', Sub S S' → Q (.int (GC l)) S') : WP (f_content_of [x] S) Q := by
  unfold f_content_of
  rw [mkFn_wp]
  unfold b_content_of n_content_of
  obtain ⟨J, eJ, hJ⟩ := hx.seq
  simp only [List.map_cons, List.map_nil, List.length_cons, List.length_nil, List.cons_append, List.nil_append, List.replicate, List.getElem?_cons_zero, List.getElem?_cons_succ, List.set_cons_succ, List.set_cons_zero, WP_bind, WP_ok, WP_cut, q_var, q_c, q_bin, q_un, q_ofO, q_chain, q_tst, q_tstB, q_and2, q_or2, q_not1, q_andV, q_orV, q_notV, q_if, q_nil, q_cons, q_tup, q_lst, q_next, q_seq, q_expr, q_ret, q_retN, q_brk, q_cnt, q_sif, q_gnm, q_gtup, q_gcons, q_gnil, q_asg, q_call, q_callB, q_seqi, q_for, q_while, o_add, o_addI, o_sub, o_lt, o_le, o_gt, o_ge, o_neg, o_ixR, o_ixT, o_ixF, itemsT, itemsF, seqT, seqF, q_b1, q_b2, f_intI, f_intB, f_abs, f_max, f_min, f_lenT, f_lenF, f_list, f_tuple, q_gsb, ofB_bl, q_sl, q_pno, q_pat, q_lrg, q_meth, q_fld, q_rng1, Option.bind_some, Option.map_some, ofS_some, if_true, if_false, Bool.false_eq_true, decide_true, decide_false, ix0, ix1, ix2, wipe_nil, wipe_cons, q_yes, q_rng2, eJ]
  refine wp_for l.length (fun k env S' => ∃ a2, env = [some x, some (.int ((l.take k).foldl gI 0)), a2] ∧ Sub S S') (by omega)
    ⟨none, rfl, Sub.refl _⟩ (fun k env S2 hk ⟨a2, he, s2⟩ => ?_) fun env S2 ⟨a2, he, s2⟩ => ?_
  · refine ⟨.int l[k], by rw [hJ _ _ s2, iL_at hk], ?_⟩
    rw [he]
    simp only [List.map_cons, List.map_nil, List.length_cons, List.length_nil, List.cons_append, List.nil_append, List.replicate, List.getElem?_cons_zero, List.getElem?_cons_succ, List.set_cons_succ, List.set_cons_zero, WP_bind, WP_ok, WP_cut, q_var, q_c, q_bin, q_un, q_ofO, q_chain, q_tst, q_tstB, q_and2, q_or2, q_not1, q_andV, q_orV, q_notV, q_if, q_nil, q_cons, q_tup, q_lst, q_next, q_seq, q_expr, q_ret, q_retN, q_brk, q_cnt, q_sif, q_gnm, q_gtup, q_gcons, q_gnil, q_asg, q_call, q_callB, q_seqi, q_for, q_while, o_add, o_addI, o_sub, o_lt, o_le, o_gt, o_ge, o_neg, o_ixR, o_ixT, o_ixF, itemsT, itemsF, seqT, seqF, q_b1, q_b2, f_intI, f_intB, f_abs, f_max, f_min, f_lenT, f_lenF, f_list, f_tuple, q_gsb, ofB_bl, q_sl, q_pno, q_pat, q_lrg, q_meth, q_fld, q_rng1, Option.bind_some, Option.map_some, ofS_some, if_true, if_false, Bool.false_eq_true, decide_true, decide_false, ix0, ix1, ix2, wipe_nil, wipe_cons, q_yes, q_rng2, fGcd]
    exact ⟨_, by rw [foldl_take hk]; rfl, s2⟩
  · refine ⟨by rw [hJ _ _ s2, List.getElem?_eq_none (by rw [iL_len]; exact Nat.le_refl _)], ?_⟩
    rw [he, List.take_length]
    simp only [List.map_cons, List.map_nil, List.length_cons, List.length_nil, List.cons_append, List.nil_append, List.replicate, List.getElem?_cons_zero, List.getElem?_cons_succ, List.set_cons_succ, List.set_cons_zero, WP_bind, WP_ok, WP_cut, q_var, q_c, q_bin, q_un, q_ofO, q_chain, q_tst, q_tstB, q_and2, q_or2, q_not1, q_andV, q_orV, q_notV, q_if, q_nil, q_cons, q_tup, q_lst, q_next, q_seq, q_expr, q_ret, q_retN, q_brk, q_cnt, q_sif, q_gnm, q_gtup, q_gcons, q_gnil, q_asg, q_call, q_callB, q_seqi, q_for, q_while, o_add, o_addI, o_sub, o_lt, o_le, o_gt, o_ge, o_neg, o_ixR, o_ixT, o_ixF, itemsT, itemsF, seqT, seqF, q_b1, q_b2, f_intI, f_intB, f_abs, f_max, f_min, f_lenT, f_lenF, f_list, f_tuple, q_gsb, ofB_bl, q_sl, q_pno, q_pat, q_lrg, q_meth, q_fld, q_rng1, Option.bind_some, Option.map_some, ofS_some, if_true, if_false, Bool.false_eq_true, decide_true, decide_false, ix0, ix1, ix2, wipe_nil, wipe_cons, q_yes, q_rng2]
    exact hQ _ s2
end
end Zk16

set_option exponentiation.threshold 3000
namespace Z
end Z
namespace Zk16
open PySem PySem.Spec Z
/-- a polynomial's object -/
def PO (S : Store) (p : Nat) (l : List Int) : Prop := S[p]? = some (.slt 1 [some (.tup (iL l)), some (.int (GC l))])
section
variable {S S' : Store} {x y : D} {p q r k m : Nat} {l a b : List Int} {Q : D → Store → Prop} {f : Int}
theorem PO.sub (h : PO S p l) (s : Sub S S') : PO S' p l := s _ _ h
theorem PO.isC (h : PO S p l) : isC 1 (.ref p) S = true := isC1 h
theorem PO.f0 (h : PO S p l) : getF [(1, 0)] (.ref p) S = some (.tup (iL l)) := getF1 h rfl
theorem PO.f1 (h : PO S p l) : getF [(1, 1)] (.ref p) S = some (.int (GC l)) := getF1 h rfl
theorem PO.slC (h : PO S p l) : slC (.ref p) S = some 1 := by
  have h' : S[p]? = some (.slt 1 [some (.tup (iL l)), some (.int (GC l))]) := h
  simp [Z.slC, h']
/-- what a value is told as -/
def Tl (S : Store) (x : D) (m : List Int) : Prop := ∀ Q' : D → Store → Prop, (∀ r S', Sub S S' → S'[r]? = some (.lst (iL m)) → Q' (.ref r) S') → WP (f_numbers_told [x] S) Q'
theorem tl_tup (hl : l.length ≤ 101) (hb : ∀ x ∈ l, Sm x) : Tl S (.tup (iL l)) (tr l) := fun Q' hq => by
  unfold f_numbers_told
  rw [mkFn_wp]
  unfold b_numbers_told n_numbers_told
  have hi : bIsiC 0 [0, 1] [.tup (iL l), .st 0] S = some (.bl false, S) := by simp [bIsiC, Z.slC, tyD]
  have d1 : decide ((100 : Int) + 1 < ((iL l).length : Int)) = false := decide_eq_false (by rw [iL_len]; omega)
  simp only [List.map_cons, List.map_nil, List.length_cons, List.length_nil, List.cons_append, List.nil_append, List.replicate, List.getElem?_cons_zero, List.getElem?_cons_succ, List.set_cons_succ, List.set_cons_zero, WP_bind, WP_ok, WP_cut, q_var, q_c, q_bin, q_un, q_ofO, q_chain, q_tst, q_tstB, q_and2, q_or2, q_not1, q_andV, q_orV, q_notV, q_if, q_nil, q_cons, q_tup, q_lst, q_next, q_seq, q_expr, q_ret, q_retN, q_brk, q_cnt, q_sif, q_gnm, q_gtup, q_gcons, q_gnil, q_asg, q_call, q_callB, q_seqi, q_for, q_while, o_add, o_addI, o_sub, o_lt, o_le, o_gt, o_ge, o_neg, o_ixR, o_ixT, o_ixF, itemsT, itemsF, seqT, seqF, q_b1, q_b2, f_intI, f_intB, f_abs, f_max, f_min, f_lenT, f_lenF, f_list, f_tuple, q_gsb, ofB_bl, q_sl, q_pno, q_pat, q_lrg, q_meth, q_fld, q_rng1, Option.bind_some, Option.map_some, ofS_some, if_true, if_false, Bool.false_eq_true, decide_true, decide_false, ix0, ix1, ix2, wipe_nil, wipe_cons, q_yes, q_rng2, hi, isi_tt, Bool.not_true, d1]
  refine wp_fm l D.int (fun _ => true) (fun _ => .bl true) (by omega) ?_ (fun a S1 hm s1 => ?_) fun r S1 s1 h1 => ?_
  · simp only [List.map_cons, List.map_nil, List.length_cons, List.length_nil, List.cons_append, List.nil_append, List.replicate, List.getElem?_cons_zero, List.getElem?_cons_succ, List.set_cons_succ, List.set_cons_zero, WP_bind, WP_ok, WP_cut, q_var, q_c, q_bin, q_un, q_ofO, q_chain, q_tst, q_tstB, q_and2, q_or2, q_not1, q_andV, q_orV, q_notV, q_if, q_nil, q_cons, q_tup, q_lst, q_next, q_seq, q_expr, q_ret, q_retN, q_brk, q_cnt, q_sif, q_gnm, q_gtup, q_gcons, q_gnil, q_asg, q_call, q_callB, q_seqi, q_for, q_while, o_add, o_addI, o_sub, o_lt, o_le, o_gt, o_ge, o_neg, o_ixR, o_ixT, o_ixF, itemsT, itemsF, seqT, seqF, q_b1, q_b2, f_intI, f_intB, f_abs, f_max, f_min, f_lenT, f_lenF, f_list, f_tuple, q_gsb, ofB_bl, q_sl, q_pno, q_pat, q_lrg, q_meth, q_fld, q_rng1, Option.bind_some, Option.map_some, ofS_some, if_true, if_false, Bool.false_eq_true, decide_true, decide_false, ix0, ix1, ix2, wipe_nil, wipe_cons, q_yes, q_rng2]
    exact ⟨Sub.refl _, fun k S2 _ _ => rfl⟩
  · simp only [List.map_cons, List.map_nil, List.length_cons, List.length_nil, List.cons_append, List.nil_append, List.replicate, List.getElem?_cons_zero, List.getElem?_cons_succ, List.set_cons_succ, List.set_cons_zero, WP_bind, WP_ok, WP_cut, q_var, q_c, q_bin, q_un, q_ofO, q_chain, q_tst, q_tstB, q_and2, q_or2, q_not1, q_andV, q_orV, q_notV, q_if, q_nil, q_cons, q_tup, q_lst, q_next, q_seq, q_expr, q_ret, q_retN, q_brk, q_cnt, q_sif, q_gnm, q_gtup, q_gcons, q_gnil, q_asg, q_call, q_callB, q_seqi, q_for, q_while, o_add, o_addI, o_sub, o_lt, o_le, o_gt, o_ge, o_neg, o_ixR, o_ixT, o_ixF, itemsT, itemsF, seqT, seqF, q_b1, q_b2, f_intI, f_intB, f_abs, f_max, f_min, f_lenT, f_lenF, f_list, f_tuple, q_gsb, ofB_bl, q_sl, q_pno, q_pat, q_lrg, q_meth, q_fld, q_rng1, Option.bind_some, Option.map_some, ofS_some, if_true, if_false, Bool.false_eq_true, decide_true, decide_false, ix0, ix1, ix2, wipe_nil, wipe_cons, q_yes, q_rng2]
    refine ⟨trivial, Sub.refl _, fun _ => ?_⟩
    refine w_integer (hb a hm) ⟨rfl, Sub.refl _⟩
  · have ha := all_true h1 (fun d hd => by
      obtain ⟨z, _, rfl⟩ := List.mem_map.mp hd
      rfl)
    simp only [List.map_cons, List.map_nil, List.length_cons, List.length_nil, List.cons_append, List.nil_append, List.replicate, List.getElem?_cons_zero, List.getElem?_cons_succ, List.set_cons_succ, List.set_cons_zero, WP_bind, WP_ok, WP_cut, q_var, q_c, q_bin, q_un, q_ofO, q_chain, q_tst, q_tstB, q_and2, q_or2, q_not1, q_andV, q_orV, q_notV, q_if, q_nil, q_cons, q_tup, q_lst, q_next, q_seq, q_expr, q_ret, q_retN, q_brk, q_cnt, q_sif, q_gnm, q_gtup, q_gcons, q_gnil, q_asg, q_call, q_callB, q_seqi, q_for, q_while, o_add, o_addI, o_sub, o_lt, o_le, o_gt, o_ge, o_neg, o_ixR, o_ixT, o_ixF, itemsT, itemsF, seqT, seqF, q_b1, q_b2, f_intI, f_intB, f_abs, f_max, f_min, f_lenT, f_lenF, f_list, f_tuple, q_gsb, ofB_bl, q_sl, q_pno, q_pat, q_lrg, q_meth, q_fld, q_rng1, Option.bind_some, Option.map_some, ofS_some, if_true, if_false, Bool.false_eq_true, decide_true, decide_false, ix0, ix1, ix2, wipe_nil, wipe_cons, q_yes, q_rng2, ha, Bool.not_true]
    refine w_trimmed (l := l) .tup (by omega) fun r2 S2 s2 h2 => ?_
    simp only [List.map_cons, List.map_nil, List.length_cons, List.length_nil, List.cons_append, List.nil_append, List.replicate, List.getElem?_cons_zero, List.getElem?_cons_succ, List.set_cons_succ, List.set_cons_zero, WP_bind, WP_ok, WP_cut, q_var, q_c, q_bin, q_un, q_ofO, q_chain, q_tst, q_tstB, q_and2, q_or2, q_not1, q_andV, q_orV, q_notV, q_if, q_nil, q_cons, q_tup, q_lst, q_next, q_seq, q_expr, q_ret, q_retN, q_brk, q_cnt, q_sif, q_gnm, q_gtup, q_gcons, q_gnil, q_asg, q_call, q_callB, q_seqi, q_for, q_while, o_add, o_addI, o_sub, o_lt, o_le, o_gt, o_ge, o_neg, o_ixR, o_ixT, o_ixF, itemsT, itemsF, seqT, seqF, q_b1, q_b2, f_intI, f_intB, f_abs, f_max, f_min, f_lenT, f_lenF, f_list, f_tuple, q_gsb, ofB_bl, q_sl, q_pno, q_pat, q_lrg, q_meth, q_fld, q_rng1, Option.bind_some, Option.map_some, ofS_some, if_true, if_false, Bool.false_eq_true, decide_true, decide_false, ix0, ix1, ix2, wipe_nil, wipe_cons, q_yes, q_rng2]
    exact hq _ _ (s1.trans s2) h2
theorem tl_kept (h : S[k]? = some (.slt 0 [some (.ref r)])) (h2 : S[r]? = some (.lst (iL l))) : Tl S (.ref k) l := fun Q' hq => by
  unfold f_numbers_told
  rw [mkFn_wp]
  unfold b_numbers_told n_numbers_told
  have hi : bIsiC 0 [0, 1] [.ref k, .st 0] S = some (.bl true, S) := by simp [bIsiC, Z.slC, h]
  simp only [List.map_cons, List.map_nil, List.length_cons, List.length_nil, List.cons_append, List.nil_append, List.replicate, List.getElem?_cons_zero, List.getElem?_cons_succ, List.set_cons_succ, List.set_cons_zero, WP_bind, WP_ok, WP_cut, q_var, q_c, q_bin, q_un, q_ofO, q_chain, q_tst, q_tstB, q_and2, q_or2, q_not1, q_andV, q_orV, q_notV, q_if, q_nil, q_cons, q_tup, q_lst, q_next, q_seq, q_expr, q_ret, q_retN, q_brk, q_cnt, q_sif, q_gnm, q_gtup, q_gcons, q_gnil, q_asg, q_call, q_callB, q_seqi, q_for, q_while, o_add, o_addI, o_sub, o_lt, o_le, o_gt, o_ge, o_neg, o_ixR, o_ixT, o_ixF, itemsT, itemsF, seqT, seqF, q_b1, q_b2, f_intI, f_intB, f_abs, f_max, f_min, f_lenT, f_lenF, f_list, f_tuple, q_gsb, ofB_bl, q_sl, q_pno, q_pat, q_lrg, q_meth, q_fld, q_rng1, Option.bind_some, Option.map_some, ofS_some, if_true, if_false, Bool.false_eq_true, decide_true, decide_false, ix0, ix1, ix2, wipe_nil, wipe_cons, q_yes, q_rng2, hi, getF1 (j := 0) h rfl]
  exact hq _ _ (Sub.refl _) h2
theorem w_pinit (hp : S[p]? = some (.slt 1 [])) (hl : l.length ≤ 1000) (ht : Tl S x l) (hQ : ∀ S', Kp p S S' → PO S' p l → S.length ≤ S'.length → Q .non S') : WP (f_Poly___init__ [.ref p, x] S) Q := by
  have lt := (List.getElem?_eq_some_iff.mp hp).1
  unfold f_Poly___init__
  rw [mkFn_wp]
  unfold b_Poly___init__ n_Poly___init__
  simp only [List.map_cons, List.map_nil, List.length_cons, List.length_nil, List.cons_append, List.nil_append, List.replicate, List.getElem?_cons_zero, List.getElem?_cons_succ, List.set_cons_succ, List.set_cons_zero, WP_bind, WP_ok, WP_cut, q_var, q_c, q_bin, q_un, q_ofO, q_chain, q_tst, q_tstB, q_and2, q_or2, q_not1, q_andV, q_orV, q_notV, q_if, q_nil, q_cons, q_tup, q_lst, q_next, q_seq, q_expr, q_ret, q_retN, q_brk, q_cnt, q_sif, q_gnm, q_gtup, q_gcons, q_gnil, q_asg, q_call, q_callB, q_seqi, q_for, q_while, o_add, o_addI, o_sub, o_lt, o_le, o_gt, o_ge, o_neg, o_ixR, o_ixT, o_ixF, itemsT, itemsF, seqT, seqF, q_b1, q_b2, f_intI, f_intB, f_abs, f_max, f_min, f_lenT, f_lenF, f_list, f_tuple, q_gsb, ofB_bl, q_sl, q_pno, q_pat, q_lrg, q_meth, q_fld, q_rng1, Option.bind_some, Option.map_some, ofS_some, if_true, if_false, Bool.false_eq_true, decide_true, decide_false, ix0, ix1, ix2, wipe_nil, wipe_cons, q_yes, q_rng2, q_sfld]
  refine ht _ fun r S1 s1 h1 => ?_
  have p1 := s1 _ _ hp
  simp only [List.map_cons, List.map_nil, List.length_cons, List.length_nil, List.cons_append, List.nil_append, List.replicate, List.getElem?_cons_zero, List.getElem?_cons_succ, List.set_cons_succ, List.set_cons_zero, WP_bind, WP_ok, WP_cut, q_var, q_c, q_bin, q_un, q_ofO, q_chain, q_tst, q_tstB, q_and2, q_or2, q_not1, q_andV, q_orV, q_notV, q_if, q_nil, q_cons, q_tup, q_lst, q_next, q_seq, q_expr, q_ret, q_retN, q_brk, q_cnt, q_sif, q_gnm, q_gtup, q_gcons, q_gnil, q_asg, q_call, q_callB, q_seqi, q_for, q_while, o_add, o_addI, o_sub, o_lt, o_le, o_gt, o_ge, o_neg, o_ixR, o_ixT, o_ixF, itemsT, itemsF, seqT, seqF, q_b1, q_b2, f_intI, f_intB, f_abs, f_max, f_min, f_lenT, f_lenF, f_list, f_tuple, q_gsb, ofB_bl, q_sl, q_pno, q_pat, q_lrg, q_meth, q_fld, q_rng1, Option.bind_some, Option.map_some, ofS_some, if_true, if_false, Bool.false_eq_true, decide_true, decide_false, ix0, ix1, ix2, wipe_nil, wipe_cons, q_yes, q_rng2, itemsR h1, setF1 p1]
  have p2 := set_at (u := O.slt 1 (putD 0 (.tup (iL l)) [])) p1
  have k2 : Kp p S (S1.set p (O.slt 1 (putD 0 (.tup (iL l)) []))) := s1.kp.trans Kp.set
  have l2 : S.length ≤ (S1.set p (O.slt 1 (putD 0 (.tup (iL l)) []))).length := by
    rw [List.length_set]
    by_cases h0 : S.length = p + 1
    · have := (List.getElem?_eq_some_iff.mp p1).1
      omega
    · have hl : S.length - 1 < S.length := by omega
      have := s1 _ _ (List.getElem?_eq_getElem hl)
      have := (List.getElem?_eq_some_iff.mp this).1
      omega
  generalize (S1.set p (O.slt 1 (putD 0 (.tup (iL l)) []))) = S2 at p2 k2 l2
  simp only [getF1 (j := 0) p2 rfl, List.map_cons, List.map_nil, List.length_cons, List.length_nil, List.cons_append, List.nil_append, List.replicate, List.getElem?_cons_zero, List.getElem?_cons_succ, List.set_cons_succ, List.set_cons_zero, WP_bind, WP_ok, WP_cut, q_var, q_c, q_bin, q_un, q_ofO, q_chain, q_tst, q_tstB, q_and2, q_or2, q_not1, q_andV, q_orV, q_notV, q_if, q_nil, q_cons, q_tup, q_lst, q_next, q_seq, q_expr, q_ret, q_retN, q_brk, q_cnt, q_sif, q_gnm, q_gtup, q_gcons, q_gnil, q_asg, q_call, q_callB, q_seqi, q_for, q_while, o_add, o_addI, o_sub, o_lt, o_le, o_gt, o_ge, o_neg, o_ixR, o_ixT, o_ixF, itemsT, itemsF, seqT, seqF, q_b1, q_b2, f_intI, f_intB, f_abs, f_max, f_min, f_lenT, f_lenF, f_list, f_tuple, q_gsb, ofB_bl, q_sl, q_pno, q_pat, q_lrg, q_meth, q_fld, q_rng1, Option.bind_some, Option.map_some, ofS_some, if_true, if_false, Bool.false_eq_true, decide_true, decide_false, ix0, ix1, ix2, wipe_nil, wipe_cons, q_yes, q_rng2]
  refine w_content (l := l) .tup hl fun S3 s3 => ?_
  have p3 := s3 _ _ p2
  simp only [List.map_cons, List.map_nil, List.length_cons, List.length_nil, List.cons_append, List.nil_append, List.replicate, List.getElem?_cons_zero, List.getElem?_cons_succ, List.set_cons_succ, List.set_cons_zero, WP_bind, WP_ok, WP_cut, q_var, q_c, q_bin, q_un, q_ofO, q_chain, q_tst, q_tstB, q_and2, q_or2, q_not1, q_andV, q_orV, q_notV, q_if, q_nil, q_cons, q_tup, q_lst, q_next, q_seq, q_expr, q_ret, q_retN, q_brk, q_cnt, q_sif, q_gnm, q_gtup, q_gcons, q_gnil, q_asg, q_call, q_callB, q_seqi, q_for, q_while, o_add, o_addI, o_sub, o_lt, o_le, o_gt, o_ge, o_neg, o_ixR, o_ixT, o_ixF, itemsT, itemsF, seqT, seqF, q_b1, q_b2, f_intI, f_intB, f_abs, f_max, f_min, f_lenT, f_lenF, f_list, f_tuple, q_gsb, ofB_bl, q_sl, q_pno, q_pat, q_lrg, q_meth, q_fld, q_rng1, Option.bind_some, Option.map_some, ofS_some, if_true, if_false, Bool.false_eq_true, decide_true, decide_false, ix0, ix1, ix2, wipe_nil, wipe_cons, q_yes, q_rng2, setF1 p3]
  refine hQ _ ((k2.trans s3.kp).trans Kp.set) (by unfold PO; rw [set_at p3]; rfl) ?_
  rw [List.length_set]
  by_cases h0 : S2.length = 0
  · omega
  · have hl : S2.length - 1 < S2.length := by omega
    have := s3 _ _ (List.getElem?_eq_getElem hl)
    have := (List.getElem?_eq_some_iff.mp this).1
    omega
/-- Poly(x) as an expression -/
theorem w_mkP {env : En} {r : DA} (hr : WP (r env S) fun xs S1 => ∃ x, xs = [x] ∧ Sub S S1 ∧ ∀ S2, Sub S1 S2 → Tl S2 x l) (hl : l.length ≤ 1000) (hQ : ∀ q S', Sub S S' → PO S' q l → Q (.ref q) S') : WP (dMk 1 f_Poly___init__ r env S) Q := by
  rw [q_mk, WP_bind]
  refine WP_mono hr fun xs S1 ⟨x, e, s1, ht⟩ => ?_
  rw [e, WP_bind]
  refine w_pinit push_at hl (ht _ (Sub.push _ _)) fun S2 k2 o2 l2 => ?_
  refine WP_ok.mpr (hQ _ _ ?_ o2)
  intro j o h
  have h1 := s1 _ _ h
  have hj := (List.getElem?_eq_some_iff.mp h1).1
  exact k2.at_ (by omega) (Sub.push _ _ _ _ h1)
theorem w_polyof (h : S[r]? = some (.lst (iL l))) (hl : l.length ≤ 1000) (hQ : ∀ q S', Sub S S' → PO S' q l → Q (.ref q) S') : WP (f_poly_of [.ref r] S) Q := by
  unfold f_poly_of
  rw [mkFn_wp]
  unfold b_poly_of n_poly_of
  simp only [List.map_cons, List.map_nil, List.length_cons, List.length_nil, List.cons_append, List.nil_append, List.replicate, List.getElem?_cons_zero, List.getElem?_cons_succ, List.set_cons_succ, List.set_cons_zero, WP_bind, WP_ok, WP_cut, q_var, q_c, q_bin, q_un, q_ofO, q_chain, q_tst, q_tstB, q_and2, q_or2, q_not1, q_andV, q_orV, q_notV, q_if, q_nil, q_cons, q_tup, q_lst, q_next, q_seq, q_expr, q_ret, q_retN, q_brk, q_cnt, q_sif, q_gnm, q_gtup, q_gcons, q_gnil, q_asg, q_call, q_callB, q_seqi, q_for, q_while, o_add, o_addI, o_sub, o_lt, o_le, o_gt, o_ge, o_neg, o_ixR, o_ixT, o_ixF, itemsT, itemsF, seqT, seqF, q_b1, q_b2, f_intI, f_intB, f_abs, f_max, f_min, f_lenT, f_lenF, f_list, f_tuple, q_gsb, ofB_bl, q_sl, q_pno, q_pat, q_lrg, q_meth, q_fld, q_rng1, Option.bind_some, Option.map_some, ofS_some, if_true, if_false, Bool.false_eq_true, decide_true, decide_false, ix0, ix1, ix2, wipe_nil, wipe_cons, q_yes, q_rng2]
  refine w_mkP (l := l) ?_ hl fun q S' s' o' => ?_
  · simp only [List.map_cons, List.map_nil, List.length_cons, List.length_nil, List.cons_append, List.nil_append, List.replicate, List.getElem?_cons_zero, List.getElem?_cons_succ, List.set_cons_succ, List.set_cons_zero, WP_bind, WP_ok, WP_cut, q_var, q_c, q_bin, q_un, q_ofO, q_chain, q_tst, q_tstB, q_and2, q_or2, q_not1, q_andV, q_orV, q_notV, q_if, q_nil, q_cons, q_tup, q_lst, q_next, q_seq, q_expr, q_ret, q_retN, q_brk, q_cnt, q_sif, q_gnm, q_gtup, q_gcons, q_gnil, q_asg, q_call, q_callB, q_seqi, q_for, q_while, o_add, o_addI, o_sub, o_lt, o_le, o_gt, o_ge, o_neg, o_ixR, o_ixT, o_ixF, itemsT, itemsF, seqT, seqF, q_b1, q_b2, f_intI, f_intB, f_abs, f_max, f_min, f_lenT, f_lenF, f_list, f_tuple, q_gsb, ofB_bl, q_sl, q_pno, q_pat, q_lrg, q_meth, q_fld, q_rng1, Option.bind_some, Option.map_some, ofS_some, if_true, if_false, Bool.false_eq_true, decide_true, decide_false, ix0, ix1, ix2, wipe_nil, wipe_cons, q_yes, q_rng2, q_mk]
    have w : WP (f_Kept___init__ [.ref S.length, .ref r] (S ++ [.slt 0 []])) fun v S2 => v = .non ∧ S2 = (S ++ [O.slt 0 []]).set S.length (O.slt 0 [some (.ref r)]) := by
      unfold f_Kept___init__
      rw [mkFn_wp]
      unfold b_Kept___init__ n_Kept___init__
      have g : (S ++ [O.slt 0 []])[S.length]? = some (.slt 0 []) := push_at
      simp only [List.map_cons, List.map_nil, List.length_cons, List.length_nil, List.cons_append, List.nil_append, List.replicate, List.getElem?_cons_zero, List.getElem?_cons_succ, List.set_cons_succ, List.set_cons_zero, WP_bind, WP_ok, WP_cut, q_var, q_c, q_bin, q_un, q_ofO, q_chain, q_tst, q_tstB, q_and2, q_or2, q_not1, q_andV, q_orV, q_notV, q_if, q_nil, q_cons, q_tup, q_lst, q_next, q_seq, q_expr, q_ret, q_retN, q_brk, q_cnt, q_sif, q_gnm, q_gtup, q_gcons, q_gnil, q_asg, q_call, q_callB, q_seqi, q_for, q_while, o_add, o_addI, o_sub, o_lt, o_le, o_gt, o_ge, o_neg, o_ixR, o_ixT, o_ixF, itemsT, itemsF, seqT, seqF, q_b1, q_b2, f_intI, f_intB, f_abs, f_max, f_min, f_lenT, f_lenF, f_list, f_tuple, q_gsb, ofB_bl, q_sl, q_pno, q_pat, q_lrg, q_meth, q_fld, q_rng1, Option.bind_some, Option.map_some, ofS_some, if_true, if_false, Bool.false_eq_true, decide_true, decide_false, ix0, ix1, ix2, wipe_nil, wipe_cons, q_yes, q_rng2, q_sfld, setF1 g]
      exact ⟨trivial, rfl⟩
    refine WP_mono w fun v S2 ⟨ev, e2⟩ => ?_
    subst ev e2
    simp only [List.map_cons, List.map_nil, List.length_cons, List.length_nil, List.cons_append, List.nil_append, List.replicate, List.getElem?_cons_zero, List.getElem?_cons_succ, List.set_cons_succ, List.set_cons_zero, WP_bind, WP_ok, WP_cut, q_var, q_c, q_bin, q_un, q_ofO, q_chain, q_tst, q_tstB, q_and2, q_or2, q_not1, q_andV, q_orV, q_notV, q_if, q_nil, q_cons, q_tup, q_lst, q_next, q_seq, q_expr, q_ret, q_retN, q_brk, q_cnt, q_sif, q_gnm, q_gtup, q_gcons, q_gnil, q_asg, q_call, q_callB, q_seqi, q_for, q_while, o_add, o_addI, o_sub, o_lt, o_le, o_gt, o_ge, o_neg, o_ixR, o_ixT, o_ixF, itemsT, itemsF, seqT, seqF, q_b1, q_b2, f_intI, f_intB, f_abs, f_max, f_min, f_lenT, f_lenF, f_list, f_tuple, q_gsb, ofB_bl, q_sl, q_pno, q_pat, q_lrg, q_meth, q_fld, q_rng1, Option.bind_some, Option.map_some, ofS_some, if_true, if_false, Bool.false_eq_true, decide_true, decide_false, ix0, ix1, ix2, wipe_nil, wipe_cons, q_yes, q_rng2]
    have g : (S ++ [O.slt 0 []])[S.length]? = some (.slt 0 []) := push_at
    have s1 : Sub S ((S ++ [O.slt 0 []]).set S.length (O.slt 0 [some (.ref r)])) := sub_set (Sub.push _ _) (Nat.le_refl _)
    exact ⟨_, rfl, s1, fun S2 s2 => tl_kept (s2 _ _ (set_at g)) (s2 _ _ (s1 _ _ h))⟩
  · simp only [List.map_cons, List.map_nil, List.length_cons, List.length_nil, List.cons_append, List.nil_append, List.replicate, List.getElem?_cons_zero, List.getElem?_cons_succ, List.set_cons_succ, List.set_cons_zero, WP_bind, WP_ok, WP_cut, q_var, q_c, q_bin, q_un, q_ofO, q_chain, q_tst, q_tstB, q_and2, q_or2, q_not1, q_andV, q_orV, q_notV, q_if, q_nil, q_cons, q_tup, q_lst, q_next, q_seq, q_expr, q_ret, q_retN, q_brk, q_cnt, q_sif, q_gnm, q_gtup, q_gcons, q_gnil, q_asg, q_call, q_callB, q_seqi, q_for, q_while, o_add, o_addI, o_sub, o_lt, o_le, o_gt, o_ge, o_neg, o_ixR, o_ixT, o_ixF, itemsT, itemsF, seqT, seqF, q_b1, q_b2, f_intI, f_intB, f_abs, f_max, f_min, f_lenT, f_lenF, f_list, f_tuple, q_gsb, ofB_bl, q_sl, q_pno, q_pat, q_lrg, q_meth, q_fld, q_rng1, Option.bind_some, Option.map_some, ofS_some, if_true, if_false, Bool.false_eq_true, decide_true, decide_false, ix0, ix1, ix2, wipe_nil, wipe_cons, q_yes, q_rng2]
    exact hQ _ _ s' o'
/-- what is told as a polynomial -/
def Pt (S : Store) (x : D) (l : List Int) : Prop := (∃ q, x = .ref q ∧ PO S q l) ∨ ∃ i : Int, x = .int i ∧ Sm i ∧ l = tr [i]
theorem Pt.sub (h : Pt S x l) (s : Sub S S') : Pt S' x l := h.elim (fun ⟨q, e, o⟩ => .inl ⟨q, e, o.sub s⟩) .inr
theorem w_ptold (h : Pt S x l) (hQ : ∀ r S', Sub S S' → S'[r]? = some (.lst (iL l)) → Q (.ref r) S') : WP (f_poly_told [x] S) Q := by
  unfold f_poly_told
  rw [mkFn_wp]
  unfold b_poly_told n_poly_told
  rcases h with ⟨q, rfl, o⟩ | ⟨i, rfl, hi, rfl⟩
  · have hi : bIsiC 1 [0, 1] [.ref q, .st 1] S = some (.bl true, S) := by simp [bIsiC, o.slC]
    simp only [List.map_cons, List.map_nil, List.length_cons, List.length_nil, List.cons_append, List.nil_append, List.replicate, List.getElem?_cons_zero, List.getElem?_cons_succ, List.set_cons_succ, List.set_cons_zero, WP_bind, WP_ok, WP_cut, q_var, q_c, q_bin, q_un, q_ofO, q_chain, q_tst, q_tstB, q_and2, q_or2, q_not1, q_andV, q_orV, q_notV, q_if, q_nil, q_cons, q_tup, q_lst, q_next, q_seq, q_expr, q_ret, q_retN, q_brk, q_cnt, q_sif, q_gnm, q_gtup, q_gcons, q_gnil, q_asg, q_call, q_callB, q_seqi, q_for, q_while, o_add, o_addI, o_sub, o_lt, o_le, o_gt, o_ge, o_neg, o_ixR, o_ixT, o_ixF, itemsT, itemsF, seqT, seqF, q_b1, q_b2, f_intI, f_intB, f_abs, f_max, f_min, f_lenT, f_lenF, f_list, f_tuple, q_gsb, ofB_bl, q_sl, q_pno, q_pat, q_lrg, q_meth, q_fld, q_rng1, Option.bind_some, Option.map_some, ofS_some, if_true, if_false, Bool.false_eq_true, decide_true, decide_false, ix0, ix1, ix2, wipe_nil, wipe_cons, q_yes, q_rng2, hi, o.f0]
    exact hQ _ _ (Sub.push _ _) push_at
  · have hb : bIsiC 1 [0, 1] [.int i, .st 1] S = some (.bl false, S) := by simp [bIsiC, Z.slC, tyD]
    simp only [List.map_cons, List.map_nil, List.length_cons, List.length_nil, List.cons_append, List.nil_append, List.replicate, List.getElem?_cons_zero, List.getElem?_cons_succ, List.set_cons_succ, List.set_cons_zero, WP_bind, WP_ok, WP_cut, q_var, q_c, q_bin, q_un, q_ofO, q_chain, q_tst, q_tstB, q_and2, q_or2, q_not1, q_andV, q_orV, q_notV, q_if, q_nil, q_cons, q_tup, q_lst, q_next, q_seq, q_expr, q_ret, q_retN, q_brk, q_cnt, q_sif, q_gnm, q_gtup, q_gcons, q_gnil, q_asg, q_call, q_callB, q_seqi, q_for, q_while, o_add, o_addI, o_sub, o_lt, o_le, o_gt, o_ge, o_neg, o_ixR, o_ixT, o_ixF, itemsT, itemsF, seqT, seqF, q_b1, q_b2, f_intI, f_intB, f_abs, f_max, f_min, f_lenT, f_lenF, f_list, f_tuple, q_gsb, ofB_bl, q_sl, q_pno, q_pat, q_lrg, q_meth, q_fld, q_rng1, Option.bind_some, Option.map_some, ofS_some, if_true, if_false, Bool.false_eq_true, decide_true, decide_false, ix0, ix1, ix2, wipe_nil, wipe_cons, q_yes, q_rng2, hb]
    refine w_integer hi ?_
    simp only [List.map_cons, List.map_nil, List.length_cons, List.length_nil, List.cons_append, List.nil_append, List.replicate, List.getElem?_cons_zero, List.getElem?_cons_succ, List.set_cons_succ, List.set_cons_zero, WP_bind, WP_ok, WP_cut, q_var, q_c, q_bin, q_un, q_ofO, q_chain, q_tst, q_tstB, q_and2, q_or2, q_not1, q_andV, q_orV, q_notV, q_if, q_nil, q_cons, q_tup, q_lst, q_next, q_seq, q_expr, q_ret, q_retN, q_brk, q_cnt, q_sif, q_gnm, q_gtup, q_gcons, q_gnil, q_asg, q_call, q_callB, q_seqi, q_for, q_while, o_add, o_addI, o_sub, o_lt, o_le, o_gt, o_ge, o_neg, o_ixR, o_ixT, o_ixF, itemsT, itemsF, seqT, seqF, q_b1, q_b2, f_intI, f_intB, f_abs, f_max, f_min, f_lenT, f_lenF, f_list, f_tuple, q_gsb, ofB_bl, q_sl, q_pno, q_pat, q_lrg, q_meth, q_fld, q_rng1, Option.bind_some, Option.map_some, ofS_some, if_true, if_false, Bool.false_eq_true, decide_true, decide_false, ix0, ix1, ix2, wipe_nil, wipe_cons, q_yes, q_rng2, Bool.not_true, mkL, z1]
    refine w_trimmed (l := [i]) (.lst push_at) (by simp) fun r S2 s2 h2 => ?_
    simp only [List.map_cons, List.map_nil, List.length_cons, List.length_nil, List.cons_append, List.nil_append, List.replicate, List.getElem?_cons_zero, List.getElem?_cons_succ, List.set_cons_succ, List.set_cons_zero, WP_bind, WP_ok, WP_cut, q_var, q_c, q_bin, q_un, q_ofO, q_chain, q_tst, q_tstB, q_and2, q_or2, q_not1, q_andV, q_orV, q_notV, q_if, q_nil, q_cons, q_tup, q_lst, q_next, q_seq, q_expr, q_ret, q_retN, q_brk, q_cnt, q_sif, q_gnm, q_gtup, q_gcons, q_gnil, q_asg, q_call, q_callB, q_seqi, q_for, q_while, o_add, o_addI, o_sub, o_lt, o_le, o_gt, o_ge, o_neg, o_ixR, o_ixT, o_ixF, itemsT, itemsF, seqT, seqF, q_b1, q_b2, f_intI, f_intB, f_abs, f_max, f_min, f_lenT, f_lenF, f_list, f_tuple, q_gsb, ofB_bl, q_sl, q_pno, q_pat, q_lrg, q_meth, q_fld, q_rng1, Option.bind_some, Option.map_some, ofS_some, if_true, if_false, Bool.false_eq_true, decide_true, decide_false, ix0, ix1, ix2, wipe_nil, wipe_cons, q_yes, q_rng2]
    exact hQ _ _ ((Sub.push _ _).trans s2) h2
theorem w_plusm (hf : f.natAbs ≤ 1) (o : PO S p a) (hx : Pt S x b) (la : a.length ≤ 200) (lb : b.length ≤ 200) (bb : Bn (2 ^ 400) b)
    (hQ : ∀ q S', Sub S S' → PO S' q (SM f a b) → Q (.ref q) S') {d : DE} (hd : ∀ S', d [some (.ref p), some x] S' = .ok (.int f) S') :
    WP (dCall f_poly_of (dCons (dCall f_sum_of (dCons (dFld [(1, 0)] (dVar 0)) (dCons (dCall f_poly_told (dCons (dVar 1) dNil)) (dCons d dNil)))) dNil) [some (.ref p), some x] S) Q := by
  simp only [List.map_cons, List.map_nil, List.length_cons, List.length_nil, List.cons_append, List.nil_append, List.replicate, List.getElem?_cons_zero, List.getElem?_cons_succ, List.set_cons_succ, List.set_cons_zero, WP_bind, WP_ok, WP_cut, q_var, q_c, q_bin, q_un, q_ofO, q_chain, q_tst, q_tstB, q_and2, q_or2, q_not1, q_andV, q_orV, q_notV, q_if, q_nil, q_cons, q_tup, q_lst, q_next, q_seq, q_expr, q_ret, q_retN, q_brk, q_cnt, q_sif, q_gnm, q_gtup, q_gcons, q_gnil, q_asg, q_call, q_callB, q_seqi, q_for, q_while, o_add, o_addI, o_sub, o_lt, o_le, o_gt, o_ge, o_neg, o_ixR, o_ixT, o_ixF, itemsT, itemsF, seqT, seqF, q_b1, q_b2, f_intI, f_intB, f_abs, f_max, f_min, f_lenT, f_lenF, f_list, f_tuple, q_gsb, ofB_bl, q_sl, q_pno, q_pat, q_lrg, q_meth, q_fld, q_rng1, Option.bind_some, Option.map_some, ofS_some, if_true, if_false, Bool.false_eq_true, decide_true, decide_false, ix0, ix1, ix2, wipe_nil, wipe_cons, q_yes, q_rng2, o.f0]
  refine w_ptold hx fun r S1 s1 h1 => ?_
  simp only [List.map_cons, List.map_nil, List.length_cons, List.length_nil, List.cons_append, List.nil_append, List.replicate, List.getElem?_cons_zero, List.getElem?_cons_succ, List.set_cons_succ, List.set_cons_zero, WP_bind, WP_ok, WP_cut, q_var, q_c, q_bin, q_un, q_ofO, q_chain, q_tst, q_tstB, q_and2, q_or2, q_not1, q_andV, q_orV, q_notV, q_if, q_nil, q_cons, q_tup, q_lst, q_next, q_seq, q_expr, q_ret, q_retN, q_brk, q_cnt, q_sif, q_gnm, q_gtup, q_gcons, q_gnil, q_asg, q_call, q_callB, q_seqi, q_for, q_while, o_add, o_addI, o_sub, o_lt, o_le, o_gt, o_ge, o_neg, o_ixR, o_ixT, o_ixF, itemsT, itemsF, seqT, seqF, q_b1, q_b2, f_intI, f_intB, f_abs, f_max, f_min, f_lenT, f_lenF, f_list, f_tuple, q_gsb, ofB_bl, q_sl, q_pno, q_pat, q_lrg, q_meth, q_fld, q_rng1, Option.bind_some, Option.map_some, ofS_some, if_true, if_false, Bool.false_eq_true, decide_true, decide_false, ix0, ix1, ix2, wipe_nil, wipe_cons, q_yes, q_rng2, hd]
  refine w_sum (f := f) (p := a) (q := b) (B := 400) .tup (.lst h1) (by omega) (by omega) bb (by decide) hf fun r2 S2 s2 h2 => ?_
  simp only [List.map_cons, List.map_nil, List.length_cons, List.length_nil, List.cons_append, List.nil_append, List.replicate, List.getElem?_cons_zero, List.getElem?_cons_succ, List.set_cons_succ, List.set_cons_zero, WP_bind, WP_ok, WP_cut, q_var, q_c, q_bin, q_un, q_ofO, q_chain, q_tst, q_tstB, q_and2, q_or2, q_not1, q_andV, q_orV, q_notV, q_if, q_nil, q_cons, q_tup, q_lst, q_next, q_seq, q_expr, q_ret, q_retN, q_brk, q_cnt, q_sif, q_gnm, q_gtup, q_gcons, q_gnil, q_asg, q_call, q_callB, q_seqi, q_for, q_while, o_add, o_addI, o_sub, o_lt, o_le, o_gt, o_ge, o_neg, o_ixR, o_ixT, o_ixF, itemsT, itemsF, seqT, seqF, q_b1, q_b2, f_intI, f_intB, f_abs, f_max, f_min, f_lenT, f_lenF, f_list, f_tuple, q_gsb, ofB_bl, q_sl, q_pno, q_pat, q_lrg, q_meth, q_fld, q_rng1, Option.bind_some, Option.map_some, ofS_some, if_true, if_false, Bool.false_eq_true, decide_true, decide_false, ix0, ix1, ix2, wipe_nil, wipe_cons, q_yes, q_rng2]
  exact w_polyof h2 (by have := SM_len (f := f) (p := a) (q := b); omega) fun q S3 s3 o3 => hQ _ _ ((s1.trans s2).trans s3) o3
theorem w_minus (o : PO S p a) (hx : Pt S x b) (la : a.length ≤ 200) (lb : b.length ≤ 200) (bb : Bn (2 ^ 400) b) (hQ : ∀ q S', Sub S S' → PO S' q (SM (-1) a b) → Q (.ref q) S') : WP (f_Poly_minus [.ref p, x] S) Q := by
  unfold f_Poly_minus
  rw [mkFn_wp]
  unfold b_Poly_minus n_Poly_minus
  rw [q_ret, WP_bind]
  refine w_plusm (f := -1) (by decide) o hx la lb bb (fun q S' s' o' => ?_) (d := dUn oNeg (dC (.int 1))) fun S' => rfl
  simp only [List.map_cons, List.map_nil, List.length_cons, List.length_nil, List.cons_append, List.nil_append, List.replicate, List.getElem?_cons_zero, List.getElem?_cons_succ, List.set_cons_succ, List.set_cons_zero, WP_bind, WP_ok, WP_cut, q_var, q_c, q_bin, q_un, q_ofO, q_chain, q_tst, q_tstB, q_and2, q_or2, q_not1, q_andV, q_orV, q_notV, q_if, q_nil, q_cons, q_tup, q_lst, q_next, q_seq, q_expr, q_ret, q_retN, q_brk, q_cnt, q_sif, q_gnm, q_gtup, q_gcons, q_gnil, q_asg, q_call, q_callB, q_seqi, q_for, q_while, o_add, o_addI, o_sub, o_lt, o_le, o_gt, o_ge, o_neg, o_ixR, o_ixT, o_ixF, itemsT, itemsF, seqT, seqF, q_b1, q_b2, f_intI, f_intB, f_abs, f_max, f_min, f_lenT, f_lenF, f_list, f_tuple, q_gsb, ofB_bl, q_sl, q_pno, q_pat, q_lrg, q_meth, q_fld, q_rng1, Option.bind_some, Option.map_some, ofS_some, if_true, if_false, Bool.false_eq_true, decide_true, decide_false, ix0, ix1, ix2, wipe_nil, wipe_cons, q_yes, q_rng2]
  exact hQ _ _ s' o'
theorem w_timesP (o : PO S p a) (hx : Pt S x b) (la : a.length ≤ 200) (lb : b.length ≤ 200) (ba : Bn (2 ^ 400) a) (bb : Bn (2 ^ 400) b) (hQ : ∀ q S', Sub S S' → PO S' q (PM a b) → Q (.ref q) S') : WP (f_Poly_times [.ref p, x] S) Q := by
  unfold f_Poly_times
  rw [mkFn_wp]
  unfold b_Poly_times n_Poly_times
  simp only [List.map_cons, List.map_nil, List.length_cons, List.length_nil, List.cons_append, List.nil_append, List.replicate, List.getElem?_cons_zero, List.getElem?_cons_succ, List.set_cons_succ, List.set_cons_zero, WP_bind, WP_ok, WP_cut, q_var, q_c, q_bin, q_un, q_ofO, q_chain, q_tst, q_tstB, q_and2, q_or2, q_not1, q_andV, q_orV, q_notV, q_if, q_nil, q_cons, q_tup, q_lst, q_next, q_seq, q_expr, q_ret, q_retN, q_brk, q_cnt, q_sif, q_gnm, q_gtup, q_gcons, q_gnil, q_asg, q_call, q_callB, q_seqi, q_for, q_while, o_add, o_addI, o_sub, o_lt, o_le, o_gt, o_ge, o_neg, o_ixR, o_ixT, o_ixF, itemsT, itemsF, seqT, seqF, q_b1, q_b2, f_intI, f_intB, f_abs, f_max, f_min, f_lenT, f_lenF, f_list, f_tuple, q_gsb, ofB_bl, q_sl, q_pno, q_pat, q_lrg, q_meth, q_fld, q_rng1, Option.bind_some, Option.map_some, ofS_some, if_true, if_false, Bool.false_eq_true, decide_true, decide_false, ix0, ix1, ix2, wipe_nil, wipe_cons, q_yes, q_rng2, o.f0]
  refine w_ptold hx fun r S1 s1 h1 => ?_
  simp only [List.map_cons, List.map_nil, List.length_cons, List.length_nil, List.cons_append, List.nil_append, List.replicate, List.getElem?_cons_zero, List.getElem?_cons_succ, List.set_cons_succ, List.set_cons_zero, WP_bind, WP_ok, WP_cut, q_var, q_c, q_bin, q_un, q_ofO, q_chain, q_tst, q_tstB, q_and2, q_or2, q_not1, q_andV, q_orV, q_notV, q_if, q_nil, q_cons, q_tup, q_lst, q_next, q_seq, q_expr, q_ret, q_retN, q_brk, q_cnt, q_sif, q_gnm, q_gtup, q_gcons, q_gnil, q_asg, q_call, q_callB, q_seqi, q_for, q_while, o_add, o_addI, o_sub, o_lt, o_le, o_gt, o_ge, o_neg, o_ixR, o_ixT, o_ixF, itemsT, itemsF, seqT, seqF, q_b1, q_b2, f_intI, f_intB, f_abs, f_max, f_min, f_lenT, f_lenF, f_list, f_tuple, q_gsb, ofB_bl, q_sl, q_pno, q_pat, q_lrg, q_meth, q_fld, q_rng1, Option.bind_some, Option.map_some, ofS_some, if_true, if_false, Bool.false_eq_true, decide_true, decide_false, ix0, ix1, ix2, wipe_nil, wipe_cons, q_yes, q_rng2]
  refine w_product (p := a) (q := b) (A := 400) (B := 400) .tup (.lst h1) (by omega) (by omega) ba bb (by decide) fun r2 S2 s2 h2 => ?_
  simp only [List.map_cons, List.map_nil, List.length_cons, List.length_nil, List.cons_append, List.nil_append, List.replicate, List.getElem?_cons_zero, List.getElem?_cons_succ, List.set_cons_succ, List.set_cons_zero, WP_bind, WP_ok, WP_cut, q_var, q_c, q_bin, q_un, q_ofO, q_chain, q_tst, q_tstB, q_and2, q_or2, q_not1, q_andV, q_orV, q_notV, q_if, q_nil, q_cons, q_tup, q_lst, q_next, q_seq, q_expr, q_ret, q_retN, q_brk, q_cnt, q_sif, q_gnm, q_gtup, q_gcons, q_gnil, q_asg, q_call, q_callB, q_seqi, q_for, q_while, o_add, o_addI, o_sub, o_lt, o_le, o_gt, o_ge, o_neg, o_ixR, o_ixT, o_ixF, itemsT, itemsF, seqT, seqF, q_b1, q_b2, f_intI, f_intB, f_abs, f_max, f_min, f_lenT, f_lenF, f_list, f_tuple, q_gsb, ofB_bl, q_sl, q_pno, q_pat, q_lrg, q_meth, q_fld, q_rng1, Option.bind_some, Option.map_some, ofS_some, if_true, if_false, Bool.false_eq_true, decide_true, decide_false, ix0, ix1, ix2, wipe_nil, wipe_cons, q_yes, q_rng2]
  refine w_polyof h2 (by have := PM_len a b; omega) fun q S3 s3 o3 => ?_
  simp only [List.map_cons, List.map_nil, List.length_cons, List.length_nil, List.cons_append, List.nil_append, List.replicate, List.getElem?_cons_zero, List.getElem?_cons_succ, List.set_cons_succ, List.set_cons_zero, WP_bind, WP_ok, WP_cut, q_var, q_c, q_bin, q_un, q_ofO, q_chain, q_tst, q_tstB, q_and2, q_or2, q_not1, q_andV, q_orV, q_notV, q_if, q_nil, q_cons, q_tup, q_lst, q_next, q_seq, q_expr, q_ret, q_retN, q_brk, q_cnt, q_sif, q_gnm, q_gtup, q_gcons, q_gnil, q_asg, q_call, q_callB, q_seqi, q_for, q_while, o_add, o_addI, o_sub, o_lt, o_le, o_gt, o_ge, o_neg, o_ixR, o_ixT, o_ixF, itemsT, itemsF, seqT, seqF, q_b1, q_b2, f_intI, f_intB, f_abs, f_max, f_min, f_lenT, f_lenF, f_list, f_tuple, q_gsb, ofB_bl, q_sl, q_pno, q_pat, q_lrg, q_meth, q_fld, q_rng1, Option.bind_some, Option.map_some, ofS_some, if_true, if_false, Bool.false_eq_true, decide_true, decide_false, ix0, ix1, ix2, wipe_nil, wipe_cons, q_yes, q_rng2]
  exact hQ _ _ ((s1.trans s2).trans s3) o3
theorem w_at {i : Int} (o : PO S p l) (hl : l.length ≤ 300) (hi : Sm i) (hi2 : i.natAbs ≤ 2 ^ 70) (hb : Bn (2 ^ 400) l) (hQ : ∀ S', Sub S S' → Q (.int (hv i l.reverse)) S') : WP (f_Poly_at [.ref p, .int i] S) Q := by
  unfold f_Poly_at
  rw [mkFn_wp]
  unfold b_Poly_at n_Poly_at
  simp only [List.map_cons, List.map_nil, List.length_cons, List.length_nil, List.cons_append, List.nil_append, List.replicate, List.getElem?_cons_zero, List.getElem?_cons_succ, List.set_cons_succ, List.set_cons_zero, WP_bind, WP_ok, WP_cut, q_var, q_c, q_bin, q_un, q_ofO, q_chain, q_tst, q_tstB, q_and2, q_or2, q_not1, q_andV, q_orV, q_notV, q_if, q_nil, q_cons, q_tup, q_lst, q_next, q_seq, q_expr, q_ret, q_retN, q_brk, q_cnt, q_sif, q_gnm, q_gtup, q_gcons, q_gnil, q_asg, q_call, q_callB, q_seqi, q_for, q_while, o_add, o_addI, o_sub, o_lt, o_le, o_gt, o_ge, o_neg, o_ixR, o_ixT, o_ixF, itemsT, itemsF, seqT, seqF, q_b1, q_b2, f_intI, f_intB, f_abs, f_max, f_min, f_lenT, f_lenF, f_list, f_tuple, q_gsb, ofB_bl, q_sl, q_pno, q_pat, q_lrg, q_meth, q_fld, q_rng1, Option.bind_some, Option.map_some, ofS_some, if_true, if_false, Bool.false_eq_true, decide_true, decide_false, ix0, ix1, ix2, wipe_nil, wipe_cons, q_yes, q_rng2]
  have w : WP (f_require_integer [.int i] S) fun d S' => d = .non ∧ S' = S := by
    unfold f_require_integer
    rw [mkFn_wp]
    unfold b_require_integer n_require_integer
    simp only [List.map_cons, List.map_nil, List.length_cons, List.length_nil, List.cons_append, List.nil_append, List.replicate, List.getElem?_cons_zero, List.getElem?_cons_succ, List.set_cons_succ, List.set_cons_zero, WP_bind, WP_ok, WP_cut, q_var, q_c, q_bin, q_un, q_ofO, q_chain, q_tst, q_tstB, q_and2, q_or2, q_not1, q_andV, q_orV, q_notV, q_if, q_nil, q_cons, q_tup, q_lst, q_next, q_seq, q_expr, q_ret, q_retN, q_brk, q_cnt, q_sif, q_gnm, q_gtup, q_gcons, q_gnil, q_asg, q_call, q_callB, q_seqi, q_for, q_while, o_add, o_addI, o_sub, o_lt, o_le, o_gt, o_ge, o_neg, o_ixR, o_ixT, o_ixF, itemsT, itemsF, seqT, seqF, q_b1, q_b2, f_intI, f_intB, f_abs, f_max, f_min, f_lenT, f_lenF, f_list, f_tuple, q_gsb, ofB_bl, q_sl, q_pno, q_pat, q_lrg, q_meth, q_fld, q_rng1, Option.bind_some, Option.map_some, ofS_some, if_true, if_false, Bool.false_eq_true, decide_true, decide_false, ix0, ix1, ix2, wipe_nil, wipe_cons, q_yes, q_rng2]
    refine w_integer hi ?_
    simp only [List.map_cons, List.map_nil, List.length_cons, List.length_nil, List.cons_append, List.nil_append, List.replicate, List.getElem?_cons_zero, List.getElem?_cons_succ, List.set_cons_succ, List.set_cons_zero, WP_bind, WP_ok, WP_cut, q_var, q_c, q_bin, q_un, q_ofO, q_chain, q_tst, q_tstB, q_and2, q_or2, q_not1, q_andV, q_orV, q_notV, q_if, q_nil, q_cons, q_tup, q_lst, q_next, q_seq, q_expr, q_ret, q_retN, q_brk, q_cnt, q_sif, q_gnm, q_gtup, q_gcons, q_gnil, q_asg, q_call, q_callB, q_seqi, q_for, q_while, o_add, o_addI, o_sub, o_lt, o_le, o_gt, o_ge, o_neg, o_ixR, o_ixT, o_ixF, itemsT, itemsF, seqT, seqF, q_b1, q_b2, f_intI, f_intB, f_abs, f_max, f_min, f_lenT, f_lenF, f_list, f_tuple, q_gsb, ofB_bl, q_sl, q_pno, q_pat, q_lrg, q_meth, q_fld, q_rng1, Option.bind_some, Option.map_some, ofS_some, if_true, if_false, Bool.false_eq_true, decide_true, decide_false, ix0, ix1, ix2, wipe_nil, wipe_cons, q_yes, q_rng2, Bool.not_true]
    exact ⟨trivial, trivial⟩
  refine WP_mono w fun d S' ⟨ed, eS⟩ => ?_
  subst ed eS
  simp only [List.map_cons, List.map_nil, List.length_cons, List.length_nil, List.cons_append, List.nil_append, List.replicate, List.getElem?_cons_zero, List.getElem?_cons_succ, List.set_cons_succ, List.set_cons_zero, WP_bind, WP_ok, WP_cut, q_var, q_c, q_bin, q_un, q_ofO, q_chain, q_tst, q_tstB, q_and2, q_or2, q_not1, q_andV, q_orV, q_notV, q_if, q_nil, q_cons, q_tup, q_lst, q_next, q_seq, q_expr, q_ret, q_retN, q_brk, q_cnt, q_sif, q_gnm, q_gtup, q_gcons, q_gnil, q_asg, q_call, q_callB, q_seqi, q_for, q_while, o_add, o_addI, o_sub, o_lt, o_le, o_gt, o_ge, o_neg, o_ixR, o_ixT, o_ixF, itemsT, itemsF, seqT, seqF, q_b1, q_b2, f_intI, f_intB, f_abs, f_max, f_min, f_lenT, f_lenF, f_list, f_tuple, q_gsb, ofB_bl, q_sl, q_pno, q_pat, q_lrg, q_meth, q_fld, q_rng1, Option.bind_some, Option.map_some, ofS_some, if_true, if_false, Bool.false_eq_true, decide_true, decide_false, ix0, ix1, ix2, wipe_nil, wipe_cons, q_yes, q_rng2, o.f0]
  refine w_hv (l := l) .tup hl hi2 hb fun S1 s1 => ?_
  simp only [List.map_cons, List.map_nil, List.length_cons, List.length_nil, List.cons_append, List.nil_append, List.replicate, List.getElem?_cons_zero, List.getElem?_cons_succ, List.set_cons_succ, List.set_cons_zero, WP_bind, WP_ok, WP_cut, q_var, q_c, q_bin, q_un, q_ofO, q_chain, q_tst, q_tstB, q_and2, q_or2, q_not1, q_andV, q_orV, q_notV, q_if, q_nil, q_cons, q_tup, q_lst, q_next, q_seq, q_expr, q_ret, q_retN, q_brk, q_cnt, q_sif, q_gnm, q_gtup, q_gcons, q_gnil, q_asg, q_call, q_callB, q_seqi, q_for, q_while, o_add, o_addI, o_sub, o_lt, o_le, o_gt, o_ge, o_neg, o_ixR, o_ixT, o_ixF, itemsT, itemsF, seqT, seqF, q_b1, q_b2, f_intI, f_intB, f_abs, f_max, f_min, f_lenT, f_lenF, f_list, f_tuple, q_gsb, ofB_bl, q_sl, q_pno, q_pat, q_lrg, q_meth, q_fld, q_rng1, Option.bind_some, Option.map_some, ofS_some, if_true, if_false, Bool.false_eq_true, decide_true, decide_false, ix0, ix1, ix2, wipe_nil, wipe_cons, q_yes, q_rng2]
  exact hQ _ s1
theorem w_coefs (o : PO S p l) (hQ : Q (.tup (iL l)) S) : WP (f_Poly_coefficients [.ref p] S) Q := by
  unfold f_Poly_coefficients
  rw [mkFn_wp]
  unfold b_Poly_coefficients n_Poly_coefficients
  simp only [List.map_cons, List.map_nil, List.length_cons, List.length_nil, List.cons_append, List.nil_append, List.replicate, List.getElem?_cons_zero, List.getElem?_cons_succ, List.set_cons_succ, List.set_cons_zero, WP_bind, WP_ok, WP_cut, q_var, q_c, q_bin, q_un, q_ofO, q_chain, q_tst, q_tstB, q_and2, q_or2, q_not1, q_andV, q_orV, q_notV, q_if, q_nil, q_cons, q_tup, q_lst, q_next, q_seq, q_expr, q_ret, q_retN, q_brk, q_cnt, q_sif, q_gnm, q_gtup, q_gcons, q_gnil, q_asg, q_call, q_callB, q_seqi, q_for, q_while, o_add, o_addI, o_sub, o_lt, o_le, o_gt, o_ge, o_neg, o_ixR, o_ixT, o_ixF, itemsT, itemsF, seqT, seqF, q_b1, q_b2, f_intI, f_intB, f_abs, f_max, f_min, f_lenT, f_lenF, f_list, f_tuple, q_gsb, ofB_bl, q_sl, q_pno, q_pat, q_lrg, q_meth, q_fld, q_rng1, Option.bind_some, Option.map_some, ofS_some, if_true, if_false, Bool.false_eq_true, decide_true, decide_false, ix0, ix1, ix2, wipe_nil, wipe_cons, q_yes, q_rng2, o.f0]
  exact hQ
theorem w_eqP (o : PO S p a) (o' : PO S q b) (hQ : Q (.bl (decide (a = b))) S) : WP (f_Poly___eq__ [.ref p, .ref q] S) Q := by
  unfold f_Poly___eq__
  rw [mkFn_wp]
  unfold b_Poly___eq__ n_Poly___eq__
  have hi : bIsiC 1 [0, 1] [.ref q, .st 1] S = some (.bl true, S) := by simp [bIsiC, o'.slC]
  simp only [List.map_cons, List.map_nil, List.length_cons, List.length_nil, List.cons_append, List.nil_append, List.replicate, List.getElem?_cons_zero, List.getElem?_cons_succ, List.set_cons_succ, List.set_cons_zero, WP_bind, WP_ok, WP_cut, q_var, q_c, q_bin, q_un, q_ofO, q_chain, q_tst, q_tstB, q_and2, q_or2, q_not1, q_andV, q_orV, q_notV, q_if, q_nil, q_cons, q_tup, q_lst, q_next, q_seq, q_expr, q_ret, q_retN, q_brk, q_cnt, q_sif, q_gnm, q_gtup, q_gcons, q_gnil, q_asg, q_call, q_callB, q_seqi, q_for, q_while, o_add, o_addI, o_sub, o_lt, o_le, o_gt, o_ge, o_neg, o_ixR, o_ixT, o_ixF, itemsT, itemsF, seqT, seqF, q_b1, q_b2, f_intI, f_intB, f_abs, f_max, f_min, f_lenT, f_lenF, f_list, f_tuple, q_gsb, ofB_bl, q_sl, q_pno, q_pat, q_lrg, q_meth, q_fld, q_rng1, Option.bind_some, Option.map_some, ofS_some, if_true, if_false, Bool.false_eq_true, decide_true, decide_false, ix0, ix1, ix2, wipe_nil, wipe_cons, q_yes, q_rng2, hi, o.f0, o'.f0, eq_tup]
  exact hQ
theorem w_eqN (o : PO S p a) (hx : bIsiC 1 [0, 1] [x, .st 1] S = some (.bl false, S)) (hQ : Q (.bl false) S) : WP (f_Poly___eq__ [.ref p, x] S) Q := by
  unfold f_Poly___eq__
  rw [mkFn_wp]
  unfold b_Poly___eq__ n_Poly___eq__
  simp only [List.map_cons, List.map_nil, List.length_cons, List.length_nil, List.cons_append, List.nil_append, List.replicate, List.getElem?_cons_zero, List.getElem?_cons_succ, List.set_cons_succ, List.set_cons_zero, WP_bind, WP_ok, WP_cut, q_var, q_c, q_bin, q_un, q_ofO, q_chain, q_tst, q_tstB, q_and2, q_or2, q_not1, q_andV, q_orV, q_notV, q_if, q_nil, q_cons, q_tup, q_lst, q_next, q_seq, q_expr, q_ret, q_retN, q_brk, q_cnt, q_sif, q_gnm, q_gtup, q_gcons, q_gnil, q_asg, q_call, q_callB, q_seqi, q_for, q_while, o_add, o_addI, o_sub, o_lt, o_le, o_gt, o_ge, o_neg, o_ixR, o_ixT, o_ixF, itemsT, itemsF, seqT, seqF, q_b1, q_b2, f_intI, f_intB, f_abs, f_max, f_min, f_lenT, f_lenF, f_list, f_tuple, q_gsb, ofB_bl, q_sl, q_pno, q_pat, q_lrg, q_meth, q_fld, q_rng1, Option.bind_some, Option.map_some, ofS_some, if_true, if_false, Bool.false_eq_true, decide_true, decide_false, ix0, ix1, ix2, wipe_nil, wipe_cons, q_yes, q_rng2, hx]
  exact hQ
theorem o_eqP2 {f : Bool → Bool} (o : PO S p a) (o' : PO S q b) : oOwnF 1 f_Poly___eq__ f (.ref p) (.ref q) S = some (.bl (f (decide (a = b))), S) := by
  obtain ⟨d, S', e, rfl, rfl⟩ := w_eqP (Q := fun d S' => d = .bl (decide (a = b)) ∧ S' = S) o o' ⟨rfl, rfl⟩
  unfold oOwnF okEq
  rw [if_pos (by rw [o.isC, o'.isC]; rfl), e]
theorem o_eqT {f : Bool → Bool} {ds : List D} (o : PO S p a) : oOwnF 1 f_Poly___eq__ f (.ref p) (.tup ds) S = some (.bl (f false), S) := by
  obtain ⟨d, S', e, rfl, rfl⟩ := w_eqN (x := .tup ds) (Q := fun d S' => d = .bl false ∧ S' = S) o (by simp [bIsiC, Z.slC, tyD]) ⟨rfl, rfl⟩
  unfold oOwnF okEq
  rw [if_pos (by rw [o.isC]; rfl), e]
theorem o_eqN {f : Bool → Bool} {i : Int} (o : PO S p a) : oOwnF 1 f_Poly___eq__ f (.ref p) (.int i) S = some (.bl (f false), S) := by
  obtain ⟨d, S', e, rfl, rfl⟩ := w_eqN (x := .int i) (Q := fun d S' => d = .bl false ∧ S' = S) o (by simp [bIsiC, Z.slC, tyD]) ⟨rfl, rfl⟩
  unfold oOwnF okEq
  rw [if_pos (by rw [o.isC]; rfl), e]
end
end Zk16

set_option exponentiation.threshold 3000
namespace Zk16
open PySem PySem.Spec Z
def tri : List (List (List Int)) := [[[1]],
 [[1], [1]],
 [[1], [1, 1], [1]],
 [[1], [1, 1, 1], [1, 1, 1], [1]],
 [[1], [1, 1, 1, 1], [1, 1, 2, 1, 1], [1, 1, 1, 1], [1]],
 [[1], [1, 1, 1, 1, 1], [1, 1, 2, 2, 2, 1, 1], [1, 1, 2, 2, 2, 1, 1], [1, 1, 1, 1, 1], [1]],
 [[1], [1, 1, 1, 1, 1, 1], [1, 1, 2, 2, 3, 2, 2, 1, 1], [1, 1, 2, 3, 3, 3, 3, 2, 1, 1], [1, 1, 2, 2, 3, 2, 2, 1, 1], [1, 1, 1, 1, 1, 1], [1]],
 [[1], [1, 1, 1, 1, 1, 1, 1], [1, 1, 2, 2, 3, 3, 3, 2, 2, 1, 1], [1, 1, 2, 3, 4, 4, 5, 4, 4, 3, 2, 1, 1], [1, 1, 2, 3, 4, 4, 5, 4, 4, 3, 2, 1, 1], [1, 1, 2, 2, 3, 3, 3, 2, 2, 1, 1], [1, 1, 1, 1, 1, 1, 1], [1]],
 [[1], [1, 1, 1, 1, 1, 1, 1, 1], [1, 1, 2, 2, 3, 3, 4, 3, 3, 2, 2, 1, 1], [1, 1, 2, 3, 4, 5, 6, 6, 6, 6, 5, 4, 3, 2, 1, 1], [1, 1, 2, 3, 5, 5, 7, 7, 8, 7, 7, 5, 5, 3, 2, 1, 1], [1, 1, 2, 3, 4, 5, 6, 6, 6, 6, 5, 4, 3, 2, 1, 1], [1, 1, 2, 2, 3, 3, 4, 3, 3, 2, 2, 1, 1], [1, 1, 1, 1, 1, 1, 1, 1], [1]],
 [[1], [1, 1, 1, 1, 1, 1, 1, 1, 1], [1, 1, 2, 2, 3, 3, 4, 4, 4, 3, 3, 2, 2, 1, 1], [1, 1, 2, 3, 4, 5, 7, 7, 8, 8, 8, 7, 7, 5, 4, 3, 2, 1, 1], [1, 1, 2, 3, 5, 6, 8, 9, 11, 11, 12, 11, 11, 9, 8, 6, 5, 3, 2, 1, 1], [1, 1, 2, 3, 5, 6, 8, 9, 11, 11, 12, 11, 11, 9, 8, 6, 5, 3, 2, 1, 1], [1, 1, 2, 3, 4, 5, 7, 7, 8, 8, 8, 7, 7, 5, 4, 3, 2, 1, 1], [1, 1, 2, 2, 3, 3, 4, 4, 4, 3, 3, 2, 2, 1, 1], [1, 1, 1, 1, 1, 1, 1, 1, 1], [1]],
 [[1], [1, 1, 1, 1, 1, 1, 1, 1, 1, 1], [1, 1, 2, 2, 3, 3, 4, 4, 5, 4, 4, 3, 3, 2, 2, 1, 1], [1, 1, 2, 3, 4, 5, 7, 8, 9, 10, 10, 10, 10, 9, 8, 7, 5, 4, 3, 2, 1, 1], [1, 1, 2, 3, 5, 6, 9, 10, 13, 14, 16, 16, 18, 16, 16, 14, 13, 10, 9, 6, 5, 3, 2, 1, 1], [1, 1, 2, 3, 5, 7, 9, 11, 14, 16, 18, 19, 20, 20, 19, 18, 16, 14, 11, 9, 7, 5, 3, 2, 1, 1], [1, 1, 2, 3, 5, 6, 9, 10, 13, 14, 16, 16, 18, 16, 16, 14, 13, 10, 9, 6, 5, 3, 2, 1, 1], [1, 1, 2, 3, 4, 5, 7, 8, 9, 10, 10, 10, 10, 9, 8, 7, 5, 4, 3, 2, 1, 1], [1, 1, 2, 2, 3, 3, 4, 4, 5, 4, 4, 3, 3, 2, 2, 1, 1], [1, 1, 1, 1, 1, 1, 1, 1, 1, 1], [1]],
 [[1], [1, 1, 1, 1, 1, 1, 1, 1, 1, 1, 1], [1, 1, 2, 2, 3, 3, 4, 4, 5, 5, 5, 4, 4, 3, 3, 2, 2, 1, 1], [1, 1, 2, 3, 4, 5, 7, 8, 10, 11, 12, 12, 13, 12, 12, 11, 10, 8, 7, 5, 4, 3, 2, 1, 1], [1, 1, 2, 3, 5, 6, 9, 11, 14, 16, 19, 20, 23, 23, 24, 23, 23, 20, 19, 16, 14, 11, 9, 6, 5, 3, 2, 1, 1], [1, 1, 2, 3, 5, 7, 10, 12, 16, 19, 23, 25, 29, 30, 32, 32, 32, 30, 29, 25, 23, 19, 16, 12, 10, 7, 5, 3, 2, 1, 1], [1, 1, 2, 3, 5, 7, 10, 12, 16, 19, 23, 25, 29, 30, 32, 32, 32, 30, 29, 25, 23, 19, 16, 12, 10, 7, 5, 3, 2, 1, 1], [1, 1, 2, 3, 5, 6, 9, 11, 14, 16, 19, 20, 23, 23, 24, 23, 23, 20, 19, 16, 14, 11, 9, 6, 5, 3, 2, 1, 1], [1, 1, 2, 3, 4, 5, 7, 8, 10, 11, 12, 12, 13, 12, 12, 11, 10, 8, 7, 5, 4, 3, 2, 1, 1], [1, 1, 2, 2, 3, 3, 4, 4, 5, 5, 5, 4, 4, 3, 3, 2, 2, 1, 1], [1, 1, 1, 1, 1, 1, 1, 1, 1, 1, 1], [1]],
 [[1], [1, 1, 1, 1, 1, 1, 1, 1, 1, 1, 1, 1], [1, 1, 2, 2, 3, 3, 4, 4, 5, 5, 6, 5, 5, 4, 4, 3, 3, 2, 2, 1, 1], [1, 1, 2, 3, 4, 5, 7, 8, 10, 12, 13, 14, 15, 15, 15, 15, 14, 13, 12, 10, 8, 7, 5, 4, 3, 2, 1, 1], [1, 1, 2, 3, 5, 6, 9, 11, 15, 17, 21, 23, 27, 28, 31, 31, 33, 31, 31, 28, 27, 23, 21, 17, 15, 11, 9, 6, 5, 3, 2, 1, 1], [1, 1, 2, 3, 5, 7, 10, 13, 17, 21, 26, 30, 35, 39, 43, 46, 48, 49, 49, 48, 46, 43, 39, 35, 30, 26, 21, 17, 13, 10, 7, 5, 3, 2, 1, 1], [1, 1, 2, 3, 5, 7, 11, 13, 18, 22, 28, 32, 39, 42, 48, 51, 55, 55, 58, 55, 55, 51, 48, 42, 39, 32, 28, 22, 18, 13, 11, 7, 5, 3, 2, 1, 1], [1, 1, 2, 3, 5, 7, 10, 13, 17, 21, 26, 30, 35, 39, 43, 46, 48, 49, 49, 48, 46, 43, 39, 35, 30, 26, 21, 17, 13, 10, 7, 5, 3, 2, 1, 1], [1, 1, 2, 3, 5, 6, 9, 11, 15, 17, 21, 23, 27, 28, 31, 31, 33, 31, 31, 28, 27, 23, 21, 17, 15, 11, 9, 6, 5, 3, 2, 1, 1], [1, 1, 2, 3, 4, 5, 7, 8, 10, 12, 13, 14, 15, 15, 15, 15, 14, 13, 12, 10, 8, 7, 5, 4, 3, 2, 1, 1], [1, 1, 2, 2, 3, 3, 4, 4, 5, 5, 6, 5, 5, 4, 4, 3, 3, 2, 2, 1, 1], [1, 1, 1, 1, 1, 1, 1, 1, 1, 1, 1, 1], [1]]]
def T (n k : Nat) : List Int := (tri.getD n []).getD k []
/-- -1 .. 1 -/
def ab (j : Nat) : List Int := -1 :: (List.replicate j 0 ++ [1])
/-- a power of q -/
def xp (m : Nat) : List Int := List.replicate m 0 ++ [1]
def small (l : List Int) : Bool := l.all fun x => x.natAbs ≤ 2 ^ 100
def allR (n : Nat) (p : Nat → Bool) : Bool := (List.range n).all p
theorem allR_of {n : Nat} {p : Nat → Bool} (h : allR n p = true) {k : Nat} (hk : k < n) : p k = true := List.all_eq_true.mp h k (List.mem_range.mpr hk)
def c2 (n s : Nat) : Bool := PM (T n s) (ab (n - s - 1)) == PM (T n (s + 1)) (ab s) && (PM (T n (s + 1)) (ab s)).length == (T n (s + 1)).length + (s + 1)
theorem c2_ok : (allR 13 fun n => allR n fun s => c2 n s) = true := by decide +kernel
def c3 (n k : Nat) : Bool := (T n k).reverse == T n k && (tr (T n k) == T n k && (small (T n k) && decide ((T n k).length ≤ 40)))
theorem c3_ok : (allR 13 fun n => allR (n + 1) fun k => c3 n k) = true := by decide +kernel
def c13 (n : Nat) : Bool := T n 0 == [1] && T n n == [1]
theorem c13_ok : (allR 13 fun n => c13 n) = true := by decide +kernel
theorem small_bn {l : List Int} (h : small l = true) : Bn (2 ^ 100) l := fun x hx => of_decide_eq_true (List.all_eq_true.mp h x hx)
section
variable {n k s j : Nat}
theorem T_f (hn : n ≤ 12) (hk : k ≤ n) : (T n k).reverse = T n k ∧ tr (T n k) = T n k ∧ Bn (2 ^ 100) (T n k) ∧ (T n k).length ≤ 40 := by
  have h := allR_of (allR_of c3_ok (show n < 13 by omega)) (show k < n + 1 by omega)
  unfold c3 at h
  simp only [Bool.and_eq_true, beq_iff_eq, decide_eq_true_eq] at h
  exact ⟨h.1, h.2.1, small_bn h.2.2.1, h.2.2.2⟩
theorem T_div (hn : n ≤ 12) (hs : s < n) : PM (T n s) (ab (n - s - 1)) = PM (T n (s + 1)) (ab s) ∧ (PM (T n (s + 1)) (ab s)).length = (T n (s + 1)).length + (s + 1) := by
  have h := allR_of (allR_of c2_ok (show n < 13 by omega)) hs
  unfold c2 at h
  simpa only [Bool.and_eq_true, beq_iff_eq] using h
theorem T_0 (hn : n ≤ 12) : T n 0 = [1] := by
  have h := allR_of c13_ok (show n < 13 by omega)
  unfold c13 at h
  simp only [Bool.and_eq_true, beq_iff_eq] at h
  exact h.1
theorem T_n (hn : n ≤ 12) : T n n = [1] := by
  have h := allR_of c13_ok (show n < 13 by omega)
  unfold c13 at h
  simp only [Bool.and_eq_true, beq_iff_eq] at h
  exact h.2
end
theorem fold_s {α : Type} {f : α → Nat → α} {a : α} {k : Nat} : (List.range (k + 1)).foldl f a = f ((List.range k).foldl f a) k := by rw [List.range_succ, List.foldl_append]; rfl
end Zk16


set_option exponentiation.threshold 3000
namespace Z
open PySem PySem.Spec
theorem q_rngD {r : DA} {env : En} {S : Store} : iRngD r env S = (r env S).bind fun xs S1 => match xs with
  | [.int i, .int j, .int c] => if c = -1 ∧ -(2 ^ 62) ≤ i ∧ i < 2 ^ 62 ∧ -(2 ^ 62) ≤ j ∧ j < 2 ^ 62 then .ok (jD i (i - j).toNat) S1 else .bad
  | _ => .bad := rfl
theorem jD_at {lo : Int} {n k : Nat} {S : Store} (h : k < n) : jD lo n k S = some (some (.int (lo + (k : Int) * -1))) := by
  unfold jD
  rw [if_pos h]
theorem jD_end {lo : Int} {n : Nat} {S : Store} : jD lo n n S = some none := by
  unfold jD
  rw [if_neg (by omega)]
theorem o_div1 {i : Int} {S : Store} : oDivI (.int i) (.int 1) S = some (.int i, S) := by
  rw [o_div (divOk_of (by decide) (n := 2) (by decide) (by decide)), Int.ediv_one]
/-- the product run backward -/
def dvA (N : Nat) (g u : List Int) (k j : Nat) : List Int := (List.range N).map fun n => cv (g.take k) (cf u) n + (if k + j ≤ n ∧ n < k + u.length then cf g k * cf u (n - k) else 0)
def fdL (g : List Int) (i : Nat) : List Int := (List.range g.length).map fun n => if g.length - i ≤ n then cf g n else 0
section
variable {N k j i : Nat} {g u : List Int}
theorem dvA_len : (dvA N g u k j).length = N := by unfold dvA; simp
theorem fdL_len : (fdL g i).length = g.length := by unfold fdL; simp
theorem dvA_zero : prL N g u (k + 1) = dvA N g u k 0 := by
  unfold prL dvA
  refine List.map_congr_left fun n _ => ?_
  rw [cv_take]
  congr 1
  by_cases h : k ≤ n
  · by_cases h2 : n < k + u.length
    · rw [if_pos h, if_pos ⟨by omega, h2⟩]
    · rw [if_pos h, if_neg (show ¬ (k + 0 ≤ n ∧ n < k + u.length) by omega), cf_out (l := u) (by omega), Int.mul_zero]
  · rw [if_neg h, if_neg (show ¬ (k + 0 ≤ n ∧ n < k + u.length) by omega)]
theorem dvA_end : dvA N g u k u.length = prL N g u k := by
  unfold prL dvA
  refine List.map_congr_left fun n _ => ?_
  rw [if_neg (by omega), Int.add_zero]
theorem dvA_at (h : k + j < N) (hj : j < u.length) : (dvA N g u k j)[k + j]'(by rw [dvA_len]; exact h) = cv (g.take k) (cf u) (k + j) + cf g k * cf u j := by
  unfold dvA
  rw [List.getElem_map, List.getElem_range, if_pos ⟨Nat.le_refl _, by omega⟩, show k + j - k = j by omega]
theorem dvA_set (h : k + j < N) : (dvA N g u k j).set (k + j) (cv (g.take k) (cf u) (k + j)) = dvA N g u k (j + 1) := by
  unfold dvA
  rw [range_set]
  refine List.map_congr_left fun n _ => ?_
  by_cases e : n = k + j
  · subst e
    rw [if_pos rfl, if_neg (by omega), Int.add_zero]
  · rw [if_neg e]
    by_cases h2 : k + j ≤ n ∧ n < k + u.length
    · rw [if_pos h2, if_pos (by omega)]
    · rw [if_neg h2, if_neg (by omega)]
theorem prL_top (hk : k < g.length) (hu : 0 < u.length) (hN : N = g.length + u.length - 1) (h1 : cf u (u.length - 1) = 1) : (prL N g u (k + 1))[k + u.length - 1]'(by rw [prL_len]; omega) = cf g k := by
  unfold prL
  rw [List.getElem_map, List.getElem_range, cv_take, if_pos (by omega), cv_out (L := u.length) (fun n hn => cf_out hn) (by rw [List.length_take]; omega), show k + u.length - 1 - k = u.length - 1 by omega, h1]
  omega
theorem fdL_zero : List.replicate g.length 0 = fdL g 0 := by
  unfold fdL
  refine List.ext_getElem? fun n => ?_
  by_cases h : n < g.length
  · rw [List.getElem?_map, List.getElem?_range h, List.getElem?_replicate, if_pos h, Option.map_some, if_neg (by omega)]
  · rw [List.getElem?_eq_none (by simp; omega), List.getElem?_eq_none (by simp; omega)]
theorem fdL_set (hi : i < g.length) : (fdL g i).set (g.length - 1 - i) (cf g (g.length - 1 - i)) = fdL g (i + 1) := by
  unfold fdL
  rw [range_set]
  refine List.map_congr_left fun n hn => ?_
  have := List.mem_range.mp hn
  by_cases e : n = g.length - 1 - i
  · subst e
    rw [if_pos rfl, if_pos (by omega)]
  · rw [if_neg e]
    by_cases h2 : g.length - i ≤ n
    · rw [if_pos h2, if_pos (by omega)]
    · rw [if_neg h2, if_neg (by omega)]
theorem fdL_end : fdL g g.length = g := by
  unfold fdL
  refine List.ext_getElem? fun n => ?_
  by_cases h : n < g.length
  · rw [List.getElem?_map, List.getElem?_range h, Option.map_some, if_pos (by omega), cf_get h, List.getElem?_eq_getElem h]
  · rw [List.getElem?_eq_none (by simp; omega), List.getElem?_eq_none (by omega)]
theorem cf_same {l m : List Int} (hl : l.length = m.length) (h : ∀ n, cf l n = cf m n) : l = m := by
  refine List.ext_getElem? fun n => ?_
  by_cases hn : n < l.length
  · have := h n
    rw [cf_get hn, cf_get (hl ▸ hn)] at this
    rw [List.getElem?_eq_getElem hn, List.getElem?_eq_getElem (hl ▸ hn), this]
  · rw [List.getElem?_eq_none (by omega), List.getElem?_eq_none (by omega)]
theorem prL_PM (h : (PM g u).length = g.length + u.length - 1) : PM g u = prL (g.length + u.length - 1) g u g.length := by
  refine cf_same (by rw [prL_len, h]) fun n => ?_
  rw [prL_end, cf_PM, cf_range]
  split
  · rfl
  · exact cv_out (L := u.length) (fun n hn => cf_out hn) (by omega)
theorem o_addLL {S : Store} {r q : Nat} {xs ys : List D} (h : S[r]? = some (.lst xs)) (h' : S[q]? = some (.lst ys)) (hl : xs.length + ys.length ≤ 10000) : oAdd (.ref r) (.ref q) S = some (.ref S.length, S ++ [.lst (xs ++ ys)]) := by
  have e : oAddL (.ref r) (.ref q) S = some (.ref S.length, S ++ [.lst (xs ++ ys)]) := by
    simp only [oAddL, h, h']
    rw [if_pos (by have : sl = 16777216 := rfl; omega)]
  unfold oAdd orO
  rw [show oAddI (.ref r) (.ref q) S = none from rfl, e]
end
end Z
namespace Zk16
open PySem PySem.Spec Z
section
variable {S : Store} {x y : D} {g u l : List Int} {Q : D → Store → Prop} {A B m n k : Nat} {p : Int}
theorem w_divided (hx : Sq S x (prL (g.length + u.length - 1) g u g.length)) (hy : Sq S y u) (lg : g.length ≤ 200) (hg0 : 0 < g.length) (lu : u.length ≤ 200) (hu0 : 0 < u.length) (h1 : cf u (u.length - 1) = 1) (bg : Bn (2 ^ A) g) (bu : Bn (2 ^ B) u) (hA : A + B ≤ 10000)
    (hQ : ∀ r S', Sub S S' → S'[r]? = some (.lst (iL (tr g))) → Q (.ref r) S') : WP (f_divided [x, y] S) Q := by
  unfold f_divided
  rw [mkFn_wp]
  unfold b_divided n_divided
  obtain ⟨N, eN⟩ : ∃ N, g.length + u.length - 1 = N := ⟨_, rfl⟩
  rw [eN] at hx
  have s1 : Sub S (S ++ [O.lst (iL (prL N g u g.length))]) := Sub.push _ _
  have s2 : Sub S (S ++ [O.lst (iL (prL N g u g.length))] ++ [O.lst [D.int 0]]) := s1.trans (Sub.push _ _)
  simp only [List.map_cons, List.map_nil, List.length_cons, List.length_nil, List.cons_append, List.nil_append, List.replicate, List.getElem?_cons_zero, List.getElem?_cons_succ, List.set_cons_succ, List.set_cons_zero, WP_bind, WP_ok, WP_cut, q_var, q_c, q_bin, q_un, q_ofO, q_chain, q_tst, q_tstB, q_and2, q_or2, q_not1, q_andV, q_orV, q_notV, q_if, q_nil, q_cons, q_tup, q_lst, q_next, q_seq, q_expr, q_ret, q_retN, q_brk, q_cnt, q_sif, q_gnm, q_gtup, q_gcons, q_gnil, q_asg, q_call, q_callB, q_seqi, q_for, q_while, o_add, o_addI, o_sub, o_lt, o_le, o_gt, o_ge, o_neg, o_ixR, o_ixT, o_ixF, itemsT, itemsF, seqT, seqF, q_b1, q_b2, f_intI, f_intB, f_abs, f_max, f_min, f_lenT, f_lenF, f_list, f_tuple, q_gsb, ofB_bl, q_sl, q_pno, q_pat, q_lrg, q_meth, q_fld, q_rng1, Option.bind_some, Option.map_some, ofS_some, if_true, if_false, Bool.false_eq_true, decide_true, decide_false, ix0, ix1, ix2, wipe_nil, wipe_cons, q_yes, q_rng2, mkL, z1, hx.items, (hx.sub s2).len, (hy.sub s2).len, prL_len, z2, z2']
  have en : (if (N : Int) - (u.length : Int) + 1 > 0 then (N : Int) - (u.length : Int) + 1 else 0) = ((g.length : Nat) : Int) := by
    rw [if_pos (by omega)]; omega
  rw [en, mul_lst push_at (by omega)]
  simp only [List.map_cons, List.map_nil, List.length_cons, List.length_nil, List.cons_append, List.nil_append, List.replicate, List.getElem?_cons_zero, List.getElem?_cons_succ, List.set_cons_succ, List.set_cons_zero, WP_bind, WP_ok, WP_cut, q_var, q_c, q_bin, q_un, q_ofO, q_chain, q_tst, q_tstB, q_and2, q_or2, q_not1, q_andV, q_orV, q_notV, q_if, q_nil, q_cons, q_tup, q_lst, q_next, q_seq, q_expr, q_ret, q_retN, q_brk, q_cnt, q_sif, q_gnm, q_gtup, q_gcons, q_gnil, q_asg, q_call, q_callB, q_seqi, q_for, q_while, o_add, o_addI, o_sub, o_lt, o_le, o_gt, o_ge, o_neg, o_ixR, o_ixT, o_ixF, itemsT, itemsF, seqT, seqF, q_b1, q_b2, f_intI, f_intB, f_abs, f_max, f_min, f_lenT, f_lenF, f_list, f_tuple, q_gsb, ofB_bl, q_sl, q_pno, q_pat, q_lrg, q_meth, q_fld, q_rng1, Option.bind_some, Option.map_some, ofS_some, if_true, if_false, Bool.false_eq_true, decide_true, decide_false, ix0, ix1, ix2, wipe_nil, wipe_cons, q_yes, q_rng2, z2, z2']
  obtain ⟨rf, erf⟩ : ∃ rf, (S ++ [O.lst (iL (prL N g u g.length))] ++ [O.lst [D.int 0]]).length = rf := ⟨_, rfl⟩
  have hrf : rf = S.length + 2 := by rw [← erf]; simp
  obtain ⟨S3, eS3⟩ : ∃ S3, S ++ [O.lst (iL (prL N g u g.length))] ++ [O.lst [D.int 0]] ++ [O.lst (iL (List.replicate g.length 0))] = S3 := ⟨_, rfl⟩
  have g1 : S3[S.length]? = some (.lst (iL (prL N g u g.length))) := by rw [← eS3]; exact Sub.push _ _ _ _ (Sub.push _ _ _ _ push_at)
  have g2 : S3[rf]? = some (.lst (iL (fdL g 0))) := by rw [← eS3, ← erf, push_at, fdL_zero]
  have s3 : Sub S S3 := by rw [← eS3]; exact s2.trans (Sub.push _ _)
  rw [erf, eS3]
  simp only [List.map_cons, List.map_nil, List.length_cons, List.length_nil, List.cons_append, List.nil_append, List.replicate, List.getElem?_cons_zero, List.getElem?_cons_succ, List.set_cons_succ, List.set_cons_zero, WP_bind, WP_ok, WP_cut, q_var, q_c, q_bin, q_un, q_ofO, q_chain, q_tst, q_tstB, q_and2, q_or2, q_not1, q_andV, q_orV, q_notV, q_if, q_nil, q_cons, q_tup, q_lst, q_next, q_seq, q_expr, q_ret, q_retN, q_brk, q_cnt, q_sif, q_gnm, q_gtup, q_gcons, q_gnil, q_asg, q_call, q_callB, q_seqi, q_for, q_while, o_add, o_addI, o_sub, o_lt, o_le, o_gt, o_ge, o_neg, o_ixR, o_ixT, o_ixF, itemsT, itemsF, seqT, seqF, q_b1, q_b2, f_intI, f_intB, f_abs, f_max, f_min, f_lenT, f_lenF, f_list, f_tuple, q_gsb, ofB_bl, q_sl, q_pno, q_pat, q_lrg, q_meth, q_fld, q_rng1, Option.bind_some, Option.map_some, ofS_some, if_true, if_false, Bool.false_eq_true, decide_true, decide_false, ix0, ix1, ix2, wipe_nil, wipe_cons, q_yes, q_rng2, (hx.sub s3).len, (hy.sub s3).len, prL_len, q_rngD]
  rw [if_pos (by refine ⟨?_, ?_, ?_, ?_, ?_⟩ <;> first | trivial | omega)]
  simp only [List.map_cons, List.map_nil, List.length_cons, List.length_nil, List.cons_append, List.nil_append, List.replicate, List.getElem?_cons_zero, List.getElem?_cons_succ, List.set_cons_succ, List.set_cons_zero, WP_bind, WP_ok, WP_cut, q_var, q_c, q_bin, q_un, q_ofO, q_chain, q_tst, q_tstB, q_and2, q_or2, q_not1, q_andV, q_orV, q_notV, q_if, q_nil, q_cons, q_tup, q_lst, q_next, q_seq, q_expr, q_ret, q_retN, q_brk, q_cnt, q_sif, q_gnm, q_gtup, q_gcons, q_gnil, q_asg, q_call, q_callB, q_seqi, q_for, q_while, o_add, o_addI, o_sub, o_lt, o_le, o_gt, o_ge, o_neg, o_ixR, o_ixT, o_ixF, itemsT, itemsF, seqT, seqF, q_b1, q_b2, f_intI, f_intB, f_abs, f_max, f_min, f_lenT, f_lenF, f_list, f_tuple, q_gsb, ofB_bl, q_sl, q_pno, q_pat, q_lrg, q_meth, q_fld, q_rng1, Option.bind_some, Option.map_some, ofS_some, if_true, if_false, Bool.false_eq_true, decide_true, decide_false, ix0, ix1, ix2, wipe_nil, wipe_cons, q_yes, q_rng2]
  rw [show ((N : Int) - (u.length : Int) - -1).toNat = g.length by omega]
  refine wp_for g.length (fun i env S' => ∃ a4 a5 a6 a7, env = [some x, some y, some (.ref S.length), some (.ref rf), a4, a5, a6, a7] ∧ Sub S S' ∧ S'[S.length]? = some (.lst (iL (prL N g u (g.length - i)))) ∧ S'[rf]? = some (.lst (iL (fdL g i)))) (by omega)
    ⟨none, none, none, none, rfl, s3, g1, g2⟩ (fun i env S1 hi ⟨a4, a5, a6, a7, he, s1, h1', h2'⟩ => ⟨_, jD_at hi, ?_⟩) fun env S1 ⟨a4, a5, a6, a7, he, s1, h1', h2'⟩ => ⟨jD_end, ?_⟩
  · subst he
    obtain ⟨k, ek⟩ : ∃ k, g.length - 1 - i = k := ⟨_, rfl⟩
    have hk : k < g.length := by omega
    have e1 : (N : Int) - (u.length : Int) + (i : Int) * -1 = (k : Int) := by omega
    have e2 : g.length - i = k + 1 := by omega
    have e3 : g.length - (i + 1) = k := by omega
    have e4 : (k : Int) + (u.length : Int) - 1 = ((k + u.length - 1 : Nat) : Int) := by omega
    rw [e2] at h1'
    rw [e3]
    have une : u ≠ [] := fun z => by rw [z] at hu0; exact absurd hu0 (by decide)
    have hy1 := hy.sub s1
    have ixl : oIx (.ref S.length) (.int ((k + u.length - 1 : Nat) : Int)) S1 = some (.int (cf g k), S1) := by
      rw [(Sq.lst h1').ix (by rw [prL_len]; omega), prL_top hk hu0 eN.symm h1]
    have ixu : oIx y (.int (-1)) S1 = some (.int 1, S1) := by rw [hy1.ixI, atI_last une, h1]; rfl
    have hset : setD (.ref rf) (.int (k : Int)) (.int (cf g k)) S1 = some (S1.set rf (.lst (iL (fdL g (i + 1))))) := by
      rw [set_lst h2' (by rw [fdL_len]; exact hk), ← ek, fdL_set hi]
    have s2' : Sub S (S1.set rf (.lst (iL (fdL g (i + 1))))) := sub_set s1 (by omega)
    have k1 : (S1.set rf (.lst (iL (fdL g (i + 1)))))[S.length]? = some (.lst (iL (prL N g u (k + 1)))) := set_ne (by omega) h1'
    have k2 : (S1.set rf (.lst (iL (fdL g (i + 1)))))[rf]? = some (.lst (iL (fdL g (i + 1)))) := set_at h2'
    have ixl2 : (itemsD S1 (.ref S.length)).bind (fun ds => (L2.atI ds ((k + u.length - 1 : Nat) : Int)).map fun x => (x, S1)) = some (.int (cf g k), S1) := by rw [← o_ixR]; exact ixl
    generalize S1.set rf (.lst (iL (fdL g (i + 1)))) = S2 at *
    simp only [List.map_cons, List.map_nil, List.length_cons, List.length_nil, List.cons_append, List.nil_append, List.replicate, List.getElem?_cons_zero, List.getElem?_cons_succ, List.set_cons_succ, List.set_cons_zero, WP_bind, WP_ok, WP_cut, q_var, q_c, q_bin, q_un, q_ofO, q_chain, q_tst, q_tstB, q_and2, q_or2, q_not1, q_andV, q_orV, q_notV, q_if, q_nil, q_cons, q_tup, q_lst, q_next, q_seq, q_expr, q_ret, q_retN, q_brk, q_cnt, q_sif, q_gnm, q_gtup, q_gcons, q_gnil, q_asg, q_call, q_callB, q_seqi, q_for, q_while, o_add, o_addI, o_sub, o_lt, o_le, o_gt, o_ge, o_neg, o_ixR, o_ixT, o_ixF, itemsT, itemsF, seqT, seqF, q_b1, q_b2, f_intI, f_intB, f_abs, f_max, f_min, f_lenT, f_lenF, f_list, f_tuple, q_gsb, ofB_bl, q_sl, q_pno, q_pat, q_lrg, q_meth, q_fld, q_rng1, Option.bind_some, Option.map_some, ofS_some, if_true, if_false, Bool.false_eq_true, decide_true, decide_false, ix0, ix1, ix2, wipe_nil, wipe_cons, q_yes, q_rng2, e1, hy1.len, e4, ixl2, ixu, o_div1, hset, o_neI]
    by_cases hz : cf g k = 0
    · simp only [hz, decide_true, Bool.not_true, List.map_cons, List.map_nil, List.length_cons, List.length_nil, List.cons_append, List.nil_append, List.replicate, List.getElem?_cons_zero, List.getElem?_cons_succ, List.set_cons_succ, List.set_cons_zero, WP_bind, WP_ok, WP_cut, q_var, q_c, q_bin, q_un, q_ofO, q_chain, q_tst, q_tstB, q_and2, q_or2, q_not1, q_andV, q_orV, q_notV, q_if, q_nil, q_cons, q_tup, q_lst, q_next, q_seq, q_expr, q_ret, q_retN, q_brk, q_cnt, q_sif, q_gnm, q_gtup, q_gcons, q_gnil, q_asg, q_call, q_callB, q_seqi, q_for, q_while, o_add, o_addI, o_sub, o_lt, o_le, o_gt, o_ge, o_neg, o_ixR, o_ixT, o_ixF, itemsT, itemsF, seqT, seqF, q_b1, q_b2, f_intI, f_intB, f_abs, f_max, f_min, f_lenT, f_lenF, f_list, f_tuple, q_gsb, ofB_bl, q_sl, q_pno, q_pat, q_lrg, q_meth, q_fld, q_rng1, Option.bind_some, Option.map_some, ofS_some, if_true, if_false, Bool.false_eq_true, decide_true, decide_false, ix0, ix1, ix2, wipe_nil, wipe_cons, q_yes, q_rng2]
      exact ⟨_, _, _, _, rfl, s2', by rw [k1, prL_skip hz], k2⟩
    · simp only [hz, decide_false, Bool.not_false, List.map_cons, List.map_nil, List.length_cons, List.length_nil, List.cons_append, List.nil_append, List.replicate, List.getElem?_cons_zero, List.getElem?_cons_succ, List.set_cons_succ, List.set_cons_zero, WP_bind, WP_ok, WP_cut, q_var, q_c, q_bin, q_un, q_ofO, q_chain, q_tst, q_tstB, q_and2, q_or2, q_not1, q_andV, q_orV, q_notV, q_if, q_nil, q_cons, q_tup, q_lst, q_next, q_seq, q_expr, q_ret, q_retN, q_brk, q_cnt, q_sif, q_gnm, q_gtup, q_gcons, q_gnil, q_asg, q_call, q_callB, q_seqi, q_for, q_while, o_add, o_addI, o_sub, o_lt, o_le, o_gt, o_ge, o_neg, o_ixR, o_ixT, o_ixF, itemsT, itemsF, seqT, seqF, q_b1, q_b2, f_intI, f_intB, f_abs, f_max, f_min, f_lenT, f_lenF, f_list, f_tuple, q_gsb, ofB_bl, q_sl, q_pno, q_pat, q_lrg, q_meth, q_fld, q_rng1, Option.bind_some, Option.map_some, ofS_some, if_true, if_false, Bool.false_eq_true, decide_true, decide_false, ix0, ix1, ix2, wipe_nil, wipe_cons, q_yes, q_rng2]
      rw [enum1 (A := dVar 1) (x := y) rfl (by rw [(hy.sub s2').items]; rfl)]
      simp only [List.map_cons, List.map_nil, List.length_cons, List.length_nil, List.cons_append, List.nil_append, List.replicate, List.getElem?_cons_zero, List.getElem?_cons_succ, List.set_cons_succ, List.set_cons_zero, WP_bind, WP_ok, WP_cut, q_var, q_c, q_bin, q_un, q_ofO, q_chain, q_tst, q_tstB, q_and2, q_or2, q_not1, q_andV, q_orV, q_notV, q_if, q_nil, q_cons, q_tup, q_lst, q_next, q_seq, q_expr, q_ret, q_retN, q_brk, q_cnt, q_sif, q_gnm, q_gtup, q_gcons, q_gnil, q_asg, q_call, q_callB, q_seqi, q_for, q_while, o_add, o_addI, o_sub, o_lt, o_le, o_gt, o_ge, o_neg, o_ixR, o_ixT, o_ixF, itemsT, itemsF, seqT, seqF, q_b1, q_b2, f_intI, f_intB, f_abs, f_max, f_min, f_lenT, f_lenF, f_list, f_tuple, q_gsb, ofB_bl, q_sl, q_pno, q_pat, q_lrg, q_meth, q_fld, q_rng1, Option.bind_some, Option.map_some, ofS_some, if_true, if_false, Bool.false_eq_true, decide_true, decide_false, ix0, ix1, ix2, wipe_nil, wipe_cons, q_yes, q_rng2]
      refine wp_for u.length (fun j env S' => ∃ b6 b7, env = [some x, some y, some (.ref S.length), some (.ref rf), some (.int (k : Int)), some (.int (cf g k)), b6, b7] ∧ Sub S S' ∧ S'[S.length]? = some (.lst (iL (dvA N g u k j))) ∧ S'[rf]? = some (.lst (iL (fdL g (i + 1))))) (by omega)
        ⟨a6, a7, rfl, s2', by rw [k1, dvA_zero], k2⟩ (fun j env S3 hj ⟨b6, b7, he2, s3, h3, h4⟩ => ?_) fun env S3 ⟨b6, b7, he2, s3, h3, h4⟩ => ?_
      · refine ⟨.tup [.int (j : Int), .int u[j]], by rw [(hy.sub s3).enum (Nat.le_of_lt hj), zip_at hj], ?_⟩
        rw [he2]
        have hkj : k + j < N := by omega
        have hgl : getL (.ref S.length) (.int ((k + j : Nat) : Int)) S3 = some (.int (cv (g.take k) (cf u) (k + j) + cf g k * cf u j)) := by
          rw [getLR h3, ix_lit (by rw [iL_len, dvA_len]; exact hkj), iL_at (by rw [dvA_len]; exact hkj), dvA_at hkj hj]
        have hm : mulOk (cf g k) u[j] = true := mulW (ltp (bg.cf k)) (ltp (bu _ (List.getElem_mem hj))) (by omega)
        have hs := set_lst (i := cv (g.take k) (cf u) (k + j) + cf g k * cf u j - cf g k * u[j]) h3 (k := k + j) (by rw [dvA_len]; exact hkj)
        simp only [List.map_cons, List.map_nil, List.length_cons, List.length_nil, List.cons_append, List.nil_append, List.replicate, List.getElem?_cons_zero, List.getElem?_cons_succ, List.set_cons_succ, List.set_cons_zero, WP_bind, WP_ok, WP_cut, q_var, q_c, q_bin, q_un, q_ofO, q_chain, q_tst, q_tstB, q_and2, q_or2, q_not1, q_andV, q_orV, q_notV, q_if, q_nil, q_cons, q_tup, q_lst, q_next, q_seq, q_expr, q_ret, q_retN, q_brk, q_cnt, q_sif, q_gnm, q_gtup, q_gcons, q_gnil, q_asg, q_call, q_callB, q_seqi, q_for, q_while, o_add, o_addI, o_sub, o_lt, o_le, o_gt, o_ge, o_neg, o_ixR, o_ixT, o_ixF, itemsT, itemsF, seqT, seqF, q_b1, q_b2, f_intI, f_intB, f_abs, f_max, f_min, f_lenT, f_lenF, f_list, f_tuple, q_gsb, ofB_bl, q_sl, q_pno, q_pat, q_lrg, q_meth, q_fld, q_rng1, Option.bind_some, Option.map_some, ofS_some, if_true, if_false, Bool.false_eq_true, decide_true, decide_false, ix0, ix1, ix2, wipe_nil, wipe_cons, q_yes, q_rng2, q_augS, natAdd, hgl, o_mul hm, hs]
        refine ⟨_, _, rfl, sub_set s3 (Nat.le_refl _), ?_, set_ne (by omega) h4⟩
        rw [set_at h3, ← cf_get hj, show cv (g.take k) (cf u) (k + j) + cf g k * cf u j - cf g k * cf u j = cv (g.take k) (cf u) (k + j) by omega, dvA_set hkj]
      · refine ⟨by rw [(hy.sub s3).enum (Nat.le_refl _), zip_end], ?_⟩
        rw [he2]
        exact ⟨_, _, _, _, rfl, s3, by rw [h3, dvA_end], h4⟩
  · subst he
    rw [fdL_end] at h2'
    simp only [List.map_cons, List.map_nil, List.length_cons, List.length_nil, List.cons_append, List.nil_append, List.replicate, List.getElem?_cons_zero, List.getElem?_cons_succ, List.set_cons_succ, List.set_cons_zero, WP_bind, WP_ok, WP_cut, q_var, q_c, q_bin, q_un, q_ofO, q_chain, q_tst, q_tstB, q_and2, q_or2, q_not1, q_andV, q_orV, q_notV, q_if, q_nil, q_cons, q_tup, q_lst, q_next, q_seq, q_expr, q_ret, q_retN, q_brk, q_cnt, q_sif, q_gnm, q_gtup, q_gcons, q_gnil, q_asg, q_call, q_callB, q_seqi, q_for, q_while, o_add, o_addI, o_sub, o_lt, o_le, o_gt, o_ge, o_neg, o_ixR, o_ixT, o_ixF, itemsT, itemsF, seqT, seqF, q_b1, q_b2, f_intI, f_intB, f_abs, f_max, f_min, f_lenT, f_lenF, f_list, f_tuple, q_gsb, ofB_bl, q_sl, q_pno, q_pat, q_lrg, q_meth, q_fld, q_rng1, Option.bind_some, Option.map_some, ofS_some, if_true, if_false, Bool.false_eq_true, decide_true, decide_false, ix0, ix1, ix2, wipe_nil, wipe_cons, q_yes, q_rng2]
    refine w_trimmed (l := g) (.lst h2') (by omega) fun r2 S2 s2 h2 => ?_
    simp only [List.map_cons, List.map_nil, List.length_cons, List.length_nil, List.cons_append, List.nil_append, List.replicate, List.getElem?_cons_zero, List.getElem?_cons_succ, List.set_cons_succ, List.set_cons_zero, WP_bind, WP_ok, WP_cut, q_var, q_c, q_bin, q_un, q_ofO, q_chain, q_tst, q_tstB, q_and2, q_or2, q_not1, q_andV, q_orV, q_notV, q_if, q_nil, q_cons, q_tup, q_lst, q_next, q_seq, q_expr, q_ret, q_retN, q_brk, q_cnt, q_sif, q_gnm, q_gtup, q_gcons, q_gnil, q_asg, q_call, q_callB, q_seqi, q_for, q_while, o_add, o_addI, o_sub, o_lt, o_le, o_gt, o_ge, o_neg, o_ixR, o_ixT, o_ixF, itemsT, itemsF, seqT, seqF, q_b1, q_b2, f_intI, f_intB, f_abs, f_max, f_min, f_lenT, f_lenF, f_list, f_tuple, q_gsb, ofB_bl, q_sl, q_pno, q_pat, q_lrg, q_meth, q_fld, q_rng1, Option.bind_some, Option.map_some, ofS_some, if_true, if_false, Bool.false_eq_true, decide_true, decide_false, ix0, ix1, ix2, wipe_nil, wipe_cons, q_yes, q_rng2]
    exact hQ _ _ (s1.trans s2) h2
end
end Zk16

set_option exponentiation.threshold 3000
namespace Zk16
open PySem PySem.Spec Z
theorem ab_len (j : Nat) : (ab j).length = j + 2 := by unfold ab; simp
theorem ab_last (j : Nat) : cf (ab j) ((ab j).length - 1) = 1 := by
  rw [ab_len, show j + 2 - 1 = j + 1 by omega]
  unfold ab
  rw [cf_succ]
  unfold cf
  rw [List.getD_eq_getElem?_getD, List.getElem?_append_right (by simp)]
  simp
theorem ab_bn (j : Nat) : Bn (2 ^ 1) (ab j) := fun x hx => by
  unfold ab at hx
  rcases List.mem_cons.mp hx with rfl | hx
  · decide
  · rcases List.mem_append.mp hx with hx | hx
    · rw [(List.mem_replicate.mp hx).2]; decide
    · rw [List.mem_singleton.mp hx]; decide
theorem ab_list {j : Nat} : ([D.int (-1)] ++ (iL (List.replicate j 0) ++ [D.int 1])) = iL (ab j) := by
  unfold ab iL
  simp
section
variable {S : Store} {x y : D} {g u l : List Int} {Q : D → Store → Prop} {A B m n k s : Nat} {p : Int}
/-- the list -1, 0 .., 1 as it is displayed -/
theorem w_ab {env : En} {c : DE} {j : Nat} (hj : j ≤ 900) (hc : ∀ S', c env S' = .ok (.int (j : Int)) S') (hQ : ∀ r S', Sub S S' → S'[r]? = some (.lst (iL (ab j))) → Q (.ref r) S') :
    WP (dLst (dCons (dUn oNeg (dC (.int 1))) (dStar (dBin oMulA (dLst (dCons (dC (.int 0)) dNil)) c) (dCons (dC (.int 1)) dNil))) env S) Q := by
  have s1 : Sub S (S ++ [O.lst [D.int 0]]) := Sub.push _ _
  have hl : (0 + 1 + (List.length (iL (List.replicate j 0)) + (0 + 1))) ≤ sl := sl1000 (by rw [iL_len, List.length_replicate]; omega)
  simp only [List.map_cons, List.map_nil, List.length_cons, List.length_nil, List.cons_append, List.nil_append, List.replicate, List.getElem?_cons_zero, List.getElem?_cons_succ, List.set_cons_succ, List.set_cons_zero, WP_bind, WP_ok, WP_cut, q_var, q_c, q_bin, q_un, q_ofO, q_chain, q_tst, q_tstB, q_and2, q_or2, q_not1, q_andV, q_orV, q_notV, q_if, q_nil, q_cons, q_tup, q_lst, q_next, q_seq, q_expr, q_ret, q_retN, q_brk, q_cnt, q_sif, q_gnm, q_gtup, q_gcons, q_gnil, q_asg, q_call, q_callB, q_seqi, q_for, q_while, o_add, o_addI, o_sub, o_lt, o_le, o_gt, o_ge, o_neg, o_ixR, o_ixT, o_ixF, itemsT, itemsF, seqT, seqF, q_b1, q_b2, f_intI, f_intB, f_abs, f_max, f_min, f_lenT, f_lenF, f_list, f_tuple, q_gsb, ofB_bl, q_sl, q_pno, q_pat, q_lrg, q_meth, q_fld, q_rng1, Option.bind_some, Option.map_some, ofS_some, if_true, if_false, Bool.false_eq_true, decide_true, decide_false, ix0, ix1, ix2, wipe_nil, wipe_cons, q_yes, q_rng2, q_star, mkL, z1, hc]
  rw [mul_lst push_at (by omega)]
  simp only [List.map_cons, List.map_nil, List.length_cons, List.length_nil, List.cons_append, List.nil_append, List.replicate, List.getElem?_cons_zero, List.getElem?_cons_succ, List.set_cons_succ, List.set_cons_zero, WP_bind, WP_ok, WP_cut, q_var, q_c, q_bin, q_un, q_ofO, q_chain, q_tst, q_tstB, q_and2, q_or2, q_not1, q_andV, q_orV, q_notV, q_if, q_nil, q_cons, q_tup, q_lst, q_next, q_seq, q_expr, q_ret, q_retN, q_brk, q_cnt, q_sif, q_gnm, q_gtup, q_gcons, q_gnil, q_asg, q_call, q_callB, q_seqi, q_for, q_while, o_add, o_addI, o_sub, o_lt, o_le, o_gt, o_ge, o_neg, o_ixR, o_ixT, o_ixF, itemsT, itemsF, seqT, seqF, q_b1, q_b2, f_intI, f_intB, f_abs, f_max, f_min, f_lenT, f_lenF, f_list, f_tuple, q_gsb, ofB_bl, q_sl, q_pno, q_pat, q_lrg, q_meth, q_fld, q_rng1, Option.bind_some, Option.map_some, ofS_some, if_true, if_false, Bool.false_eq_true, decide_true, decide_false, ix0, ix1, ix2, wipe_nil, wipe_cons, q_yes, q_rng2, itemsR push_at]
  rw [if_pos (by simp only [List.length_append, iL_len, List.length_replicate, List.length_cons, List.length_nil]; exact sl1000 (by omega))]
  simp only [List.map_cons, List.map_nil, List.length_cons, List.length_nil, List.cons_append, List.nil_append, List.replicate, List.getElem?_cons_zero, List.getElem?_cons_succ, List.set_cons_succ, List.set_cons_zero, WP_bind, WP_ok, WP_cut, q_var, q_c, q_bin, q_un, q_ofO, q_chain, q_tst, q_tstB, q_and2, q_or2, q_not1, q_andV, q_orV, q_notV, q_if, q_nil, q_cons, q_tup, q_lst, q_next, q_seq, q_expr, q_ret, q_retN, q_brk, q_cnt, q_sif, q_gnm, q_gtup, q_gcons, q_gnil, q_asg, q_call, q_callB, q_seqi, q_for, q_while, o_add, o_addI, o_sub, o_lt, o_le, o_gt, o_ge, o_neg, o_ixR, o_ixT, o_ixF, itemsT, itemsF, seqT, seqF, q_b1, q_b2, f_intI, f_intB, f_abs, f_max, f_min, f_lenT, f_lenF, f_list, f_tuple, q_gsb, ofB_bl, q_sl, q_pno, q_pat, q_lrg, q_meth, q_fld, q_rng1, Option.bind_some, Option.map_some, ofS_some, if_true, if_false, Bool.false_eq_true, decide_true, decide_false, ix0, ix1, ix2, wipe_nil, wipe_cons, q_yes, q_rng2]
  refine hQ _ _ ((s1.trans (Sub.push _ _)).trans (Sub.push _ _)) ?_
  rw [push_at, ← ab_list]; rfl
theorem w_gaussnums (hn : n ≤ 12) (hk : k ≤ n) (hQ : ∀ r S', Sub S S' → S'[r]? = some (.lst (iL (T n k))) → Q (.ref r) S') : WP (f_gauss_numbers [.int (n : Int), .int (k : Int)] S) Q := by
  unfold f_gauss_numbers
  rw [mkFn_wp]
  unfold b_gauss_numbers n_gauss_numbers
  simp only [List.map_cons, List.map_nil, List.length_cons, List.length_nil, List.cons_append, List.nil_append, List.replicate, List.getElem?_cons_zero, List.getElem?_cons_succ, List.set_cons_succ, List.set_cons_zero, WP_bind, WP_ok, WP_cut, q_var, q_c, q_bin, q_un, q_ofO, q_chain, q_tst, q_tstB, q_and2, q_or2, q_not1, q_andV, q_orV, q_notV, q_if, q_nil, q_cons, q_tup, q_lst, q_next, q_seq, q_expr, q_ret, q_retN, q_brk, q_cnt, q_sif, q_gnm, q_gtup, q_gcons, q_gnil, q_asg, q_call, q_callB, q_seqi, q_for, q_while, o_add, o_addI, o_sub, o_lt, o_le, o_gt, o_ge, o_neg, o_ixR, o_ixT, o_ixF, itemsT, itemsF, seqT, seqF, q_b1, q_b2, f_intI, f_intB, f_abs, f_max, f_min, f_lenT, f_lenF, f_list, f_tuple, q_gsb, ofB_bl, q_sl, q_pno, q_pat, q_lrg, q_meth, q_fld, q_rng1, Option.bind_some, Option.map_some, ofS_some, if_true, if_false, Bool.false_eq_true, decide_true, decide_false, ix0, ix1, ix2, wipe_nil, wipe_cons, q_yes, q_rng2, mkL, z1]
  rw [if_pos (by omega)]
  simp only [List.map_cons, List.map_nil, List.length_cons, List.length_nil, List.cons_append, List.nil_append, List.replicate, List.getElem?_cons_zero, List.getElem?_cons_succ, List.set_cons_succ, List.set_cons_zero, WP_bind, WP_ok, WP_cut, q_var, q_c, q_bin, q_un, q_ofO, q_chain, q_tst, q_tstB, q_and2, q_or2, q_not1, q_andV, q_orV, q_notV, q_if, q_nil, q_cons, q_tup, q_lst, q_next, q_seq, q_expr, q_ret, q_retN, q_brk, q_cnt, q_sif, q_gnm, q_gtup, q_gcons, q_gnil, q_asg, q_call, q_callB, q_seqi, q_for, q_while, o_add, o_addI, o_sub, o_lt, o_le, o_gt, o_ge, o_neg, o_ixR, o_ixT, o_ixF, itemsT, itemsF, seqT, seqF, q_b1, q_b2, f_intI, f_intB, f_abs, f_max, f_min, f_lenT, f_lenF, f_list, f_tuple, q_gsb, ofB_bl, q_sl, q_pno, q_pat, q_lrg, q_meth, q_fld, q_rng1, Option.bind_some, Option.map_some, ofS_some, if_true, if_false, Bool.false_eq_true, decide_true, decide_false, ix0, ix1, ix2, wipe_nil, wipe_cons, q_yes, q_rng2]
  refine wp_for k (fun j env S' => ∃ r a3 a4 a5, env = [some (.int (n : Int)), some (.int (k : Int)), some (.ref r), a3, a4, a5] ∧ Sub S S' ∧ S'[r]? = some (.lst (iL (T n j)))) (by omega)
    ⟨S.length, none, none, none, rfl, Sub.push _ _, by rw [push_at, T_0 hn]; rfl⟩ (fun j env S1 hj ⟨r, a3, a4, a5, he, s1, h1⟩ => ⟨_, jR_at (by omega), ?_⟩) fun env S1 ⟨r, a3, a4, a5, he, s1, h1⟩ => ⟨jR_end, ?_⟩
  · subst he
    obtain ⟨hd, hdl⟩ := T_div hn (show j < n by omega)
    obtain ⟨_, _, bT, lT⟩ := T_f hn (show j ≤ n by omega)
    obtain ⟨_, tT', bT', lT'⟩ := T_f hn (show j + 1 ≤ n by omega)
    have e1 : (n : Int) - (j : Int) - 1 = ((n - j - 1 : Nat) : Int) := by omega
    rw [q_gnm, WP_ok, q_seq, WP_bind]
    refine WP_mono (Q := fun f S2 => ∃ r1 r2, f = .nx [some (.int (n : Int)), some (.int (k : Int)), some (.ref r), some (.int (j : Int)), some (.ref r1), some (.ref r2)] ∧ Sub S1 S2 ∧ S2[r1]? = some (.lst (iL (ab (n - j - 1)))) ∧ S2[r2]? = some (.lst (iL (ab j)))) ?_ fun f S2 ⟨r1, r2, ef, s2, g1, g2⟩ => ?_
    · rw [q_asg, WP_bind, q_tup, WP_bind, q_cons, WP_bind]
      refine w_ab (j := n - j - 1) (by omega) (fun S' => by simp only [List.map_cons, List.map_nil, List.length_cons, List.length_nil, List.cons_append, List.nil_append, List.replicate, List.getElem?_cons_zero, List.getElem?_cons_succ, List.set_cons_succ, List.set_cons_zero, WP_bind, WP_ok, WP_cut, q_var, q_c, q_bin, q_un, q_ofO, q_chain, q_tst, q_tstB, q_and2, q_or2, q_not1, q_andV, q_orV, q_notV, q_if, q_nil, q_cons, q_tup, q_lst, q_next, q_seq, q_expr, q_ret, q_retN, q_brk, q_cnt, q_sif, q_gnm, q_gtup, q_gcons, q_gnil, q_asg, q_call, q_callB, q_seqi, q_for, q_while, o_add, o_addI, o_sub, o_lt, o_le, o_gt, o_ge, o_neg, o_ixR, o_ixT, o_ixF, itemsT, itemsF, seqT, seqF, q_b1, q_b2, f_intI, f_intB, f_abs, f_max, f_min, f_lenT, f_lenF, f_list, f_tuple, q_gsb, ofB_bl, q_sl, q_pno, q_pat, q_lrg, q_meth, q_fld, q_rng1, Option.bind_some, Option.map_some, ofS_some, if_true, if_false, Bool.false_eq_true, decide_true, decide_false, ix0, ix1, ix2, wipe_nil, wipe_cons, q_yes, q_rng2, Res.bind_ok, ofO_some, e1]) fun r1 S2 s2 g1 => ?_
      rw [WP_bind, q_cons, WP_bind]
      refine w_ab (j := j) (by omega) (fun S' => rfl) fun r2 S3 s3 g2 => ?_
      simp only [List.map_cons, List.map_nil, List.length_cons, List.length_nil, List.cons_append, List.nil_append, List.replicate, List.getElem?_cons_zero, List.getElem?_cons_succ, List.set_cons_succ, List.set_cons_zero, WP_bind, WP_ok, WP_cut, q_var, q_c, q_bin, q_un, q_ofO, q_chain, q_tst, q_tstB, q_and2, q_or2, q_not1, q_andV, q_orV, q_notV, q_if, q_nil, q_cons, q_tup, q_lst, q_next, q_seq, q_expr, q_ret, q_retN, q_brk, q_cnt, q_sif, q_gnm, q_gtup, q_gcons, q_gnil, q_asg, q_call, q_callB, q_seqi, q_for, q_while, o_add, o_addI, o_sub, o_lt, o_le, o_gt, o_ge, o_neg, o_ixR, o_ixT, o_ixF, itemsT, itemsF, seqT, seqF, q_b1, q_b2, f_intI, f_intB, f_abs, f_max, f_min, f_lenT, f_lenF, f_list, f_tuple, q_gsb, ofB_bl, q_sl, q_pno, q_pat, q_lrg, q_meth, q_fld, q_rng1, Option.bind_some, Option.map_some, ofS_some, if_true, if_false, Bool.false_eq_true, decide_true, decide_false, ix0, ix1, ix2, wipe_nil, wipe_cons, q_yes, q_rng2, z2, z2']
      exact ⟨_, _, rfl, s2.trans s3, s3 _ _ g1, g2⟩
    · subst ef
      simp only [List.map_cons, List.map_nil, List.length_cons, List.length_nil, List.cons_append, List.nil_append, List.replicate, List.getElem?_cons_zero, List.getElem?_cons_succ, List.set_cons_succ, List.set_cons_zero, WP_bind, WP_ok, WP_cut, q_var, q_c, q_bin, q_un, q_ofO, q_chain, q_tst, q_tstB, q_and2, q_or2, q_not1, q_andV, q_orV, q_notV, q_if, q_nil, q_cons, q_tup, q_lst, q_next, q_seq, q_expr, q_ret, q_retN, q_brk, q_cnt, q_sif, q_gnm, q_gtup, q_gcons, q_gnil, q_asg, q_call, q_callB, q_seqi, q_for, q_while, o_add, o_addI, o_sub, o_lt, o_le, o_gt, o_ge, o_neg, o_ixR, o_ixT, o_ixF, itemsT, itemsF, seqT, seqF, q_b1, q_b2, f_intI, f_intB, f_abs, f_max, f_min, f_lenT, f_lenF, f_list, f_tuple, q_gsb, ofB_bl, q_sl, q_pno, q_pat, q_lrg, q_meth, q_fld, q_rng1, Option.bind_some, Option.map_some, ofS_some, if_true, if_false, Bool.false_eq_true, decide_true, decide_false, ix0, ix1, ix2, wipe_nil, wipe_cons, q_yes, q_rng2]
      refine w_product (p := T n j) (q := ab (n - j - 1)) (A := 100) (B := 1) (.lst (s2 _ _ h1)) (.lst g1) (by omega) (by rw [ab_len]; omega) bT (ab_bn _) (by decide) fun r3 S3 s3 h3 => ?_
      rw [hd, prL_PM (by rw [ab_len]; omega)] at h3
      simp only [List.map_cons, List.map_nil, List.length_cons, List.length_nil, List.cons_append, List.nil_append, List.replicate, List.getElem?_cons_zero, List.getElem?_cons_succ, List.set_cons_succ, List.set_cons_zero, WP_bind, WP_ok, WP_cut, q_var, q_c, q_bin, q_un, q_ofO, q_chain, q_tst, q_tstB, q_and2, q_or2, q_not1, q_andV, q_orV, q_notV, q_if, q_nil, q_cons, q_tup, q_lst, q_next, q_seq, q_expr, q_ret, q_retN, q_brk, q_cnt, q_sif, q_gnm, q_gtup, q_gcons, q_gnil, q_asg, q_call, q_callB, q_seqi, q_for, q_while, o_add, o_addI, o_sub, o_lt, o_le, o_gt, o_ge, o_neg, o_ixR, o_ixT, o_ixF, itemsT, itemsF, seqT, seqF, q_b1, q_b2, f_intI, f_intB, f_abs, f_max, f_min, f_lenT, f_lenF, f_list, f_tuple, q_gsb, ofB_bl, q_sl, q_pno, q_pat, q_lrg, q_meth, q_fld, q_rng1, Option.bind_some, Option.map_some, ofS_some, if_true, if_false, Bool.false_eq_true, decide_true, decide_false, ix0, ix1, ix2, wipe_nil, wipe_cons, q_yes, q_rng2]
      have hp : 0 < (T n (j + 1)).length := by
        rcases Nat.eq_zero_or_pos (T n (j + 1)).length with z | z
        · have := List.eq_nil_of_length_eq_zero z
          rw [this] at hd hdl
          have h0 := mll_len [] (ab j)
          have h1 := tr_len (mll [] (ab j))
          simp only [List.length_nil, Nat.zero_add] at hdl
          have h2 : (PM [] (ab j)) = [] := rfl
          rw [h2] at hdl
          simp at hdl
        · exact z
      refine w_divided (g := T n (j + 1)) (u := ab j) (A := 100) (B := 1) (.lst h3) (.lst (s3 _ _ g2)) (by omega) hp (by rw [ab_len]; omega) (by rw [ab_len]; omega) (ab_last _) bT' (ab_bn _) (by decide) fun r4 S4 s4 h4 => ?_
      rw [tT'] at h4
      simp only [List.map_cons, List.map_nil, List.length_cons, List.length_nil, List.cons_append, List.nil_append, List.replicate, List.getElem?_cons_zero, List.getElem?_cons_succ, List.set_cons_succ, List.set_cons_zero, WP_bind, WP_ok, WP_cut, q_var, q_c, q_bin, q_un, q_ofO, q_chain, q_tst, q_tstB, q_and2, q_or2, q_not1, q_andV, q_orV, q_notV, q_if, q_nil, q_cons, q_tup, q_lst, q_next, q_seq, q_expr, q_ret, q_retN, q_brk, q_cnt, q_sif, q_gnm, q_gtup, q_gcons, q_gnil, q_asg, q_call, q_callB, q_seqi, q_for, q_while, o_add, o_addI, o_sub, o_lt, o_le, o_gt, o_ge, o_neg, o_ixR, o_ixT, o_ixF, itemsT, itemsF, seqT, seqF, q_b1, q_b2, f_intI, f_intB, f_abs, f_max, f_min, f_lenT, f_lenF, f_list, f_tuple, q_gsb, ofB_bl, q_sl, q_pno, q_pat, q_lrg, q_meth, q_fld, q_rng1, Option.bind_some, Option.map_some, ofS_some, if_true, if_false, Bool.false_eq_true, decide_true, decide_false, ix0, ix1, ix2, wipe_nil, wipe_cons, q_yes, q_rng2]
      exact ⟨_, _, _, _, rfl, ((s1.trans s2).trans s3).trans s4, h4⟩
  · subst he
    simp only [List.map_cons, List.map_nil, List.length_cons, List.length_nil, List.cons_append, List.nil_append, List.replicate, List.getElem?_cons_zero, List.getElem?_cons_succ, List.set_cons_succ, List.set_cons_zero, WP_bind, WP_ok, WP_cut, q_var, q_c, q_bin, q_un, q_ofO, q_chain, q_tst, q_tstB, q_and2, q_or2, q_not1, q_andV, q_orV, q_notV, q_if, q_nil, q_cons, q_tup, q_lst, q_next, q_seq, q_expr, q_ret, q_retN, q_brk, q_cnt, q_sif, q_gnm, q_gtup, q_gcons, q_gnil, q_asg, q_call, q_callB, q_seqi, q_for, q_while, o_add, o_addI, o_sub, o_lt, o_le, o_gt, o_ge, o_neg, o_ixR, o_ixT, o_ixF, itemsT, itemsF, seqT, seqF, q_b1, q_b2, f_intI, f_intB, f_abs, f_max, f_min, f_lenT, f_lenF, f_list, f_tuple, q_gsb, ofB_bl, q_sl, q_pno, q_pat, q_lrg, q_meth, q_fld, q_rng1, Option.bind_some, Option.map_some, ofS_some, if_true, if_false, Bool.false_eq_true, decide_true, decide_false, ix0, ix1, ix2, wipe_nil, wipe_cons, q_yes, q_rng2]
    exact hQ _ _ s1 h1
theorem w_gauss (hn : n ≤ 12) (hk : k ≤ n) (hQ : ∀ q S', Sub S S' → PO S' q (T n k) → Q (.ref q) S') : WP (f_gauss [.int (n : Int), .int (k : Int)] S) Q := by
  have e60 : (10 : Int) ^ 60 > 100 := by decide
  unfold f_gauss
  rw [mkFn_wp]
  unfold b_gauss n_gauss
  simp only [List.map_cons, List.map_nil, List.length_cons, List.length_nil, List.cons_append, List.nil_append, List.replicate, List.getElem?_cons_zero, List.getElem?_cons_succ, List.set_cons_succ, List.set_cons_zero, WP_bind, WP_ok, WP_cut, q_var, q_c, q_bin, q_un, q_ofO, q_chain, q_tst, q_tstB, q_and2, q_or2, q_not1, q_andV, q_orV, q_notV, q_if, q_nil, q_cons, q_tup, q_lst, q_next, q_seq, q_expr, q_ret, q_retN, q_brk, q_cnt, q_sif, q_gnm, q_gtup, q_gcons, q_gnil, q_asg, q_call, q_callB, q_seqi, q_for, q_while, o_add, o_addI, o_sub, o_lt, o_le, o_gt, o_ge, o_neg, o_ixR, o_ixT, o_ixF, itemsT, itemsF, seqT, seqF, q_b1, q_b2, f_intI, f_intB, f_abs, f_max, f_min, f_lenT, f_lenF, f_list, f_tuple, q_gsb, ofB_bl, q_sl, q_pno, q_pat, q_lrg, q_meth, q_fld, q_rng1, Option.bind_some, Option.map_some, ofS_some, if_true, if_false, Bool.false_eq_true, decide_true, decide_false, ix0, ix1, ix2, wipe_nil, wipe_cons, q_yes, q_rng2]
  refine w_reqw ⟨by omega, by omega⟩ (by omega) (by omega) ?_
  simp only [List.map_cons, List.map_nil, List.length_cons, List.length_nil, List.cons_append, List.nil_append, List.replicate, List.getElem?_cons_zero, List.getElem?_cons_succ, List.set_cons_succ, List.set_cons_zero, WP_bind, WP_ok, WP_cut, q_var, q_c, q_bin, q_un, q_ofO, q_chain, q_tst, q_tstB, q_and2, q_or2, q_not1, q_andV, q_orV, q_notV, q_if, q_nil, q_cons, q_tup, q_lst, q_next, q_seq, q_expr, q_ret, q_retN, q_brk, q_cnt, q_sif, q_gnm, q_gtup, q_gcons, q_gnil, q_asg, q_call, q_callB, q_seqi, q_for, q_while, o_add, o_addI, o_sub, o_lt, o_le, o_gt, o_ge, o_neg, o_ixR, o_ixT, o_ixF, itemsT, itemsF, seqT, seqF, q_b1, q_b2, f_intI, f_intB, f_abs, f_max, f_min, f_lenT, f_lenF, f_list, f_tuple, q_gsb, ofB_bl, q_sl, q_pno, q_pat, q_lrg, q_meth, q_fld, q_rng1, Option.bind_some, Option.map_some, ofS_some, if_true, if_false, Bool.false_eq_true, decide_true, decide_false, ix0, ix1, ix2, wipe_nil, wipe_cons, q_yes, q_rng2]
  refine w_reqw ⟨by omega, by omega⟩ (by omega) (by omega) ?_
  have d1 : decide ((k : Int) ≤ (n : Int)) = true := decide_eq_true (by omega)
  simp only [List.map_cons, List.map_nil, List.length_cons, List.length_nil, List.cons_append, List.nil_append, List.replicate, List.getElem?_cons_zero, List.getElem?_cons_succ, List.set_cons_succ, List.set_cons_zero, WP_bind, WP_ok, WP_cut, q_var, q_c, q_bin, q_un, q_ofO, q_chain, q_tst, q_tstB, q_and2, q_or2, q_not1, q_andV, q_orV, q_notV, q_if, q_nil, q_cons, q_tup, q_lst, q_next, q_seq, q_expr, q_ret, q_retN, q_brk, q_cnt, q_sif, q_gnm, q_gtup, q_gcons, q_gnil, q_asg, q_call, q_callB, q_seqi, q_for, q_while, o_add, o_addI, o_sub, o_lt, o_le, o_gt, o_ge, o_neg, o_ixR, o_ixT, o_ixF, itemsT, itemsF, seqT, seqF, q_b1, q_b2, f_intI, f_intB, f_abs, f_max, f_min, f_lenT, f_lenF, f_list, f_tuple, q_gsb, ofB_bl, q_sl, q_pno, q_pat, q_lrg, q_meth, q_fld, q_rng1, Option.bind_some, Option.map_some, ofS_some, if_true, if_false, Bool.false_eq_true, decide_true, decide_false, ix0, ix1, ix2, wipe_nil, wipe_cons, q_yes, q_rng2, d1]
  refine w_gaussnums hn hk fun r S1 s1 h1 => ?_
  simp only [List.map_cons, List.map_nil, List.length_cons, List.length_nil, List.cons_append, List.nil_append, List.replicate, List.getElem?_cons_zero, List.getElem?_cons_succ, List.set_cons_succ, List.set_cons_zero, WP_bind, WP_ok, WP_cut, q_var, q_c, q_bin, q_un, q_ofO, q_chain, q_tst, q_tstB, q_and2, q_or2, q_not1, q_andV, q_orV, q_notV, q_if, q_nil, q_cons, q_tup, q_lst, q_next, q_seq, q_expr, q_ret, q_retN, q_brk, q_cnt, q_sif, q_gnm, q_gtup, q_gcons, q_gnil, q_asg, q_call, q_callB, q_seqi, q_for, q_while, o_add, o_addI, o_sub, o_lt, o_le, o_gt, o_ge, o_neg, o_ixR, o_ixT, o_ixF, itemsT, itemsF, seqT, seqF, q_b1, q_b2, f_intI, f_intB, f_abs, f_max, f_min, f_lenT, f_lenF, f_list, f_tuple, q_gsb, ofB_bl, q_sl, q_pno, q_pat, q_lrg, q_meth, q_fld, q_rng1, Option.bind_some, Option.map_some, ofS_some, if_true, if_false, Bool.false_eq_true, decide_true, decide_false, ix0, ix1, ix2, wipe_nil, wipe_cons, q_yes, q_rng2]
  refine w_polyof h1 (by have := (T_f hn hk).2.2.2; omega) fun q S2 s2 o2 => ?_
  simp only [List.map_cons, List.map_nil, List.length_cons, List.length_nil, List.cons_append, List.nil_append, List.replicate, List.getElem?_cons_zero, List.getElem?_cons_succ, List.set_cons_succ, List.set_cons_zero, WP_bind, WP_ok, WP_cut, q_var, q_c, q_bin, q_un, q_ofO, q_chain, q_tst, q_tstB, q_and2, q_or2, q_not1, q_andV, q_orV, q_notV, q_if, q_nil, q_cons, q_tup, q_lst, q_next, q_seq, q_expr, q_ret, q_retN, q_brk, q_cnt, q_sif, q_gnm, q_gtup, q_gcons, q_gnil, q_asg, q_call, q_callB, q_seqi, q_for, q_while, o_add, o_addI, o_sub, o_lt, o_le, o_gt, o_ge, o_neg, o_ixR, o_ixT, o_ixF, itemsT, itemsF, seqT, seqF, q_b1, q_b2, f_intI, f_intB, f_abs, f_max, f_min, f_lenT, f_lenF, f_list, f_tuple, q_gsb, ofB_bl, q_sl, q_pno, q_pat, q_lrg, q_meth, q_fld, q_rng1, Option.bind_some, Option.map_some, ofS_some, if_true, if_false, Bool.false_eq_true, decide_true, decide_false, ix0, ix1, ix2, wipe_nil, wipe_cons, q_yes, q_rng2]
  exact hQ _ _ (s1.trans s2) o2
theorem w_gauss0 (hn : n ≤ 12) (hk : k ≤ 12) (h : n < k) (hQ : ∀ q S', Sub S S' → PO S' q [] → Q (.ref q) S') : WP (f_gauss [.int (n : Int), .int (k : Int)] S) Q := by
  have e60 : (10 : Int) ^ 60 > 100 := by decide
  unfold f_gauss
  rw [mkFn_wp]
  unfold b_gauss n_gauss
  simp only [List.map_cons, List.map_nil, List.length_cons, List.length_nil, List.cons_append, List.nil_append, List.replicate, List.getElem?_cons_zero, List.getElem?_cons_succ, List.set_cons_succ, List.set_cons_zero, WP_bind, WP_ok, WP_cut, q_var, q_c, q_bin, q_un, q_ofO, q_chain, q_tst, q_tstB, q_and2, q_or2, q_not1, q_andV, q_orV, q_notV, q_if, q_nil, q_cons, q_tup, q_lst, q_next, q_seq, q_expr, q_ret, q_retN, q_brk, q_cnt, q_sif, q_gnm, q_gtup, q_gcons, q_gnil, q_asg, q_call, q_callB, q_seqi, q_for, q_while, o_add, o_addI, o_sub, o_lt, o_le, o_gt, o_ge, o_neg, o_ixR, o_ixT, o_ixF, itemsT, itemsF, seqT, seqF, q_b1, q_b2, f_intI, f_intB, f_abs, f_max, f_min, f_lenT, f_lenF, f_list, f_tuple, q_gsb, ofB_bl, q_sl, q_pno, q_pat, q_lrg, q_meth, q_fld, q_rng1, Option.bind_some, Option.map_some, ofS_some, if_true, if_false, Bool.false_eq_true, decide_true, decide_false, ix0, ix1, ix2, wipe_nil, wipe_cons, q_yes, q_rng2]
  refine w_reqw ⟨by omega, by omega⟩ (by omega) (by omega) ?_
  simp only [List.map_cons, List.map_nil, List.length_cons, List.length_nil, List.cons_append, List.nil_append, List.replicate, List.getElem?_cons_zero, List.getElem?_cons_succ, List.set_cons_succ, List.set_cons_zero, WP_bind, WP_ok, WP_cut, q_var, q_c, q_bin, q_un, q_ofO, q_chain, q_tst, q_tstB, q_and2, q_or2, q_not1, q_andV, q_orV, q_notV, q_if, q_nil, q_cons, q_tup, q_lst, q_next, q_seq, q_expr, q_ret, q_retN, q_brk, q_cnt, q_sif, q_gnm, q_gtup, q_gcons, q_gnil, q_asg, q_call, q_callB, q_seqi, q_for, q_while, o_add, o_addI, o_sub, o_lt, o_le, o_gt, o_ge, o_neg, o_ixR, o_ixT, o_ixF, itemsT, itemsF, seqT, seqF, q_b1, q_b2, f_intI, f_intB, f_abs, f_max, f_min, f_lenT, f_lenF, f_list, f_tuple, q_gsb, ofB_bl, q_sl, q_pno, q_pat, q_lrg, q_meth, q_fld, q_rng1, Option.bind_some, Option.map_some, ofS_some, if_true, if_false, Bool.false_eq_true, decide_true, decide_false, ix0, ix1, ix2, wipe_nil, wipe_cons, q_yes, q_rng2]
  refine w_reqw ⟨by omega, by omega⟩ (by omega) (by omega) ?_
  have d1 : decide ((k : Int) ≤ (n : Int)) = false := decide_eq_false (by omega)
  simp only [List.map_cons, List.map_nil, List.length_cons, List.length_nil, List.cons_append, List.nil_append, List.replicate, List.getElem?_cons_zero, List.getElem?_cons_succ, List.set_cons_succ, List.set_cons_zero, WP_bind, WP_ok, WP_cut, q_var, q_c, q_bin, q_un, q_ofO, q_chain, q_tst, q_tstB, q_and2, q_or2, q_not1, q_andV, q_orV, q_notV, q_if, q_nil, q_cons, q_tup, q_lst, q_next, q_seq, q_expr, q_ret, q_retN, q_brk, q_cnt, q_sif, q_gnm, q_gtup, q_gcons, q_gnil, q_asg, q_call, q_callB, q_seqi, q_for, q_while, o_add, o_addI, o_sub, o_lt, o_le, o_gt, o_ge, o_neg, o_ixR, o_ixT, o_ixF, itemsT, itemsF, seqT, seqF, q_b1, q_b2, f_intI, f_intB, f_abs, f_max, f_min, f_lenT, f_lenF, f_list, f_tuple, q_gsb, ofB_bl, q_sl, q_pno, q_pat, q_lrg, q_meth, q_fld, q_rng1, Option.bind_some, Option.map_some, ofS_some, if_true, if_false, Bool.false_eq_true, decide_true, decide_false, ix0, ix1, ix2, wipe_nil, wipe_cons, q_yes, q_rng2, d1, mkL, show (0 : Nat) ≤ sl from Nat.zero_le _]
  refine w_polyof (l := []) push_at (by decide) fun q S2 s2 o2 => ?_
  simp only [List.map_cons, List.map_nil, List.length_cons, List.length_nil, List.cons_append, List.nil_append, List.replicate, List.getElem?_cons_zero, List.getElem?_cons_succ, List.set_cons_succ, List.set_cons_zero, WP_bind, WP_ok, WP_cut, q_var, q_c, q_bin, q_un, q_ofO, q_chain, q_tst, q_tstB, q_and2, q_or2, q_not1, q_andV, q_orV, q_notV, q_if, q_nil, q_cons, q_tup, q_lst, q_next, q_seq, q_expr, q_ret, q_retN, q_brk, q_cnt, q_sif, q_gnm, q_gtup, q_gcons, q_gnil, q_asg, q_call, q_callB, q_seqi, q_for, q_while, o_add, o_addI, o_sub, o_lt, o_le, o_gt, o_ge, o_neg, o_ixR, o_ixT, o_ixF, itemsT, itemsF, seqT, seqF, q_b1, q_b2, f_intI, f_intB, f_abs, f_max, f_min, f_lenT, f_lenF, f_list, f_tuple, q_gsb, ofB_bl, q_sl, q_pno, q_pat, q_lrg, q_meth, q_fld, q_rng1, Option.bind_some, Option.map_some, ofS_some, if_true, if_false, Bool.false_eq_true, decide_true, decide_false, ix0, ix1, ix2, wipe_nil, wipe_cons, q_yes, q_rng2]
  exact hQ _ _ ((Sub.push _ _).trans s2) o2
end
end Zk16

set_option exponentiation.threshold 3000
namespace Zk16
open PySem PySem.Spec Z
/-! values of polynomials -/
def ev (x : Int) (l : List Int) : Int := l.foldr (fun e f => f * x + e) 0
theorem hv_ev (x : Int) (l : List Int) : hv x l.reverse = ev x l := by unfold hv ev; rw [List.foldl_reverse]
theorem ev_nil (x : Int) : ev x [] = 0 := rfl
theorem ev_cons (x a : Int) (l : List Int) : ev x (a :: l) = ev x l * x + a := rfl
theorem ev_zero {x : Int} : ∀ {l : List Int}, (∀ n, cf l n = 0) → ev x l = 0
  | [], _ => rfl
  | a :: l, h => by
    have h0 : a = 0 := h 0
    rw [ev_cons, ev_zero fun n => h (n + 1), h0]; simp
theorem ev_ext {x : Int} : ∀ {l m : List Int}, (∀ n, cf l n = cf m n) → ev x l = ev x m
  | [], m, h => (ev_zero fun n => (h n).symm).symm
  | a :: l, [], h => ev_zero h
  | a :: l, b :: m, h => by
    have h0 : a = b := h 0
    rw [ev_cons, ev_cons, ev_ext fun n => h (n + 1), h0]
theorem ev_adl (x : Int) : ∀ l m : List Int, ev x (adl l m) = ev x l + ev x m
  | [], m => by simp [adl, ev_nil]
  | a :: l, [] => by simp [adl, ev_nil]
  | a :: l, b :: m => by
    rw [adl, ev_cons, ev_cons, ev_cons, ev_adl x l m, Int.add_mul]; omega
theorem ev_smul (x c : Int) : ∀ l : List Int, ev x (l.map (c * ·)) = c * ev x l
  | [] => by simp [ev_nil]
  | a :: l => by rw [List.map_cons, ev_cons, ev_cons, ev_smul x c l, Int.mul_add, Int.mul_assoc]
theorem ev_mll (x : Int) : ∀ p q : List Int, ev x (mll p q) = ev x p * ev x q
  | [], q => by simp [mll, ev_nil]
  | a :: p, q => by
    rw [mll, ev_adl, ev_smul, ev_cons, ev_cons, ev_mll x p q, Int.add_mul, Int.add_zero, Int.mul_right_comm]; omega
theorem ev_tr (x : Int) (l : List Int) : ev x (tr l) = ev x l := ev_ext (cf_tr l)
theorem ev_PM (x : Int) (p q : List Int) : ev x (PM p q) = ev x p * ev x q := by unfold PM; rw [ev_tr, ev_mll]
theorem cf_pd (p : List Int) (N n : Nat) : cf (pd p N) n = cf p n := by
  unfold pd cf
  rw [List.getD_eq_getElem?_getD, List.getD_eq_getElem?_getD]
  by_cases h : n < p.length
  · rw [List.getElem?_append_left h]
  · rw [List.getElem?_append_right (by omega), List.getElem?_eq_none (l := p) (by omega), List.getElem?_replicate]
    split <;> rfl
theorem cf_SM (f : Int) (p q : List Int) (n : Nat) : cf (SM f p q) n = cf p n + f * cf q n := by
  unfold SM SMl
  rw [cf_tr, ← cf_pd p (max p.length q.length) n, ← cf_pd q (max p.length q.length) n]
  have l1 : (pd p (max p.length q.length)).length = max p.length q.length := pd_len (by omega)
  have l2 : (pd q (max p.length q.length)).length = max p.length q.length := pd_len (by omega)
  generalize pd p (max p.length q.length) = u at *
  generalize pd q (max p.length q.length) = v at *
  by_cases h : n < u.length
  · have h2 : n < v.length := by omega
    rw [cf_get h, cf_get h2, cf_get (by rw [List.length_map, List.length_zip]; omega), List.getElem_map, List.getElem_zip]
  · have hm : ((List.zip u v).map fun z => z.1 + f * z.2).length ≤ n := by rw [List.length_map, List.length_zip]; omega
    rw [cf_out hm, cf_out (l := u) (by omega), cf_out (l := v) (by omega)]; simp
theorem ev_SM (x f : Int) (p q : List Int) : ev x (SM f p q) = ev x p + f * ev x q := by
  rw [← ev_smul, ← ev_adl]
  exact ev_ext fun n => by rw [cf_SM, cf_adl, cf_smul]
theorem ev_xp (x : Int) : ∀ m : Nat, ev x (xp m) = x ^ m
  | 0 => by unfold xp; rw [show List.replicate 0 (0 : Int) ++ [1] = [1] from rfl, ev_cons, ev_nil]; simp
  | m + 1 => by
    have e : xp (m + 1) = 0 :: xp m := by unfold xp; rw [List.replicate_succ]; rfl
    rw [e, ev_cons, ev_xp x m, Int.pow_succ]; omega
/-- small coefficients are told by one value -/
theorem ev_inj {B : Int} (hB : 0 < B) : ∀ {l m : List Int}, (∀ x ∈ l, 2 * x.natAbs < B.natAbs) → (∀ x ∈ m, 2 * x.natAbs < B.natAbs) → ev B l = ev B m → ∀ n, cf l n = cf m n := by
  have key : ∀ {a b u v : Int}, 2 * a.natAbs < B.natAbs → 2 * b.natAbs < B.natAbs → u * B + a = v * B + b → a = b ∧ u = v := fun {a b u v} ha hb h => by
    have e : (u - v) * B = b - a := by rw [Int.sub_mul]; omega
    have : u - v = 0 := by
      rcases Int.lt_trichotomy (u - v) 0 with z | z | z
      · have h1 : (u - v) * B ≤ (-1) * B := Int.mul_le_mul_of_nonneg_right (by omega) (by omega)
        omega
      · exact z
      · have h1 : 1 * B ≤ (u - v) * B := Int.mul_le_mul_of_nonneg_right (by omega) (by omega)
        omega
    rw [this] at e
    omega
  have zero : ∀ {l : List Int}, (∀ x ∈ l, 2 * x.natAbs < B.natAbs) → ev B l = 0 → ∀ n, cf l n = 0 := by
    intro l
    induction l with
    | nil => intro _ _ n; rfl
    | cons a l ih =>
      intro hl h n
      rw [ev_cons] at h
      obtain ⟨h1, h2⟩ := key (b := 0) (v := 0) (hl a List.mem_cons_self) (by simp; omega) (show ev B l * B + a = 0 * B + 0 by omega)
      cases n with
      | zero => exact h1
      | succ n => exact ih (fun x hx => hl x (List.mem_cons_of_mem _ hx)) h2 n
  intro l
  induction l with
  | nil =>
    intro m hl hm h n
    rw [zero hm h.symm n]; rfl
  | cons a l ih =>
    intro m hl hm h n
    cases m with
    | nil => rw [zero hl h n]; rfl
    | cons b m =>
      rw [ev_cons, ev_cons] at h
      obtain ⟨h1, h2⟩ := key (hl a List.mem_cons_self) (hm b List.mem_cons_self) h
      cases n with
      | zero => exact h1
      | succ n => exact ih (fun x hx => hl x (List.mem_cons_of_mem _ hx)) (fun x hx => hm x (List.mem_cons_of_mem _ hx)) h2 n
/-! the polynomials of the tables of a rank -/
def fac (w k : Nat) : List Int := SM (-1) (xp w) (xp k)
def trL (g : List Int) (w : Nat) : Nat → List Int
  | 0 => g
  | k + 1 => PM (trL g w k) (fac w k)
def G (h r : Nat) : List Int := if r ≤ h then T h r else []
def TR (h w r : Nat) : List Int := trL (G h r) w r
def fc (x : Int) (w : Nat) : Nat → Int
  | 0 => 1
  | k + 1 => fc x w k * (x ^ w - x ^ k)
theorem ev_trL (x : Int) (g : List Int) (w : Nat) : ∀ k, ev x (trL g w k) = ev x g * fc x w k
  | 0 => by unfold trL fc; simp
  | k + 1 => by
    unfold trL fc fac
    rw [ev_PM, ev_trL x g w k, ev_SM, ev_xp, ev_xp, Int.mul_assoc]
    congr 2
    omega
theorem xp_len (m : Nat) : (xp m).length = m + 1 := by unfold xp; simp
theorem xp_bn (m : Nat) : Bn (2 ^ 1) (xp m) := fun x hx => by
  unfold xp at hx
  rcases List.mem_append.mp hx with hx | hx
  · rw [(List.mem_replicate.mp hx).2]; decide
  · rw [List.mem_singleton.mp hx]; decide
theorem xp_last (m : Nat) : cf (xp m) ((xp m).length - 1) = 1 := by
  rw [xp_len, show m + 1 - 1 = m by omega]
  unfold xp cf
  rw [List.getD_eq_getElem?_getD, List.getElem?_append_right (by simp)]
  simp
theorem xp_tr (m : Nat) : tr (xp m) = xp m := tr_fix (.inr (by rw [xp_last]; decide))
theorem xp_list {m : Nat} : (iL (List.replicate m 0) ++ [D.int 1]) = iL (xp m) := by
  unfold xp iL
  simp
theorem fac_len {w k : Nat} (hw : w ≤ 12) (hk : k ≤ 12) : (fac w k).length ≤ 13 := by
  have := SM_len (f := -1) (p := xp w) (q := xp k)
  rw [xp_len, xp_len] at this
  unfold fac
  omega
theorem fac_bn (w k : Nat) : Bn (2 ^ 2) (fac w k) := (xp_bn w).SM (xp_bn k) (by decide)
theorem trL_len {g : List Int} {w : Nat} (hw : w ≤ 12) (hg : g.length ≤ 40) : ∀ {k : Nat}, k ≤ 12 → (trL g w k).length ≤ 40 + 13 * k
  | 0, _ => by unfold trL; omega
  | k + 1, hk => by
    have h1 := trL_len hw hg (k := k) (by omega)
    have h2 := fac_len hw (show k ≤ 12 by omega)
    have h3 := PM_len (trL g w k) (fac w k)
    unfold trL
    omega
theorem trL_bn {g : List Int} {w : Nat} (hw : w ≤ 12) (hg : g.length ≤ 40) (bg : Bn (2 ^ 100) g) : ∀ {k : Nat}, k ≤ 12 → Bn (2 ^ (100 + 10 * k)) (trL g w k)
  | 0, _ => by unfold trL; exact bg
  | k + 1, hk => by
    have h1 := trL_bn hw hg bg (k := k) (by omega)
    have hl := trL_len hw hg (k := k) (by omega)
    unfold trL
    refine (h1.PM (fac_bn w k)).mono ?_
    have e : (2 : Nat) ^ (100 + 10 * (k + 1)) = 2 ^ 8 * (2 ^ (100 + 10 * k) * 2 ^ 2) := by
      rw [← Nat.pow_add, ← Nat.pow_add]; congr 1; omega
    rw [e]
    exact Nat.mul_le_mul_right _ (by omega)
theorem G_len {h r : Nat} (hh : h ≤ 12) : (G h r).length ≤ 40 := by
  unfold G
  split
  · exact (T_f hh (by assumption)).2.2.2
  · simp
theorem G_bn {h r : Nat} (hh : h ≤ 12) : Bn (2 ^ 100) (G h r) := by
  unfold G
  split
  · exact (T_f hh (by assumption)).2.2.1
  · exact fun x hx => nomatch hx
theorem G_tr {h r : Nat} (hh : h ≤ 12) : tr (G h r) = G h r := by
  unfold G
  split
  · exact (T_f hh (by assumption)).2.1
  · rfl
theorem TR_len {h w r : Nat} (hh : h ≤ 12) (hw : w ≤ 12) (hr : r ≤ 12) : (TR h w r).length ≤ 196 := by
  have := trL_len hw (G_len (r := r) hh) hr
  unfold TR
  omega
theorem TR_bn {h w r : Nat} (hh : h ≤ 12) (hw : w ≤ 12) (hr : r ≤ 12) : Bn (2 ^ 220) (TR h w r) := (trL_bn hw (G_len (r := r) hh) (G_bn hh) hr).mono (Nat.pow_le_pow_right (by decide) (by omega))
theorem TR_tr {h w r : Nat} (hh : h ≤ 12) : tr (TR h w r) = TR h w r := by
  unfold TR
  cases r with
  | zero => exact G_tr hh
  | succ r => exact tr_PM _ _
theorem ev_TR (x : Int) (h w r : Nat) : ev x (TR h w r) = ev x (G h r) * fc x w r := ev_trL x _ w r
theorem TR_inj {h w r h' w' r' : Nat} (a1 : h ≤ 12) (a2 : w ≤ 12) (a3 : r ≤ 12) (b1 : h' ≤ 12) (b2 : w' ≤ 12) (b3 : r' ≤ 12) (e : ev (2 ^ 230) (TR h w r) = ev (2 ^ 230) (TR h' w' r')) : TR h w r = TR h' w' r' := by
  have e1 : (2 : Nat) ^ 230 = 2 ^ 220 * 1024 := by decide
  have e2 : ((2 : Int) ^ 230).natAbs = 2 ^ 230 := by decide
  have sm : ∀ {l : List Int}, Bn (2 ^ 220) l → ∀ x ∈ l, 2 * x.natAbs < ((2 : Int) ^ 230).natAbs := fun b x hx => by
    have := b x hx
    have : 0 < 2 ^ 220 := Nat.pow_pos (by decide)
    rw [e2, e1]
    omega
  exact tr_ext' (ev_inj (by decide) (sm (TR_bn a1 a2 a3)) (sm (TR_bn b1 b2 b3)) e) (TR_tr a1) (TR_tr b1)
/-! what is found by reckoning -/
def k1 (h w r : Nat) : Bool := ev (2 ^ 230) (G h r) * fc (2 ^ 230) w r == ev (2 ^ 230) (G w r) * fc (2 ^ 230) h r && ((ev (2 ^ 230) (G h r) * fc (2 ^ 230) w r == 0) == decide (min h w < r))
theorem k1_ok : (allR 13 fun h => allR 13 fun w => allR 13 fun r => k1 h w r) = true := by decide +kernel
def k2 (h w : Nat) : Bool := [0, 1, 2, 3, 4, 10, -1].all fun x => ((List.range 13).map fun r => ev x (G h r) * fc x w r).sum == x ^ (h * w)
theorem k2_ok : (allR 13 fun h => allR 13 fun w => k2 h w) = true := by decide +kernel
def k3 (s : Nat) : Bool := [2, 3, 5, 7].all fun x => ev x (G s s) * fc x s s == fc x s s
theorem k3_ok : (allR 13 fun s => k3 s) = true := by decide +kernel
theorem TR_sym {h w r : Nat} (hh : h ≤ 12) (hw : w ≤ 12) (hr : r ≤ 12) : TR h w r = TR w h r := by
  have h := allR_of (allR_of (allR_of k1_ok (show h < 13 by omega)) (show w < 13 by omega)) (show r < 13 by omega)
  unfold k1 at h
  simp only [Bool.and_eq_true, beq_iff_eq] at h
  exact TR_inj hh hw hr hw hh hr (by rw [ev_TR, ev_TR]; exact h.1)
theorem TR_nil {h w r : Nat} (hh : h ≤ 12) (hw : w ≤ 12) (hr : r ≤ 12) : decide (TR h w r = []) = decide (min h w < r) := by
  have z := allR_of (allR_of (allR_of k1_ok (show h < 13 by omega)) (show w < 13 by omega)) (show r < 13 by omega)
  unfold k1 at z
  simp only [Bool.and_eq_true, beq_iff_eq] at z
  rw [← z.2, ← ev_TR]
  by_cases e : TR h w r = []
  · rw [e, ev_nil]; simp
  · have e0 : ev (2 ^ 230) (TR h w r) ≠ 0 := fun q => e (by
      have e1 : TR h w r = TR 0 0 1 := TR_inj hh hw hr (by decide) (by decide) (by decide) (by rw [q, ev_TR]; decide)
      rw [e1]; decide +kernel)
    rw [decide_eq_false e, beq_eq_false_iff_ne.mpr e0]
theorem TR_sum {h w : Nat} {x : Int} (hh : h ≤ 12) (hw : w ≤ 12) (hx : x ∈ ([0, 1, 2, 3, 4, 10, -1] : List Int)) : ((List.range 13).map fun r => ev x (TR h w r)).sum = x ^ (h * w) := by
  have z := allR_of (allR_of k2_ok (show h < 13 by omega)) (show w < 13 by omega)
  unfold k2 at z
  have z := List.all_eq_true.mp z x hx
  simp only [beq_iff_eq] at z
  rw [← z]
  congr 1
  exact List.map_congr_left fun r _ => ev_TR x h w r
theorem TR_turn {s : Nat} {x : Int} (hs : s ≤ 12) (hx : x ∈ ([2, 3, 5, 7] : List Int)) : ev x (TR s s s) = fc x s s := by
  have z := allR_of k3_ok (show s < 13 by omega)
  unfold k3 at z
  have z := List.all_eq_true.mp z x hx
  simp only [beq_iff_eq] at z
  rw [ev_TR, z]
end Zk16

set_option exponentiation.threshold 3000
namespace Z
open PySem PySem.Spec
theorem oIMul_ok {S : Store} {i j : Int} (h : (-(2 ^ 64) < i ∧ i < 2 ^ 64) ∨ (-(2 ^ 64) < j ∧ j < 2 ^ 64)) : oIMul (.int i) (.int j) S = some (.int (i * j), S) := by
  show (if mul64 i j = true then _ else _) = _
  rw [if_pos (by unfold mul64; simpa using h)]
theorem pow_bd {p : Int} {B n : Nat} (h : p.natAbs ≤ B) : (p ^ n).natAbs ≤ B ^ n := by
  rw [Int.natAbs_pow]; exact Nat.pow_le_pow_left h n
end Z
namespace Zk16
open PySem PySem.Spec Z
section
variable {S : Store} {x y : D} {g u l : List Int} {Q : D → Store → Prop} {m n k s h w r i : Nat} {p : Int}
theorem w_powin (hp : -(2 ^ 64) < p ∧ p < 2 ^ 64) (hn : n ≤ 100000) (hQ : Q (.int (p ^ n)) S) : WP (f_power_in [.int p, .int (n : Int)] S) Q := by
  unfold f_power_in
  rw [mkFn_wp]
  unfold b_power_in n_power_in
  simp only [List.map_cons, List.map_nil, List.length_cons, List.length_nil, List.cons_append, List.nil_append, List.replicate, List.getElem?_cons_zero, List.getElem?_cons_succ, List.set_cons_succ, List.set_cons_zero, WP_bind, WP_ok, WP_cut, q_var, q_c, q_bin, q_un, q_ofO, q_chain, q_tst, q_tstB, q_and2, q_or2, q_not1, q_andV, q_orV, q_notV, q_if, q_nil, q_cons, q_tup, q_lst, q_next, q_seq, q_expr, q_ret, q_retN, q_brk, q_cnt, q_sif, q_gnm, q_gtup, q_gcons, q_gnil, q_asg, q_call, q_callB, q_seqi, q_for, q_while, o_add, o_addI, o_sub, o_lt, o_le, o_gt, o_ge, o_neg, o_ixR, o_ixT, o_ixF, itemsT, itemsF, seqT, seqF, q_b1, q_b2, f_intI, f_intB, f_abs, f_max, f_min, f_lenT, f_lenF, f_list, f_tuple, q_gsb, ofB_bl, q_sl, q_pno, q_pat, q_lrg, q_meth, q_fld, q_rng1, Option.bind_some, Option.map_some, ofS_some, if_true, if_false, Bool.false_eq_true, decide_true, decide_false, ix0, ix1, ix2, wipe_nil, wipe_cons, q_yes, q_rng2]
  rw [if_pos (by omega)]
  simp only [List.map_cons, List.map_nil, List.length_cons, List.length_nil, List.cons_append, List.nil_append, List.replicate, List.getElem?_cons_zero, List.getElem?_cons_succ, List.set_cons_succ, List.set_cons_zero, WP_bind, WP_ok, WP_cut, q_var, q_c, q_bin, q_un, q_ofO, q_chain, q_tst, q_tstB, q_and2, q_or2, q_not1, q_andV, q_orV, q_notV, q_if, q_nil, q_cons, q_tup, q_lst, q_next, q_seq, q_expr, q_ret, q_retN, q_brk, q_cnt, q_sif, q_gnm, q_gtup, q_gcons, q_gnil, q_asg, q_call, q_callB, q_seqi, q_for, q_while, o_add, o_addI, o_sub, o_lt, o_le, o_gt, o_ge, o_neg, o_ixR, o_ixT, o_ixF, itemsT, itemsF, seqT, seqF, q_b1, q_b2, f_intI, f_intB, f_abs, f_max, f_min, f_lenT, f_lenF, f_list, f_tuple, q_gsb, ofB_bl, q_sl, q_pno, q_pat, q_lrg, q_meth, q_fld, q_rng1, Option.bind_some, Option.map_some, ofS_some, if_true, if_false, Bool.false_eq_true, decide_true, decide_false, ix0, ix1, ix2, wipe_nil, wipe_cons, q_yes, q_rng2]
  refine wp_for n (fun j env S' => ∃ a3, env = [some (.int p), some (.int (n : Int)), some (.int (p ^ j)), a3] ∧ S' = S) (by omega) ⟨none, by simp⟩ (fun j env S1 hj ⟨a3, he, e1⟩ => ⟨_, jR_at (by omega), ?_⟩) fun env S1 ⟨a3, he, e1⟩ => ⟨jR_end, ?_⟩
  · subst he e1
    simp only [List.map_cons, List.map_nil, List.length_cons, List.length_nil, List.cons_append, List.nil_append, List.replicate, List.getElem?_cons_zero, List.getElem?_cons_succ, List.set_cons_succ, List.set_cons_zero, WP_bind, WP_ok, WP_cut, q_var, q_c, q_bin, q_un, q_ofO, q_chain, q_tst, q_tstB, q_and2, q_or2, q_not1, q_andV, q_orV, q_notV, q_if, q_nil, q_cons, q_tup, q_lst, q_next, q_seq, q_expr, q_ret, q_retN, q_brk, q_cnt, q_sif, q_gnm, q_gtup, q_gcons, q_gnil, q_asg, q_call, q_callB, q_seqi, q_for, q_while, o_add, o_addI, o_sub, o_lt, o_le, o_gt, o_ge, o_neg, o_ixR, o_ixT, o_ixF, itemsT, itemsF, seqT, seqF, q_b1, q_b2, f_intI, f_intB, f_abs, f_max, f_min, f_lenT, f_lenF, f_list, f_tuple, q_gsb, ofB_bl, q_sl, q_pno, q_pat, q_lrg, q_meth, q_fld, q_rng1, Option.bind_some, Option.map_some, ofS_some, if_true, if_false, Bool.false_eq_true, decide_true, decide_false, ix0, ix1, ix2, wipe_nil, wipe_cons, q_yes, q_rng2, q_aug, oIMul_ok (.inr hp)]
    exact ⟨_, by rw [Int.pow_succ], trivial⟩
  · subst he e1
    simp only [List.map_cons, List.map_nil, List.length_cons, List.length_nil, List.cons_append, List.nil_append, List.replicate, List.getElem?_cons_zero, List.getElem?_cons_succ, List.set_cons_succ, List.set_cons_zero, WP_bind, WP_ok, WP_cut, q_var, q_c, q_bin, q_un, q_ofO, q_chain, q_tst, q_tstB, q_and2, q_or2, q_not1, q_andV, q_orV, q_notV, q_if, q_nil, q_cons, q_tup, q_lst, q_next, q_seq, q_expr, q_ret, q_retN, q_brk, q_cnt, q_sif, q_gnm, q_gtup, q_gcons, q_gnil, q_asg, q_call, q_callB, q_seqi, q_for, q_while, o_add, o_addI, o_sub, o_lt, o_le, o_gt, o_ge, o_neg, o_ixR, o_ixT, o_ixF, itemsT, itemsF, seqT, seqF, q_b1, q_b2, f_intI, f_intB, f_abs, f_max, f_min, f_lenT, f_lenF, f_list, f_tuple, q_gsb, ofB_bl, q_sl, q_pno, q_pat, q_lrg, q_meth, q_fld, q_rng1, Option.bind_some, Option.map_some, ofS_some, if_true, if_false, Bool.false_eq_true, decide_true, decide_false, ix0, ix1, ix2, wipe_nil, wipe_cons, q_yes, q_rng2]
    exact hQ
theorem w_lpow {B : Nat} (hp : p.natAbs ≤ 2 ^ B) (hB : B * n + B ≤ 100000) (hn : n ≤ 10000) (hQ : Q (.int (p ^ n)) S) : WP (f__law_power [.int p, .int (n : Int)] S) Q := by
  unfold f__law_power
  rw [mkFn_wp]
  unfold b__law_power n__law_power
  simp only [List.map_cons, List.map_nil, List.length_cons, List.length_nil, List.cons_append, List.nil_append, List.replicate, List.getElem?_cons_zero, List.getElem?_cons_succ, List.set_cons_succ, List.set_cons_zero, WP_bind, WP_ok, WP_cut, q_var, q_c, q_bin, q_un, q_ofO, q_chain, q_tst, q_tstB, q_and2, q_or2, q_not1, q_andV, q_orV, q_notV, q_if, q_nil, q_cons, q_tup, q_lst, q_next, q_seq, q_expr, q_ret, q_retN, q_brk, q_cnt, q_sif, q_gnm, q_gtup, q_gcons, q_gnil, q_asg, q_call, q_callB, q_seqi, q_for, q_while, o_add, o_addI, o_sub, o_lt, o_le, o_gt, o_ge, o_neg, o_ixR, o_ixT, o_ixF, itemsT, itemsF, seqT, seqF, q_b1, q_b2, f_intI, f_intB, f_abs, f_max, f_min, f_lenT, f_lenF, f_list, f_tuple, q_gsb, ofB_bl, q_sl, q_pno, q_pat, q_lrg, q_meth, q_fld, q_rng1, Option.bind_some, Option.map_some, ofS_some, if_true, if_false, Bool.false_eq_true, decide_true, decide_false, ix0, ix1, ix2, wipe_nil, wipe_cons, q_yes, q_rng2]
  rw [if_pos (by omega)]
  simp only [List.map_cons, List.map_nil, List.length_cons, List.length_nil, List.cons_append, List.nil_append, List.replicate, List.getElem?_cons_zero, List.getElem?_cons_succ, List.set_cons_succ, List.set_cons_zero, WP_bind, WP_ok, WP_cut, q_var, q_c, q_bin, q_un, q_ofO, q_chain, q_tst, q_tstB, q_and2, q_or2, q_not1, q_andV, q_orV, q_notV, q_if, q_nil, q_cons, q_tup, q_lst, q_next, q_seq, q_expr, q_ret, q_retN, q_brk, q_cnt, q_sif, q_gnm, q_gtup, q_gcons, q_gnil, q_asg, q_call, q_callB, q_seqi, q_for, q_while, o_add, o_addI, o_sub, o_lt, o_le, o_gt, o_ge, o_neg, o_ixR, o_ixT, o_ixF, itemsT, itemsF, seqT, seqF, q_b1, q_b2, f_intI, f_intB, f_abs, f_max, f_min, f_lenT, f_lenF, f_list, f_tuple, q_gsb, ofB_bl, q_sl, q_pno, q_pat, q_lrg, q_meth, q_fld, q_rng1, Option.bind_some, Option.map_some, ofS_some, if_true, if_false, Bool.false_eq_true, decide_true, decide_false, ix0, ix1, ix2, wipe_nil, wipe_cons, q_yes, q_rng2]
  refine wp_for n (fun j env S' => ∃ a3, env = [some (.int p), some (.int (n : Int)), some (.int (p ^ j)), a3] ∧ S' = S) (by omega) ⟨none, by simp⟩ (fun j env S1 hj ⟨a3, he, e1⟩ => ⟨_, jR_at (by omega), ?_⟩) fun env S1 ⟨a3, he, e1⟩ => ⟨jR_end, ?_⟩
  · subst he e1
    have h1 := pow_bd (n := j) hp
    rw [← Nat.pow_mul] at h1
    have h2 : B * j ≤ B * n := Nat.mul_le_mul_left _ (by omega)
    have hm : mulOk (p ^ j) p = true := mulW (ltp h1) (ltp hp) (by omega)
    simp only [List.map_cons, List.map_nil, List.length_cons, List.length_nil, List.cons_append, List.nil_append, List.replicate, List.getElem?_cons_zero, List.getElem?_cons_succ, List.set_cons_succ, List.set_cons_zero, WP_bind, WP_ok, WP_cut, q_var, q_c, q_bin, q_un, q_ofO, q_chain, q_tst, q_tstB, q_and2, q_or2, q_not1, q_andV, q_orV, q_notV, q_if, q_nil, q_cons, q_tup, q_lst, q_next, q_seq, q_expr, q_ret, q_retN, q_brk, q_cnt, q_sif, q_gnm, q_gtup, q_gcons, q_gnil, q_asg, q_call, q_callB, q_seqi, q_for, q_while, o_add, o_addI, o_sub, o_lt, o_le, o_gt, o_ge, o_neg, o_ixR, o_ixT, o_ixF, itemsT, itemsF, seqT, seqF, q_b1, q_b2, f_intI, f_intB, f_abs, f_max, f_min, f_lenT, f_lenF, f_list, f_tuple, q_gsb, ofB_bl, q_sl, q_pno, q_pat, q_lrg, q_meth, q_fld, q_rng1, Option.bind_some, Option.map_some, ofS_some, if_true, if_false, Bool.false_eq_true, decide_true, decide_false, ix0, ix1, ix2, wipe_nil, wipe_cons, q_yes, q_rng2, o_mul hm]
    exact ⟨_, by rw [Int.pow_succ], trivial⟩
  · subst he e1
    simp only [List.map_cons, List.map_nil, List.length_cons, List.length_nil, List.cons_append, List.nil_append, List.replicate, List.getElem?_cons_zero, List.getElem?_cons_succ, List.set_cons_succ, List.set_cons_zero, WP_bind, WP_ok, WP_cut, q_var, q_c, q_bin, q_un, q_ofO, q_chain, q_tst, q_tstB, q_and2, q_or2, q_not1, q_andV, q_orV, q_notV, q_if, q_nil, q_cons, q_tup, q_lst, q_next, q_seq, q_expr, q_ret, q_retN, q_brk, q_cnt, q_sif, q_gnm, q_gtup, q_gcons, q_gnil, q_asg, q_call, q_callB, q_seqi, q_for, q_while, o_add, o_addI, o_sub, o_lt, o_le, o_gt, o_ge, o_neg, o_ixR, o_ixT, o_ixF, itemsT, itemsF, seqT, seqF, q_b1, q_b2, f_intI, f_intB, f_abs, f_max, f_min, f_lenT, f_lenF, f_list, f_tuple, q_gsb, ofB_bl, q_sl, q_pno, q_pat, q_lrg, q_meth, q_fld, q_rng1, Option.bind_some, Option.map_some, ofS_some, if_true, if_false, Bool.false_eq_true, decide_true, decide_false, ix0, ix1, ix2, wipe_nil, wipe_cons, q_yes, q_rng2]
    exact hQ
theorem w_turnin (hp : 0 < p ∧ p ≤ 7) (hn : n ≤ 12) (hQ : Q (.int (fc p n n)) S) : WP (f_turn_number_in [.int p, .int (n : Int)] S) Q := by
  have bd : ∀ j : Nat, j ≤ 12 → 0 < p ^ j ∧ p ^ j < 2 ^ 60 := fun j hj => ⟨Int.pow_pos hp.1, by
    have h1 := pow_bd (p := p) (B := 7) (n := j) (by omega)
    have h2 : 7 ^ j ≤ 7 ^ 12 := Nat.pow_le_pow_right (by decide) hj
    have : (7 : Nat) ^ 12 < 2 ^ 60 := by decide
    omega⟩
  unfold f_turn_number_in
  rw [mkFn_wp]
  unfold b_turn_number_in n_turn_number_in
  simp only [List.map_cons, List.map_nil, List.length_cons, List.length_nil, List.cons_append, List.nil_append, List.replicate, List.getElem?_cons_zero, List.getElem?_cons_succ, List.set_cons_succ, List.set_cons_zero, WP_bind, WP_ok, WP_cut, q_var, q_c, q_bin, q_un, q_ofO, q_chain, q_tst, q_tstB, q_and2, q_or2, q_not1, q_andV, q_orV, q_notV, q_if, q_nil, q_cons, q_tup, q_lst, q_next, q_seq, q_expr, q_ret, q_retN, q_brk, q_cnt, q_sif, q_gnm, q_gtup, q_gcons, q_gnil, q_asg, q_call, q_callB, q_seqi, q_for, q_while, o_add, o_addI, o_sub, o_lt, o_le, o_gt, o_ge, o_neg, o_ixR, o_ixT, o_ixF, itemsT, itemsF, seqT, seqF, q_b1, q_b2, f_intI, f_intB, f_abs, f_max, f_min, f_lenT, f_lenF, f_list, f_tuple, q_gsb, ofB_bl, q_sl, q_pno, q_pat, q_lrg, q_meth, q_fld, q_rng1, Option.bind_some, Option.map_some, ofS_some, if_true, if_false, Bool.false_eq_true, decide_true, decide_false, ix0, ix1, ix2, wipe_nil, wipe_cons, q_yes, q_rng2]
  refine w_powin (by omega) (by omega) ?_
  simp only [List.map_cons, List.map_nil, List.length_cons, List.length_nil, List.cons_append, List.nil_append, List.replicate, List.getElem?_cons_zero, List.getElem?_cons_succ, List.set_cons_succ, List.set_cons_zero, WP_bind, WP_ok, WP_cut, q_var, q_c, q_bin, q_un, q_ofO, q_chain, q_tst, q_tstB, q_and2, q_or2, q_not1, q_andV, q_orV, q_notV, q_if, q_nil, q_cons, q_tup, q_lst, q_next, q_seq, q_expr, q_ret, q_retN, q_brk, q_cnt, q_sif, q_gnm, q_gtup, q_gcons, q_gnil, q_asg, q_call, q_callB, q_seqi, q_for, q_while, o_add, o_addI, o_sub, o_lt, o_le, o_gt, o_ge, o_neg, o_ixR, o_ixT, o_ixF, itemsT, itemsF, seqT, seqF, q_b1, q_b2, f_intI, f_intB, f_abs, f_max, f_min, f_lenT, f_lenF, f_list, f_tuple, q_gsb, ofB_bl, q_sl, q_pno, q_pat, q_lrg, q_meth, q_fld, q_rng1, Option.bind_some, Option.map_some, ofS_some, if_true, if_false, Bool.false_eq_true, decide_true, decide_false, ix0, ix1, ix2, wipe_nil, wipe_cons, q_yes, q_rng2, z2, z2']
  rw [if_pos (by omega)]
  simp only [List.map_cons, List.map_nil, List.length_cons, List.length_nil, List.cons_append, List.nil_append, List.replicate, List.getElem?_cons_zero, List.getElem?_cons_succ, List.set_cons_succ, List.set_cons_zero, WP_bind, WP_ok, WP_cut, q_var, q_c, q_bin, q_un, q_ofO, q_chain, q_tst, q_tstB, q_and2, q_or2, q_not1, q_andV, q_orV, q_notV, q_if, q_nil, q_cons, q_tup, q_lst, q_next, q_seq, q_expr, q_ret, q_retN, q_brk, q_cnt, q_sif, q_gnm, q_gtup, q_gcons, q_gnil, q_asg, q_call, q_callB, q_seqi, q_for, q_while, o_add, o_addI, o_sub, o_lt, o_le, o_gt, o_ge, o_neg, o_ixR, o_ixT, o_ixF, itemsT, itemsF, seqT, seqF, q_b1, q_b2, f_intI, f_intB, f_abs, f_max, f_min, f_lenT, f_lenF, f_list, f_tuple, q_gsb, ofB_bl, q_sl, q_pno, q_pat, q_lrg, q_meth, q_fld, q_rng1, Option.bind_some, Option.map_some, ofS_some, if_true, if_false, Bool.false_eq_true, decide_true, decide_false, ix0, ix1, ix2, wipe_nil, wipe_cons, q_yes, q_rng2]
  refine wp_for n (fun j env S' => ∃ a3, env = [some (.int p), some (.int (n : Int)), some (.int (fc p n j)), some (.int (p ^ n)), a3] ∧ S' = S) (by omega) ⟨none, rfl, rfl⟩ (fun j env S1 hj ⟨a3, he, e1⟩ => ⟨_, jR_at (by omega), ?_⟩) fun env S1 ⟨a3, he, e1⟩ => ⟨jR_end, ?_⟩
  · subst he e1
    simp only [List.map_cons, List.map_nil, List.length_cons, List.length_nil, List.cons_append, List.nil_append, List.replicate, List.getElem?_cons_zero, List.getElem?_cons_succ, List.set_cons_succ, List.set_cons_zero, WP_bind, WP_ok, WP_cut, q_var, q_c, q_bin, q_un, q_ofO, q_chain, q_tst, q_tstB, q_and2, q_or2, q_not1, q_andV, q_orV, q_notV, q_if, q_nil, q_cons, q_tup, q_lst, q_next, q_seq, q_expr, q_ret, q_retN, q_brk, q_cnt, q_sif, q_gnm, q_gtup, q_gcons, q_gnil, q_asg, q_call, q_callB, q_seqi, q_for, q_while, o_add, o_addI, o_sub, o_lt, o_le, o_gt, o_ge, o_neg, o_ixR, o_ixT, o_ixF, itemsT, itemsF, seqT, seqF, q_b1, q_b2, f_intI, f_intB, f_abs, f_max, f_min, f_lenT, f_lenF, f_list, f_tuple, q_gsb, ofB_bl, q_sl, q_pno, q_pat, q_lrg, q_meth, q_fld, q_rng1, Option.bind_some, Option.map_some, ofS_some, if_true, if_false, Bool.false_eq_true, decide_true, decide_false, ix0, ix1, ix2, wipe_nil, wipe_cons, q_yes, q_rng2, q_aug]
    refine w_powin (by omega) (by omega) ?_
    have b1 := bd n hn
    have b2 := bd j (by omega)
    have e : oIMul (.int (fc p n j)) (.int (p ^ n - p ^ j)) S1 = some (.int (fc p n j * (p ^ n - p ^ j)), S1) := oIMul_ok (.inr (by omega))
    simp only [List.map_cons, List.map_nil, List.length_cons, List.length_nil, List.cons_append, List.nil_append, List.replicate, List.getElem?_cons_zero, List.getElem?_cons_succ, List.set_cons_succ, List.set_cons_zero, WP_bind, WP_ok, WP_cut, q_var, q_c, q_bin, q_un, q_ofO, q_chain, q_tst, q_tstB, q_and2, q_or2, q_not1, q_andV, q_orV, q_notV, q_if, q_nil, q_cons, q_tup, q_lst, q_next, q_seq, q_expr, q_ret, q_retN, q_brk, q_cnt, q_sif, q_gnm, q_gtup, q_gcons, q_gnil, q_asg, q_call, q_callB, q_seqi, q_for, q_while, o_add, o_addI, o_sub, o_lt, o_le, o_gt, o_ge, o_neg, o_ixR, o_ixT, o_ixF, itemsT, itemsF, seqT, seqF, q_b1, q_b2, f_intI, f_intB, f_abs, f_max, f_min, f_lenT, f_lenF, f_list, f_tuple, q_gsb, ofB_bl, q_sl, q_pno, q_pat, q_lrg, q_meth, q_fld, q_rng1, Option.bind_some, Option.map_some, ofS_some, if_true, if_false, Bool.false_eq_true, decide_true, decide_false, ix0, ix1, ix2, wipe_nil, wipe_cons, q_yes, q_rng2, e]
    exact ⟨_, rfl, trivial⟩
  · subst he e1
    simp only [List.map_cons, List.map_nil, List.length_cons, List.length_nil, List.cons_append, List.nil_append, List.replicate, List.getElem?_cons_zero, List.getElem?_cons_succ, List.set_cons_succ, List.set_cons_zero, WP_bind, WP_ok, WP_cut, q_var, q_c, q_bin, q_un, q_ofO, q_chain, q_tst, q_tstB, q_and2, q_or2, q_not1, q_andV, q_orV, q_notV, q_if, q_nil, q_cons, q_tup, q_lst, q_next, q_seq, q_expr, q_ret, q_retN, q_brk, q_cnt, q_sif, q_gnm, q_gtup, q_gcons, q_gnil, q_asg, q_call, q_callB, q_seqi, q_for, q_while, o_add, o_addI, o_sub, o_lt, o_le, o_gt, o_ge, o_neg, o_ixR, o_ixT, o_ixF, itemsT, itemsF, seqT, seqF, q_b1, q_b2, f_intI, f_intB, f_abs, f_max, f_min, f_lenT, f_lenF, f_list, f_tuple, q_gsb, ofB_bl, q_sl, q_pno, q_pat, q_lrg, q_meth, q_fld, q_rng1, Option.bind_some, Option.map_some, ofS_some, if_true, if_false, Bool.false_eq_true, decide_true, decide_false, ix0, ix1, ix2, wipe_nil, wipe_cons, q_yes, q_rng2]
    exact hQ
theorem w_reqto {a : Int} (hn : (n : Int) ≤ a) (hn2 : n ≤ 100) (hQ : Q .non S) : WP (f_require_to [.int (n : Int), .int a] S) Q := by
  have e60 : (10 : Int) ^ 60 > 100 := by decide
  unfold f_require_to
  rw [mkFn_wp]
  unfold b_require_to n_require_to
  have d1 : decide ((0 : Int) ≤ (n : Int)) = true := decide_eq_true (by omega)
  have d2 : decide ((n : Int) ≤ a) = true := decide_eq_true hn
  simp only [List.map_cons, List.map_nil, List.length_cons, List.length_nil, List.cons_append, List.nil_append, List.replicate, List.getElem?_cons_zero, List.getElem?_cons_succ, List.set_cons_succ, List.set_cons_zero, WP_bind, WP_ok, WP_cut, q_var, q_c, q_bin, q_un, q_ofO, q_chain, q_tst, q_tstB, q_and2, q_or2, q_not1, q_andV, q_orV, q_notV, q_if, q_nil, q_cons, q_tup, q_lst, q_next, q_seq, q_expr, q_ret, q_retN, q_brk, q_cnt, q_sif, q_gnm, q_gtup, q_gcons, q_gnil, q_asg, q_call, q_callB, q_seqi, q_for, q_while, o_add, o_addI, o_sub, o_lt, o_le, o_gt, o_ge, o_neg, o_ixR, o_ixT, o_ixF, itemsT, itemsF, seqT, seqF, q_b1, q_b2, f_intI, f_intB, f_abs, f_max, f_min, f_lenT, f_lenF, f_list, f_tuple, q_gsb, ofB_bl, q_sl, q_pno, q_pat, q_lrg, q_meth, q_fld, q_rng1, Option.bind_some, Option.map_some, ofS_some, if_true, if_false, Bool.false_eq_true, decide_true, decide_false, ix0, ix1, ix2, wipe_nil, wipe_cons, q_yes, q_rng2]
  refine w_integer ⟨by omega, by omega⟩ ?_
  simp only [List.map_cons, List.map_nil, List.length_cons, List.length_nil, List.cons_append, List.nil_append, List.replicate, List.getElem?_cons_zero, List.getElem?_cons_succ, List.set_cons_succ, List.set_cons_zero, WP_bind, WP_ok, WP_cut, q_var, q_c, q_bin, q_un, q_ofO, q_chain, q_tst, q_tstB, q_and2, q_or2, q_not1, q_andV, q_orV, q_notV, q_if, q_nil, q_cons, q_tup, q_lst, q_next, q_seq, q_expr, q_ret, q_retN, q_brk, q_cnt, q_sif, q_gnm, q_gtup, q_gcons, q_gnil, q_asg, q_call, q_callB, q_seqi, q_for, q_while, o_add, o_addI, o_sub, o_lt, o_le, o_gt, o_ge, o_neg, o_ixR, o_ixT, o_ixF, itemsT, itemsF, seqT, seqF, q_b1, q_b2, f_intI, f_intB, f_abs, f_max, f_min, f_lenT, f_lenF, f_list, f_tuple, q_gsb, ofB_bl, q_sl, q_pno, q_pat, q_lrg, q_meth, q_fld, q_rng1, Option.bind_some, Option.map_some, ofS_some, if_true, if_false, Bool.false_eq_true, decide_true, decide_false, ix0, ix1, ix2, wipe_nil, wipe_cons, q_yes, q_rng2, d1, d2, Bool.not_true]
  exact hQ
theorem w_reqprime (hp : p ∈ ([2, 3, 5, 7] : List Int)) (hQ : Q .non S) : WP (f_require_prime [.int p] S) Q := by
  have e60 : (10 : Int) ^ 60 > 100 := by decide
  have hp' : p = 2 ∨ p = 3 ∨ p = 5 ∨ p = 7 := by simpa using hp
  unfold f_require_prime
  rw [mkFn_wp]
  unfold b_require_prime n_require_prime
  have d1 : oNotIn (.int p) (.tup (([2, 3, 5, 7] : List Int).map D.int)) S = some (.bl false, S) := by
    rcases hp' with rfl | rfl | rfl | rfl <;> rfl
  simp only [List.map_cons, List.map_nil] at d1
  simp only [List.map_cons, List.map_nil, List.length_cons, List.length_nil, List.cons_append, List.nil_append, List.replicate, List.getElem?_cons_zero, List.getElem?_cons_succ, List.set_cons_succ, List.set_cons_zero, WP_bind, WP_ok, WP_cut, q_var, q_c, q_bin, q_un, q_ofO, q_chain, q_tst, q_tstB, q_and2, q_or2, q_not1, q_andV, q_orV, q_notV, q_if, q_nil, q_cons, q_tup, q_lst, q_next, q_seq, q_expr, q_ret, q_retN, q_brk, q_cnt, q_sif, q_gnm, q_gtup, q_gcons, q_gnil, q_asg, q_call, q_callB, q_seqi, q_for, q_while, o_add, o_addI, o_sub, o_lt, o_le, o_gt, o_ge, o_neg, o_ixR, o_ixT, o_ixF, itemsT, itemsF, seqT, seqF, q_b1, q_b2, f_intI, f_intB, f_abs, f_max, f_min, f_lenT, f_lenF, f_list, f_tuple, q_gsb, ofB_bl, q_sl, q_pno, q_pat, q_lrg, q_meth, q_fld, q_rng1, Option.bind_some, Option.map_some, ofS_some, if_true, if_false, Bool.false_eq_true, decide_true, decide_false, ix0, ix1, ix2, wipe_nil, wipe_cons, q_yes, q_rng2]
  refine w_integer ⟨by omega, by omega⟩ ?_
  simp only [List.map_cons, List.map_nil, List.length_cons, List.length_nil, List.cons_append, List.nil_append, List.replicate, List.getElem?_cons_zero, List.getElem?_cons_succ, List.set_cons_succ, List.set_cons_zero, WP_bind, WP_ok, WP_cut, q_var, q_c, q_bin, q_un, q_ofO, q_chain, q_tst, q_tstB, q_and2, q_or2, q_not1, q_andV, q_orV, q_notV, q_if, q_nil, q_cons, q_tup, q_lst, q_next, q_seq, q_expr, q_ret, q_retN, q_brk, q_cnt, q_sif, q_gnm, q_gtup, q_gcons, q_gnil, q_asg, q_call, q_callB, q_seqi, q_for, q_while, o_add, o_addI, o_sub, o_lt, o_le, o_gt, o_ge, o_neg, o_ixR, o_ixT, o_ixF, itemsT, itemsF, seqT, seqF, q_b1, q_b2, f_intI, f_intB, f_abs, f_max, f_min, f_lenT, f_lenF, f_list, f_tuple, q_gsb, ofB_bl, q_sl, q_pno, q_pat, q_lrg, q_meth, q_fld, q_rng1, Option.bind_some, Option.map_some, ofS_some, if_true, if_false, Bool.false_eq_true, decide_true, decide_false, ix0, ix1, ix2, wipe_nil, wipe_cons, q_yes, q_rng2, Bool.not_true, d1]
  exact hQ
theorem w_turnnum (hp : p ∈ ([2, 3, 5, 7] : List Int)) (hn : n ≤ 12) (hQ : Q (.int (fc p n n)) S) : WP (f_turn_number [.int p, .int (n : Int)] S) Q := by
  have hp' : p = 2 ∨ p = 3 ∨ p = 5 ∨ p = 7 := by simpa using hp
  unfold f_turn_number
  rw [mkFn_wp]
  unfold b_turn_number n_turn_number
  simp only [List.map_cons, List.map_nil, List.length_cons, List.length_nil, List.cons_append, List.nil_append, List.replicate, List.getElem?_cons_zero, List.getElem?_cons_succ, List.set_cons_succ, List.set_cons_zero, WP_bind, WP_ok, WP_cut, q_var, q_c, q_bin, q_un, q_ofO, q_chain, q_tst, q_tstB, q_and2, q_or2, q_not1, q_andV, q_orV, q_notV, q_if, q_nil, q_cons, q_tup, q_lst, q_next, q_seq, q_expr, q_ret, q_retN, q_brk, q_cnt, q_sif, q_gnm, q_gtup, q_gcons, q_gnil, q_asg, q_call, q_callB, q_seqi, q_for, q_while, o_add, o_addI, o_sub, o_lt, o_le, o_gt, o_ge, o_neg, o_ixR, o_ixT, o_ixF, itemsT, itemsF, seqT, seqF, q_b1, q_b2, f_intI, f_intB, f_abs, f_max, f_min, f_lenT, f_lenF, f_list, f_tuple, q_gsb, ofB_bl, q_sl, q_pno, q_pat, q_lrg, q_meth, q_fld, q_rng1, Option.bind_some, Option.map_some, ofS_some, if_true, if_false, Bool.false_eq_true, decide_true, decide_false, ix0, ix1, ix2, wipe_nil, wipe_cons, q_yes, q_rng2]
  refine w_reqprime hp ?_
  simp only [List.map_cons, List.map_nil, List.length_cons, List.length_nil, List.cons_append, List.nil_append, List.replicate, List.getElem?_cons_zero, List.getElem?_cons_succ, List.set_cons_succ, List.set_cons_zero, WP_bind, WP_ok, WP_cut, q_var, q_c, q_bin, q_un, q_ofO, q_chain, q_tst, q_tstB, q_and2, q_or2, q_not1, q_andV, q_orV, q_notV, q_if, q_nil, q_cons, q_tup, q_lst, q_next, q_seq, q_expr, q_ret, q_retN, q_brk, q_cnt, q_sif, q_gnm, q_gtup, q_gcons, q_gnil, q_asg, q_call, q_callB, q_seqi, q_for, q_while, o_add, o_addI, o_sub, o_lt, o_le, o_gt, o_ge, o_neg, o_ixR, o_ixT, o_ixF, itemsT, itemsF, seqT, seqF, q_b1, q_b2, f_intI, f_intB, f_abs, f_max, f_min, f_lenT, f_lenF, f_list, f_tuple, q_gsb, ofB_bl, q_sl, q_pno, q_pat, q_lrg, q_meth, q_fld, q_rng1, Option.bind_some, Option.map_some, ofS_some, if_true, if_false, Bool.false_eq_true, decide_true, decide_false, ix0, ix1, ix2, wipe_nil, wipe_cons, q_yes, q_rng2]
  refine w_reqto (by omega) (by omega) ?_
  simp only [List.map_cons, List.map_nil, List.length_cons, List.length_nil, List.cons_append, List.nil_append, List.replicate, List.getElem?_cons_zero, List.getElem?_cons_succ, List.set_cons_succ, List.set_cons_zero, WP_bind, WP_ok, WP_cut, q_var, q_c, q_bin, q_un, q_ofO, q_chain, q_tst, q_tstB, q_and2, q_or2, q_not1, q_andV, q_orV, q_notV, q_if, q_nil, q_cons, q_tup, q_lst, q_next, q_seq, q_expr, q_ret, q_retN, q_brk, q_cnt, q_sif, q_gnm, q_gtup, q_gcons, q_gnil, q_asg, q_call, q_callB, q_seqi, q_for, q_while, o_add, o_addI, o_sub, o_lt, o_le, o_gt, o_ge, o_neg, o_ixR, o_ixT, o_ixF, itemsT, itemsF, seqT, seqF, q_b1, q_b2, f_intI, f_intB, f_abs, f_max, f_min, f_lenT, f_lenF, f_list, f_tuple, q_gsb, ofB_bl, q_sl, q_pno, q_pat, q_lrg, q_meth, q_fld, q_rng1, Option.bind_some, Option.map_some, ofS_some, if_true, if_false, Bool.false_eq_true, decide_true, decide_false, ix0, ix1, ix2, wipe_nil, wipe_cons, q_yes, q_rng2]
  refine w_turnin (by omega) hn ?_
  simp only [List.map_cons, List.map_nil, List.length_cons, List.length_nil, List.cons_append, List.nil_append, List.replicate, List.getElem?_cons_zero, List.getElem?_cons_succ, List.set_cons_succ, List.set_cons_zero, WP_bind, WP_ok, WP_cut, q_var, q_c, q_bin, q_un, q_ofO, q_chain, q_tst, q_tstB, q_and2, q_or2, q_not1, q_andV, q_orV, q_notV, q_if, q_nil, q_cons, q_tup, q_lst, q_next, q_seq, q_expr, q_ret, q_retN, q_brk, q_cnt, q_sif, q_gnm, q_gtup, q_gcons, q_gnil, q_asg, q_call, q_callB, q_seqi, q_for, q_while, o_add, o_addI, o_sub, o_lt, o_le, o_gt, o_ge, o_neg, o_ixR, o_ixT, o_ixF, itemsT, itemsF, seqT, seqF, q_b1, q_b2, f_intI, f_intB, f_abs, f_max, f_min, f_lenT, f_lenF, f_list, f_tuple, q_gsb, ofB_bl, q_sl, q_pno, q_pat, q_lrg, q_meth, q_fld, q_rng1, Option.bind_some, Option.map_some, ofS_some, if_true, if_false, Bool.false_eq_true, decide_true, decide_false, ix0, ix1, ix2, wipe_nil, wipe_cons, q_yes, q_rng2]
  exact hQ
/-- a tuple of zeros and a one -/
theorem mulB0 (hn : n ≤ 1000) : oMulB (.tup [.int 0]) (.int (n : Int)) S = some (.tup (iL (List.replicate n 0)), S) := by
  have eA : ∀ x, oMulI (.tup [.int 0]) x S = none := fun x => rfl
  have eL : ∀ x, oMulL (.tup [.int 0]) x S = none := fun x => rfl
  have e2 : 2 ≤ n → oMulT (.tup [.int 0]) (.int (n : Int)) S = some (.tup (iL (List.replicate n 0)), S) := fun h => by
    show (if _ then _ else _) = _
    rw [if_pos ⟨by simp, by omega, by omega, by simp⟩, Int.toNat_natCast, iL_rep]
  have e3 : n < 2 → oMulT (.tup [.int 0]) (.int (n : Int)) S = none := fun h => by
    show (if _ then _ else _) = _
    rw [if_neg (fun z => by have := z.2.1; omega)]
  by_cases h2 : 2 ≤ n
  · simp only [oMulB, oMulA, orO, eA, eL, e2 h2]
  · simp only [oMulB, oMulA, orO, eA, eL, e3 (by omega)]
    have : n = 0 ∨ n = 1 := by omega
    rcases this with rfl | rfl <;> rfl
theorem addT {a b : List D} (h : a.length + b.length ≤ 1000) : oAdd (.tup a) (.tup b) S = some (.tup (a ++ b), S) := by
  have e1 : oAddI (.tup a) (.tup b) S = none := rfl
  have e2 : oAddL (.tup a) (.tup b) S = none := rfl
  have e3 : oAddT (.tup a) (.tup b) S = some (.tup (a ++ b), S) := if_pos (by have : sl = 16777216 := rfl; omega)
  simp only [oAdd, orO, e1, e2, e3]
theorem sm1 : ∀ x ∈ xp n, Sm x := fun x hx => by
  have h := xp_bn n x hx
  have e60 : (10 : Int) ^ 60 > 100 := by decide
  unfold Sm
  omega
/-- Poly((0,) * n + (1,)) -/
theorem w_xpoly {env : En} {c : DE} (hn : n ≤ 100) (hc : ∀ S', c env S' = .ok (.int (n : Int)) S') (hQ : ∀ q S', Sub S S' → PO S' q (xp n) → Q (.ref q) S') :
    WP (dMk 1 f_Poly___init__ (dCons (dBin oAdd (dBin oMulB (dTup (dCons (dC (.int 0)) dNil)) c) (dTup (dCons (dC (.int 1)) dNil))) dNil) env S) Q := by
  refine w_mkP (l := xp n) ?_ (by rw [xp_len]; omega) hQ
  have e : ∀ S', oAdd (.tup (iL (List.replicate n 0))) (.tup [.int 1]) S' = some (.tup (iL (xp n)), S') := fun S' => by rw [addT (by rw [iL_len]; simp; omega), xp_list]
  simp only [List.map_cons, List.map_nil, List.length_cons, List.length_nil, List.cons_append, List.nil_append, List.replicate, List.getElem?_cons_zero, List.getElem?_cons_succ, List.set_cons_succ, List.set_cons_zero, WP_bind, WP_ok, WP_cut, q_var, q_c, q_bin, q_un, q_ofO, q_chain, q_tst, q_tstB, q_and2, q_or2, q_not1, q_andV, q_orV, q_notV, q_if, q_nil, q_cons, q_tup, q_lst, q_next, q_seq, q_expr, q_ret, q_retN, q_brk, q_cnt, q_sif, q_gnm, q_gtup, q_gcons, q_gnil, q_asg, q_call, q_callB, q_seqi, q_for, q_while, o_add, o_addI, o_sub, o_lt, o_le, o_gt, o_ge, o_neg, o_ixR, o_ixT, o_ixF, itemsT, itemsF, seqT, seqF, q_b1, q_b2, f_intI, f_intB, f_abs, f_max, f_min, f_lenT, f_lenF, f_list, f_tuple, q_gsb, ofB_bl, q_sl, q_pno, q_pat, q_lrg, q_meth, q_fld, q_rng1, Option.bind_some, Option.map_some, ofS_some, if_true, if_false, Bool.false_eq_true, decide_true, decide_false, ix0, ix1, ix2, wipe_nil, wipe_cons, q_yes, q_rng2, z1, hc, Res.bind_ok, mulB0 (show n ≤ 1000 by omega), e]
  exact ⟨_, rfl, Sub.refl _, fun S2 _ => by have := tl_tup (S := S2) (l := xp n) (by rw [xp_len]; omega) sm1; rwa [xp_tr] at this⟩
theorem w_tables (hh : h ≤ 12) (hw : w ≤ 12) (hr : r ≤ 12) (hQ : ∀ q S', Sub S S' → PO S' q (TR h w r) → Q (.ref q) S') : WP (f_tables_of_rank [.int (h : Int), .int (w : Int), .int (r : Int)] S) Q := by
  unfold f_tables_of_rank
  rw [mkFn_wp]
  unfold b_tables_of_rank n_tables_of_rank
  simp only [List.map_cons, List.map_nil, List.length_cons, List.length_nil, List.cons_append, List.nil_append, List.replicate, List.getElem?_cons_zero, List.getElem?_cons_succ, List.set_cons_succ, List.set_cons_zero, WP_bind, WP_ok, WP_cut, q_var, q_c, q_bin, q_un, q_ofO, q_chain, q_tst, q_tstB, q_and2, q_or2, q_not1, q_andV, q_orV, q_notV, q_if, q_nil, q_cons, q_tup, q_lst, q_next, q_seq, q_expr, q_ret, q_retN, q_brk, q_cnt, q_sif, q_gnm, q_gtup, q_gcons, q_gnil, q_asg, q_call, q_callB, q_seqi, q_for, q_while, o_add, o_addI, o_sub, o_lt, o_le, o_gt, o_ge, o_neg, o_ixR, o_ixT, o_ixF, itemsT, itemsF, seqT, seqF, q_b1, q_b2, f_intI, f_intB, f_abs, f_max, f_min, f_lenT, f_lenF, f_list, f_tuple, q_gsb, ofB_bl, q_sl, q_pno, q_pat, q_lrg, q_meth, q_fld, q_rng1, Option.bind_some, Option.map_some, ofS_some, if_true, if_false, Bool.false_eq_true, decide_true, decide_false, ix0, ix1, ix2, wipe_nil, wipe_cons, q_yes, q_rng2, z3, z3']
  refine wp_for 3 (fun j env S' => ∃ a3, env = [some (.int (h : Int)), some (.int (w : Int)), some (.int (r : Int)), a3, none, none] ∧ S' = S) (by omega) ⟨none, rfl, rfl⟩ (fun j env S1 hj ⟨a3, he, e1⟩ => ?_) fun env S1 ⟨a3, he, e1⟩ => ⟨rfl, ?_⟩
  · subst he e1
    have : ∃ n : Nat, n ≤ 12 ∧ jT [D.int (h : Int), D.int (w : Int), D.int (r : Int)] j S1 = some (some (.int (n : Int))) := by
      have : j = 0 ∨ j = 1 ∨ j = 2 := by omega
      rcases this with rfl | rfl | rfl
      · exact ⟨h, hh, rfl⟩
      · exact ⟨w, hw, rfl⟩
      · exact ⟨r, hr, rfl⟩
    obtain ⟨n, hn, e⟩ := this
    refine ⟨_, e, ?_⟩
    simp only [List.map_cons, List.map_nil, List.length_cons, List.length_nil, List.cons_append, List.nil_append, List.replicate, List.getElem?_cons_zero, List.getElem?_cons_succ, List.set_cons_succ, List.set_cons_zero, WP_bind, WP_ok, WP_cut, q_var, q_c, q_bin, q_un, q_ofO, q_chain, q_tst, q_tstB, q_and2, q_or2, q_not1, q_andV, q_orV, q_notV, q_if, q_nil, q_cons, q_tup, q_lst, q_next, q_seq, q_expr, q_ret, q_retN, q_brk, q_cnt, q_sif, q_gnm, q_gtup, q_gcons, q_gnil, q_asg, q_call, q_callB, q_seqi, q_for, q_while, o_add, o_addI, o_sub, o_lt, o_le, o_gt, o_ge, o_neg, o_ixR, o_ixT, o_ixF, itemsT, itemsF, seqT, seqF, q_b1, q_b2, f_intI, f_intB, f_abs, f_max, f_min, f_lenT, f_lenF, f_list, f_tuple, q_gsb, ofB_bl, q_sl, q_pno, q_pat, q_lrg, q_meth, q_fld, q_rng1, Option.bind_some, Option.map_some, ofS_some, if_true, if_false, Bool.false_eq_true, decide_true, decide_false, ix0, ix1, ix2, wipe_nil, wipe_cons, q_yes, q_rng2]
    refine w_reqto (by omega) (by omega) ?_
    simp only [List.map_cons, List.map_nil, List.length_cons, List.length_nil, List.cons_append, List.nil_append, List.replicate, List.getElem?_cons_zero, List.getElem?_cons_succ, List.set_cons_succ, List.set_cons_zero, WP_bind, WP_ok, WP_cut, q_var, q_c, q_bin, q_un, q_ofO, q_chain, q_tst, q_tstB, q_and2, q_or2, q_not1, q_andV, q_orV, q_notV, q_if, q_nil, q_cons, q_tup, q_lst, q_next, q_seq, q_expr, q_ret, q_retN, q_brk, q_cnt, q_sif, q_gnm, q_gtup, q_gcons, q_gnil, q_asg, q_call, q_callB, q_seqi, q_for, q_while, o_add, o_addI, o_sub, o_lt, o_le, o_gt, o_ge, o_neg, o_ixR, o_ixT, o_ixF, itemsT, itemsF, seqT, seqF, q_b1, q_b2, f_intI, f_intB, f_abs, f_max, f_min, f_lenT, f_lenF, f_list, f_tuple, q_gsb, ofB_bl, q_sl, q_pno, q_pat, q_lrg, q_meth, q_fld, q_rng1, Option.bind_some, Option.map_some, ofS_some, if_true, if_false, Bool.false_eq_true, decide_true, decide_false, ix0, ix1, ix2, wipe_nil, wipe_cons, q_yes, q_rng2]
    exact ⟨_, rfl, trivial⟩
  · subst he e1
    have hG : WP (f_gauss [.int (h : Int), .int (r : Int)] S1) fun d S' => ∃ q, d = .ref q ∧ Sub S1 S' ∧ PO S' q (G h r) := by
      unfold G
      by_cases hrh : r ≤ h
      · rw [if_pos hrh]
        exact w_gauss hh hrh fun q S' s o => ⟨q, rfl, s, o⟩
      · rw [if_neg hrh]
        exact w_gauss0 hh hr (by omega) fun q S' s o => ⟨q, rfl, s, o⟩
    simp only [List.map_cons, List.map_nil, List.length_cons, List.length_nil, List.cons_append, List.nil_append, List.replicate, List.getElem?_cons_zero, List.getElem?_cons_succ, List.set_cons_succ, List.set_cons_zero, WP_bind, WP_ok, WP_cut, q_var, q_c, q_bin, q_un, q_ofO, q_chain, q_tst, q_tstB, q_and2, q_or2, q_not1, q_andV, q_orV, q_notV, q_if, q_nil, q_cons, q_tup, q_lst, q_next, q_seq, q_expr, q_ret, q_retN, q_brk, q_cnt, q_sif, q_gnm, q_gtup, q_gcons, q_gnil, q_asg, q_call, q_callB, q_seqi, q_for, q_while, o_add, o_addI, o_sub, o_lt, o_le, o_gt, o_ge, o_neg, o_ixR, o_ixT, o_ixF, itemsT, itemsF, seqT, seqF, q_b1, q_b2, f_intI, f_intB, f_abs, f_max, f_min, f_lenT, f_lenF, f_list, f_tuple, q_gsb, ofB_bl, q_sl, q_pno, q_pat, q_lrg, q_meth, q_fld, q_rng1, Option.bind_some, Option.map_some, ofS_some, if_true, if_false, Bool.false_eq_true, decide_true, decide_false, ix0, ix1, ix2, wipe_nil, wipe_cons, q_yes, q_rng2]
    refine WP_mono hG fun d S2 ⟨q, ed, s2, o2⟩ => ?_
    subst ed
    simp only [List.map_cons, List.map_nil, List.length_cons, List.length_nil, List.cons_append, List.nil_append, List.replicate, List.getElem?_cons_zero, List.getElem?_cons_succ, List.set_cons_succ, List.set_cons_zero, WP_bind, WP_ok, WP_cut, q_var, q_c, q_bin, q_un, q_ofO, q_chain, q_tst, q_tstB, q_and2, q_or2, q_not1, q_andV, q_orV, q_notV, q_if, q_nil, q_cons, q_tup, q_lst, q_next, q_seq, q_expr, q_ret, q_retN, q_brk, q_cnt, q_sif, q_gnm, q_gtup, q_gcons, q_gnil, q_asg, q_call, q_callB, q_seqi, q_for, q_while, o_add, o_addI, o_sub, o_lt, o_le, o_gt, o_ge, o_neg, o_ixR, o_ixT, o_ixF, itemsT, itemsF, seqT, seqF, q_b1, q_b2, f_intI, f_intB, f_abs, f_max, f_min, f_lenT, f_lenF, f_list, f_tuple, q_gsb, ofB_bl, q_sl, q_pno, q_pat, q_lrg, q_meth, q_fld, q_rng1, Option.bind_some, Option.map_some, ofS_some, if_true, if_false, Bool.false_eq_true, decide_true, decide_false, ix0, ix1, ix2, wipe_nil, wipe_cons, q_yes, q_rng2]
    rw [if_pos (by omega)]
    simp only [List.map_cons, List.map_nil, List.length_cons, List.length_nil, List.cons_append, List.nil_append, List.replicate, List.getElem?_cons_zero, List.getElem?_cons_succ, List.set_cons_succ, List.set_cons_zero, WP_bind, WP_ok, WP_cut, q_var, q_c, q_bin, q_un, q_ofO, q_chain, q_tst, q_tstB, q_and2, q_or2, q_not1, q_andV, q_orV, q_notV, q_if, q_nil, q_cons, q_tup, q_lst, q_next, q_seq, q_expr, q_ret, q_retN, q_brk, q_cnt, q_sif, q_gnm, q_gtup, q_gcons, q_gnil, q_asg, q_call, q_callB, q_seqi, q_for, q_while, o_add, o_addI, o_sub, o_lt, o_le, o_gt, o_ge, o_neg, o_ixR, o_ixT, o_ixF, itemsT, itemsF, seqT, seqF, q_b1, q_b2, f_intI, f_intB, f_abs, f_max, f_min, f_lenT, f_lenF, f_list, f_tuple, q_gsb, ofB_bl, q_sl, q_pno, q_pat, q_lrg, q_meth, q_fld, q_rng1, Option.bind_some, Option.map_some, ofS_some, if_true, if_false, Bool.false_eq_true, decide_true, decide_false, ix0, ix1, ix2, wipe_nil, wipe_cons, q_yes, q_rng2]
    refine wp_for r (fun j env S' => ∃ q a5, env = [some (.int (h : Int)), some (.int (w : Int)), some (.int (r : Int)), a3, some (.ref q), a5] ∧ Sub S1 S' ∧ PO S' q (trL (G h r) w j)) (by omega) ⟨q, none, rfl, s2, o2⟩ (fun j env S3 hj ⟨q, a5, he, s3, o3⟩ => ⟨_, jR_at (by omega), ?_⟩) fun env S3 ⟨q, a5, he, s3, o3⟩ => ⟨jR_end, ?_⟩
    · subst he
      have gl := G_len (r := r) hh
      have hl := trL_len (k := j) hw gl (by omega)
      have hb := trL_bn (k := j) hw gl (G_bn hh) (by omega)
      simp only [List.map_cons, List.map_nil, List.length_cons, List.length_nil, List.cons_append, List.nil_append, List.replicate, List.getElem?_cons_zero, List.getElem?_cons_succ, List.set_cons_succ, List.set_cons_zero, WP_bind, WP_ok, WP_cut, q_var, q_c, q_bin, q_un, q_ofO, q_chain, q_tst, q_tstB, q_and2, q_or2, q_not1, q_andV, q_orV, q_notV, q_if, q_nil, q_cons, q_tup, q_lst, q_next, q_seq, q_expr, q_ret, q_retN, q_brk, q_cnt, q_sif, q_gnm, q_gtup, q_gcons, q_gnil, q_asg, q_call, q_callB, q_seqi, q_for, q_while, o_add, o_addI, o_sub, o_lt, o_le, o_gt, o_ge, o_neg, o_ixR, o_ixT, o_ixF, itemsT, itemsF, seqT, seqF, q_b1, q_b2, f_intI, f_intB, f_abs, f_max, f_min, f_lenT, f_lenF, f_list, f_tuple, q_gsb, ofB_bl, q_sl, q_pno, q_pat, q_lrg, q_meth, q_fld, q_rng1, Option.bind_some, Option.map_some, ofS_some, if_true, if_false, Bool.false_eq_true, decide_true, decide_false, ix0, ix1, ix2, wipe_nil, wipe_cons, q_yes, q_rng2, q_mth]
      rw [if_pos o3.isC]
      simp only [WP_bind]
      refine w_xpoly (n := w) (by omega) (fun S' => rfl) fun q1 S4 s4 o4 => ?_
      rw [if_pos o4.isC]
      simp only [WP_bind]
      refine w_xpoly (n := j) (by omega) (fun S' => rfl) fun q2 S5 s5 o5 => ?_
      simp only [List.map_cons, List.map_nil, List.length_cons, List.length_nil, List.cons_append, List.nil_append, List.replicate, List.getElem?_cons_zero, List.getElem?_cons_succ, List.set_cons_succ, List.set_cons_zero, WP_bind, WP_ok, WP_cut, q_var, q_c, q_bin, q_un, q_ofO, q_chain, q_tst, q_tstB, q_and2, q_or2, q_not1, q_andV, q_orV, q_notV, q_if, q_nil, q_cons, q_tup, q_lst, q_next, q_seq, q_expr, q_ret, q_retN, q_brk, q_cnt, q_sif, q_gnm, q_gtup, q_gcons, q_gnil, q_asg, q_call, q_callB, q_seqi, q_for, q_while, o_add, o_addI, o_sub, o_lt, o_le, o_gt, o_ge, o_neg, o_ixR, o_ixT, o_ixF, itemsT, itemsF, seqT, seqF, q_b1, q_b2, f_intI, f_intB, f_abs, f_max, f_min, f_lenT, f_lenF, f_list, f_tuple, q_gsb, ofB_bl, q_sl, q_pno, q_pat, q_lrg, q_meth, q_fld, q_rng1, Option.bind_some, Option.map_some, ofS_some, if_true, if_false, Bool.false_eq_true, decide_true, decide_false, ix0, ix1, ix2, wipe_nil, wipe_cons, q_yes, q_rng2]
      refine w_minus (o4.sub s5) (.inl ⟨_, rfl, o5⟩) (by rw [xp_len]; omega) (by rw [xp_len]; omega) ((xp_bn j).mono (Nat.pow_le_pow_right (by decide) (by decide))) fun q3 S6 s6 o6 => ?_
      simp only [List.map_cons, List.map_nil, List.length_cons, List.length_nil, List.cons_append, List.nil_append, List.replicate, List.getElem?_cons_zero, List.getElem?_cons_succ, List.set_cons_succ, List.set_cons_zero, WP_bind, WP_ok, WP_cut, q_var, q_c, q_bin, q_un, q_ofO, q_chain, q_tst, q_tstB, q_and2, q_or2, q_not1, q_andV, q_orV, q_notV, q_if, q_nil, q_cons, q_tup, q_lst, q_next, q_seq, q_expr, q_ret, q_retN, q_brk, q_cnt, q_sif, q_gnm, q_gtup, q_gcons, q_gnil, q_asg, q_call, q_callB, q_seqi, q_for, q_while, o_add, o_addI, o_sub, o_lt, o_le, o_gt, o_ge, o_neg, o_ixR, o_ixT, o_ixF, itemsT, itemsF, seqT, seqF, q_b1, q_b2, f_intI, f_intB, f_abs, f_max, f_min, f_lenT, f_lenF, f_list, f_tuple, q_gsb, ofB_bl, q_sl, q_pno, q_pat, q_lrg, q_meth, q_fld, q_rng1, Option.bind_some, Option.map_some, ofS_some, if_true, if_false, Bool.false_eq_true, decide_true, decide_false, ix0, ix1, ix2, wipe_nil, wipe_cons, q_yes, q_rng2]
      have fl := fac_len (k := j) hw (by omega)
      refine w_timesP (o3.sub ((s4.trans s5).trans s6)) (.inl ⟨_, rfl, o6⟩) (by omega) (by unfold fac at fl; omega) (hb.mono (Nat.pow_le_pow_right (by decide) (by omega))) ((fac_bn w j).mono (Nat.pow_le_pow_right (by decide) (by decide))) fun q4 S7 s7 o7 => ?_
      simp only [List.map_cons, List.map_nil, List.length_cons, List.length_nil, List.cons_append, List.nil_append, List.replicate, List.getElem?_cons_zero, List.getElem?_cons_succ, List.set_cons_succ, List.set_cons_zero, WP_bind, WP_ok, WP_cut, q_var, q_c, q_bin, q_un, q_ofO, q_chain, q_tst, q_tstB, q_and2, q_or2, q_not1, q_andV, q_orV, q_notV, q_if, q_nil, q_cons, q_tup, q_lst, q_next, q_seq, q_expr, q_ret, q_retN, q_brk, q_cnt, q_sif, q_gnm, q_gtup, q_gcons, q_gnil, q_asg, q_call, q_callB, q_seqi, q_for, q_while, o_add, o_addI, o_sub, o_lt, o_le, o_gt, o_ge, o_neg, o_ixR, o_ixT, o_ixF, itemsT, itemsF, seqT, seqF, q_b1, q_b2, f_intI, f_intB, f_abs, f_max, f_min, f_lenT, f_lenF, f_list, f_tuple, q_gsb, ofB_bl, q_sl, q_pno, q_pat, q_lrg, q_meth, q_fld, q_rng1, Option.bind_some, Option.map_some, ofS_some, if_true, if_false, Bool.false_eq_true, decide_true, decide_false, ix0, ix1, ix2, wipe_nil, wipe_cons, q_yes, q_rng2]
      exact ⟨_, _, rfl, (((s3.trans s4).trans s5).trans s6).trans s7, o7⟩
    · subst he
      simp only [List.map_cons, List.map_nil, List.length_cons, List.length_nil, List.cons_append, List.nil_append, List.replicate, List.getElem?_cons_zero, List.getElem?_cons_succ, List.set_cons_succ, List.set_cons_zero, WP_bind, WP_ok, WP_cut, q_var, q_c, q_bin, q_un, q_ofO, q_chain, q_tst, q_tstB, q_and2, q_or2, q_not1, q_andV, q_orV, q_notV, q_if, q_nil, q_cons, q_tup, q_lst, q_next, q_seq, q_expr, q_ret, q_retN, q_brk, q_cnt, q_sif, q_gnm, q_gtup, q_gcons, q_gnil, q_asg, q_call, q_callB, q_seqi, q_for, q_while, o_add, o_addI, o_sub, o_lt, o_le, o_gt, o_ge, o_neg, o_ixR, o_ixT, o_ixF, itemsT, itemsF, seqT, seqF, q_b1, q_b2, f_intI, f_intB, f_abs, f_max, f_min, f_lenT, f_lenF, f_list, f_tuple, q_gsb, ofB_bl, q_sl, q_pno, q_pat, q_lrg, q_meth, q_fld, q_rng1, Option.bind_some, Option.map_some, ofS_some, if_true, if_false, Bool.false_eq_true, decide_true, decide_false, ix0, ix1, ix2, wipe_nil, wipe_cons, q_yes, q_rng2]
      exact hQ _ _ s3 o3
end
end Zk16

set_option exponentiation.threshold 3000
namespace Zk16
open PySem PySem.Spec Z
/-! the law's own clearing -/
def clr (p f : Int) (row line : List Int) : List Int := (List.zip row line).map fun z => (z.1 - f * z.2) % p
def invL (p n : Int) : List Int := ((List.range (p - 1).toNat).map fun (j : Nat) => (1 : Int) + (j : Int)).filter fun v => decide (v * n % p = 1)
def inv (p n : Int) : Int := (invL p n).headD 0
def spots (p : Int) (c : Nat) (L : List (List Int)) : List Nat := (L.zipIdx.filter fun z => !decide (cf z.1 c % p = 0)).map (·.2)
abbrev RS := List (List Int) × List (List Int) × List Int
def lineOf (p : Int) (c : Nat) (head : List Int) : List Int := head.map fun x => x * inv p (cf head c) % p
def redStep (p : Int) (st : RS) (c : Nat) : RS := match spots p c st.1 with
  | [] => st
  | k :: _ => ((st.1.eraseIdx k).map fun r => clr p (cf r c) r (lineOf p c (st.1.getD k [])), (st.2.1.map fun r => clr p (cf r c) r (lineOf p c (st.1.getD k []))) ++ [lineOf p c (st.1.getD k [])], st.2.2 ++ [(c : Int)])
def red (p : Int) (L : List (List Int)) (c : Nat) : RS := (List.range c).foldl (redStep p) (L, [], [])
def wid (L : List (List Int)) : Nat := (L.headD []).length
theorem red_s {p : Int} {L : List (List Int)} {c : Nat} : red p L (c + 1) = redStep p (red p L c) c := by unfold red; rw [List.range_succ, List.foldl_append]; rfl
/-- rows of one width with small entries -/
def Rok (w : Nat) (L : List (List Int)) : Prop := ∀ l ∈ L, l.length = w ∧ Bn (2 ^ 100) l
theorem invL_mod (p n : Int) : invL p n = invL p (n % p) := by
  unfold invL
  refine List.filter_congr fun v _ => ?_
  rw [Int.mul_emod v n p, Int.mul_emod v (n % p) p, Int.emod_emod_of_dvd n (Int.dvd_refl p)]
theorem invL_ne {p n : Int} (hp : p ∈ ([2, 3, 5, 7] : List Int)) (hn : n % p ≠ 0) : invL p n ≠ [] := by
  have hp' : p = 2 ∨ p = 3 ∨ p = 5 ∨ p = 7 := by simpa using hp
  rw [invL_mod]
  have h0 : 0 ≤ n % p := Int.emod_nonneg _ (by omega)
  have h1 : n % p < p := Int.emod_lt_of_pos _ (by omega)
  generalize n % p = m at *
  have h3 : m ≤ 6 := by omega
  have : ∀ p ∈ ([2, 3, 5, 7] : List Int), ∀ k : Fin 7, (k.val : Int) ≠ 0 → (k.val : Int) < p → invL p (k.val : Int) ≠ [] := by decide +kernel
  have z := this p hp ⟨m.toNat, by omega⟩
  simp only [Int.toNat_of_nonneg h0] at z
  exact z hn h1
theorem invL_bd {p n v : Int} (h : v ∈ invL p n) : 1 ≤ v ∧ v < p ∧ v * n % p = 1 := by
  unfold invL at h
  obtain ⟨h1, h2⟩ := List.mem_filter.mp h
  obtain ⟨j, hj, rfl⟩ := List.mem_map.mp h1
  have := List.mem_range.mp hj
  exact ⟨by omega, by omega, of_decide_eq_true h2⟩
theorem inv_mem {p n : Int} (hp : p ∈ ([2, 3, 5, 7] : List Int)) (hn : n % p ≠ 0) : inv p n ∈ invL p n := by
  unfold inv
  cases h : invL p n with
  | nil => exact absurd h (invL_ne hp hn)
  | cons a l => exact List.mem_cons_self
theorem mod_bd {p x : Int} (h0 : 0 < p) (h7 : p ≤ 7) : (x % p).natAbs ≤ 2 ^ 100 := by
  have := Int.emod_nonneg x (show p ≠ 0 by omega)
  have := Int.emod_lt_of_pos x h0
  have : (7 : Nat) < 2 ^ 100 := by decide
  omega
theorem clr_len {p f : Int} {r l : List Int} (h : r.length = l.length) : (clr p f r l).length = r.length := by unfold clr; rw [List.length_map, List.length_zip]; omega
theorem clr_bn {p f : Int} {r l : List Int} (h0 : 0 < p) (h7 : p ≤ 7) : Bn (2 ^ 100) (clr p f r l) := fun x hx => by
  obtain ⟨z, _, rfl⟩ := List.mem_map.mp hx
  exact mod_bd h0 h7
theorem spots_mem {p : Int} {c k : Nat} {L : List (List Int)} {t : List Nat} (h : spots p c L = k :: t) : ∃ hk : k < L.length, cf L[k] c % p ≠ 0 := by
  have hm : k ∈ spots p c L := by rw [h]; exact List.mem_cons_self
  obtain ⟨z, hz, e⟩ := List.mem_map.mp hm
  obtain ⟨h1, h2⟩ := List.mem_filter.mp hz
  have h3 := List.mem_zipIdx h1
  subst e
  refine ⟨by omega, ?_⟩
  have e : z.1 = L[z.2]'(by omega) := by have := h3.2.2; simpa using this
  rw [← e]
  simpa using h2
theorem line_ok {p : Int} {c w : Nat} {head : List Int} (h0 : 0 < p) (h7 : p ≤ 7) (hw : head.length = w) : (lineOf p c head).length = w ∧ Bn (2 ^ 100) (lineOf p c head) := by
  unfold lineOf
  refine ⟨by rw [List.length_map, hw], fun x hx => ?_⟩
  obtain ⟨z, _, rfl⟩ := List.mem_map.mp hx
  exact mod_bd h0 h7
theorem getD_at {L : List (List Int)} {k : Nat} (h : k < L.length) : L.getD k [] = L[k] := by rw [List.getD_eq_getElem?_getD, List.getElem?_eq_getElem h]; rfl
theorem redStep_ok {p : Int} {c w : Nat} {st : RS} (h0 : 0 < p) (h7 : p ≤ 7) (h : Rok w st.1 ∧ Rok w st.2.1) : Rok w (redStep p st c).1 ∧ Rok w (redStep p st c).2.1 := by
  unfold redStep
  split
  · exact h
  · rename_i k t e
    obtain ⟨hk, _⟩ := spots_mem e
    rw [getD_at hk]
    obtain ⟨l1, l2⟩ := line_ok (p := p) (c := c) h0 h7 (h.1 _ (List.getElem_mem hk)).1
    have cl : ∀ r : List Int, r.length = w → (clr p (cf r c) r (lineOf p c st.1[k])).length = w ∧ Bn (2 ^ 100) (clr p (cf r c) r (lineOf p c st.1[k])) := fun r hr => ⟨by rw [clr_len (by omega)]; exact hr, clr_bn h0 h7⟩
    refine ⟨fun l hl => ?_, fun l hl => ?_⟩
    · obtain ⟨r, hr, rfl⟩ := List.mem_map.mp hl
      exact cl r (h.1 r (List.mem_of_mem_eraseIdx hr)).1
    · rcases List.mem_append.mp hl with hl | hl
      · obtain ⟨r, hr, rfl⟩ := List.mem_map.mp hl
        exact cl r (h.2 r hr).1
      · rw [List.mem_singleton.mp hl]
        exact ⟨l1, l2⟩
theorem red_ok {p : Int} {w : Nat} {L : List (List Int)} (h0 : 0 < p) (h7 : p ≤ 7) (h : Rok w L) : ∀ c, Rok w (red p L c).1 ∧ Rok w (red p L c).2.1
  | 0 => ⟨h, fun _ z => nomatch z⟩
  | c + 1 => by rw [red_s]; exact redStep_ok h0 h7 (red_ok h0 h7 h c)
theorem redStep_len {p : Int} {c : Nat} {st : RS} : (redStep p st c).1.length ≤ st.1.length ∧ (redStep p st c).2.1.length ≤ st.2.1.length + 1 ∧ (redStep p st c).2.2.length ≤ st.2.2.length + 1 := by
  unfold redStep
  split
  · exact ⟨Nat.le_refl _, Nat.le_succ _, Nat.le_succ _⟩
  · simp only [List.length_map, List.length_append, List.length_singleton]
    refine ⟨?_, Nat.le_refl _, Nat.le_refl _⟩
    rw [List.length_eraseIdx]
    split <;> omega
theorem red_len {p : Int} {L : List (List Int)} : ∀ c, (red p L c).1.length ≤ L.length ∧ (red p L c).2.1.length ≤ c ∧ (red p L c).2.2.length ≤ c
  | 0 => ⟨Nat.le_refl _, Nat.le_refl _, Nat.le_refl _⟩
  | c + 1 => by
    have h1 := red_len (p := p) (L := L) c
    have h2 := redStep_len (p := p) (c := c) (st := red p L c)
    rw [red_s]
    omega
section
variable {S : Store} {x y : D} {row line : List Int} {rows L : List (List Int)} {Q : D → Store → Prop} {n k c w r q : Nat} {p n' : Int}
theorem w_cleared (h0 : 0 < p) (h7 : p ≤ 7) (hx : Sq S x row) (hy : Sq S y line) (hl : row.length = line.length) (hc : c < row.length) (hr : row.length ≤ 1000) (b1 : Bn (2 ^ 100) row) (b2 : Bn (2 ^ 100) line)
    (hQ : ∀ r S', Sub S S' → S.length ≤ r → S'[r]? = some (.lst (iL (clr p (cf row c) row line))) → Q (.ref r) S') : WP (f__law_cleared [.int p, x, y, .int (c : Int)] S) Q := by
  unfold f__law_cleared
  rw [mkFn_wp]
  unfold b__law_cleared n__law_cleared
  have e1 : (itemsD S x).bind (fun ds => (L2.atI ds (c : Int)).map fun x => (x, S)) = some (.int (cf row c), S) := by
    rw [hx.items]
    show (L2.atI (iL row) (c : Int)).map _ = _
    rw [ix_lit (by rw [iL_len]; exact hc), iL_at hc, cf_get hc]; rfl
  have e2 : oIx x (.int (c : Int)) S = some (.int (cf row c), S) := by rw [hx.ix hc, cf_get hc]
  simp only [List.map_cons, List.map_nil, List.length_cons, List.length_nil, List.cons_append, List.nil_append, List.replicate, List.getElem?_cons_zero, List.getElem?_cons_succ, List.set_cons_succ, List.set_cons_zero, WP_bind, WP_ok, WP_cut, q_var, q_c, q_bin, q_un, q_ofO, q_chain, q_tst, q_tstB, q_and2, q_or2, q_not1, q_andV, q_orV, q_notV, q_if, q_nil, q_cons, q_tup, q_lst, q_next, q_seq, q_expr, q_ret, q_retN, q_brk, q_cnt, q_sif, q_gnm, q_gtup, q_gcons, q_gnil, q_asg, q_call, q_callB, q_seqi, q_for, q_while, o_add, o_addI, o_sub, o_lt, o_le, o_gt, o_ge, o_neg, o_ixR, o_ixT, o_ixF, itemsT, itemsF, seqT, seqF, q_b1, q_b2, f_intI, f_intB, f_abs, f_max, f_min, f_lenT, f_lenF, f_list, f_tuple, q_gsb, ofB_bl, q_sl, q_pno, q_pat, q_lrg, q_meth, q_fld, q_rng1, Option.bind_some, Option.map_some, ofS_some, if_true, if_false, Bool.false_eq_true, decide_true, decide_false, ix0, ix1, ix2, wipe_nil, wipe_cons, q_yes, q_rng2, e2]
  refine wp_rel (fun S d (i : Int) => d = .int i) (fun _ _ _ _ h _ => h) (List.zip row line) ((List.zip row line).map pr2) (fun _ => true) (fun z => (z.1 - cf row c * z.2) % p) (by rw [List.length_zip]; omega) (by simp) ?_ (fun k a d S1 ha hd s1 => ?_) fun S1 ys s1 h2 => ?_
  · simp only [q_zip, List.map_cons, List.map_nil, List.length_cons, List.length_nil, List.cons_append, List.nil_append, List.replicate, List.getElem?_cons_zero, List.getElem?_cons_succ, List.set_cons_succ, List.set_cons_zero, WP_bind, WP_ok, WP_cut, q_var, q_c, q_bin, q_un, q_ofO, q_chain, q_tst, q_tstB, q_and2, q_or2, q_not1, q_andV, q_orV, q_notV, q_if, q_nil, q_cons, q_tup, q_lst, q_next, q_seq, q_expr, q_ret, q_retN, q_brk, q_cnt, q_sif, q_gnm, q_gtup, q_gcons, q_gnil, q_asg, q_call, q_callB, q_seqi, q_for, q_while, o_add, o_addI, o_sub, o_lt, o_le, o_gt, o_ge, o_neg, o_ixR, o_ixT, o_ixF, itemsT, itemsF, seqT, seqF, q_b1, q_b2, f_intI, f_intB, f_abs, f_max, f_min, f_lenT, f_lenF, f_list, f_tuple, q_gsb, ofB_bl, q_sl, q_pno, q_pat, q_lrg, q_meth, q_fld, q_rng1, Option.bind_some, Option.map_some, ofS_some, if_true, if_false, Bool.false_eq_true, decide_true, decide_false, ix0, ix1, ix2, wipe_nil, wipe_cons, q_yes, q_rng2]
    rw [if_pos ⟨by rw [hx.items]; rfl, by rw [hy.items]; rfl⟩]
    simp only [List.map_cons, List.map_nil, List.length_cons, List.length_nil, List.cons_append, List.nil_append, List.replicate, List.getElem?_cons_zero, List.getElem?_cons_succ, List.set_cons_succ, List.set_cons_zero, WP_bind, WP_ok, WP_cut, q_var, q_c, q_bin, q_un, q_ofO, q_chain, q_tst, q_tstB, q_and2, q_or2, q_not1, q_andV, q_orV, q_notV, q_if, q_nil, q_cons, q_tup, q_lst, q_next, q_seq, q_expr, q_ret, q_retN, q_brk, q_cnt, q_sif, q_gnm, q_gtup, q_gcons, q_gnil, q_asg, q_call, q_callB, q_seqi, q_for, q_while, o_add, o_addI, o_sub, o_lt, o_le, o_gt, o_ge, o_neg, o_ixR, o_ixT, o_ixF, itemsT, itemsF, seqT, seqF, q_b1, q_b2, f_intI, f_intB, f_abs, f_max, f_min, f_lenT, f_lenF, f_list, f_tuple, q_gsb, ofB_bl, q_sl, q_pno, q_pat, q_lrg, q_meth, q_fld, q_rng1, Option.bind_some, Option.map_some, ofS_some, if_true, if_false, Bool.false_eq_true, decide_true, decide_false, ix0, ix1, ix2, wipe_nil, wipe_cons, q_yes, q_rng2]
    refine ⟨Sub.refl _, fun k S2 hk s2 => ?_⟩
    rw [List.length_zip] at hk
    exact jZ_at (hx.sub s2).items (hy.sub s2).items hl (by omega)
  · have : d = pr2 a := by
      rw [List.getElem?_map, ha] at hd
      exact (Option.some.inj hd).symm
    subst this
    have hm := List.mem_of_getElem? ha
    have m1 : mulOk (cf row c) a.2 = true := mulW (ltp (b1.cf c)) (ltp (b2 _ (List.of_mem_zip hm).2)) (by omega)
    simp only [pr2, List.map_cons, List.map_nil, List.length_cons, List.length_nil, List.cons_append, List.nil_append, List.replicate, List.getElem?_cons_zero, List.getElem?_cons_succ, List.set_cons_succ, List.set_cons_zero, WP_bind, WP_ok, WP_cut, q_var, q_c, q_bin, q_un, q_ofO, q_chain, q_tst, q_tstB, q_and2, q_or2, q_not1, q_andV, q_orV, q_notV, q_if, q_nil, q_cons, q_tup, q_lst, q_next, q_seq, q_expr, q_ret, q_retN, q_brk, q_cnt, q_sif, q_gnm, q_gtup, q_gcons, q_gnil, q_asg, q_call, q_callB, q_seqi, q_for, q_while, o_add, o_addI, o_sub, o_lt, o_le, o_gt, o_ge, o_neg, o_ixR, o_ixT, o_ixF, itemsT, itemsF, seqT, seqF, q_b1, q_b2, f_intI, f_intB, f_abs, f_max, f_min, f_lenT, f_lenF, f_list, f_tuple, q_gsb, ofB_bl, q_sl, q_pno, q_pat, q_lrg, q_meth, q_fld, q_rng1, Option.bind_some, Option.map_some, ofS_some, if_true, if_false, Bool.false_eq_true, decide_true, decide_false, ix0, ix1, ix2, wipe_nil, wipe_cons, q_yes, q_rng2, z2, z2', o_mul m1, o_mod h0]
    exact ⟨trivial, Sub.refl _, fun _ => ⟨trivial, Sub.refl _⟩⟩
  · simp only [List.map_cons, List.map_nil, List.length_cons, List.length_nil, List.cons_append, List.nil_append, List.replicate, List.getElem?_cons_zero, List.getElem?_cons_succ, List.set_cons_succ, List.set_cons_zero, WP_bind, WP_ok, WP_cut, q_var, q_c, q_bin, q_un, q_ofO, q_chain, q_tst, q_tstB, q_and2, q_or2, q_not1, q_andV, q_orV, q_notV, q_if, q_nil, q_cons, q_tup, q_lst, q_next, q_seq, q_expr, q_ret, q_retN, q_brk, q_cnt, q_sif, q_gnm, q_gtup, q_gcons, q_gnil, q_asg, q_call, q_callB, q_seqi, q_for, q_while, o_add, o_addI, o_sub, o_lt, o_le, o_gt, o_ge, o_neg, o_ixR, o_ixT, o_ixF, itemsT, itemsF, seqT, seqF, q_b1, q_b2, f_intI, f_intB, f_abs, f_max, f_min, f_lenT, f_lenF, f_list, f_tuple, q_gsb, ofB_bl, q_sl, q_pno, q_pat, q_lrg, q_meth, q_fld, q_rng1, Option.bind_some, Option.map_some, ofS_some, if_true, if_false, Bool.false_eq_true, decide_true, decide_false, ix0, ix1, ix2, wipe_nil, wipe_cons, q_yes, q_rng2]
    refine hQ _ _ (s1.trans (Sub.push _ _)) (sub_len s1) ?_
    rw [push_at]
    rw [filter_tt] at h2
    congr 2
    refine List.ext_getElem? fun k => ?_
    unfold clr iL
    by_cases hk : k < (List.zip row line).length
    · obtain ⟨d, e, rfl⟩ := h2.get (k := k) (by rw [List.length_map]; exact hk)
      rw [e, List.getElem?_map, List.getElem?_map, List.getElem?_eq_getElem hk, List.getElem_map]; rfl
    · rw [List.getElem?_eq_none (by rw [h2.1, List.length_map]; omega), List.getElem?_eq_none (by simp at hk ⊢; omega)]
theorem w_inverse (hp : p ∈ ([2, 3, 5, 7] : List Int)) (hn : n' % p ≠ 0) (hb : n'.natAbs ≤ 2 ^ 100) (hQ : ∀ S', Sub S S' → Q (.int (inv p n')) S') : WP (f__law_inverse [.int p, .int n'] S) Q := by
  have hp' : p = 2 ∨ p = 3 ∨ p = 5 ∨ p = 7 := by simpa using hp
  unfold f__law_inverse
  rw [mkFn_wp]
  unfold b__law_inverse n__law_inverse
  simp only [List.map_cons, List.map_nil, List.length_cons, List.length_nil, List.cons_append, List.nil_append, List.replicate, List.getElem?_cons_zero, List.getElem?_cons_succ, List.set_cons_succ, List.set_cons_zero, WP_bind, WP_ok, WP_cut, q_var, q_c, q_bin, q_un, q_ofO, q_chain, q_tst, q_tstB, q_and2, q_or2, q_not1, q_andV, q_orV, q_notV, q_if, q_nil, q_cons, q_tup, q_lst, q_next, q_seq, q_expr, q_ret, q_retN, q_brk, q_cnt, q_sif, q_gnm, q_gtup, q_gcons, q_gnil, q_asg, q_call, q_callB, q_seqi, q_for, q_while, o_add, o_addI, o_sub, o_lt, o_le, o_gt, o_ge, o_neg, o_ixR, o_ixT, o_ixF, itemsT, itemsF, seqT, seqF, q_b1, q_b2, f_intI, f_intB, f_abs, f_max, f_min, f_lenT, f_lenF, f_list, f_tuple, q_gsb, ofB_bl, q_sl, q_pno, q_pat, q_lrg, q_meth, q_fld, q_rng1, Option.bind_some, Option.map_some, ofS_some, if_true, if_false, Bool.false_eq_true, decide_true, decide_false, ix0, ix1, ix2, wipe_nil, wipe_cons, q_yes, q_rng2]
  refine wp_fm ((List.range (p - 1).toNat).map fun (j : Nat) => (1 : Int) + (j : Int)) D.int (fun v => decide (v * n' % p = 1)) D.int (by simp; omega) ?_ (fun a S1 hm s1 => ?_) fun r S1 s1 h1 => ?_
  · simp only [List.map_cons, List.map_nil, List.length_cons, List.length_nil, List.cons_append, List.nil_append, List.replicate, List.getElem?_cons_zero, List.getElem?_cons_succ, List.set_cons_succ, List.set_cons_zero, WP_bind, WP_ok, WP_cut, q_var, q_c, q_bin, q_un, q_ofO, q_chain, q_tst, q_tstB, q_and2, q_or2, q_not1, q_andV, q_orV, q_notV, q_if, q_nil, q_cons, q_tup, q_lst, q_next, q_seq, q_expr, q_ret, q_retN, q_brk, q_cnt, q_sif, q_gnm, q_gtup, q_gcons, q_gnil, q_asg, q_call, q_callB, q_seqi, q_for, q_while, o_add, o_addI, o_sub, o_lt, o_le, o_gt, o_ge, o_neg, o_ixR, o_ixT, o_ixF, itemsT, itemsF, seqT, seqF, q_b1, q_b2, f_intI, f_intB, f_abs, f_max, f_min, f_lenT, f_lenF, f_list, f_tuple, q_gsb, ofB_bl, q_sl, q_pno, q_pat, q_lrg, q_meth, q_fld, q_rng1, Option.bind_some, Option.map_some, ofS_some, if_true, if_false, Bool.false_eq_true, decide_true, decide_false, ix0, ix1, ix2, wipe_nil, wipe_cons, q_yes, q_rng2]
    rw [if_pos (by omega)]
    simp only [List.map_cons, List.map_nil, List.length_cons, List.length_nil, List.cons_append, List.nil_append, List.replicate, List.getElem?_cons_zero, List.getElem?_cons_succ, List.set_cons_succ, List.set_cons_zero, WP_bind, WP_ok, WP_cut, q_var, q_c, q_bin, q_un, q_ofO, q_chain, q_tst, q_tstB, q_and2, q_or2, q_not1, q_andV, q_orV, q_notV, q_if, q_nil, q_cons, q_tup, q_lst, q_next, q_seq, q_expr, q_ret, q_retN, q_brk, q_cnt, q_sif, q_gnm, q_gtup, q_gcons, q_gnil, q_asg, q_call, q_callB, q_seqi, q_for, q_while, o_add, o_addI, o_sub, o_lt, o_le, o_gt, o_ge, o_neg, o_ixR, o_ixT, o_ixF, itemsT, itemsF, seqT, seqF, q_b1, q_b2, f_intI, f_intB, f_abs, f_max, f_min, f_lenT, f_lenF, f_list, f_tuple, q_gsb, ofB_bl, q_sl, q_pno, q_pat, q_lrg, q_meth, q_fld, q_rng1, Option.bind_some, Option.map_some, ofS_some, if_true, if_false, Bool.false_eq_true, decide_true, decide_false, ix0, ix1, ix2, wipe_nil, wipe_cons, q_yes, q_rng2]
    refine ⟨Sub.refl _, fun k S2 hk s2 => ?_⟩
    rw [List.length_map, List.length_range] at hk
    rw [jRm' hk, List.map_map]; rfl
  · obtain ⟨j, hj, rfl⟩ := List.mem_map.mp hm
    have := List.mem_range.mp hj
    have m0 : (10 : Nat) < 2 ^ 100 := by decide
    have m1 : mulOk (1 + (j : Int)) n' = true := mulW (a := 100) (b := 101) (by omega) (ltp hb) (by omega)
    simp only [List.map_cons, List.map_nil, List.length_cons, List.length_nil, List.cons_append, List.nil_append, List.replicate, List.getElem?_cons_zero, List.getElem?_cons_succ, List.set_cons_succ, List.set_cons_zero, WP_bind, WP_ok, WP_cut, q_var, q_c, q_bin, q_un, q_ofO, q_chain, q_tst, q_tstB, q_and2, q_or2, q_not1, q_andV, q_orV, q_notV, q_if, q_nil, q_cons, q_tup, q_lst, q_next, q_seq, q_expr, q_ret, q_retN, q_brk, q_cnt, q_sif, q_gnm, q_gtup, q_gcons, q_gnil, q_asg, q_call, q_callB, q_seqi, q_for, q_while, o_add, o_addI, o_sub, o_lt, o_le, o_gt, o_ge, o_neg, o_ixR, o_ixT, o_ixF, itemsT, itemsF, seqT, seqF, q_b1, q_b2, f_intI, f_intB, f_abs, f_max, f_min, f_lenT, f_lenF, f_list, f_tuple, q_gsb, ofB_bl, q_sl, q_pno, q_pat, q_lrg, q_meth, q_fld, q_rng1, Option.bind_some, Option.map_some, ofS_some, if_true, if_false, Bool.false_eq_true, decide_true, decide_false, ix0, ix1, ix2, wipe_nil, wipe_cons, q_yes, q_rng2, o_mul m1, o_mod (show 0 < p by omega), o_eqI]
    exact ⟨trivial, Sub.refl _, fun _ => ⟨trivial, Sub.refl _⟩⟩
  · have hne := invL_ne hp hn
    have hh : (iL (invL p n'))[0]? = some (.int (inv p n')) := by
      unfold inv
      cases h : invL p n' with
      | nil => exact absurd h hne
      | cons a l => rfl
    have e : L2.atI (iL (invL p n')) ((0 : Nat) : Int) = some (.int (inv p n')) := by
      rw [ix_lit (by rw [iL_len]; exact List.length_pos_iff.mpr hne)]; exact hh
    have h1' : S1[r]? = some (.lst (iL (invL p n'))) := h1
    have e' : L2.atI (iL (invL p n')) (0 : Int) = some (.int (inv p n')) := e
    simp only [List.map_cons, List.map_nil, List.length_cons, List.length_nil, List.cons_append, List.nil_append, List.replicate, List.getElem?_cons_zero, List.getElem?_cons_succ, List.set_cons_succ, List.set_cons_zero, WP_bind, WP_ok, WP_cut, q_var, q_c, q_bin, q_un, q_ofO, q_chain, q_tst, q_tstB, q_and2, q_or2, q_not1, q_andV, q_orV, q_notV, q_if, q_nil, q_cons, q_tup, q_lst, q_next, q_seq, q_expr, q_ret, q_retN, q_brk, q_cnt, q_sif, q_gnm, q_gtup, q_gcons, q_gnil, q_asg, q_call, q_callB, q_seqi, q_for, q_while, o_add, o_addI, o_sub, o_lt, o_le, o_gt, o_ge, o_neg, o_ixR, o_ixT, o_ixF, itemsT, itemsF, seqT, seqF, q_b1, q_b2, f_intI, f_intB, f_abs, f_max, f_min, f_lenT, f_lenF, f_list, f_tuple, q_gsb, ofB_bl, q_sl, q_pno, q_pat, q_lrg, q_meth, q_fld, q_rng1, Option.bind_some, Option.map_some, ofS_some, if_true, if_false, Bool.false_eq_true, decide_true, decide_false, ix0, ix1, ix2, wipe_nil, wipe_cons, q_yes, q_rng2, itemsR h1', e']
    exact hQ _ s1
end
end Zk16


set_option exponentiation.threshold 3000
namespace Zk16
open PySem PySem.Spec Z
theorem py_ir {S : Store} {k : Nat} {d : D} {l : List Int} (h : IR S d l) : toPy S (k + 1) d = some (.list (l.map PyData.int)) := by
  obtain ⟨r, rfl, h⟩ := h
  exact py_lst h
theorem py_irs {S : Store} {k : Nat} : ∀ {ds : List D} {rows : List (List Int)}, Rels IR S ds rows → seqO (ds.map (toPy S (k + 1))) = some (rows.map fun l => PyData.list (l.map PyData.int))
  | [], [], _ => rfl
  | [], _ :: _, h => absurd h.1 (by simp)
  | _ :: _, [], h => absurd h.1 (by simp)
  | d :: ds, l :: rows, h => by
    have h0 := h.2 0 d l rfl rfl
    have ht : Rels IR S ds rows := ⟨by simpa using h.1, fun k d a h1 h2 => h.2 (k + 1) d a (by simpa using h1) (by simpa using h2)⟩
    rw [List.map_cons, py_ir h0]
    simp only [seqO, py_irs ht, Option.map_some, List.map_cons]
theorem py_rw {S : Store} {r : Nat} {rows : List (List Int)} (h : Rw S r rows) : toPy S 60 (.ref r) = some (.list (rows.map fun l => PyData.list (l.map PyData.int))) := by
  obtain ⟨ds, e, h⟩ := h
  simp only [toPy, e, py_irs h, Option.map_some]
theorem ne_nil {S : Store} {r q : Nat} {rows : List (List Int)} (h : Rw S r rows) (h' : S[q]? = some (.lst [])) : oNe (.ref r) (.ref q) S = some (.bl (!decide (rows = [])), S) := by
  rw [o_neP (py_rw h) (py_rw (r := q) (rows := []) ⟨[], h', Rels.nil⟩)]
  cases rows with
  | nil => rfl
  | cons a l => rfl
theorem IR.lt {S : Store} {r : Nat} {l : List Int} (h : IR S (.ref r) l) : r < S.length := let ⟨_, e, h⟩ := h; by cases e; exact lt_of_at h
/-- what stands stays at other places than e -/
theorem rels_in {S S' : Store} {e : Nat} {ds : List D} {rows : List (List Int)} (h : Rels IR S ds rows) (he : S.length ≤ e) (s : Sub S S') : Rels (IN e) S' ds rows := h.imp fun d l ⟨r, ed, h⟩ => ⟨r, ed, by have := lt_of_at h; omega, s _ _ h⟩
/-- each item of a list or tuple of rows copied -/
theorem w_lists {S : Store} {x : D} {rows : List (List Int)} {env : En} {Q : D → Store → Prop} {i j : Nat} (hx : Rg S x rows) (hl : rows.length ≤ 1000000) (hj : j < env.length) (hij : i ≠ j) (e1 : env[i]? = some (some x))
    (hQ : ∀ S1 ys, Sub S S1 → Rels IR S1 ys rows → Q (.ref S1.length) (S1 ++ [.lst ys])) :
    WP (dLc (iSeq (dVar i)) (gNm j) tYes1 (dCallB (b1 fList) (dCons (dVar j) dNil)) [j] env S) Q := by
  obtain ⟨ds, its, rl⟩ := hx
  obtain ⟨J, eJ, hJ⟩ := its.seq
  refine wp_rel (fun S d l => IR S d l) (fun _ _ _ _ h s => h.mono s) rows ds (fun _ => true) (fun l => l) hl rl.1 ?_ (fun k a d S1 ha hd s1 => ?_) fun S1 ys s1 h2 => ?_
  · simp only [List.map_cons, List.map_nil, List.length_cons, List.length_nil, List.cons_append, List.nil_append, List.replicate, List.getElem?_cons_zero, List.getElem?_cons_succ, List.set_cons_succ, List.set_cons_zero, WP_bind, WP_ok, WP_cut, q_var, q_c, q_bin, q_un, q_ofO, q_chain, q_tst, q_tstB, q_and2, q_or2, q_not1, q_andV, q_orV, q_notV, q_if, q_nil, q_cons, q_tup, q_lst, q_next, q_seq, q_expr, q_ret, q_retN, q_brk, q_cnt, q_sif, q_gnm, q_gtup, q_gcons, q_gnil, q_asg, q_call, q_callB, q_seqi, q_for, q_while, o_add, o_addI, o_sub, o_lt, o_le, o_gt, o_ge, o_neg, o_ixR, o_ixT, o_ixF, itemsT, itemsF, seqT, seqF, q_b1, q_b2, f_intI, f_intB, f_abs, f_max, f_min, f_lenT, f_lenF, f_list, f_tuple, q_gsb, ofB_bl, q_sl, q_pno, q_pat, q_lrg, q_meth, q_fld, q_rng1, Option.bind_some, Option.map_some, ofS_some, if_true, if_false, Bool.false_eq_true, decide_true, decide_false, ix0, ix1, ix2, wipe_nil, wipe_cons, q_yes, q_rng2, e1, eJ]
    exact ⟨Sub.refl _, fun k S2 _ s2 => hJ k S2 s2⟩
  · have hs : Sq S1 d a := (rl.2 k d a hd ha).sub s1
    have ej : ((env.set j none).set j (some d))[j]? = some (some d) := by rw [List.getElem?_set_self (by simpa using hj)]
    simp only [List.map_cons, List.map_nil, List.length_cons, List.length_nil, List.cons_append, List.nil_append, List.replicate, List.getElem?_cons_zero, List.getElem?_cons_succ, List.set_cons_succ, List.set_cons_zero, WP_bind, WP_ok, WP_cut, q_var, q_c, q_bin, q_un, q_ofO, q_chain, q_tst, q_tstB, q_and2, q_or2, q_not1, q_andV, q_orV, q_notV, q_if, q_nil, q_cons, q_tup, q_lst, q_next, q_seq, q_expr, q_ret, q_retN, q_brk, q_cnt, q_sif, q_gnm, q_gtup, q_gcons, q_gnil, q_asg, q_call, q_callB, q_seqi, q_for, q_while, o_add, o_addI, o_sub, o_lt, o_le, o_gt, o_ge, o_neg, o_ixR, o_ixT, o_ixF, itemsT, itemsF, seqT, seqF, q_b1, q_b2, f_intI, f_intB, f_abs, f_max, f_min, f_lenT, f_lenF, f_list, f_tuple, q_gsb, ofB_bl, q_sl, q_pno, q_pat, q_lrg, q_meth, q_fld, q_rng1, Option.bind_some, Option.map_some, ofS_some, if_true, if_false, Bool.false_eq_true, decide_true, decide_false, ix0, ix1, ix2, wipe_nil, wipe_cons, q_yes, q_rng2, ej, hs.items]
    exact ⟨trivial, Sub.refl _, fun _ => ⟨⟨_, rfl, push_at⟩, Sub.push _ _⟩⟩
  · rw [filter_tt, List.map_id'] at h2
    exact hQ _ _ s1 h2
/-- each row of a list cleared by a line -/
theorem w_clears {S : Store} {a c w e : Nat} {z : D} {line : List Int} {rows : List (List Int)} {env : En} {p : Int} {Q : D → Store → Prop} {i : Nat} (h0 : 0 < p) (h7 : p ≤ 7) (hx : Rw S a rows) (hl : rows.length ≤ 1000) (hw : w ≤ 1000) (hc : c < w) (hk : Rok w rows)
    (hz : Sq S z line) (lz : line.length = w) (bz : Bn (2 ^ 100) line) (he : e < S.length) (hj : 10 < env.length) (hi : i ≠ 10) (ei : env[i]? = some (some (.ref a))) (e0 : env[0]? = some (some (.int p))) (e9 : env[9]? = some (some z)) (e5 : env[5]? = some (some (.int (c : Int))))
    (hQ : ∀ S1 ys, Sub S S1 → Rels (IN e) S1 ys (rows.map fun r => clr p (cf r c) r line) → Q (.ref S1.length) (S1 ++ [.lst ys])) :
    WP (dLc (iSeq (dVar i)) (gNm 10) tYes1 (dCall f__law_cleared (dCons (dVar 0) (dCons (dVar 10) (dCons (dVar 9) (dCons (dVar 5) dNil))))) [10] env S) Q := by
  obtain ⟨ds, its, rl⟩ := hx
  obtain ⟨hJ1, hJ2⟩ := seq_items (x := .ref a) rfl its
  refine wp_rel (fun S d l => IN e S d l) (fun _ _ _ _ h s => h.mono s) rows ds (fun _ => true) (fun r => clr p (cf r c) r line) (by omega) rl.1 ?_ (fun k r d S1 ha hd s1 => ?_) fun S1 ys s1 h2 => ?_
  · simp only [List.map_cons, List.map_nil, List.length_cons, List.length_nil, List.cons_append, List.nil_append, List.replicate, List.getElem?_cons_zero, List.getElem?_cons_succ, List.set_cons_succ, List.set_cons_zero, WP_bind, WP_ok, WP_cut, q_var, q_c, q_bin, q_un, q_ofO, q_chain, q_tst, q_tstB, q_and2, q_or2, q_not1, q_andV, q_orV, q_notV, q_if, q_nil, q_cons, q_tup, q_lst, q_next, q_seq, q_expr, q_ret, q_retN, q_brk, q_cnt, q_sif, q_gnm, q_gtup, q_gcons, q_gnil, q_asg, q_call, q_callB, q_seqi, q_for, q_while, o_add, o_addI, o_sub, o_lt, o_le, o_gt, o_ge, o_neg, o_ixR, o_ixT, o_ixF, itemsT, itemsF, seqT, seqF, q_b1, q_b2, f_intI, f_intB, f_abs, f_max, f_min, f_lenT, f_lenF, f_list, f_tuple, q_gsb, ofB_bl, q_sl, q_pno, q_pat, q_lrg, q_meth, q_fld, q_rng1, Option.bind_some, Option.map_some, ofS_some, if_true, if_false, Bool.false_eq_true, decide_true, decide_false, ix0, ix1, ix2, wipe_nil, wipe_cons, q_yes, q_rng2, ei, hJ1]
    exact ⟨Sub.refl _, fun k S2 _ s2 => hJ2 k S2 s2⟩
  · have hs : IR S1 d r := (rl.2 k d r hd ha).mono s1
    have hm := hk r (List.mem_of_getElem? ha)
    have g10 : ((env.set 10 none).set 10 (some d))[10]? = some (some d) := by rw [List.getElem?_set_self (by simpa using hj)]
    have gN : ∀ n, n ≠ 10 → ((env.set 10 none).set 10 (some d))[n]? = env[n]? := fun n hn => by rw [List.getElem?_set_ne (Ne.symm hn), List.getElem?_set_ne (Ne.symm hn)]
    simp only [List.map_cons, List.map_nil, List.length_cons, List.length_nil, List.cons_append, List.nil_append, List.replicate, List.getElem?_cons_zero, List.getElem?_cons_succ, List.set_cons_succ, List.set_cons_zero, WP_bind, WP_ok, WP_cut, q_var, q_c, q_bin, q_un, q_ofO, q_chain, q_tst, q_tstB, q_and2, q_or2, q_not1, q_andV, q_orV, q_notV, q_if, q_nil, q_cons, q_tup, q_lst, q_next, q_seq, q_expr, q_ret, q_retN, q_brk, q_cnt, q_sif, q_gnm, q_gtup, q_gcons, q_gnil, q_asg, q_call, q_callB, q_seqi, q_for, q_while, o_add, o_addI, o_sub, o_lt, o_le, o_gt, o_ge, o_neg, o_ixR, o_ixT, o_ixF, itemsT, itemsF, seqT, seqF, q_b1, q_b2, f_intI, f_intB, f_abs, f_max, f_min, f_lenT, f_lenF, f_list, f_tuple, q_gsb, ofB_bl, q_sl, q_pno, q_pat, q_lrg, q_meth, q_fld, q_rng1, Option.bind_some, Option.map_some, ofS_some, if_true, if_false, Bool.false_eq_true, decide_true, decide_false, ix0, ix1, ix2, wipe_nil, wipe_cons, q_yes, q_rng2, g10, gN 0 (by decide), gN 9 (by decide), gN 5 (by decide), e0, e9, e5]
    refine ⟨trivial, Sub.refl _, fun _ => ?_⟩
    refine w_cleared h0 h7 hs.sq (hz.sub s1) (by omega) (by omega) (by omega) hm.2 bz fun r' S' s' lr h' => ⟨⟨_, rfl, by have := sub_len s1; omega, h'⟩, s'⟩
  · rw [filter_tt] at h2
    exact hQ _ _ s1 h2
/-- the places of the rows that have something in the column -/
theorem w_spots {S : Store} {a c w : Nat} {rows : List (List Int)} {env : En} {p : Int} {Q : D → Store → Prop} (h0 : 0 < p) (hx : Rw S a rows) (hl : rows.length ≤ 1000) (hc : c < w) (hk : Rok w rows)
    (hj : 11 < env.length) (e2 : env[2]? = some (some (.ref a))) (e0 : env[0]? = some (some (.int p))) (e5 : env[5]? = some (some (.int (c : Int))))
    (hQ : ∀ r S1, Sub S S1 → S1[r]? = some (.lst (iL ((spots p c rows).map fun (k : Nat) => (k : Int)))) → Q (.ref r) S1) :
    WP (dLc (iEnum (dCons (dVar 2) dNil)) (gTup 2 (gCons (gNm 11) (gCons (gNm 10) gNil))) (dTstB (dBin oNe (dBin oModI (dBin oIx (dVar 10) (dVar 5)) (dVar 0)) (dC (.int 0)))) (dVar 11) [11, 10] env S) Q := by
  obtain ⟨ds, its, rl⟩ := hx
  refine wp_rel (fun _ d (k : Nat) => d = .int (k : Int)) (fun _ _ _ _ h _ => h) rows.zipIdx (ds.zipIdx.map fun z => D.tup [.int (z.2 : Int), z.1]) (fun z => !decide (cf z.1 c % p = 0)) (fun z => z.2) (by simpa using (show rows.length ≤ 1000000 by omega)) (by simp [rl.1]) ?_ (fun k z d S1 ha hd s1 => ?_) fun S1 ys s1 h2 => ?_
  · rw [enum1 (A := dVar 2) (x := .ref a) (by simp only [List.map_cons, List.map_nil, List.length_cons, List.length_nil, List.cons_append, List.nil_append, List.replicate, List.getElem?_cons_zero, List.getElem?_cons_succ, List.set_cons_succ, List.set_cons_zero, WP_bind, WP_ok, WP_cut, q_var, q_c, q_bin, q_un, q_ofO, q_chain, q_tst, q_tstB, q_and2, q_or2, q_not1, q_andV, q_orV, q_notV, q_if, q_nil, q_cons, q_tup, q_lst, q_next, q_seq, q_expr, q_ret, q_retN, q_brk, q_cnt, q_sif, q_gnm, q_gtup, q_gcons, q_gnil, q_asg, q_call, q_callB, q_seqi, q_for, q_while, o_add, o_addI, o_sub, o_lt, o_le, o_gt, o_ge, o_neg, o_ixR, o_ixT, o_ixF, itemsT, itemsF, seqT, seqF, q_b1, q_b2, f_intI, f_intB, f_abs, f_max, f_min, f_lenT, f_lenF, f_list, f_tuple, q_gsb, ofB_bl, q_sl, q_pno, q_pat, q_lrg, q_meth, q_fld, q_rng1, Option.bind_some, Option.map_some, ofS_some, if_true, if_false, Bool.false_eq_true, decide_true, decide_false, ix0, ix1, ix2, wipe_nil, wipe_cons, q_yes, q_rng2, e2]) (by rw [itemsR its]; rfl)]
    simp only [List.map_cons, List.map_nil, List.length_cons, List.length_nil, List.cons_append, List.nil_append, List.replicate, List.getElem?_cons_zero, List.getElem?_cons_succ, List.set_cons_succ, List.set_cons_zero, WP_bind, WP_ok, WP_cut, q_var, q_c, q_bin, q_un, q_ofO, q_chain, q_tst, q_tstB, q_and2, q_or2, q_not1, q_andV, q_orV, q_notV, q_if, q_nil, q_cons, q_tup, q_lst, q_next, q_seq, q_expr, q_ret, q_retN, q_brk, q_cnt, q_sif, q_gnm, q_gtup, q_gcons, q_gnil, q_asg, q_call, q_callB, q_seqi, q_for, q_while, o_add, o_addI, o_sub, o_lt, o_le, o_gt, o_ge, o_neg, o_ixR, o_ixT, o_ixF, itemsT, itemsF, seqT, seqF, q_b1, q_b2, f_intI, f_intB, f_abs, f_max, f_min, f_lenT, f_lenF, f_list, f_tuple, q_gsb, ofB_bl, q_sl, q_pno, q_pat, q_lrg, q_meth, q_fld, q_rng1, Option.bind_some, Option.map_some, ofS_some, if_true, if_false, Bool.false_eq_true, decide_true, decide_false, ix0, ix1, ix2, wipe_nil, wipe_cons, q_yes, q_rng2]
    refine ⟨Sub.refl _, fun k S2 hk s2 => ?_⟩
    exact jE_at (itemsR (s2 _ _ its)) (by simpa [rl.1] using hk)
  · have hk' : k < rows.length := by have := (List.getElem?_eq_some_iff.mp ha).1; simpa using this
    have hk2 : k < ds.length := by rw [rl.1]; exact hk'
    have ez : z = (rows[k], k) := by
      rw [List.getElem?_zipIdx, List.getElem?_eq_getElem hk'] at ha
      simpa using ha.symm
    have ed : d = .tup [.int (k : Int), ds[k]] := by
      rw [List.getElem?_map, List.getElem?_zipIdx, List.getElem?_eq_getElem hk2] at hd
      simpa using hd.symm
    subst ez ed
    have hs : IR S1 ds[k] rows[k] := (rl.2 k _ _ (List.getElem?_eq_getElem hk2) (List.getElem?_eq_getElem hk')).mono s1
    have hm := hk _ (List.getElem_mem hk')
    generalize ds[k] = d at hs
    have L : ∀ {n : Nat}, n < env.length → n < (((env.set 10 none).set 11 none).set 11 (some (.int (k : Int)))).length := fun h => by simpa using h
    have g10 : ((((env.set 10 none).set 11 none).set 11 (some (.int (k : Int)))).set 10 (some d))[10]? = some (some d) := by rw [List.getElem?_set_self (L (by omega))]
    have g11 : ((((env.set 10 none).set 11 none).set 11 (some (.int (k : Int)))).set 10 (some d))[11]? = some (some (.int (k : Int))) := by rw [List.getElem?_set_ne (by decide), List.getElem?_set_self (by simpa using hj)]
    have gN : ∀ n, n ≠ 10 → n ≠ 11 → ((((env.set 10 none).set 11 none).set 11 (some (.int (k : Int)))).set 10 (some d))[n]? = env[n]? := fun n hn hn' => by rw [List.getElem?_set_ne (Ne.symm hn), List.getElem?_set_ne (Ne.symm hn'), List.getElem?_set_ne (Ne.symm hn'), List.getElem?_set_ne (Ne.symm hn)]
    have ix : oIx d (.int (c : Int)) S1 = some (.int (cf rows[k] c), S1) := by rw [hs.sq.ix (by omega), cf_get (by omega)]
    simp only [List.map_cons, List.map_nil, List.length_cons, List.length_nil, List.cons_append, List.nil_append, List.replicate, List.getElem?_cons_zero, List.getElem?_cons_succ, List.set_cons_succ, List.set_cons_zero, WP_bind, WP_ok, WP_cut, q_var, q_c, q_bin, q_un, q_ofO, q_chain, q_tst, q_tstB, q_and2, q_or2, q_not1, q_andV, q_orV, q_notV, q_if, q_nil, q_cons, q_tup, q_lst, q_next, q_seq, q_expr, q_ret, q_retN, q_brk, q_cnt, q_sif, q_gnm, q_gtup, q_gcons, q_gnil, q_asg, q_call, q_callB, q_seqi, q_for, q_while, o_add, o_addI, o_sub, o_lt, o_le, o_gt, o_ge, o_neg, o_ixR, o_ixT, o_ixF, itemsT, itemsF, seqT, seqF, q_b1, q_b2, f_intI, f_intB, f_abs, f_max, f_min, f_lenT, f_lenF, f_list, f_tuple, q_gsb, ofB_bl, q_sl, q_pno, q_pat, q_lrg, q_meth, q_fld, q_rng1, Option.bind_some, Option.map_some, ofS_some, if_true, if_false, Bool.false_eq_true, decide_true, decide_false, ix0, ix1, ix2, wipe_nil, wipe_cons, q_yes, q_rng2, g10, g11, gN 0 (by decide) (by decide), gN 5 (by decide) (by decide), e0, e5, ix, o_mod h0, o_neI]
    exact ⟨trivial, Sub.refl _, fun _ => ⟨trivial, Sub.refl _⟩⟩
  · refine hQ _ _ (s1.trans (Sub.push _ _)) ?_
    rw [push_at]
    congr 2
    unfold spots iL
    refine List.ext_getElem? fun k => ?_
    by_cases hk : k < ((rows.zipIdx.filter fun z => !decide (cf z.1 c % p = 0)).map fun z => z.2).length
    · obtain ⟨d, e, rfl⟩ := h2.get hk
      rw [e, List.map_map, List.getElem?_map, List.getElem?_eq_getElem (by simpa using hk), List.getElem_map]; rfl
    · rw [List.getElem?_eq_none (by rw [h2.1]; omega), List.getElem?_eq_none (by simp at hk ⊢; omega)]
end Zk16


set_option exponentiation.threshold 3000
namespace Zk16
open PySem PySem.Spec Z
def tb_red : DS := (sSeq (sAsg (dLc (iEnum (dCons (dVar 2) dNil)) (gTup 2 (gCons (gNm 11) (gCons (gNm 10) gNil))) (dTstB (dBin oNe (dBin oModI (dBin oIx (dVar 10) (dVar 5)) (dVar 0)) (dC (.int 0)))) (dVar 11) [11, 10]) (gNm 6)) (sIf (dTstB (dBin oNe (dVar 6) (dLst dNil))) (sSeq (sAsg (dMeth isL mPop (dVar 2) (dCons (dBin oIx (dVar 6) (dC (.int 0))) dNil)) (gNm 7)) (sSeq (sAsg (dCall f__law_inverse (dCons (dVar 0) (dCons (dBin oIx (dVar 7) (dVar 5)) dNil))) (gNm 8)) (sSeq (sAsg (dLc (iSeq (dVar 7)) (gNm 12) tYes1 (dBin oModI (dCallB (b1 fInt) (dCons (dBin oMulA (dVar 12) (dVar 8)) dNil)) (dVar 0)) [12]) (gNm 9)) (sSeq (sAsg (dLc (iSeq (dVar 2)) (gNm 10) tYes1 (dCall f__law_cleared (dCons (dVar 0) (dCons (dVar 10) (dCons (dVar 9) (dCons (dVar 5) dNil))))) [10]) (gNm 2)) (sSeq (sAsg (dBin oAdd (dLc (iSeq (dVar 3)) (gNm 10) tYes1 (dCall f__law_cleared (dCons (dVar 0) (dCons (dVar 10) (dCons (dVar 9) (dCons (dVar 5) dNil))))) [10]) (dLst (dCons (dVar 9) dNil))) (gNm 3)) (sExpr (dMeth isL mAppend (dVar 4) (dCons (dVar 5) dNil)))))))) sNext))
/-- what the loop keeps -/
structure RI (S0 S : Store) (a b e : Nat) (st : RS) (w : Nat) : Prop where
  sub : Sub S0 S
  la : S0.length ≤ a
  le : S0.length ≤ e
  ae : a ≠ e
  be : b ≠ e
  ab : a ≠ b
  L : RN e S a st.1
  F : RN e S b st.2.1
  E : S[e]? = some (.lst (iL st.2.2))
  ok1 : Rok w st.1
  ok2 : Rok w st.2.1
theorem sub_len' {S S' : Store} (s : Sub S S') : S.length ≤ S'.length := sub_len s
theorem w_redbody {S0 S : Store} {a b e c w : Nat} {st : RS} {p : Int} {x : D} {a6 a7 a8 a9 a10 a11 a12 : Option D} {Q : Fl → Store → Prop} (hp : p ∈ ([2, 3, 5, 7] : List Int)) (I : RI S0 S a b e st w) (hc : c < w) (hw : w ≤ 1000) (l1 : st.1.length ≤ 1000) (l2 : st.2.1.length ≤ 1000) (l3 : st.2.2.length ≤ 1000)
    (hQ : ∀ a' b' a6 a7 a8 a9 a10 a11 a12 S', RI S0 S' a' b' e (redStep p st c) w → Q (.nx [some (.int p), some x, some (.ref a'), some (.ref b'), some (.ref e), some (.int (c : Int)), a6, a7, a8, a9, a10, a11, a12]) S') :
    WP (tb_red [some (.int p), some x, some (.ref a), some (.ref b), some (.ref e), some (.int (c : Int)), a6, a7, a8, a9, a10, a11, a12] S) Q := by
  have hp' : p = 2 ∨ p = 3 ∨ p = 5 ∨ p = 7 := by simpa using hp
  have h0 : 0 < p := by omega
  have h7 : p ≤ 7 := by omega
  unfold tb_red
  rw [q_seq, WP_bind, q_asg, WP_bind]
  refine w_spots (a := a) (rows := st.1) h0 I.L.rw_ l1 hc I.ok1 (by simp) rfl rfl rfl fun r6 S1 s1 h6 => ?_
  simp only [List.map_cons, List.map_nil, List.length_cons, List.length_nil, List.cons_append, List.nil_append, List.replicate, List.getElem?_cons_zero, List.getElem?_cons_succ, List.set_cons_succ, List.set_cons_zero, WP_bind, WP_ok, WP_cut, q_var, q_c, q_bin, q_un, q_ofO, q_chain, q_tst, q_tstB, q_and2, q_or2, q_not1, q_andV, q_orV, q_notV, q_if, q_nil, q_cons, q_tup, q_lst, q_next, q_seq, q_expr, q_ret, q_retN, q_brk, q_cnt, q_sif, q_gnm, q_gtup, q_gcons, q_gnil, q_asg, q_call, q_callB, q_seqi, q_for, q_while, o_add, o_addI, o_sub, o_lt, o_le, o_gt, o_ge, o_neg, o_ixR, o_ixT, o_ixF, itemsT, itemsF, seqT, seqF, q_b1, q_b2, f_intI, f_intB, f_abs, f_max, f_min, f_lenT, f_lenF, f_list, f_tuple, q_gsb, ofB_bl, q_sl, q_pno, q_pat, q_lrg, q_meth, q_fld, q_rng1, Option.bind_some, Option.map_some, ofS_some, if_true, if_false, Bool.false_eq_true, decide_true, decide_false, ix0, ix1, ix2, wipe_nil, wipe_cons, q_yes, q_rng2, mkL, Nat.zero_le]
  have s2 : Sub S1 (S1 ++ [O.lst []]) := Sub.push _ _
  have en : oNe (.ref r6) (.ref S1.length) (S1 ++ [O.lst []]) = some (.bl (!decide ((spots p c st.1).map (fun (k : Nat) => (k : Int)) = [])), S1 ++ [O.lst []]) := ne_lst (m := []) (s2 _ _ h6) push_at
  simp only [en, List.map_cons, List.map_nil, List.length_cons, List.length_nil, List.cons_append, List.nil_append, List.replicate, List.getElem?_cons_zero, List.getElem?_cons_succ, List.set_cons_succ, List.set_cons_zero, WP_bind, WP_ok, WP_cut, q_var, q_c, q_bin, q_un, q_ofO, q_chain, q_tst, q_tstB, q_and2, q_or2, q_not1, q_andV, q_orV, q_notV, q_if, q_nil, q_cons, q_tup, q_lst, q_next, q_seq, q_expr, q_ret, q_retN, q_brk, q_cnt, q_sif, q_gnm, q_gtup, q_gcons, q_gnil, q_asg, q_call, q_callB, q_seqi, q_for, q_while, o_add, o_addI, o_sub, o_lt, o_le, o_gt, o_ge, o_neg, o_ixR, o_ixT, o_ixF, itemsT, itemsF, seqT, seqF, q_b1, q_b2, f_intI, f_intB, f_abs, f_max, f_min, f_lenT, f_lenF, f_list, f_tuple, q_gsb, ofB_bl, q_sl, q_pno, q_pat, q_lrg, q_meth, q_fld, q_rng1, Option.bind_some, Option.map_some, ofS_some, if_true, if_false, Bool.false_eq_true, decide_true, decide_false, ix0, ix1, ix2, wipe_nil, wipe_cons, q_yes, q_rng2]
  cases hs : spots p c st.1 with
  | nil =>
    have hst : redStep p st c = st := by unfold redStep; rw [hs]
    rw [hst] at hQ
    simp only [List.map_cons, List.map_nil, List.length_cons, List.length_nil, List.cons_append, List.nil_append, List.replicate, List.getElem?_cons_zero, List.getElem?_cons_succ, List.set_cons_succ, List.set_cons_zero, WP_bind, WP_ok, WP_cut, q_var, q_c, q_bin, q_un, q_ofO, q_chain, q_tst, q_tstB, q_and2, q_or2, q_not1, q_andV, q_orV, q_notV, q_if, q_nil, q_cons, q_tup, q_lst, q_next, q_seq, q_expr, q_ret, q_retN, q_brk, q_cnt, q_sif, q_gnm, q_gtup, q_gcons, q_gnil, q_asg, q_call, q_callB, q_seqi, q_for, q_while, o_add, o_addI, o_sub, o_lt, o_le, o_gt, o_ge, o_neg, o_ixR, o_ixT, o_ixF, itemsT, itemsF, seqT, seqF, q_b1, q_b2, f_intI, f_intB, f_abs, f_max, f_min, f_lenT, f_lenF, f_list, f_tuple, q_gsb, ofB_bl, q_sl, q_pno, q_pat, q_lrg, q_meth, q_fld, q_rng1, Option.bind_some, Option.map_some, ofS_some, if_true, if_false, Bool.false_eq_true, decide_true, decide_false, ix0, ix1, ix2, wipe_nil, wipe_cons, q_yes, q_rng2, Bool.not_true]
    have s3 := s1.trans s2
    exact hQ _ _ _ _ _ _ _ _ _ _ ⟨I.sub.trans s3, I.la, I.le, I.ae, I.be, I.ab, I.L.mono s3, I.F.mono s3, s3 _ _ I.E, I.ok1, I.ok2⟩
  | cons k t =>
    obtain ⟨hk, hcf⟩ := spots_mem hs
    have hst : redStep p st c = ((st.1.eraseIdx k).map fun r => clr p (cf r c) r (lineOf p c st.1[k]), (st.2.1.map fun r => clr p (cf r c) r (lineOf p c st.1[k])) ++ [lineOf p c st.1[k]], st.2.2 ++ [(c : Int)]) := by unfold redStep; rw [hs]; simp only [getD_at hk]
    have hd : ∀ z : List Int, decide ((k : Int) :: z = []) = false := fun _ => rfl
    have s3 := s1.trans s2
    obtain ⟨ds, eds, rl⟩ := I.L.mono s3
    have h6' : (S1 ++ [O.lst []])[r6]? = some (.lst (iL (((k :: t).map (fun (k : Nat) => (k : Int)))))) := by rw [← hs]; exact s2 _ _ h6
    have e6 : L2.atI (iL ((k :: t).map (fun (k : Nat) => (k : Int)))) 0 = some (.int (k : Int)) := ix0
    have e6' : ∀ z : List Int, L2.atI (iL ((k : Int) :: z)) 0 = some (.int (k : Int)) := fun _ => ix0
    rw [List.map_cons] at h6'
    have hkd : k < ds.length := by rw [rl.1]; exact hk
    obtain ⟨d, ed, rd⟩ := rl.get hk
    have ed' : ds[k] = d := by rw [List.getElem?_eq_getElem hkd] at ed; exact Option.some.inj ed
    have hw1 := I.ok1 _ (List.getElem_mem hk)
    obtain ⟨rh, erh, nrh, hrh⟩ := rd
    -- no list of ints stands where the left ones stand
    have hne : ∀ {r : Nat} {l : List Int}, (S1 ++ [O.lst []])[r]? = some (.lst (iL l)) → r ≠ a := fun {r} {l} h z => by
      subst z
      rw [eds] at h
      have h := O.lst.inj (Option.some.inj h)
      obtain ⟨d0, e0, q0, eq0, _⟩ := rl.get (k := 0) (by omega)
      rw [h] at e0
      unfold iL at e0
      rw [List.getElem?_map] at e0
      cases hl0 : l[0]? with
      | none => rw [hl0] at e0; cases e0
      | some v => rw [hl0, eq0] at e0; cases e0
    have ep := m_pop (S := S1 ++ [O.lst []]) eds hkd (by rw [rl.1]; omega)
    rw [ed'] at ep
    have hlb : isL (.ref a) (S1 ++ [O.lst []]) = true := isL_r eds
    simp only [hd, Bool.not_false, List.map_cons, List.map_nil, List.length_cons, List.length_nil, List.cons_append, List.nil_append, List.replicate, List.getElem?_cons_zero, List.getElem?_cons_succ, List.set_cons_succ, List.set_cons_zero, WP_bind, WP_ok, WP_cut, q_var, q_c, q_bin, q_un, q_ofO, q_chain, q_tst, q_tstB, q_and2, q_or2, q_not1, q_andV, q_orV, q_notV, q_if, q_nil, q_cons, q_tup, q_lst, q_next, q_seq, q_expr, q_ret, q_retN, q_brk, q_cnt, q_sif, q_gnm, q_gtup, q_gcons, q_gnil, q_asg, q_call, q_callB, q_seqi, q_for, q_while, o_add, o_addI, o_sub, o_lt, o_le, o_gt, o_ge, o_neg, o_ixR, o_ixT, o_ixF, itemsT, itemsF, seqT, seqF, q_b1, q_b2, f_intI, f_intB, f_abs, f_max, f_min, f_lenT, f_lenF, f_list, f_tuple, q_gsb, ofB_bl, q_sl, q_pno, q_pat, q_lrg, q_meth, q_fld, q_rng1, Option.bind_some, Option.map_some, ofS_some, if_true, if_false, Bool.false_eq_true, decide_true, decide_false, ix0, ix1, ix2, wipe_nil, wipe_cons, q_yes, q_rng2, hlb, itemsR h6', e6', ep]
    -- the store behind the pop
    have k3 : Kp a (S1 ++ [O.lst []]) ((S1 ++ [O.lst []]).set a (O.lst (ds.eraseIdx k))) := Kp.set
    have kp0 : ∀ {r : Nat} {l : List Int}, (S1 ++ [O.lst []])[r]? = some (.lst (iL l)) → ((S1 ++ [O.lst []]).set a (O.lst (ds.eraseIdx k)))[r]? = some (.lst (iL l)) := fun h => k3 _ _ (hne h) h
    have in0 : ∀ {d : D} {l : List Int}, IN e (S1 ++ [O.lst []]) d l → IN e ((S1 ++ [O.lst []]).set a (O.lst (ds.eraseIdx k))) d l := fun ⟨r, a1, a2, h⟩ => ⟨r, a1, a2, kp0 h⟩
    have L3 : RN e ((S1 ++ [O.lst []]).set a (O.lst (ds.eraseIdx k))) a (st.1.eraseIdx k) := ⟨_, set_at eds, (rl.erase k).imp fun _ _ => in0⟩
    have F3 : RN e ((S1 ++ [O.lst []]).set a (O.lst (ds.eraseIdx k))) b st.2.1 := by
      obtain ⟨ds', a1, a2⟩ := I.F.mono s3
      exact ⟨ds', k3 _ _ I.ab.symm a1, a2.imp fun _ _ => in0⟩
    have E3 := k3 _ _ I.ae.symm (s3 _ _ I.E)
    have H3 := kp0 hrh
    have sub3 : Sub S0 ((S1 ++ [O.lst []]).set a (O.lst (ds.eraseIdx k))) := sub_set (I.sub.trans s3) I.la
    generalize (S1 ++ [O.lst []]).set a (O.lst (ds.eraseIdx k)) = S3 at *
    subst erh
    have ixh : (itemsD S3 (.ref rh)).bind (fun ds => (L2.atI ds (c : Int)).map fun x => (x, S3)) = some (.int (cf st.1[k] c), S3) := by
      rw [itemsR H3]
      show (L2.atI (iL st.1[k]) (c : Int)).map _ = _
      rw [ix_lit (by rw [iL_len]; omega), iL_at (by omega), cf_get (by omega)]; rfl
    simp only [ixh, List.map_cons, List.map_nil, List.length_cons, List.length_nil, List.cons_append, List.nil_append, List.replicate, List.getElem?_cons_zero, List.getElem?_cons_succ, List.set_cons_succ, List.set_cons_zero, WP_bind, WP_ok, WP_cut, q_var, q_c, q_bin, q_un, q_ofO, q_chain, q_tst, q_tstB, q_and2, q_or2, q_not1, q_andV, q_orV, q_notV, q_if, q_nil, q_cons, q_tup, q_lst, q_next, q_seq, q_expr, q_ret, q_retN, q_brk, q_cnt, q_sif, q_gnm, q_gtup, q_gcons, q_gnil, q_asg, q_call, q_callB, q_seqi, q_for, q_while, o_add, o_addI, o_sub, o_lt, o_le, o_gt, o_ge, o_neg, o_ixR, o_ixT, o_ixF, itemsT, itemsF, seqT, seqF, q_b1, q_b2, f_intI, f_intB, f_abs, f_max, f_min, f_lenT, f_lenF, f_list, f_tuple, q_gsb, ofB_bl, q_sl, q_pno, q_pat, q_lrg, q_meth, q_fld, q_rng1, Option.bind_some, Option.map_some, ofS_some, if_true, if_false, Bool.false_eq_true, decide_true, decide_false, ix0, ix1, ix2, wipe_nil, wipe_cons, q_yes, q_rng2]
    refine w_inverse hp hcf (hw1.2.cf c) fun S4 s4 => ?_
    have H4 := s4 _ _ H3
    simp only [List.map_cons, List.map_nil, List.length_cons, List.length_nil, List.cons_append, List.nil_append, List.replicate, List.getElem?_cons_zero, List.getElem?_cons_succ, List.set_cons_succ, List.set_cons_zero, WP_bind, WP_ok, WP_cut, q_var, q_c, q_bin, q_un, q_ofO, q_chain, q_tst, q_tstB, q_and2, q_or2, q_not1, q_andV, q_orV, q_notV, q_if, q_nil, q_cons, q_tup, q_lst, q_next, q_seq, q_expr, q_ret, q_retN, q_brk, q_cnt, q_sif, q_gnm, q_gtup, q_gcons, q_gnil, q_asg, q_call, q_callB, q_seqi, q_for, q_while, o_add, o_addI, o_sub, o_lt, o_le, o_gt, o_ge, o_neg, o_ixR, o_ixT, o_ixF, itemsT, itemsF, seqT, seqF, q_b1, q_b2, f_intI, f_intB, f_abs, f_max, f_min, f_lenT, f_lenF, f_list, f_tuple, q_gsb, ofB_bl, q_sl, q_pno, q_pat, q_lrg, q_meth, q_fld, q_rng1, Option.bind_some, Option.map_some, ofS_some, if_true, if_false, Bool.false_eq_true, decide_true, decide_false, ix0, ix1, ix2, wipe_nil, wipe_cons, q_yes, q_rng2]
    -- the line
    refine wp_ints st.1[k] (iL st.1[k]) (fun _ => true) (fun z => z * inv p (cf st.1[k] c) % p) (by omega) (by rw [iL_len]) ?_ (fun j z d S5 hz hd s5 => ?_) fun S5 s5 => ?_
    · simp only [List.map_cons, List.map_nil, List.length_cons, List.length_nil, List.cons_append, List.nil_append, List.replicate, List.getElem?_cons_zero, List.getElem?_cons_succ, List.set_cons_succ, List.set_cons_zero, WP_bind, WP_ok, WP_cut, q_var, q_c, q_bin, q_un, q_ofO, q_chain, q_tst, q_tstB, q_and2, q_or2, q_not1, q_andV, q_orV, q_notV, q_if, q_nil, q_cons, q_tup, q_lst, q_next, q_seq, q_expr, q_ret, q_retN, q_brk, q_cnt, q_sif, q_gnm, q_gtup, q_gcons, q_gnil, q_asg, q_call, q_callB, q_seqi, q_for, q_while, o_add, o_addI, o_sub, o_lt, o_le, o_gt, o_ge, o_neg, o_ixR, o_ixT, o_ixF, itemsT, itemsF, seqT, seqF, q_b1, q_b2, f_intI, f_intB, f_abs, f_max, f_min, f_lenT, f_lenF, f_list, f_tuple, q_gsb, ofB_bl, q_sl, q_pno, q_pat, q_lrg, q_meth, q_fld, q_rng1, Option.bind_some, Option.map_some, ofS_some, if_true, if_false, Bool.false_eq_true, decide_true, decide_false, ix0, ix1, ix2, wipe_nil, wipe_cons, q_yes, q_rng2, seqR H4]
      exact ⟨Sub.refl _, fun k S5 _ s5 => jL_at (s5 _ _ H4)⟩
    · have ed : d = .int z := by
        unfold iL at hd
        rw [List.getElem?_map, hz] at hd
        exact (Option.some.inj hd).symm
      subst ed
      have hm := List.mem_of_getElem? hz
      have ib := invL_bd (inv_mem hp hcf)
      have m0 : (10 : Nat) < 2 ^ 100 := by decide
      have m1 : mulOk z (inv p (cf st.1[k] c)) = true := mulW (a := 101) (b := 100) (ltp (hw1.2 z hm)) (by omega) (by omega)
      simp only [List.map_cons, List.map_nil, List.length_cons, List.length_nil, List.cons_append, List.nil_append, List.replicate, List.getElem?_cons_zero, List.getElem?_cons_succ, List.set_cons_succ, List.set_cons_zero, WP_bind, WP_ok, WP_cut, q_var, q_c, q_bin, q_un, q_ofO, q_chain, q_tst, q_tstB, q_and2, q_or2, q_not1, q_andV, q_orV, q_notV, q_if, q_nil, q_cons, q_tup, q_lst, q_next, q_seq, q_expr, q_ret, q_retN, q_brk, q_cnt, q_sif, q_gnm, q_gtup, q_gcons, q_gnil, q_asg, q_call, q_callB, q_seqi, q_for, q_while, o_add, o_addI, o_sub, o_lt, o_le, o_gt, o_ge, o_neg, o_ixR, o_ixT, o_ixF, itemsT, itemsF, seqT, seqF, q_b1, q_b2, f_intI, f_intB, f_abs, f_max, f_min, f_lenT, f_lenF, f_list, f_tuple, q_gsb, ofB_bl, q_sl, q_pno, q_pat, q_lrg, q_meth, q_fld, q_rng1, Option.bind_some, Option.map_some, ofS_some, if_true, if_false, Bool.false_eq_true, decide_true, decide_false, ix0, ix1, ix2, wipe_nil, wipe_cons, q_yes, q_rng2, o_mul m1, o_mod h0]
      exact ⟨trivial, Sub.refl _, fun _ => ⟨trivial, Sub.refl _⟩⟩
    · rw [filter_tt]
      have s5' : Sub S4 (S5 ++ [O.lst (iL (st.1[k].map fun z => z * inv p (cf st.1[k] c) % p))]) := s5.trans (Sub.push _ _)
      have h9 : (S5 ++ [O.lst (iL (st.1[k].map fun z => z * inv p (cf st.1[k] c) % p))])[S5.length]? = some (.lst (iL (lineOf p c st.1[k]))) := push_at
      have n5 := sub_len s5
      have nre : S5.length ≠ e := by have := lt_of_at (s4 _ _ E3); omega
      obtain ⟨r9, er9⟩ : ∃ r9, S5.length = r9 := ⟨_, rfl⟩
      rw [er9] at h9 nre ⊢
      generalize S5 ++ [O.lst (iL (st.1[k].map fun z => z * inv p (cf st.1[k] c) % p))] = S5 at *
      have s5 := s5'
      obtain ⟨ll, lb⟩ := line_ok (p := p) (c := c) h0 h7 hw1.1
      have s45 := s4.trans s5
      have ok1' : Rok w (st.1.eraseIdx k) := fun l hl => I.ok1 l (List.mem_of_mem_eraseIdx hl)
      simp only [List.map_cons, List.map_nil, List.length_cons, List.length_nil, List.cons_append, List.nil_append, List.replicate, List.getElem?_cons_zero, List.getElem?_cons_succ, List.set_cons_succ, List.set_cons_zero, WP_bind, WP_ok, WP_cut, q_var, q_c, q_bin, q_un, q_ofO, q_chain, q_tst, q_tstB, q_and2, q_or2, q_not1, q_andV, q_orV, q_notV, q_if, q_nil, q_cons, q_tup, q_lst, q_next, q_seq, q_expr, q_ret, q_retN, q_brk, q_cnt, q_sif, q_gnm, q_gtup, q_gcons, q_gnil, q_asg, q_call, q_callB, q_seqi, q_for, q_while, o_add, o_addI, o_sub, o_lt, o_le, o_gt, o_ge, o_neg, o_ixR, o_ixT, o_ixF, itemsT, itemsF, seqT, seqF, q_b1, q_b2, f_intI, f_intB, f_abs, f_max, f_min, f_lenT, f_lenF, f_list, f_tuple, q_gsb, ofB_bl, q_sl, q_pno, q_pat, q_lrg, q_meth, q_fld, q_rng1, Option.bind_some, Option.map_some, ofS_some, if_true, if_false, Bool.false_eq_true, decide_true, decide_false, ix0, ix1, ix2, wipe_nil, wipe_cons, q_yes, q_rng2]
      have le5 := lt_of_at (s45 _ _ E3)
      refine w_clears (a := a) (e := e) (rows := st.1.eraseIdx k) (w := w) h0 h7 (L3.mono s45).rw_ (Nat.le_trans (List.length_eraseIdx_le _ _) l1) hw hc ok1' (.inr ⟨r9, rfl, h9⟩) ll lb le5 (by simp) (by decide) rfl rfl rfl rfl fun S6 ys6 s6 hy6 => ?_
      have p6 : Sub S6 (S6 ++ [O.lst ys6]) := Sub.push _ _
      have L6 : RN e (S6 ++ [O.lst ys6]) S6.length _ := ⟨ys6, push_at, hy6.imp fun d l h => h.mono p6⟩
      have s46 := (s45.trans s6).trans p6
      have F6 := F3.mono s46
      have E6 := s46 _ _ E3
      have H9 := p6 _ _ (s6 _ _ h9)
      have n6 := sub_len s6
      obtain ⟨a', ea'⟩ : ∃ a', S6.length = a' := ⟨_, rfl⟩
      have sub6 := sub3.trans s46
      have n45 := sub_len s45
      have n36 : S3.length ≤ a' := by omega
      have n03 := sub_len sub3
      have n3e := lt_of_at E3
      have hae : a' ≠ e := by omega
      have hS6 : (S6 ++ [O.lst ys6]).length = a' + 1 := by rw [← ea']; simp
      rw [ea'] at L6 ⊢
      generalize S6 ++ [O.lst ys6] = S7 at *
      simp only [List.map_cons, List.map_nil, List.length_cons, List.length_nil, List.cons_append, List.nil_append, List.replicate, List.getElem?_cons_zero, List.getElem?_cons_succ, List.set_cons_succ, List.set_cons_zero, WP_bind, WP_ok, WP_cut, q_var, q_c, q_bin, q_un, q_ofO, q_chain, q_tst, q_tstB, q_and2, q_or2, q_not1, q_andV, q_orV, q_notV, q_if, q_nil, q_cons, q_tup, q_lst, q_next, q_seq, q_expr, q_ret, q_retN, q_brk, q_cnt, q_sif, q_gnm, q_gtup, q_gcons, q_gnil, q_asg, q_call, q_callB, q_seqi, q_for, q_while, o_add, o_addI, o_sub, o_lt, o_le, o_gt, o_ge, o_neg, o_ixR, o_ixT, o_ixF, itemsT, itemsF, seqT, seqF, q_b1, q_b2, f_intI, f_intB, f_abs, f_max, f_min, f_lenT, f_lenF, f_list, f_tuple, q_gsb, ofB_bl, q_sl, q_pno, q_pat, q_lrg, q_meth, q_fld, q_rng1, Option.bind_some, Option.map_some, ofS_some, if_true, if_false, Bool.false_eq_true, decide_true, decide_false, ix0, ix1, ix2, wipe_nil, wipe_cons, q_yes, q_rng2]
      refine w_clears (a := b) (e := e) (rows := st.2.1) (w := w) h0 h7 F6.rw_ l2 hw hc I.ok2 (.inr ⟨r9, rfl, H9⟩) ll lb (lt_of_at E6) (by simp) (by decide) rfl rfl rfl rfl fun S8 ys8 s8 hy8 => ?_
      have p8 : Sub S8 (S8 ++ [O.lst ys8]) := Sub.push _ _
      have n8 := sub_len s8
      have F8 : RN e (S8 ++ [O.lst ys8]) S8.length _ := ⟨ys8, push_at, hy8.imp fun d l h => h.mono p8⟩
      have g8 : (S8 ++ [O.lst ys8])[S8.length]? = some (.lst ys8) := push_at
      have s78 := s8.trans p8
      have L8 := L6.mono s78
      have E8 := s78 _ _ E6
      have H8 := s78 _ _ H9
      have sub8 := sub6.trans s78
      have hl8 : ys8.length ≤ 1000 := by rw [hy8.1, List.length_map]; exact l2
      have hy8' : Rels (IN e) (S8 ++ [O.lst ys8]) ys8 _ := hy8.imp fun d l h => h.mono p8
      have hS8 : S7.length ≤ (S8 ++ [O.lst ys8]).length := by simp; omega
      generalize (S8 ++ [O.lst ys8]) = S9 at *
      simp only [List.map_cons, List.map_nil, List.length_cons, List.length_nil, List.cons_append, List.nil_append, List.replicate, List.getElem?_cons_zero, List.getElem?_cons_succ, List.set_cons_succ, List.set_cons_zero, WP_bind, WP_ok, WP_cut, q_var, q_c, q_bin, q_un, q_ofO, q_chain, q_tst, q_tstB, q_and2, q_or2, q_not1, q_andV, q_orV, q_notV, q_if, q_nil, q_cons, q_tup, q_lst, q_next, q_seq, q_expr, q_ret, q_retN, q_brk, q_cnt, q_sif, q_gnm, q_gtup, q_gcons, q_gnil, q_asg, q_call, q_callB, q_seqi, q_for, q_while, o_add, o_addI, o_sub, o_lt, o_le, o_gt, o_ge, o_neg, o_ixR, o_ixT, o_ixF, itemsT, itemsF, seqT, seqF, q_b1, q_b2, f_intI, f_intB, f_abs, f_max, f_min, f_lenT, f_lenF, f_list, f_tuple, q_gsb, ofB_bl, q_sl, q_pno, q_pat, q_lrg, q_meth, q_fld, q_rng1, Option.bind_some, Option.map_some, ofS_some, if_true, if_false, Bool.false_eq_true, decide_true, decide_false, ix0, ix1, ix2, wipe_nil, wipe_cons, q_yes, q_rng2, mkL, z1]
      have q9 : Sub S9 (S9 ++ [O.lst [D.ref r9]]) := Sub.push _ _
      rw [o_addLL (xs := ys8) (ys := [D.ref r9]) (q9 _ _ g8) push_at (by simp; omega)]
      have q10 : Sub (S9 ++ [O.lst [D.ref r9]]) (S9 ++ [O.lst [D.ref r9]] ++ [O.lst (ys8 ++ [D.ref r9])]) := Sub.push _ _
      have s910 := q9.trans q10
      have g10 : (S9 ++ [O.lst [D.ref r9]] ++ [O.lst (ys8 ++ [D.ref r9])])[(S9 ++ [O.lst [D.ref r9]]).length]? = some (.lst (ys8 ++ [D.ref r9])) := push_at
      have L10 := L8.mono s910
      have E10 := s910 _ _ E8
      have F10 : RN e (S9 ++ [O.lst [D.ref r9]] ++ [O.lst (ys8 ++ [D.ref r9])]) (S9 ++ [O.lst [D.ref r9]]).length (st.2.1.map (fun r => clr p (cf r c) r (lineOf p c st.1[k])) ++ [lineOf p c st.1[k]]) :=
        ⟨_, g10, (hy8'.imp fun d l h => h.mono s910).snoc ⟨r9, rfl, nre, s910 _ _ H8⟩⟩
      have sub10 := sub8.trans s910
      obtain ⟨b', eb'⟩ : ∃ b', (S9 ++ [O.lst [D.ref r9]]).length = b' := ⟨_, rfl⟩
      have hb' : b' = S9.length + 1 := by rw [← eb']; simp
      rw [eb'] at F10 ⊢
      generalize S9 ++ [O.lst [D.ref r9]] ++ [O.lst (ys8 ++ [D.ref r9])] = S10 at *
      have hle : isL (.ref e) S10 = true := isL_r E10
      have ea := m_append (x := .int (c : Int)) E10 (sl_big (by rw [iL_len]; exact l3))
      have le3 := lt_of_at E3
      have le7 := lt_of_at E6
      have e8 := lt_of_at E8
      simp only [List.map_cons, List.map_nil, List.length_cons, List.length_nil, List.cons_append, List.nil_append, List.replicate, List.getElem?_cons_zero, List.getElem?_cons_succ, List.set_cons_succ, List.set_cons_zero, WP_bind, WP_ok, WP_cut, q_var, q_c, q_bin, q_un, q_ofO, q_chain, q_tst, q_tstB, q_and2, q_or2, q_not1, q_andV, q_orV, q_notV, q_if, q_nil, q_cons, q_tup, q_lst, q_next, q_seq, q_expr, q_ret, q_retN, q_brk, q_cnt, q_sif, q_gnm, q_gtup, q_gcons, q_gnil, q_asg, q_call, q_callB, q_seqi, q_for, q_while, o_add, o_addI, o_sub, o_lt, o_le, o_gt, o_ge, o_neg, o_ixR, o_ixT, o_ixF, itemsT, itemsF, seqT, seqF, q_b1, q_b2, f_intI, f_intB, f_abs, f_max, f_min, f_lenT, f_lenF, f_list, f_tuple, q_gsb, ofB_bl, q_sl, q_pno, q_pat, q_lrg, q_meth, q_fld, q_rng1, Option.bind_some, Option.map_some, ofS_some, if_true, if_false, Bool.false_eq_true, decide_true, decide_false, ix0, ix1, ix2, wipe_nil, wipe_cons, q_yes, q_rng2, hle, ea]
      have ein : iL st.2.2 ++ [D.int (c : Int)] = iL (st.2.2 ++ [(c : Int)]) := by unfold iL; simp
      rw [ein]
      have hbe : b' ≠ e := by omega
      refine hQ _ _ _ _ _ _ _ _ _ _ ?_
      have R := redStep_ok (c := c) h0 h7 ⟨I.ok1, I.ok2⟩
      rw [hst] at R ⊢
      exact ⟨sub_set sub10 I.le, by omega, I.le, hae, hbe, by omega, L10.set hae, F10.set hbe, set_at E10, R.1, R.2⟩
end Zk16


set_option exponentiation.threshold 3000
namespace Zk16
open PySem PySem.Spec Z
section
variable {S : Store} {x y : D} {rows L : List (List Int)} {Q : D → Store → Prop} {n k c w r q : Nat} {p : Int}
theorem w_reduced (hp : p ∈ ([2, 3, 5, 7] : List Int)) (hx : Rg S x rows) (hl : rows.length ≤ 1000) (hw : w ≤ 1000) (hk : Rok w rows)
    (hQ : ∀ a e S', Sub S S' → Rw S' a (red p rows (wid rows)).2.1 → S'[e]? = some (.lst (iL (red p rows (wid rows)).2.2)) → Q (.tup [.ref a, .ref e]) S') : WP (f__law_reduced [.int p, x] S) Q := by
  have hp' : p = 2 ∨ p = 3 ∨ p = 5 ∨ p = 7 := by simpa using hp
  have h0 : 0 < p := by omega
  have h7 : p ≤ 7 := by omega
  have hww : wid rows ≤ w := by
    unfold wid
    cases rows with
    | nil => simp
    | cons a l => exact Nat.le_of_eq (hk a List.mem_cons_self).1
  have hwi : rows ≠ [] → wid rows = w := fun h => by
    unfold wid
    cases rows with
    | nil => exact absurd rfl h
    | cons a l => exact (hk a List.mem_cons_self).1
  unfold f__law_reduced
  rw [mkFn_wp]
  unfold b__law_reduced n__law_reduced
  rw [q_seq, WP_bind, q_asg, WP_bind, q_tup, WP_bind, q_cons, WP_bind]
  refine w_lists (rows := rows) (x := x) hx (by omega) (by simp) (by decide) rfl fun S1 ys s1 hy => ?_
  have p1 : Sub S1 (S1 ++ [O.lst ys]) := Sub.push _ _
  have n1 := sub_len s1
  simp only [List.map_cons, List.map_nil, List.length_cons, List.length_nil, List.cons_append, List.nil_append, List.replicate, List.getElem?_cons_zero, List.getElem?_cons_succ, List.set_cons_succ, List.set_cons_zero, WP_bind, WP_ok, WP_cut, q_var, q_c, q_bin, q_un, q_ofO, q_chain, q_tst, q_tstB, q_and2, q_or2, q_not1, q_andV, q_orV, q_notV, q_if, q_nil, q_cons, q_tup, q_lst, q_next, q_seq, q_expr, q_ret, q_retN, q_brk, q_cnt, q_sif, q_gnm, q_gtup, q_gcons, q_gnil, q_asg, q_call, q_callB, q_seqi, q_for, q_while, o_add, o_addI, o_sub, o_lt, o_le, o_gt, o_ge, o_neg, o_ixR, o_ixT, o_ixF, itemsT, itemsF, seqT, seqF, q_b1, q_b2, f_intI, f_intB, f_abs, f_max, f_min, f_lenT, f_lenF, f_list, f_tuple, q_gsb, ofB_bl, q_sl, q_pno, q_pat, q_lrg, q_meth, q_fld, q_rng1, Option.bind_some, Option.map_some, ofS_some, if_true, if_false, Bool.false_eq_true, decide_true, decide_false, ix0, ix1, ix2, wipe_nil, wipe_cons, q_yes, q_rng2, mkL, Nat.zero_le, z3, z3']
  obtain ⟨a0, ea0⟩ : ∃ a0, S1.length = a0 := ⟨_, rfl⟩
  obtain ⟨b0, eb0⟩ : ∃ b0, (S1 ++ [O.lst ys]).length = b0 := ⟨_, rfl⟩
  obtain ⟨e0, ee0⟩ : ∃ e0, (S1 ++ [O.lst ys] ++ [O.lst []]).length = e0 := ⟨_, rfl⟩
  have hb0 : b0 = a0 + 1 := by rw [← eb0, ← ea0]; simp
  have he0 : e0 = a0 + 2 := by rw [← ee0, ← ea0]; simp
  have p2 : Sub (S1 ++ [O.lst ys]) (S1 ++ [O.lst ys] ++ [O.lst []]) := Sub.push _ _
  have p3 : Sub (S1 ++ [O.lst ys] ++ [O.lst []]) (S1 ++ [O.lst ys] ++ [O.lst []] ++ [O.lst []]) := Sub.push _ _
  have ga : (S1 ++ [O.lst ys])[a0]? = some (.lst ys) := by rw [← ea0]; exact push_at
  have gb : (S1 ++ [O.lst ys] ++ [O.lst []])[b0]? = some (.lst []) := by rw [← eb0]; exact push_at
  have ge : (S1 ++ [O.lst ys] ++ [O.lst []] ++ [O.lst []])[e0]? = some (.lst []) := by rw [← ee0]; exact push_at
  have s13 := (p1.trans p2).trans p3
  have I0 : RI S (S1 ++ [O.lst ys] ++ [O.lst []] ++ [O.lst []]) a0 b0 e0 (red p rows 0) w :=
    ⟨s1.trans s13, by omega, by omega, by omega, by omega, by omega, ⟨ys, p3 _ _ (p2 _ _ ga), rels_in hy (by omega) s13⟩, ⟨[], p3 _ _ gb, Rels.nil⟩, ge, hk, fun _ z => nomatch z⟩
  rw [ea0, eb0, ee0]
  have ga3 := p3 _ _ (p2 _ _ ga)
  have hy3 : Rels IR (S1 ++ [O.lst ys] ++ [O.lst []] ++ [O.lst []]) ys rows := hy.imp fun d l h => h.mono s13
  generalize S1 ++ [O.lst ys] ++ [O.lst []] ++ [O.lst []] = S3 at *
  have p4 : Sub S3 (S3 ++ [O.lst []]) := Sub.push _ _
  have en := ne_nil (q := S3.length) (Rw.mono ⟨ys, ga3, hy3⟩ p4) push_at
  have I1 : RI S (S3 ++ [O.lst []]) a0 b0 e0 (red p rows 0) w := ⟨I0.sub.trans p4, I0.la, I0.le, I0.ae, I0.be, I0.ab, I0.L.mono p4, I0.F.mono p4, p4 _ _ I0.E, I0.ok1, I0.ok2⟩
  have ga4 := p4 _ _ ga3
  have hy4 : Rels IR (S3 ++ [O.lst []]) ys rows := hy3.imp fun d l h => h.mono p4
  simp only [en, List.map_cons, List.map_nil, List.length_cons, List.length_nil, List.cons_append, List.nil_append, List.replicate, List.getElem?_cons_zero, List.getElem?_cons_succ, List.set_cons_succ, List.set_cons_zero, WP_bind, WP_ok, WP_cut, q_var, q_c, q_bin, q_un, q_ofO, q_chain, q_tst, q_tstB, q_and2, q_or2, q_not1, q_andV, q_orV, q_notV, q_if, q_nil, q_cons, q_tup, q_lst, q_next, q_seq, q_expr, q_ret, q_retN, q_brk, q_cnt, q_sif, q_gnm, q_gtup, q_gcons, q_gnil, q_asg, q_call, q_callB, q_seqi, q_for, q_while, o_add, o_addI, o_sub, o_lt, o_le, o_gt, o_ge, o_neg, o_ixR, o_ixT, o_ixF, itemsT, itemsF, seqT, seqF, q_b1, q_b2, f_intI, f_intB, f_abs, f_max, f_min, f_lenT, f_lenF, f_list, f_tuple, q_gsb, ofB_bl, q_sl, q_pno, q_pat, q_lrg, q_meth, q_fld, q_rng1, Option.bind_some, Option.map_some, ofS_some, if_true, if_false, Bool.false_eq_true, decide_true, decide_false, ix0, ix1, ix2, wipe_nil, wipe_cons, q_yes, q_rng2]
  generalize S3 ++ [O.lst []] = S4 at *
  have fin : ∀ a6 a7 a8 a9 a10 a11 a12, WP (forGo (jR 0 (wid rows)) (gNm 5) tb_red FUEL 0 [some (.int p), some x, some (.ref a0), some (.ref b0), some (.ref e0), none, a6, a7, a8, a9, a10, a11, a12] S4) fun f S1 => ∃ a b e5 a6 a7 a8 a9 a10 a11 a12, f = .nx [some (.int p), some x, some (.ref a), some (.ref b), some (.ref e0), e5, a6, a7, a8, a9, a10, a11, a12] ∧ RI S S1 a b e0 (red p rows (wid rows)) w := fun a6 a7 a8 a9 a10 a11 a12 => by
    refine wp_for (wid rows) (fun c env S' => ∃ a b a5 a6 a7 a8 a9 a10 a11 a12, env = [some (.int p), some x, some (.ref a), some (.ref b), some (.ref e0), a5, a6, a7, a8, a9, a10, a11, a12] ∧ RI S S' a b e0 (red p rows c) w) (by omega) ⟨_, _, _, _, _, _, _, _, _, _, rfl, I1⟩ (fun c env S' hc ⟨a, b, a5, a6, a7, a8, a9, a10, a11, a12, he, I⟩ => ⟨_, jR_at hc, ?_⟩) fun env S' ⟨a, b, a5, a6, a7, a8, a9, a10, a11, a12, he, I⟩ => ⟨jR_end, ?_⟩
    · subst he
      have l := red_len (p := p) (L := rows) c
      rw [q_gnm, WP_ok]
      refine w_redbody hp I (by omega) hw (by omega) (by omega) (by omega) fun a' b' a6 a7 a8 a9 a10 a11 a12 S'' I' => ?_
      exact ⟨_, _, _, _, _, _, _, _, _, _, rfl, by rw [red_s]; exact I'⟩
    · subst he
      exact ⟨_, _, _, _, _, _, _, _, _, _, rfl, I⟩
  have go : ∀ (m : Int), m = (wid rows : Int) → WP (if -(2 ^ 62) ≤ m ∧ m < 2 ^ 62 then Res.ok (jR 0 m.toNat) S4 else Res.bad) (fun J S1 => WP (forGo J (gNm 5) tb_red FUEL 0 [some (.int p), some x, some (.ref a0), some (.ref b0), some (.ref e0), none, none, none, none, none, none, none, none] S1) fun f S1 => WP ((match f with
      | Fl.nx e => (sRet (dTup (dCons (dVar 3) (dCons (dVar 4) dNil)))) e S1
      | o => Res.ok o S1)) fun f S1 => WP (match f with
      | .rt d => Res.ok d S1
      | .nx _ => Res.ok .non S1
      | _ => Res.bad) Q) := fun m hm => by
    subst hm
    rw [if_pos (by omega), WP_ok, Int.toNat_natCast]
    refine WP_mono (fin _ _ _ _ _ _ _) fun f S5 ⟨a, b, e5, a6, a7, a8, a9, a10, a11, a12, ef, I⟩ => ?_
    subst ef
    simp only [List.map_cons, List.map_nil, List.length_cons, List.length_nil, List.cons_append, List.nil_append, List.replicate, List.getElem?_cons_zero, List.getElem?_cons_succ, List.set_cons_succ, List.set_cons_zero, WP_bind, WP_ok, WP_cut, q_var, q_c, q_bin, q_un, q_ofO, q_chain, q_tst, q_tstB, q_and2, q_or2, q_not1, q_andV, q_orV, q_notV, q_if, q_nil, q_cons, q_tup, q_lst, q_next, q_seq, q_expr, q_ret, q_retN, q_brk, q_cnt, q_sif, q_gnm, q_gtup, q_gcons, q_gnil, q_asg, q_call, q_callB, q_seqi, q_for, q_while, o_add, o_addI, o_sub, o_lt, o_le, o_gt, o_ge, o_neg, o_ixR, o_ixT, o_ixF, itemsT, itemsF, seqT, seqF, q_b1, q_b2, f_intI, f_intB, f_abs, f_max, f_min, f_lenT, f_lenF, f_list, f_tuple, q_gsb, ofB_bl, q_sl, q_pno, q_pat, q_lrg, q_meth, q_fld, q_rng1, Option.bind_some, Option.map_some, ofS_some, if_true, if_false, Bool.false_eq_true, decide_true, decide_false, ix0, ix1, ix2, wipe_nil, wipe_cons, q_yes, q_rng2, z2, z2']
    exact hQ _ _ _ I.sub I.F.rw_ I.E
  by_cases hr : rows = []
  · rw [decide_eq_true hr]
    simp only [List.map_cons, List.map_nil, List.length_cons, List.length_nil, List.cons_append, List.nil_append, List.replicate, List.getElem?_cons_zero, List.getElem?_cons_succ, List.set_cons_succ, List.set_cons_zero, WP_bind, WP_ok, WP_cut, q_var, q_c, q_bin, q_un, q_ofO, q_chain, q_tst, q_tstB, q_and2, q_or2, q_not1, q_andV, q_orV, q_notV, q_if, q_nil, q_cons, q_tup, q_lst, q_next, q_seq, q_expr, q_ret, q_retN, q_brk, q_cnt, q_sif, q_gnm, q_gtup, q_gcons, q_gnil, q_asg, q_call, q_callB, q_seqi, q_for, q_while, o_add, o_addI, o_sub, o_lt, o_le, o_gt, o_ge, o_neg, o_ixR, o_ixT, o_ixF, itemsT, itemsF, seqT, seqF, q_b1, q_b2, f_intI, f_intB, f_abs, f_max, f_min, f_lenT, f_lenF, f_list, f_tuple, q_gsb, ofB_bl, q_sl, q_pno, q_pat, q_lrg, q_meth, q_fld, q_rng1, Option.bind_some, Option.map_some, ofS_some, if_true, if_false, Bool.false_eq_true, decide_true, decide_false, ix0, ix1, ix2, wipe_nil, wipe_cons, q_yes, q_rng2, Bool.not_true]
    exact go 0 (by rw [hr]; rfl)
  · rw [decide_eq_false hr]
    obtain ⟨d, ed, rd⟩ := hy4.get (k := 0) (List.length_pos_iff.mpr hr)
    obtain ⟨rd', erd, hd⟩ := rd
    subst erd
    have hys : 0 < ys.length := by have := (List.getElem?_eq_some_iff.mp ed).1; exact this
    have ei : L2.atI ys 0 = some (.ref rd') := by
      have := ix_lit (ds := ys) (n := 0) hys
      rw [ed] at this
      simpa using this
    have elen : ((iL (rows[0]'(List.length_pos_iff.mpr hr))).length : Int) = (wid rows : Int) := by
      rw [iL_len]
      unfold wid
      cases rows with
      | nil => exact absurd rfl hr
      | cons a l => rfl
    simp only [List.map_cons, List.map_nil, List.length_cons, List.length_nil, List.cons_append, List.nil_append, List.replicate, List.getElem?_cons_zero, List.getElem?_cons_succ, List.set_cons_succ, List.set_cons_zero, WP_bind, WP_ok, WP_cut, q_var, q_c, q_bin, q_un, q_ofO, q_chain, q_tst, q_tstB, q_and2, q_or2, q_not1, q_andV, q_orV, q_notV, q_if, q_nil, q_cons, q_tup, q_lst, q_next, q_seq, q_expr, q_ret, q_retN, q_brk, q_cnt, q_sif, q_gnm, q_gtup, q_gcons, q_gnil, q_asg, q_call, q_callB, q_seqi, q_for, q_while, o_add, o_addI, o_sub, o_lt, o_le, o_gt, o_ge, o_neg, o_ixR, o_ixT, o_ixF, itemsT, itemsF, seqT, seqF, q_b1, q_b2, f_intI, f_intB, f_abs, f_max, f_min, f_lenT, f_lenF, f_list, f_tuple, q_gsb, ofB_bl, q_sl, q_pno, q_pat, q_lrg, q_meth, q_fld, q_rng1, Option.bind_some, Option.map_some, ofS_some, if_true, if_false, Bool.false_eq_true, decide_true, decide_false, ix0, ix1, ix2, wipe_nil, wipe_cons, q_yes, q_rng2, Bool.not_false, itemsR ga4, ei, f_lenR hd]
    exact go _ elen
theorem w_rank (hp : p ∈ ([2, 3, 5, 7] : List Int)) (hx : Rg S x rows) (hl : rows.length ≤ 1000) (hw : w ≤ 1000) (hk : Rok w rows) (hQ : ∀ S', Sub S S' → Q (.int ((red p rows (wid rows)).2.2.length : Nat)) S') : WP (f__law_rank [.int p, x] S) Q := by
  unfold f__law_rank
  rw [mkFn_wp]
  unfold b__law_rank n__law_rank
  simp only [List.map_cons, List.map_nil, List.length_cons, List.length_nil, List.cons_append, List.nil_append, List.replicate, List.getElem?_cons_zero, List.getElem?_cons_succ, List.set_cons_succ, List.set_cons_zero, WP_bind, WP_ok, WP_cut, q_var, q_c, q_bin, q_un, q_ofO, q_chain, q_tst, q_tstB, q_and2, q_or2, q_not1, q_andV, q_orV, q_notV, q_if, q_nil, q_cons, q_tup, q_lst, q_next, q_seq, q_expr, q_ret, q_retN, q_brk, q_cnt, q_sif, q_gnm, q_gtup, q_gcons, q_gnil, q_asg, q_call, q_callB, q_seqi, q_for, q_while, o_add, o_addI, o_sub, o_lt, o_le, o_gt, o_ge, o_neg, o_ixR, o_ixT, o_ixF, itemsT, itemsF, seqT, seqF, q_b1, q_b2, f_intI, f_intB, f_abs, f_max, f_min, f_lenT, f_lenF, f_list, f_tuple, q_gsb, ofB_bl, q_sl, q_pno, q_pat, q_lrg, q_meth, q_fld, q_rng1, Option.bind_some, Option.map_some, ofS_some, if_true, if_false, Bool.false_eq_true, decide_true, decide_false, ix0, ix1, ix2, wipe_nil, wipe_cons, q_yes, q_rng2]
  refine w_reduced hp hx hl hw hk fun a e S1 s1 _ he => ?_
  simp only [List.map_cons, List.map_nil, List.length_cons, List.length_nil, List.cons_append, List.nil_append, List.replicate, List.getElem?_cons_zero, List.getElem?_cons_succ, List.set_cons_succ, List.set_cons_zero, WP_bind, WP_ok, WP_cut, q_var, q_c, q_bin, q_un, q_ofO, q_chain, q_tst, q_tstB, q_and2, q_or2, q_not1, q_andV, q_orV, q_notV, q_if, q_nil, q_cons, q_tup, q_lst, q_next, q_seq, q_expr, q_ret, q_retN, q_brk, q_cnt, q_sif, q_gnm, q_gtup, q_gcons, q_gnil, q_asg, q_call, q_callB, q_seqi, q_for, q_while, o_add, o_addI, o_sub, o_lt, o_le, o_gt, o_ge, o_neg, o_ixR, o_ixT, o_ixF, itemsT, itemsF, seqT, seqF, q_b1, q_b2, f_intI, f_intB, f_abs, f_max, f_min, f_lenT, f_lenF, f_list, f_tuple, q_gsb, ofB_bl, q_sl, q_pno, q_pat, q_lrg, q_meth, q_fld, q_rng1, Option.bind_some, Option.map_some, ofS_some, if_true, if_false, Bool.false_eq_true, decide_true, decide_false, ix0, ix1, ix2, wipe_nil, wipe_cons, q_yes, q_rng2, f_lenR he, iL_len]
  exact hQ _ s1
end
end Zk16


set_option exponentiation.threshold 3000
namespace Zk16
open PySem PySem.Spec Z
def ext1 (p : Nat) (e : List Int) : List (List Int) := (List.range p).map fun (j : Nat) => e ++ [(j : Int)]
def allE (p : Nat) : Nat → List (List Int)
  | 0 => [[]]
  | n + 1 => (allE p n).flatMap (ext1 p)
def cutR (h w : Nat) (e : List Int) : List (List Int) := (List.range h).map fun a => (e.drop (a * w)).take w
def allT (p h w : Nat) : List (List (List Int)) := (allE p (h * w)).map (cutR h w)
theorem ext_len (p : Nat) (l : List (List Int)) : (l.flatMap (ext1 p)).length = l.length * p := by
  induction l with
  | nil => simp
  | cons a l ih => rw [List.flatMap_cons, List.length_append, ih, List.length_cons, Nat.succ_mul]; unfold ext1; simp; omega
theorem allE_len (p : Nat) : ∀ n, (allE p n).length = p ^ n
  | 0 => rfl
  | n + 1 => by rw [allE, ext_len, allE_len p n, Nat.pow_succ]
theorem allE_ok (p : Nat) : ∀ n, ∀ e ∈ allE p n, e.length = n ∧ ∀ x ∈ e, 0 ≤ x ∧ x < p
  | 0, e, h => by rw [List.mem_singleton.mp h]; exact ⟨rfl, fun _ z => nomatch z⟩
  | n + 1, e, h => by
    obtain ⟨a, ha, h⟩ := List.mem_flatMap.mp h
    obtain ⟨j, hj, rfl⟩ := List.mem_map.mp h
    obtain ⟨h1, h2⟩ := allE_ok p n a ha
    have := List.mem_range.mp hj
    refine ⟨by simp [h1], fun x hx => ?_⟩
    rcases List.mem_append.mp hx with hx | hx
    · exact h2 x hx
    · rw [List.mem_singleton.mp hx]; omega
theorem cutLH {l : List Int} {a b : Nat} (hb : b ≤ l.length) : cutD (iL l) (some (a : Int)) (some (b : Int)) = iL ((l.drop a).take (b - a)) := by
  unfold cutD
  have e1 : HT.sIx (iL l).length 0 (some (a : Int)) = min a l.length := by
    show (if (a : Int) < 0 then ((a : Int) + ((iL l).length : Int)).toNat else min (a : Int).toNat (iL l).length) = _
    rw [if_neg (by omega), iL_len]; simp
  have e2 : HT.sIx (iL l).length (iL l).length (some (b : Int)) = b := by
    show (if (b : Int) < 0 then ((b : Int) + ((iL l).length : Int)).toNat else min (b : Int).toNat (iL l).length) = _
    rw [if_neg (by omega), iL_len]; simp; omega
  rw [e1, e2]
  unfold iL
  rw [← List.map_drop, ← List.map_take]
  congr 1
  by_cases h : a ≤ l.length
  · rw [Nat.min_eq_left h]
  · rw [Nat.min_eq_right (by omega), List.drop_eq_nil_of_le (Nat.le_refl _), List.drop_eq_nil_of_le (by omega)]; simp
section
variable {S : Store} {x y : D} {rows L : List (List Int)} {Q : D → Store → Prop} {n k c w r q h p : Nat}
/-- a list of lists of lists -/
def Rw3 (S : Store) (r : Nat) (T : List (List (List Int))) : Prop := ∃ ds, S[r]? = some (.lst ds) ∧ Rels (fun S d rows => ∃ q, d = .ref q ∧ Rw S q rows) S ds T
theorem ext_take {k : Nat} {L : List (List Int)} (h : k < L.length) : (L.take (k + 1)).flatMap (ext1 p) = (L.take k).flatMap (ext1 p) ++ ext1 p L[k] := by
  rw [List.take_succ, List.getElem?_eq_getElem h, List.flatMap_append]; simp
theorem _root_.Z.Rels.app {α : Type} {R : Store → D → α → Prop} {S : Store} {ds es : List D} {l m : List α} (a : Rels R S ds l) (b : Rels R S es m) : Rels R S (ds ++ es) (l ++ m) := by
  refine ⟨by rw [List.length_append, List.length_append, a.1, b.1], fun k d x h1 h2 => ?_⟩
  by_cases hk : k < ds.length
  · rw [List.getElem?_append_left hk] at h1
    rw [List.getElem?_append_left (a.1 ▸ hk)] at h2
    exact a.2 k d x h1 h2
  · rw [List.getElem?_append_right (by omega)] at h1
    rw [List.getElem?_append_right (by have := a.1; omega), ← a.1] at h2
    exact b.2 _ d x h1 h2
theorem m_extend {S : Store} {r q : Nat} {ds es : List D} (h : S[r]? = some (.lst ds)) (h' : S[q]? = some (.lst es)) (hl : ds.length + es.length ≤ 1000000) : mExtend (.ref r) [.ref q] S = some (.non, S.set r (.lst (ds ++ es))) := by
  simp only [mExtend, onL, h, h']
  rw [if_pos (by have : sl = 16777216 := rfl; omega)]
theorem w_allrows (hp : p ≤ 100) (hh : h ≤ 100) (hw : w ≤ 100) (hs : ∀ j, j ≤ h * w → p ^ j ≤ 1000) (hQ : ∀ r S', Sub S S' → Rw3 S' r (allT p h w) → Q (.ref r) S') : WP (f__law_all_rows [.int (p : Int), .int (h : Int), .int (w : Int)] S) Q := by
  have hhw : h * w ≤ 100 * 100 := Nat.mul_le_mul hh hw
  unfold f__law_all_rows
  rw [mkFn_wp]
  unfold b__law_all_rows n__law_all_rows
  have m0 : mulOk (h : Int) (w : Int) = true := mulW (a := 20) (b := 20) (by omega) (by omega) (by decide)
  simp only [List.map_cons, List.map_nil, List.length_cons, List.length_nil, List.cons_append, List.nil_append, List.replicate, List.getElem?_cons_zero, List.getElem?_cons_succ, List.set_cons_succ, List.set_cons_zero, WP_bind, WP_ok, WP_cut, q_var, q_c, q_bin, q_un, q_ofO, q_chain, q_tst, q_tstB, q_and2, q_or2, q_not1, q_andV, q_orV, q_notV, q_if, q_nil, q_cons, q_tup, q_lst, q_next, q_seq, q_expr, q_ret, q_retN, q_brk, q_cnt, q_sif, q_gnm, q_gtup, q_gcons, q_gnil, q_asg, q_call, q_callB, q_seqi, q_for, q_while, o_add, o_addI, o_sub, o_lt, o_le, o_gt, o_ge, o_neg, o_ixR, o_ixT, o_ixF, itemsT, itemsF, seqT, seqF, q_b1, q_b2, f_intI, f_intB, f_abs, f_max, f_min, f_lenT, f_lenF, f_list, f_tuple, q_gsb, ofB_bl, q_sl, q_pno, q_pat, q_lrg, q_meth, q_fld, q_rng1, Option.bind_some, Option.map_some, ofS_some, if_true, if_false, Bool.false_eq_true, decide_true, decide_false, ix0, ix1, ix2, wipe_nil, wipe_cons, q_yes, q_rng2, mkL, Nat.zero_le, z1, o_mul m0, natMul]
  rw [if_pos (by omega)]
  simp only [List.map_cons, List.map_nil, List.length_cons, List.length_nil, List.cons_append, List.nil_append, List.replicate, List.getElem?_cons_zero, List.getElem?_cons_succ, List.set_cons_succ, List.set_cons_zero, WP_bind, WP_ok, WP_cut, q_var, q_c, q_bin, q_un, q_ofO, q_chain, q_tst, q_tstB, q_and2, q_or2, q_not1, q_andV, q_orV, q_notV, q_if, q_nil, q_cons, q_tup, q_lst, q_next, q_seq, q_expr, q_ret, q_retN, q_brk, q_cnt, q_sif, q_gnm, q_gtup, q_gcons, q_gnil, q_asg, q_call, q_callB, q_seqi, q_for, q_while, o_add, o_addI, o_sub, o_lt, o_le, o_gt, o_ge, o_neg, o_ixR, o_ixT, o_ixF, itemsT, itemsF, seqT, seqF, q_b1, q_b2, f_intI, f_intB, f_abs, f_max, f_min, f_lenT, f_lenF, f_list, f_tuple, q_gsb, ofB_bl, q_sl, q_pno, q_pat, q_lrg, q_meth, q_fld, q_rng1, Option.bind_some, Option.map_some, ofS_some, if_true, if_false, Bool.false_eq_true, decide_true, decide_false, ix0, ix1, ix2, wipe_nil, wipe_cons, q_yes, q_rng2]
  have p1 : Sub S (S ++ [O.lst []]) := Sub.push _ _
  have p2 : Sub (S ++ [O.lst []]) (S ++ [O.lst []] ++ [O.lst [D.ref S.length]]) := Sub.push _ _
  have g1 : (S ++ [O.lst []])[S.length]? = some (.lst []) := push_at
  refine wp_for (h * w) (fun j env S' => ∃ r a4 a5 a6, env = [some (.int (p : Int)), some (.int (h : Int)), some (.int (w : Int)), some (.ref r), a4, a5, a6, none, none] ∧ Sub S S' ∧ Rw S' r (allE p j)) (by omega)
    ⟨_, none, none, none, rfl, p1.trans p2, ⟨_, push_at, Rels.nil.snoc (a := []) ⟨_, rfl, p2 _ _ g1⟩⟩⟩ (fun j env S1 hj ⟨r, a4, a5, a6, he, s1, h1⟩ => ⟨_, jR_at hj, ?_⟩) fun env S1 ⟨r, a4, a5, a6, he, s1, h1⟩ => ⟨jR_end, ?_⟩
  · subst he
    obtain ⟨ds, hr, rl⟩ := h1
    have hlen := allE_len p j
    have hpj := hs j (by omega)
    have hpj1 := hs (j + 1) (by omega)
    simp only [List.map_cons, List.map_nil, List.length_cons, List.length_nil, List.cons_append, List.nil_append, List.replicate, List.getElem?_cons_zero, List.getElem?_cons_succ, List.set_cons_succ, List.set_cons_zero, WP_bind, WP_ok, WP_cut, q_var, q_c, q_bin, q_un, q_ofO, q_chain, q_tst, q_tstB, q_and2, q_or2, q_not1, q_andV, q_orV, q_notV, q_if, q_nil, q_cons, q_tup, q_lst, q_next, q_seq, q_expr, q_ret, q_retN, q_brk, q_cnt, q_sif, q_gnm, q_gtup, q_gcons, q_gnil, q_asg, q_call, q_callB, q_seqi, q_for, q_while, o_add, o_addI, o_sub, o_lt, o_le, o_gt, o_ge, o_neg, o_ixR, o_ixT, o_ixF, itemsT, itemsF, seqT, seqF, q_b1, q_b2, f_intI, f_intB, f_abs, f_max, f_min, f_lenT, f_lenF, f_list, f_tuple, q_gsb, ofB_bl, q_sl, q_pno, q_pat, q_lrg, q_meth, q_fld, q_rng1, Option.bind_some, Option.map_some, ofS_some, if_true, if_false, Bool.false_eq_true, decide_true, decide_false, ix0, ix1, ix2, wipe_nil, wipe_cons, q_yes, q_rng2, mkL, Nat.zero_le]
    have q1 : Sub S1 (S1 ++ [O.lst []]) := Sub.push _ _
    obtain ⟨l, el⟩ : ∃ l, S1.length = l := ⟨_, rfl⟩
    have gl : (S1 ++ [O.lst []])[l]? = some (.lst []) := by rw [← el]; exact push_at
    rw [seqR (q1 _ _ hr), el]
    have hrl : r < l := by rw [← el]; exact lt_of_at hr
    simp only [List.map_cons, List.map_nil, List.length_cons, List.length_nil, List.cons_append, List.nil_append, List.replicate, List.getElem?_cons_zero, List.getElem?_cons_succ, List.set_cons_succ, List.set_cons_zero, WP_bind, WP_ok, WP_cut, q_var, q_c, q_bin, q_un, q_ofO, q_chain, q_tst, q_tstB, q_and2, q_or2, q_not1, q_andV, q_orV, q_notV, q_if, q_nil, q_cons, q_tup, q_lst, q_next, q_seq, q_expr, q_ret, q_retN, q_brk, q_cnt, q_sif, q_gnm, q_gtup, q_gcons, q_gnil, q_asg, q_call, q_callB, q_seqi, q_for, q_while, o_add, o_addI, o_sub, o_lt, o_le, o_gt, o_ge, o_neg, o_ixR, o_ixT, o_ixF, itemsT, itemsF, seqT, seqF, q_b1, q_b2, f_intI, f_intB, f_abs, f_max, f_min, f_lenT, f_lenF, f_list, f_tuple, q_gsb, ofB_bl, q_sl, q_pno, q_pat, q_lrg, q_meth, q_fld, q_rng1, Option.bind_some, Option.map_some, ofS_some, if_true, if_false, Bool.false_eq_true, decide_true, decide_false, ix0, ix1, ix2, wipe_nil, wipe_cons, q_yes, q_rng2]
    refine wp_for (allE p j).length (fun k env S' => ∃ es a6, env = [some (.int (p : Int)), some (.int (h : Int)), some (.int (w : Int)), some (.ref r), some (.int (j : Int)), some (.ref l), a6, none, none] ∧ Sub S1 S' ∧ S'[l]? = some (.lst es) ∧ Rels (IN l) S' es (((allE p j).take k).flatMap (ext1 p))) (by omega)
      ⟨_, _, rfl, q1, gl, by simpa using Rels.nil⟩ (fun k env S2 hk ⟨es, a6, he, s2, gl2, rl2⟩ => ?_) fun env S2 ⟨es, a6, he, s2, gl2, rl2⟩ => ⟨by rw [jL_at (s2 _ _ hr), ← rl.1, List.getElem?_eq_none (Nat.le_refl _)], ?_⟩
    · obtain ⟨d, ed, rd⟩ := rl.get hk
      refine ⟨d, by rw [jL_at (s2 _ _ hr), ed], ?_⟩
      subst he
      obtain ⟨rd', erd, hd⟩ := rd
      subst erd
      have hd2 := s2 _ _ hd
      simp only [List.map_cons, List.map_nil, List.length_cons, List.length_nil, List.cons_append, List.nil_append, List.replicate, List.getElem?_cons_zero, List.getElem?_cons_succ, List.set_cons_succ, List.set_cons_zero, WP_bind, WP_ok, WP_cut, q_var, q_c, q_bin, q_un, q_ofO, q_chain, q_tst, q_tstB, q_and2, q_or2, q_not1, q_andV, q_orV, q_notV, q_if, q_nil, q_cons, q_tup, q_lst, q_next, q_seq, q_expr, q_ret, q_retN, q_brk, q_cnt, q_sif, q_gnm, q_gtup, q_gcons, q_gnil, q_asg, q_call, q_callB, q_seqi, q_for, q_while, o_add, o_addI, o_sub, o_lt, o_le, o_gt, o_ge, o_neg, o_ixR, o_ixT, o_ixF, itemsT, itemsF, seqT, seqF, q_b1, q_b2, f_intI, f_intB, f_abs, f_max, f_min, f_lenT, f_lenF, f_list, f_tuple, q_gsb, ofB_bl, q_sl, q_pno, q_pat, q_lrg, q_meth, q_fld, q_rng1, Option.bind_some, Option.map_some, ofS_some, if_true, if_false, Bool.false_eq_true, decide_true, decide_false, ix0, ix1, ix2, wipe_nil, wipe_cons, q_yes, q_rng2, isL_r gl2]
      have hle : (allE p j)[k].length ≤ 10000 := by rw [(allE_ok p j _ (List.getElem_mem hk)).1]; omega
      refine wp_rel (IN l) (fun _ _ _ _ h s => h.mono s) (List.range p) ((List.range p).map fun (i : Nat) => D.int (i : Int)) (fun _ => true) (fun (i : Nat) => (allE p j)[k] ++ [(i : Int)]) (by simp; omega) (by simp) ?_ (fun i a d S3 ha hd' s3 => ?_) fun S3 ys s3 hy => ?_
      · simp only [List.map_cons, List.map_nil, List.length_cons, List.length_nil, List.cons_append, List.nil_append, List.replicate, List.getElem?_cons_zero, List.getElem?_cons_succ, List.set_cons_succ, List.set_cons_zero, WP_bind, WP_ok, WP_cut, q_var, q_c, q_bin, q_un, q_ofO, q_chain, q_tst, q_tstB, q_and2, q_or2, q_not1, q_andV, q_orV, q_notV, q_if, q_nil, q_cons, q_tup, q_lst, q_next, q_seq, q_expr, q_ret, q_retN, q_brk, q_cnt, q_sif, q_gnm, q_gtup, q_gcons, q_gnil, q_asg, q_call, q_callB, q_seqi, q_for, q_while, o_add, o_addI, o_sub, o_lt, o_le, o_gt, o_ge, o_neg, o_ixR, o_ixT, o_ixF, itemsT, itemsF, seqT, seqF, q_b1, q_b2, f_intI, f_intB, f_abs, f_max, f_min, f_lenT, f_lenF, f_list, f_tuple, q_gsb, ofB_bl, q_sl, q_pno, q_pat, q_lrg, q_meth, q_fld, q_rng1, Option.bind_some, Option.map_some, ofS_some, if_true, if_false, Bool.false_eq_true, decide_true, decide_false, ix0, ix1, ix2, wipe_nil, wipe_cons, q_yes, q_rng2]
        rw [if_pos (by omega)]
        simp only [List.map_cons, List.map_nil, List.length_cons, List.length_nil, List.cons_append, List.nil_append, List.replicate, List.getElem?_cons_zero, List.getElem?_cons_succ, List.set_cons_succ, List.set_cons_zero, WP_bind, WP_ok, WP_cut, q_var, q_c, q_bin, q_un, q_ofO, q_chain, q_tst, q_tstB, q_and2, q_or2, q_not1, q_andV, q_orV, q_notV, q_if, q_nil, q_cons, q_tup, q_lst, q_next, q_seq, q_expr, q_ret, q_retN, q_brk, q_cnt, q_sif, q_gnm, q_gtup, q_gcons, q_gnil, q_asg, q_call, q_callB, q_seqi, q_for, q_while, o_add, o_addI, o_sub, o_lt, o_le, o_gt, o_ge, o_neg, o_ixR, o_ixT, o_ixF, itemsT, itemsF, seqT, seqF, q_b1, q_b2, f_intI, f_intB, f_abs, f_max, f_min, f_lenT, f_lenF, f_list, f_tuple, q_gsb, ofB_bl, q_sl, q_pno, q_pat, q_lrg, q_meth, q_fld, q_rng1, Option.bind_some, Option.map_some, ofS_some, if_true, if_false, Bool.false_eq_true, decide_true, decide_false, ix0, ix1, ix2, wipe_nil, wipe_cons, q_yes, q_rng2]
        refine ⟨Sub.refl _, fun i S3 hi s3 => ?_⟩
        rw [List.length_range] at hi
        by_cases hip : i < p
        · rw [Int.toNat_natCast, jR_at hip, List.getElem?_map, List.getElem?_range hip]; rfl
        · have : i = p := by omega
          subst this
          rw [Int.toNat_natCast, jR_end, List.getElem?_eq_none (by simp)]
      · have hip : i < p := by have := (List.getElem?_eq_some_iff.mp ha).1; simpa using this
        rw [List.getElem?_range hip] at ha
        rw [List.getElem?_map, List.getElem?_range hip] at hd'
        cases ha
        cases hd'
        simp only [List.map_cons, List.map_nil, List.length_cons, List.length_nil, List.cons_append, List.nil_append, List.replicate, List.getElem?_cons_zero, List.getElem?_cons_succ, List.set_cons_succ, List.set_cons_zero, WP_bind, WP_ok, WP_cut, q_var, q_c, q_bin, q_un, q_ofO, q_chain, q_tst, q_tstB, q_and2, q_or2, q_not1, q_andV, q_orV, q_notV, q_if, q_nil, q_cons, q_tup, q_lst, q_next, q_seq, q_expr, q_ret, q_retN, q_brk, q_cnt, q_sif, q_gnm, q_gtup, q_gcons, q_gnil, q_asg, q_call, q_callB, q_seqi, q_for, q_while, o_add, o_addI, o_sub, o_lt, o_le, o_gt, o_ge, o_neg, o_ixR, o_ixT, o_ixF, itemsT, itemsF, seqT, seqF, q_b1, q_b2, f_intI, f_intB, f_abs, f_max, f_min, f_lenT, f_lenF, f_list, f_tuple, q_gsb, ofB_bl, q_sl, q_pno, q_pat, q_lrg, q_meth, q_fld, q_rng1, Option.bind_some, Option.map_some, ofS_some, if_true, if_false, Bool.false_eq_true, decide_true, decide_false, ix0, ix1, ix2, wipe_nil, wipe_cons, q_yes, q_rng2, mkL, z1]
        refine ⟨trivial, Sub.refl _, fun _ => ?_⟩
        have q3 : Sub S3 (S3 ++ [O.lst [D.int (i : Int)]]) := Sub.push _ _
        rw [o_addLL (xs := iL (allE p j)[k]) (ys := [D.int (i : Int)]) (q3 _ _ (s3 _ _ hd2)) push_at (by have := (allE_ok p j _ (List.getElem_mem hk)).1; rw [iL_len]; simp only [List.length_cons, List.length_nil]; omega)]
        simp only [List.map_cons, List.map_nil, List.length_cons, List.length_nil, List.cons_append, List.nil_append, List.replicate, List.getElem?_cons_zero, List.getElem?_cons_succ, List.set_cons_succ, List.set_cons_zero, WP_bind, WP_ok, WP_cut, q_var, q_c, q_bin, q_un, q_ofO, q_chain, q_tst, q_tstB, q_and2, q_or2, q_not1, q_andV, q_orV, q_notV, q_if, q_nil, q_cons, q_tup, q_lst, q_next, q_seq, q_expr, q_ret, q_retN, q_brk, q_cnt, q_sif, q_gnm, q_gtup, q_gcons, q_gnil, q_asg, q_call, q_callB, q_seqi, q_for, q_while, o_add, o_addI, o_sub, o_lt, o_le, o_gt, o_ge, o_neg, o_ixR, o_ixT, o_ixF, itemsT, itemsF, seqT, seqF, q_b1, q_b2, f_intI, f_intB, f_abs, f_max, f_min, f_lenT, f_lenF, f_list, f_tuple, q_gsb, ofB_bl, q_sl, q_pno, q_pat, q_lrg, q_meth, q_fld, q_rng1, Option.bind_some, Option.map_some, ofS_some, if_true, if_false, Bool.false_eq_true, decide_true, decide_false, ix0, ix1, ix2, wipe_nil, wipe_cons, q_yes, q_rng2]
        refine ⟨⟨_, rfl, ?_, ?_⟩, q3.trans (Sub.push _ _)⟩
        · have := sub_len s3
          have := lt_of_at gl2
          simp
          omega
        · rw [push_at]; unfold iL; simp
      · rw [filter_tt] at hy
        have q3 : Sub S3 (S3 ++ [O.lst ys]) := Sub.push _ _
        have gl3 := q3 _ _ (s3 _ _ gl2)
        have lt2 := lt_of_at gl2
        have n3 := sub_len s3
        have le1 : es.length + ys.length ≤ 1000000 := by
          rw [hy.1, rl2.1, ext_len, List.length_map, List.length_range, List.length_take]
          have : min k (allE p j).length * p ≤ 1000 * 100 := Nat.mul_le_mul (by omega) hp
          omega
        simp only [List.map_cons, List.map_nil, List.length_cons, List.length_nil, List.cons_append, List.nil_append, List.replicate, List.getElem?_cons_zero, List.getElem?_cons_succ, List.set_cons_succ, List.set_cons_zero, WP_bind, WP_ok, WP_cut, q_var, q_c, q_bin, q_un, q_ofO, q_chain, q_tst, q_tstB, q_and2, q_or2, q_not1, q_andV, q_orV, q_notV, q_if, q_nil, q_cons, q_tup, q_lst, q_next, q_seq, q_expr, q_ret, q_retN, q_brk, q_cnt, q_sif, q_gnm, q_gtup, q_gcons, q_gnil, q_asg, q_call, q_callB, q_seqi, q_for, q_while, o_add, o_addI, o_sub, o_lt, o_le, o_gt, o_ge, o_neg, o_ixR, o_ixT, o_ixF, itemsT, itemsF, seqT, seqF, q_b1, q_b2, f_intI, f_intB, f_abs, f_max, f_min, f_lenT, f_lenF, f_list, f_tuple, q_gsb, ofB_bl, q_sl, q_pno, q_pat, q_lrg, q_meth, q_fld, q_rng1, Option.bind_some, Option.map_some, ofS_some, if_true, if_false, Bool.false_eq_true, decide_true, decide_false, ix0, ix1, ix2, wipe_nil, wipe_cons, q_yes, q_rng2]
        rw [m_extend gl3 push_at le1]
        simp only [List.map_cons, List.map_nil, List.length_cons, List.length_nil, List.cons_append, List.nil_append, List.replicate, List.getElem?_cons_zero, List.getElem?_cons_succ, List.set_cons_succ, List.set_cons_zero, WP_bind, WP_ok, WP_cut, q_var, q_c, q_bin, q_un, q_ofO, q_chain, q_tst, q_tstB, q_and2, q_or2, q_not1, q_andV, q_orV, q_notV, q_if, q_nil, q_cons, q_tup, q_lst, q_next, q_seq, q_expr, q_ret, q_retN, q_brk, q_cnt, q_sif, q_gnm, q_gtup, q_gcons, q_gnil, q_asg, q_call, q_callB, q_seqi, q_for, q_while, o_add, o_addI, o_sub, o_lt, o_le, o_gt, o_ge, o_neg, o_ixR, o_ixT, o_ixF, itemsT, itemsF, seqT, seqF, q_b1, q_b2, f_intI, f_intB, f_abs, f_max, f_min, f_lenT, f_lenF, f_list, f_tuple, q_gsb, ofB_bl, q_sl, q_pno, q_pat, q_lrg, q_meth, q_fld, q_rng1, Option.bind_some, Option.map_some, ofS_some, if_true, if_false, Bool.false_eq_true, decide_true, decide_false, ix0, ix1, ix2, wipe_nil, wipe_cons, q_yes, q_rng2]
        have hln : l ≠ S3.length := by omega
        refine ⟨_, _, rfl, sub_set ((s2.trans s3).trans q3) (by omega), set_at gl3, ?_⟩
        rw [ext_take hk]
        have A : Rels (IN l) ((S3 ++ [O.lst ys]).set l (O.lst (es ++ ys))) es (((allE p j).take k).flatMap (ext1 p)) := rl2.imp fun d a h => (h.mono (s3.trans q3)).set
        have B : Rels (IN l) ((S3 ++ [O.lst ys]).set l (O.lst (es ++ ys))) ys (ext1 p (allE p j)[k]) := hy.imp fun d a h => (h.mono q3).set
        exact A.app B
    · subst he
      rw [List.take_length] at rl2
      simp only [List.map_cons, List.map_nil, List.length_cons, List.length_nil, List.cons_append, List.nil_append, List.replicate, List.getElem?_cons_zero, List.getElem?_cons_succ, List.set_cons_succ, List.set_cons_zero, WP_bind, WP_ok, WP_cut, q_var, q_c, q_bin, q_un, q_ofO, q_chain, q_tst, q_tstB, q_and2, q_or2, q_not1, q_andV, q_orV, q_notV, q_if, q_nil, q_cons, q_tup, q_lst, q_next, q_seq, q_expr, q_ret, q_retN, q_brk, q_cnt, q_sif, q_gnm, q_gtup, q_gcons, q_gnil, q_asg, q_call, q_callB, q_seqi, q_for, q_while, o_add, o_addI, o_sub, o_lt, o_le, o_gt, o_ge, o_neg, o_ixR, o_ixT, o_ixF, itemsT, itemsF, seqT, seqF, q_b1, q_b2, f_intI, f_intB, f_abs, f_max, f_min, f_lenT, f_lenF, f_list, f_tuple, q_gsb, ofB_bl, q_sl, q_pno, q_pat, q_lrg, q_meth, q_fld, q_rng1, Option.bind_some, Option.map_some, ofS_some, if_true, if_false, Bool.false_eq_true, decide_true, decide_false, ix0, ix1, ix2, wipe_nil, wipe_cons, q_yes, q_rng2, itemsR gl2]
      refine ⟨_, _, _, _, rfl, (s1.trans s2).trans (Sub.push _ _), ⟨es, push_at, ?_⟩⟩
      exact rl2.imp fun d a h => h.ir.mono (Sub.push _ _)
  · subst he
    obtain ⟨ds, hr, rl⟩ := h1
    simp only [List.map_cons, List.map_nil, List.length_cons, List.length_nil, List.cons_append, List.nil_append, List.replicate, List.getElem?_cons_zero, List.getElem?_cons_succ, List.set_cons_succ, List.set_cons_zero, WP_bind, WP_ok, WP_cut, q_var, q_c, q_bin, q_un, q_ofO, q_chain, q_tst, q_tstB, q_and2, q_or2, q_not1, q_andV, q_orV, q_notV, q_if, q_nil, q_cons, q_tup, q_lst, q_next, q_seq, q_expr, q_ret, q_retN, q_brk, q_cnt, q_sif, q_gnm, q_gtup, q_gcons, q_gnil, q_asg, q_call, q_callB, q_seqi, q_for, q_while, o_add, o_addI, o_sub, o_lt, o_le, o_gt, o_ge, o_neg, o_ixR, o_ixT, o_ixF, itemsT, itemsF, seqT, seqF, q_b1, q_b2, f_intI, f_intB, f_abs, f_max, f_min, f_lenT, f_lenF, f_list, f_tuple, q_gsb, ofB_bl, q_sl, q_pno, q_pat, q_lrg, q_meth, q_fld, q_rng1, Option.bind_some, Option.map_some, ofS_some, if_true, if_false, Bool.false_eq_true, decide_true, decide_false, ix0, ix1, ix2, wipe_nil, wipe_cons, q_yes, q_rng2]
    refine wp_rel (fun S d rows => ∃ q, d = .ref q ∧ Rw S q rows) (fun _ _ _ _ ⟨q, e, h⟩ s => ⟨q, e, h.mono s⟩) (allE p (h * w)) ds (fun _ => true) (cutR h w) (by rw [allE_len]; have := hs _ (Nat.le_refl _); omega) rl.1 ?_ (fun k e d S2 ha hd s2 => ?_) fun S2 ys s2 hy => ?_
    · simp only [List.map_cons, List.map_nil, List.length_cons, List.length_nil, List.cons_append, List.nil_append, List.replicate, List.getElem?_cons_zero, List.getElem?_cons_succ, List.set_cons_succ, List.set_cons_zero, WP_bind, WP_ok, WP_cut, q_var, q_c, q_bin, q_un, q_ofO, q_chain, q_tst, q_tstB, q_and2, q_or2, q_not1, q_andV, q_orV, q_notV, q_if, q_nil, q_cons, q_tup, q_lst, q_next, q_seq, q_expr, q_ret, q_retN, q_brk, q_cnt, q_sif, q_gnm, q_gtup, q_gcons, q_gnil, q_asg, q_call, q_callB, q_seqi, q_for, q_while, o_add, o_addI, o_sub, o_lt, o_le, o_gt, o_ge, o_neg, o_ixR, o_ixT, o_ixF, itemsT, itemsF, seqT, seqF, q_b1, q_b2, f_intI, f_intB, f_abs, f_max, f_min, f_lenT, f_lenF, f_list, f_tuple, q_gsb, ofB_bl, q_sl, q_pno, q_pat, q_lrg, q_meth, q_fld, q_rng1, Option.bind_some, Option.map_some, ofS_some, if_true, if_false, Bool.false_eq_true, decide_true, decide_false, ix0, ix1, ix2, wipe_nil, wipe_cons, q_yes, q_rng2, seqR hr]
      exact ⟨Sub.refl _, fun k S2 _ s2 => jL_at (s2 _ _ hr)⟩
    · obtain ⟨re, ere, hre⟩ := rl.2 k d e hd ha
      subst ere
      have hle := (allE_ok p _ e (List.mem_of_getElem? ha)).1
      simp only [List.map_cons, List.map_nil, List.length_cons, List.length_nil, List.cons_append, List.nil_append, List.replicate, List.getElem?_cons_zero, List.getElem?_cons_succ, List.set_cons_succ, List.set_cons_zero, WP_bind, WP_ok, WP_cut, q_var, q_c, q_bin, q_un, q_ofO, q_chain, q_tst, q_tstB, q_and2, q_or2, q_not1, q_andV, q_orV, q_notV, q_if, q_nil, q_cons, q_tup, q_lst, q_next, q_seq, q_expr, q_ret, q_retN, q_brk, q_cnt, q_sif, q_gnm, q_gtup, q_gcons, q_gnil, q_asg, q_call, q_callB, q_seqi, q_for, q_while, o_add, o_addI, o_sub, o_lt, o_le, o_gt, o_ge, o_neg, o_ixR, o_ixT, o_ixF, itemsT, itemsF, seqT, seqF, q_b1, q_b2, f_intI, f_intB, f_abs, f_max, f_min, f_lenT, f_lenF, f_list, f_tuple, q_gsb, ofB_bl, q_sl, q_pno, q_pat, q_lrg, q_meth, q_fld, q_rng1, Option.bind_some, Option.map_some, ofS_some, if_true, if_false, Bool.false_eq_true, decide_true, decide_false, ix0, ix1, ix2, wipe_nil, wipe_cons, q_yes, q_rng2]
      refine ⟨trivial, Sub.refl _, fun _ => ?_⟩
      refine wp_rel IR (fun _ _ _ _ h s => h.mono s) (List.range h) ((List.range h).map fun (i : Nat) => D.int (i : Int)) (fun _ => true) (fun (a : Nat) => (e.drop (a * w)).take w) (by simp; omega) (by simp) ?_ (fun i a d S3 ha' hd' s3 => ?_) fun S3 zs s3 hz => ?_
      · simp only [List.map_cons, List.map_nil, List.length_cons, List.length_nil, List.cons_append, List.nil_append, List.replicate, List.getElem?_cons_zero, List.getElem?_cons_succ, List.set_cons_succ, List.set_cons_zero, WP_bind, WP_ok, WP_cut, q_var, q_c, q_bin, q_un, q_ofO, q_chain, q_tst, q_tstB, q_and2, q_or2, q_not1, q_andV, q_orV, q_notV, q_if, q_nil, q_cons, q_tup, q_lst, q_next, q_seq, q_expr, q_ret, q_retN, q_brk, q_cnt, q_sif, q_gnm, q_gtup, q_gcons, q_gnil, q_asg, q_call, q_callB, q_seqi, q_for, q_while, o_add, o_addI, o_sub, o_lt, o_le, o_gt, o_ge, o_neg, o_ixR, o_ixT, o_ixF, itemsT, itemsF, seqT, seqF, q_b1, q_b2, f_intI, f_intB, f_abs, f_max, f_min, f_lenT, f_lenF, f_list, f_tuple, q_gsb, ofB_bl, q_sl, q_pno, q_pat, q_lrg, q_meth, q_fld, q_rng1, Option.bind_some, Option.map_some, ofS_some, if_true, if_false, Bool.false_eq_true, decide_true, decide_false, ix0, ix1, ix2, wipe_nil, wipe_cons, q_yes, q_rng2]
        rw [if_pos (by omega)]
        simp only [List.map_cons, List.map_nil, List.length_cons, List.length_nil, List.cons_append, List.nil_append, List.replicate, List.getElem?_cons_zero, List.getElem?_cons_succ, List.set_cons_succ, List.set_cons_zero, WP_bind, WP_ok, WP_cut, q_var, q_c, q_bin, q_un, q_ofO, q_chain, q_tst, q_tstB, q_and2, q_or2, q_not1, q_andV, q_orV, q_notV, q_if, q_nil, q_cons, q_tup, q_lst, q_next, q_seq, q_expr, q_ret, q_retN, q_brk, q_cnt, q_sif, q_gnm, q_gtup, q_gcons, q_gnil, q_asg, q_call, q_callB, q_seqi, q_for, q_while, o_add, o_addI, o_sub, o_lt, o_le, o_gt, o_ge, o_neg, o_ixR, o_ixT, o_ixF, itemsT, itemsF, seqT, seqF, q_b1, q_b2, f_intI, f_intB, f_abs, f_max, f_min, f_lenT, f_lenF, f_list, f_tuple, q_gsb, ofB_bl, q_sl, q_pno, q_pat, q_lrg, q_meth, q_fld, q_rng1, Option.bind_some, Option.map_some, ofS_some, if_true, if_false, Bool.false_eq_true, decide_true, decide_false, ix0, ix1, ix2, wipe_nil, wipe_cons, q_yes, q_rng2]
        refine ⟨Sub.refl _, fun i S3 hi s3 => ?_⟩
        rw [List.length_range] at hi
        by_cases hip : i < h
        · rw [Int.toNat_natCast, jR_at hip, List.getElem?_map, List.getElem?_range hip]; rfl
        · have : i = h := by omega
          subst this
          rw [Int.toNat_natCast, jR_end, List.getElem?_eq_none (by simp)]
      · have hip : i < h := by have := (List.getElem?_eq_some_iff.mp ha').1; simpa using this
        rw [List.getElem?_range hip] at ha'
        rw [List.getElem?_map, List.getElem?_range hip] at hd'
        cases ha'
        cases hd'
        have mi : mulOk (i : Int) (w : Int) = true := mulW (a := 20) (b := 20) (by omega) (by omega) (by decide)
        have hiw : i * w + w ≤ h * w := by rw [← Nat.succ_mul]; exact Nat.mul_le_mul_right _ hip
        have h3 := s3 _ _ (s2 _ _ hre)
        have eSl : oSl (.ref re) (some ((i * w : Nat) : Int)) (some ((i * w + w : Nat) : Int)) S3 = some (.ref S3.length, S3 ++ [.lst (iL ((e.drop (i * w)).take w))]) := by
          show (itemsL S3 (.ref re)).map _ = _
          rw [itemsLR h3]
          show some (D.ref S3.length, S3 ++ [O.lst (cutD (iL e) (some ((i * w : Nat) : Int)) (some ((i * w + w : Nat) : Int)))]) = _
          rw [cutLH (by omega), show i * w + w - i * w = w by omega]
        simp only [List.map_cons, List.map_nil, List.length_cons, List.length_nil, List.cons_append, List.nil_append, List.replicate, List.getElem?_cons_zero, List.getElem?_cons_succ, List.set_cons_succ, List.set_cons_zero, WP_bind, WP_ok, WP_cut, q_var, q_c, q_bin, q_un, q_ofO, q_chain, q_tst, q_tstB, q_and2, q_or2, q_not1, q_andV, q_orV, q_notV, q_if, q_nil, q_cons, q_tup, q_lst, q_next, q_seq, q_expr, q_ret, q_retN, q_brk, q_cnt, q_sif, q_gnm, q_gtup, q_gcons, q_gnil, q_asg, q_call, q_callB, q_seqi, q_for, q_while, o_add, o_addI, o_sub, o_lt, o_le, o_gt, o_ge, o_neg, o_ixR, o_ixT, o_ixF, itemsT, itemsF, seqT, seqF, q_b1, q_b2, f_intI, f_intB, f_abs, f_max, f_min, f_lenT, f_lenF, f_list, f_tuple, q_gsb, ofB_bl, q_sl, q_pno, q_pat, q_lrg, q_meth, q_fld, q_rng1, Option.bind_some, Option.map_some, ofS_some, if_true, if_false, Bool.false_eq_true, decide_true, decide_false, ix0, ix1, ix2, wipe_nil, wipe_cons, q_yes, q_rng2, o_mul mi, natMul, natAdd, eSl]
        exact ⟨trivial, Sub.refl _, fun _ => ⟨⟨_, rfl, push_at⟩, Sub.push _ _⟩⟩
      · rw [filter_tt] at hz
        exact ⟨⟨_, rfl, zs, push_at, hz.imp fun d a h => h.mono (Sub.push _ _)⟩, s3.trans (Sub.push _ _)⟩
    · rw [filter_tt] at hy
      simp only [List.map_cons, List.map_nil, List.length_cons, List.length_nil, List.cons_append, List.nil_append, List.replicate, List.getElem?_cons_zero, List.getElem?_cons_succ, List.set_cons_succ, List.set_cons_zero, WP_bind, WP_ok, WP_cut, q_var, q_c, q_bin, q_un, q_ofO, q_chain, q_tst, q_tstB, q_and2, q_or2, q_not1, q_andV, q_orV, q_notV, q_if, q_nil, q_cons, q_tup, q_lst, q_next, q_seq, q_expr, q_ret, q_retN, q_brk, q_cnt, q_sif, q_gnm, q_gtup, q_gcons, q_gnil, q_asg, q_call, q_callB, q_seqi, q_for, q_while, o_add, o_addI, o_sub, o_lt, o_le, o_gt, o_ge, o_neg, o_ixR, o_ixT, o_ixF, itemsT, itemsF, seqT, seqF, q_b1, q_b2, f_intI, f_intB, f_abs, f_max, f_min, f_lenT, f_lenF, f_list, f_tuple, q_gsb, ofB_bl, q_sl, q_pno, q_pat, q_lrg, q_meth, q_fld, q_rng1, Option.bind_some, Option.map_some, ofS_some, if_true, if_false, Bool.false_eq_true, decide_true, decide_false, ix0, ix1, ix2, wipe_nil, wipe_cons, q_yes, q_rng2]
      refine hQ _ _ ((s1.trans s2).trans (Sub.push _ _)) ⟨ys, push_at, hy.imp fun d a ⟨q, e, h⟩ => ⟨q, e, h.mono (Sub.push _ _)⟩⟩
end
end Zk16


set_option exponentiation.threshold 3000
namespace Zk16
open PySem PySem.Spec Z
structure In (S0 S : Store) (i m : Nat) : Prop where
  lot : Lot S i m
  sub : Sub S0 S
  le : S0.length ≤ i
/-- the sides that are gone through -/
def opts : List (Nat × Nat × Nat) := [(2, 2, 2), (2, 3, 2), (2, 2, 4), (2, 3, 3), (3, 2, 2), (3, 1, 4), (3, 2, 3), (5, 2, 2), (7, 1, 3), (2, 0, 3), (5, 2, 0)]
def rks (p h w : Nat) : List Int := (allT p h w).map fun rows => ((red (p : Int) rows (wid rows)).2.2.length : Int)
def k4 (z : Nat × Nat × Nat) : Bool := (List.range 5).all fun r => ev (z.1 : Int) (G z.2.1 r) * fc (z.1 : Int) z.2.2 r == ((rks z.1 z.2.1 z.2.2).count (r : Int) : Nat)
theorem k4_ok : opts.all k4 = true := by decide +kernel
def k5 (z : Nat × Nat × Nat) : Bool := ([2, 3, 5, 7] : List Nat).contains z.1 && (decide (z.2.1 ≤ 12) && (decide (z.2.2 ≤ 12) && (List.range (z.2.1 * z.2.2 + 1)).all fun j => decide (z.1 ^ j ≤ 1000)))
theorem k5_ok : opts.all k5 = true := by decide +kernel
def ts_1 : DS := (sSeq (sAsg (dLc (iSeq (dCall f__law_all_rows (dCons (dVar 1) (dCons (dVar 2) (dCons (dVar 3) dNil))))) (gNm 6) tYes1 (dCall f__law_rank (dCons (dVar 1) (dCons (dVar 6) dNil))) [6]) (gNm 4)) (sSeq (sFor (iRng1 (dCons (dC (.int 5)) dNil)) (gNm 5) (sIf (dTstB (dBin oNe (dMth 1 f_Poly_at (dCall f_tables_of_rank (dCons (dVar 2) (dCons (dVar 3) (dCons (dVar 5) dNil)))) (dCons (dVar 1) dNil)) (dMeth isL mCount (dVar 4) (dCons (dVar 5) dNil)))) (sRet (dC (.bl false))) sNext)) (sRet (dC (.bl true)))))
section
variable {S S' S0 : Store} {Q : D → Store → Prop} {m m' i p h w : Nat}
theorem In.step (h : In S0 S i m) (s : Sub S S') : In S0 S' i m := ⟨h.lot.sub s, h.sub.trans s, h.le⟩
theorem In.mono (h : In S0 S i m) (hm : m ≤ m') : In S0 S i m' := ⟨h.lot.mono hm, h.sub, h.le⟩
theorem In.kp (h : In S0 S i m) (L : Lot S' i m') (s : Kp i S S') : In S0 S' i m' := ⟨L, fun j o e => s j o (by have := lt_of_at e; have := h.le; omega) (h.sub j o e), h.le⟩
theorem m_count {S : Store} {r : Nat} {l : List Int} {k : Int} (h : S[r]? = some (.lst (iL l))) : mCount (.ref r) [.int k] S = some (.int (l.count k : Nat), S) := by
  have : intsOf (iL l) = some l := by
    unfold iL
    exact intsOf_map l
  simp only [mCount, onL, h, this, Option.map_some]
theorem wp_small (hz : (p, h, w) ∈ opts) (H : In S0 S i m) (hQ : ∀ S', In S0 S' i m → Q (.bl true) S') :
    WP (ts_1 [some (.ref i), some (.int (p : Int)), some (.int (h : Int)), some (.int (w : Int)), none, none, none] S) fun f S1 => WP (match f with
      | .rt d => .ok d S1
      | .nx _ => .ok .non S1
      | _ => .bad) Q := by
  have c5 := List.all_eq_true.mp k5_ok _ hz
  unfold k5 at c5
  simp only [Bool.and_eq_true, decide_eq_true_eq, List.all_eq_true, List.mem_range, List.contains_iff_mem] at c5
  obtain ⟨hp, hh, hw, hs⟩ := c5
  have hp' : (p : Int) ∈ ([2, 3, 5, 7] : List Int) := by
    have : p = 2 ∨ p = 3 ∨ p = 5 ∨ p = 7 := by simpa using hp
    rcases this with rfl | rfl | rfl | rfl <;> decide
  have hp7 : p ≤ 7 := by
    have : p = 2 ∨ p = 3 ∨ p = 5 ∨ p = 7 := by simpa using hp
    omega
  have c4 := List.all_eq_true.mp k4_ok _ hz
  unfold k4 at c4
  simp only [List.all_eq_true, List.mem_range, beq_iff_eq] at c4
  unfold ts_1
  simp only [List.map_cons, List.map_nil, List.length_cons, List.length_nil, List.cons_append, List.nil_append, List.replicate, List.getElem?_cons_zero, List.getElem?_cons_succ, List.set_cons_succ, List.set_cons_zero, WP_bind, WP_ok, WP_cut, q_var, q_c, q_bin, q_un, q_ofO, q_chain, q_tst, q_tstB, q_and2, q_or2, q_not1, q_andV, q_orV, q_notV, q_if, q_nil, q_cons, q_tup, q_lst, q_next, q_seq, q_expr, q_ret, q_retN, q_brk, q_cnt, q_sif, q_gnm, q_gtup, q_gcons, q_gnil, q_asg, q_call, q_callB, q_seqi, q_for, q_while, o_add, o_addI, o_sub, o_lt, o_le, o_gt, o_ge, o_neg, o_ixR, o_ixT, o_ixF, itemsT, itemsF, seqT, seqF, q_b1, q_b2, f_intI, f_intB, f_abs, f_max, f_min, f_lenT, f_lenF, f_list, f_tuple, q_gsb, ofB_bl, q_sl, q_pno, q_pat, q_lrg, q_meth, q_fld, q_rng1, Option.bind_some, Option.map_some, ofS_some, if_true, if_false, Bool.false_eq_true, decide_true, decide_false, ix0, ix1, ix2, wipe_nil, wipe_cons, q_yes, q_rng2]
  refine wp_relX (fun _ d (i : Int) => d = .int i) (fun _ _ _ _ h _ => h) (allT p h w) (fun _ => true) (fun rows => ((red (p : Int) rows (wid rows)).2.2.length : Int)) ?_ ?_ fun S1 ys s1 h2 => ?_
  · unfold allT
    rw [List.length_map, allE_len]
    have := hs (h * w) (by omega)
    omega
  · simp only [List.map_cons, List.map_nil, List.length_cons, List.length_nil, List.cons_append, List.nil_append, List.replicate, List.getElem?_cons_zero, List.getElem?_cons_succ, List.set_cons_succ, List.set_cons_zero, WP_bind, WP_ok, WP_cut, q_var, q_c, q_bin, q_un, q_ofO, q_chain, q_tst, q_tstB, q_and2, q_or2, q_not1, q_andV, q_orV, q_notV, q_if, q_nil, q_cons, q_tup, q_lst, q_next, q_seq, q_expr, q_ret, q_retN, q_brk, q_cnt, q_sif, q_gnm, q_gtup, q_gcons, q_gnil, q_asg, q_call, q_callB, q_seqi, q_for, q_while, o_add, o_addI, o_sub, o_lt, o_le, o_gt, o_ge, o_neg, o_ixR, o_ixT, o_ixF, itemsT, itemsF, seqT, seqF, q_b1, q_b2, f_intI, f_intB, f_abs, f_max, f_min, f_lenT, f_lenF, f_list, f_tuple, q_gsb, ofB_bl, q_sl, q_pno, q_pat, q_lrg, q_meth, q_fld, q_rng1, Option.bind_some, Option.map_some, ofS_some, if_true, if_false, Bool.false_eq_true, decide_true, decide_false, ix0, ix1, ix2, wipe_nil, wipe_cons, q_yes, q_rng2]
    refine w_allrows (by omega) (by omega) (by omega) (fun j hj => hs j (by omega)) fun r S1 s1 ⟨ds, h1, rl⟩ => ?_
    simp only [List.map_cons, List.map_nil, List.length_cons, List.length_nil, List.cons_append, List.nil_append, List.replicate, List.getElem?_cons_zero, List.getElem?_cons_succ, List.set_cons_succ, List.set_cons_zero, WP_bind, WP_ok, WP_cut, q_var, q_c, q_bin, q_un, q_ofO, q_chain, q_tst, q_tstB, q_and2, q_or2, q_not1, q_andV, q_orV, q_notV, q_if, q_nil, q_cons, q_tup, q_lst, q_next, q_seq, q_expr, q_ret, q_retN, q_brk, q_cnt, q_sif, q_gnm, q_gtup, q_gcons, q_gnil, q_asg, q_call, q_callB, q_seqi, q_for, q_while, o_add, o_addI, o_sub, o_lt, o_le, o_gt, o_ge, o_neg, o_ixR, o_ixT, o_ixF, itemsT, itemsF, seqT, seqF, q_b1, q_b2, f_intI, f_intB, f_abs, f_max, f_min, f_lenT, f_lenF, f_list, f_tuple, q_gsb, ofB_bl, q_sl, q_pno, q_pat, q_lrg, q_meth, q_fld, q_rng1, Option.bind_some, Option.map_some, ofS_some, if_true, if_false, Bool.false_eq_true, decide_true, decide_false, ix0, ix1, ix2, wipe_nil, wipe_cons, q_yes, q_rng2, seqR h1]
    refine ⟨s1, ds, rl.1, fun k S2 _ s2 => jL_at (s2 _ _ h1), fun k rows d S2 hk hd s2 => ?_⟩
    try simp only [List.map_cons, List.map_nil, List.length_cons, List.length_nil, List.cons_append, List.nil_append, List.replicate, List.getElem?_cons_zero, List.getElem?_cons_succ, List.set_cons_succ, List.set_cons_zero, WP_bind, WP_ok, WP_cut, q_var, q_c, q_bin, q_un, q_ofO, q_chain, q_tst, q_tstB, q_and2, q_or2, q_not1, q_andV, q_orV, q_notV, q_if, q_nil, q_cons, q_tup, q_lst, q_next, q_seq, q_expr, q_ret, q_retN, q_brk, q_cnt, q_sif, q_gnm, q_gtup, q_gcons, q_gnil, q_asg, q_call, q_callB, q_seqi, q_for, q_while, o_add, o_addI, o_sub, o_lt, o_le, o_gt, o_ge, o_neg, o_ixR, o_ixT, o_ixF, itemsT, itemsF, seqT, seqF, q_b1, q_b2, f_intI, f_intB, f_abs, f_max, f_min, f_lenT, f_lenF, f_list, f_tuple, q_gsb, ofB_bl, q_sl, q_pno, q_pat, q_lrg, q_meth, q_fld, q_rng1, Option.bind_some, Option.map_some, ofS_some, if_true, if_false, Bool.false_eq_true, decide_true, decide_false, ix0, ix1, ix2, wipe_nil, wipe_cons, q_yes, q_rng2]
    refine ⟨trivial, Sub.refl _, fun _ => ?_⟩
    obtain ⟨q, ed, hq⟩ := rl.2 k d rows hd hk
    subst ed
    obtain ⟨e, he, er⟩ := List.mem_map.mp (List.mem_of_getElem? hk)
    have hok := allE_ok p _ e he
    refine w_rank (w := w) hp' (hq.mono s2).rg ?_ (by omega) ?_ fun S3 s3 => ⟨rfl, s3⟩
    · rw [← er]; unfold cutR; simp; omega
    · intro l hl
      rw [← er] at hl
      obtain ⟨a, ha, rfl⟩ := List.mem_map.mp hl
      have ha' := List.mem_range.mp ha
      refine ⟨?_, fun x hx => ?_⟩
      · have : a * w + w ≤ h * w := by rw [← Nat.succ_mul]; exact Nat.mul_le_mul_right _ ha'
        rw [List.length_take, List.length_drop, hok.1]; omega
      · have := hok.2 x (List.mem_of_mem_drop (List.mem_of_mem_take hx))
        have : (7 : Nat) < 2 ^ 100 := by decide
        omega
  · rw [filter_tt] at h2
    have h2 := rels_int h2
    subst h2
    simp only [List.map_cons, List.map_nil, List.length_cons, List.length_nil, List.cons_append, List.nil_append, List.replicate, List.getElem?_cons_zero, List.getElem?_cons_succ, List.set_cons_succ, List.set_cons_zero, WP_bind, WP_ok, WP_cut, q_var, q_c, q_bin, q_un, q_ofO, q_chain, q_tst, q_tstB, q_and2, q_or2, q_not1, q_andV, q_orV, q_notV, q_if, q_nil, q_cons, q_tup, q_lst, q_next, q_seq, q_expr, q_ret, q_retN, q_brk, q_cnt, q_sif, q_gnm, q_gtup, q_gcons, q_gnil, q_asg, q_call, q_callB, q_seqi, q_for, q_while, o_add, o_addI, o_sub, o_lt, o_le, o_gt, o_ge, o_neg, o_ixR, o_ixT, o_ixF, itemsT, itemsF, seqT, seqF, q_b1, q_b2, f_intI, f_intB, f_abs, f_max, f_min, f_lenT, f_lenF, f_list, f_tuple, q_gsb, ofB_bl, q_sl, q_pno, q_pat, q_lrg, q_meth, q_fld, q_rng1, Option.bind_some, Option.map_some, ofS_some, if_true, if_false, Bool.false_eq_true, decide_true, decide_false, ix0, ix1, ix2, wipe_nil, wipe_cons, q_yes, q_rng2]
    have H1 := H.step (s1.trans (Sub.push _ (O.lst (iL ((allT p h w).map fun rows => ((red (p : Int) rows (wid rows)).2.2.length : Int))))))
    have g1 : (S1 ++ [O.lst (iL ((allT p h w).map fun rows => ((red (p : Int) rows (wid rows)).2.2.length : Int)))])[S1.length]? = some (.lst (iL (rks p h w))) := push_at
    generalize (S1 ++ [O.lst (iL ((allT p h w).map fun rows => ((red (p : Int) rows (wid rows)).2.2.length : Int)))]) = S2 at *
    rw [if_pos (by decide)]
    simp only [List.map_cons, List.map_nil, List.length_cons, List.length_nil, List.cons_append, List.nil_append, List.replicate, List.getElem?_cons_zero, List.getElem?_cons_succ, List.set_cons_succ, List.set_cons_zero, WP_bind, WP_ok, WP_cut, q_var, q_c, q_bin, q_un, q_ofO, q_chain, q_tst, q_tstB, q_and2, q_or2, q_not1, q_andV, q_orV, q_notV, q_if, q_nil, q_cons, q_tup, q_lst, q_next, q_seq, q_expr, q_ret, q_retN, q_brk, q_cnt, q_sif, q_gnm, q_gtup, q_gcons, q_gnil, q_asg, q_call, q_callB, q_seqi, q_for, q_while, o_add, o_addI, o_sub, o_lt, o_le, o_gt, o_ge, o_neg, o_ixR, o_ixT, o_ixF, itemsT, itemsF, seqT, seqF, q_b1, q_b2, f_intI, f_intB, f_abs, f_max, f_min, f_lenT, f_lenF, f_list, f_tuple, q_gsb, ofB_bl, q_sl, q_pno, q_pat, q_lrg, q_meth, q_fld, q_rng1, Option.bind_some, Option.map_some, ofS_some, if_true, if_false, Bool.false_eq_true, decide_true, decide_false, ix0, ix1, ix2, wipe_nil, wipe_cons, q_yes, q_rng2]
    refine wp_for 5 (fun j env S' => ∃ a5, env = [some (.ref i), some (.int (p : Int)), some (.int (h : Int)), some (.int (w : Int)), some (.ref S1.length), a5, none] ∧ In S0 S' i m ∧ Sub S2 S') (by omega) ⟨none, rfl, H1, Sub.refl _⟩ (fun j env S3 hj ⟨a5, he, H3, s3⟩ => ⟨_, jR_at hj, ?_⟩) fun env S3 ⟨a5, he, H3, s3⟩ => ⟨jR_end, ?_⟩
    · subst he
      have g3 := s3 _ _ g1
      simp only [List.map_cons, List.map_nil, List.length_cons, List.length_nil, List.cons_append, List.nil_append, List.replicate, List.getElem?_cons_zero, List.getElem?_cons_succ, List.set_cons_succ, List.set_cons_zero, WP_bind, WP_ok, WP_cut, q_var, q_c, q_bin, q_un, q_ofO, q_chain, q_tst, q_tstB, q_and2, q_or2, q_not1, q_andV, q_orV, q_notV, q_if, q_nil, q_cons, q_tup, q_lst, q_next, q_seq, q_expr, q_ret, q_retN, q_brk, q_cnt, q_sif, q_gnm, q_gtup, q_gcons, q_gnil, q_asg, q_call, q_callB, q_seqi, q_for, q_while, o_add, o_addI, o_sub, o_lt, o_le, o_gt, o_ge, o_neg, o_ixR, o_ixT, o_ixF, itemsT, itemsF, seqT, seqF, q_b1, q_b2, f_intI, f_intB, f_abs, f_max, f_min, f_lenT, f_lenF, f_list, f_tuple, q_gsb, ofB_bl, q_sl, q_pno, q_pat, q_lrg, q_meth, q_fld, q_rng1, Option.bind_some, Option.map_some, ofS_some, if_true, if_false, Bool.false_eq_true, decide_true, decide_false, ix0, ix1, ix2, wipe_nil, wipe_cons, q_yes, q_rng2, q_mth]
      refine w_tables hh hw (by omega) fun q S4 s4 o4 => ?_
      simp only [o4.isC, List.map_cons, List.map_nil, List.length_cons, List.length_nil, List.cons_append, List.nil_append, List.replicate, List.getElem?_cons_zero, List.getElem?_cons_succ, List.set_cons_succ, List.set_cons_zero, WP_bind, WP_ok, WP_cut, q_var, q_c, q_bin, q_un, q_ofO, q_chain, q_tst, q_tstB, q_and2, q_or2, q_not1, q_andV, q_orV, q_notV, q_if, q_nil, q_cons, q_tup, q_lst, q_next, q_seq, q_expr, q_ret, q_retN, q_brk, q_cnt, q_sif, q_gnm, q_gtup, q_gcons, q_gnil, q_asg, q_call, q_callB, q_seqi, q_for, q_while, o_add, o_addI, o_sub, o_lt, o_le, o_gt, o_ge, o_neg, o_ixR, o_ixT, o_ixF, itemsT, itemsF, seqT, seqF, q_b1, q_b2, f_intI, f_intB, f_abs, f_max, f_min, f_lenT, f_lenF, f_list, f_tuple, q_gsb, ofB_bl, q_sl, q_pno, q_pat, q_lrg, q_meth, q_fld, q_rng1, Option.bind_some, Option.map_some, ofS_some, if_true, if_false, Bool.false_eq_true, decide_true, decide_false, ix0, ix1, ix2, wipe_nil, wipe_cons, q_yes, q_rng2]
      have e60 : (10 : Int) ^ 60 > 100 := by decide
      have e70 : (2 : Nat) ^ 70 > 100 := by decide
      refine w_at o4 (by have := TR_len hh hw (show j ≤ 12 by omega); omega) ⟨by omega, by omega⟩ (by omega) ((TR_bn hh hw (by omega)).mono (Nat.pow_le_pow_right (by decide) (by decide))) fun S5 s5 => ?_
      have g5 := s5 _ _ (s4 _ _ g3)
      have e4 := c4 j hj
      rw [hv_ev, ev_TR, e4]
      simp only [List.map_cons, List.map_nil, List.length_cons, List.length_nil, List.cons_append, List.nil_append, List.replicate, List.getElem?_cons_zero, List.getElem?_cons_succ, List.set_cons_succ, List.set_cons_zero, WP_bind, WP_ok, WP_cut, q_var, q_c, q_bin, q_un, q_ofO, q_chain, q_tst, q_tstB, q_and2, q_or2, q_not1, q_andV, q_orV, q_notV, q_if, q_nil, q_cons, q_tup, q_lst, q_next, q_seq, q_expr, q_ret, q_retN, q_brk, q_cnt, q_sif, q_gnm, q_gtup, q_gcons, q_gnil, q_asg, q_call, q_callB, q_seqi, q_for, q_while, o_add, o_addI, o_sub, o_lt, o_le, o_gt, o_ge, o_neg, o_ixR, o_ixT, o_ixF, itemsT, itemsF, seqT, seqF, q_b1, q_b2, f_intI, f_intB, f_abs, f_max, f_min, f_lenT, f_lenF, f_list, f_tuple, q_gsb, ofB_bl, q_sl, q_pno, q_pat, q_lrg, q_meth, q_fld, q_rng1, Option.bind_some, Option.map_some, ofS_some, if_true, if_false, Bool.false_eq_true, decide_true, decide_false, ix0, ix1, ix2, wipe_nil, wipe_cons, q_yes, q_rng2, isL_r g5, m_count g5, o_neI, Bool.not_true]
      exact ⟨_, rfl, (H3.step s4).step s5, (s3.trans s4).trans s5⟩
    · subst he
      simp only [List.map_cons, List.map_nil, List.length_cons, List.length_nil, List.cons_append, List.nil_append, List.replicate, List.getElem?_cons_zero, List.getElem?_cons_succ, List.set_cons_succ, List.set_cons_zero, WP_bind, WP_ok, WP_cut, q_var, q_c, q_bin, q_un, q_ofO, q_chain, q_tst, q_tstB, q_and2, q_or2, q_not1, q_andV, q_orV, q_notV, q_if, q_nil, q_cons, q_tup, q_lst, q_next, q_seq, q_expr, q_ret, q_retN, q_brk, q_cnt, q_sif, q_gnm, q_gtup, q_gcons, q_gnil, q_asg, q_call, q_callB, q_seqi, q_for, q_while, o_add, o_addI, o_sub, o_lt, o_le, o_gt, o_ge, o_neg, o_ixR, o_ixT, o_ixF, itemsT, itemsF, seqT, seqF, q_b1, q_b2, f_intI, f_intB, f_abs, f_max, f_min, f_lenT, f_lenF, f_list, f_tuple, q_gsb, ofB_bl, q_sl, q_pno, q_pat, q_lrg, q_meth, q_fld, q_rng1, Option.bind_some, Option.map_some, ofS_some, if_true, if_false, Bool.false_eq_true, decide_true, decide_false, ix0, ix1, ix2, wipe_nil, wipe_cons, q_yes, q_rng2]
      exact hQ _ H3
theorem w_small (H : In S0 S i m) (hm : m ≤ 2 ^ 39) (hQ : ∀ S', In S0 S' i (m + 1) → Q (.bl true) S') : WP (f__law_small_right [.ref i] S) Q := by
  unfold f__law_small_right
  rw [mkFn_wp]
  have e : b__law_small_right = sSeq (sAsg (dCall f__law_one_of (dCons (dVar 0) (dCons (dLst (dCons (dTup (dCons (dC (.int 2)) (dCons (dC (.int 2)) (dCons (dC (.int 2)) dNil)))) (dCons (dTup (dCons (dC (.int 2)) (dCons (dC (.int 3)) (dCons (dC (.int 2)) dNil)))) (dCons (dTup (dCons (dC (.int 2)) (dCons (dC (.int 2)) (dCons (dC (.int 4)) dNil)))) (dCons (dTup (dCons (dC (.int 2)) (dCons (dC (.int 3)) (dCons (dC (.int 3)) dNil)))) (dCons (dTup (dCons (dC (.int 3)) (dCons (dC (.int 2)) (dCons (dC (.int 2)) dNil)))) (dCons (dTup (dCons (dC (.int 3)) (dCons (dC (.int 1)) (dCons (dC (.int 4)) dNil)))) (dCons (dTup (dCons (dC (.int 3)) (dCons (dC (.int 2)) (dCons (dC (.int 3)) dNil)))) (dCons (dTup (dCons (dC (.int 5)) (dCons (dC (.int 2)) (dCons (dC (.int 2)) dNil)))) (dCons (dTup (dCons (dC (.int 7)) (dCons (dC (.int 1)) (dCons (dC (.int 3)) dNil)))) (dCons (dTup (dCons (dC (.int 2)) (dCons (dC (.int 0)) (dCons (dC (.int 3)) dNil)))) (dCons (dTup (dCons (dC (.int 5)) (dCons (dC (.int 2)) (dCons (dC (.int 0)) dNil)))) dNil)))))))))))) dNil))) (gTup 3 (gCons (gNm 1) (gCons (gNm 2) (gCons (gNm 3) gNil))))) ts_1 := rfl
  rw [e]
  unfold n__law_small_right
  have l11 : (0 + 1 + 1 + 1 + 1 + 1 + 1 + 1 + 1 + 1 + 1 + 1 ≤ sl) = True := eq_true (by decide)
  have l11' : (1 + 1 + 1 + 1 + 1 + 1 + 1 + 1 + 1 + 1 + 1 ≤ sl) = True := eq_true (by decide)
  simp only [List.map_cons, List.map_nil, List.length_cons, List.length_nil, List.cons_append, List.nil_append, List.replicate, List.getElem?_cons_zero, List.getElem?_cons_succ, List.set_cons_succ, List.set_cons_zero, WP_bind, WP_ok, WP_cut, q_var, q_c, q_bin, q_un, q_ofO, q_chain, q_tst, q_tstB, q_and2, q_or2, q_not1, q_andV, q_orV, q_notV, q_if, q_nil, q_cons, q_tup, q_lst, q_next, q_seq, q_expr, q_ret, q_retN, q_brk, q_cnt, q_sif, q_gnm, q_gtup, q_gcons, q_gnil, q_asg, q_call, q_callB, q_seqi, q_for, q_while, o_add, o_addI, o_sub, o_lt, o_le, o_gt, o_ge, o_neg, o_ixR, o_ixT, o_ixF, itemsT, itemsF, seqT, seqF, q_b1, q_b2, f_intI, f_intB, f_abs, f_max, f_min, f_lenT, f_lenF, f_list, f_tuple, q_gsb, ofB_bl, q_sl, q_pno, q_pat, q_lrg, q_meth, q_fld, q_rng1, Option.bind_some, Option.map_some, ofS_some, if_true, if_false, Bool.false_eq_true, decide_true, decide_false, ix0, ix1, ix2, wipe_nil, wipe_cons, q_yes, q_rng2, z3, z3', mkL, l11, l11']
  have hi := H.lot.lt
  refine w_one_of (ds := opts.map fun z => D.tup [.int (z.1 : Int), .int (z.2.1 : Int), .int (z.2.2 : Int)]) ((H.step (Sub.push _ _)).lot) (r := S.length) push_at (by decide) (by decide) (by omega) (by omega) fun j z S1 hz L1 k1 l1 => ?_
  rw [List.getElem?_map] at hz
  cases hj : opts[j]? with
  | none => rw [hj] at hz; cases hz
  | some o =>
    rw [hj] at hz
    cases hz
    have H1 := (H.step (Sub.push _ _)).kp L1 k1
    simp only [List.map_cons, List.map_nil, List.length_cons, List.length_nil, List.cons_append, List.nil_append, List.replicate, List.getElem?_cons_zero, List.getElem?_cons_succ, List.set_cons_succ, List.set_cons_zero, WP_bind, WP_ok, WP_cut, q_var, q_c, q_bin, q_un, q_ofO, q_chain, q_tst, q_tstB, q_and2, q_or2, q_not1, q_andV, q_orV, q_notV, q_if, q_nil, q_cons, q_tup, q_lst, q_next, q_seq, q_expr, q_ret, q_retN, q_brk, q_cnt, q_sif, q_gnm, q_gtup, q_gcons, q_gnil, q_asg, q_call, q_callB, q_seqi, q_for, q_while, o_add, o_addI, o_sub, o_lt, o_le, o_gt, o_ge, o_neg, o_ixR, o_ixT, o_ixF, itemsT, itemsF, seqT, seqF, q_b1, q_b2, f_intI, f_intB, f_abs, f_max, f_min, f_lenT, f_lenF, f_list, f_tuple, q_gsb, ofB_bl, q_sl, q_pno, q_pat, q_lrg, q_meth, q_fld, q_rng1, Option.bind_some, Option.map_some, ofS_some, if_true, if_false, Bool.false_eq_true, decide_true, decide_false, ix0, ix1, ix2, wipe_nil, wipe_cons, q_yes, q_rng2]
    exact wp_small (List.mem_of_getElem? hj) H1 fun S' H' => hQ S' H'
end
end Zk16

set_option exponentiation.threshold 3000
namespace Zk16
open PySem PySem.Spec Z
def tq_5 : DS := (sSeq (sAsg (dTup (dCons (dCall f__law_pull (dCons (dVar 0) (dCons (dC (.int 13)) dNil))) (dCons (dCall f__law_tt_prime (dCons (dVar 0) dNil)) dNil))) (gTup 2 (gCons (gNm 5) (gCons (gNm 6) gNil)))) (sRet (dBin oEq (dMth 1 f_Poly_at (dCall f_tables_of_rank (dCons (dVar 5) (dCons (dVar 5) (dCons (dVar 5) dNil)))) (dCons (dVar 6) dNil)) (dCall f_turn_number (dCons (dVar 6) (dCons (dVar 5) dNil))))))
def PR (S : Store) (d : D) (l : List Int) : Prop := ∃ q, d = .ref q ∧ PO S q l
theorem PR.mono {S1 S2 : Store} {d : D} {l : List Int} (h : PR S1 d l) (s : Sub S1 S2) : PR S2 d l := let ⟨q, e, h⟩ := h; ⟨q, e, h.sub s⟩
section
variable {S S' S0 : Store} {Q : D → Store → Prop} {m m' i p h w a b : Nat} {L : List (List Int)} {xs ys : List D}
theorem own_go (h1 : S[a]? = some (.lst xs)) (h2 : S[b]? = some (.lst ys)) (r1 : Rels PR S xs L) (r2 : Rels PR S ys L) : ∀ m, m ≤ L.length → ownGo 1 f_Poly___eq__ a b L.length m S = some S
  | 0, _ => by
    unfold ownGo
    simp only [h1, h2, r1.1, r2.1, and_self, if_true]
  | m + 1, hm => by
    obtain ⟨d, e1, q1, rfl, o1⟩ := r1.get (k := L.length - (m + 1)) (by omega)
    obtain ⟨d, e2, q2, rfl, o2⟩ := r2.get (k := L.length - (m + 1)) (by omega)
    have ih := own_go h1 h2 r1 r2 m (by omega)
    obtain ⟨d, S', e, rfl, rfl⟩ := w_eqP (Q := fun d S' => d = .bl true ∧ S' = S) o1 o2 ⟨by simp, rfl⟩
    unfold ownGo
    simp only [h1, h2, r1.1, r2.1, and_self, if_true, e1, e2, o1.isC, o2.isC, Bool.and_self, e, ih, ite_self]
theorem own_ln (h1 : S[a]? = some (.lst xs)) (h2 : S[b]? = some (.lst ys)) (r1 : Rels PR S xs L) (r2 : Rels PR S ys L) : oOwnLN 1 f_Poly___eq__ (.ref a) (.ref b) S = some (.bl false, S) := by
  show (match S[a]? with
    | some (.lst xs) => (ownGo 1 f_Poly___eq__ a b xs.length xs.length S).map fun S' => (D.bl false, S')
    | _ => none) = _
  rw [h1]
  show (ownGo 1 f_Poly___eq__ a b xs.length xs.length S).map _ = _
  rw [r1.1, own_go h1 h2 r1 r2 _ (Nat.le_refl _)]; rfl
/-- all polynomials for two sides -/
theorem w_polys {env : En} {x y : Nat} (hh : h ≤ 12) (hw : w ≤ 12) (hx : x ≠ 7) (hy : y ≠ 7) (e1 : env[x]? = some (some (.int (h : Int)))) (e2 : env[y]? = some (some (.int (w : Int)))) (h7 : 7 < env.length)
    (hQ : ∀ S1 ys, Sub S S1 → Rels PR S1 ys ((List.range 13).map (TR h w)) → Q (.ref S1.length) (S1 ++ [.lst ys])) :
    WP (dLc (iRng1 (dCons (dC (.int 13)) dNil)) (gNm 7) tYes1 (dCall f_tables_of_rank (dCons (dVar x) (dCons (dVar y) (dCons (dVar 7) dNil)))) [7] env S) Q := by
  refine wp_relN PR (fun _ _ _ _ h s => h.mono s) 13 rfl (fun _ => true) (TR h w) (by decide) (fun k S1 hk s1 => ?_) fun S1 ys s1 hy => ?_
  · have g7 : ((env.set 7 none).set 7 (some (D.int (k : Int))))[7]? = some (some (.int (k : Int))) := by rw [List.getElem?_set_self (by simpa using h7)]
    have gN : ∀ n, n ≠ 7 → ((env.set 7 none).set 7 (some (D.int (k : Int))))[n]? = env[n]? := fun n hn => by rw [List.getElem?_set_ne (Ne.symm hn), List.getElem?_set_ne (Ne.symm hn)]
    simp only [List.map_cons, List.map_nil, List.length_cons, List.length_nil, List.cons_append, List.nil_append, List.replicate, List.getElem?_cons_zero, List.getElem?_cons_succ, List.set_cons_succ, List.set_cons_zero, WP_bind, WP_ok, WP_cut, q_var, q_c, q_bin, q_un, q_ofO, q_chain, q_tst, q_tstB, q_and2, q_or2, q_not1, q_andV, q_orV, q_notV, q_if, q_nil, q_cons, q_tup, q_lst, q_next, q_seq, q_expr, q_ret, q_retN, q_brk, q_cnt, q_sif, q_gnm, q_gtup, q_gcons, q_gnil, q_asg, q_call, q_callB, q_seqi, q_for, q_while, o_add, o_addI, o_sub, o_lt, o_le, o_gt, o_ge, o_neg, o_ixR, o_ixT, o_ixF, itemsT, itemsF, seqT, seqF, q_b1, q_b2, f_intI, f_intB, f_abs, f_max, f_min, f_lenT, f_lenF, f_list, f_tuple, q_gsb, ofB_bl, q_sl, q_pno, q_pat, q_lrg, q_meth, q_fld, q_rng1, Option.bind_some, Option.map_some, ofS_some, if_true, if_false, Bool.false_eq_true, decide_true, decide_false, ix0, ix1, ix2, wipe_nil, wipe_cons, q_yes, q_rng2, g7, gN x hx, gN y hy, e1, e2]
    refine ⟨trivial, Sub.refl _, fun _ => ?_⟩
    exact w_tables hh hw (by omega) fun q S' s o => ⟨⟨q, rfl, o⟩, s⟩
  · rw [filter_tt] at hy
    exact hQ _ _ s1 hy
theorem w_prime (H : In S0 S i m) (hm : m ≤ 2 ^ 39) (hQ : ∀ (p : Int) S', p ∈ ([2, 3, 5, 7] : List Int) → In S0 S' i (m + 1) → Q (.int p) S') : WP (f__law_tt_prime [.ref i] S) Q := by
  unfold f__law_tt_prime
  rw [mkFn_wp]
  unfold b__law_tt_prime n__law_tt_prime
  have l6 : (0 + 1 + 1 + 1 + 1 + 1 + 1 ≤ sl) = True := eq_true (by decide)
  have l6' : (1 + 1 + 1 + 1 + 1 + 1 ≤ sl) = True := eq_true (by decide)
  simp only [List.map_cons, List.map_nil, List.length_cons, List.length_nil, List.cons_append, List.nil_append, List.replicate, List.getElem?_cons_zero, List.getElem?_cons_succ, List.set_cons_succ, List.set_cons_zero, WP_bind, WP_ok, WP_cut, q_var, q_c, q_bin, q_un, q_ofO, q_chain, q_tst, q_tstB, q_and2, q_or2, q_not1, q_andV, q_orV, q_notV, q_if, q_nil, q_cons, q_tup, q_lst, q_next, q_seq, q_expr, q_ret, q_retN, q_brk, q_cnt, q_sif, q_gnm, q_gtup, q_gcons, q_gnil, q_asg, q_call, q_callB, q_seqi, q_for, q_while, o_add, o_addI, o_sub, o_lt, o_le, o_gt, o_ge, o_neg, o_ixR, o_ixT, o_ixF, itemsT, itemsF, seqT, seqF, q_b1, q_b2, f_intI, f_intB, f_abs, f_max, f_min, f_lenT, f_lenF, f_list, f_tuple, q_gsb, ofB_bl, q_sl, q_pno, q_pat, q_lrg, q_meth, q_fld, q_rng1, Option.bind_some, Option.map_some, ofS_some, if_true, if_false, Bool.false_eq_true, decide_true, decide_false, ix0, ix1, ix2, wipe_nil, wipe_cons, q_yes, q_rng2, mkL, l6, l6']
  have hi := H.lot.lt
  refine w_one_of (ds := ([2, 2, 3, 3, 5, 7] : List Int).map D.int) ((H.step (Sub.push _ _)).lot) (r := S.length) push_at (by decide) (by decide) (by omega) (by omega) fun j z S1 hz L1 k1 l1 => ?_
  obtain ⟨v, hv, rfl⟩ := List.mem_map.mp (List.mem_of_getElem? hz)
  have hv' : v = 2 ∨ v = 2 ∨ v = 3 ∨ v = 3 ∨ v = 5 ∨ v = 7 := by simpa using hv
  simp only [List.map_cons, List.map_nil, List.length_cons, List.length_nil, List.cons_append, List.nil_append, List.replicate, List.getElem?_cons_zero, List.getElem?_cons_succ, List.set_cons_succ, List.set_cons_zero, WP_bind, WP_ok, WP_cut, q_var, q_c, q_bin, q_un, q_ofO, q_chain, q_tst, q_tstB, q_and2, q_or2, q_not1, q_andV, q_orV, q_notV, q_if, q_nil, q_cons, q_tup, q_lst, q_next, q_seq, q_expr, q_ret, q_retN, q_brk, q_cnt, q_sif, q_gnm, q_gtup, q_gcons, q_gnil, q_asg, q_call, q_callB, q_seqi, q_for, q_while, o_add, o_addI, o_sub, o_lt, o_le, o_gt, o_ge, o_neg, o_ixR, o_ixT, o_ixF, itemsT, itemsF, seqT, seqF, q_b1, q_b2, f_intI, f_intB, f_abs, f_max, f_min, f_lenT, f_lenF, f_list, f_tuple, q_gsb, ofB_bl, q_sl, q_pno, q_pat, q_lrg, q_meth, q_fld, q_rng1, Option.bind_some, Option.map_some, ofS_some, if_true, if_false, Bool.false_eq_true, decide_true, decide_false, ix0, ix1, ix2, wipe_nil, wipe_cons, q_yes, q_rng2]
  refine hQ v _ ?_ ((H.step (Sub.push _ _)).kp L1 k1)
  rcases hv' with rfl | rfl | rfl | rfl | rfl | rfl <;> decide
theorem wp_q5 {a3 a4 : Option D} {a1 a2 : Option D} (H : In S0 S i m) (hm : m ≤ 2 ^ 38) (hQ : ∀ S', In S0 S' i (m + 2) → Q (.bl true) S') :
    WP (tq_5 [some (.ref i), a1, a2, a3, a4, none, none, none, none] S) fun f S1 => WP (match f with
      | .rt d => .ok d S1
      | .nx _ => .ok .non S1
      | _ => .bad) Q := by
  have e60 : (10 : Int) ^ 60 > 100 := by decide
  have e70 : (2 : Nat) ^ 70 > 100 := by decide
  unfold tq_5
  simp only [List.map_cons, List.map_nil, List.length_cons, List.length_nil, List.cons_append, List.nil_append, List.replicate, List.getElem?_cons_zero, List.getElem?_cons_succ, List.set_cons_succ, List.set_cons_zero, WP_bind, WP_ok, WP_cut, q_var, q_c, q_bin, q_un, q_ofO, q_chain, q_tst, q_tstB, q_and2, q_or2, q_not1, q_andV, q_orV, q_notV, q_if, q_nil, q_cons, q_tup, q_lst, q_next, q_seq, q_expr, q_ret, q_retN, q_brk, q_cnt, q_sif, q_gnm, q_gtup, q_gcons, q_gnil, q_asg, q_call, q_callB, q_seqi, q_for, q_while, o_add, o_addI, o_sub, o_lt, o_le, o_gt, o_ge, o_neg, o_ixR, o_ixT, o_ixF, itemsT, itemsF, seqT, seqF, q_b1, q_b2, f_intI, f_intB, f_abs, f_max, f_min, f_lenT, f_lenF, f_list, f_tuple, q_gsb, ofB_bl, q_sl, q_pno, q_pat, q_lrg, q_meth, q_fld, q_rng1, Option.bind_some, Option.map_some, ofS_some, if_true, if_false, Bool.false_eq_true, decide_true, decide_false, ix0, ix1, ix2, wipe_nil, wipe_cons, q_yes, q_rng2]
  refine w_pull H.lot (by decide) (by decide) (by omega) fun v S1 v0 v1 L1 k1 l1 => ?_
  obtain ⟨s, rfl⟩ := Int.eq_ofNat_of_zero_le v0
  have hs : s ≤ 12 := by omega
  have H1 := H.kp L1 k1
  simp only [List.map_cons, List.map_nil, List.length_cons, List.length_nil, List.cons_append, List.nil_append, List.replicate, List.getElem?_cons_zero, List.getElem?_cons_succ, List.set_cons_succ, List.set_cons_zero, WP_bind, WP_ok, WP_cut, q_var, q_c, q_bin, q_un, q_ofO, q_chain, q_tst, q_tstB, q_and2, q_or2, q_not1, q_andV, q_orV, q_notV, q_if, q_nil, q_cons, q_tup, q_lst, q_next, q_seq, q_expr, q_ret, q_retN, q_brk, q_cnt, q_sif, q_gnm, q_gtup, q_gcons, q_gnil, q_asg, q_call, q_callB, q_seqi, q_for, q_while, o_add, o_addI, o_sub, o_lt, o_le, o_gt, o_ge, o_neg, o_ixR, o_ixT, o_ixF, itemsT, itemsF, seqT, seqF, q_b1, q_b2, f_intI, f_intB, f_abs, f_max, f_min, f_lenT, f_lenF, f_list, f_tuple, q_gsb, ofB_bl, q_sl, q_pno, q_pat, q_lrg, q_meth, q_fld, q_rng1, Option.bind_some, Option.map_some, ofS_some, if_true, if_false, Bool.false_eq_true, decide_true, decide_false, ix0, ix1, ix2, wipe_nil, wipe_cons, q_yes, q_rng2]
  refine w_prime H1 (by omega) fun p S2 hp H2 => ?_
  have hp' : p = 2 ∨ p = 3 ∨ p = 5 ∨ p = 7 := by simpa using hp
  simp only [List.map_cons, List.map_nil, List.length_cons, List.length_nil, List.cons_append, List.nil_append, List.replicate, List.getElem?_cons_zero, List.getElem?_cons_succ, List.set_cons_succ, List.set_cons_zero, WP_bind, WP_ok, WP_cut, q_var, q_c, q_bin, q_un, q_ofO, q_chain, q_tst, q_tstB, q_and2, q_or2, q_not1, q_andV, q_orV, q_notV, q_if, q_nil, q_cons, q_tup, q_lst, q_next, q_seq, q_expr, q_ret, q_retN, q_brk, q_cnt, q_sif, q_gnm, q_gtup, q_gcons, q_gnil, q_asg, q_call, q_callB, q_seqi, q_for, q_while, o_add, o_addI, o_sub, o_lt, o_le, o_gt, o_ge, o_neg, o_ixR, o_ixT, o_ixF, itemsT, itemsF, seqT, seqF, q_b1, q_b2, f_intI, f_intB, f_abs, f_max, f_min, f_lenT, f_lenF, f_list, f_tuple, q_gsb, ofB_bl, q_sl, q_pno, q_pat, q_lrg, q_meth, q_fld, q_rng1, Option.bind_some, Option.map_some, ofS_some, if_true, if_false, Bool.false_eq_true, decide_true, decide_false, ix0, ix1, ix2, wipe_nil, wipe_cons, q_yes, q_rng2, z2, z2', q_mth]
  refine w_tables hs hs hs fun q S3 s3 o3 => ?_
  simp only [o3.isC, List.map_cons, List.map_nil, List.length_cons, List.length_nil, List.cons_append, List.nil_append, List.replicate, List.getElem?_cons_zero, List.getElem?_cons_succ, List.set_cons_succ, List.set_cons_zero, WP_bind, WP_ok, WP_cut, q_var, q_c, q_bin, q_un, q_ofO, q_chain, q_tst, q_tstB, q_and2, q_or2, q_not1, q_andV, q_orV, q_notV, q_if, q_nil, q_cons, q_tup, q_lst, q_next, q_seq, q_expr, q_ret, q_retN, q_brk, q_cnt, q_sif, q_gnm, q_gtup, q_gcons, q_gnil, q_asg, q_call, q_callB, q_seqi, q_for, q_while, o_add, o_addI, o_sub, o_lt, o_le, o_gt, o_ge, o_neg, o_ixR, o_ixT, o_ixF, itemsT, itemsF, seqT, seqF, q_b1, q_b2, f_intI, f_intB, f_abs, f_max, f_min, f_lenT, f_lenF, f_list, f_tuple, q_gsb, ofB_bl, q_sl, q_pno, q_pat, q_lrg, q_meth, q_fld, q_rng1, Option.bind_some, Option.map_some, ofS_some, if_true, if_false, Bool.false_eq_true, decide_true, decide_false, ix0, ix1, ix2, wipe_nil, wipe_cons, q_yes, q_rng2]
  refine w_at o3 (by have := TR_len hs hs hs; omega) ⟨by omega, by omega⟩ (by omega) ((TR_bn hs hs hs).mono (Nat.pow_le_pow_right (by decide) (by decide))) fun S4 s4 => ?_
  simp only [List.map_cons, List.map_nil, List.length_cons, List.length_nil, List.cons_append, List.nil_append, List.replicate, List.getElem?_cons_zero, List.getElem?_cons_succ, List.set_cons_succ, List.set_cons_zero, WP_bind, WP_ok, WP_cut, q_var, q_c, q_bin, q_un, q_ofO, q_chain, q_tst, q_tstB, q_and2, q_or2, q_not1, q_andV, q_orV, q_notV, q_if, q_nil, q_cons, q_tup, q_lst, q_next, q_seq, q_expr, q_ret, q_retN, q_brk, q_cnt, q_sif, q_gnm, q_gtup, q_gcons, q_gnil, q_asg, q_call, q_callB, q_seqi, q_for, q_while, o_add, o_addI, o_sub, o_lt, o_le, o_gt, o_ge, o_neg, o_ixR, o_ixT, o_ixF, itemsT, itemsF, seqT, seqF, q_b1, q_b2, f_intI, f_intB, f_abs, f_max, f_min, f_lenT, f_lenF, f_list, f_tuple, q_gsb, ofB_bl, q_sl, q_pno, q_pat, q_lrg, q_meth, q_fld, q_rng1, Option.bind_some, Option.map_some, ofS_some, if_true, if_false, Bool.false_eq_true, decide_true, decide_false, ix0, ix1, ix2, wipe_nil, wipe_cons, q_yes, q_rng2]
  refine w_turnnum hp hs ?_
  rw [hv_ev, TR_turn hs hp]
  have d1 : decide (fc p s s = fc p s s) = true := decide_eq_true rfl
  simp only [List.map_cons, List.map_nil, List.length_cons, List.length_nil, List.cons_append, List.nil_append, List.replicate, List.getElem?_cons_zero, List.getElem?_cons_succ, List.set_cons_succ, List.set_cons_zero, WP_bind, WP_ok, WP_cut, q_var, q_c, q_bin, q_un, q_ofO, q_chain, q_tst, q_tstB, q_and2, q_or2, q_not1, q_andV, q_orV, q_notV, q_if, q_nil, q_cons, q_tup, q_lst, q_next, q_seq, q_expr, q_ret, q_retN, q_brk, q_cnt, q_sif, q_gnm, q_gtup, q_gcons, q_gnil, q_asg, q_call, q_callB, q_seqi, q_for, q_while, o_add, o_addI, o_sub, o_lt, o_le, o_gt, o_ge, o_neg, o_ixR, o_ixT, o_ixF, itemsT, itemsF, seqT, seqF, q_b1, q_b2, f_intI, f_intB, f_abs, f_max, f_min, f_lenT, f_lenF, f_list, f_tuple, q_gsb, ofB_bl, q_sl, q_pno, q_pat, q_lrg, q_meth, q_fld, q_rng1, Option.bind_some, Option.map_some, ofS_some, if_true, if_false, Bool.false_eq_true, decide_true, decide_false, ix0, ix1, ix2, wipe_nil, wipe_cons, q_yes, q_rng2, o_eqI, d1]
  exact hQ _ ((H2.step s3).step s4)
end
end Zk16

set_option exponentiation.threshold 3000
namespace Zk16
open PySem PySem.Spec Z
def tq_4 : DS := sSeq (sIf (dTstB (dBin oNe (dLc (iEnum (dCons (dVar 3) dNil)) (gTup 2 (gCons (gNm 7) (gCons (gNm 8) gNil))) (dTstB (dBin oNe (dBin oEq (dPrp 1 f_Poly_coefficients (dVar 8)) (dTup dNil)) (dBin oGtI (dVar 7) (dCallB (b2 fMin2) (dCons (dVar 1) (dCons (dVar 2) dNil)))))) (dVar 8) [7, 8]) (dLst dNil))) (sRet (dC (.bl false))) sNext) tq_5
def tq_3 : DS := sSeq (sIf (dTstB (dBin (oOwnLN 1 f_Poly___eq__) (dVar 3) (dLc (iRng1 (dCons (dC (.int 13)) dNil)) (gNm 7) tYes1 (dCall f_tables_of_rank (dCons (dVar 2) (dCons (dVar 1) (dCons (dVar 7) dNil)))) [7]))) (sRet (dC (.bl false))) sNext) tq_4
def tq_2 : DS := sSeq (sFor (iSeq (dTup (dCons (dC (.int 0)) (dCons (dC (.int 1)) (dCons (dC (.int 2)) (dCons (dC (.int 3)) (dCons (dC (.int 4)) (dCons (dC (.int 10)) (dCons (dUn oNeg (dC (.int 1))) dNil))))))))) (gNm 4) (sIf (dTstB (dBin oNe (dCallB (b1 fSum) (dCons (dLc (iSeq (dVar 3)) (gNm 8) tYes1 (dMth 1 f_Poly_at (dVar 8) (dCons (dVar 4) dNil)) [8]) dNil)) (dCall f__law_power (dCons (dVar 4) (dCons (dBin oMulA (dVar 1) (dVar 2)) dNil))))) (sRet (dC (.bl false))) sNext)) tq_3
def tq_1 : DS := sSeq (sAsg (dLc (iRng1 (dCons (dC (.int 13)) dNil)) (gNm 7) tYes1 (dCall f_tables_of_rank (dCons (dVar 1) (dCons (dVar 2) (dCons (dVar 7) dNil)))) [7]) (gNm 3)) tq_2
theorem split_sums : b__law_sums_right = sSeq (sAsg (dTup (dCons (dCall f__law_pull (dCons (dVar 0) (dCons (dC (.int 13)) dNil))) (dCons (dCall f__law_pull (dCons (dVar 0) (dCons (dC (.int 13)) dNil))) dNil))) (gTup 2 (gCons (gNm 1) (gCons (gNm 2) gNil)))) tq_1 := rfl
section
variable {S S' S0 : Store} {Q : D → Store → Prop} {m m' i p h w a b : Nat} {L : List (List Int)} {xs ys : List D}
abbrev Fin (Q : D → Store → Prop) (f : Fl) (S1 : Store) : Prop := WP (match f with
      | .rt d => .ok d S1
      | .nx _ => .ok .non S1
      | _ => .bad) Q
theorem wp_q4 {a4 : Option D} {r : Nat} (hh : h ≤ 12) (hw : w ≤ 12) (H : In S0 S i m) (hm : m ≤ 2 ^ 38) (hp : S[r]? = some (.lst xs)) (rl : Rels PR S xs ((List.range 13).map (TR h w))) (hQ : ∀ S', In S0 S' i (m + 2) → Q (.bl true) S') :
    WP (tq_4 [some (.ref i), some (.int (h : Int)), some (.int (w : Int)), some (.ref r), a4, none, none, none, none] S) (Fin Q) := by
  unfold tq_4
  simp only [List.map_cons, List.map_nil, List.length_cons, List.length_nil, List.cons_append, List.nil_append, List.replicate, List.getElem?_cons_zero, List.getElem?_cons_succ, List.set_cons_succ, List.set_cons_zero, WP_bind, WP_ok, WP_cut, q_var, q_c, q_bin, q_un, q_ofO, q_chain, q_tst, q_tstB, q_and2, q_or2, q_not1, q_andV, q_orV, q_notV, q_if, q_nil, q_cons, q_tup, q_lst, q_next, q_seq, q_expr, q_ret, q_retN, q_brk, q_cnt, q_sif, q_gnm, q_gtup, q_gcons, q_gnil, q_asg, q_call, q_callB, q_seqi, q_for, q_while, o_add, o_addI, o_sub, o_lt, o_le, o_gt, o_ge, o_neg, o_ixR, o_ixT, o_ixF, itemsT, itemsF, seqT, seqF, q_b1, q_b2, f_intI, f_intB, f_abs, f_max, f_min, f_lenT, f_lenF, f_list, f_tuple, q_gsb, ofB_bl, q_sl, q_pno, q_pat, q_lrg, q_meth, q_fld, q_rng1, Option.bind_some, Option.map_some, ofS_some, if_true, if_false, Bool.false_eq_true, decide_true, decide_false, ix0, ix1, ix2, wipe_nil, wipe_cons, q_yes, q_rng2]
  refine wp_rel PR (fun _ _ _ _ h s => h.mono s) ((List.range 13).map (TR h w)).zipIdx (xs.zipIdx.map fun z => D.tup [.int (z.2 : Int), z.1]) (fun _ => false) (fun z => z.1) (by simp) (by simp [rl.1]) ?_ (fun k z d S1 ha hd s1 => ?_) fun S1 ys s1 hy => ?_
  · rw [enum1 (A := dVar 3) (x := .ref r) rfl (by rw [itemsR hp]; rfl), WP_ok]
    refine ⟨Sub.refl _, fun k S2 hk s2 => ?_⟩
    exact jE_at (itemsR (s2 _ _ hp)) (by simpa [rl.1] using hk)
  · have hk13 : k < 13 := by have := (List.getElem?_eq_some_iff.mp ha).1; simpa using this
    obtain ⟨e, ee, q, rfl, o⟩ := rl.get (k := k) (by simpa using hk13)
    have ez : z = (TR h w k, k) := by
      rw [List.getElem?_zipIdx, List.getElem?_map, List.getElem?_range hk13] at ha
      simpa using ha.symm
    have ed : d = .tup [.int (k : Int), .ref q] := by
      rw [List.getElem?_map, List.getElem?_zipIdx, ee] at hd
      simpa using hd.symm
    subst ez ed
    have o1 := o.sub s1
    rw [List.getElem_map, List.getElem_range] at o1
    have hn := TR_nil hh hw (show k ≤ 12 by omega)
    have e1 : oEq (.tup (iL (TR h w k))) (.tup []) S1 = some (.bl (decide (TR h w k = [])), S1) := eq_tup (m := [])
    have e2 : decide ((if (w : Int) < (h : Int) then (w : Int) else (h : Int)) < (k : Int)) = decide (min h w < k) := by
      by_cases hc : min h w < k
      · rw [decide_eq_true hc, decide_eq_true (by split <;> omega)]
      · rw [decide_eq_false hc, decide_eq_false (by split <;> omega)]
    simp only [List.map_cons, List.map_nil, List.length_cons, List.length_nil, List.cons_append, List.nil_append, List.replicate, List.getElem?_cons_zero, List.getElem?_cons_succ, List.set_cons_succ, List.set_cons_zero, WP_bind, WP_ok, WP_cut, q_var, q_c, q_bin, q_un, q_ofO, q_chain, q_tst, q_tstB, q_and2, q_or2, q_not1, q_andV, q_orV, q_notV, q_if, q_nil, q_cons, q_tup, q_lst, q_next, q_seq, q_expr, q_ret, q_retN, q_brk, q_cnt, q_sif, q_gnm, q_gtup, q_gcons, q_gnil, q_asg, q_call, q_callB, q_seqi, q_for, q_while, o_add, o_addI, o_sub, o_lt, o_le, o_gt, o_ge, o_neg, o_ixR, o_ixT, o_ixF, itemsT, itemsF, seqT, seqF, q_b1, q_b2, f_intI, f_intB, f_abs, f_max, f_min, f_lenT, f_lenF, f_list, f_tuple, q_gsb, ofB_bl, q_sl, q_pno, q_pat, q_lrg, q_meth, q_fld, q_rng1, Option.bind_some, Option.map_some, ofS_some, if_true, if_false, Bool.false_eq_true, decide_true, decide_false, ix0, ix1, ix2, wipe_nil, wipe_cons, q_yes, q_rng2, z2, z2', q_prp, o1.isC]
    refine w_coefs o1 ?_
    simp only [List.map_cons, List.map_nil, List.length_cons, List.length_nil, List.cons_append, List.nil_append, List.replicate, List.getElem?_cons_zero, List.getElem?_cons_succ, List.set_cons_succ, List.set_cons_zero, WP_bind, WP_ok, WP_cut, q_var, q_c, q_bin, q_un, q_ofO, q_chain, q_tst, q_tstB, q_and2, q_or2, q_not1, q_andV, q_orV, q_notV, q_if, q_nil, q_cons, q_tup, q_lst, q_next, q_seq, q_expr, q_ret, q_retN, q_brk, q_cnt, q_sif, q_gnm, q_gtup, q_gcons, q_gnil, q_asg, q_call, q_callB, q_seqi, q_for, q_while, o_add, o_addI, o_sub, o_lt, o_le, o_gt, o_ge, o_neg, o_ixR, o_ixT, o_ixF, itemsT, itemsF, seqT, seqF, q_b1, q_b2, f_intI, f_intB, f_abs, f_max, f_min, f_lenT, f_lenF, f_list, f_tuple, q_gsb, ofB_bl, q_sl, q_pno, q_pat, q_lrg, q_meth, q_fld, q_rng1, Option.bind_some, Option.map_some, ofS_some, if_true, if_false, Bool.false_eq_true, decide_true, decide_false, ix0, ix1, ix2, wipe_nil, wipe_cons, q_yes, q_rng2, Nat.zero_le, e1, e2, ne_bl hn]
    exact ⟨trivial, Sub.refl _, fun z => nomatch z⟩
  · have hy0 : ys = [] := by
      have e0 : ∀ l : List (List Int × Nat), l.filter (fun _ => false) = [] := fun l => by simp
      rw [e0] at hy
      exact List.eq_nil_of_length_eq_zero hy.1
    subst hy0
    have en : oNe (.ref S1.length) (.ref (S1 ++ [O.lst []]).length) (S1 ++ [O.lst []] ++ [O.lst []]) = some (.bl (!decide (([] : List Int) = [])), S1 ++ [O.lst []] ++ [O.lst []]) := ne_lst (l := []) (m := []) (Sub.push _ _ _ _ push_at) push_at
    simp only [List.map_cons, List.map_nil, List.length_cons, List.length_nil, List.cons_append, List.nil_append, List.replicate, List.getElem?_cons_zero, List.getElem?_cons_succ, List.set_cons_succ, List.set_cons_zero, WP_bind, WP_ok, WP_cut, q_var, q_c, q_bin, q_un, q_ofO, q_chain, q_tst, q_tstB, q_and2, q_or2, q_not1, q_andV, q_orV, q_notV, q_if, q_nil, q_cons, q_tup, q_lst, q_next, q_seq, q_expr, q_ret, q_retN, q_brk, q_cnt, q_sif, q_gnm, q_gtup, q_gcons, q_gnil, q_asg, q_call, q_callB, q_seqi, q_for, q_while, o_add, o_addI, o_sub, o_lt, o_le, o_gt, o_ge, o_neg, o_ixR, o_ixT, o_ixF, itemsT, itemsF, seqT, seqF, q_b1, q_b2, f_intI, f_intB, f_abs, f_max, f_min, f_lenT, f_lenF, f_list, f_tuple, q_gsb, ofB_bl, q_sl, q_pno, q_pat, q_lrg, q_meth, q_fld, q_rng1, Option.bind_some, Option.map_some, ofS_some, if_true, if_false, Bool.false_eq_true, decide_true, decide_false, ix0, ix1, ix2, wipe_nil, wipe_cons, q_yes, q_rng2, mkL, Nat.zero_le, en, Bool.not_true]
    exact wp_q5 (H.step (s1.trans ((Sub.push _ _).trans (Sub.push _ _)))) hm hQ
theorem wp_q3 {a4 : Option D} {r : Nat} (hh : h ≤ 12) (hw : w ≤ 12) (H : In S0 S i m) (hm : m ≤ 2 ^ 38) (hp : S[r]? = some (.lst xs)) (rl : Rels PR S xs ((List.range 13).map (TR h w))) (hQ : ∀ S', In S0 S' i (m + 2) → Q (.bl true) S') :
    WP (tq_3 [some (.ref i), some (.int (h : Int)), some (.int (w : Int)), some (.ref r), a4, none, none, none, none] S) (Fin Q) := by
  unfold tq_3
  simp only [List.map_cons, List.map_nil, List.length_cons, List.length_nil, List.cons_append, List.nil_append, List.replicate, List.getElem?_cons_zero, List.getElem?_cons_succ, List.set_cons_succ, List.set_cons_zero, WP_bind, WP_ok, WP_cut, q_var, q_c, q_bin, q_un, q_ofO, q_chain, q_tst, q_tstB, q_and2, q_or2, q_not1, q_andV, q_orV, q_notV, q_if, q_nil, q_cons, q_tup, q_lst, q_next, q_seq, q_expr, q_ret, q_retN, q_brk, q_cnt, q_sif, q_gnm, q_gtup, q_gcons, q_gnil, q_asg, q_call, q_callB, q_seqi, q_for, q_while, o_add, o_addI, o_sub, o_lt, o_le, o_gt, o_ge, o_neg, o_ixR, o_ixT, o_ixF, itemsT, itemsF, seqT, seqF, q_b1, q_b2, f_intI, f_intB, f_abs, f_max, f_min, f_lenT, f_lenF, f_list, f_tuple, q_gsb, ofB_bl, q_sl, q_pno, q_pat, q_lrg, q_meth, q_fld, q_rng1, Option.bind_some, Option.map_some, ofS_some, if_true, if_false, Bool.false_eq_true, decide_true, decide_false, ix0, ix1, ix2, wipe_nil, wipe_cons, q_yes, q_rng2]
  refine w_polys (h := w) (w := h) hw hh (by decide) (by decide) rfl rfl (by simp) fun S1 ys s1 hy => ?_
  have s2 : Sub S (S1 ++ [O.lst ys]) := s1.trans (Sub.push _ _)
  have es : (List.range 13).map (TR w h) = (List.range 13).map (TR h w) := List.map_congr_left fun r hr => TR_sym hw hh (by have := List.mem_range.mp hr; omega)
  rw [es] at hy
  have eo := own_ln (s2 _ _ hp) (push_at (S := S1)) (rl.imp fun d l h => h.mono s2) (hy.imp fun d l h => h.mono (Sub.push _ _))
  simp only [eo, List.map_cons, List.map_nil, List.length_cons, List.length_nil, List.cons_append, List.nil_append, List.replicate, List.getElem?_cons_zero, List.getElem?_cons_succ, List.set_cons_succ, List.set_cons_zero, WP_bind, WP_ok, WP_cut, q_var, q_c, q_bin, q_un, q_ofO, q_chain, q_tst, q_tstB, q_and2, q_or2, q_not1, q_andV, q_orV, q_notV, q_if, q_nil, q_cons, q_tup, q_lst, q_next, q_seq, q_expr, q_ret, q_retN, q_brk, q_cnt, q_sif, q_gnm, q_gtup, q_gcons, q_gnil, q_asg, q_call, q_callB, q_seqi, q_for, q_while, o_add, o_addI, o_sub, o_lt, o_le, o_gt, o_ge, o_neg, o_ixR, o_ixT, o_ixF, itemsT, itemsF, seqT, seqF, q_b1, q_b2, f_intI, f_intB, f_abs, f_max, f_min, f_lenT, f_lenF, f_list, f_tuple, q_gsb, ofB_bl, q_sl, q_pno, q_pat, q_lrg, q_meth, q_fld, q_rng1, Option.bind_some, Option.map_some, ofS_some, if_true, if_false, Bool.false_eq_true, decide_true, decide_false, ix0, ix1, ix2, wipe_nil, wipe_cons, q_yes, q_rng2]
  exact wp_q4 hh hw (H.step s2) hm (s2 _ _ hp) (rl.imp fun d l h => h.mono s2) hQ
theorem f_sumI {r : Nat} {l : List Int} (h : S[r]? = some (.lst (iL l))) : fSum (.ref r) S = some (.int l.sum, S) := by
  have : intsOf (iL l) = some l := by
    unfold iL
    exact intsOf_map l
  unfold fSum
  rw [itemsLR h]
  show ((intsOf (iL l))).map _ = _
  rw [this]; rfl
def nums : List Int := [0, 1, 2, 3, 4, 10, -1]
theorem wp_q2 {r : Nat} (hh : h ≤ 12) (hw : w ≤ 12) (H : In S0 S i m) (hm : m ≤ 2 ^ 38) (hp : S[r]? = some (.lst xs)) (rl : Rels PR S xs ((List.range 13).map (TR h w))) (hQ : ∀ S', In S0 S' i (m + 2) → Q (.bl true) S') :
    WP (tq_2 [some (.ref i), some (.int (h : Int)), some (.int (w : Int)), some (.ref r), none, none, none, none, none] S) (Fin Q) := by
  have e60 : (10 : Int) ^ 60 > 100 := by decide
  have e70 : (2 : Nat) ^ 70 > 100 := by decide
  have hhw : h * w ≤ 12 * 12 := Nat.mul_le_mul hh hw
  have l7 : (0 + 1 + 1 + 1 + 1 + 1 + 1 + 1 ≤ sl) = True := eq_true (by decide)
  have l7' : (1 + 1 + 1 + 1 + 1 + 1 + 1 ≤ sl) = True := eq_true (by decide)
  unfold tq_2
  simp only [List.map_cons, List.map_nil, List.length_cons, List.length_nil, List.cons_append, List.nil_append, List.replicate, List.getElem?_cons_zero, List.getElem?_cons_succ, List.set_cons_succ, List.set_cons_zero, WP_bind, WP_ok, WP_cut, q_var, q_c, q_bin, q_un, q_ofO, q_chain, q_tst, q_tstB, q_and2, q_or2, q_not1, q_andV, q_orV, q_notV, q_if, q_nil, q_cons, q_tup, q_lst, q_next, q_seq, q_expr, q_ret, q_retN, q_brk, q_cnt, q_sif, q_gnm, q_gtup, q_gcons, q_gnil, q_asg, q_call, q_callB, q_seqi, q_for, q_while, o_add, o_addI, o_sub, o_lt, o_le, o_gt, o_ge, o_neg, o_ixR, o_ixT, o_ixF, itemsT, itemsF, seqT, seqF, q_b1, q_b2, f_intI, f_intB, f_abs, f_max, f_min, f_lenT, f_lenF, f_list, f_tuple, q_gsb, ofB_bl, q_sl, q_pno, q_pat, q_lrg, q_meth, q_fld, q_rng1, Option.bind_some, Option.map_some, ofS_some, if_true, if_false, Bool.false_eq_true, decide_true, decide_false, ix0, ix1, ix2, wipe_nil, wipe_cons, q_yes, q_rng2, l7, l7']
  refine wp_for 7 (fun j env S' => ∃ a4, env = [some (.ref i), some (.int (h : Int)), some (.int (w : Int)), some (.ref r), a4, none, none, none, none] ∧ Sub S S') (by omega) ⟨none, rfl, Sub.refl _⟩ (fun j env S1 hj ⟨a4, he, s1⟩ => ?_) fun env S1 ⟨a4, he, s1⟩ => ⟨rfl, ?_⟩
  · subst he
    obtain ⟨x, hx, ex⟩ : ∃ x ∈ nums, jT [D.int 0, D.int 1, D.int 2, D.int 3, D.int 4, D.int 10, D.int (-1)] j S1 = some (some (.int x)) := by
      have hj' : j < (nums.map D.int).length := hj
      refine ⟨nums[j]'(by simpa using hj'), List.getElem_mem _, ?_⟩
      show some (nums.map D.int)[j]? = _
      rw [List.getElem?_map, List.getElem?_eq_getElem (by simpa using hj')]; rfl
    refine ⟨_, ex, ?_⟩
    have hx' : -1 ≤ x ∧ x ≤ 10 := by
      have : x = 0 ∨ x = 1 ∨ x = 2 ∨ x = 3 ∨ x = 4 ∨ x = 10 ∨ x = -1 := by simpa [nums] using hx
      omega
    have mo : mulOk (h : Int) (w : Int) = true := mulW (a := 20) (b := 20) (by omega) (by omega) (by decide)
    simp only [List.map_cons, List.map_nil, List.length_cons, List.length_nil, List.cons_append, List.nil_append, List.replicate, List.getElem?_cons_zero, List.getElem?_cons_succ, List.set_cons_succ, List.set_cons_zero, WP_bind, WP_ok, WP_cut, q_var, q_c, q_bin, q_un, q_ofO, q_chain, q_tst, q_tstB, q_and2, q_or2, q_not1, q_andV, q_orV, q_notV, q_if, q_nil, q_cons, q_tup, q_lst, q_next, q_seq, q_expr, q_ret, q_retN, q_brk, q_cnt, q_sif, q_gnm, q_gtup, q_gcons, q_gnil, q_asg, q_call, q_callB, q_seqi, q_for, q_while, o_add, o_addI, o_sub, o_lt, o_le, o_gt, o_ge, o_neg, o_ixR, o_ixT, o_ixF, itemsT, itemsF, seqT, seqF, q_b1, q_b2, f_intI, f_intB, f_abs, f_max, f_min, f_lenT, f_lenF, f_list, f_tuple, q_gsb, ofB_bl, q_sl, q_pno, q_pat, q_lrg, q_meth, q_fld, q_rng1, Option.bind_some, Option.map_some, ofS_some, if_true, if_false, Bool.false_eq_true, decide_true, decide_false, ix0, ix1, ix2, wipe_nil, wipe_cons, q_yes, q_rng2]
    refine wp_ints ((List.range 13).map (TR h w)) xs (fun _ => true) (fun l => ev x l) (by simp) rl.1 ?_ (fun k l d S2 ha hd s2 => ?_) fun S2 s2 => ?_
    · simp only [List.map_cons, List.map_nil, List.length_cons, List.length_nil, List.cons_append, List.nil_append, List.replicate, List.getElem?_cons_zero, List.getElem?_cons_succ, List.set_cons_succ, List.set_cons_zero, WP_bind, WP_ok, WP_cut, q_var, q_c, q_bin, q_un, q_ofO, q_chain, q_tst, q_tstB, q_and2, q_or2, q_not1, q_andV, q_orV, q_notV, q_if, q_nil, q_cons, q_tup, q_lst, q_next, q_seq, q_expr, q_ret, q_retN, q_brk, q_cnt, q_sif, q_gnm, q_gtup, q_gcons, q_gnil, q_asg, q_call, q_callB, q_seqi, q_for, q_while, o_add, o_addI, o_sub, o_lt, o_le, o_gt, o_ge, o_neg, o_ixR, o_ixT, o_ixF, itemsT, itemsF, seqT, seqF, q_b1, q_b2, f_intI, f_intB, f_abs, f_max, f_min, f_lenT, f_lenF, f_list, f_tuple, q_gsb, ofB_bl, q_sl, q_pno, q_pat, q_lrg, q_meth, q_fld, q_rng1, Option.bind_some, Option.map_some, ofS_some, if_true, if_false, Bool.false_eq_true, decide_true, decide_false, ix0, ix1, ix2, wipe_nil, wipe_cons, q_yes, q_rng2, seqR (s1 _ _ hp)]
      exact ⟨Sub.refl _, fun k S2 _ s2 => jL_at (s2 _ _ (s1 _ _ hp))⟩
    · have hk13 : k < 13 := by have := (List.getElem?_eq_some_iff.mp ha).1; simpa using this
      obtain ⟨q, rfl, o⟩ := (rl.2 k d l hd ha).mono (s1.trans s2)
      rw [List.getElem?_map, List.getElem?_range hk13] at ha
      cases ha
      simp only [List.map_cons, List.map_nil, List.length_cons, List.length_nil, List.cons_append, List.nil_append, List.replicate, List.getElem?_cons_zero, List.getElem?_cons_succ, List.set_cons_succ, List.set_cons_zero, WP_bind, WP_ok, WP_cut, q_var, q_c, q_bin, q_un, q_ofO, q_chain, q_tst, q_tstB, q_and2, q_or2, q_not1, q_andV, q_orV, q_notV, q_if, q_nil, q_cons, q_tup, q_lst, q_next, q_seq, q_expr, q_ret, q_retN, q_brk, q_cnt, q_sif, q_gnm, q_gtup, q_gcons, q_gnil, q_asg, q_call, q_callB, q_seqi, q_for, q_while, o_add, o_addI, o_sub, o_lt, o_le, o_gt, o_ge, o_neg, o_ixR, o_ixT, o_ixF, itemsT, itemsF, seqT, seqF, q_b1, q_b2, f_intI, f_intB, f_abs, f_max, f_min, f_lenT, f_lenF, f_list, f_tuple, q_gsb, ofB_bl, q_sl, q_pno, q_pat, q_lrg, q_meth, q_fld, q_rng1, Option.bind_some, Option.map_some, ofS_some, if_true, if_false, Bool.false_eq_true, decide_true, decide_false, ix0, ix1, ix2, wipe_nil, wipe_cons, q_yes, q_rng2, q_mth, o.isC]
      refine ⟨trivial, Sub.refl _, fun _ => ?_⟩
      refine w_at o (by have := TR_len hh hw (show k ≤ 12 by omega); omega) ⟨by omega, by omega⟩ (by omega) ((TR_bn hh hw (by omega)).mono (Nat.pow_le_pow_right (by decide) (by decide))) fun S3 s3 => ⟨by rw [hv_ev], s3⟩
    · rw [filter_tt, List.map_map]
      simp only [List.map_cons, List.map_nil, List.length_cons, List.length_nil, List.cons_append, List.nil_append, List.replicate, List.getElem?_cons_zero, List.getElem?_cons_succ, List.set_cons_succ, List.set_cons_zero, WP_bind, WP_ok, WP_cut, q_var, q_c, q_bin, q_un, q_ofO, q_chain, q_tst, q_tstB, q_and2, q_or2, q_not1, q_andV, q_orV, q_notV, q_if, q_nil, q_cons, q_tup, q_lst, q_next, q_seq, q_expr, q_ret, q_retN, q_brk, q_cnt, q_sif, q_gnm, q_gtup, q_gcons, q_gnil, q_asg, q_call, q_callB, q_seqi, q_for, q_while, o_add, o_addI, o_sub, o_lt, o_le, o_gt, o_ge, o_neg, o_ixR, o_ixT, o_ixF, itemsT, itemsF, seqT, seqF, q_b1, q_b2, f_intI, f_intB, f_abs, f_max, f_min, f_lenT, f_lenF, f_list, f_tuple, q_gsb, ofB_bl, q_sl, q_pno, q_pat, q_lrg, q_meth, q_fld, q_rng1, Option.bind_some, Option.map_some, ofS_some, if_true, if_false, Bool.false_eq_true, decide_true, decide_false, ix0, ix1, ix2, wipe_nil, wipe_cons, q_yes, q_rng2, f_sumI push_at, o_mul mo, natMul]
      refine w_lpow (B := 4) (by omega) (by omega) (by omega) ?_
      have eS := TR_sum hh hw hx
      have e' : (List.map (ev x ∘ TR h w) (List.range 13)).sum = x ^ (h * w) := eS
      rw [e']
      have d1 : decide (x ^ (h * w) = x ^ (h * w)) = true := decide_eq_true rfl
      simp only [List.map_cons, List.map_nil, List.length_cons, List.length_nil, List.cons_append, List.nil_append, List.replicate, List.getElem?_cons_zero, List.getElem?_cons_succ, List.set_cons_succ, List.set_cons_zero, WP_bind, WP_ok, WP_cut, q_var, q_c, q_bin, q_un, q_ofO, q_chain, q_tst, q_tstB, q_and2, q_or2, q_not1, q_andV, q_orV, q_notV, q_if, q_nil, q_cons, q_tup, q_lst, q_next, q_seq, q_expr, q_ret, q_retN, q_brk, q_cnt, q_sif, q_gnm, q_gtup, q_gcons, q_gnil, q_asg, q_call, q_callB, q_seqi, q_for, q_while, o_add, o_addI, o_sub, o_lt, o_le, o_gt, o_ge, o_neg, o_ixR, o_ixT, o_ixF, itemsT, itemsF, seqT, seqF, q_b1, q_b2, f_intI, f_intB, f_abs, f_max, f_min, f_lenT, f_lenF, f_list, f_tuple, q_gsb, ofB_bl, q_sl, q_pno, q_pat, q_lrg, q_meth, q_fld, q_rng1, Option.bind_some, Option.map_some, ofS_some, if_true, if_false, Bool.false_eq_true, decide_true, decide_false, ix0, ix1, ix2, wipe_nil, wipe_cons, q_yes, q_rng2, o_neI, d1, Bool.not_true]
      exact ⟨_, rfl, (s1.trans s2).trans (Sub.push _ _)⟩
  · subst he
    exact wp_q3 hh hw (H.step s1) hm (s1 _ _ hp) (rl.imp fun d l h => h.mono s1) hQ
theorem w_sums (H : In S0 S i m) (hm : m ≤ 2 ^ 37) (hQ : ∀ S', In S0 S' i (m + 4) → Q (.bl true) S') : WP (f__law_sums_right [.ref i] S) Q := by
  unfold f__law_sums_right
  rw [mkFn_wp, split_sums]
  unfold n__law_sums_right
  simp only [List.map_cons, List.map_nil, List.length_cons, List.length_nil, List.cons_append, List.nil_append, List.replicate, List.getElem?_cons_zero, List.getElem?_cons_succ, List.set_cons_succ, List.set_cons_zero, WP_bind, WP_ok, WP_cut, q_var, q_c, q_bin, q_un, q_ofO, q_chain, q_tst, q_tstB, q_and2, q_or2, q_not1, q_andV, q_orV, q_notV, q_if, q_nil, q_cons, q_tup, q_lst, q_next, q_seq, q_expr, q_ret, q_retN, q_brk, q_cnt, q_sif, q_gnm, q_gtup, q_gcons, q_gnil, q_asg, q_call, q_callB, q_seqi, q_for, q_while, o_add, o_addI, o_sub, o_lt, o_le, o_gt, o_ge, o_neg, o_ixR, o_ixT, o_ixF, itemsT, itemsF, seqT, seqF, q_b1, q_b2, f_intI, f_intB, f_abs, f_max, f_min, f_lenT, f_lenF, f_list, f_tuple, q_gsb, ofB_bl, q_sl, q_pno, q_pat, q_lrg, q_meth, q_fld, q_rng1, Option.bind_some, Option.map_some, ofS_some, if_true, if_false, Bool.false_eq_true, decide_true, decide_false, ix0, ix1, ix2, wipe_nil, wipe_cons, q_yes, q_rng2]
  refine w_pull H.lot (by decide) (by decide) (by omega) fun v S1 v0 v1 L1 k1 l1 => ?_
  obtain ⟨h, rfl⟩ := Int.eq_ofNat_of_zero_le v0
  have H1 := H.kp L1 k1
  simp only [List.map_cons, List.map_nil, List.length_cons, List.length_nil, List.cons_append, List.nil_append, List.replicate, List.getElem?_cons_zero, List.getElem?_cons_succ, List.set_cons_succ, List.set_cons_zero, WP_bind, WP_ok, WP_cut, q_var, q_c, q_bin, q_un, q_ofO, q_chain, q_tst, q_tstB, q_and2, q_or2, q_not1, q_andV, q_orV, q_notV, q_if, q_nil, q_cons, q_tup, q_lst, q_next, q_seq, q_expr, q_ret, q_retN, q_brk, q_cnt, q_sif, q_gnm, q_gtup, q_gcons, q_gnil, q_asg, q_call, q_callB, q_seqi, q_for, q_while, o_add, o_addI, o_sub, o_lt, o_le, o_gt, o_ge, o_neg, o_ixR, o_ixT, o_ixF, itemsT, itemsF, seqT, seqF, q_b1, q_b2, f_intI, f_intB, f_abs, f_max, f_min, f_lenT, f_lenF, f_list, f_tuple, q_gsb, ofB_bl, q_sl, q_pno, q_pat, q_lrg, q_meth, q_fld, q_rng1, Option.bind_some, Option.map_some, ofS_some, if_true, if_false, Bool.false_eq_true, decide_true, decide_false, ix0, ix1, ix2, wipe_nil, wipe_cons, q_yes, q_rng2]
  refine w_pull H1.lot (by decide) (by decide) (by omega) fun v S2 v0' v1' L2 k2 l2 => ?_
  obtain ⟨w, rfl⟩ := Int.eq_ofNat_of_zero_le v0'
  have H2 := H1.kp L2 k2
  have hh : h ≤ 12 := by omega
  have hw : w ≤ 12 := by omega
  simp only [List.map_cons, List.map_nil, List.length_cons, List.length_nil, List.cons_append, List.nil_append, List.replicate, List.getElem?_cons_zero, List.getElem?_cons_succ, List.set_cons_succ, List.set_cons_zero, WP_bind, WP_ok, WP_cut, q_var, q_c, q_bin, q_un, q_ofO, q_chain, q_tst, q_tstB, q_and2, q_or2, q_not1, q_andV, q_orV, q_notV, q_if, q_nil, q_cons, q_tup, q_lst, q_next, q_seq, q_expr, q_ret, q_retN, q_brk, q_cnt, q_sif, q_gnm, q_gtup, q_gcons, q_gnil, q_asg, q_call, q_callB, q_seqi, q_for, q_while, o_add, o_addI, o_sub, o_lt, o_le, o_gt, o_ge, o_neg, o_ixR, o_ixT, o_ixF, itemsT, itemsF, seqT, seqF, q_b1, q_b2, f_intI, f_intB, f_abs, f_max, f_min, f_lenT, f_lenF, f_list, f_tuple, q_gsb, ofB_bl, q_sl, q_pno, q_pat, q_lrg, q_meth, q_fld, q_rng1, Option.bind_some, Option.map_some, ofS_some, if_true, if_false, Bool.false_eq_true, decide_true, decide_false, ix0, ix1, ix2, wipe_nil, wipe_cons, q_yes, q_rng2, z2, z2']
  unfold tq_1
  rw [q_seq, WP_bind, q_asg, WP_bind]
  refine w_polys (h := h) (w := w) hh hw (by decide) (by decide) rfl rfl (by simp) fun S3 ys s3 hy => ?_
  simp only [List.map_cons, List.map_nil, List.length_cons, List.length_nil, List.cons_append, List.nil_append, List.replicate, List.getElem?_cons_zero, List.getElem?_cons_succ, List.set_cons_succ, List.set_cons_zero, WP_bind, WP_ok, WP_cut, q_var, q_c, q_bin, q_un, q_ofO, q_chain, q_tst, q_tstB, q_and2, q_or2, q_not1, q_andV, q_orV, q_notV, q_if, q_nil, q_cons, q_tup, q_lst, q_next, q_seq, q_expr, q_ret, q_retN, q_brk, q_cnt, q_sif, q_gnm, q_gtup, q_gcons, q_gnil, q_asg, q_call, q_callB, q_seqi, q_for, q_while, o_add, o_addI, o_sub, o_lt, o_le, o_gt, o_ge, o_neg, o_ixR, o_ixT, o_ixF, itemsT, itemsF, seqT, seqF, q_b1, q_b2, f_intI, f_intB, f_abs, f_max, f_min, f_lenT, f_lenF, f_list, f_tuple, q_gsb, ofB_bl, q_sl, q_pno, q_pat, q_lrg, q_meth, q_fld, q_rng1, Option.bind_some, Option.map_some, ofS_some, if_true, if_false, Bool.false_eq_true, decide_true, decide_false, ix0, ix1, ix2, wipe_nil, wipe_cons, q_yes, q_rng2]
  exact wp_q2 hh hw (H2.step (s3.trans (Sub.push _ _))) (by omega) push_at (hy.imp fun d l h => h.mono (Sub.push _ _)) hQ
end
end Zk16

set_option exponentiation.threshold 3000
namespace Zk16
open PySem PySem.Spec Z
section
variable {S S' S0 : Store} {Q : D → Store → Prop}
theorem k6_ok : TR 2 2 1 = [-1, -1, 1, 1] ∧ TR 0 5 0 = [1] ∧ TR 2 3 3 = [] := by decide +kernel
theorem w_own {h w r : Nat} {l : List Int} {env : En} {S : Store} (hh : h ≤ 12) (hw : w ≤ 12) (hr : r ≤ 12) (he : TR h w r = l) (hl : l.length ≤ 4) (hb : ∀ x ∈ l, Sm x) (ht : tr l = l) {c : DA} (hc : ∀ S, c env S = .ok (iL l) S) (hQ : ∀ S', Sub S S' → Q (.bl true) S') :
    WP (dBin (oOwn 1 f_Poly___eq__) (dCall f_tables_of_rank (dCons (dC (.int (h : Int))) (dCons (dC (.int (w : Int))) (dCons (dC (.int (r : Int))) dNil)))) (dMk 1 f_Poly___init__ (dCons (dTup c) dNil)) env S) Q := by
  simp only [List.map_cons, List.map_nil, List.length_cons, List.length_nil, List.cons_append, List.nil_append, List.replicate, List.getElem?_cons_zero, List.getElem?_cons_succ, List.set_cons_succ, List.set_cons_zero, WP_bind, WP_ok, WP_cut, q_var, q_c, q_bin, q_un, q_ofO, q_chain, q_tst, q_tstB, q_and2, q_or2, q_not1, q_andV, q_orV, q_notV, q_if, q_nil, q_cons, q_tup, q_lst, q_next, q_seq, q_expr, q_ret, q_retN, q_brk, q_cnt, q_sif, q_gnm, q_gtup, q_gcons, q_gnil, q_asg, q_call, q_callB, q_seqi, q_for, q_while, o_add, o_addI, o_sub, o_lt, o_le, o_gt, o_ge, o_neg, o_ixR, o_ixT, o_ixF, itemsT, itemsF, seqT, seqF, q_b1, q_b2, f_intI, f_intB, f_abs, f_max, f_min, f_lenT, f_lenF, f_list, f_tuple, q_gsb, ofB_bl, q_sl, q_pno, q_pat, q_lrg, q_meth, q_fld, q_rng1, Option.bind_some, Option.map_some, ofS_some, if_true, if_false, Bool.false_eq_true, decide_true, decide_false, ix0, ix1, ix2, wipe_nil, wipe_cons, q_yes, q_rng2]
  refine w_tables hh hw hr fun q S1 s1 o1 => ?_
  rw [WP_bind]
  refine w_mkP (l := l) ?_ (by omega) fun q2 S2 s2 o2 => ?_
  · have e : (iL l).length ≤ sl := by rw [iL_len]; exact sl1000 (by omega)
    simp only [List.map_cons, List.map_nil, List.length_cons, List.length_nil, List.cons_append, List.nil_append, List.replicate, List.getElem?_cons_zero, List.getElem?_cons_succ, List.set_cons_succ, List.set_cons_zero, WP_bind, WP_ok, WP_cut, q_var, q_c, q_bin, q_un, q_ofO, q_chain, q_tst, q_tstB, q_and2, q_or2, q_not1, q_andV, q_orV, q_notV, q_if, q_nil, q_cons, q_tup, q_lst, q_next, q_seq, q_expr, q_ret, q_retN, q_brk, q_cnt, q_sif, q_gnm, q_gtup, q_gcons, q_gnil, q_asg, q_call, q_callB, q_seqi, q_for, q_while, o_add, o_addI, o_sub, o_lt, o_le, o_gt, o_ge, o_neg, o_ixR, o_ixT, o_ixF, itemsT, itemsF, seqT, seqF, q_b1, q_b2, f_intI, f_intB, f_abs, f_max, f_min, f_lenT, f_lenF, f_list, f_tuple, q_gsb, ofB_bl, q_sl, q_pno, q_pat, q_lrg, q_meth, q_fld, q_rng1, Option.bind_some, Option.map_some, ofS_some, if_true, if_false, Bool.false_eq_true, decide_true, decide_false, ix0, ix1, ix2, wipe_nil, wipe_cons, q_yes, q_rng2, hc, Res.bind_ok, e]
    refine ⟨_, rfl, Sub.refl _, fun S2 _ => ?_⟩
    have := tl_tup (S := S2) (l := l) (by omega) hb
    rwa [ht] at this
  · rw [he] at o1
    have e : oOwn 1 f_Poly___eq__ (.ref q) (.ref q2) S2 = some (.bl (decide (l = l)), S2) := o_eqP2 (f := fun b => b) (o1.sub s2) o2
    have d1 : decide (l = l) = true := decide_eq_true rfl
    rw [e, d1]
    simp only [List.map_cons, List.map_nil, List.length_cons, List.length_nil, List.cons_append, List.nil_append, List.replicate, List.getElem?_cons_zero, List.getElem?_cons_succ, List.set_cons_succ, List.set_cons_zero, WP_bind, WP_ok, WP_cut, q_var, q_c, q_bin, q_un, q_ofO, q_chain, q_tst, q_tstB, q_and2, q_or2, q_not1, q_andV, q_orV, q_notV, q_if, q_nil, q_cons, q_tup, q_lst, q_next, q_seq, q_expr, q_ret, q_retN, q_brk, q_cnt, q_sif, q_gnm, q_gtup, q_gcons, q_gnil, q_asg, q_call, q_callB, q_seqi, q_for, q_while, o_add, o_addI, o_sub, o_lt, o_le, o_gt, o_ge, o_neg, o_ixR, o_ixT, o_ixF, itemsT, itemsF, seqT, seqF, q_b1, q_b2, f_intI, f_intB, f_abs, f_max, f_min, f_lenT, f_lenF, f_list, f_tuple, q_gsb, ofB_bl, q_sl, q_pno, q_pat, q_lrg, q_meth, q_fld, q_rng1, Option.bind_some, Option.map_some, ofS_some, if_true, if_false, Bool.false_eq_true, decide_true, decide_false, ix0, ix1, ix2, wipe_nil, wipe_cons, q_yes, q_rng2]
    exact hQ _ (s1.trans s2)
end
theorem plain (ns : List Int) (hns : ns.length ≤ 63) : ∃ S, f_law [.fls (ns.map D.int)] [] = .ok (.bl true) S := by
  have w : WP (f_law [.fls (ns.map D.int)] []) fun d _ => d = .bl true := by
    unfold f_law
    rw [mkFn_wp]
    unfold b_law n_law
    simp only [List.map_cons, List.map_nil, List.length_cons, List.length_nil, List.cons_append, List.nil_append, List.replicate]
    rw [q_seq, WP_bind]
    have fin : ∀ a1 a2 S, WP ((sRet (dBin oEq (dLst (dCons (dBin (oOwn 1 f_Poly___eq__) (dCall f_tables_of_rank (dCons (dC (.int (2))) (dCons (dC (.int (2))) (dCons (dC (.int (1))) dNil)))) (dMk 1 f_Poly___init__ (dCons (dTup (dCons (dUn oNeg (dC (.int 1))) (dCons (dUn oNeg (dC (.int 1))) (dCons (dC (.int 1)) (dCons (dC (.int 1)) dNil))))) dNil))) (dCons (dBin (oOwn 1 f_Poly___eq__) (dCall f_tables_of_rank (dCons (dC (.int (0))) (dCons (dC (.int (5))) (dCons (dC (.int (0))) dNil)))) (dMk 1 f_Poly___init__ (dCons (dTup (dCons (dC (.int 1)) dNil)) dNil))) (dCons (dBin (oOwn 1 f_Poly___eq__) (dCall f_tables_of_rank (dCons (dC (.int (2))) (dCons (dC (.int (3))) (dCons (dC (.int (3))) dNil)))) (dMk 1 f_Poly___init__ (dCons (dTup dNil) dNil))) dNil)))) (dLst (dCons (dC (.bl true)) (dCons (dC (.bl true)) (dCons (dC (.bl true)) dNil)))))) [some (.fls (ns.map D.int)), a1, a2] S) fun f S1 => f = .rt (.bl true) := fun a1 a2 S => by
      obtain ⟨t1, t2, t3⟩ := k6_ok
      have e60 : (10 : Int) ^ 60 > 100 := by decide
      have sm : ∀ x : Int, -100 ≤ x → x ≤ 100 → Sm x := fun x h1 h2 => ⟨by omega, by omega⟩
      rw [q_ret, WP_bind, q_bin, WP_bind, q_lst, WP_bind, q_cons, WP_bind]
      refine w_own (h := 2) (w := 2) (r := 1) (by decide) (by decide) (by decide) t1 (by decide) (fun x hx => by
        have : x = -1 ∨ x = -1 ∨ x = 1 ∨ x = 1 := by simpa using hx
        exact sm x (by omega) (by omega)) (by decide) (fun S => rfl) fun S1 s1 => ?_
      rw [WP_bind, q_cons, WP_bind]
      refine w_own (h := 0) (w := 5) (r := 0) (by decide) (by decide) (by decide) t2 (by decide) (fun x hx => by
        have : x = 1 := by simpa using hx
        exact sm x (by omega) (by omega)) (by decide) (fun S => rfl) fun S2 s2 => ?_
      rw [WP_bind, q_cons, WP_bind]
      refine w_own (h := 2) (w := 3) (r := 3) (by decide) (by decide) (by decide) t3 (by decide) (fun x hx => nomatch hx) (by decide) (fun S => rfl) fun S3 s3 => ?_
      have py : ∀ {S : Store} {r : Nat}, S[r]? = some (.lst [.bl true, .bl true, .bl true]) → toPy S 60 (.ref r) = some (.list [.bool true, .bool true, .bool true]) := fun h => by simp only [toPy, h, List.map_cons, List.map_nil, seqO, Option.map_some]
      simp only [List.map_cons, List.map_nil, List.length_cons, List.length_nil, List.cons_append, List.nil_append, List.replicate, List.getElem?_cons_zero, List.getElem?_cons_succ, List.set_cons_succ, List.set_cons_zero, WP_bind, WP_ok, WP_cut, q_var, q_c, q_bin, q_un, q_ofO, q_chain, q_tst, q_tstB, q_and2, q_or2, q_not1, q_andV, q_orV, q_notV, q_if, q_nil, q_cons, q_tup, q_lst, q_next, q_seq, q_expr, q_ret, q_retN, q_brk, q_cnt, q_sif, q_gnm, q_gtup, q_gcons, q_gnil, q_asg, q_call, q_callB, q_seqi, q_for, q_while, o_add, o_addI, o_sub, o_lt, o_le, o_gt, o_ge, o_neg, o_ixR, o_ixT, o_ixF, itemsT, itemsF, seqT, seqF, q_b1, q_b2, f_intI, f_intB, f_abs, f_max, f_min, f_lenT, f_lenF, f_list, f_tuple, q_gsb, ofB_bl, q_sl, q_pno, q_pat, q_lrg, q_meth, q_fld, q_rng1, Option.bind_some, Option.map_some, ofS_some, if_true, if_false, Bool.false_eq_true, decide_true, decide_false, ix0, ix1, ix2, wipe_nil, wipe_cons, q_yes, q_rng2, mkL, z3, z3']
      rw [o_eqS (py (Sub.push _ _ _ _ push_at)) (py push_at)]
      simp only [List.map_cons, List.map_nil, List.length_cons, List.length_nil, List.cons_append, List.nil_append, List.replicate, List.getElem?_cons_zero, List.getElem?_cons_succ, List.set_cons_succ, List.set_cons_zero, WP_bind, WP_ok, WP_cut, q_var, q_c, q_bin, q_un, q_ofO, q_chain, q_tst, q_tstB, q_and2, q_or2, q_not1, q_andV, q_orV, q_notV, q_if, q_nil, q_cons, q_tup, q_lst, q_next, q_seq, q_expr, q_ret, q_retN, q_brk, q_cnt, q_sif, q_gnm, q_gtup, q_gcons, q_gnil, q_asg, q_call, q_callB, q_seqi, q_for, q_while, o_add, o_addI, o_sub, o_lt, o_le, o_gt, o_ge, o_neg, o_ixR, o_ixT, o_ixF, itemsT, itemsF, seqT, seqF, q_b1, q_b2, f_intI, f_intB, f_abs, f_max, f_min, f_lenT, f_lenF, f_list, f_tuple, q_gsb, ofB_bl, q_sl, q_pno, q_pat, q_lrg, q_meth, q_fld, q_rng1, Option.bind_some, Option.map_some, ofS_some, if_true, if_false, Bool.false_eq_true, decide_true, decide_false, ix0, ix1, ix2, wipe_nil, wipe_cons, q_yes, q_rng2]
    simp only [List.map_cons, List.map_nil, List.length_cons, List.length_nil, List.cons_append, List.nil_append, List.replicate, List.getElem?_cons_zero, List.getElem?_cons_succ, List.set_cons_succ, List.set_cons_zero, WP_bind, WP_ok, WP_cut, q_var, q_c, q_bin, q_un, q_ofO, q_chain, q_tst, q_tstB, q_and2, q_or2, q_not1, q_andV, q_orV, q_notV, q_if, q_nil, q_cons, q_tup, q_lst, q_next, q_seq, q_expr, q_ret, q_retN, q_brk, q_cnt, q_sif, q_gnm, q_gtup, q_gcons, q_gnil, q_asg, q_call, q_callB, q_seqi, q_for, q_while, o_add, o_addI, o_sub, o_lt, o_le, o_gt, o_ge, o_neg, o_ixR, o_ixT, o_ixF, itemsT, itemsF, seqT, seqF, q_b1, q_b2, f_intI, f_intB, f_abs, f_max, f_min, f_lenT, f_lenF, f_list, f_tuple, q_gsb, ofB_bl, q_sl, q_pno, q_pat, q_lrg, q_meth, q_fld, q_rng1, Option.bind_some, Option.map_some, ofS_some, if_true, if_false, Bool.false_eq_true, decide_true, decide_false, ix0, ix1, ix2, wipe_nil, wipe_cons, q_yes, q_rng2]
    rw [if_pos (by split <;> split <;> omega)]
    simp only [List.map_cons, List.map_nil, List.length_cons, List.length_nil, List.cons_append, List.nil_append, List.replicate, List.getElem?_cons_zero, List.getElem?_cons_succ, List.set_cons_succ, List.set_cons_zero, WP_bind, WP_ok, WP_cut, q_var, q_c, q_bin, q_un, q_ofO, q_chain, q_tst, q_tstB, q_and2, q_or2, q_not1, q_andV, q_orV, q_notV, q_if, q_nil, q_cons, q_tup, q_lst, q_next, q_seq, q_expr, q_ret, q_retN, q_brk, q_cnt, q_sif, q_gnm, q_gtup, q_gcons, q_gnil, q_asg, q_call, q_callB, q_seqi, q_for, q_while, o_add, o_addI, o_sub, o_lt, o_le, o_gt, o_ge, o_neg, o_ixR, o_ixT, o_ixF, itemsT, itemsF, seqT, seqF, q_b1, q_b2, f_intI, f_intB, f_abs, f_max, f_min, f_lenT, f_lenF, f_list, f_tuple, q_gsb, ofB_bl, q_sl, q_pno, q_pat, q_lrg, q_meth, q_fld, q_rng1, Option.bind_some, Option.map_some, ofS_some, if_true, if_false, Bool.false_eq_true, decide_true, decide_false, ix0, ix1, ix2, wipe_nil, wipe_cons, q_yes, q_rng2]
    have c4 : ∃ c : Nat, (if (if (((ns.map D.int).length : Nat) : Int) < 3 then (((ns.map D.int).length : Nat) : Int) else 3) > 1 then (if (((ns.map D.int).length : Nat) : Int) < 3 then (((ns.map D.int).length : Nat) : Int) else 3) else 1).toNat = c ∧ c ≤ 3 := ⟨_, rfl, by split <;> split <;> omega⟩
    obtain ⟨c, ec, hc⟩ := c4
    rw [ec]
    refine wp_for c (fun k env S' => ∃ x1 x2, env = [some (.fls (ns.map D.int)), x1, x2]) (by omega) ⟨none, none, rfl⟩ (fun k env S1 hk ⟨x1, x2, he⟩ => ⟨_, jR_at hk, ?_⟩) fun env S1 ⟨x1, x2, he⟩ => ⟨jR_end, ?_⟩
    · rw [he]
      simp only [List.map_cons, List.map_nil, List.length_cons, List.length_nil, List.cons_append, List.nil_append, List.replicate, List.getElem?_cons_zero, List.getElem?_cons_succ, List.set_cons_succ, List.set_cons_zero, WP_bind, WP_ok, WP_cut, q_var, q_c, q_bin, q_un, q_ofO, q_chain, q_tst, q_tstB, q_and2, q_or2, q_not1, q_andV, q_orV, q_notV, q_if, q_nil, q_cons, q_tup, q_lst, q_next, q_seq, q_expr, q_ret, q_retN, q_brk, q_cnt, q_sif, q_gnm, q_gtup, q_gcons, q_gnil, q_asg, q_call, q_callB, q_seqi, q_for, q_while, o_add, o_addI, o_sub, o_lt, o_le, o_gt, o_ge, o_neg, o_ixR, o_ixT, o_ixF, itemsT, itemsF, seqT, seqF, q_b1, q_b2, f_intI, f_intB, f_abs, f_max, f_min, f_lenT, f_lenF, f_list, f_tuple, q_gsb, ofB_bl, q_sl, q_pno, q_pat, q_lrg, q_meth, q_fld, q_rng1, Option.bind_some, Option.map_some, ofS_some, if_true, if_false, Bool.false_eq_true, decide_true, decide_false, ix0, ix1, ix2, wipe_nil, wipe_cons, q_yes, q_rng2]
      refine w_lot' (by omega) fun r S2 L2 k2 => ?_
      have H2 : In S1 S2 r 0 := ⟨L2, k2.1, k2.2⟩
      simp only [List.map_cons, List.map_nil, List.length_cons, List.length_nil, List.cons_append, List.nil_append, List.replicate, List.getElem?_cons_zero, List.getElem?_cons_succ, List.set_cons_succ, List.set_cons_zero, WP_bind, WP_ok, WP_cut, q_var, q_c, q_bin, q_un, q_ofO, q_chain, q_tst, q_tstB, q_and2, q_or2, q_not1, q_andV, q_orV, q_notV, q_if, q_nil, q_cons, q_tup, q_lst, q_next, q_seq, q_expr, q_ret, q_retN, q_brk, q_cnt, q_sif, q_gnm, q_gtup, q_gcons, q_gnil, q_asg, q_call, q_callB, q_seqi, q_for, q_while, o_add, o_addI, o_sub, o_lt, o_le, o_gt, o_ge, o_neg, o_ixR, o_ixT, o_ixF, itemsT, itemsF, seqT, seqF, q_b1, q_b2, f_intI, f_intB, f_abs, f_max, f_min, f_lenT, f_lenF, f_list, f_tuple, q_gsb, ofB_bl, q_sl, q_pno, q_pat, q_lrg, q_meth, q_fld, q_rng1, Option.bind_some, Option.map_some, ofS_some, if_true, if_false, Bool.false_eq_true, decide_true, decide_false, ix0, ix1, ix2, wipe_nil, wipe_cons, q_yes, q_rng2]
      refine w_small H2 (by decide) fun S3 H3 => ?_
      simp only [List.map_cons, List.map_nil, List.length_cons, List.length_nil, List.cons_append, List.nil_append, List.replicate, List.getElem?_cons_zero, List.getElem?_cons_succ, List.set_cons_succ, List.set_cons_zero, WP_bind, WP_ok, WP_cut, q_var, q_c, q_bin, q_un, q_ofO, q_chain, q_tst, q_tstB, q_and2, q_or2, q_not1, q_andV, q_orV, q_notV, q_if, q_nil, q_cons, q_tup, q_lst, q_next, q_seq, q_expr, q_ret, q_retN, q_brk, q_cnt, q_sif, q_gnm, q_gtup, q_gcons, q_gnil, q_asg, q_call, q_callB, q_seqi, q_for, q_while, o_add, o_addI, o_sub, o_lt, o_le, o_gt, o_ge, o_neg, o_ixR, o_ixT, o_ixF, itemsT, itemsF, seqT, seqF, q_b1, q_b2, f_intI, f_intB, f_abs, f_max, f_min, f_lenT, f_lenF, f_list, f_tuple, q_gsb, ofB_bl, q_sl, q_pno, q_pat, q_lrg, q_meth, q_fld, q_rng1, Option.bind_some, Option.map_some, ofS_some, if_true, if_false, Bool.false_eq_true, decide_true, decide_false, ix0, ix1, ix2, wipe_nil, wipe_cons, q_yes, q_rng2, Bool.not_true]
      refine w_sums H3 (by decide) fun S4 H4 => ?_
      simp only [List.map_cons, List.map_nil, List.length_cons, List.length_nil, List.cons_append, List.nil_append, List.replicate, List.getElem?_cons_zero, List.getElem?_cons_succ, List.set_cons_succ, List.set_cons_zero, WP_bind, WP_ok, WP_cut, q_var, q_c, q_bin, q_un, q_ofO, q_chain, q_tst, q_tstB, q_and2, q_or2, q_not1, q_andV, q_orV, q_notV, q_if, q_nil, q_cons, q_tup, q_lst, q_next, q_seq, q_expr, q_ret, q_retN, q_brk, q_cnt, q_sif, q_gnm, q_gtup, q_gcons, q_gnil, q_asg, q_call, q_callB, q_seqi, q_for, q_while, o_add, o_addI, o_sub, o_lt, o_le, o_gt, o_ge, o_neg, o_ixR, o_ixT, o_ixF, itemsT, itemsF, seqT, seqF, q_b1, q_b2, f_intI, f_intB, f_abs, f_max, f_min, f_lenT, f_lenF, f_list, f_tuple, q_gsb, ofB_bl, q_sl, q_pno, q_pat, q_lrg, q_meth, q_fld, q_rng1, Option.bind_some, Option.map_some, ofS_some, if_true, if_false, Bool.false_eq_true, decide_true, decide_false, ix0, ix1, ix2, wipe_nil, wipe_cons, q_yes, q_rng2, Bool.not_true]
      exact ⟨_, _, rfl⟩
    · rw [he]
      refine WP_mono (fin _ _ _) fun f S2 hf => ?_
      rw [hf]
      exact WP_ok.mpr rfl
  obtain ⟨d, S, e, rfl⟩ := w
  exact ⟨S, e⟩
end Zk16

namespace Zk16
open PySem PySem.Spec PyProof.Rows L2 He Z
theorem run (w : World) : HandSHeadRun.RunEqI R (PySem.W.view R.prog [0, 56]) hk ob 20000 names w := by
  unfold HandSHeadRun.RunEqI; kernel_rfl
end Zk16
open PySem PySem.W PySem.Calls PyProof.Rows
theorem PySem.Challenge.cw_arrowsizes_k16_whole_numbers_of_tables_o_holds : PySem.Challenge.rw_arrowsizes_k16_whole_numbers_of_tables_o.Holds := by
  w_on; o_law
  refine HandSHeadRun.head_imp (r := OpenLaw.row PySem.Challenge.rw_arrowsizes_k16_whole_numbers_of_tables_o) (q := view (OpenLaw.row PySem.Challenge.rw_arrowsizes_k16_whole_numbers_of_tables_o).prog [0, 56]) (H := Zk16.hk) (ob := Zk16.ob) (M := 20000) (loose := Zk16.names) (d := HandSHeadRun.topDef (OpenLaw.row PySem.Challenge.rw_arrowsizes_k16_whole_numbers_of_tables_o).prog 56) (kwd := []) Zk16.ob_eq
    Zk16.run (by kernel_rfl) (by kernel_rfl) (by kernel_rfl) (by rfl) (by first | assumption | decide +kernel) (by decide +kernel) ⟨rfl, rfl, rfl, rfl, rfl, by decide +kernel⟩ ?hw ?hc
  case hw => w_witness2
  case hc =>
    refine Z.walk_Z (l := PySem.Challenge.rw_arrowsizes_k16_whole_numbers_of_tables_o) (n := 63) (k := 10) (x := "_law_script") (CX := fun w => L2.CX PySem.Challenge.pw_arrowsizes_k16_whole_numbers_of_tables_o w) rfl (by decide) (by kernel_rfl) ⟨rfl, by decide, by decide⟩ ?F (fun _ _ _ _ _ z => Z.cx_none z)
    intro w mg fa h Y G hmg0
    obtain ⟨K, KX, c⟩ := Y
    have hmg : mg ("law" : PySem.Str) = some (.ref fa) := by
      have e : (HandSHeadRun.topDef (OpenLaw.row PySem.Challenge.rw_arrowsizes_k16_whole_numbers_of_tables_o).prog 56).name = ("law" : PySem.Str) := by kernel_rfl
      rw [← e]
      exact hmg0
    exact Zk16.facts (P := PySem.Challenge.pw_arrowsizes_k16_whole_numbers_of_tables_o) Zk16.plain KX G hmg c
